import PyProof.Rows.All
import Wide.All
import OpenK.AllK
import Wide.FinOn
import PyProof.StrOps2
import KE.KDictKeyed
import KE.KDictWalk
import KE.KDictCopyH
import HandS.Base
import HandS.Call
import HandS.List
import HandS.Comp
import HandS.Ends
import HandS.Dict
import HandS.Iter
import HandS.Text
import HandS.Exc
import HandS.ExcOwn
import HandS.TryOnly
import HandS.Words
import HandS.WordsList
import HandS.WordsExc
import HandS.Evl
import HandS.IsInst
import HandS.TupAny
import HandS.SetFor
import HandS.Defaults
import HandS.Walk
import HandS.ExcIs
import HandS.More
import HandS.Head0
import HandS.Head1
import HandS.Head2
import HandS.HeadEnd
import HandS.HeadHook1
import HandS.HeadHook2
import PySem.Challenge.RW_lietable_k01_paths
set_option Elab.async false
set_option linter.all false
set_option maxRecDepth 100000
set_option maxHeartbeats 4000000
/-! LTa: the names of the readings that the printed texts use; rules of one's own for values. -/
namespace LT
open PySem PySem.Spec PyProof.Rows L2

structure G3 where
  P : Program
  w : World
  K : PySem.W.Frag

/-! ### readings by name -/
abbrev oAdd : R2 := rI0 fun i j => .int (i + j)
abbrev oSub : R2 := rI0 fun i j => .int (i - j)
abbrev oMul : R2 := rI CMul fun i j => .int (i * j)
abbrev oDiv : R2 := rI CDiv fun i j => .int (i / j)
abbrev oMod : R2 := rI (fun _ j => 0 < j) fun i j => .int (i % j)
abbrev oPow : R2 := rI CPow fun i j => .int (i ^ j.toNat)
abbrev oNeg : V → Hp → VK → Prop := rU fun i => .int (-i)
abbrev oLt : R2 := rI0 fun i j => .bl (decide (i < j))
abbrev oLe : R2 := rI0 fun i j => .bl (decide (i ≤ j))
abbrev oGt : R2 := rI0 fun i j => .bl (decide (j < i))
abbrev oGe : R2 := rI0 fun i j => .bl (decide (j ≤ i))
abbrev oIsN : R2 := fun x y H Q => y = .non ∧ Q (.bl (decide (x = .non))) H
abbrev oNotN : R2 := fun x y H Q => y = .non ∧ Q (.bl (!decide (x = .non))) H
abbrev oInS : R2 := fun x y H Q => ∃ (c : Nat) (z : Str), x = .str ⟨#[c]⟩ ∧ y = .str z ∧ Q (.bl (decide (c ∈ z.cps.toList))) H
abbrev oNinS : R2 := fun x y H Q => ∃ (c : Nat) (z : Str), x = .str ⟨#[c]⟩ ∧ y = .str z ∧ Q (.bl (!decide (c ∈ z.cps.toList))) H
abbrev oCatS : R2 := fun x y H Q => ∃ i j, x = .str i ∧ y = .str j ∧ i.length + j.length ≤ sizeLine ∧ Q (.str (i ++ j)) H
abbrev oLen (K : PySem.W.Frag) : List V → Hp → VK → Prop := fun xs H Q => ∃ p ys, xs = [.ref p] ∧ (SqL K H p ys ∨ SqT K H p ys) ∧ Q (.int ys.length) H
abbrev oLenS : List V → Hp → VK → Prop := fun xs H Q => ∃ z, xs = [.str z] ∧ z.length ≤ sizeLine ∧ Q (.int z.length) H
abbrev oList (K : PySem.W.Frag) : List V → Hp → VK → Prop := fun xs H Q => ∃ p ys, xs = [.ref p] ∧ (SqL K H p ys ∨ SqT K H p ys) ∧ ∀ l, H l = none → Q (.ref l) (upd H l (.lst ys))
abbrev oTuple (K : PySem.W.Frag) : List V → Hp → VK → Prop := fun xs H Q => ∃ p ys, xs = [.ref p] ∧ ((SqL K H p ys ∧ ∀ l, H l = none → Q (.ref l) (upd H l (.tup ys))) ∨ (SqT K H p ys ∧ Q (.ref p) H))
abbrev oMin2 : List V → Hp → VK → Prop := fun xs H Q => ∃ i j, xs = [.int i, .int j] ∧ Q (.int (if j < i then j else i)) H
abbrev oMax2 : List V → Hp → VK → Prop := fun xs H Q => ∃ i j, xs = [.int i, .int j] ∧ Q (.int (if j > i then j else i)) H
abbrev oSlSeq (K : PySem.W.Frag) : V → Option Int → Option Int → Hp → VK → Prop := fun x lo hi H Q => rSlL K x lo hi H Q ∨ rSlA K x lo hi H Q
/-- raise C(..), C at the address C -/
abbrev tRaise (C : Addr) (E : XK) : TS := fun _ _ H => E (.ref C) none H

section
variable {X : Cx}
/-! ### a text, some times over -/
def repS (x : Str) (n : Nat) : Str := ⟨(List.replicate n x.cps).foldl (· ++ ·) #[]⟩
theorem foldl_cat (l : List (Array Nat)) : ∀ a : Array Nat, (l.foldl (· ++ ·) a).toList = a.toList ++ (l.map Array.toList).flatten := by
  induction l with
  | nil => intro a; simp
  | cons b l ih => intro a; rw [List.foldl_cons, ih]; simp
theorem repS_list (x : Str) (n : Nat) : (repS x n).cps.toList = (List.replicate n x.cps.toList).flatten := by
  unfold repS
  rw [foldl_cat]
  simp
theorem Str.len_eq (x : Str) : x.length = x.cps.toList.length := by simp [Str.length]
theorem repS_len (x : Str) (n : Nat) : (repS x n).length = n * x.length := by
  rw [Str.len_eq, repS_list, Str.len_eq]
  simp
/-- s * n, short -/
abbrev oMulS : R2 := fun x y H Q => ∃ z n, x = .str z ∧ y = .int n ∧ z.length ≤ 1000 ∧ -1000 ≤ n ∧ n ≤ 1000 ∧ Q (.str (repS z n.toNat)) H
theorem op_mul_str : OpR X (binaryOp .Mult) oMulS := by
  intro pins s σ H x y v u Q I rx ry h
  obtain ⟨z, n, rfl, rfl, hz, h1, h2, q⟩ := h
  obtain ⟨t, rfl⟩ := rx
  obtain ⟨t', rfl⟩ := ry
  refine PySem.P.mul_str ?_ ?_ ?_ ?_
  · rw [decide_eq_false (by omega), decide_eq_false (by omega)]; rfl
  · intro hn _
    have e : (2 ^ 63 - 1 : Int) / n ≥ (2 ^ 63 - 1) / 1000 := by
      have hp : 0 < n := by omega
      refine Int.le_ediv_of_mul_le hp ?_
      have : ((2 ^ 63 - 1 : Int) / 1000) * n ≤ ((2 ^ 63 - 1 : Int) / 1000) * 1000 := Int.mul_le_mul_of_nonneg_left h2 (by decide)
      omega
    have e2 : ((2 ^ 63 - 1 : Int) / 1000) > 1000 := by decide
    omega
  · intro hn _
    have hm : z.length * n.toNat ≤ 1000 * 1000 := Nat.mul_le_mul hz (by omega)
    unfold Builtin.Str.tooLong
    exact decide_eq_false (by
      have := sizeLine_eq
      omega)
  · by_cases c : n < 1
    · rw [if_pos c]
      refine ⟨by decide, ?_⟩
      have e : n.toNat = 0 := by omega
      rw [e] at q
      exact ⟨.str (repS z 0), H, I.tok _, ⟨s.toks, rfl⟩, q⟩
    · rw [if_neg c]
      by_cases c2 : (n == 1 || z.length == 0) = true
      · rw [if_pos c2]
        refine ⟨.str (repS z n.toNat), H, I, ⟨t, ?_⟩, q⟩
        have e : repS z n.toNat = z := by
          have e2 : (repS z n.toNat).cps = z.cps := by
            apply Array.toList_inj.mp
            rw [repS_list]
            rcases Bool.or_eq_true_iff.mp c2 with h | h
            · have : n.toNat = 1 := by have := eq_of_beq h; omega
              rw [this]; simp
            · have hz : z.cps.toList = [] := by
                have := eq_of_beq h
                rw [Str.len_eq] at this
                exact List.length_eq_zero_iff.mp this
              rw [hz]; simp
          cases z; cases h : repS _ _; rw [h] at e2; simp at e2; rw [e2]
        rw [e]
      · rw [if_neg c2]
        refine ⟨?_, ⟨.str (repS z n.toNat), H, I.tok _, ⟨s.toks, rfl⟩, q⟩⟩
        show (repS z n.toNat).length ≤ sizeLine
        rw [repS_len]
        have hm : n.toNat * z.length ≤ 1000 * 1000 := Nat.mul_le_mul (by omega) hz
        have := sizeLine_eq
        omega

/-! ### xs.count(v), flat values -/
theorem countP_eqU {x : V} : ∀ {xs : List V} {us : List Value}, Vals xs us → xs.all flatV = true → us.countP (eqU x) = xs.countP fun y => eqV y x
  | _, _, .nil, _ => rfl
  | y :: xs, u :: us, .cons r t, f => by
    rw [List.all_cons, Bool.and_eq_true] at f
    rw [List.countP_cons, List.countP_cons, eqU_of r f.1, countP_eqU t f.2]
abbrev oCount (K : PySem.W.Frag) : V → List V → Hp → VK → Prop := fun x xs H Q => ∃ p ys k, x = .ref p ∧ xs = [k] ∧ SqL K H p ys ∧ flatV k = true ∧ ys.all flatV = true ∧ Q (.int ((ys.countP fun y => eqV y k : Nat) : Int)) H
theorem mt_countV : MtR X "list.count" (oCount X.K) := by
  intro pins s σ H x xs v us Q I rx rxs h
  obtain ⟨p, ys, k, rfl, rfl, hs, fk, fy, q⟩ := h
  cases rx
  obtain ⟨u, rfl, ru⟩ := rxs.one
  obtain ⟨its, rv, ⟨⟨cls, dd, data, sl⟩, n, ho, hc, hdn, hd⟩, hlen⟩ := I.list hs
  simp only at hc hd
  subst hc hd
  refine call_meets PySem.F.slot_list_count ⟨_, ho, rfl⟩ PySem.F.entry_list_count (PySem.F.args_list_count_2 _ _)
    (SeqAt.list_countAt p its.toArray n dd sl u (eqU k)) ⟨ho, fun y hy => mem_eqAt ru fk rv fy y (by simpa using hy), ?_⟩
  have e : its.toArray.toList.countP (eqU k) = ys.countP fun y => eqV y k := countP_eqU rv fy
  exact ⟨.int _, H, I.tok _, ⟨s.toks, by rw [e]⟩, q⟩
end
end LT

set_option Elab.async false
set_option linter.all false
set_option maxRecDepth 100000
set_option maxHeartbeats 4000000
/-! LTb: what stands for what in a heap; loops by an invariant; steps. -/
namespace LT
open PySem PySem.Spec PyProof.Rows L2

/-! ### data and values -/
def vn (n : Nat) : V := .int (n : Int)
def Mono {α : Type} (R : α → V → Hp → Prop) : Prop := ∀ d v H H', Same H H' → R d v H → R d v H'
def rV : V → V → Hp → Prop := fun d v _ => v = d
def rI : Int → V → Hp → Prop := fun n v _ => v = .int n
theorem mono_rI : Mono rI := fun _ _ _ _ _ h => h
theorem all2_rI {H : Hp} : ∀ xs : List Int, Paired (fun d v => rI d v H) xs (xs.map V.int)
  | [] => .nil
  | x :: xs => .cons rfl (all2_rI xs)
def rN : Nat → V → Hp → Prop := fun n v _ => v = vn n
def rPath : List Nat → V → Hp → Prop := fun p v H => ∃ a, v = .ref a ∧ H a = some (.tup (p.map vn))
abbrev All2 {α : Type} (R : α → V → Hp → Prop) (ds : List α) (vs : List V) (H : Hp) : Prop := Paired (fun d v => R d v H) ds vs
/-- a list (read) of such data -/
def rLst (K : PySem.W.Frag) {α : Type} (R : α → V → Hp → Prop) : List α → V → Hp → Prop := fun ds v H => ∃ a vs, v = .ref a ∧ SqL K H a vs ∧ All2 R ds vs H
/-- a new list of such data -/
def nLst {α : Type} (R : α → V → Hp → Prop) (H0 : Hp) : List α → V → Hp → Prop := fun ds v H => ∃ a vs, v = .ref a ∧ H0 a = none ∧ H a = some (.lst vs) ∧ All2 R ds vs H
theorem mono_rV : Mono rV := fun _ _ _ _ _ h => h
theorem mono_rN : Mono rN := fun _ _ _ _ _ h => h
theorem mono_rPath : Mono rPath := fun _ _ _ _ s ⟨a, e, h⟩ => ⟨a, e, s _ _ h⟩
theorem All2.mono {α : Type} {R : α → V → Hp → Prop} (m : Mono R) {ds : List α} {vs : List V} {H H' : Hp} (s : Same H H') (h : All2 R ds vs H) : All2 R ds vs H' := Paired.mapP h fun d v r => m d v H H' s r
theorem mono_rLst {K : PySem.W.Frag} {α : Type} {R : α → V → Hp → Prop} (m : Mono R) : Mono (rLst K R) := fun _ _ _ _ s ⟨a, vs, e, h, r⟩ => ⟨a, vs, e, s.seq h, All2.mono m s r⟩
theorem nLst.rd {K : PySem.W.Frag} {α : Type} {R : α → V → Hp → Prop} {H0 H : Hp} {ds : List α} {v : V} (h : nLst R H0 ds v H) : rLst K R ds v H := let ⟨a, vs, e, _, q, r⟩ := h; ⟨a, vs, e, SqL.of q, r⟩
theorem All2.len {α : Type} {R : α → V → Hp → Prop} {ds : List α} {vs : List V} {H : Hp} (h : All2 R ds vs H) : ds.length = vs.length := Paired.length h
theorem All2.get {α : Type} {R : α → V → Hp → Prop} : ∀ {ds : List α} {vs : List V} {H : Hp}, All2 R ds vs H → ∀ {i : Nat} {v : V}, vs[i]? = some v → ∃ d, ds[i]? = some d ∧ R d v H
  | _, _, _, .nil, i, v, e => by simp at e
  | _, _, _, .cons r t, 0, v, e => by simp at e; subst e; exact ⟨_, rfl, r⟩
  | _, _, _, .cons r t, i + 1, v, e => by
    obtain ⟨d, h1, h2⟩ := All2.get (R := R) t (i := i) (v := v) (by simpa using e)
    exact ⟨d, by simpa using h1, h2⟩
theorem All2.get' {α : Type} {R : α → V → Hp → Prop} : ∀ {ds : List α} {vs : List V} {H : Hp}, All2 R ds vs H → ∀ {i : Nat} {d : α}, ds[i]? = some d → ∃ v, vs[i]? = some v ∧ R d v H
  | _, _, _, .nil, i, v, e => by simp at e
  | _, _, _, .cons r t, 0, v, e => by simp at e; subst e; exact ⟨_, rfl, r⟩
  | _, _, _, .cons r t, i + 1, v, e => by
    obtain ⟨d, h1, h2⟩ := All2.get' (R := R) t (i := i) (d := v) (by simpa using e)
    exact ⟨d, by simpa using h1, h2⟩
theorem All2.snoc {α : Type} {R : α → V → Hp → Prop} : ∀ {ds : List α} {vs : List V} {H : Hp} {d : α} {v : V}, All2 R ds vs H → R d v H → All2 R (ds ++ [d]) (vs ++ [v]) H
  | _, _, _, _, _, .nil, h => .cons h .nil
  | _, _, _, _, _, .cons r t, h => .cons r (All2.snoc t h)
theorem All2.append {α : Type} {R : α → V → Hp → Prop} : ∀ {ds es : List α} {vs us : List V} {H : Hp}, All2 R ds vs H → All2 R es us H → All2 R (ds ++ es) (vs ++ us) H
  | _, _, _, _, _, .nil, h => h
  | _, _, _, _, _, .cons r t, h => .cons r (All2.append t h)
theorem all2_rV {H : Hp} : ∀ xs : List V, All2 rV xs xs H
  | [] => .nil
  | x :: xs => .cons rfl (all2_rV xs)
theorem of_rV {H : Hp} : ∀ {xs ys : List V}, All2 rV xs ys H → ys = xs
  | _, _, .nil => rfl
  | x :: xs, y :: ys, .cons e t => by
    have e' : y = x := e
    rw [e', of_rV t]
theorem of_rN {H : Hp} : ∀ {xs : List Nat} {ys : List V}, All2 rN xs ys H → ys = xs.map vn
  | _, _, .nil => rfl
  | x :: xs, y :: ys, .cons e t => by
    have e' : y = vn x := e
    rw [e', of_rN t]; rfl
theorem all2_rN {H : Hp} : ∀ xs : List Nat, All2 rN xs (xs.map vn) H
  | [] => .nil
  | x :: xs => .cons rfl (all2_rN xs)

/-! ### walks over data -/
/-- J goes through values that stand for ds, over any heap that has what H0 has -/
structure DW {α : Type} (J : It) (ds : List α) (R : α → V → Hp → Prop) (H0 : Hp) : Prop where
  w : Walk J ds.length (fun H => Same H0 H) (fun i H x H' => Same H H' ∧ ∃ d, ds[i]? = some d ∧ R d x H')
def ForJ (J : It) (g : TG) (tb : TS) (D : Ends) (σ : L2.St) (H1 : Hp) : Prop := ∃ W : Nat → Nat → L2.St → Hp → Prop, (∃ m, W 0 m σ H1) ∧ ∀ i m σ H, W i m σ H →
  (J.stop i H ∧ D.nx σ H) ∨ (J.go i H ∧ ∃ N : L2.St → Hp → Prop, (∀ σ' H', N σ' H' → ∃ m', m' < m ∧ W (i + 1) m' σ' H') ∧ ∀ x H', J.yld i H x H' → g x σ H' fun σ2 H2 => tb { D with nx := N, ct := N, bk := D.nx } σ2 H2)
def LcJ (J : It) (g : TG) (tt : TT) (te : TE) (vs : List Nat) (σ : L2.St) (H1 : Hp) (Q : Addr → Hp → Prop) : Prop := ∀ D, H1 D = none → ∃ W : Nat → Nat → Hp → Prop, (∃ m, W 0 m (upd H1 D (.lst []))) ∧ ∀ i m H, W i m H →
  (J.stop i H ∧ Q D H) ∨ (J.go i H ∧ ∃ Nx : Hp → Prop, (∀ H', Nx H' → ∃ m', m' < m ∧ W (i + 1) m' H') ∧ ∀ x H', J.yld i H x H' → g x (wipe σ vs) H' fun σ2 H2 => wipe σ2 vs = wipe σ vs ∧ tt σ2 H2 fun b H3 =>
    if b = true then te σ2 H3 fun y H4 => ∃ acc, H4 D = some (.lst acc) ∧ acc.length < sizeLine ∧ Nx (upd H4 D (.lst (acc ++ [y]))) else Nx H3)
theorem cut_map {ns : List Int} {lo hi : Option Int} : ∃ ms : List Int, L2.cutV (ns.map V.int) lo hi = ms.map V.int ∧ ms.length ≤ ns.length := by
  refine ⟨(ns.drop (HT.sIx (ns.map V.int).length 0 lo)).take (HT.sIx (ns.map V.int).length (ns.map V.int).length hi - HT.sIx (ns.map V.int).length 0 lo), ?_, ?_⟩
  · unfold L2.cutV
    rw [List.map_take, List.map_drop]
  · rw [List.length_take, List.length_drop]; omega
theorem same_new {H : Hp} {p : Addr} {o : HO} (h : H p = none) : Same H (upd H p o) := fun b u e => by
  rw [upd_ne (ne_of_none e h)]; exact e
/-- an object that H0 does not know changes -/
theorem same_upd {H0 H : Hp} {p : Addr} {o : HO} (s : Same H0 H) (h : H0 p = none) : Same H0 (upd H p o) := fun b u e => by
  rw [upd_ne (ne_of_none e h)]; exact s b u e
theorem take_snoc {α : Type} {ds : List α} {i : Nat} {d : α} (h : ds[i]? = some d) : ds.take (i + 1) = ds.take i ++ [d] := by
  rw [List.take_succ, h]; rfl
theorem take_split {α : Type} {ds : List α} {i : Nat} {d : α} (h : ds[i]? = some d) : ds = ds.take i ++ d :: ds.drop (i + 1) := by
  have hi : i < ds.length := (List.getElem?_eq_some_iff.mp h).1
  have : ds[i] = d := (List.getElem?_eq_some_iff.mp h).2
  rw [← this, List.getElem_cons_drop, List.take_append_drop]
section
variable {α : Type} {R : α → V → Hp → Prop} {J : It} {ds : List α} {H0 : Hp}
/-- a for; the word speaks of the data gone through -/
theorem DW.loop (dw : DW J ds R H0) {g : TG} {tb : TS} {D : Ends} {σ : L2.St} {H : Hp} (Pv : List α → L2.St → Hp → Prop) (h0 : Pv [] σ H) (stay : ∀ pre σ' H', Pv pre σ' H' → Same H0 H')
    (turn : ∀ pre d post v σ' H' H2, ds = pre ++ d :: post → Pv pre σ' H' → Same H' H2 → R d v H2 → g v σ' H2 fun σ2 H3 => tb { D with nx := Pv (pre ++ [d]), ct := Pv (pre ++ [d]), bk := D.nx } σ2 H3)
    (done : ∀ σ' H', Pv ds σ' H' → D.nx σ' H') : ForJ J g tb D σ H := by
  refine for_it dw.w (fun i σ' H' => Pv (ds.take i) σ' H') h0 (fun i σ' H' _ p => stay _ _ _ p) (fun i v σ' H' H2 hi p y => ?_) (fun σ' H' p => ?_)
  · obtain ⟨sm, d, hd, rd⟩ := y
    have t := turn _ d _ v σ' H' H2 (take_split hd) p sm rd
    rw [take_snoc hd]
    exact t
  · rw [List.take_length] at p
    exact done σ' H' p
/-- the heap without what stands at D -/
def off (D : Addr) (H : Hp) : Hp := fun b => if b = D then none else H b
theorem off_ne {D b : Addr} {H : Hp} (h : b ≠ D) : off D H b = H b := by unfold off; rw [if_neg h]
theorem off_same {D : Addr} {H : Hp} : Same (off D H) H := fun b o h => by
  by_cases e : b = D
  · rw [show off D H b = none by unfold off; rw [if_pos e]] at h; cases h
  · rwa [off_ne e] at h
theorem off_upd {D : Addr} {H : Hp} {o : HO} : Same (off D H) (upd H D o) := fun b u h => by
  by_cases e : b = D
  · rw [show off D H b = none by unfold off; rw [if_pos e]] at h; cases h
  · rw [off_ne e] at h; rw [upd_ne e]; exact h
theorem off_off {D : Addr} {H : Hp} {o : HO} : off D (upd H D o) = off D H := by
  funext b; unfold off; split
  · rfl
  · rename_i h; exact upd_ne h
theorem off_mono {D : Addr} {H H' : Hp} (s : Same H H') : Same (off D H) (off D H') := fun b o h => by
  by_cases e : b = D
  · rw [show off D H b = none by unfold off; rw [if_pos e]] at h; cases h
  · rw [off_ne e] at h ⊢; exact s b o h
/-- a comprehension: f tells which data give, e what they give, S what stands for it -/
theorem DW.lc {β : Type} (dw : DW J ds R H0) {g : TG} {tt : TT} {te : TE} {vs : List Nat} {σ : L2.St} {H : Hp} {Q : Addr → Hp → Prop} {S : β → V → Hp → Prop} (mS : Mono S) (f : α → Bool) (e : α → β) (sm0 : Same H0 H) (hl : ds.length ≤ 1000000)
    (turn : ∀ D d v H', H D = none → d ∈ ds → Same H H' → (∃ ys, H' D = some (.lst ys)) → R d v H' → ∀ (Y : V → Hp → Prop) (N : Hp → Prop), (f d = true → ∀ y H4, Same H' H4 → S (e d) y (off D H4) → Y y H4) → (f d = false → ∀ H3, Same H' H3 → N H3) →
      g v (wipe σ vs) H' fun σ2 H2 => wipe σ2 vs = wipe σ vs ∧ tt σ2 H2 fun b H3 => if b = true then te σ2 H3 Y else N H3)
    (done : ∀ l ys H', H l = none → Same H H' → H' l = some (.lst ys) → All2 S ((ds.filter f).map e) ys H' → Q l H') : LcJ J g tt te vs σ H Q := by
  intro D hD
  have sD : Same H (upd H D (.lst [])) := fun b o h => by rw [upd_ne (ne_of_none h hD)]; exact h
  refine lc_it dw.w (fun i H' => Same H H' ∧ ∃ ys, H' D = some (.lst ys) ∧ All2 S (((ds.take i).filter f).map e) ys (off D H')) ⟨sD, [], upd_same, .nil⟩ (fun i H' _ p => sm0.trans p.1) (fun i v H' H2 hi p y => ?_) (fun H' p => ?_)
  · obtain ⟨sm, d, hd, rd⟩ := y
    obtain ⟨s1, ys, h1, h2⟩ := p
    have hm : d ∈ ds := List.mem_of_getElem? hd
    refine turn D d v H2 hD hm (s1.trans sm) ⟨ys, sm _ _ h1⟩ rd _ _ (fun hf w H4 s4 hS => ?_) (fun hf H3 s3 => ?_)
    · have g1 : H4 D = some (.lst ys) := s4 _ _ (sm _ _ h1)
      have hlen : ys.length ≤ ds.length := by
        rw [← h2.len, List.length_map]
        exact Nat.le_trans (List.length_filter_le _ _) (by rw [List.length_take]; omega)
      have hz : ys.length < sizeLine := by have := sizeLine_eq; omega
      have s5 : Same H (upd H4 D (.lst (ys ++ [w]))) := fun b o h => by
        rw [upd_ne (ne_of_none h hD)]
        exact s4 _ _ (sm _ _ (s1 _ _ h))
      refine ⟨ys, g1, hz, s5, ys ++ [w], upd_same, ?_⟩
      rw [take_snoc hd, List.filter_append, List.map_append, off_off]
      have e1 : [d].filter f = [d] := by simp [hf]
      rw [e1]
      exact All2.snoc (All2.mono mS (off_mono (sm.trans s4)) h2) hS
    · refine ⟨s1.trans (sm.trans s3), ys, s3 _ _ (sm _ _ h1), ?_⟩
      rw [take_snoc hd, List.filter_append, List.map_append]
      have e1 : [d].filter f = [] := by simp [hf]
      rw [e1]
      simpa using All2.mono mS (off_mono (sm.trans s3)) h2
  · rw [List.take_length] at p
    obtain ⟨s1, ys, h1, h2⟩ := p
    exact done D ys H' hD s1 h1 (All2.mono mS off_same h2)
/-- S leans on tuples alone -/
def MonoT {β : Type} (S : β → V → Hp → Prop) : Prop := ∀ d v H H', (∀ b xs, H b = some (.tup xs) → H' b = some (.tup xs)) → S d v H → S d v H'
theorem monoT_rV : MonoT rV := fun _ _ _ _ _ h => h
theorem monoT_rN : MonoT rN := fun _ _ _ _ _ h => h
theorem monoT_rI : MonoT rI := fun _ _ _ _ _ h => h
theorem monoT_rPath : MonoT rPath := fun _ _ _ _ s ⟨a, e, h⟩ => ⟨a, e, s _ _ h⟩
theorem MonoT.mono {β : Type} {S : β → V → Hp → Prop} (m : MonoT S) : Mono S := fun d v H H' s h => m d v H H' (fun b xs e => s b _ e) h
theorem DW.lcT {β : Type} (dw : DW J ds R H0) {g : TG} {tt : TT} {te : TE} {vs : List Nat} {σ : L2.St} {H : Hp} {Q : Addr → Hp → Prop} {S : β → V → Hp → Prop} (mS : MonoT S) (f : α → Bool) (e : α → β) (sm0 : Same H0 H) (hl : ds.length ≤ 1000000)
    (turn : ∀ d v H', d ∈ ds → Same H H' → R d v H' → ∀ (Y : V → Hp → Prop) (N : Hp → Prop), (f d = true → ∀ y H4, Same H' H4 → S (e d) y H4 → Y y H4) → (f d = false → ∀ H3, Same H' H3 → N H3) →
      g v (wipe σ vs) H' fun σ2 H2 => wipe σ2 vs = wipe σ vs ∧ tt σ2 H2 fun b H3 => if b = true then te σ2 H3 Y else N H3)
    (done : ∀ l ys H', H l = none → Same H H' → H' l = some (.lst ys) → All2 S ((ds.filter f).map e) ys H' → Q l H') : LcJ J g tt te vs σ H Q :=
  dw.lc mS.mono f e sm0 hl (fun D d v H' hD hm sm hq rd Y N hY hN => turn d v H' hm sm rd Y N (fun hf y H4 s4 hS => hY hf y H4 s4 (mS _ _ _ _ (fun b xs hb => by
    obtain ⟨ys, hq⟩ := hq
    have hne : b ≠ D := fun z => by
      subst z
      rw [s4 _ _ hq] at hb
      cases hb
    rw [off_ne hne]; exact hb) hS)) hN) done
end
/-! ### the walks -/
theorem dw_list {α : Type} {R : α → V → Hp → Prop} (m : Mono R) {K : PySem.W.Frag} {a : Addr} {vs : List V} {ds : List α} {H0 : Hp} (hl : SqL K H0 a vs) (hr : All2 R ds vs H0) : DW (Itl K a) ds R H0 := by
  have e := hr.len
  refine ⟨?_⟩
  rw [e]
  refine walk_list.mono (fun H s => s.seq hl) fun i H x H' _ s y => ?_
  obtain ⟨rfl, y⟩ := y
  obtain ⟨d, h1, h2⟩ := (All2.mono m s hr).get y
  exact ⟨Same.refl _, d, h1, h2⟩
theorem sameT {K : PySem.W.Frag} {H H' : Hp} {a : Addr} {xs : List V} (e : Same H H') (h : SqT K H a xs) : SqT K H' a xs := by
  rcases h with (h | ⟨o, h⟩) | h
  · exact .inl (.inl (e _ _ h))
  · exact .inl (.inr ⟨o, e _ _ h⟩)
  · exact .inr h
theorem dw_tup {α : Type} {R : α → V → Hp → Prop} (m : Mono R) {K : PySem.W.Frag} {a : Addr} {vs : List V} {ds : List α} {H0 : Hp} (hl : SqT K H0 a vs) (hr : All2 R ds vs H0) : DW (Itt K a) ds R H0 := by
  have e := hr.len
  refine ⟨?_⟩
  rw [e]
  refine walk_tup.mono (fun H s => sameT s hl) fun i H x H' _ s y => ?_
  obtain ⟨rfl, y⟩ := y
  obtain ⟨d, h1, h2⟩ := (All2.mono m s hr).get y
  exact ⟨Same.refl _, d, h1, h2⟩
theorem dw_range {n : Nat} {H0 : Hp} : DW (Itr 0 n) (List.range n) rN H0 := by
  refine ⟨?_⟩
  rw [List.length_range]
  refine walk_range.mono (fun H s => trivial) fun i H x H' hi s y => ?_
  obtain ⟨rfl, rfl⟩ := y
  refine ⟨Same.refl _, i, by simp [hi], ?_⟩
  show V.int ((0 : Int) + (i : Int)) = V.int (i : Int)
  rw [Int.zero_add]
theorem dw_str {z : PySem.Str} {H0 : Hp} : DW (Its z) z.cps.toList (fun (c : Nat) v _ => v = .str ⟨#[c]⟩) H0 := by
  refine ⟨?_⟩
  rw [show z.cps.toList.length = z.cps.size by simp]
  refine walk_str.mono (fun H s => trivial) fun i H x H' hi s y => ?_
  obtain ⟨rfl, c, h1, h2⟩ := y
  exact ⟨Same.refl _, c, by rw [← h1]; simp, h2⟩
/-- for .. in a list -/
theorem for_rl {α : Type} {R : α → V → Hp → Prop} {K : PySem.W.Frag} {g : TG} {tb : TS} {D : Ends} {σ : L2.St} {a : Addr} {vs : List V} {H H0 : Hp} {ds : List α} (m : Mono R) (hl : SqL K H0 a vs) (hr : All2 R ds vs H0) (Pv : List α → L2.St → Hp → Prop) (h0 : Pv [] σ H)
    (stay : ∀ pre σ' H', Pv pre σ' H' → Same H0 H') (turn : ∀ pre d post v σ' H', ds = pre ++ d :: post → Pv pre σ' H' → R d v H' → g v σ' H' fun σ2 H3 => tb { D with nx := Pv (pre ++ [d]), ct := Pv (pre ++ [d]), bk := D.nx } σ2 H3)
    (done : ∀ σ' H', Pv ds σ' H' → D.nx σ' H') : (∃ xs, SqL K H a xs) ∧ ForJ (Itl K a) g tb D σ H := by
  have hlen := hr.len
  refine ⟨⟨vs, (stay _ _ _ h0).seq hl⟩, for_list (xs := vs) (fun i σ' H' => Pv (ds.take i) σ' H') h0 (fun i σ' H' _ p => (stay _ _ _ p).seq hl) (fun i v σ' H' e p => ?_) (fun σ' H' p => ?_)⟩
  · obtain ⟨d, hd, rd⟩ := hr.get e
    have t := turn _ d _ v σ' H' (take_split hd) p (m _ _ _ _ (stay _ _ _ p) rd)
    rw [take_snoc hd]
    exact t
  · rw [← hlen, List.take_length] at p
    exact done σ' H' p
/-- for k in range(n) -/
theorem for_rg {g : TG} {tb : TS} {D : Ends} {σ : L2.St} {H : Hp} {n : Int} (hn : -1000000 ≤ n ∧ n ≤ 1000000) (Pv : Nat → L2.St → Hp → Prop) (h0 : Pv 0 σ H)
    (turn : ∀ (i : Nat) σ' H', (i : Int) < n → Pv i σ' H' → g (vn i) σ' H' fun σ2 H2 => tb { D with nx := Pv (i + 1), ct := Pv (i + 1), bk := D.nx } σ2 H2)
    (done : ∀ σ' H', Pv n.toNat σ' H' → D.nx σ' H') : -(2 ^ 62) ≤ n ∧ n < 2 ^ 62 ∧ ForJ (Itr 0 n.toNat) g tb D σ H := by
  refine ⟨by omega, by omega, for_range (lo := 0) (n := n.toNat) Pv h0 (fun i σ' H' hi p => ?_) done⟩
  have t := turn i σ' H' (by omega) p
  have e : (0 : Int) + (i : Int) = (i : Int) := Int.zero_add _
  show g (V.int (0 + (i : Int))) σ' H' _
  rw [e]
  exact t
/-- for k in range(lo, n), lo not negative -/
theorem for_rg2 {g : TG} {tb : TS} {D : Ends} {σ : L2.St} {H : Hp} {lo m : Nat} {n : Int} (hm : n = (lo : Int) + (m : Int)) (hn : lo ≤ 1000000 ∧ m ≤ 1000000) (Pv : Nat → L2.St → Hp → Prop) (h0 : Pv 0 σ H)
    (turn : ∀ (i : Nat) σ' H', i < m → Pv i σ' H' → g (vn (lo + i)) σ' H' fun σ2 H2 => tb { D with nx := Pv (i + 1), ct := Pv (i + 1), bk := D.nx } σ2 H2)
    (done : ∀ σ' H', Pv m σ' H' → D.nx σ' H') : (-(2 ^ 62) ≤ (lo : Int) ∧ (lo : Int) < 2 ^ 62 ∧ -(2 ^ 62) ≤ n ∧ n < 2 ^ 62) ∧ ForJ (Itr (lo : Int) (n - (lo : Int)).toNat) g tb D σ H := by
  have e : (n - (lo : Int)).toNat = m := by omega
  rw [e]
  refine ⟨⟨by omega, by omega, by omega, by omega⟩, for_range (lo := (lo : Int)) (n := m) Pv h0 (fun i σ' H' hi p => ?_) done⟩
  have t := turn i σ' H' hi p
  have e : (lo : Int) + (i : Int) = ((lo + i : Nat) : Int) := by omega
  show g (V.int ((lo : Int) + (i : Int))) σ' H' _
  rw [e]
  exact t
/-- [.. for .. in a tuple] -/
theorem lc_rt {α β : Type} {R : α → V → Hp → Prop} {S : β → V → Hp → Prop} {K : PySem.W.Frag} {g : TG} {tt : TT} {te : TE} {vs : List Nat} {σ : L2.St} {a : Addr} {xs : List V} {H : Hp} {Q : Addr → Hp → Prop} {ds : List α} (m : Mono R) (h1 : SqT K H a xs) (h2 : All2 R ds xs H) (mS : MonoT S) (f : α → Bool) (e : α → β) (hl : ds.length ≤ 1000000)
    (turn : ∀ d v H', d ∈ ds → Same H H' → R d v H' → ∀ (Y : V → Hp → Prop) (N : Hp → Prop), (f d = true → ∀ y H4, Same H' H4 → S (e d) y H4 → Y y H4) → (f d = false → ∀ H3, Same H' H3 → N H3) →
      g v (wipe σ vs) H' fun σ2 H2 => wipe σ2 vs = wipe σ vs ∧ tt σ2 H2 fun b H3 => if b = true then te σ2 H3 Y else N H3)
    (done : ∀ l ys H', H l = none → Same H H' → H' l = some (.lst ys) → All2 S ((ds.filter f).map e) ys H' → Q l H') : (∃ xs, SqT K H a xs) ∧ LcJ (Itt K a) g tt te vs σ H Q :=
  ⟨⟨xs, h1⟩, (dw_tup m h1 h2).lcT mS f e (Same.refl _) hl turn done⟩
/-- the same, any S -/
theorem lc_rlS {α β : Type} {R : α → V → Hp → Prop} {S : β → V → Hp → Prop} {K : PySem.W.Frag} {g : TG} {tt : TT} {te : TE} {vs : List Nat} {σ : L2.St} {a : Addr} {xs : List V} {H : Hp} {Q : Addr → Hp → Prop} {ds : List α} (m : Mono R) (h1 : SqL K H a xs) (h2 : All2 R ds xs H) (mS : Mono S) (f : α → Bool) (e : α → β) (hl : ds.length ≤ 1000000)
    (turn : ∀ D d v H', H D = none → d ∈ ds → Same H H' → (∃ ys, H' D = some (.lst ys)) → R d v H' → ∀ (Y : V → Hp → Prop) (N : Hp → Prop), (f d = true → ∀ y H4, Same H' H4 → S (e d) y (off D H4) → Y y H4) → (f d = false → ∀ H3, Same H' H3 → N H3) →
      g v (wipe σ vs) H' fun σ2 H2 => wipe σ2 vs = wipe σ vs ∧ tt σ2 H2 fun b H3 => if b = true then te σ2 H3 Y else N H3)
    (done : ∀ l ys H', H l = none → Same H H' → H' l = some (.lst ys) → All2 S ((ds.filter f).map e) ys H' → Q l H') : (∃ xs, SqL K H a xs) ∧ LcJ (Itl K a) g tt te vs σ H Q :=
  ⟨⟨xs, h1⟩, (dw_list m h1 h2).lc mS f e (Same.refl _) hl turn done⟩
/-- [.. for .. in a list], [.. for .. in range(n)], [.. for .. in a text] -/
theorem lc_rl {α β : Type} {R : α → V → Hp → Prop} {S : β → V → Hp → Prop} {K : PySem.W.Frag} {g : TG} {tt : TT} {te : TE} {vs : List Nat} {σ : L2.St} {a : Addr} {xs : List V} {H : Hp} {Q : Addr → Hp → Prop} {ds : List α} (m : Mono R) (h1 : SqL K H a xs) (h2 : All2 R ds xs H) (mS : MonoT S) (f : α → Bool) (e : α → β) (hl : ds.length ≤ 1000000)
    (turn : ∀ d v H', d ∈ ds → Same H H' → R d v H' → ∀ (Y : V → Hp → Prop) (N : Hp → Prop), (f d = true → ∀ y H4, Same H' H4 → S (e d) y H4 → Y y H4) → (f d = false → ∀ H3, Same H' H3 → N H3) →
      g v (wipe σ vs) H' fun σ2 H2 => wipe σ2 vs = wipe σ vs ∧ tt σ2 H2 fun b H3 => if b = true then te σ2 H3 Y else N H3)
    (done : ∀ l ys H', H l = none → Same H H' → H' l = some (.lst ys) → All2 S ((ds.filter f).map e) ys H' → Q l H') : (∃ xs, SqL K H a xs) ∧ LcJ (Itl K a) g tt te vs σ H Q := by
  exact ⟨⟨xs, h1⟩, (dw_list m h1 h2).lcT mS f e (Same.refl _) hl turn done⟩
theorem lc_rg {β : Type} {S : β → V → Hp → Prop} {g : TG} {tt : TT} {te : TE} {ws : List Nat} {σ : L2.St} {H : Hp} {Q : Addr → Hp → Prop} {n : Nat} (hn : n ≤ 1000000) (mS : MonoT S) (f : Nat → Bool) (e : Nat → β)
    (turn : ∀ d H', d < n → Same H H' → ∀ (Y : V → Hp → Prop) (N : Hp → Prop), (f d = true → ∀ y H4, Same H' H4 → S (e d) y H4 → Y y H4) → (f d = false → ∀ H3, Same H' H3 → N H3) →
      g (vn d) (wipe σ ws) H' fun σ2 H2 => wipe σ2 ws = wipe σ ws ∧ tt σ2 H2 fun b H3 => if b = true then te σ2 H3 Y else N H3)
    (done : ∀ l ys H', H l = none → Same H H' → H' l = some (.lst ys) → All2 S (((List.range n).filter f).map e) ys H' → Q l H') : -(2 ^ 62) ≤ (n : Int) ∧ (n : Int) < 2 ^ 62 ∧ LcJ (Itr 0 (n : Int).toNat) g tt te ws σ H Q :=
  ⟨by omega, by omega, (dw_range (n := n) (H0 := H)).lcT mS f e (Same.refl _) (by rw [List.length_range]; exact hn) (fun d v H' hd s r Y N hY hN => by
    have e1 : v = vn d := r
    subst e1
    exact turn d H' (List.mem_range.mp hd) s Y N hY hN) done⟩
theorem lc_rs {β : Type} {S : β → V → Hp → Prop} {g : TG} {tt : TT} {te : TE} {vs : List Nat} {σ : L2.St} {H : Hp} {Q : Addr → Hp → Prop} {z : PySem.Str} (mS : MonoT S) (f : Nat → Bool) (e : Nat → β) (hl : z.cps.toList.length ≤ 1000000)
    (turn : ∀ d H', d ∈ z.cps.toList → Same H H' → ∀ (Y : V → Hp → Prop) (N : Hp → Prop), (f d = true → ∀ y H4, Same H' H4 → S (e d) y H4 → Y y H4) → (f d = false → ∀ H3, Same H' H3 → N H3) →
      g (.str ⟨#[d]⟩) (wipe σ vs) H' fun σ2 H2 => wipe σ2 vs = wipe σ vs ∧ tt σ2 H2 fun b H3 => if b = true then te σ2 H3 Y else N H3)
    (done : ∀ l ys H', H l = none → Same H H' → H' l = some (.lst ys) → All2 S ((z.cps.toList.filter f).map e) ys H' → Q l H') : LcJ (Its z) g tt te vs σ H Q :=
  (dw_str (z := z) (H0 := H)).lcT mS f e (Same.refl _) hl (fun d v H' hd s r Y N hY hN => by
    have e1 : v = .str ⟨#[d]⟩ := r
    subst e1
    exact turn d H' hd s Y N hY hN) done

/-! ### the start of a def -/
theorem start_eq {N : List PySem.Str} {n : Nat} (hN : N.length = n) (vs : List V) : L2.start N vs = vs.map some ++ List.replicate (n - vs.length) none := by
  unfold L2.start
  rw [hN]
/-- what is wanted of a def's body -/
abbrev endsOf (Q : VK) : Ends := { nx := fun _ H' => Q .non H', rt := Q }
end LT

set_option Elab.async false
set_option linter.all false
set_option maxRecDepth 100000
set_option maxHeartbeats 4000000
namespace LT
open PySem PySem.Spec PyProof.Rows L2
local macro_rules | `(tactic| got_up) => `(tactic| repeat (first
  | refine ⟨_, rfl, ?_⟩
  | refine ⟨_, _, rfl, rfl, ?_⟩
  | refine ⟨rfl, ?_⟩
  | refine ⟨(.inl ⟨by decide, by decide⟩ : CMul _ _), ?_⟩
  | refine ⟨(by show (0 : Int) < _; first | decide | omega), ?_⟩
  | refine ⟨(⟨by first | decide | omega, by first | decide | omega⟩ : CDiv _ _), ?_⟩))
/-! LTc: votes, signs, the small defs of a law. -/
/-- a sign, or None -/
def SignV (v : V) : Prop := v = .non ∨ ∃ s, v = .str s
def cntV (ss : List V) (v : V) : Nat := ss.countP fun y => eqV y v
def majV (ss : List V) (v : V) : Prop := (ss.length : Int) < 2 * (cntV ss v : Int)
instance (ss : List V) (v : V) : Decidable (majV ss v) := by unfold majV; infer_instance
def voteM (ss : List V) : V := (ss.find? fun v => decide (majV ss v)).getD .non
theorem SignV.flat {v : V} (h : SignV v) : flatV v = true := by
  rcases h with rfl | ⟨s, rfl⟩ <;> rfl
theorem flats {ss : List V} (h : ∀ v ∈ ss, SignV v) : ss.all flatV = true := List.all_eq_true.mpr fun v hv => (h v hv).flat
theorem voteM_at {ss pre post : List V} {v : V} (e : ss = pre ++ v :: post) (hp : ∀ x ∈ pre, ¬ majV ss x) (m : majV ss v) : voteM ss = v := by
  unfold voteM
  have h1 : ss.find? (fun v => decide (majV ss v)) = some v := by
    rw [List.find?_eq_some_iff_append]
    exact ⟨decide_eq_true m, pre, post, e, fun x hx => by simpa using hp x hx⟩
  rw [h1]
  rfl
theorem voteM_none {ss : List V} (hp : ∀ x ∈ ss, ¬ majV ss x) : voteM ss = .non := by
  unfold voteM
  rw [List.find?_eq_none.mpr fun x hx => by simpa using hp x hx]
  rfl
theorem voteM_sign {ss : List V} (h : ∀ v ∈ ss, SignV v) : SignV (voteM ss) := by
  unfold voteM
  cases e : ss.find? (fun v => decide (majV ss v)) with
  | none => exact .inl rfl
  | some v => exact h v (List.mem_of_find?_eq_some e)
def cellM (ns : List Int) (k : Nat) : Int := ns.getD k 0
def lts : PySem.Str := "abcdefghijklmnopqrstuvwxyz"
theorem lts_list : lts.cps.toList = (List.range 26).map fun i => 97 + i := by decide +kernel
theorem lts_at {i : Int} (h0 : 0 ≤ i) (h1 : i < 26) : ∃ c, atI lts.cps.toList i = some c ∧ c ∈ lts.cps.toList := by
  obtain ⟨n, rfl⟩ := Int.eq_ofNat_of_zero_le h0
  have hn : n < 26 := by omega
  refine ⟨97 + n, atI_nat ?_, ?_⟩
  · rw [lts_list]; simp [hn]
  · rw [lts_list]; exact List.mem_map.mpr ⟨n, List.mem_range.mpr hn, rfl⟩
def LowS (s : PySem.Str) : Prop := ∀ c ∈ s.cps.toList, c ∈ lts.cps.toList
def GoodS (s : PySem.Str) : Prop := 1 ≤ s.length ∧ s.length ≤ 8 ∧ LowS s
theorem len_one (c : Nat) : (⟨#[c]⟩ : PySem.Str).length = 1 := rfl
theorem low_one {c : Nat} (h : c ∈ lts.cps.toList) : LowS ⟨#[c]⟩ := fun d hd => by
  have e : d = c := by simpa using hd
  rw [e]; exact h
theorem low_rep {s : PySem.Str} {n : Nat} (h : LowS s) : LowS (repS s n) := fun d hd => by
  rw [repS_list] at hd
  simp only [List.mem_flatten, List.mem_replicate] at hd
  obtain ⟨l, ⟨_, rfl⟩, hd⟩ := hd
  exact h d hd
theorem cat_list (s t : PySem.Str) : (s ++ t).cps.toList = s.cps.toList ++ t.cps.toList := by
  show (s.cps ++ t.cps).toList = _
  simp
theorem cat_len (s t : PySem.Str) : (s ++ t).length = s.length + t.length := by
  rw [Str.len_eq, cat_list, List.length_append, ← Str.len_eq, ← Str.len_eq]
theorem low_cat {s t : PySem.Str} (hs : LowS s) (ht : LowS t) : LowS (s ++ t) := fun d hd => by
  rw [cat_list] at hd
  rcases List.mem_append.mp hd with h | h
  · exact hs d h
  · exact ht d h
theorem line8 {n : Nat} (h : n ≤ 100000) : n ≤ sizeLine := Nat.le_trans h (by decide)

/-! ### flat values as data -/
def pd : V → PyData
  | .bl b => .bool b
  | .int i => .int i
  | .str x => .str x
  | _ => .none
theorem dp_pd {K : PySem.W.Frag} {H : Hp} {v : V} (h : flatV v = true) : Dp K H v (pd v) := by
  cases v with
  | non => exact .non
  | bl b => exact .bl b
  | int i => exact .int i
  | str x => exact .str x
  | _ => cases h
theorem dpAll_pd {K : PySem.W.Frag} {H : Hp} : ∀ {vs : List V}, vs.all flatV = true → DpAll K H vs (vs.map pd)
  | [], _ => .nil
  | v :: vs, h => by
    rw [List.all_cons, Bool.and_eq_true] at h
    exact .cons (dp_pd h.1) (dpAll_pd h.2)
theorem lay_all : ∀ {ds : List PyData}, (∀ d ∈ ds, d.canLay0 = true) → PyData.canLayAll0 ds = true
  | [], _ => rfl
  | d :: ds, h => by
    show (PyData.canLay0 d && PyData.canLayAll0 ds) = true
    rw [h d (by simp), lay_all fun x hx => h x (by simp [hx])]
    rfl
theorem depth_all {n : Nat} : ∀ {ds : List PyData}, (∀ d ∈ ds, d.depth ≤ n) → PyData.depthAll ds ≤ n
  | [], _ => Nat.zero_le _
  | d :: ds, h => by
    show max (PyData.depth d) (PyData.depthAll ds) ≤ n
    exact Nat.max_le.mpr ⟨h d (by simp), depth_all fun x hx => h x (by simp [hx])⟩
/-- may be compared, n deep at most -/
def Lay (n : Nat) (d : PyData) : Prop := d.canLay0 = true ∧ d.depth ≤ n
theorem Lay.list {n : Nat} {ds : List PyData} (h : ∀ d ∈ ds, Lay n d) : Lay (n + 1) (.list ds) := ⟨lay_all fun d hd => (h d hd).1, Nat.succ_le_succ (depth_all fun d hd => (h d hd).2)⟩
theorem Lay.tuple {n : Nat} {ds : List PyData} (h : ∀ d ∈ ds, Lay n d) : Lay (n + 1) (.tuple ds) := ⟨lay_all fun d hd => (h d hd).1, Nat.succ_le_succ (depth_all fun d hd => (h d hd).2)⟩
theorem Lay.shaped {n : Nat} {d : PyData} (h : Lay n d) (hn : n ≤ 64) : SeqAt.shaped d = true := by
  unfold SeqAt.shaped
  rw [h.1, decide_eq_true (Nat.le_trans h.2 hn)]
  rfl
theorem Lay.int {n : Nat} {i : Int} : Lay n (.int i) := ⟨rfl, Nat.zero_le _⟩
theorem lay_good {n : Nat} {s : PySem.Str} (h : LowS s) : Lay n (.str s) := ⟨by
  show PyData.strOk s = true
  unfold PyData.strOk
  rw [Array.all_eq_true']
  intro c hc
  have := h c (by simpa using hc)
  rw [lts_list] at this
  obtain ⟨i, hi, rfl⟩ := List.mem_map.mp this
  have := List.mem_range.mp hi
  exact decide_eq_true (by omega), Nat.zero_le _⟩
theorem SignG_lay {n : Nat} {v : V} (h : v = .non ∨ ∃ s, v = .str s ∧ LowS s) : Lay n (pd v) := by
  rcases h with rfl | ⟨s, rfl, h⟩
  · exact ⟨rfl, Nat.zero_le _⟩
  · exact lay_good h
/-- a good sign, or None -/
def SignG (v : V) : Prop := v = .non ∨ ∃ s, v = .str s ∧ GoodS s
theorem SignG.v {v : V} (h : SignG v) : SignV v := by
  rcases h with rfl | ⟨s, rfl, _⟩
  · exact .inl rfl
  · exact .inr ⟨s, rfl⟩
theorem SignG.lay {n : Nat} {v : V} (h : SignG v) : Lay n (pd v) := SignG_lay (by
  rcases h with rfl | ⟨s, rfl, h⟩
  · exact .inl rfl
  · exact .inr ⟨s, rfl, h.2.2⟩)
theorem voteM_good {ss : List V} (h : ∀ v ∈ ss, SignG v) : SignG (voteM ss) := by
  unfold voteM
  cases e : ss.find? (fun v => decide (majV ss v)) with
  | none => exact .inl rfl
  | some v => exact h v (List.mem_of_find?_eq_some e)
/-- what a law is asked -/
def sp_law (G : G3) : Sp := fun vs H Q _ => ∃ (a : Addr) (ns : List Int), vs = [.ref a] ∧ SqL G.K H a (ns.map V.int) ∧ ns.length ≤ 63 ∧ ∀ H', Q (.bl true) H'
def sp_vote (G : G3) : Sp := fun vs H Q _ => ∃ (a : Addr) (ss : List V), vs = [.ref a] ∧ SqL G.K H a ss ∧ (∀ v ∈ ss, SignV v) ∧ Q (voteM ss) H
def sp_l_cell_at (G : G3) : Sp := fun vs H Q _ => ∃ (a : Addr) (ns : List Int) (k : Nat), vs = [.ref a, .int (k : Int)] ∧ SqL G.K H a (ns.map V.int) ∧ Q (.int (cellM ns k)) H
def sp_l_same (G : G3) : Sp := fun vs H Q _ => ∃ v w : V, vs = [v, w] ∧ SignV v ∧ SignV w ∧ Q (.bl (decide (v = w))) H
def sp_l_signs (G : G3) : Sp := fun vs H Q _ => ∃ c : Int, vs = [.int c] ∧ ∀ (l : Addr) (ss : List PySem.Str) (H' : Hp), H l = none → Same H H' → ss.length = 4 → (∀ s ∈ ss, GoodS s) → H' l = some (.lst (ss.map V.str)) → Q (.ref l) H'
/-- vote: slots 0 signs 1 sign -/
def t_vote (G : G3) (E : XK) : TS :=
  (tSeq (tFor (iList G.K (tVar 0)) (gName 1) (tIfS (tTest (tOp oGt (tOp oMul (tC (.int 2)) (tBM G.K "list" (oCount G.K) (tVar 0) (tCons (tVar 1) tNil))) (tCB (oLen G.K) (tCons (tVar 0) tNil)))) (tRet (tVar 1)) tNext))
  (tRet (tC .non)))
/-- _law_cell_at: slots 0 _law_script 1 _law_k -/
def t_l_cell_at (G : G3) (E : XK) : TS :=
  (tSeq (tIfS (tTest (tOp oLt (tVar 1) (tCB (oLen G.K) (tCons (tVar 0) tNil)))) (tRet (tOp (rIxL G.K) (tVar 0) (tVar 1))) tNext)
  (tRet (tC (.int 0))))
/-- _law_same: slots 0 _law_found 1 _law_due -/
def t_l_same (G : G3) (E : XK) : TS :=
  (tSeq (tIfS (tTest (tOp oIsN (tVar 1) (tC .non))) (tRet (tOp oIsN (tVar 0) (tC .non))) tNext)
  (tRet (tAndV (tCB (rIsi G.K) (tCons (tVar 0) (tCons (tC (.ty "str")) tNil))) (tOp rEq (tVar 0) (tVar 1)))))
/-- _law_signs: slots 0 _law_cell 1 _law_letters 2 _law_size 3 _law_found 4 _law_k 5 _law_sign 6 _law_place 7 _law_ahead 8 _law_behind -/
def t_l_signs (G : G3) (E : XK) : TS :=
  (tSeq (tAsg (tC (.str ("abcdefghijklmnopqrstuvwxyz" : Str))) (gName 1))
  (tSeq (tAsg (tOp oAdd (tC (.int 1)) (tOp oMod (tOp oDiv (tVar 0) (tC (.int 3))) (tC (.int 8)))) (gName 2))
  (tSeq (tAsg (tLst tNil) (gName 3))
  (tSeq (tFor (iRng1 (tCons (tC (.int 4)) tNil)) (gName 4) (tSeq (tAsg (tOp rIxS (tVar 1) (tOp oMod (tOp oAdd (tOp oDiv (tVar 0) (tC (.int 24))) (tOp oMul (tC (.int 7)) (tVar 4))) (tC (.int 26)))) (gName 5))
  (tIfS (tTest (tOp rEq (tOp oMod (tVar 0) (tC (.int 3))) (tC (.int 0)))) (tDrop (tBM G.K "list" rAppend (tVar 3) (tCons (tOp oMulS (tOp rIxS (tVar 1) (tOp oMod (tOp oDiv (tVar 0) (tC (.int 24))) (tC (.int 26)))) (tOp oAdd (tC (.int 1)) (tOp oMul (tC (.int 2)) (tVar 4)))) tNil))) (tSeq (tAsg (tOp oMod (tOp oDiv (tVar 0) (tC (.int 5))) (tVar 2)) (gName 6))
  (tSeq (tAsg (tOp oMulS (tOp rIxS (tVar 1) (tVar 2)) (tVar 6)) (gName 7))
  (tSeq (tAsg (tOp oMulS (tOp rIxS (tVar 1) (tOp oAdd (tVar 2) (tOp oMod (tVar 0) (tC (.int 3))))) (tOp oSub (tOp oSub (tVar 2) (tC (.int 1))) (tVar 6))) (gName 8))
  (tDrop (tBM G.K "list" rAppend (tVar 3) (tCons (tOp oCatS (tOp oCatS (tVar 7) (tVar 5)) (tVar 8)) tNil)))))))))
  (tRet (tVar 3))))))
section
variable {G : G3} {N : List PySem.Str} {vs : List V} {H : Hp} {Q : VK} {E : XK}
theorem pure_vote (hN : N.length = 2) (h : sp_vote G vs H Q E) : t_vote G E (endsOf Q) (L2.start N vs) H := by
  obtain ⟨a, ss, rfl, hs, hv, q⟩ := h
  rw [start_eq hN]
  got_up
  refine for_rl (R := rV) (ds := ss) (K := G.K) mono_rV hs (all2_rV ss) (fun pre σ' H' => (∃ v, σ' = [some (.ref a), v]) ∧ H' = H ∧ ∀ x ∈ pre, ¬ majV ss x) ⟨⟨none, rfl⟩, rfl, by simp⟩ (fun _ _ _ p => by rw [p.2.1]; exact Same.refl _) ?_ ?_
  · rintro pre d post v σ' H' e ⟨⟨v', rfl⟩, rfl, hp⟩ rfl
    have hd : v ∈ ss := by rw [e]; simp
    got_up
    refine ⟨.inl ⟨rfl, _, hs⟩, ?_⟩
    got_up
    refine ⟨a, ss, _, rfl, rfl, hs, (hv _ hd).flat, flats hv, ?_⟩
    got_up
    refine ⟨a, ss, rfl, .inl hs, ?_⟩
    got_up
    refine ite2 (fun c => ?_) (fun c => ?_)
    · have m : majV ss v := of_decide_eq_true c
      got_up
      rw [voteM_at e hp m] at q
      exact q
    · have m : ¬ majV ss v := fun z => c (decide_eq_true z)
      refine ⟨⟨some v, rfl⟩, rfl, fun x hx => ?_⟩
      rcases List.mem_append.mp hx with h | h
      · exact hp x h
      · rw [List.mem_singleton.mp h]; exact m
  · rintro σ' H' ⟨⟨v', rfl⟩, rfl, hp⟩
    rw [voteM_none hp] at q
    exact q
theorem pure_l_cell_at (hN : N.length = 2) (h : sp_l_cell_at G vs H Q E) : t_l_cell_at G E (endsOf Q) (L2.start N vs) H := by
  obtain ⟨a, ns, k, rfl, hs, q⟩ := h
  rw [start_eq hN]
  got_up
  refine ⟨a, _, rfl, .inl hs, ?_⟩
  got_up
  have hlen : (ns.map V.int).length = ns.length := List.length_map ..
  refine ite2 (fun c => ?_) (fun c => ?_)
  · have c' : (k : Int) < ((ns.map V.int).length : Int) := of_decide_eq_true c
    have hk : k < ns.length := by omega
    got_up
    refine ⟨a, ns.map V.int, _, .int (cellM ns k), rfl, rfl, hs, atI_nat ?_, q⟩
    unfold cellM
    simp [hk]
  · have c' : ¬ (k : Int) < ((ns.map V.int).length : Int) := fun z => c (decide_eq_true z)
    have e : cellM ns k = 0 := by
      unfold cellM
      simp [List.getElem?_eq_none_iff.mpr (show ns.length ≤ k by omega)]
    rw [e] at q
    exact q
theorem pure_l_same (hN : N.length = 2) (h : sp_l_same G vs H Q E) : t_l_same G E (endsOf Q) (L2.start N vs) H := by
  obtain ⟨v, w, rfl, hv, hw, q⟩ := h
  rw [start_eq hN]
  got_up
  rcases hw with rfl | ⟨s, rfl⟩
  · refine iteT ?_
    got_up
    exact q
  · refine iteF ?_
    got_up
    rcases hv with rfl | ⟨t, rfl⟩
    · refine ⟨_, _, _, _, false, rfl, .ty _, .base .non, kit_ty (by decide +kernel), ?_⟩
      got_up
      exact iteF q
    · refine ⟨_, _, _, _, true, rfl, .ty _, .base (.str _), kit_ty (by decide +kernel), ?_⟩
      got_up
      exact q
theorem pure_l_signs (hN : N.length = 9) (h : sp_l_signs G vs H Q E) : t_l_signs G E (endsOf Q) (L2.start N vs) H := by
  obtain ⟨c, rfl, q⟩ := h
  rw [start_eq hN]
  got_up
  refine ⟨Nat.zero_le _, fun f nf => ?_⟩
  got_up
  have hz1 : 0 ≤ c / 3 % 8 := Int.emod_nonneg _ (by decide)
  have hz2 : c / 3 % 8 < 8 := Int.emod_lt_of_pos _ (by decide)
  have hL : ("abcdefghijklmnopqrstuvwxyz" : PySem.Str) = lts := rfl
  refine for_rg (n := 4) ⟨by decide, by decide⟩ (fun i σ' H' => (∃ v4 v5 v6 v7 v8, σ' = [some (.int c), some (.str lts), some (.int (1 + c / 3 % 8)), some (.ref f), v4, v5, v6, v7, v8]) ∧ Same H H' ∧ ∃ ss : List PySem.Str, ss.length = i ∧ (∀ s ∈ ss, GoodS s) ∧ H' f = some (.lst (ss.map V.str)))
    ⟨⟨none, none, none, none, none, rfl⟩, fun b o e => by rw [upd_ne (ne_of_none e nf)]; exact e, [], rfl, by simp, upd_same⟩ ?_ ?_
  · rintro i σ' H' hi ⟨⟨v4, v5, v6, v7, v8, rfl⟩, sm, ss, hl, hg, hf⟩
    have hz : ss.length ≤ 100000 := by omega
    have fin : ∀ (s : PySem.Str) (H2 : Hp), GoodS s → H2 = upd H' f (.lst (ss.map V.str ++ [.str s])) → Same H H2 ∧ ∃ ss' : List PySem.Str, ss'.length = i + 1 ∧ (∀ s ∈ ss', GoodS s) ∧ H2 f = some (.lst (ss'.map V.str)) := by
      rintro s H2 hs rfl
      refine ⟨fun b o e => by rw [upd_ne (ne_of_none e nf)]; exact sm b o e, ss ++ [s], by simp [hl], fun x hx => ?_, ?_⟩
      · rcases List.mem_append.mp hx with h | h
        · exact hg x h
        · rw [List.mem_singleton.mp h]; exact hs
      · rw [upd_same, List.map_append]; rfl
    have hm : (ss.map V.str).length < sizeLine := by
      rw [List.length_map]
      exact Nat.lt_of_le_of_lt (show ss.length ≤ 1000 by omega) (by decide)
    obtain ⟨c1, hc1, lc1⟩ := lts_at (i := (c / 24 + 7 * (i : Int)) % 26) (Int.emod_nonneg _ (by decide)) (Int.emod_lt_of_pos _ (by decide))
    got_up
    refine ⟨lts, _, c1, rfl, rfl, by decide, hc1, ?_⟩
    got_up
    refine ite2 (fun e => ?_) (fun e => ?_)
    · got_up
      refine ⟨.inl ⟨rfl, _, SqL.of hf⟩, ?_⟩
      obtain ⟨c2, hc2, lc2⟩ := lts_at (i := (c / 24) % 26) (Int.emod_nonneg _ (by decide)) (Int.emod_lt_of_pos _ (by decide))
      got_up
      refine ⟨lts, _, c2, rfl, rfl, by decide, hc2, ?_⟩
      got_up
      refine ⟨by rw [len_one]; decide, by omega, by omega, ?_⟩
      got_up
      refine ⟨f, _, _, rfl, rfl, hf, hm, ?_⟩
      refine ⟨⟨_, _, _, _, _, rfl⟩, fin _ _ ⟨?_, ?_, low_rep (low_one lc2)⟩ rfl⟩
      · rw [repS_len, len_one]; omega
      · rw [repS_len, len_one]; omega
    · have hz3 : 0 ≤ c / 5 % (1 + c / 3 % 8) := Int.emod_nonneg _ (by omega)
      have hz4 : c / 5 % (1 + c / 3 % 8) < 1 + c / 3 % 8 := Int.emod_lt_of_pos _ (by omega)
      have hz5 : 0 ≤ c % 3 := Int.emod_nonneg _ (by decide)
      have hz6 : c % 3 < 3 := Int.emod_lt_of_pos _ (by decide)
      got_up
      obtain ⟨c2, hc2, lc2⟩ := lts_at (i := 1 + c / 3 % 8) (by omega) (by omega)
      refine ⟨lts, _, c2, rfl, rfl, by decide, hc2, ?_⟩
      got_up
      refine ⟨by rw [len_one]; decide, by omega, by omega, ?_⟩
      got_up
      obtain ⟨c3, hc3, lc3⟩ := lts_at (i := 1 + c / 3 % 8 + c % 3) (by omega) (by omega)
      refine ⟨lts, _, c3, rfl, rfl, by decide, hc3, ?_⟩
      got_up
      refine ⟨by rw [len_one]; decide, by omega, by omega, ?_⟩
      got_up
      refine ⟨.inl ⟨rfl, _, SqL.of hf⟩, ?_⟩
      got_up
      refine ⟨by rw [repS_len, len_one, len_one]; exact line8 (by omega), ?_⟩
      got_up
      refine ⟨by rw [cat_len, repS_len, repS_len, len_one, len_one, len_one]; exact line8 (by omega), ?_⟩
      got_up
      refine ⟨f, _, _, rfl, rfl, hf, hm, ?_⟩
      refine ⟨⟨_, _, _, _, _, rfl⟩, fin _ _ ⟨?_, ?_, low_cat (low_cat (low_rep (low_one lc2)) (low_one lc1)) (low_rep (low_one lc3))⟩ rfl⟩
      · rw [cat_len, cat_len, repS_len, repS_len, len_one, len_one, len_one]; omega
      · rw [cat_len, cat_len, repS_len, repS_len, len_one, len_one, len_one]; omega
  · rintro σ' H' ⟨⟨v4, v5, v6, v7, v8, rfl⟩, sm, ss, hl, hg, hf⟩
    got_up
    exact q f ss H' nf sm hl hg hf
end
end LT

set_option Elab.async false
set_option linter.all false
set_option maxRecDepth 100000
set_option maxHeartbeats 4000000
/-! LTd: sum of lists. -/
namespace LT
open PySem PySem.Spec PyProof.Rows L2
section
variable {prog : Program} {w : World} {A : Around} {R : Result → Shared → Prop}
theorem isL_size {h : Heap} {a : Addr} {o : Obj} (e : h.get? a = some o) : a < h.objs.size := Heap.lt_size e
/-- the loop of sum over lists: r holds what is added so far -/
theorem sumL_loop {I : Addr} {fp wr : List Addr} {n : Nat} {Pw : Nat → Value → Prop} {St : Nat → Heap → Prop} (W : Walks prog w A.in1 I fp wr n Pw St) (B : Heap) (xss : List (List Value)) (hn : xss.length = n)
    (hval : ∀ i v, Pw i v → ∃ (a : Addr) (its : List Value) (c : Nat), v = .ref a ∧ xss[i]? = some its ∧ B.get? a = some { cls := .type "list", data := .seq its.toArray c })
    (hz : xss.flatten.length ≤ sizeLine) (S : Addr) (hSf : S ∉ fp) (hex : ∀ i h, St i h → ∀ b ∈ fp, b < h.objs.size) (hwB : ∀ b ∈ wr, B.get? b = none) :
    ∀ (k i : Nat) (s : Shared) (r : Addr) (c c2 : Nat), n - i = k → i ≤ n → St i s.heap → s.heap.get? S = some { cls := .type "list", dict := none, data := .seq #[.ref r] c, slots := #[] } →
      s.heap.get? r = some { cls := .type "list", data := .seq ((xss.take i).flatten).toArray c2 } → (r ≠ S ∧ r ∉ wr) → (i = 0 ∨ B.objs.size ≤ r) → (∀ b o, B.get? b = some o → s.heap.get? b = some o) →
      B.objs.size ≤ S → (∀ h' tk r' c', (∀ b o, B.get? b = some o → h'.get? b = some o) → h'.get? r' = some { cls := .type "list", data := .seq xss.flatten.toArray c' } → (n = 0 ∨ B.objs.size ≤ r') → R (.ok (.ret (.ref r'))) { s with heap := h', toks := tk }) →
      codeAny (model prog w) A (.builtin "sum.loop" ⟨[.ref I, .ref S, rawInt 2, rawInt 0], []⟩) R s := by
  have hSw : S ∉ wr := fun h => hSf (W.sub _ h)
  intro k
  induction k with
  | zero =>
    intro i s r c c2 hk hi hst hS hr hne h0 hB hSB hR
    have hin : i = n := by omega
    subst hin
    refine codeAny_builtin F.entry_sum_loop ?_
    rw [Around.under_plainId F.plain_sum_loop _]
    show wpAny _ A.in1 (seqItems? (.ref S) >>= _) _ _ s
    refine wpAny_bind (wpAny_seqItems hS rfl ?_)
    show wpAny _ A.in1 (tryCatch (pyNext (.ref I)) _ >>= _) _ _ s
    refine wpAny_bind (wpAny_tryCatch (W.done s _ _ hst fun h' tk hk' => ?_))
    refine wpAny_pure (hR h' tk r c2 (fun b o e => hk' b o (fun hb => ?_) (hB b o e)) ?_ h0)
    · rw [hwB b hb] at e; cases e
    · rw [← hn, List.take_length] at hr
      exact hk' _ _ hne.2 hr
  | succ k ih =>
    intro i s r c c2 hk hi hst hS hr hne h0 hB hSB hR
    have hlt : i < n := by omega
    refine codeAny_builtin F.entry_sum_loop ?_
    rw [Around.under_plainId F.plain_sum_loop _]
    show wpAny _ A.in1 (seqItems? (.ref S) >>= _) _ _ s
    refine wpAny_bind (wpAny_seqItems hS rfl ?_)
    show wpAny _ A.in1 (tryCatch (pyNext (.ref I)) _ >>= _) _ _ s
    refine wpAny_bind (wpAny_tryCatch (W.item i s _ _ hlt hst fun v h' tk hP hst' hk' => ?_))
    obtain ⟨a, its, ca, rfl, hx, ha⟩ := hval i v hP
    have hS' := hk' S _ hSw hS
    have hr' := hk' r _ hne.2 hr
    have ha' : h'.get? a = some { cls := .type "list", data := .seq its.toArray ca } := hk' a _ (fun hb => by rw [hwB a hb] at ha; cases ha) (hB a _ ha)
    have hle : ((xss.take i).flatten).length + its.length ≤ sizeLine := by
      refine Nat.le_trans ?_ hz
      have e1 : xss = xss.take i ++ its :: xss.drop (i + 1) := take_split hx
      rw [e1, List.flatten_append, List.flatten_cons, List.length_append, List.length_append, List.take_append_of_le_length (by rw [List.length_take]; omega), List.take_take, Nat.min_self]
      omega
    show wpAny _ A.in1 ((holding [.ref a] (binaryOp .Add (.ref r) (.ref a))).attempt >>= _) _ _ _
    refine wpAny_bind (wpAny_attempt (wpAny_holding (PySem.P.add_list (s := { s with heap := h', toks := tk }) hr' ha' ?_ (by rw [List.size_toArray, List.size_toArray]; exact hle))))
    have hpS : S < h'.objs.size := isL_size hS'
    have hfp' := hex _ _ hst'
    show wpAny _ A.in1 (updateSeq S (fun _ => #[.ref h'.objs.size]) >>= _) _ _ _
    have hS2 : (h'.push { cls := .type "list", data := .seq (((xss.take i).flatten).toArray ++ its.toArray) }).get? S = some { cls := .type "list", dict := none, data := .seq #[.ref r] c, slots := #[] } := Heap.get?_push_of_some _ hS'
    refine wpAny_bind (wpAny_updateSeq hS2 rfl ?_)
    refine wpAny_bind (wpAny_letGo ?_)
    show wpAny _ A.in1 (updateSeq S (fun _ => #[.ref h'.objs.size]) >>= _) _ _ _
    have hS3 := Heap.get?_update_self (Obj.mapSeq fun _ => #[Value.ref h'.objs.size]) hS2 rfl
    refine wpAny_bind (wpAny_updateSeq hS3 rfl ?_)
    have hS4 := Heap.get?_update_self (Obj.mapSeq fun _ => #[Value.ref h'.objs.size]) hS3 rfl
    have keep : ∀ b o, b ≠ S → h'.get? b = some o → ((((h'.push { cls := .type "list", data := .seq (((xss.take i).flatten).toArray ++ its.toArray) }).update S (Obj.mapSeq fun _ => #[Value.ref h'.objs.size])).update S (Obj.mapSeq fun _ => #[Value.ref h'.objs.size]))).get? b = some o := fun b o hb e => by
      rw [Heap.get?_update_other _ _ (Ne.symm hb), Heap.get?_update_other _ _ (Ne.symm hb)]
      exact Heap.get?_push_of_some _ e
    have hpB : B.objs.size ≤ h'.objs.size := Nat.le_trans hSB (Nat.le_of_lt hpS)
    have hpn : S ≠ h'.objs.size := Nat.ne_of_lt hpS
    refine wpAny_pure ⟨plainId_quiet F.plain_sum_loop _, ih (i + 1) _ h'.objs.size _ 0 (by omega) hlt (W.frame _ _ _ hst' fun b hb o e => keep b o (fun z => hSf (z ▸ hb)) e) hS4 ?_ ⟨Ne.symm hpn, fun hb => ?_⟩ (.inr hpB) (fun b o e => keep b o (fun z => ?_) (hk' b o (fun hb => ?_) (hB b o e))) hSB ?_⟩
    · rw [Heap.get?_update_other _ _ hpn, Heap.get?_update_other _ _ hpn, Heap.get?_push_size _ rfl]
      rw [take_snoc hx, List.flatten_append]
      simp
    · exact absurd (hfp' _ (W.sub _ hb)) (Nat.lt_irrefl _)
    · rw [z] at e; exact absurd (Nat.lt_of_lt_of_le (isL_size e) hSB) (Nat.lt_irrefl _)
    · rw [hwB b hb] at e; cases e
    · exact fun h'' tk' r' c' h1 h2 h3 => hR h'' tk' r' c' h1 h2 h3
end
theorem args_sum_2 (a b : Value) : argsOk "sum" ⟨[a, b], []⟩ := by unfold argsOk; kernel_rfl
theorem sub_l_bytes : isSubtype (.type "list") (.type "bytes") = pure false := by rw [isSubtype_type]; kernel_rfl
theorem sub_l_bytearray : isSubtype (.type "list") (.type "bytearray") = pure false := by rw [isSubtype_type]; kernel_rfl
theorem sub_l_str : isSubtype (.type "list") (.type "str") = pure false := by rw [isSubtype_type]; kernel_rfl
/-- the lists' items, as the machine has them -/
theorem lists_at {X : Cx} {pins : List (Addr × Obj)} {σ : L2.St} {H : Hp} {s : Shared} (I : L2.Inv X pins σ H s) : ∀ {ls : List Addr} {xss : List (List V)}, Paired (fun l xs => H l = some (.lst xs)) ls xss →
    ∃ iss : List (List Value), iss.length = ls.length ∧ Vals xss.flatten iss.flatten ∧ ∀ (i : Nat) (l : Addr), ls[i]? = some l → ∃ (its : List Value) (c : Nat), iss[i]? = some its ∧ s.heap.get? l = some { cls := .type "list", data := .seq its.toArray c }
  | _, _, .nil => ⟨[], rfl, .nil, fun i l e => by simp at e⟩
  | l :: ls, xs :: xss, .cons h t => by
    obtain ⟨iss, h1, h2, h3⟩ := lists_at I t
    obtain ⟨z, its, n, r, hl, e⟩ := I.lstM h
    refine ⟨its :: iss, by simp [h1], by simpa using r.append h2, fun i l' e' => ?_⟩
    cases i with
    | zero =>
      have : l = l' := by simpa using e'
      subst this
      exact ⟨its, n, rfl, e⟩
    | succ i =>
      obtain ⟨its', c, g1, g2⟩ := h3 i l' (by simpa using e')
      exact ⟨its', c, by simpa using g1, g2⟩
abbrev oSumL (K : PySem.W.Frag) : List V → Hp → VK → Prop := fun vs H Q => ∃ (a b : Addr) (ls : List Addr) (xss : List (List V)), vs = [.ref a, .ref b] ∧ SqL K H a (ls.map V.ref) ∧ Paired (fun l xs => H l = some (.lst xs)) ls xss ∧ H b = some (.lst []) ∧ xss.flatten.length ≤ 1000000 ∧ ls ≠ [] ∧
  ∀ r, H r = none → Q (.ref r) (upd H r (.lst xss.flatten))
theorem cr_sumL {X : Cx} (hc : X.calm = true) : CallR X (.builtin "sum") (oSumL X.K) := by
  intro pins s σ H vs us Q I r h
  obtain ⟨a, b, ls, xss, rfl, hs, hx, hb, hz, hne, q⟩ := h
  obtain ⟨its, rv, hl, _⟩ := I.list hs
  obtain ⟨u1, u2, rfl, r1, r2⟩ := vals2 r
  cases (show u1 = Value.ref a from r1)
  cases (show u2 = Value.ref b from r2)
  obtain ⟨iss, h1, h2, h3⟩ := lists_at I hx
  obtain ⟨zb, itb, nb, rb, hlb, eb⟩ := I.lstM hb
  have eitb : itb = [] := by cases rb; rfl
  subst eitb
  have hfl : xss.flatten.length = iss.flatten.length := h2.length
  have hits : its.toArray.size = iss.length := by
    rw [List.size_toArray, ← rv.length, List.length_map, h1]
  refine call_function_tree F.kind_sum F.plain_sum F.entry_sum (args_sum_2 _ _) ?_
  unfold Builtin.«sum»
  simp only [List.length_cons, List.length_nil]
  rw [if_neg (by decide)]
  refine wpAny_bind (wpAny_of_eq (show Builtin.Builtins.bindParams "sum" ["start"] 0 ⟨[.ref b], []⟩ = pure [some (.ref b)] from rfl) ?_)
  refine wpAny_bind (iter_any hl.isList fun s₂ e2 st hne2 => ?_)
  have tb : ∀ hp : Heap, (∀ o, s.heap.get? b = some o → hp.get? b = some o) → Shared.TypeIs { s with heap := hp } (.ref b) "list" := fun hp k => ⟨_, k _ eb, rfl⟩
  subst e2
  have tb2 := tb _ fun o e => Heap.get?_push_of_some { cls := .type "list_iterator", data := .fields #[.ref a, .int 0 0] } e
  refine wpAny_bind (wpAny_pure ?_)
  simp only [List.forIn_cons, List.forIn_nil]
  refine wpAny_bind (wpAny_bind (wpAny_bind (wpAny_isInstance (T := "list") (b := false) tb2 sub_l_str ?_)))
  simp only [Bool.false_eq_true, if_false]
  refine wpAny_pure (wpAny_bind (wpAny_bind (wpAny_isInstance (T := "list") (b := false) tb2 sub_l_bytes ?_)))
  simp only [Bool.false_eq_true, if_false]
  refine wpAny_pure (wpAny_bind (wpAny_bind (wpAny_isInstance (T := "list") (b := false) tb2 sub_l_bytearray ?_)))
  simp only [Bool.false_eq_true, if_false]
  refine wpAny_pure (wpAny_pure ?_)
  refine wpAny_bind (wpAny_newObj_type ?_)
  have hn0 : its.toArray.size ≠ 0 := by
    rw [hits, h1]
    exact fun z => hne (List.length_eq_zero_iff.mp z)
  have hsz : (s.heap.push { cls := .type "list_iterator", data := .fields #[.ref a, .int 0 0] }).objs.size = s.heap.objs.size + 1 := by simp [Heap.push]
  refine wpAny_pure ⟨plainId_quiet F.plain_sum_loop _, sumL_loop (Walks.list (A := X.A.in1) (I.ok.hd hc) s.heap.objs.size a hne2 its.toArray) s.heap iss hits.symm (fun i v hv => ?_) (by rw [← hfl]; have := sizeLine_eq; omega) _ ?_ (fun i hp st' b' hb' => ?_) (fun b' hb' => ?_)
    its.toArray.size 0 _ b 0 nb rfl (Nat.zero_le _) ?_ (Heap.get?_push_size _ rfl) ?_ ⟨?_, ?_⟩ (.inl rfl) (fun b' o e => Heap.get?_push_of_some _ (Heap.get?_push_of_some _ e)) (Nat.le_trans (Nat.le_succ _) (Nat.le_of_eq hsz.symm)) ?_⟩
  · have hv' : its[i]? = some v := by simpa using hv
    have hlen := rv.length
    have hi : i < ls.length := by
      have := (List.getElem?_eq_some_iff.mp hv').1
      rw [← hlen, List.length_map] at this
      exact this
    have hv2 : ls[i]? = some ls[i] := List.getElem?_eq_getElem hi
    obtain ⟨its', c, g1, g2⟩ := h3 i _ hv2
    refine ⟨ls[i], its', c, ?_, g1, g2⟩
    obtain ⟨u, gu, ru⟩ := rv.get (i := i) (x := .ref ls[i]) (by rw [List.getElem?_map, hv2]; rfl)
    rw [hv'] at gu
    cases gu
    exact ru
  · intro hm
    have hal : a < s.heap.objs.size := by obtain ⟨_, e, _⟩ := hl.isList; exact isL_size e
    rcases List.mem_cons.mp hm with e | hm
    · exact Nat.succ_ne_self _ (hsz.symm.trans e)
    · rcases List.mem_cons.mp hm with e | hm
      · exact Nat.lt_irrefl _ (Nat.lt_of_le_of_lt (Nat.le_trans (Nat.le_succ _) (Nat.le_of_eq (hsz.symm.trans e))) hal)
      · cases hm
  · obtain ⟨⟨o1, g1, _⟩, ⟨o2, g2, _⟩⟩ := st'
    rcases List.mem_cons.mp hb' with e | hb'
    · rw [e]; exact isL_size g1
    · rcases List.mem_cons.mp hb' with e | hb'
      · rw [e]; exact isL_size g2
      · cases hb'
  · rcases List.mem_cons.mp hb' with e | hb'
    · rw [e]; exact Heap.get?_none_of_le (Nat.le_refl _)
    · cases hb'
  · exact ⟨st.1.at fun o e => Heap.get?_push_of_some _ e, st.2.at fun o e => Heap.get?_push_of_some _ e⟩
  · exact Heap.get?_push_of_some _ (Heap.get?_push_of_some _ eb)
  · have hbl := isL_size eb
    intro z
    exact Nat.lt_irrefl _ (Nat.lt_of_le_of_lt (Nat.le_trans (Nat.le_succ _) (Nat.le_of_eq (hsz.symm.trans (Eq.symm z)))) hbl)
  · have hbl := isL_size eb
    intro z
    rcases List.mem_cons.mp z with e | z
    · exact Nat.lt_irrefl _ (e ▸ hbl)
    · cases z
  · intro h' tk r' c' hk hr' hcase
    have hr2 : s.heap.objs.size ≤ r' := by
      rcases hcase with z | z
      · exact absurd z hn0
      · exact z
    refine ⟨.ref r', _, I.laid (o := .lst xss.flatten) (t' := tk) hk hr2 ⟨by have := sizeLine_eq; omega, iss.flatten, c', h2, hr'⟩, rfl, q r' (I.hok.fresh hr2)⟩
end LT

set_option Elab.async false
set_option linter.all false
set_option maxRecDepth 100000
set_option maxHeartbeats 4000000
namespace LT
open PySem PySem.Spec PyProof.Rows L2
local macro_rules | `(tactic| got_up) => `(tactic| repeat (first
  | refine ⟨_, rfl, ?_⟩
  | refine ⟨_, _, rfl, rfl, ?_⟩
  | refine ⟨rfl, ?_⟩
  | refine ⟨_, _, rfl, ?_⟩
  | refine ⟨(.inl ⟨by decide, by decide⟩ : CMul _ _), ?_⟩
  | refine ⟨(by show (0 : Int) < _; first | decide | omega), ?_⟩
  | refine ⟨(⟨by first | decide | omega, by first | decide | omega⟩ : CDiv _ _), ?_⟩))
/-! LTe: hands, paths. -/
/-! ### the mathematics -/
def hearersM (n : Nat) (p : List Nat) : List Nat := (List.range n).filter fun h => decide (h ∉ p)
def stepM (n : Nat) (ps : List (List Nat)) : List (List Nat) := ps.flatMap fun p => (hearersM n p).map fun h => p ++ [h]
def itM (n : Nat) : Nat → List (List Nat)
  | 0 => [[0]]
  | k + 1 => stepM n (itM n k)
/-- all paths of k hands, k ≥ 1, that have a hearer -/
def pathsOf (n k : Nat) : List (List Nat) := if k < n then itM n (k - 1) else []
def pathsM (n m : Nat) : List (List Nat) := (List.range (m + 1)).flatMap fun k => pathsOf n (k + 1)
theorem hearersM_len (n : Nat) (p : List Nat) : (hearersM n p).length ≤ n := by
  unfold hearersM
  exact Nat.le_trans (List.length_filter_le _ _) (by rw [List.length_range]; exact Nat.le_refl _)
theorem mem_hearersM {n h : Nat} {p : List Nat} : h ∈ hearersM n p ↔ h < n ∧ h ∉ p := by
  unfold hearersM
  simp [List.mem_filter, List.mem_range]
theorem itM_len {n : Nat} : ∀ {k : Nat} {p : List Nat}, p ∈ itM n k → p.length = k + 1
  | 0, p, h => by
    have : p = [0] := List.mem_singleton.mp h
    rw [this]; rfl
  | k + 1, p, h => by
    obtain ⟨q, hq, hp⟩ := List.mem_flatMap.mp h
    obtain ⟨x, _, rfl⟩ := List.mem_map.mp hp
    rw [List.length_append, itM_len hq]
    rfl
theorem flatMap_len {α β : Type} {f : α → List β} {m : Nat} (h : ∀ x, (f x).length ≤ m) : ∀ l : List α, (l.flatMap f).length ≤ l.length * m
  | [] => by simp
  | x :: l => by
    rw [List.flatMap_cons, List.length_append, List.length_cons, Nat.succ_mul, Nat.add_comm]
    exact Nat.add_le_add (flatMap_len h l) (h x)
theorem stepM_len (n : Nat) (ps : List (List Nat)) : (stepM n ps).length ≤ ps.length * n :=
  flatMap_len (fun p => by rw [List.length_map]; exact hearersM_len n p) ps
theorem itM_count {n : Nat} : ∀ k, (itM n k).length ≤ n ^ k
  | 0 => by simp [itM]
  | k + 1 => by
    rw [Nat.pow_succ]
    exact Nat.le_trans (stepM_len n _) (Nat.mul_le_mul_right n (itM_count k))
/-- the program's step: no path that all are on -/
def longerM (n : Nat) (ps : List (List Nat)) : List (List Nat) := ps.flatMap fun p => if p.length + 1 < n then (hearersM n p).map fun h => p ++ [h] else []
theorem longerM_eq {n k : Nat} (h : k + 2 < n) : longerM n (itM n k) = itM n (k + 1) := by
  show (itM n k).flatMap _ = (itM n k).flatMap _
  unfold List.flatMap
  congr 1
  refine List.map_congr_left fun p hp => ?_
  rw [itM_len hp, if_pos h]
theorem longerM_nil {n k : Nat} (h : ¬ k + 2 < n) : longerM n (itM n k) = [] := by
  show (itM n k).flatMap _ = []
  rw [List.flatMap_eq_nil_iff]
  intro p hp
  rw [itM_len hp, if_neg h]
theorem longerM_of {n k : Nat} (h1 : 1 ≤ k) : longerM n (pathsOf n k) = pathsOf n (k + 1) := by
  unfold pathsOf
  by_cases h : k < n
  · rw [if_pos h]
    by_cases h2 : k + 1 < n
    · rw [if_pos h2, longerM_eq (by omega)]
      congr 1
      omega
    · rw [if_neg h2, longerM_nil (by omega)]
  · rw [if_neg h, if_neg (by omega)]
    rfl
theorem pathsOf_count {n k : Nat} (hn : n ≤ 10) (hk : k ≤ 3) : (pathsOf n k).length ≤ 100 := by
  unfold pathsOf
  split
  · refine Nat.le_trans (itM_count _) ?_
    refine Nat.le_trans (Nat.pow_le_pow_left hn _) ?_
    exact Nat.pow_le_pow_right (by decide) (show k - 1 ≤ 2 by omega)
  · simp
theorem inV_vn (d : Nat) : ∀ p : List Nat, inV (vn d) (p.map vn) = decide (d ∈ p)
  | [] => rfl
  | x :: p => by
    have ih := inV_vn d p
    unfold inV at ih ⊢
    rw [List.map_cons, List.any_cons, ih]
    have e : eqV (vn x) (vn d) = decide (d = x) := by
      show ((x : Int) == (d : Int)) = decide (d = x)
      by_cases h : d = x
      · subst h; simp
      · rw [decide_eq_false h]
        exact beq_eq_false_iff_ne.mpr (by omega)
    rw [e]
    by_cases h : d = x <;> simp [h]
theorem flat_vn : ∀ p : List Nat, (p.map vn).all flatV = true
  | [] => rfl
  | x :: p => by
    rw [List.map_cons, List.all_cons, flat_vn p]
    rfl

/-! ### promises -/
/-- a new list that stands for ds is given back; what stood stands -/
def Fresh {α : Type} (R : α → V → Hp → Prop) (ds : List α) (H : Hp) (Q : VK) : Prop := ∀ (l : Addr) (ys : List V) (H' : Hp), H l = none → Same H H' → H' l = some (.lst ys) → All2 R ds ys H' → Q (.ref l) H'
/-- a value whose kind is known -/
inductive Kn (H : Hp) : V → Prop
  | non : Kn H .non
  | bl (b : Bool) : Kn H (.bl b)
  | int (i : Int) : Kn H (.int i)
  | str (s : PySem.Str) : Kn H (.str s)
  | lst {a : Addr} {xs : List V} : H a = some (.lst xs) → Kn H (.ref a)
  | tup {a : Addr} {xs : List V} : H a = some (.tup xs) → Kn H (.ref a)
theorem Kn.mono {H H' : Hp} {v : V} (s : Same H H') (h : Kn H v) : Kn H' v := by
  cases h with
  | non => exact .non
  | bl b => exact .bl b
  | int i => exact .int i
  | str x => exact .str x
  | lst e => exact .lst (s _ _ e)
  | tup e => exact .tup (s _ _ e)
def isW : V → Bool
  | .int _ => true
  | _ => false
def sp_is_whole (G : G3) : Sp := fun vs H Q _ => ∃ v, vs = [v] ∧ Kn H v ∧ Q (.bl (isW v)) H
def sp_hearers (G : G3) : Sp := fun vs H Q _ => ∃ (n : Nat) (p : List Nat) (v : V), vs = [vn n, v] ∧ n ≤ 1000 ∧ rPath p v H ∧ Fresh rN (hearersM n p) H Q
def sp_longer (G : G3) : Sp := fun vs H Q _ => ∃ (n : Nat) (ps : List (List Nat)) (v : V), vs = [vn n, v] ∧ n ≤ 100 ∧ ps.length ≤ 10000 ∧ rLst G.K rPath ps v H ∧ Fresh rPath (longerM n ps) H Q
def sp_paths_of (G : G3) : Sp := fun vs H Q _ => ∃ (n k : Nat), vs = [vn n, vn k] ∧ 2 ≤ n ∧ n ≤ 10 ∧ 1 ≤ k ∧ k ≤ 3 ∧ Fresh rPath (pathsOf n k) H Q
/-- is_whole: slots 0 value -/
def t_is_whole (G : G3) (E : XK) : TS :=
  (tRet (tAndV (tCB (rIsi G.K) (tCons (tVar 0) (tCons (tC (.ty "int")) tNil))) (tNotV (tCB (rIsi G.K) (tCons (tVar 0) (tCons (tC (.ty "bool")) tNil))))))
/-- hearers: slots 0 hands 1 path 2 hand -/
def t_hearers (G : G3) (E : XK) : TS :=
  (tRet (tLc (iRng1 (tCons (tVar 0) tNil)) (gName 2) (tTest (tOp (rIn G.K true) (tVar 2) (tVar 1))) (tVar 2) [2]))
/-- longer: slots 0 hands 1 paths_before 2 found 3 path 4 hand -/
def t_longer (G : G3) (E : XK) : TS :=
  (tSeq (tAsg (tLst tNil) (gName 2))
  (tSeq (tFor (iList G.K (tVar 1)) (gName 3) (tFor (iList G.K (tCall (sp_hearers G) [] E0 (tCons (tVar 0) (tCons (tVar 3) tNil)))) (gName 4) (tIfS (tTest (tOp oLt (tOp oAdd (tCB (oLen G.K) (tCons (tVar 3) tNil)) (tC (.int 1))) (tVar 0))) (tDrop (tBM G.K "list" rAppend (tVar 2) (tCons (tOp (rCatA G.K) (tVar 3) (tTup (tCons (tVar 4) tNil))) tNil))) tNext)))
  (tRet (tVar 2))))
/-- paths_of: slots 0 hands 1 size 2 found 3 turn -/
def t_paths_of (G : G3) (E : XK) : TS :=
  (tSeq (tAsg (tLst (tCons (tTup (tCons (tC (.int 0)) tNil)) tNil)) (gName 2))
  (tSeq (tFor (iRng1 (tCons (tOp oSub (tVar 1) (tC (.int 1))) tNil)) (gName 3) (tAsg (tCall (sp_longer G) [] E0 (tCons (tVar 0) (tCons (tVar 2) tNil))) (gName 2)))
  (tRet (tVar 2))))
section
variable {G : G3} {N : List PySem.Str} {vs : List V} {H : Hp} {Q : VK} {E : XK}
theorem pure_is_whole (hN : N.length = 1) (h : sp_is_whole G vs H Q E) : t_is_whole G E (endsOf Q) (L2.start N vs) H := by
  obtain ⟨v, rfl, hv, q⟩ := h
  rw [start_eq hN]
  got_up
  cases hv with
  | non => refine ⟨_, _, _, _, false, rfl, .ty _, .base .non, kit_ty (by decide +kernel), ?_⟩; exact ⟨_, rfl, iteF q⟩
  | bl b =>
    refine ⟨_, _, _, _, true, rfl, .ty _, .base (.bl b), kit_ty (by decide +kernel), ?_⟩
    got_up
    refine ⟨_, _, _, _, true, rfl, .ty _, .base (.bl b), kit_ty (by decide +kernel), ?_⟩
    got_up
    exact q
  | int i =>
    refine ⟨_, _, _, _, true, rfl, .ty _, .base (.int i), kit_ty (by decide +kernel), ?_⟩
    got_up
    refine ⟨_, _, _, _, false, rfl, .ty _, .base (.int i), kit_ty (by decide +kernel), ?_⟩
    got_up
    exact q
  | str s => refine ⟨_, _, _, _, false, rfl, .ty _, .base (.str s), kit_ty (by decide +kernel), ?_⟩; exact ⟨_, rfl, iteF q⟩
  | lst e => refine ⟨_, _, _, _, false, rfl, .ty _, .base (.lst e), kit_ty (by decide +kernel), ?_⟩; exact ⟨_, rfl, iteF q⟩
  | tup e => refine ⟨_, _, _, _, false, rfl, .ty _, .base (.tup e), kit_ty (by decide +kernel), ?_⟩; exact ⟨_, rfl, iteF q⟩
theorem pure_hearers (hN : N.length = 3) (h : sp_hearers G vs H Q E) : t_hearers G E (endsOf Q) (L2.start N vs) H := by
  obtain ⟨n, p, v, rfl, hn, ⟨a, rfl, ha⟩, q⟩ := h
  rw [start_eq hN]
  got_up
  refine lc_rg (n := n) (S := rN) (by omega) monoT_rN (fun d => decide (d ∉ p)) (fun d => d) ?_ ?_
  · intro d H' hd sm Y N' hY hN'
    got_up
    refine ⟨a, _, rfl, .inr (SqT.of (sm _ _ ha)), rfl, flat_vn p, ?_⟩
    have e1 := inV_vn d p
    by_cases hp : d ∈ p
    · rw [e1, decide_eq_true hp]
      got_up
      exact hN' (decide_eq_false (not_not_intro hp)) _ (Same.refl _)
    · rw [e1, decide_eq_false hp]
      got_up
      exact hY (decide_eq_true hp) _ _ (Same.refl _) rfl
  · intro l ys H' nl sm hl hall
    rw [List.map_id'] at hall
    exact q l ys H' nl sm hl hall
theorem pure_longer (hN : N.length = 5) (h : sp_longer G vs H Q E) : t_longer G E (endsOf Q) (L2.start N vs) H := by
  obtain ⟨n, ps, v, rfl, hn, hps, ⟨a, xs, rfl, ha, hall⟩, q⟩ := h
  rw [start_eq hN]
  got_up
  refine ⟨Nat.zero_le _, fun f nf => ?_⟩
  have s0 : Same H (upd H f (.lst [])) := same_new nf
  got_up
  refine for_rl (R := rPath) (K := G.K) (ds := ps) mono_rPath ha hall (fun pre σ' H' => (∃ v3 v4, σ' = [some (vn n), some (.ref a), some (.ref f), v3, v4]) ∧ Same H H' ∧ ∃ ys, H' f = some (.lst ys) ∧ All2 rPath (longerM n pre) ys H')
    ⟨⟨none, none, rfl⟩, s0, [], upd_same, .nil⟩ (fun _ _ _ p => p.2.1) ?_ ?_
  · rintro pre p post v σ' H1 e ⟨⟨v3, v4, rfl⟩, s1, ys, hf, hys⟩ hp
    have hle : (longerM n pre).length ≤ 10000 * 100 := by
      refine Nat.le_trans (flatMap_len (m := n) (fun p => ?_) pre) (Nat.mul_le_mul ?_ hn)
      · split
        · rw [List.length_map]; exact hearersM_len n p
        · exact Nat.zero_le _
      · have := congrArg List.length e
        rw [List.length_append] at this
        omega
    obtain ⟨b, rfl, hb⟩ := hp
    got_up
    refine ⟨n, p, _, rfl, by omega, ⟨b, rfl, hb⟩, fun l hs H2 nl s2 hl hh => ?_⟩
    have hlf : l ≠ f := fun z => by rw [z, hf] at nl; cases nl
    got_up
    refine for_rl (R := rN) (K := G.K) (ds := hearersM n p) (H0 := off f H2) mono_rN (SqL.of (by rw [off_ne hlf]; exact hl)) (by exact All2.mono (R := rN) (fun _ _ _ _ _ h => h) (Same.refl _) hh) (fun pre2 σ' H' => (∃ v4, σ' = [some (vn n), some (.ref a), some (.ref f), some (.ref b), v4]) ∧ Same (off f H2) H' ∧ ∃ zs, H' f = some (.lst zs) ∧ All2 rPath (longerM n pre ++ if p.length + 1 < n then pre2.map fun h => p ++ [h] else []) zs H')
      ⟨⟨_, rfl⟩, off_same, ys, s2 _ _ hf, by split <;> simpa using All2.mono mono_rPath s2 hys⟩ (fun _ _ _ p => p.2.1) ?_ ?_
    · rintro pre2 h post2 v σ' H3 e2 ⟨⟨v4, rfl⟩, s3, zs, hz, hzs⟩ rfl
      have hb3 : H3 b = some (.tup (p.map vn)) := s3 _ _ (by rw [off_ne (ne_of hb hf (by simp))]; exact s2 _ _ hb)
      got_up
      refine ⟨b, _, rfl, .inr (SqT.of hb3), ?_⟩
      got_up
      refine ite2 (fun c => ?_) (fun c => ?_)
      · have c' : p.length + 1 < n := by
          have c2 : ((p.map vn).length : Int) + 1 < (n : Int) := of_decide_eq_true c
          rw [List.length_map] at c2
          omega
        rw [if_pos c'] at hzs
        got_up
        refine ⟨.inl ⟨rfl, _, SqL.of hz⟩, ?_⟩
        got_up
        refine ⟨by show 1 ≤ sizeLine; decide, fun t nt => ?_⟩
        have s4 : Same H3 (upd H3 t (.tup [vn h])) := same_new nt
        have hzl : zs.length < sizeLine := by
          rw [← hzs.len, List.length_append, List.length_map]
          have : pre2.length ≤ n := by
            have := congrArg List.length e2
            rw [List.length_append] at this
            have := hearersM_len n p
            omega
          exact Nat.lt_of_le_of_lt (show _ ≤ 1000100 by omega) (by decide)
        have fin : ∀ (u : Addr) (H4 : Hp), Same H3 H4 → H4 u = some (.tup ((p ++ [h]).map vn)) → rAppend (.ref f) [.ref u] H4 fun _ H' => (∃ v4, [some (vn n), some (V.ref a), some (.ref f), some (.ref b), some (vn h)] = [some (vn n), some (.ref a), some (.ref f), some (.ref b), v4]) ∧ Same (off f H2) H' ∧ ∃ zs, H' f = some (.lst zs) ∧ All2 rPath (longerM n pre ++ if p.length + 1 < n then (pre2 ++ [h]).map fun h => p ++ [h] else []) zs H' := by
          intro u H4 s5 hu
          refine ⟨f, zs, _, rfl, rfl, s5 _ _ hz, hzl, ⟨_, rfl⟩, fun b' o e => ?_, zs ++ [.ref u], upd_same, ?_⟩
          · by_cases hbf : b' = f
            · subst hbf
              rw [show off b' H2 b' = none by unfold off; rw [if_pos rfl]] at e
              cases e
            · rw [upd_ne hbf]; exact s5 _ _ (s3 _ _ e)
          · have hfree : ∀ (b' : Addr) (xs : List V), H4 b' = some (.tup xs) → (upd H4 f (.lst (zs ++ [.ref u]))) b' = some (.tup xs) := fun b' xs e => by
              rw [upd_ne (ne_of e (s5 _ _ hz) (by simp))]; exact e
            rw [if_pos c', List.map_append, ← List.append_assoc]
            refine All2.snoc ?_ ⟨u, rfl, hfree _ _ hu⟩
            exact Paired.mapP (All2.mono mono_rPath s5 hzs) fun d v r => monoT_rPath d v _ _ hfree r
        refine ⟨b, t, _, _, rfl, rfl, SqT.of (s4 _ _ hb3), SqT.of upd_same, ?_, fun z => ?_, ?_, ?_⟩
        · have : p.length + 1 ≤ 1000 := by omega
          rw [List.length_map]
          exact line8 (by show p.length + 1 ≤ 100000; omega)
        · have hp0 : p = [] := List.map_eq_nil_iff.mp z
          refine fin t _ s4 ?_
          rw [hp0]
          exact upd_same
        · intro _ z; cases z
        · intro _ _ u nu
          refine fin u _ (s4.trans (same_new nu)) ?_
          rw [upd_same, List.map_append]
          rfl
      · have c' : ¬ p.length + 1 < n := fun z => c (decide_eq_true (by
          show ((p.map vn).length : Int) + 1 < (n : Int)
          rw [List.length_map]
          omega))
        rw [if_neg c'] at hzs
        refine ⟨⟨_, rfl⟩, s3, zs, hz, ?_⟩
        rw [if_neg c']
        exact hzs
    · rintro σ' H3 ⟨⟨v4, rfl⟩, s3, zs, hz, hzs⟩
      refine ⟨⟨_, _, rfl⟩, fun b' o e => ?_, zs, hz, ?_⟩
      · exact s3 _ _ (by rw [off_ne (ne_of_none e nf)]; exact s2 _ _ (s1 _ _ e))
      · have e3 : longerM n (pre ++ [p]) = longerM n pre ++ if p.length + 1 < n then (hearersM n p).map fun h => p ++ [h] else [] := by
          unfold longerM
          rw [List.flatMap_append]
          simp
        rw [e3]
        exact hzs
  · rintro σ' H1 ⟨⟨v3, v4, rfl⟩, s1, ys, hf, hys⟩
    got_up
    exact q f ys H1 nf s1 hf hys
theorem pure_paths_of (hN : N.length = 4) (h : sp_paths_of G vs H Q E) : t_paths_of G E (endsOf Q) (L2.start N vs) H := by
  obtain ⟨n, k, rfl, hn2, hn, hk1, hk, q⟩ := h
  rw [start_eq hN]
  got_up
  refine ⟨by decide, fun t nt => ?_⟩
  refine ⟨by show 1 ≤ sizeLine; decide, fun f nf => ?_⟩
  have ht : H t = none := nt
  have sf : Same H (upd (upd H t (.tup [.int 0])) f (.lst [.ref t])) := (same_new nt).trans (same_new nf)
  have nfH : H f = none := (same_new nt).free nf
  have htf : t ≠ f := fun z => by rw [z, upd_same] at nf; cases nf
  got_up
  refine for_rg (n := _) ⟨by omega, by omega⟩ (fun i σ' H' => (∃ v3 l, σ' = [some (vn n), some (vn k), some (.ref l), v3] ∧ H l = none ∧ ∃ ys, H' l = some (.lst ys) ∧ All2 rPath (pathsOf n (i + 1)) ys H') ∧ Same H H')
    ⟨⟨none, f, rfl, nfH, _, upd_same, ?_⟩, sf⟩ ?_ ?_
  · have e : pathsOf n (0 + 1) = [[0]] := by
      unfold pathsOf
      rw [if_pos (by omega)]
      rfl
    rw [e]
    exact .cons ⟨t, rfl, by rw [upd_ne htf]; exact upd_same⟩ .nil
  · rintro i σ' H1 hi ⟨⟨v3, l, rfl, nl, ys, hl, hys⟩, s1⟩
    got_up
    refine ⟨n, pathsOf n (i + 1), .ref l, rfl, by omega, Nat.le_trans (pathsOf_count hn (by omega)) (by decide), ⟨l, ys, rfl, SqL.of hl, hys⟩, fun l2 ys2 H2 nl2 s2 hl2 hys2 => ?_⟩
    refine ⟨⟨_, l2, rfl, s1.free nl2, ys2, hl2, ?_⟩, s1.trans s2⟩
    rw [longerM_of (by omega)] at hys2
    exact hys2
  · rintro σ' H1 ⟨⟨v3, l, rfl, nl, ys, hl, hys⟩, s1⟩
    got_up
    have e : ((k : Int) - 1).toNat + 1 = k := by omega
    rw [e] at hys
    exact q l ys H1 nl s1 hl hys
end
end LT

set_option Elab.async false
set_option linter.all false
set_option maxRecDepth 100000
set_option maxHeartbeats 4000000
/-! LTf: exceptions caught, asked for their class; facts of the head beside the kit's own. -/
namespace LT
open PySem PySem.Spec PyProof.Rows L2
def tTry (tb : WX → TS) (w : Ends → WX) : TS := fun D σ H => tb (w D) D σ H
/-- what a call in a try's body wishes of what it lets out: the try's wish, whatever the n slots hold -/
abbrev EW (n : Nat) (W : WX) : XK := fun cls d H => ∀ σ : L2.St, σ.length = n → W cls d σ H
theorem passes_len {X : Cx} {W : WX} {n : Nat} (tk : Takes X W) (hn : X.N.length = n := by rfl) : Passes (L2.CX X.prog X.w) X (EW n W) :=
  fun _ σ _ _ e s' I c => tk e s' (XE.of_call I (fun cls d H' h => h σ (I.len.trans hn)) c)
/-- isinstance(e, c), e the exception in hand -/
def rIsEg (K : PySem.W.Frag) (cls : Value) (d : Option Addr) (a : Addr) : List V → Hp → VK → Prop := fun xs H Q => ∃ (D : Addr) (c : V) (cv : Value) (b : Bool), cls = .ref D ∧ d = none ∧ ExcC K D ∧ xs = [.ref a, c] ∧ ClsV c cv ∧ PySem.W.kitOne K (.ref D) cv = some b ∧ Q (.bl b) H
/-- isinstance(e, (c, ..)) -/
def rIsETg (K : PySem.W.Frag) (cls : Value) (d : Option Addr) (a : Addr) : List V → Hp → VK → Prop := fun xs H Q => ∃ (D tp : Addr) (cs : List V) (us : List Value) (b : Bool), cls = .ref D ∧ d = none ∧ ExcC K D ∧ xs = [.ref a, .ref tp] ∧ H tp = some (.tup cs) ∧ Paired ClsV cs us ∧ PySem.W.kitAny K (.ref D) us = some b ∧ Q (.bl b) H
section
variable {X : Cx} {a : Addr} {cls : Value} {d : Option Addr} {oe : Obj} {pn : List (Addr × Obj)}
theorem inst_at {pins : List (Addr × Obj)} {σ : L2.St} {H : Hp} {s : Shared} {D : Addr} (I : L2.Inv (X.suite a ((a, oe) :: pn)) pins σ H s) (hz : Zc (.ref D) none oe) (hf : ∃ vs, oe.data = .fields vs) : PySem.W.InstAt s.heap a oe D none := by
  obtain ⟨hget, _⟩ := I.pin (a, oe) (List.mem_append.mpr (.inl List.mem_cons_self))
  obtain ⟨vs, hv⟩ := hf
  obtain ⟨oc, od, oda, osl⟩ := oe
  obtain ⟨h1, h2⟩ := hz
  dsimp only at h1 h2 hv
  subst h1 h2 hv
  exact ⟨hget, rfl, rfl, trivial⟩
theorem call_isEg (hz : Zc cls d oe) (hf : ∃ vs, oe.data = .fields vs) : CallR (X.suite a ((a, oe) :: pn)) (.builtin "isinstance") (rIsEg X.K cls d a) := by
  intro pins s σ H xs us Q I r h
  obtain ⟨D, c, cv, b, rfl, rfl, C, rfl, hcv, e, q⟩ := h
  obtain ⟨u1, u2, rfl, r1, r2⟩ := vals2 r
  cases (show u1 = Value.ref a from r1)
  have e2 := hcv.eq r2
  subst e2
  exact PySem.W.kia_one (PySem.W.handS_kitx_exc C.hg C.hk C.hs C.hd C.ha C.hn C.ht C.hm) I.kIn (inst_at I hz hf) e (fun z => nomatch z) fun tk => ⟨.bl b, H, I.kept (t' := tk) fun _ _ z => z, rfl, q⟩
theorem call_isETg (hz : Zc cls d oe) (hf : ∃ vs, oe.data = .fields vs) : CallR (X.suite a ((a, oe) :: pn)) (.builtin "isinstance") (rIsETg X.K cls d a) := by
  intro pins s σ H xs us Q I r h
  obtain ⟨D, tp, cs, ws, b, rfl, rfl, C, rfl, hT, k, e, q⟩ := h
  obtain ⟨u1, u2, rfl, r1, r2⟩ := vals2 r
  cases (show u1 = Value.ref a from r1)
  cases (show u2 = Value.ref tp from r2)
  obtain ⟨_, its, rv, o, h1, h2, n, h3⟩ := (show ObjOk X.prog X.w H s.heap tp (.tup cs) from I.hok tp _ hT)
  have e3 := ClsV.all k rv
  subst e3
  obtain ⟨oc, od, dt, sl⟩ := o
  simp only at h2 h3
  subst h2 h3
  exact PySem.W.kia_tup (PySem.W.handS_kitx_exc C.hg C.hk C.hs C.hd C.ha C.hn C.ht C.hm) I.kIn (inst_at I hz hf) h1 e (fun z => nomatch z) fun tk => ⟨.bl b, H, I.kept (t' := tk) fun _ _ z => z, rfl, q⟩
end
/-! ### the exception classes, as the top has made them -/
def excNames : List PySem.Str := ["NoTable", "NoSign", "NoHand", "NoSaying", "Over", "NotOver"]
def oneExc (K : PySem.W.Frag) (D : Addr) : Bool :=
  decide (PySem.W.findIn K (.ref D) "__getattribute__" = some (some (.builtin "BaseException.__getattribute__"))) && (decide (PySem.W.findIn K (.ref D) "__getattr__" = some none) && (decide (PySem.W.subIn K (.ref D) (.type "BaseException") = some true) && (PySem.W.hasDictIn K D && (decide (PySem.W.findIn K (.ref D) "__class__" = some (some (.builtin "object.__class__"))) &&
  (decide (PySem.W.specialIn K (.builtin "object.__class__") "__get__" = some (some (.builtin "getset_descriptor.__get__"))) && (decide (PySem.W.takesIn K (.builtin "object.__class__") = some true) && decide (PySem.W.mroIn K D (.type "object") = some true)))))))
theorem oneExc_ok {K : PySem.W.Frag} {D : Addr} (h : oneExc K D = true) : ExcC K D := by
  unfold oneExc at h
  simp only [Bool.and_eq_true, decide_eq_true_eq] at h
  obtain ⟨h1, h2, h3, h4, h5, h6, h7, h8⟩ := h
  exact ⟨h1, h2, h3, h4, h5, h6, h7, h8⟩
def excB (K : PySem.W.Frag) : Bool := excNames.all fun x => oneExc K (He.ga K x) && (decide (PySem.W.exmOne K (.ref (He.ga K x)) (.ref (He.ga K "TableError")) = some true) && (decide (PySem.W.kitOne K (.ref (He.ga K x)) (.type "ValueError") = some true) &&
  excNames.all fun y => decide (PySem.W.kitOne K (.ref (He.ga K x)) (.ref (He.ga K y)) = some (decide (x = y)))))
structure ExcT (K : PySem.W.Frag) (x : PySem.Str) : Prop where
  c : ExcC K (He.ga K x)
  te : PySem.W.exmOne K (.ref (He.ga K x)) (.ref (He.ga K "TableError")) = some true
  ve : PySem.W.kitOne K (.ref (He.ga K x)) (.type "ValueError") = some true
  is : ∀ y ∈ excNames, PySem.W.kitOne K (.ref (He.ga K x)) (.ref (He.ga K y)) = some (decide (x = y))
theorem excB_ok {K : PySem.W.Frag} (h : excB K = true) {x : PySem.Str} (hx : x ∈ excNames) : ExcT K x := by
  have h1 := List.all_eq_true.mp h x hx
  simp only [Bool.and_eq_true, decide_eq_true_eq] at h1
  obtain ⟨a, b, c, d⟩ := h1
  exact ⟨oneExc_ok a, b, c, fun y hy => of_decide_eq_true (List.all_eq_true.mp d y hy)⟩
/-! ### a hook that reads one more test of the head -/
def obsX (fa : List He.Fa) (fn : List He.DefD) (ex : PySem.W.Frag → Bool) (K : PySem.W.Frag) : Bool × He.AlD := (ex K, He.obsD fa fn K)
def obsXG (n : Nat) (fa : List He.Fa) (fn : List He.DefD) (ex : PySem.W.Frag → Bool) (g : Addr → Option Obj) : Bool × He.AlD := obsX fa fn ex (He.frG g (He.asD g n))
def hookX (n : Nat) (fa : List He.Fa) (fn : List He.DefD) (ex : PySem.W.Frag → Bool) : PySem.W.Hook where
  α := Bool × He.AlD
  obs := fun s => obsXG n fa fn ex s.heap.get?
  val := fun _ => (true, He.valD fn)
  says := fun _ h => ∃ K : PySem.W.Frag, K.In h ∧ He.SaysD fa fn K ∧ ex K = true
  of := fun _ _ e => ⟨_, He.frG_in, congrArg Prod.snd e, congrArg Prod.fst e⟩
  keeps := fun _ _ _ ⟨K, hK, c⟩ k => ⟨K, PySem.W.Frag.In.keeps hK k, c⟩
theorem obsXG_eq {n : Nat} {fa : List He.Fa} {fn : List He.DefD} {ex : PySem.W.Frag → Bool} {g : Addr → Option Obj} {s : Shared} (h : ∀ a, g a = s.heap.get? a) : obsXG n fa fn ex g = (hookX n fa fn ex).obs s := by
  have e : g = s.heap.get? := funext h
  rw [e] <;> rfl
end LT

set_option Elab.async false
set_option linter.all false
set_option maxRecDepth 100000
set_option maxHeartbeats 4000000
namespace LT
open PySem PySem.Spec PyProof.Rows L2
local macro_rules | `(tactic| got_up) => `(tactic| repeat (first
  | refine ⟨_, rfl, ?_⟩
  | refine ⟨_, _, rfl, rfl, ?_⟩
  | refine ⟨rfl, ?_⟩
  | refine ⟨_, _, rfl, ?_⟩
  | refine ⟨(.inl ⟨by decide, by decide⟩ : CMul _ _), ?_⟩
  | refine ⟨(by show (0 : Int) < _; first | decide | omega), ?_⟩
  | refine ⟨(⟨by first | decide | omega, by first | decide | omega⟩ : CDiv _ _), ?_⟩))
/-! LTg: tables' numbers, all paths, twice. -/
/-- numbers that a table has -/
def TabOk (h m : V) : Prop := ∃ i j : Nat, h = vn i ∧ m = vn j ∧ 2 ≤ i ∧ i ≤ 10 ∧ j ≤ 2
def sp_need_table (G : G3) : Sp := fun vs H Q E => ∃ h m, vs = [h, m] ∧ Kn H h ∧ Kn H m ∧ (TabOk h m → Q .non H) ∧ (¬ TabOk h m → E (.ref (He.ga G.K "NoTable")) none H)
def sp_paths (G : G3) : Sp := fun vs H Q E => ∃ h m, vs = [h, m] ∧ Kn H h ∧ Kn H m ∧ (∀ i j : Nat, h = vn i → m = vn j → 2 ≤ i → i ≤ 10 → j ≤ 2 → Fresh rPath (pathsM i j) H Q) ∧ (¬ TabOk h m → E (.ref (He.ga G.K "NoTable")) none H)
def sp_l_table (G : G3) : Sp := fun vs H Q _ => ∃ c : Int, vs = [.int c] ∧ ∀ (n m : Nat) (a : Addr) (H' : Hp), 2 ≤ n → m ≤ 2 → n ≤ 10 → (m = 2 → n ≤ 8) → Same H H' → H' a = some (.tup [vn n, vn m]) → Q (.ref a) H'
def sp_l_paths (G : G3) : Sp := fun vs H Q _ => ∃ (n k : Nat), vs = [vn n, vn k] ∧ 2 ≤ n ∧ n ≤ 10 ∧ 1 ≤ k ∧ k ≤ 3 ∧ Fresh rPath (pathsOf n k) H Q
/-- need_table: slots 0 hands 1 most -/
def t_need_table (G : G3) (E : XK) : TS :=
  (tSeq (tIfS (tOr (tNot (tB (tCall (sp_is_whole G) [] E0 (tCons (tVar 0) tNil)))) (tOr (tTest (tOp oLt (tVar 0) (tC (.int 2)))) (tTest (tOp oGt (tVar 0) (tC (.int 10)))))) (tRaise (He.ga G.K "NoTable") E) tNext)
  (tIfS (tOr (tNot (tB (tCall (sp_is_whole G) [] E0 (tCons (tVar 1) tNil)))) (tOr (tTest (tOp oLt (tVar 1) (tC (.int 0)))) (tTest (tOp oGt (tVar 1) (tC (.int 2)))))) (tRaise (He.ga G.K "NoTable") E) tNext))
/-- paths: slots 0 hands 1 most 2 found 3 size -/
def t_paths (G : G3) (E : XK) : TS :=
  (tSeq (tDrop (tCall (sp_need_table G) [] E (tCons (tVar 0) (tCons (tVar 1) tNil))))
  (tSeq (tAsg (tLst tNil) (gName 2))
  (tSeq (tFor (iRng2 (tCons (tC (.int 1)) (tCons (tOp oAdd (tVar 1) (tC (.int 2))) tNil))) (gName 3) (tAsg (tOp rCat (tVar 2) (tCall (sp_paths_of G) [] E0 (tCons (tVar 0) (tCons (tVar 3) tNil)))) (gName 2)))
  (tRet (tVar 2)))))
/-- _law_table: slots 0 _law_cell 1 _law_most -/
def t_l_table (G : G3) (E : XK) : TS :=
  (tSeq (tAsg (tOp (rIxL G.K) (tLst (tCons (tC (.int 1)) (tCons (tC (.int 2)) (tCons (tC (.int 0)) (tCons (tC (.int 1)) (tCons (tC (.int 2)) (tCons (tC (.int 2)) tNil))))))) (tOp oMod (tVar 0) (tC (.int 6)))) (gName 1))
  (tRet (tTup (tCons (tOp oAdd (tC (.int 2)) (tOp oMod (tOp oDiv (tVar 0) (tC (.int 6))) (tOp (rIxL G.K) (tLst (tCons (tC (.int 9)) (tCons (tC (.int 9)) (tCons (tC (.int 7)) tNil)))) (tVar 1)))) (tCons (tVar 1) tNil)))))
/-- _law_paths: slots 0 _law_hands 1 _law_size 2 _law_found 3 _law_turn 4 _law_hand 5 _law_path -/
def t_l_paths (G : G3) (E : XK) : TS :=
  (tSeq (tAsg (tLst (tCons (tTup (tCons (tC (.int 0)) tNil)) tNil)) (gName 2))
  (tSeq (tFor (iRng1 (tCons (tOp oSub (tCB oMin2 (tCons (tVar 1) (tCons (tOp oSub (tVar 0) (tC (.int 1))) tNil))) (tC (.int 1))) tNil)) (gName 3) (tAsg (tCB (oSumL G.K) (tCons (tLc (iList G.K (tVar 2)) (gName 5) tYes (tLc (iRng1 (tCons (tVar 0) tNil)) (gName 4) (tTest (tOp (rIn G.K true) (tVar 4) (tVar 5))) (tOp (rCatA G.K) (tVar 5) (tTup (tCons (tVar 4) tNil))) [4]) [5]) (tCons (tLst tNil) tNil))) (gName 2)))
  (tRet (tLc (iList G.K (tVar 2)) (gName 5) (tTest (tOp rEq (tCB (oLen G.K) (tCons (tVar 5) tNil)) (tVar 1))) (tVar 5) [5]))))
theorem isW_int {v : V} (h : isW v = true) : ∃ i, v = .int i := by
  cases v with
  | int i => exact ⟨i, rfl⟩
  | _ => cases h
section
variable {G : G3} {N : List PySem.Str} {vs : List V} {H : Hp} {Q : VK} {E : XK}
theorem pure_need_table (hN : N.length = 2) (h : sp_need_table G vs H Q E) : t_need_table G E (endsOf Q) (L2.start N vs) H := by
  obtain ⟨h, m, rfl, kh, km, q, e⟩ := h
  rw [start_eq hN]
  got_up
  refine ⟨kh, ?_⟩
  by_cases hw : isW h = true
  · obtain ⟨i, rfl⟩ := isW_int hw
    got_up
    refine ite2 (fun c1 => ?_) (fun c1 => ?_)
    · got_up
      exact e fun ⟨i', j', h1, _, h2, _, _⟩ => by
        have h3 : i = (i' : Int) := V.int.inj h1
        have := of_decide_eq_true c1
        omega
    · got_up
      refine ite2 (fun c2 => ?_) (fun c2 => ?_)
      · got_up
        exact e fun ⟨i', j', h1, _, h2, h3, _⟩ => by
          have h4 : i = (i' : Int) := V.int.inj h1
          have := of_decide_eq_true c2
          omega
      · have hi1 : ¬ i < 2 := fun z => c1 (decide_eq_true z)
        have hi2 : ¬ 10 < i := fun z => c2 (decide_eq_true z)
        got_up
        refine ⟨km, ?_⟩
        by_cases hw2 : isW m = true
        · obtain ⟨j, rfl⟩ := isW_int hw2
          got_up
          refine ite2 (fun c3 => ?_) (fun c3 => ?_)
          · got_up
            exact e fun ⟨i', j', _, h1, _, _, _⟩ => by
              have h4 : j = (j' : Int) := V.int.inj h1
              have := of_decide_eq_true c3
              omega
          · got_up
            refine ite2 (fun c4 => ?_) (fun c4 => ?_)
            · got_up
              exact e fun ⟨i', j', _, h1, _, _, h2⟩ => by
                have h4 : j = (j' : Int) := V.int.inj h1
                have := of_decide_eq_true c4
                omega
            · have hj1 : ¬ j < 0 := fun z => c3 (decide_eq_true z)
              have hj2 : ¬ 2 < j := fun z => c4 (decide_eq_true z)
              refine q ⟨i.toNat, j.toNat, ?_, ?_, by omega, by omega, by omega⟩
              · show V.int i = V.int (i.toNat : Int)
                congr 1
                omega
              · show V.int j = V.int (j.toNat : Int)
                congr 1
                omega
        · have hf : isW m = false := by simpa using hw2
          rw [hf]
          got_up
          exact e fun ⟨i', j', _, h1, _, _, _⟩ => by rw [h1] at hf; cases hf
  · have hf : isW h = false := by simpa using hw
    rw [hf]
    got_up
    exact e fun ⟨i', j', h1, _, _, _, _⟩ => by rw [h1] at hf; cases hf
theorem pure_paths (hN : N.length = 4) (h : sp_paths G vs H Q E) : t_paths G E (endsOf Q) (L2.start N vs) H := by
  obtain ⟨h, m, rfl, kh, km, q, e⟩ := h
  rw [start_eq hN]
  got_up
  refine ⟨kh, km, ?_, e⟩
  rintro ⟨i, j, rfl, rfl, h1, h2, h3⟩
  have q := q i j rfl rfl h1 h2 h3
  got_up
  refine ⟨Nat.zero_le _, fun f nf => ?_⟩
  got_up
  refine for_rg2 (lo := 1) (m := j + 1) (by omega) ⟨by omega, by omega⟩ (fun k σ' H' => (∃ v3 l, σ' = [some (vn i), some (vn j), some (.ref l), v3] ∧ H l = none ∧ ∃ ys, H' l = some (.lst ys) ∧ All2 rPath ((List.range k).flatMap fun k => pathsOf i (k + 1)) ys H') ∧ Same H H')
    ⟨⟨none, f, rfl, nf, _, upd_same, .nil⟩, same_new nf⟩ ?_ ?_
  · rintro k σ' H1 hk ⟨⟨v3, l, rfl, nl, ys, hl, hys⟩, s1⟩
    got_up
    refine ⟨h1, h2, by omega, by omega, fun l2 ys2 H2 nl2 s2 hl2 hys2 => ?_⟩
    have hlen1 : ys.length ≤ 3 * 100 := by
      rw [← hys.len]
      refine Nat.le_trans (Nat.le_trans (?_ : _ ≤ (List.range k).length * 100) (Nat.mul_le_mul_right 100 (by rw [List.length_range]; omega))) (Nat.le_refl _)
      have : ∀ l : List Nat, (∀ x ∈ l, x ≤ 2) → (l.flatMap fun k => pathsOf i (k + 1)).length ≤ l.length * 100 := by
        intro l
        induction l with
        | nil => intro _; simp
        | cons x l ih =>
          intro hx
          rw [List.flatMap_cons, List.length_append, List.length_cons, Nat.succ_mul, Nat.add_comm]
          exact Nat.add_le_add (ih fun y hy => hx y (by simp [hy])) (pathsOf_count h2 (by have := hx x (by simp); omega))
      exact this _ fun x hx => by have := List.mem_range.mp hx; omega
    have hlen2 : ys2.length ≤ 100 := by
      rw [← hys2.len]
      exact pathsOf_count h2 (by omega)
    refine ⟨l, l2, _, _, rfl, rfl, s2 _ _ hl, hl2, line8 (by omega), fun p np => ?_⟩
    have s3 : Same H2 (upd H2 p (.lst (ys ++ ys2))) := same_new np
    refine ⟨⟨_, p, rfl, s1.free (s2.free np), _, upd_same, ?_⟩, (s1.trans s2).trans s3⟩
    rw [List.range_succ, List.flatMap_append, List.flatMap_singleton]
    have e1 : 1 + k = k + 1 := by omega
    rw [e1] at hys2
    exact All2.mono mono_rPath s3 (All2.append (All2.mono mono_rPath s2 hys) hys2)
  · rintro σ' H1 ⟨⟨v3, l, rfl, nl, ys, hl, hys⟩, s1⟩
    got_up
    exact q l ys H1 nl s1 hl hys
theorem pure_l_table (hN : N.length = 2) (h : sp_l_table G vs H Q E) : t_l_table G E (endsOf Q) (L2.start N vs) H := by
  obtain ⟨c, rfl, q⟩ := h
  rw [start_eq hN]
  got_up
  refine ⟨by show 6 ≤ sizeLine; decide, fun p np => ?_⟩
  got_up
  have hz1 : 0 ≤ c % 6 := Int.emod_nonneg _ (by decide)
  have hz2 : c % 6 < 6 := Int.emod_lt_of_pos _ (by decide)
  obtain ⟨m, hm, hm2⟩ : ∃ m : Nat, atI [V.int 1, .int 2, .int 0, .int 1, .int 2, .int 2] (c % 6) = some (vn m) ∧ m ≤ 2 := by
    obtain ⟨k, hk⟩ := Int.eq_ofNat_of_zero_le hz1
    rw [hk] at hz2 ⊢
    have : k < 6 := by omega
    match k, this with
    | 0, _ => exact ⟨1, rfl, by decide⟩
    | 1, _ => exact ⟨2, rfl, by decide⟩
    | 2, _ => exact ⟨0, rfl, by decide⟩
    | 3, _ => exact ⟨1, rfl, by decide⟩
    | 4, _ => exact ⟨2, rfl, by decide⟩
    | 5, _ => exact ⟨2, rfl, by decide⟩
  refine ⟨p, _, _, _, rfl, rfl, SqL.of upd_same, hm, ?_⟩
  got_up
  refine ⟨by show 3 ≤ sizeLine; decide, fun p2 np2 => ?_⟩
  got_up
  obtain ⟨d, hd, hd1, hd2, hd3⟩ : ∃ d : Int, atI [V.int 9, .int 9, .int 7] (m : Int) = some (.int d) ∧ 0 < d ∧ d ≤ 9 ∧ (m = 2 → d = 7) := by
    match m, hm2 with
    | 0, _ => exact ⟨9, rfl, by decide, by decide, by decide⟩
    | 1, _ => exact ⟨9, rfl, by decide, by decide, by decide⟩
    | 2, _ => exact ⟨7, rfl, by decide, by decide, by decide⟩
  refine ⟨p2, _, _, _, rfl, rfl, SqL.of upd_same, hd, ?_⟩
  got_up
  refine ⟨by show 2 ≤ sizeLine; decide, fun a na => ?_⟩
  have hz3 : 0 ≤ c / 6 % d := Int.emod_nonneg _ (by omega)
  have hz4 : c / 6 % d < d := Int.emod_lt_of_pos _ hd1
  refine q (2 + (c / 6 % d)).toNat m a _ (by omega) hm2 (by omega) (fun e => by have := hd3 e; omega) (((same_new np).trans (same_new np2)).trans (same_new na)) ?_
  rw [upd_same]
  have e1 : vn (2 + (c / 6 % d)).toNat = V.int (2 + c / 6 % d) := by
    show V.int (((2 + (c / 6 % d)).toNat : Nat) : Int) = _
    congr 1
    omega
  rw [e1]
theorem filter_tt {α : Type} (l : List α) : l.filter (fun _ => true) = l := List.filter_eq_self.mpr fun _ _ => rfl
/-- the path 0, 1, .. i -/
theorem range_mem {n : Nat} : ∀ {i : Nat}, i < n → List.range (i + 1) ∈ itM n i
  | 0, _ => List.mem_singleton.mpr rfl
  | i + 1, h => by
    refine List.mem_flatMap.mpr ⟨List.range (i + 1), range_mem (by omega), List.mem_map.mpr ⟨i + 1, mem_hearersM.mpr ⟨h, by simp⟩, ?_⟩⟩
    rw [List.range_succ (n := i + 1)]
/-- a list of paths made in a comprehension's turn -/
def rPs : List (List Nat) → V → Hp → Prop := fun ps v H => ∃ l ys, v = .ref l ∧ H l = some (.lst ys) ∧ All2 rPath ps ys H
theorem mono_rPs : Mono rPs := fun _ _ _ _ s ⟨l, ys, e, h, r⟩ => ⟨l, ys, e, s _ _ h, All2.mono mono_rPath s r⟩
theorem rPs_split {H : Hp} : ∀ {pss : List (List (List Nat))} {ys : List V}, All2 rPs pss ys H → ∃ (ls : List Addr) (xss : List (List V)), ys = ls.map V.ref ∧ Paired (fun l xs => H l = some (.lst xs)) ls xss ∧ All2 rPath pss.flatten xss.flatten H
  | _, _, .nil => ⟨[], [], rfl, .nil, .nil⟩
  | _ :: _, _ :: _, .cons ⟨l, zs, e, h, r⟩ t => by
    obtain ⟨ls, xss, e2, h2, r2⟩ := rPs_split t
    exact ⟨l :: ls, zs :: xss, by rw [e, e2]; rfl, .cons h h2, All2.append r r2⟩
theorem pure_l_paths (hN : N.length = 6) (h : sp_l_paths G vs H Q E) : t_l_paths G E (endsOf Q) (L2.start N vs) H := by
  obtain ⟨n, k, rfl, hn2, hn, hk1, hk, q⟩ := h
  rw [start_eq hN]
  got_up
  refine ⟨by decide, fun t nt => ?_⟩
  refine ⟨by show 1 ≤ sizeLine; decide, fun f nf => ?_⟩
  have sf : Same H (upd (upd H t (.tup [.int 0])) f (.lst [.ref t])) := (same_new nt).trans (same_new nf)
  have nfH : H f = none := (same_new nt).free nf
  have htf : t ≠ f := fun z => by rw [z, upd_same] at nf; cases nf
  got_up
  obtain ⟨j, hj⟩ : ∃ j : Nat, (if (n : Int) - 1 < (k : Int) then (n : Int) - 1 else (k : Int)) = (j : Int) + 1 ∧ j + 1 = min k (n - 1) := by
    refine ⟨min k (n - 1) - 1, ?_⟩
    split <;> omega
  obtain ⟨hj, hj2⟩ := hj
  rw [hj]
  refine for_rg (n := _) ⟨by omega, by omega⟩ (fun i σ' H' => (∃ v3 l, σ' = [some (vn n), some (vn k), some (.ref l), v3, none, none] ∧ ∃ ys, H' l = some (.lst ys) ∧ All2 rPath (itM n i) ys H') ∧ Same H H')
    ⟨⟨none, f, rfl, _, upd_same, .cons ⟨t, rfl, by rw [upd_ne htf]; exact upd_same⟩ .nil⟩, sf⟩ ?_ ?_
  · rintro i σ' H1 hi ⟨⟨v3, l, rfl, ys, hl, hys⟩, s1⟩
    have hcount : (itM n i).length ≤ 100 := by
      refine Nat.le_trans (itM_count i) (Nat.le_trans (Nat.pow_le_pow_left hn i) ?_)
      exact Nat.pow_le_pow_right (by decide) (show i ≤ 2 by omega)
    got_up
    refine lc_rlS (R := rPath) (S := rPs) (ds := itM n i) mono_rPath (SqL.of hl) hys mono_rPs (fun _ => true) (fun p => (hearersM n p).map fun h => p ++ [h]) (by omega) ?_ ?_
    · rintro D p v H2 nD hp s2 ⟨zs, hz⟩ ⟨b, rfl, hb⟩ Y N' hY hN'
      got_up
      have hpl : p.length ≤ 3 := by rw [itM_len hp]; omega
      refine lc_rg (n := n) (S := rPath) (by omega) monoT_rPath (fun d => decide (d ∉ p)) (fun d => p ++ [d]) ?_ ?_
      · intro d H3 hd s3 Y2 N2 hY2 hN2
        have hb3 := s3 _ _ hb
        got_up
        refine ⟨b, _, rfl, .inr (SqT.of hb3), rfl, flat_vn p, ?_⟩
        have e1 := inV_vn d p
        by_cases hm : d ∈ p
        · rw [e1, decide_eq_true hm]
          got_up
          exact hN2 (decide_eq_false (not_not_intro hm)) _ (Same.refl _)
        · rw [e1, decide_eq_false hm]
          got_up
          refine ⟨by show 1 ≤ sizeLine; decide, fun t nt => ?_⟩
          have s4 : Same H3 (upd H3 t (.tup [vn d])) := same_new nt
          refine ⟨b, t, _, _, rfl, rfl, SqT.of (s4 _ _ hb3), SqT.of upd_same, ?_, fun z => ?_, ?_, ?_⟩
          · rw [List.length_map]
            exact line8 (by show p.length + 1 ≤ 100000; omega)
          · have hp0 : p = [] := List.map_eq_nil_iff.mp z
            refine hY2 (decide_eq_true hm) _ _ s4 ⟨t, rfl, ?_⟩
            rw [hp0]
            exact upd_same
          · intro _ z; cases z
          · intro _ _ u nu
            refine hY2 (decide_eq_true hm) _ _ (s4.trans (same_new nu)) ⟨u, rfl, ?_⟩
            rw [upd_same, List.map_append]
            rfl
      · intro l2 ys2 H3 nl2 s3 hl2 hall2
        have hlD : l2 ≠ D := fun z => by rw [z, hz] at nl2; cases nl2
        refine hY rfl _ _ s3 ⟨l2, ys2, rfl, by rw [off_ne hlD]; exact hl2, ?_⟩
        exact Paired.mapP hall2 fun d v r => monoT_rPath d v _ _ (fun b' xs e => by
          rw [off_ne (ne_of e (s3 _ _ hz) (by simp))]; exact e) r
    · intro l2 ys2 H2 nl2 s2 hl2 hall2
      obtain ⟨ls, xss, rfl, hx, hfl⟩ := rPs_split hall2
      have efl : ((((itM n i).filter fun _ => true).map fun p => (hearersM n p).map fun h => p ++ [h]).flatten) = itM n (i + 1) := by
        rw [filter_tt]
        rfl
      rw [efl] at hfl
      refine ⟨Nat.zero_le _, fun e ne => ?_⟩
      have s3 : Same H2 (upd H2 e (.lst [])) := same_new ne
      got_up
      refine ⟨l2, e, ls, xss, rfl, SqL.of (s3 _ _ hl2), Paired.mapP hx fun a b h => s3 _ _ h, upd_same, ?_, ?_, fun r nr => ?_⟩
      · rw [← hfl.len]
        refine Nat.le_trans (itM_count (i + 1)) (Nat.le_trans (Nat.pow_le_pow_left hn (i + 1)) (Nat.le_trans (Nat.pow_le_pow_right (by decide) (show i + 1 ≤ 3 by omega)) (by decide)))
      · intro z
        subst z
        have := hall2.len
        rw [List.map_nil, List.length_nil, List.length_map, filter_tt] at this
        have h0 := range_mem (n := n) (i := i) (by omega)
        rw [List.length_eq_zero_iff.mp this] at h0
        cases h0
      · have s4 := same_new (o := .lst xss.flatten) nr
        exact ⟨⟨_, r, rfl, _, upd_same, All2.mono mono_rPath (s3.trans s4) hfl⟩, ((s1.trans s2).trans s3).trans s4⟩
  · rintro σ' H1 ⟨⟨v3, l, rfl, ys, hl, hys⟩, s1⟩
    got_up
    have ej : ((j : Int) + 1 - 1).toNat = j := by omega
    rw [ej] at hys
    have hcount : (itM n j).length ≤ 100 := by
      refine Nat.le_trans (itM_count j) (Nat.le_trans (Nat.pow_le_pow_left hn j) ?_)
      exact Nat.pow_le_pow_right (by decide) (show j ≤ 2 by omega)
    refine lc_rl (R := rPath) (S := rPath) (ds := itM n j) mono_rPath (SqL.of hl) hys monoT_rPath (fun p => decide (p.length = k)) (fun p => p) (by omega) ?_ ?_
    · rintro p v H2 hp s2 ⟨b, rfl, hb⟩ Y N' hY hN'
      got_up
      refine ⟨b, _, rfl, .inr (SqT.of hb), ?_⟩
      got_up
      refine ite2 (fun c => ?_) (fun c => ?_)
      · have c' : p.length = k := by
          have h := V.int.inj (of_decide_eq_true c)
          rw [List.length_map] at h
          omega
        got_up
        exact hY (decide_eq_true c') _ _ (Same.refl _) ⟨b, rfl, hb⟩
      · have c' : ¬ p.length = k := fun z => c (decide_eq_true (by rw [List.length_map, z]; rfl))
        exact hN' (decide_eq_false c') _ (Same.refl _)
    · intro l2 ys2 H2 nl2 s2 hl2 hall2
      have e1 : ((itM n j).filter fun p => decide (p.length = k)).map (fun p => p) = pathsOf n k := by
        rw [List.map_id']
        unfold pathsOf
        by_cases hkn : k < n
        · rw [if_pos hkn]
          have : j = k - 1 := by omega
          rw [this]
          refine List.filter_eq_self.mpr fun p hp => decide_eq_true ?_
          rw [itM_len hp]
          omega
        · rw [if_neg hkn]
          refine List.filter_eq_nil_iff.mpr fun p hp => ?_
          rw [itM_len hp]
          simp
          omega
      rw [e1] at hall2
      exact q l2 ys2 H2 (s1.free nl2) (s1.trans s2) hl2 hall2
end
end LT

set_option Elab.async false
set_option linter.all false
set_option maxRecDepth 100000
set_option maxHeartbeats 4000000
namespace LT
open PySem PySem.Spec PyProof.Rows L2
local macro_rules | `(tactic| got_up) => `(tactic| repeat (first
  | refine ⟨_, rfl, ?_⟩
  | refine ⟨_, _, rfl, rfl, ?_⟩
  | refine ⟨rfl, ?_⟩
  | refine ⟨_, _, rfl, ?_⟩
  | refine ⟨(.inl ⟨by decide, by decide⟩ : CMul _ _), ?_⟩
  | refine ⟨(by show (0 : Int) < _; first | decide | omega), ?_⟩
  | refine ⟨(⟨by first | decide | omega, by first | decide | omega⟩ : CDiv _ _), ?_⟩))
/-! LT01: the law of paths. -/
def sp_bad_Table_init (G : G3) : Sp := fun vs H Q E => ∃ p h m s l, vs = [p, h, m, s, l] ∧ Kn H h ∧ Kn H m ∧ ¬ TabOk h m ∧ E (.ref (He.ga G.K "NoTable")) none H
def sp_bad_parts (G : G3) : Sp := fun vs H Q E => ∃ h m s l d, vs = [h, m, s, l, d] ∧ Kn H h ∧ Kn H m ∧ ¬ TabOk h m ∧ ∀ H', Same H H' → E (.ref (He.ga G.K "NoTable")) none H'
def sp_bad_parting (G : G3) : Sp := fun vs H Q E => ∃ h m, vs = [h, m] ∧ Kn H h ∧ Kn H m ∧ ¬ TabOk h m ∧ E (.ref (He.ga G.K "NoTable")) none H
def sp_l_paths_right (G : G3) : Sp := fun vs H Q _ => ∃ (n m : Nat) (v : V), vs = [v, vn n, vn m] ∧ 2 ≤ n ∧ n ≤ 10 ∧ m ≤ 2 ∧ (∃ l ys, v = .ref l ∧ H l = some (.lst ys) ∧ All2 rPath (pathsM n m) ys H) ∧ ∀ H', Same H H' → Q (.bl true) H'
def sp_l_refused (G : G3) : Sp := fun vs H Q _ => ∃ (way : Nat) (h m : V), vs = [vn way, h, m] ∧ way < 4 ∧ Kn H h ∧ Kn H m ∧ ¬ TabOk h m ∧ excB G.K = true ∧ ∀ H', Same H H' → Q (.bl true) H'
/-- Table.__init__: slots 0 self 1 hands 2 most 3 sign 4 liars 5 hand -/
def t_bad_Table_init (G : G3) (E : XK) : TS :=
  (tSeq (tDrop (tCall (sp_need_table G) [] E (tCons (tVar 1) (tCons (tVar 2) tNil)))) tNever)
/-- parts: slots 0 hands 1 most 2 sign 3 liars 4 lies 5 table 6 sayings 7 size 8 signs 9 hand 10 one -/
def t_bad_parts (G : G3) (E : XK) : TS :=
  (tSeq (tAsg (tMake (He.ga G.K "Table") (sp_bad_Table_init G) [] E (tCons (tVar 0) (tCons (tVar 1) (tCons (tVar 2) (tCons (tVar 3) tNil))))) (gName 5)) tNever)
/-- parting: slots 0 hands 1 most 2 count 3 liars 4 k 5 lies 6 path 7 hearer -/
def t_bad_parting (G : G3) (E : XK) : TS :=
  (tSeq (tDrop (tCall (sp_need_table G) [] E (tCons (tVar 0) (tCons (tVar 1) tNil)))) tNever)
/-- _law_paths_right: slots 0 _law_found 1 _law_hands 2 _law_most 3 _law_due 4 _law_size 5 _law_hand 6 _law_path -/
def t_l_paths_right (G : G3) (E : XK) : TS :=
  (tSeq (tAsg (tLst tNil) (gName 3))
  (tSeq (tFor (iRng2 (tCons (tC (.int 1)) (tCons (tOp oAdd (tVar 2) (tC (.int 2))) tNil))) (gName 4) (tAsg (tOp rCat (tVar 3) (tCall (sp_l_paths G) [] E0 (tCons (tVar 1) (tCons (tVar 4) tNil)))) (gName 3)))
  (tSeq (tIfS (tOr (tNot (tB (tCB (rIsi G.K) (tCons (tVar 0) (tCons (tC (.ty "list")) tNil))))) (tTest (tOp (rNeD G.K) (tVar 0) (tVar 3)))) (tRet (tC (.bl false))) tNext)
  (tRet (tCB (rAll G.K) (tCons (tLc (iList G.K (tVar 0)) (gName 6) tYes (tAndV (tCB (rIsi G.K) (tCons (tVar 6) (tCons (tC (.ty "tuple")) tNil))) (tCB (rAll G.K) (tCons (tLc (iTup G.K (tVar 6)) (gName 5) tYes (tCall (sp_is_whole G) [] E0 (tCons (tVar 5) tNil)) [5]) tNil))) [6]) tNil))))))
/-- _law_refused: slots 0 _law_way 1 _law_hands 2 _law_most 3 _law_other 4 e -/
def t_l_refused (G : G3) (E : XK) : TS :=
  (tSeq (tTry (fun W => (tIfS (tTest (tOp rEq (tVar 0) (tC (.int 0)))) (tDrop (tCall (sp_paths G) [] (EW 5 W) (tCons (tVar 1) (tCons (tVar 2) tNil)))) (tIfS (tTest (tOp rEq (tVar 0) (tC (.int 1)))) (tDrop (tCall (sp_bad_parting G) [] (EW 5 W) (tCons (tVar 1) (tCons (tVar 2) tNil)))) (tIfS (tTest (tOp rEq (tVar 0) (tC (.int 2)))) (tDrop (tCall (sp_bad_parts G) [] (EW 5 W) (tCons (tVar 1) (tCons (tVar 2) (tCons (tC (.str ("no sign" : Str))) (tCons (tLst (tCons (tC (.int 99)) tNil)) (tCons tDNewK tNil))))))) (tDrop (tMake (He.ga G.K "Table") (sp_bad_Table_init G) [] (EW 5 W) (tCons (tVar 1) (tCons (tVar 2) (tCons (tC (.int 5)) (tCons (tLst (tCons (tC (.int 99)) tNil)) tNil)))))))))) (wAs G.K (.ref (He.ga G.K "TableError")) 4 (fun a cls d => (tSeq (tAsg (tCB (rIsETg G.K cls d a) (tCons (tVar 4) (tCons (tTup (tCons (tC (.ref (He.ga G.K "NoHand"))) (tCons (tC (.ref (He.ga G.K "NoSaying"))) (tCons (tC (.ref (He.ga G.K "NoSign"))) (tCons (tC (.ref (He.ga G.K "NotOver"))) (tCons (tC (.ref (He.ga G.K "Over"))) tNil)))))) tNil))) (gName 3))
  (tRet (tAndV (tCB (rIsEg G.K cls d a) (tCons (tVar 4) (tCons (tC (.ref (He.ga G.K "NoTable"))) tNil))) (tAndV (tCB (rIsEg G.K cls d a) (tCons (tVar 4) (tCons (tC (.ty "ValueError")) tNil))) (tNotV (tVar 3))))))) (fun _ _ _ _ => False)))
  (tRet (tC (.bl false))))
def pdP (p : List Nat) : PyData := .tuple (p.map fun n : Nat => PyData.int (n : Int))
theorem dpAll_vn {K : PySem.W.Frag} {H : Hp} : ∀ p : List Nat, DpAll K H (p.map vn) (p.map fun n : Nat => PyData.int (n : Int))
  | [] => .nil
  | x :: p => .cons (.int x) (dpAll_vn p)
theorem dpAll_paths {K : PySem.W.Frag} {H : Hp} : ∀ {ps : List (List Nat)} {ys : List V}, All2 rPath ps ys H → DpAll K H ys (ps.map pdP)
  | _, _, .nil => .nil
  | _ :: _, _ :: _, .cons ⟨a, e, h⟩ t => by
    subst e
    exact .cons (.tup (SqT.of h) (dpAll_vn _)) (dpAll_paths t)
theorem lay_paths (ps : List (List Nat)) : Lay 2 (.list (ps.map pdP)) := Lay.list fun d hd => by
  obtain ⟨p, _, rfl⟩ := List.mem_map.mp hd
  exact Lay.tuple fun d hd => by
    obtain ⟨n, _, rfl⟩ := List.mem_map.mp hd
    exact Lay.int
theorem lay_nats (ps : List Nat) : Lay 1 (.list (ps.map fun n : Nat => PyData.int (n : Int))) := Lay.list fun d hd => by
  obtain ⟨n, _, rfl⟩ := List.mem_map.mp hd
  exact Lay.int
theorem pathsM_count {n m : Nat} (hn : n ≤ 10) (hm : m ≤ 2) : (pathsM n m).length ≤ 300 := by
  have : ∀ l : List Nat, (∀ x ∈ l, x ≤ 2) → (l.flatMap fun k => pathsOf n (k + 1)).length ≤ l.length * 100 := by
    intro l
    induction l with
    | nil => intro _; simp
    | cons x l ih =>
      intro hx
      rw [List.flatMap_cons, List.length_append, List.length_cons, Nat.succ_mul, Nat.add_comm]
      exact Nat.add_le_add (ih fun y hy => hx y (by simp [hy])) (pathsOf_count hn (by have := hx x (by simp); omega))
  have h := this (List.range (m + 1)) fun x hx => by have := List.mem_range.mp hx; omega
  rw [List.length_range] at h
  unfold pathsM
  omega
theorem path_short {n m : Nat} (hm : m ≤ 2) {p : List Nat} (h : p ∈ pathsM n m) : p.length ≤ 3 := by
  obtain ⟨k, hk, hp⟩ := List.mem_flatMap.mp h
  have hk' := List.mem_range.mp hk
  unfold pathsOf at hp
  split at hp
  · rw [itM_len hp]; omega
  · cases hp
theorem all_true {α : Type} : ∀ l : List α, ((l.map fun _ => true).all id) = true
  | [] => rfl
  | _ :: l => by rw [List.map_cons, List.all_cons, all_true l]; rfl
section
variable {G : G3} {N : List PySem.Str} {vs : List V} {H : Hp} {Q : VK} {E : XK}
theorem pure_bad_Table_init (hN : N.length = 6) (h : sp_bad_Table_init G vs H Q E) : t_bad_Table_init G E (endsOf Q) (L2.start N vs) H := by
  obtain ⟨p, h, m, s, l, rfl, kh, km, nt, e⟩ := h
  rw [start_eq hN]
  got_up
  exact ⟨kh, km, fun z => (nt z).elim, fun _ => e⟩
theorem pure_bad_parting (hN : N.length = 8) (h : sp_bad_parting G vs H Q E) : t_bad_parting G E (endsOf Q) (L2.start N vs) H := by
  obtain ⟨h, m, rfl, kh, km, nt, e⟩ := h
  rw [start_eq hN]
  got_up
  exact ⟨kh, km, fun z => (nt z).elim, fun _ => e⟩
theorem pure_bad_parts (hN : N.length = 11) (h : sp_bad_parts G vs H Q E) : t_bad_parts G E (endsOf Q) (L2.start N vs) H := by
  obtain ⟨h, m, s, l, d, rfl, kh, km, nt, e⟩ := h
  rw [start_eq hN]
  got_up
  intro x dx nx ndx ne
  have s1 : Same H (upd (upd H dx (.own x)) x (.ins (He.ga G.K "Table") dx [])) := (same_new ndx).trans (same_new (by rw [upd_ne (Ne.symm ne)]; exact nx))
  exact ⟨.ref x, h, m, s, l, rfl, kh.mono s1, km.mono s1, nt, e _ s1⟩
theorem pure_l_paths_right (hN : N.length = 7) (h : sp_l_paths_right G vs H Q E) : t_l_paths_right G E (endsOf Q) (L2.start N vs) H := by
  obtain ⟨n, m, v, rfl, hn2, hn, hm, ⟨l, ys, rfl, hl, hys⟩, q⟩ := h
  rw [start_eq hN]
  got_up
  refine ⟨Nat.zero_le _, fun f nf => ?_⟩
  got_up
  refine for_rg2 (lo := 1) (m := m + 1) (by omega) ⟨by omega, by omega⟩ (fun k σ' H' => (∃ v4 d, σ' = [some (.ref l), some (vn n), some (vn m), some (.ref d), v4, none, none] ∧ ∃ zs, H' d = some (.lst zs) ∧ All2 rPath ((List.range k).flatMap fun k => pathsOf n (k + 1)) zs H') ∧ Same H H')
    ⟨⟨none, f, rfl, _, upd_same, .nil⟩, same_new nf⟩ ?_ ?_
  · rintro k σ' H1 hk ⟨⟨v4, d, rfl, zs, hd, hzs⟩, s1⟩
    got_up
    refine ⟨hn2, hn, by omega, by omega, fun l2 ys2 H2 nl2 s2 hl2 hys2 => ?_⟩
    have hlen1 : zs.length ≤ 300 := by
      rw [← hzs.len]
      have e : pathsM n (k - 1 + 1 - 1) = pathsM n (k - 1) := rfl
      by_cases hk0 : k = 0
      · subst hk0; simp
      · have := pathsM_count (m := k - 1) hn (by omega)
        unfold pathsM at this
        rw [show k - 1 + 1 = k by omega] at this
        exact this
    have hlen2 : ys2.length ≤ 100 := by
      rw [← hys2.len]
      exact pathsOf_count hn (by omega)
    refine ⟨d, l2, _, _, rfl, rfl, s2 _ _ hd, hl2, line8 (by omega), fun p np => ?_⟩
    have s3 : Same H2 (upd H2 p (.lst (zs ++ ys2))) := same_new np
    refine ⟨⟨_, p, rfl, _, upd_same, ?_⟩, (s1.trans s2).trans s3⟩
    rw [List.range_succ, List.flatMap_append, List.flatMap_singleton]
    have e1 : 1 + k = k + 1 := by omega
    rw [e1] at hys2
    exact All2.mono mono_rPath s3 (All2.append (All2.mono mono_rPath s2 hzs) hys2)
  · rintro σ' H1 ⟨⟨v4, d, rfl, zs, hd, hzs⟩, s1⟩
    have hys1 := All2.mono mono_rPath s1 hys
    got_up
    refine ⟨_, _, _, _, true, rfl, .ty _, .base (.lst (s1 _ _ hl)), kit_ty (by decide +kernel), ?_⟩
    got_up
    have hsh := Lay.shaped (lay_paths (pathsM n m)) (by decide)
    have hzs' : All2 rPath (pathsM n m) zs H1 := hzs
    refine ⟨_, _, .lst (SqL.of (s1 _ _ hl)) (dpAll_paths hys1), .lst (SqL.of hd) (dpAll_paths hzs'), hsh, hsh, ?_⟩
    rw [SeqAt.eqv_refl _ (lay_paths (pathsM n m)).1]
    got_up
    refine lc_rl (R := rPath) (S := rV) (ds := pathsM n m) mono_rPath (SqL.of (s1 _ _ hl)) hys1 monoT_rV (fun _ => true) (fun _ => V.bl true) (Nat.le_trans (pathsM_count hn hm) (by decide)) ?_ ?_
    · rintro p v H2 hp s2 ⟨b, rfl, hb⟩ Y N' hY hN'
      got_up
      refine ⟨_, _, _, _, true, rfl, .ty _, .base (.tup hb), kit_ty (by decide +kernel), ?_⟩
      got_up
      refine lc_rt (R := rV) (S := rV) (ds := p.map vn) mono_rV (SqT.of hb) (all2_rV _) monoT_rV (fun _ => true) (fun _ => V.bl true) (by rw [List.length_map]; have := path_short hm hp; omega) ?_ ?_
      · rintro d v H3 hd s3 rfl Y2 N2 hY2 hN2
        obtain ⟨x, _, rfl⟩ := List.mem_map.mp hd
        got_up
        exact ⟨.int _, hY2 rfl _ _ (Same.refl _) rfl⟩
      · intro l2 ys2 H3 nl2 s3 hl2 hall2
        have e2 := of_rV hall2
        rw [filter_tt] at e2
        subst e2
        refine ⟨l2, (p.map vn).map fun _ => true, rfl, SqL.of (by rw [hl2]; simp only [List.map_map]; rfl), ?_⟩
        rw [all_true]
        exact hY rfl _ _ s3 rfl
    · intro l2 ys2 H2 nl2 s2 hl2 hall2
      have e2 := of_rV hall2
      rw [filter_tt] at e2
      subst e2
      refine ⟨l2, (pathsM n m).map fun _ => true, rfl, SqL.of (by rw [hl2]; simp only [List.map_map]; rfl), ?_⟩
      rw [all_true]
      exact q _ (s1.trans s2)
theorem pure_l_refused (hN : N.length = 5) (h : sp_l_refused G vs H Q E) : t_l_refused G E (endsOf Q) (L2.start N vs) H := by
  obtain ⟨way, h, m, rfl, hw, kh, km, nt, xb, q⟩ := h
  rw [start_eq hN]
  have X := excB_ok xb (x := "NoTable") (by decide)
  -- what the suite does with it
  have suite : ∀ H', Same H H' → EW 5 (wAs G.K (.ref (He.ga G.K "TableError")) 4 (fun a cls d => (tSeq (tAsg (tCB (rIsETg G.K cls d a) (tCons (tVar 4) (tCons (tTup (tCons (tC (.ref (He.ga G.K "NoHand"))) (tCons (tC (.ref (He.ga G.K "NoSaying"))) (tCons (tC (.ref (He.ga G.K "NoSign"))) (tCons (tC (.ref (He.ga G.K "NotOver"))) (tCons (tC (.ref (He.ga G.K "Over"))) tNil)))))) tNil))) (gName 3))
      (tRet (tAndV (tCB (rIsEg G.K cls d a) (tCons (tVar 4) (tCons (tC (.ref (He.ga G.K "NoTable"))) tNil))) (tAndV (tCB (rIsEg G.K cls d a) (tCons (tVar 4) (tCons (tC (.ty "ValueError")) tNil))) (tNotV (tVar 3))))))) (fun _ _ _ _ => False) { nx := tRet (tC (.bl false)) (endsOf Q), rt := (endsOf Q).rt }) (.ref (He.ga G.K "NoTable")) none H' := by
    intro H' s1 σ hσ
    match σ, hσ with
    | [a0, a1, a2, a3, a4], _ =>
      refine ⟨true, X.te, fun _ a na => ?_, fun z => nomatch z⟩
      got_up
      refine ⟨by show 5 ≤ sizeLine; decide, fun t nt => ?_⟩
      refine ⟨_, t, _, [.ref (He.ga G.K "NoHand"), .ref (He.ga G.K "NoSaying"), .ref (He.ga G.K "NoSign"), .ref (He.ga G.K "NotOver"), .ref (He.ga G.K "Over")], false, rfl, rfl, X.c, rfl, upd_same, .cons (.own _) (.cons (.own _) (.cons (.own _) (.cons (.own _) (.cons (.own _) .nil)))), ?_, ?_⟩
      · refine kitAny_cons (b := false) (X.is _ (by decide)) (fun _ => ?_) (fun z => nomatch z)
        refine kitAny_cons (b := false) (X.is _ (by decide)) (fun _ => ?_) (fun z => nomatch z)
        refine kitAny_cons (b := false) (X.is _ (by decide)) (fun _ => ?_) (fun z => nomatch z)
        refine kitAny_cons (b := false) (X.is _ (by decide)) (fun _ => ?_) (fun z => nomatch z)
        refine kitAny_cons (b := false) (X.is _ (by decide)) (fun _ => ?_) (fun z => nomatch z)
        exact kitAny_nil
      · got_up
        refine ⟨_, _, _, true, rfl, rfl, X.c, rfl, .own _, X.is _ (by decide), ?_⟩
        got_up
        refine ⟨_, _, _, true, rfl, rfl, X.c, rfl, .ty _, X.ve, ?_⟩
        got_up
        exact q _ (s1.trans (same_new nt))
  got_up
  refine ite2 (fun c => ?_) (fun c => ?_)
  · got_up
    exact ⟨kh, km, fun i j e1 e2 h1 h2 h3 => (nt ⟨i, j, e1, e2, h1, h2, h3⟩).elim, fun _ => suite _ (Same.refl _)⟩
  · got_up
    refine ite2 (fun c => ?_) (fun c => ?_)
    · got_up
      exact ⟨kh, km, nt, suite _ (Same.refl _)⟩
    · got_up
      refine ite2 (fun c => ?_) (fun c => ?_)
      · got_up
        refine ⟨by show 1 ≤ sizeLine; decide, fun l nl => ?_⟩
        intro e ne
        have s1 : Same H (upd (upd H l (.lst [.int 99])) e (.dK [])) := (same_new nl).trans (same_new ne)
        exact ⟨h, m, _, _, _, rfl, kh.mono s1, km.mono s1, nt, fun H' s2 => suite _ (s1.trans s2)⟩
      · got_up
        refine ⟨by show 1 ≤ sizeLine; decide, fun l nl => ?_⟩
        intro x dx nx ndx ne
        have s0 : Same H (upd H l (.lst [.int 99])) := same_new nl
        have s1 : Same H (upd (upd (upd H l (.lst [.int 99])) dx (.own x)) x (.ins (He.ga G.K "Table") dx [])) := s0.trans ((same_new ndx).trans (same_new (by rw [upd_ne (Ne.symm ne)]; exact nx)))
        exact ⟨.ref x, h, m, _, _, rfl, kh.mono s1, km.mono s1, nt, suite _ s1⟩
end
end LT

set_option Elab.async false
set_option linter.all false
set_option maxRecDepth 100000
set_option maxHeartbeats 4000000
namespace LT
open PySem PySem.Spec PyProof.Rows L2
local macro_rules | `(tactic| got_up) => `(tactic| repeat (first
  | refine ⟨_, rfl, ?_⟩
  | refine ⟨_, _, rfl, rfl, ?_⟩
  | refine ⟨rfl, ?_⟩
  | refine ⟨_, _, rfl, ?_⟩
  | refine ⟨(.inl ⟨by decide, by decide⟩ : CMul _ _), ?_⟩
  | refine ⟨(by show (0 : Int) < _; first | decide | omega), ?_⟩
  | refine ⟨(⟨by first | decide | omega, by first | decide | omega⟩ : CDiv _ _), ?_⟩))
/-! LT01b: the law of paths, itself. -/
/-- law: slots 0 _law_script 1 _law_hands 2 _law_most 3 _law_found 4 _law_path 5 _law_others 6 _law_due 7 _law_hand 8 _law_far 9 _law_bad 10 _law_none 11 _law_cell 12 _law_pair 13 _law_way -/
def t_law01 (G : G3) (E : XK) : TS :=
  (tSeq (tAsg (tCall (sp_l_table G) [] E0 (tCons (tCall (sp_l_cell_at G) [] E0 (tCons (tVar 0) (tCons (tC (.int 0)) tNil))) tNil)) (gTup G.K 2 (gCons (gName 1) (gCons (gName 2) gNil))))
  (tSeq (tAsg (tCall (sp_paths G) [] E0 (tCons (tVar 1) (tCons (tVar 2) tNil))) (gName 3))
  (tSeq (tIfS (tNot (tB (tCall (sp_l_paths_right G) [] E0 (tCons (tVar 3) (tCons (tVar 1) (tCons (tVar 2) tNil)))))) (tRet (tC (.bl false))) tNext)
  (tSeq (tAsg (tOp (rIxL G.K) (tVar 3) (tOp oMod (tCall (sp_l_cell_at G) [] E0 (tCons (tVar 0) (tCons (tC (.int 1)) tNil))) (tCB (oLen G.K) (tCons (tVar 3) tNil)))) (gName 4))
  (tSeq (tAsg (tCall (sp_hearers G) [] E0 (tCons (tVar 1) (tCons (tVar 4) tNil))) (gName 5))
  (tSeq (tAsg (tLc (iRng1 (tCons (tVar 1) tNil)) (gName 7) (tTest (tOp (rIn G.K true) (tVar 7) (tVar 4))) (tVar 7) [7]) (gName 6))
  (tSeq (tIfS (tOr (tNot (tB (tCB (rIsi G.K) (tCons (tVar 5) (tCons (tC (.ty "list")) tNil))))) (tOr (tTest (tOp (rNeD G.K) (tVar 5) (tVar 6))) (tNot (tB (tCB (rAll G.K) (tCons (tLc (iList G.K (tVar 5)) (gName 7) tYes (tCall (sp_is_whole G) [] E0 (tCons (tVar 7) tNil)) [7]) tNil)))))) (tRet (tC (.bl false))) tNext)
  (tSeq (tDrop (tBM G.K "list" rAppend (tVar 3) (tCons (tTup (tCons (tC (.int 5)) tNil)) tNil)))
  (tSeq (tDrop (tBM G.K "list" rAppend (tVar 5) (tCons (tC (.int 5)) tNil)))
  (tSeq (tAsg (tOp oMod (tCall (sp_l_cell_at G) [] E0 (tCons (tVar 0) (tCons (tC (.int 2)) tNil))) (tOp oPow (tC (.int 10)) (tC (.int 12)))) (gName 8))
  (tSeq (tAsg (tLst (tCons (tC (.int 0)) (tCons (tC (.int 1)) (tCons (tC (.int 11)) (tCons (tOp oSub (tUn oNeg (tC (.int 1))) (tVar 8)) (tCons (tOp oAdd (tC (.int 11)) (tVar 8)) (tCons (tC (.bl true)) (tCons (tC .non) (tCons (tC (.str ("3" : Str))) (tCons (tTup (tCons (tC (.int 3)) tNil)) (tCons (tLst (tCons (tC (.int 4)) tNil)) tNil))))))))))) (gName 9))
  (tSeq (tAsg (tLst (tCons (tC (.int 3)) (tCons (tUn oNeg (tC (.int 1))) (tCons (tOp oAdd (tC (.int 3)) (tVar 8)) (tCons (tOp oSub (tUn oNeg (tC (.int 1))) (tVar 8)) (tCons (tC (.bl true)) (tCons (tC .non) (tCons (tC (.str ("1" : Str))) (tCons (tLst (tCons (tC (.int 1)) tNil)) (tCons (tC (.bl false)) (tCons (tTup tNil) tNil))))))))))) (gName 10))
  (tSeq (tAsg (tCall (sp_l_cell_at G) [] E0 (tCons (tVar 0) (tCons (tC (.int 3)) tNil))) (gName 11))
  (tSeq (tAsg (tTup (tCons (tOp (rIxL G.K) (tVar 9) (tOp oMod (tVar 11) (tC (.int 10)))) (tCons (tVar 2) tNil))) (gName 12))
  (Evl.tCut (tIfS (tTest (tOp oGt (tOp oMod (tOp oDiv (tVar 11) (tC (.int 10))) (tC (.int 3))) (tC (.int 0)))) (tAsg (tTup (tCons (tOp (rIxL G.K) (tLst (tCons (tVar 1) (tCons (tOp (rIxL G.K) (tVar 9) (tOp oMod (tVar 11) (tC (.int 10)))) tNil))) (tOp oSub (tOp oMod (tOp oDiv (tVar 11) (tC (.int 10))) (tC (.int 3))) (tC (.int 1)))) (tCons (tOp (rIxL G.K) (tVar 10) (tOp oMod (tOp oDiv (tVar 11) (tC (.int 30))) (tC (.int 10)))) tNil))) (gName 12)) tNext)
  (tSeq (tIfS (tNot (tB (tCB (rAll G.K) (tCons (tLc (iRng1 (tCons (tC (.int 4)) tNil)) (gName 13) tYes (tCall (sp_l_refused G) [] E0 (tCons (tVar 13) (tCons (tOp (rIxT G.K) (tVar 12) (tC (.int 0))) (tCons (tOp (rIxT G.K) (tVar 12) (tC (.int 1))) tNil)))) [13]) tNil)))) (tRet (tC (.bl false))) tNext)
  (tRet (tAndV (tCall (sp_l_paths_right G) [] E0 (tCons (tCall (sp_paths G) [] E0 (tCons (tVar 1) (tCons (tVar 2) tNil))) (tCons (tVar 1) (tCons (tVar 2) tNil)))) (tOp (rEqD G.K) (tCall (sp_hearers G) [] E0 (tCons (tVar 1) (tCons (tVar 4) tNil))) (tVar 6))))))))))))))))))))
theorem vn_inj {a b : Nat} (h : vn a = vn b) : a = b := by
  have : (a : Int) = (b : Int) := V.int.inj h
  omega
theorem tabOk_of {n m : Nat} (h1 : 2 ≤ n) (h2 : n ≤ 10) (h3 : m ≤ 2) : TabOk (vn n) (vn m) := ⟨n, m, rfl, rfl, h1, h2, h3⟩
theorem pathsM_ne {n m : Nat} (h1 : 2 ≤ n) : 0 < (pathsM n m).length := by
  have h : [0] ∈ pathsM n m := List.mem_flatMap.mpr ⟨0, by simp, by
    unfold pathsOf
    rw [if_pos (by omega)]
    exact List.mem_singleton.mpr rfl⟩
  exact List.length_pos_of_mem h
section
variable {G : G3} {N : List PySem.Str} {vs : List V} {H : Hp} {Q : VK} {E : XK}
theorem pure_law01 (xb : excB G.K = true) (hN : N.length = 14) (h : sp_law G vs H Q E) : t_law01 G E (endsOf Q) (L2.start N vs) H := by
  obtain ⟨a, ns, rfl, hs, hl, q⟩ := h
  rw [start_eq hN]
  got_up
  refine ⟨a, ns, 0, rfl, hs, ?_⟩
  got_up
  intro n m t H1 hn2 hm hn _ s1 ht
  refine ⟨t, _, rfl, SqT.of ht, rfl, ?_⟩
  got_up
  -- paths
  refine ⟨.int _, .int _, fun i j e1 e2 _ _ _ => ?_, fun z => (z (tabOk_of hn2 hn hm)).elim⟩
  cases vn_inj e1
  cases vn_inj e2
  intro l ys H2 nl s2 hl2 hys
  got_up
  refine ⟨n, m, _, rfl, hn2, hn, hm, ⟨l, ys, rfl, hl2, hys⟩, fun H3 s3 => ?_⟩
  have s13 : Same H H3 := (s1.trans s2).trans s3
  got_up
  -- a path
  refine ⟨a, ns, 1, rfl, s13.seq hs, ?_⟩
  got_up
  refine ⟨l, ys, rfl, .inl (SqL.of (s3 _ _ hl2)), ?_⟩
  have hlen : 0 < (ys.length : Int) := by
    rw [← hys.len]
    have := pathsM_ne (m := m) hn2
    omega
  obtain ⟨k, hk⟩ := Int.eq_ofNat_of_zero_le (Int.emod_nonneg (cellM ns 1) (show (ys.length : Int) ≠ 0 by omega))
  have hk2 : k < ys.length := by
    have := Int.emod_lt_of_pos (cellM ns 1) hlen
    omega
  obtain ⟨p, hp, hpr⟩ := (All2.mono mono_rPath s3 hys).get (List.getElem?_eq_getElem hk2)
  obtain ⟨b, hb, hbt⟩ := hpr
  have hpm : p ∈ pathsM n m := List.mem_of_getElem? hp
  got_up
  refine ⟨l, ys, _, .ref b, rfl, rfl, SqL.of (s3 _ _ hl2), by rw [hk]; exact atI_nat (by rw [List.getElem?_eq_getElem hk2, hb]), ?_⟩
  got_up
  -- its hearers
  refine ⟨n, p, _, rfl, by omega, ⟨b, rfl, hbt⟩, fun l2 ys2 H4 nl2 s4 hl3 hys2 => ?_⟩
  have eys2 := of_rN hys2
  subst eys2
  got_up
  refine lc_rg (n := n) (S := rN) (by omega) monoT_rN (fun d => decide (d ∉ p)) (fun d => d) ?_ ?_
  · intro d H' hd sm Y N' hY hN'
    got_up
    refine ⟨b, _, rfl, .inr (SqT.of (sm _ _ (s4 _ _ hbt))), rfl, flat_vn p, ?_⟩
    have e1 := inV_vn d p
    by_cases hp : d ∈ p
    · rw [e1, decide_eq_true hp]
      got_up
      exact hN' (decide_eq_false (not_not_intro hp)) _ (Same.refl _)
    · rw [e1, decide_eq_false hp]
      got_up
      exact hY (decide_eq_true hp) _ _ (Same.refl _) rfl
  intro du ys3 H5 ndu s5 hdu hys3
  have eys3 := of_rN hys3
  rw [List.map_id'] at eys3
  have eys4 : ys3 = (hearersM n p).map vn := eys3
  subst eys4
  clear eys3 hys3
  have hl5 : H5 l2 = some (.lst ((hearersM n p).map vn)) := s5 _ _ hl3
  have hlk : (hearersM n p).length ≤ 10 := Nat.le_trans (hearersM_len n p) hn
  got_up
  refine ⟨_, _, _, _, true, rfl, .ty _, .base (.lst hl5), kit_ty (by decide +kernel), ?_⟩
  got_up
  have hsh := Lay.shaped (lay_nats (hearersM n p)) (by decide)
  refine ⟨_, _, .lst (SqL.of hl5) (dpAll_vn _), .lst (SqL.of hdu) (dpAll_vn _), hsh, hsh, ?_⟩
  rw [SeqAt.eqv_refl _ (lay_nats (hearersM n p)).1]
  got_up
  refine lc_rl (R := rN) (S := rV) (ds := hearersM n p) mono_rN (SqL.of hl5) (all2_rN _) monoT_rV (fun _ => true) (fun _ => V.bl true) (by omega) ?_ ?_
  · rintro d v H' hd sm rfl Y N' hY hN'
    got_up
    exact ⟨.int _, hY rfl _ _ (Same.refl _) rfl⟩
  intro l4 ys4 H6 nl4 s6 hl4 hys4
  have eys4 := of_rV hys4
  rw [filter_tt] at eys4
  subst eys4
  refine ⟨l4, (hearersM n p).map fun _ => true, rfl, SqL.of (by rw [hl4]; simp only [List.map_map]; rfl), ?_⟩
  rw [all_true]
  got_up
  -- the lists told are changed
  have hll6 : H6 l = some (.lst ys) := s6 _ _ (s5 _ _ (s4 _ _ (s3 _ _ hl2)))
  have hl26 : H6 l2 = some (.lst ((hearersM n p).map vn)) := s6 _ _ hl5
  have s36 : Same H3 H6 := (s4.trans s5).trans s6
  refine ⟨.inl ⟨rfl, _, SqL.of hll6⟩, ?_⟩
  got_up
  refine ⟨by show 1 ≤ sizeLine; decide, fun t5 nt5 => ?_⟩
  have hlt5 : l ≠ t5 := ne_of_none hll6 nt5
  have hl2t5 : l2 ≠ t5 := ne_of_none hl26 nt5
  have hl2l : l2 ≠ l := fun z => by rw [z, s3 _ _ hl2] at nl2; cases nl2
  have hdul : du ≠ l := fun z => by rw [z, s4 _ _ (s3 _ _ hl2)] at ndu; cases ndu
  have hdul2 : du ≠ l2 := fun z => by rw [z, hl3] at ndu; cases ndu
  have hyl : ys.length < sizeLine := by
    rw [← hys.len]
    exact Nat.lt_of_le_of_lt (pathsM_count hn hm) (by decide)
  refine ⟨l, ys, _, rfl, rfl, by rw [upd_ne hlt5]; exact hll6, hyl, ?_⟩
  got_up
  refine ⟨.inl ⟨rfl, _, SqL.of (by rw [upd_ne hl2l, upd_ne hl2t5]; exact hl26)⟩, ?_⟩
  got_up
  refine ⟨l2, (hearersM n p).map vn, _, rfl, rfl, by rw [upd_ne hl2l, upd_ne hl2t5]; exact hl26, by rw [List.length_map]; exact Nat.lt_of_le_of_lt hlk (by decide), ?_⟩
  obtain ⟨H8, hH8⟩ : ∃ H8, H8 = upd (upd (upd H6 t5 (.tup [.int 5])) l (.lst (ys ++ [.ref t5]))) l2 (.lst ((hearersM n p).map vn ++ [.int 5])) := ⟨_, rfl⟩
  rw [← hH8]
  have nlH : H l = none := s1.free nl
  have nl2H : H l2 = none := s13.free nl2
  have s8 : Same H H8 := by
    rw [hH8]
    exact same_upd (same_upd ((s13.trans s36).trans (same_new nt5)) nlH) nl2H
  have hb8 : H8 b = some (.tup (p.map vn)) := by
    have hb6 := s36 _ _ hbt
    rw [hH8, upd_ne (ne_of hb6 hl26 (by simp)), upd_ne (ne_of hb6 hll6 (by simp))]
    exact same_new nt5 _ _ hb6
  have hdu8 : H8 du = some (.lst ((hearersM n p).map vn)) := by
    rw [hH8, upd_ne hdul2, upd_ne hdul]
    exact same_new nt5 _ _ (s6 _ _ hdu)
  clear hH8 hll6 hl26 nt5 hlt5 hl2t5 s6 nl4 hl4 hys4
  -- numbers of hands, of liars, that no table has
  got_up
  refine ⟨a, ns, 2, rfl, s8.seq hs, ?_⟩
  got_up
  refine ⟨(⟨by decide, by decide, by decide⟩ : CPow 10 12), ?_⟩
  got_up
  obtain ⟨far, hfar⟩ : ∃ far : Int, far = cellM ns 2 % (10 : Int) ^ (12 : Int).toNat := ⟨_, rfl⟩
  have hfar0 : 0 ≤ far := by rw [hfar]; exact Int.emod_nonneg _ (by decide)
  simp only [← hfar]
  refine ⟨by show 1 ≤ sizeLine; decide, fun t3 nt3 => ?_⟩
  refine ⟨by show 1 ≤ sizeLine; decide, fun l4 nl4 => ?_⟩
  refine ⟨by show 10 ≤ sizeLine; decide, fun bad nbad => ?_⟩
  obtain ⟨H9, hH9⟩ : ∃ H9, H9 = upd (upd H8 t3 (.tup [.int 3])) l4 (.lst [.int 4]) := ⟨_, rfl⟩
  have s9 : Same H8 H9 := by rw [hH9]; exact (same_new nt3).trans (same_new nl4)
  have ht3 : H9 t3 = some (.tup [.int 3]) := by rw [hH9]; exact same_new nl4 _ _ upd_same
  have hl49 : H9 l4 = some (.lst [.int 4]) := by rw [hH9]; exact upd_same
  rw [← hH9] at nbad ⊢
  clear hH9
  obtain ⟨bads, hbads⟩ : ∃ bads : List V, bads = [.int 0, .int 1, .int 11, .int (-1 - far), .int (11 + far), .bl true, .non, .str "3", .ref t3, .ref l4] := ⟨_, rfl⟩
  have hbadK : ∀ v ∈ bads, Kn H9 v ∧ ∀ i : Nat, v = vn i → ¬ (2 ≤ i ∧ i ≤ 10) := fun v hv => by
    rw [hbads] at hv
    simp only [List.mem_cons, List.not_mem_nil, or_false] at hv
    have ci : ∀ z : Int, (z < 2 ∨ 10 < z) → Kn H9 (.int z) ∧ ∀ i : Nat, V.int z = vn i → ¬ (2 ≤ i ∧ i ≤ 10) := fun z hz => ⟨.int _, fun i e h => by
      have : z = (i : Int) := V.int.inj e
      omega⟩
    rcases hv with rfl | rfl | rfl | rfl | rfl | rfl | rfl | rfl | rfl | rfl
    · exact ci _ (by omega)
    · exact ci _ (by omega)
    · exact ci _ (by omega)
    · exact ci _ (by omega)
    · exact ci _ (by omega)
    · exact ⟨.bl _, fun i e => nomatch e⟩
    · exact ⟨.non, fun i e => nomatch e⟩
    · exact ⟨.str _, fun i e => nomatch e⟩
    · exact ⟨.tup ht3, fun i e => nomatch e⟩
    · exact ⟨.lst hl49, fun i e => nomatch e⟩
  have hbl : bads.length = 10 := by rw [hbads]; rfl
  obtain ⟨HA, hHA⟩ : ∃ HA, HA = upd H9 bad (.lst [.int 0, .int 1, .int 11, .int (-1 - far), .int (11 + far), .bl true, .non, .str "3", .ref t3, .ref l4]) := ⟨_, rfl⟩
  have s10 : Same H9 HA := by rw [hHA]; exact same_new nbad
  have hbad : HA bad = some (.lst bads) := by rw [hHA, upd_same, hbads]
  rw [← hHA]
  clear hHA hbads
  got_up
  refine ⟨by show 1 ≤ sizeLine; decide, fun l1 nl1 => ?_⟩
  refine ⟨by show 0 ≤ sizeLine; decide, fun t0 nt0 => ?_⟩
  refine ⟨by show 10 ≤ sizeLine; decide, fun non nnon => ?_⟩
  obtain ⟨HB, hHB⟩ : ∃ HB, HB = upd (upd HA l1 (.lst [.int 1])) t0 (.tup []) := ⟨_, rfl⟩
  have s11 : Same HA HB := by rw [hHB]; exact (same_new nl1).trans (same_new nt0)
  have hl1B : HB l1 = some (.lst [.int 1]) := by rw [hHB]; exact same_new nt0 _ _ upd_same
  have ht0B : HB t0 = some (.tup []) := by rw [hHB]; exact upd_same
  rw [← hHB] at nnon ⊢
  clear hHB
  obtain ⟨nons, hnons⟩ : ∃ nons : List V, nons = [.int 3, .int (-1), .int (3 + far), .int (-1 - far), .bl true, .non, .str "1", .ref l1, .bl false, .ref t0] := ⟨_, rfl⟩
  have hnonK : ∀ v ∈ nons, Kn HB v ∧ ∀ i : Nat, v = vn i → ¬ (i ≤ 2) := fun v hv => by
    rw [hnons] at hv
    simp only [List.mem_cons, List.not_mem_nil, or_false] at hv
    have ci : ∀ z : Int, (z < 0 ∨ 2 < z) → Kn HB (.int z) ∧ ∀ i : Nat, V.int z = vn i → ¬ (i ≤ 2) := fun z hz => ⟨.int _, fun i e h => by
      have : z = (i : Int) := V.int.inj e
      omega⟩
    rcases hv with rfl | rfl | rfl | rfl | rfl | rfl | rfl | rfl | rfl | rfl
    · exact ci _ (by omega)
    · exact ci _ (by omega)
    · exact ci _ (by omega)
    · exact ci _ (by omega)
    · exact ⟨.bl _, fun i e => nomatch e⟩
    · exact ⟨.non, fun i e => nomatch e⟩
    · exact ⟨.str _, fun i e => nomatch e⟩
    · exact ⟨.lst hl1B, fun i e => nomatch e⟩
    · exact ⟨.bl _, fun i e => nomatch e⟩
    · exact ⟨.tup ht0B, fun i e => nomatch e⟩
  have hnl : nons.length = 10 := by rw [hnons]; rfl
  obtain ⟨HC, hHC⟩ : ∃ HC, HC = upd HB non (.lst [.int 3, .int (-1), .int (3 + far), .int (-1 - far), .bl true, .non, .str "1", .ref l1, .bl false, .ref t0]) := ⟨_, rfl⟩
  have s12 : Same HB HC := by rw [hHC]; exact same_new nnon
  have hnon : HC non = some (.lst nons) := by rw [hHC, upd_same, hnons]
  rw [← hHC]
  clear hHC hnons
  have sC : Same H8 HC := ((s9.trans s10).trans s11).trans s12
  got_up
  refine ⟨a, ns, 3, rfl, (s8.trans sC).seq hs, ?_⟩
  obtain ⟨c, hc⟩ : ∃ c, c = cellM ns 3 := ⟨_, rfl⟩
  rw [← hc]
  -- an item of either list
  have pick : ∀ (xs : List V) (z : Int), xs.length = 10 → ∃ v, atI xs (z % 10) = some v ∧ v ∈ xs := fun xs z hx => by
    obtain ⟨k, hk⟩ := Int.eq_ofNat_of_zero_le (Int.emod_nonneg z (show (10 : Int) ≠ 0 by decide))
    have hk2 : k < xs.length := by
      have := Int.emod_lt_of_pos z (show (0 : Int) < 10 by decide)
      omega
    exact ⟨xs[k], by rw [hk]; exact atI_nat (List.getElem?_eq_getElem hk2), List.getElem_mem hk2⟩
  obtain ⟨bv, hbv, hbm⟩ := pick bads c hbl
  obtain ⟨nv, hnv, hnm⟩ := pick nons (c / 30) hnl
  obtain ⟨hb1, hb2⟩ := hbadK bv hbm
  obtain ⟨hn1, hn2'⟩ := hnonK nv hnm
  have hb3 : Kn HC bv := hb1.mono ((s10.trans s11).trans s12)
  have hn3 : Kn HC nv := hn1.mono s12
  have hbadC : HC bad = some (.lst bads) := s12 _ _ (s11 _ _ hbad)
  got_up
  refine ⟨bad, bads, _, bv, rfl, rfl, SqL.of hbadC, hbv, ?_⟩
  got_up
  refine ⟨by show 2 ≤ sizeLine; decide, fun pr npr => ?_⟩
  have s14 : Same HC (upd HC pr (.tup [bv, vn m])) := same_new npr
  -- behind the if: a pair that no table has
  refine ⟨fun σ' H' => (∃ pr h m' v13, σ' = [some (.ref a), some (vn n), some (vn m), some (.ref l), some (.ref b), some (.ref l2), some (.ref du), none, some (.int far), some (.ref bad), some (.ref non), some (.int c), some (.ref pr), v13] ∧ H' pr = some (.tup [h, m']) ∧ Kn H' h ∧ Kn H' m' ∧ ¬ TabOk h m') ∧ Same HC H', ?_, ?_⟩
  · got_up
    refine ite2 (fun c1 => ?_) (fun c1 => ?_)
    · got_up
      refine ⟨bad, bads, _, bv, rfl, rfl, SqL.of (s14 _ _ hbadC), hbv, ?_⟩
      refine ⟨by show 2 ≤ sizeLine; decide, fun l5 nl5 => ?_⟩
      have s15 : Same HC (upd (upd HC pr (.tup [bv, vn m])) l5 (.lst [vn n, bv])) := s14.trans (same_new nl5)
      got_up
      obtain ⟨x, hx, hxm⟩ : ∃ x, atI [vn n, bv] (c / 10 % 3 - 1) = some x ∧ (x = vn n ∨ x = bv) := by
        have h1 : 0 < c / 10 % 3 := of_decide_eq_true c1
        have h2 := Int.emod_lt_of_pos (c / 10) (show (0 : Int) < 3 by decide)
        rcases (show c / 10 % 3 = 1 ∨ c / 10 % 3 = 2 by omega) with h | h
        · exact ⟨_, by rw [h]; rfl, .inl rfl⟩
        · exact ⟨_, by rw [h]; rfl, .inr rfl⟩
      refine ⟨l5, [vn n, bv], _, x, rfl, rfl, SqL.of upd_same, hx, ?_⟩
      got_up
      refine ⟨non, nons, _, nv, rfl, rfl, SqL.of (s15 _ _ hnon), hnv, ?_⟩
      refine ⟨by show 2 ≤ sizeLine; decide, fun p2 np2 => ?_⟩
      have s16 := s15.trans (same_new (o := .tup [x, nv]) np2)
      refine ⟨⟨p2, x, nv, _, rfl, upd_same, ?_, hn3.mono s16, fun ⟨i, j, _, e, _, _, h⟩ => hn2' j e h⟩, s16⟩
      rcases hxm with rfl | rfl
      · exact .int _
      · exact hb3.mono s16
    · exact ⟨⟨pr, bv, vn m, _, rfl, upd_same, hb3.mono s14, .int _, fun ⟨i, j, e, _, h1, h2, _⟩ => hb2 i e ⟨h1, h2⟩⟩, s14⟩
  · rintro σ' HD ⟨⟨pr, h, m', v13, rfl, hpr, kh, km, nok⟩, sD⟩
    got_up
    refine lc_rg (n := 4) (S := rV) (by omega) monoT_rV (fun _ => true) (fun _ => V.bl true) ?_ ?_
    · intro w H' hw sm Y N' hY hN'
      got_up
      refine ⟨pr, _, 0, _, rfl, rfl, SqT.of (sm _ _ hpr), rfl, ?_⟩
      got_up
      refine ⟨pr, _, 1, _, rfl, rfl, SqT.of (sm _ _ hpr), rfl, ?_⟩
      exact ⟨w, h, m', rfl, hw, kh.mono sm, km.mono sm, nok, xb, fun H'' s => hY rfl _ _ s rfl⟩
    intro l6 ys6 HE nl6 sE hl6 hys6
    have eys6 := of_rV hys6
    rw [filter_tt] at eys6
    subst eys6
    refine ⟨l6, (List.range 4).map fun _ => true, rfl, SqL.of (by rw [hl6]; simp only [List.map_map]; rfl), ?_⟩
    rw [all_true]
    have s8E : Same H8 HE := (sC.trans sD).trans sE
    got_up
    refine ⟨.int _, .int _, fun i j e1 e2 _ _ _ => ?_, fun z => (z (tabOk_of hn2 hn hm)).elim⟩
    cases vn_inj e1
    cases vn_inj e2
    intro l7 ys7 HF nl7 sF hl7 hys7
    got_up
    refine ⟨n, m, _, rfl, hn2, hn, hm, ⟨l7, ys7, rfl, hl7, hys7⟩, fun HG sG => ?_⟩
    have s8G : Same H8 HG := (s8E.trans sF).trans sG
    got_up
    refine ⟨n, p, _, rfl, by omega, ⟨b, rfl, s8G _ _ hb8⟩, fun l8 ys8 HI nl8 sI hl8 hys8 => ?_⟩
    have eys8 := of_rN hys8
    subst eys8
    got_up
    refine ⟨_, _, .lst (SqL.of hl8) (dpAll_vn _), .lst (SqL.of (sI _ _ (s8G _ _ hdu8))) (dpAll_vn _), hsh, hsh, ?_⟩
    rw [SeqAt.eqv_refl _ (lay_nats (hearersM n p)).1]
    exact q _
end
end LT

set_option Elab.async false
set_option linter.all false
set_option maxRecDepth 100000
set_option maxHeartbeats 0

namespace LK
open PySem PySem.Spec PyProof.Rows L2 LT
set_option maxRecDepth 100000
def top (i : Nat) : Stmt := PySem.Challenge.pw_lietable_k01_paths.main.body.getD i (.Pass ⟨0, 0, 0, 0⟩)
abbrev s_l_cell_at : Stmt := top 35
abbrev N_l_cell_at : List PySem.Str := ["_law_script", "_law_k"]
abbrev P_l_cell_at : List PySem.Str := ["_law_script", "_law_k"]
theorem sc_l_cell_at : FnScope N_l_cell_at P_l_cell_at (defScope s_l_cell_at) := ⟨rfl, rfl, rfl, by decide +kernel, rfl, by decide +kernel, by decide +kernel⟩
abbrev s_l_table : Stmt := top 37
abbrev N_l_table : List PySem.Str := ["_law_cell", "_law_most"]
abbrev P_l_table : List PySem.Str := ["_law_cell"]
theorem sc_l_table : FnScope N_l_table P_l_table (defScope s_l_table) := ⟨rfl, rfl, rfl, by decide +kernel, rfl, by decide +kernel, by decide +kernel⟩
abbrev s_is_whole : Stmt := top 13
abbrev N_is_whole : List PySem.Str := ["value"]
abbrev P_is_whole : List PySem.Str := ["value"]
theorem sc_is_whole : FnScope N_is_whole P_is_whole (defScope s_is_whole) := ⟨rfl, rfl, rfl, by decide +kernel, rfl, by decide +kernel, by decide +kernel⟩
abbrev s_need_table : Stmt := top 14
abbrev N_need_table : List PySem.Str := ["hands", "most"]
abbrev P_need_table : List PySem.Str := ["hands", "most"]
theorem sc_need_table : FnScope N_need_table P_need_table (defScope s_need_table) := ⟨rfl, rfl, rfl, by decide +kernel, rfl, by decide +kernel, by decide +kernel⟩
abbrev s_hearers : Stmt := top 18
abbrev N_hearers : List PySem.Str := ["hands", "path", "hand"]
abbrev P_hearers : List PySem.Str := ["hands", "path"]
theorem sc_hearers : FnScope N_hearers P_hearers (defScope s_hearers) := ⟨rfl, rfl, rfl, by decide +kernel, rfl, by decide +kernel, by decide +kernel⟩
abbrev s_longer : Stmt := top 19
abbrev N_longer : List PySem.Str := ["hands", "paths_before", "found", "path", "hand"]
abbrev P_longer : List PySem.Str := ["hands", "paths_before"]
theorem sc_longer : FnScope N_longer P_longer (defScope s_longer) := ⟨rfl, rfl, rfl, by decide +kernel, rfl, by decide +kernel, by decide +kernel⟩
abbrev s_paths_of : Stmt := top 20
abbrev N_paths_of : List PySem.Str := ["hands", "size", "found", "turn"]
abbrev P_paths_of : List PySem.Str := ["hands", "size"]
theorem sc_paths_of : FnScope N_paths_of P_paths_of (defScope s_paths_of) := ⟨rfl, rfl, rfl, by decide +kernel, rfl, by decide +kernel, by decide +kernel⟩
abbrev s_paths : Stmt := top 21
abbrev N_paths : List PySem.Str := ["hands", "most", "found", "size"]
abbrev P_paths : List PySem.Str := ["hands", "most"]
theorem sc_paths : FnScope N_paths P_paths (defScope s_paths) := ⟨rfl, rfl, rfl, by decide +kernel, rfl, by decide +kernel, by decide +kernel⟩
abbrev s_l_paths : Stmt := top 38
abbrev N_l_paths : List PySem.Str := ["_law_hands", "_law_size", "_law_found", "_law_turn", "_law_hand", "_law_path"]
abbrev P_l_paths : List PySem.Str := ["_law_hands", "_law_size"]
theorem sc_l_paths : FnScope N_l_paths P_l_paths (defScope s_l_paths) := ⟨rfl, rfl, rfl, by decide +kernel, rfl, by decide +kernel, by decide +kernel⟩
abbrev s_l_whole : Stmt := top 36
abbrev N_l_whole : List PySem.Str := ["_law_found"]
abbrev P_l_whole : List PySem.Str := ["_law_found"]
theorem sc_l_whole : FnScope N_l_whole P_l_whole (defScope s_l_whole) := ⟨rfl, rfl, rfl, by decide +kernel, rfl, by decide +kernel, by decide +kernel⟩
abbrev s_l_paths_right : Stmt := top 40
abbrev N_l_paths_right : List PySem.Str := ["_law_found", "_law_hands", "_law_most", "_law_due", "_law_size", "_law_hand", "_law_path"]
abbrev P_l_paths_right : List PySem.Str := ["_law_found", "_law_hands", "_law_most"]
theorem sc_l_paths_right : FnScope N_l_paths_right P_l_paths_right (defScope s_l_paths_right) := ⟨rfl, rfl, rfl, by decide +kernel, rfl, by decide +kernel, by decide +kernel⟩
abbrev s_parting : Stmt := top 33
abbrev N_parting : List PySem.Str := ["hands", "most", "count", "liars", "k", "lies", "path", "hearer"]
abbrev P_parting : List PySem.Str := ["hands", "most"]
theorem sc_parting : FnScope N_parting P_parting (defScope s_parting) := ⟨rfl, rfl, rfl, by decide +kernel, rfl, by decide +kernel, by decide +kernel⟩
abbrev s_Table_init : Stmt := inClass (top 29) 0
abbrev N_Table_init : List PySem.Str := ["self", "hands", "most", "sign", "liars", "hand"]
abbrev P_Table_init : List PySem.Str := ["self", "hands", "most", "sign", "liars"]
theorem sc_Table_init : FnScope N_Table_init P_Table_init (defScope s_Table_init) := ⟨rfl, rfl, rfl, by decide +kernel, rfl, by decide +kernel, by decide +kernel⟩
abbrev s_parts : Stmt := top 32
abbrev N_parts : List PySem.Str := ["hands", "most", "sign", "liars", "lies", "table", "sayings", "size", "signs", "hand", "one"]
abbrev P_parts : List PySem.Str := ["hands", "most", "sign", "liars", "lies"]
theorem sc_parts : FnScope N_parts P_parts (defScope s_parts) := ⟨rfl, rfl, rfl, by decide +kernel, rfl, by decide +kernel, by decide +kernel⟩
abbrev s_l_refused : Stmt := top 39
abbrev N_l_refused : List PySem.Str := ["_law_way", "_law_hands", "_law_most", "_law_other", "e"]
abbrev P_l_refused : List PySem.Str := ["_law_way", "_law_hands", "_law_most"]
theorem sc_l_refused : FnScope N_l_refused P_l_refused (defScope s_l_refused) := ⟨rfl, rfl, rfl, by decide +kernel, rfl, by decide +kernel, by decide +kernel⟩
abbrev s_law : Stmt := top 41
abbrev N_law : List PySem.Str := ["_law_script", "_law_hands", "_law_most", "_law_found", "_law_path", "_law_others", "_law_due", "_law_hand", "_law_far", "_law_bad", "_law_none", "_law_cell", "_law_pair", "_law_way"]
abbrev P_law : List PySem.Str := ["_law_script"]
theorem sc_law : FnScope N_law P_law (defScope s_law) := ⟨rfl, rfl, rfl, by decide +kernel, rfl, by decide +kernel, by decide +kernel⟩
def d_l_cell_at : He.DefD := ⟨("_law_cell_at", none), "_law_cell_at", "_law_cell_at", defArgs s_l_cell_at, defBody s_l_cell_at, defScope s_l_cell_at, [], []⟩
def d_l_table : He.DefD := ⟨("_law_table", none), "_law_table", "_law_table", defArgs s_l_table, defBody s_l_table, defScope s_l_table, [], []⟩
def d_is_whole : He.DefD := ⟨("is_whole", none), "is_whole", "is_whole", defArgs s_is_whole, defBody s_is_whole, defScope s_is_whole, [], []⟩
def d_need_table : He.DefD := ⟨("need_table", none), "need_table", "need_table", defArgs s_need_table, defBody s_need_table, defScope s_need_table, [], []⟩
def d_hearers : He.DefD := ⟨("hearers", none), "hearers", "hearers", defArgs s_hearers, defBody s_hearers, defScope s_hearers, [], []⟩
def d_longer : He.DefD := ⟨("longer", none), "longer", "longer", defArgs s_longer, defBody s_longer, defScope s_longer, [], []⟩
def d_paths_of : He.DefD := ⟨("paths_of", none), "paths_of", "paths_of", defArgs s_paths_of, defBody s_paths_of, defScope s_paths_of, [], []⟩
def d_paths : He.DefD := ⟨("paths", none), "paths", "paths", defArgs s_paths, defBody s_paths, defScope s_paths, [], []⟩
def d_l_paths : He.DefD := ⟨("_law_paths", none), "_law_paths", "_law_paths", defArgs s_l_paths, defBody s_l_paths, defScope s_l_paths, [], []⟩
def d_l_whole : He.DefD := ⟨("_law_whole", none), "_law_whole", "_law_whole", defArgs s_l_whole, defBody s_l_whole, defScope s_l_whole, [], []⟩
def d_l_paths_right : He.DefD := ⟨("_law_paths_right", none), "_law_paths_right", "_law_paths_right", defArgs s_l_paths_right, defBody s_l_paths_right, defScope s_l_paths_right, [], []⟩
def d_parting : He.DefD := ⟨("parting", none), "parting", "parting", defArgs s_parting, defBody s_parting, defScope s_parting, [], []⟩
def d_Table_init : He.DefD := ⟨("Table", some "__init__"), "__init__", "Table.__init__", defArgs s_Table_init, defBody s_Table_init, defScope s_Table_init, [], []⟩
def d_parts : He.DefD := ⟨("parts", none), "parts", "parts", defArgs s_parts, defBody s_parts, defScope s_parts, [], []⟩
def d_l_refused : He.DefD := ⟨("_law_refused", none), "_law_refused", "_law_refused", defArgs s_l_refused, defBody s_l_refused, defScope s_l_refused, [], []⟩
def d_law : He.DefD := ⟨("law", none), "law", "law", defArgs s_law, defBody s_law, defScope s_law, [], []⟩
def fn : List He.DefD := [d_l_cell_at, d_l_table, d_is_whole, d_need_table, d_hearers, d_longer, d_paths_of, d_paths, d_l_paths, d_l_whole, d_l_paths_right, d_parting, d_Table_init, d_parts, d_l_refused, d_law]
def fa : List He.Fa := [.free "ValueError", .free "all", .free "bool", .free "int", .free "isinstance", .free "len", .free "list", .free "min", .free "range", .free "sum", .free "tuple", .int "MOST_HANDS" 10, .int "MOST_LIARS" 2, .glo "NoHand", .exc "NoHand", .glo "NoSaying", .exc "NoSaying", .glo "NoSign", .exc "NoSign", .glo "NoTable", .exc "NoTable", .glo "NotOver", .exc "NotOver", .glo "Over", .exc "Over", .glo "Table", .cls "Table", .noat "Table" "hands", .noat "Table" "most", .noat "Table" "sign", .noat "Table" "liars", .noat "Table" "round", .noat "Table" "ears", .glo "TableError", .exc "TableError", .glo "_law_cell_at", .glo "_law_table", .glo "is_whole", .glo "need_table", .glo "hearers", .glo "longer", .glo "paths_of", .glo "paths", .glo "_law_paths", .glo "_law_whole", .glo "_law_paths_right", .glo "parting", .mkr "Table", .glo "parts", .glo "_law_refused", .glo "law"]
structure Tx (K : PySem.W.Frag) (mg : PySem.Str → Option Value) : Prop where
  b_ValueError : mg "ValueError" = none
  b_all : mg "all" = none
  b_bool : mg "bool" = none
  b_int : mg "int" = none
  b_isinstance : mg "isinstance" = none
  b_len : mg "len" = none
  b_list : mg "list" = none
  b_min : mg "min" = none
  b_range : mg "range" = none
  b_sum : mg "sum" = none
  b_tuple : mg "tuple" = none
  c_MOST_HANDS : ∃ t, mg "MOST_HANDS" = some (.int 10 t)
  c_MOST_LIARS : ∃ t, mg "MOST_LIARS" = some (.int 2 t)
  g_NoHand : mg "NoHand" = some (.ref (He.ga K "NoHand"))
  x_NoHand : PySem.W.excIn K (He.ga K "NoHand") He.veBase "ValueError.__new__" = true
  k_NoHand : PySem.W.keepIn K (.ref (He.ga K "NoHand")) = true
  bs_NoHand : PySem.W.subIn K (.ref (He.ga K "NoHand")) (.type "BaseException") = some true
  ty_NoHand : PySem.W.typeIn K (.ref (He.ga K "NoHand")) = some (.type "type")
  g_NoSaying : mg "NoSaying" = some (.ref (He.ga K "NoSaying"))
  x_NoSaying : PySem.W.excIn K (He.ga K "NoSaying") He.veBase "ValueError.__new__" = true
  k_NoSaying : PySem.W.keepIn K (.ref (He.ga K "NoSaying")) = true
  bs_NoSaying : PySem.W.subIn K (.ref (He.ga K "NoSaying")) (.type "BaseException") = some true
  ty_NoSaying : PySem.W.typeIn K (.ref (He.ga K "NoSaying")) = some (.type "type")
  g_NoSign : mg "NoSign" = some (.ref (He.ga K "NoSign"))
  x_NoSign : PySem.W.excIn K (He.ga K "NoSign") He.veBase "ValueError.__new__" = true
  k_NoSign : PySem.W.keepIn K (.ref (He.ga K "NoSign")) = true
  bs_NoSign : PySem.W.subIn K (.ref (He.ga K "NoSign")) (.type "BaseException") = some true
  ty_NoSign : PySem.W.typeIn K (.ref (He.ga K "NoSign")) = some (.type "type")
  g_NoTable : mg "NoTable" = some (.ref (He.ga K "NoTable"))
  x_NoTable : PySem.W.excIn K (He.ga K "NoTable") He.veBase "ValueError.__new__" = true
  k_NoTable : PySem.W.keepIn K (.ref (He.ga K "NoTable")) = true
  bs_NoTable : PySem.W.subIn K (.ref (He.ga K "NoTable")) (.type "BaseException") = some true
  ty_NoTable : PySem.W.typeIn K (.ref (He.ga K "NoTable")) = some (.type "type")
  g_NotOver : mg "NotOver" = some (.ref (He.ga K "NotOver"))
  x_NotOver : PySem.W.excIn K (He.ga K "NotOver") He.veBase "ValueError.__new__" = true
  k_NotOver : PySem.W.keepIn K (.ref (He.ga K "NotOver")) = true
  bs_NotOver : PySem.W.subIn K (.ref (He.ga K "NotOver")) (.type "BaseException") = some true
  ty_NotOver : PySem.W.typeIn K (.ref (He.ga K "NotOver")) = some (.type "type")
  g_Over : mg "Over" = some (.ref (He.ga K "Over"))
  x_Over : PySem.W.excIn K (He.ga K "Over") He.veBase "ValueError.__new__" = true
  k_Over : PySem.W.keepIn K (.ref (He.ga K "Over")) = true
  bs_Over : PySem.W.subIn K (.ref (He.ga K "Over")) (.type "BaseException") = some true
  ty_Over : PySem.W.typeIn K (.ref (He.ga K "Over")) = some (.type "type")
  g_Table : mg "Table" = some (.ref (He.ga K "Table"))
  cls_Table : Cls K (He.ga K "Table")
  na_hands : NoAttr K (He.ga K "Table") "hands"
  na_most : NoAttr K (He.ga K "Table") "most"
  na_sign : NoAttr K (He.ga K "Table") "sign"
  na_liars : NoAttr K (He.ga K "Table") "liars"
  na_round : NoAttr K (He.ga K "Table") "round"
  na_ears : NoAttr K (He.ga K "Table") "ears"
  g_TableError : mg "TableError" = some (.ref (He.ga K "TableError"))
  x_TableError : PySem.W.excIn K (He.ga K "TableError") He.veBase "ValueError.__new__" = true
  k_TableError : PySem.W.keepIn K (.ref (He.ga K "TableError")) = true
  bs_TableError : PySem.W.subIn K (.ref (He.ga K "TableError")) (.type "BaseException") = some true
  ty_TableError : PySem.W.typeIn K (.ref (He.ga K "TableError")) = some (.type "type")
  g__law_cell_at : mg "_law_cell_at" = some (.ref (He.ga K "_law_cell_at"))
  F_l_cell_at : ∃ fd, FunD K "_law_cell_at" "_law_cell_at" (defArgs s_l_cell_at) (defBody s_l_cell_at) (defScope s_l_cell_at) [] [] (He.fAd K ("_law_cell_at", none)) fd
  g__law_table : mg "_law_table" = some (.ref (He.ga K "_law_table"))
  F_l_table : ∃ fd, FunD K "_law_table" "_law_table" (defArgs s_l_table) (defBody s_l_table) (defScope s_l_table) [] [] (He.fAd K ("_law_table", none)) fd
  g_is_whole : mg "is_whole" = some (.ref (He.ga K "is_whole"))
  F_is_whole : ∃ fd, FunD K "is_whole" "is_whole" (defArgs s_is_whole) (defBody s_is_whole) (defScope s_is_whole) [] [] (He.fAd K ("is_whole", none)) fd
  g_need_table : mg "need_table" = some (.ref (He.ga K "need_table"))
  F_need_table : ∃ fd, FunD K "need_table" "need_table" (defArgs s_need_table) (defBody s_need_table) (defScope s_need_table) [] [] (He.fAd K ("need_table", none)) fd
  g_hearers : mg "hearers" = some (.ref (He.ga K "hearers"))
  F_hearers : ∃ fd, FunD K "hearers" "hearers" (defArgs s_hearers) (defBody s_hearers) (defScope s_hearers) [] [] (He.fAd K ("hearers", none)) fd
  g_longer : mg "longer" = some (.ref (He.ga K "longer"))
  F_longer : ∃ fd, FunD K "longer" "longer" (defArgs s_longer) (defBody s_longer) (defScope s_longer) [] [] (He.fAd K ("longer", none)) fd
  g_paths_of : mg "paths_of" = some (.ref (He.ga K "paths_of"))
  F_paths_of : ∃ fd, FunD K "paths_of" "paths_of" (defArgs s_paths_of) (defBody s_paths_of) (defScope s_paths_of) [] [] (He.fAd K ("paths_of", none)) fd
  g_paths : mg "paths" = some (.ref (He.ga K "paths"))
  F_paths : ∃ fd, FunD K "paths" "paths" (defArgs s_paths) (defBody s_paths) (defScope s_paths) [] [] (He.fAd K ("paths", none)) fd
  g__law_paths : mg "_law_paths" = some (.ref (He.ga K "_law_paths"))
  F_l_paths : ∃ fd, FunD K "_law_paths" "_law_paths" (defArgs s_l_paths) (defBody s_l_paths) (defScope s_l_paths) [] [] (He.fAd K ("_law_paths", none)) fd
  g__law_whole : mg "_law_whole" = some (.ref (He.ga K "_law_whole"))
  F_l_whole : ∃ fd, FunD K "_law_whole" "_law_whole" (defArgs s_l_whole) (defBody s_l_whole) (defScope s_l_whole) [] [] (He.fAd K ("_law_whole", none)) fd
  g__law_paths_right : mg "_law_paths_right" = some (.ref (He.ga K "_law_paths_right"))
  F_l_paths_right : ∃ fd, FunD K "_law_paths_right" "_law_paths_right" (defArgs s_l_paths_right) (defBody s_l_paths_right) (defScope s_l_paths_right) [] [] (He.fAd K ("_law_paths_right", none)) fd
  g_parting : mg "parting" = some (.ref (He.ga K "parting"))
  F_parting : ∃ fd, FunD K "parting" "parting" (defArgs s_parting) (defBody s_parting) (defScope s_parting) [] [] (He.fAd K ("parting", none)) fd
  mk_Table : Mk K (He.ga K "Table") (He.ma K (He.ga K "Table") "__init__")
  F_Table_init : ∃ fd, FunD K "__init__" "Table.__init__" (defArgs s_Table_init) (defBody s_Table_init) (defScope s_Table_init) [] [] (He.fAd K ("Table", some "__init__")) fd
  g_parts : mg "parts" = some (.ref (He.ga K "parts"))
  F_parts : ∃ fd, FunD K "parts" "parts" (defArgs s_parts) (defBody s_parts) (defScope s_parts) [] [] (He.fAd K ("parts", none)) fd
  g__law_refused : mg "_law_refused" = some (.ref (He.ga K "_law_refused"))
  F_l_refused : ∃ fd, FunD K "_law_refused" "_law_refused" (defArgs s_l_refused) (defBody s_l_refused) (defScope s_l_refused) [] [] (He.fAd K ("_law_refused", none)) fd
  F_law : ∃ fd, FunD K "law" "law" (defArgs s_law) (defBody s_law) (defScope s_law) [] [] (He.fAd K ("law", none)) fd
  xb : LT.excB K = true
theorem tx_of {K : PySem.W.Frag} {h : Heap} {mg : PySem.Str → Option Value} (X : K.In h) (G : h.Ns mainGlobals mg) (c : He.SaysD fa fn K) (cx : LT.excB K = true) : Tx K mg :=
  ⟨He.free_ok X G (c.fact 0 rfl),
   He.free_ok X G (c.fact 1 rfl),
   He.free_ok X G (c.fact 2 rfl),
   He.free_ok X G (c.fact 3 rfl),
   He.free_ok X G (c.fact 4 rfl),
   He.free_ok X G (c.fact 5 rfl),
   He.free_ok X G (c.fact 6 rfl),
   He.free_ok X G (c.fact 7 rfl),
   He.free_ok X G (c.fact 8 rfl),
   He.free_ok X G (c.fact 9 rfl),
   He.free_ok X G (c.fact 10 rfl),
   He.int_ok X G (c.fact 11 rfl),
   He.int_ok X G (c.fact 12 rfl),
   He.glo_ok X G (c.fact 13 rfl),
   (He.exc_ok (c.fact 14 rfl)).1,
   (He.exc_ok (c.fact 14 rfl)).2.1,
   (He.exc_ok (c.fact 14 rfl)).2.2.1,
   (He.exc_ok (c.fact 14 rfl)).2.2.2,
   He.glo_ok X G (c.fact 15 rfl),
   (He.exc_ok (c.fact 16 rfl)).1,
   (He.exc_ok (c.fact 16 rfl)).2.1,
   (He.exc_ok (c.fact 16 rfl)).2.2.1,
   (He.exc_ok (c.fact 16 rfl)).2.2.2,
   He.glo_ok X G (c.fact 17 rfl),
   (He.exc_ok (c.fact 18 rfl)).1,
   (He.exc_ok (c.fact 18 rfl)).2.1,
   (He.exc_ok (c.fact 18 rfl)).2.2.1,
   (He.exc_ok (c.fact 18 rfl)).2.2.2,
   He.glo_ok X G (c.fact 19 rfl),
   (He.exc_ok (c.fact 20 rfl)).1,
   (He.exc_ok (c.fact 20 rfl)).2.1,
   (He.exc_ok (c.fact 20 rfl)).2.2.1,
   (He.exc_ok (c.fact 20 rfl)).2.2.2,
   He.glo_ok X G (c.fact 21 rfl),
   (He.exc_ok (c.fact 22 rfl)).1,
   (He.exc_ok (c.fact 22 rfl)).2.1,
   (He.exc_ok (c.fact 22 rfl)).2.2.1,
   (He.exc_ok (c.fact 22 rfl)).2.2.2,
   He.glo_ok X G (c.fact 23 rfl),
   (He.exc_ok (c.fact 24 rfl)).1,
   (He.exc_ok (c.fact 24 rfl)).2.1,
   (He.exc_ok (c.fact 24 rfl)).2.2.1,
   (He.exc_ok (c.fact 24 rfl)).2.2.2,
   He.glo_ok X G (c.fact 25 rfl),
   He.cls_ok (c.fact 26 rfl),
   He.noat_ok (c.fact 27 rfl),
   He.noat_ok (c.fact 28 rfl),
   He.noat_ok (c.fact 29 rfl),
   He.noat_ok (c.fact 30 rfl),
   He.noat_ok (c.fact 31 rfl),
   He.noat_ok (c.fact 32 rfl),
   He.glo_ok X G (c.fact 33 rfl),
   (He.exc_ok (c.fact 34 rfl)).1,
   (He.exc_ok (c.fact 34 rfl)).2.1,
   (He.exc_ok (c.fact 34 rfl)).2.2.1,
   (He.exc_ok (c.fact 34 rfl)).2.2.2,
   He.glo_ok X G (c.fact 35 rfl),
   c.def_ 0 (d := d_l_cell_at) rfl,
   He.glo_ok X G (c.fact 36 rfl),
   c.def_ 1 (d := d_l_table) rfl,
   He.glo_ok X G (c.fact 37 rfl),
   c.def_ 2 (d := d_is_whole) rfl,
   He.glo_ok X G (c.fact 38 rfl),
   c.def_ 3 (d := d_need_table) rfl,
   He.glo_ok X G (c.fact 39 rfl),
   c.def_ 4 (d := d_hearers) rfl,
   He.glo_ok X G (c.fact 40 rfl),
   c.def_ 5 (d := d_longer) rfl,
   He.glo_ok X G (c.fact 41 rfl),
   c.def_ 6 (d := d_paths_of) rfl,
   He.glo_ok X G (c.fact 42 rfl),
   c.def_ 7 (d := d_paths) rfl,
   He.glo_ok X G (c.fact 43 rfl),
   c.def_ 8 (d := d_l_paths) rfl,
   He.glo_ok X G (c.fact 44 rfl),
   c.def_ 9 (d := d_l_whole) rfl,
   He.glo_ok X G (c.fact 45 rfl),
   c.def_ 10 (d := d_l_paths_right) rfl,
   He.glo_ok X G (c.fact 46 rfl),
   c.def_ 11 (d := d_parting) rfl,
   He.mkr_ok (c.fact 47 rfl),
   c.def_ 12 (d := d_Table_init) rfl,
   He.glo_ok X G (c.fact 48 rfl),
   c.def_ 13 (d := d_parts) rfl,
   He.glo_ok X G (c.fact 49 rfl),
   c.def_ 14 (d := d_l_refused) rfl,
   c.def_ 15 (d := d_law) rfl,
   cx⟩
section
variable {P : Program} {w : World} {K : PySem.W.Frag} {mg : PySem.Str → Option Value} {base : Heap} (T : Tx K mg)
include T

theorem b_l_cell_at : Binds K T.F_l_cell_at.choose P_l_cell_at [] := T.F_l_cell_at.choose_spec.bindsN fun _ _ _ _ _ _ us hl => match us, hl with | [_, _], _ => rfl
theorem ok_l_cell_at : FnOk P w K mg base (L2.CX P w) 1 (He.ga K "_law_cell_at") T.F_l_cell_at.choose P_l_cell_at (sp_l_cell_at ⟨P, w, K⟩) := by
  refine T.F_l_cell_at.choose_spec.ok sc_l_cell_at (fun vs H Q E h => by first | (obtain ⟨rfl, _⟩ := h; rfl) | (obtain ⟨_, rfl, _⟩ := h; rfl) | (obtain ⟨_, _, rfl, _⟩ := h; rfl) | (obtain ⟨_, _, _, rfl, _⟩ := h; rfl) | (obtain ⟨_, _, _, _, rfl, _⟩ := h; rfl) | (obtain ⟨_, _, _, _, _, rfl, _⟩ := h; rfl) | (obtain ⟨_, _, _, _, _, _, rfl, _⟩ := h; rfl) | (obtain ⟨_, _, _, _, _, _, _, rfl, _⟩ := h; rfl) | (obtain ⟨_, _, _, _, _, _, _, _, rfl, _⟩ := h; rfl) | (obtain ⟨_, _, _, _, _, _, _, _, _, rfl, _⟩ := h; rfl) | (obtain ⟨_, _, _, _, _, _, _, _, _, _, rfl, _⟩ := h; rfl) | (obtain ⟨_, _, _, _, _, _, _, _, _, _, _, rfl, _⟩ := h; rfl) | (obtain ⟨_, _, _, _, _, _, _, _, _, _, _, _, rfl, _⟩ := h; rfl)) (fun cdv A outer s H vs Q E hr h => ⟨t_l_cell_at ⟨P, w, K⟩ E, PSs.nox ?_, pure_l_cell_at (by rfl) h⟩)
  have hu := hu_of hr
  exact (pss_cons (ps_if (pt_cmpR op_lt (pv 1) (pe_callB call_len_seq (by rfl) T.b_len (by decide +kernel) (pa_cons (pv 0) pa_nil)) (nomark _)) (pss_one (ps_ret (pe_ix ix_list (pv 0) (pv 1) (fun _ _ => rfl)))) pss_nil)
  (pss_one (ps_ret pe_int)))
theorem b_l_table : Binds K T.F_l_table.choose P_l_table [] := T.F_l_table.choose_spec.bindsN fun _ _ _ _ _ _ us hl => match us, hl with | [_], _ => rfl
theorem ok_l_table : FnOk P w K mg base (L2.CX P w) 1 (He.ga K "_law_table") T.F_l_table.choose P_l_table (sp_l_table ⟨P, w, K⟩) := by
  refine T.F_l_table.choose_spec.ok sc_l_table (fun vs H Q E h => by first | (obtain ⟨rfl, _⟩ := h; rfl) | (obtain ⟨_, rfl, _⟩ := h; rfl) | (obtain ⟨_, _, rfl, _⟩ := h; rfl) | (obtain ⟨_, _, _, rfl, _⟩ := h; rfl) | (obtain ⟨_, _, _, _, rfl, _⟩ := h; rfl) | (obtain ⟨_, _, _, _, _, rfl, _⟩ := h; rfl) | (obtain ⟨_, _, _, _, _, _, rfl, _⟩ := h; rfl) | (obtain ⟨_, _, _, _, _, _, _, rfl, _⟩ := h; rfl) | (obtain ⟨_, _, _, _, _, _, _, _, rfl, _⟩ := h; rfl) | (obtain ⟨_, _, _, _, _, _, _, _, _, rfl, _⟩ := h; rfl) | (obtain ⟨_, _, _, _, _, _, _, _, _, _, rfl, _⟩ := h; rfl) | (obtain ⟨_, _, _, _, _, _, _, _, _, _, _, rfl, _⟩ := h; rfl) | (obtain ⟨_, _, _, _, _, _, _, _, _, _, _, _, rfl, _⟩ := h; rfl)) (fun cdv A outer s H vs Q E hr h => ⟨t_l_table ⟨P, w, K⟩ E, PSs.nox ?_, pure_l_table (by rfl) h⟩)
  have hu := hu_of hr
  exact (pss_cons (ps_set (i := 1) sc_l_table.nd rfl (Or.inl rfl) (pe_ix ix_list (pe_lst (pa_cons pe_int (pa_cons pe_int (pa_cons pe_int (pa_cons pe_int (pa_cons pe_int (pa_cons pe_int pa_nil))))))) (pe_op op_mod (pv 0) pe_int) (fun _ _ => rfl)))
  (pss_one (ps_ret (pe_tup (pa_cons (pe_op op_add pe_int (pe_op op_mod (pe_op op_fdiv (pv 0) pe_int) (pe_ix ix_list (pe_lst (pa_cons pe_int (pa_cons pe_int (pa_cons pe_int pa_nil)))) (pv 1) (fun _ _ => rfl)))) (pa_cons (pv 1) pa_nil))))))
theorem b_is_whole : Binds K T.F_is_whole.choose P_is_whole [] := T.F_is_whole.choose_spec.bindsN fun _ _ _ _ _ _ us hl => match us, hl with | [_], _ => rfl
theorem ok_is_whole : FnOk P w K mg base (L2.CX P w) 1 (He.ga K "is_whole") T.F_is_whole.choose P_is_whole (sp_is_whole ⟨P, w, K⟩) := by
  refine T.F_is_whole.choose_spec.ok sc_is_whole (fun vs H Q E h => by first | (obtain ⟨rfl, _⟩ := h; rfl) | (obtain ⟨_, rfl, _⟩ := h; rfl) | (obtain ⟨_, _, rfl, _⟩ := h; rfl) | (obtain ⟨_, _, _, rfl, _⟩ := h; rfl) | (obtain ⟨_, _, _, _, rfl, _⟩ := h; rfl) | (obtain ⟨_, _, _, _, _, rfl, _⟩ := h; rfl) | (obtain ⟨_, _, _, _, _, _, rfl, _⟩ := h; rfl) | (obtain ⟨_, _, _, _, _, _, _, rfl, _⟩ := h; rfl) | (obtain ⟨_, _, _, _, _, _, _, _, rfl, _⟩ := h; rfl) | (obtain ⟨_, _, _, _, _, _, _, _, _, rfl, _⟩ := h; rfl) | (obtain ⟨_, _, _, _, _, _, _, _, _, _, rfl, _⟩ := h; rfl) | (obtain ⟨_, _, _, _, _, _, _, _, _, _, _, rfl, _⟩ := h; rfl) | (obtain ⟨_, _, _, _, _, _, _, _, _, _, _, _, rfl, _⟩ := h; rfl)) (fun cdv A outer s H vs Q E hr h => ⟨t_is_whole ⟨P, w, K⟩ E, PSs.nox ?_, pure_is_whole (by rfl) h⟩)
  have hu := hu_of hr
  exact (pss_one (ps_ret (pe_and (pe_callB call_isi (by rfl) T.b_isinstance (by decide +kernel) (pa_cons (pv 0) (pa_cons (pe_bltn (v := .ty "int") (by rfl) T.b_int (by decide +kernel) rfl) pa_nil))) (pe_one (pe_not (pe_callB call_isi (by rfl) T.b_isinstance (by decide +kernel) (pa_cons (pv 0) (pa_cons (pe_bltn (v := .ty "bool") (by rfl) T.b_bool (by decide +kernel) rfl) pa_nil))))))))
theorem b_need_table : Binds K T.F_need_table.choose P_need_table [] := T.F_need_table.choose_spec.bindsN fun _ _ _ _ _ _ us hl => match us, hl with | [_, _], _ => rfl
theorem ok_need_table : FnOk P w K mg base (L2.CX P w) 2 (He.ga K "need_table") T.F_need_table.choose P_need_table (sp_need_table ⟨P, w, K⟩) := by
  refine T.F_need_table.choose_spec.ok sc_need_table (fun vs H Q E h => by first | (obtain ⟨rfl, _⟩ := h; rfl) | (obtain ⟨_, rfl, _⟩ := h; rfl) | (obtain ⟨_, _, rfl, _⟩ := h; rfl) | (obtain ⟨_, _, _, rfl, _⟩ := h; rfl) | (obtain ⟨_, _, _, _, rfl, _⟩ := h; rfl) | (obtain ⟨_, _, _, _, _, rfl, _⟩ := h; rfl) | (obtain ⟨_, _, _, _, _, _, rfl, _⟩ := h; rfl) | (obtain ⟨_, _, _, _, _, _, _, rfl, _⟩ := h; rfl) | (obtain ⟨_, _, _, _, _, _, _, _, rfl, _⟩ := h; rfl) | (obtain ⟨_, _, _, _, _, _, _, _, _, rfl, _⟩ := h; rfl) | (obtain ⟨_, _, _, _, _, _, _, _, _, _, rfl, _⟩ := h; rfl) | (obtain ⟨_, _, _, _, _, _, _, _, _, _, _, rfl, _⟩ := h; rfl) | (obtain ⟨_, _, _, _, _, _, _, _, _, _, _, _, rfl, _⟩ := h; rfl)) (fun cdv A outer s H vs Q E hr h => ⟨t_need_table ⟨P, w, K⟩ E, ?_, pure_need_table (by rfl) h⟩)
  have hu := hu_of hr
  have G_is_whole := ok_is_whole (P := P) (w := w) (base := base) T
  have b_is_whole := b_is_whole T
  exact (pss_cons (ps_if (PW.pt (pw_or (pt_not (pt_val (pe_call G_is_whole (hr.mono (by decide)) (by rfl) T.g_is_whole T.F_is_whole.choose_spec.kp b_is_whole .nil passL (pa_cons (pv 0) pa_nil)))) (pw_or (pt_cmpR op_lt (pv 0) pe_int (nomark _)) (pw_or1 (pt_cmpR op_gt (pv 0) (pe_glob (by rfl) T.c_MOST_HANDS.choose_spec ⟨_, rfl⟩) (nomark _)))))) (pss_one (ps_raise rfl (takes_of rfl rfl rfl rfl) (pmk_own PySem.F.excBase_ValueError T.x_NoTable T.g_NoTable T.k_NoTable (raises_own T.bs_NoTable T.ty_NoTable) (by rfl)))) pss_nil)
  (pss_one (ps_if (PW.pt (pw_or (pt_not (pt_val (pe_call G_is_whole (hr.mono (by decide)) (by rfl) T.g_is_whole T.F_is_whole.choose_spec.kp b_is_whole .nil passL (pa_cons (pv 1) pa_nil)))) (pw_or (pt_cmpR op_lt (pv 1) pe_int (nomark _)) (pw_or1 (pt_cmpR op_gt (pv 1) (pe_glob (by rfl) T.c_MOST_LIARS.choose_spec ⟨_, rfl⟩) (nomark _)))))) (pss_one (ps_raise rfl (takes_of rfl rfl rfl rfl) (pmk_own PySem.F.excBase_ValueError T.x_NoTable T.g_NoTable T.k_NoTable (raises_own T.bs_NoTable T.ty_NoTable) (by rfl)))) pss_nil)))
theorem b_hearers : Binds K T.F_hearers.choose P_hearers [] := T.F_hearers.choose_spec.bindsN fun _ _ _ _ _ _ us hl => match us, hl with | [_, _], _ => rfl
theorem ok_hearers : FnOk P w K mg base (L2.CX P w) 1 (He.ga K "hearers") T.F_hearers.choose P_hearers (sp_hearers ⟨P, w, K⟩) := by
  refine T.F_hearers.choose_spec.ok sc_hearers (fun vs H Q E h => by first | (obtain ⟨rfl, _⟩ := h; rfl) | (obtain ⟨_, rfl, _⟩ := h; rfl) | (obtain ⟨_, _, rfl, _⟩ := h; rfl) | (obtain ⟨_, _, _, rfl, _⟩ := h; rfl) | (obtain ⟨_, _, _, _, rfl, _⟩ := h; rfl) | (obtain ⟨_, _, _, _, _, rfl, _⟩ := h; rfl) | (obtain ⟨_, _, _, _, _, _, rfl, _⟩ := h; rfl) | (obtain ⟨_, _, _, _, _, _, _, rfl, _⟩ := h; rfl) | (obtain ⟨_, _, _, _, _, _, _, _, rfl, _⟩ := h; rfl) | (obtain ⟨_, _, _, _, _, _, _, _, _, rfl, _⟩ := h; rfl) | (obtain ⟨_, _, _, _, _, _, _, _, _, _, rfl, _⟩ := h; rfl) | (obtain ⟨_, _, _, _, _, _, _, _, _, _, _, rfl, _⟩ := h; rfl) | (obtain ⟨_, _, _, _, _, _, _, _, _, _, _, _, rfl, _⟩ := h; rfl)) (fun cdv A outer s H vs Q E hr h => ⟨t_hearers ⟨P, w, K⟩ E, PSs.nox ?_, pure_hearers (by rfl) h⟩)
  have hu := hu_of hr
  exact (pss_one (ps_ret (pe_lc (own := [("hand", 2)]) (g := (gName 2)) (tt := (tTest (tOp (rIn K true) (tVar 2) (tVar 1)))) rfl sc_hearers.nd (pi_range1 (by rfl) T.b_range (pa_cons (pv 0) pa_nil)) (blkOk_by (N := N_hearers) (sc := defScope s_hearers) (by decide +kernel)) (fun _ _ _ _ _ => (pg_name (i := 2) sc_hearers.nd rfl (by first | exact Or.inl rfl | exact Or.inr rfl))) (fun _ _ _ _ _ => pts_one (pt_cmpR op_notIn_seq (pv 2) (pv 1) (by rfl))) (fun _ _ _ _ _ => (pv 2)))))
theorem b_longer : Binds K T.F_longer.choose P_longer [] := T.F_longer.choose_spec.bindsN fun _ _ _ _ _ _ us hl => match us, hl with | [_, _], _ => rfl
theorem ok_longer : FnOk P w K mg base (L2.CX P w) 2 (He.ga K "longer") T.F_longer.choose P_longer (sp_longer ⟨P, w, K⟩) := by
  refine T.F_longer.choose_spec.ok sc_longer (fun vs H Q E h => by first | (obtain ⟨rfl, _⟩ := h; rfl) | (obtain ⟨_, rfl, _⟩ := h; rfl) | (obtain ⟨_, _, rfl, _⟩ := h; rfl) | (obtain ⟨_, _, _, rfl, _⟩ := h; rfl) | (obtain ⟨_, _, _, _, rfl, _⟩ := h; rfl) | (obtain ⟨_, _, _, _, _, rfl, _⟩ := h; rfl) | (obtain ⟨_, _, _, _, _, _, rfl, _⟩ := h; rfl) | (obtain ⟨_, _, _, _, _, _, _, rfl, _⟩ := h; rfl) | (obtain ⟨_, _, _, _, _, _, _, _, rfl, _⟩ := h; rfl) | (obtain ⟨_, _, _, _, _, _, _, _, _, rfl, _⟩ := h; rfl) | (obtain ⟨_, _, _, _, _, _, _, _, _, _, rfl, _⟩ := h; rfl) | (obtain ⟨_, _, _, _, _, _, _, _, _, _, _, rfl, _⟩ := h; rfl) | (obtain ⟨_, _, _, _, _, _, _, _, _, _, _, _, rfl, _⟩ := h; rfl)) (fun cdv A outer s H vs Q E hr h => ⟨t_longer ⟨P, w, K⟩ E, PSs.nox ?_, pure_longer (by rfl) h⟩)
  have hu := hu_of hr
  have G_hearers := ok_hearers (P := P) (w := w) (base := base) T
  have b_hearers := b_hearers T
  exact (pss_cons (ps_set (i := 2) sc_longer.nd rfl (Or.inl rfl) (pe_lst pa_nil))
  (pss_cons (ps_for PassesOwn.never rfl (pi_list (pv 1)) (pg_name (i := 3) sc_longer.nd rfl (by first | exact Or.inl rfl | exact Or.inr rfl)) (pss_one (ps_for PassesOwn.never rfl (pi_list (pe_call G_hearers (hr.mono (by decide)) (by rfl) T.g_hearers T.F_hearers.choose_spec.kp b_hearers .nil passL (pa_cons (pv 0) (pa_cons (pv 3) pa_nil)))) (pg_name (i := 4) sc_longer.nd rfl (by first | exact Or.inl rfl | exact Or.inr rfl)) (pss_one (ps_if (pt_cmpR op_lt (pe_op op_add (pe_callB call_len_seq (by rfl) T.b_len (by decide +kernel) (pa_cons (pv 3) pa_nil)) pe_int) (pv 0) (nomark _)) (pss_one (ps_expr (pe_bm PySem.F.plainAttrs_list PySem.F.slot_list_append PySem.F.type_list_append mt_append (pv 2) (pa_cons (pe_op op_catA (pv 3) (pe_tup (pa_cons (pv 4) pa_nil))) pa_nil)))) pss_nil)))))
  (pss_one (ps_ret (pv 2)))))
theorem b_paths_of : Binds K T.F_paths_of.choose P_paths_of [] := T.F_paths_of.choose_spec.bindsN fun _ _ _ _ _ _ us hl => match us, hl with | [_, _], _ => rfl
theorem ok_paths_of : FnOk P w K mg base (L2.CX P w) 3 (He.ga K "paths_of") T.F_paths_of.choose P_paths_of (sp_paths_of ⟨P, w, K⟩) := by
  refine T.F_paths_of.choose_spec.ok sc_paths_of (fun vs H Q E h => by first | (obtain ⟨rfl, _⟩ := h; rfl) | (obtain ⟨_, rfl, _⟩ := h; rfl) | (obtain ⟨_, _, rfl, _⟩ := h; rfl) | (obtain ⟨_, _, _, rfl, _⟩ := h; rfl) | (obtain ⟨_, _, _, _, rfl, _⟩ := h; rfl) | (obtain ⟨_, _, _, _, _, rfl, _⟩ := h; rfl) | (obtain ⟨_, _, _, _, _, _, rfl, _⟩ := h; rfl) | (obtain ⟨_, _, _, _, _, _, _, rfl, _⟩ := h; rfl) | (obtain ⟨_, _, _, _, _, _, _, _, rfl, _⟩ := h; rfl) | (obtain ⟨_, _, _, _, _, _, _, _, _, rfl, _⟩ := h; rfl) | (obtain ⟨_, _, _, _, _, _, _, _, _, _, rfl, _⟩ := h; rfl) | (obtain ⟨_, _, _, _, _, _, _, _, _, _, _, rfl, _⟩ := h; rfl) | (obtain ⟨_, _, _, _, _, _, _, _, _, _, _, _, rfl, _⟩ := h; rfl)) (fun cdv A outer s H vs Q E hr h => ⟨t_paths_of ⟨P, w, K⟩ E, PSs.nox ?_, pure_paths_of (by rfl) h⟩)
  have hu := hu_of hr
  have G_longer := ok_longer (P := P) (w := w) (base := base) T
  have b_longer := b_longer T
  exact (pss_cons (ps_set (i := 2) sc_paths_of.nd rfl (Or.inl rfl) (pe_lst (pa_cons (pe_tup (pa_cons pe_int pa_nil)) pa_nil)))
  (pss_cons (ps_for PassesOwn.never rfl (pi_range1 (by rfl) T.b_range (pa_cons (pe_op op_sub (pv 1) pe_int) pa_nil)) (pg_name (i := 3) sc_paths_of.nd rfl (by first | exact Or.inl rfl | exact Or.inr rfl)) (pss_one (ps_set (i := 2) sc_paths_of.nd rfl (Or.inl rfl) (pe_call G_longer (hr.mono (by decide)) (by rfl) T.g_longer T.F_longer.choose_spec.kp b_longer .nil passL (pa_cons (pv 0) (pa_cons (pv 2) pa_nil))))))
  (pss_one (ps_ret (pv 2)))))
theorem b_paths : Binds K T.F_paths.choose P_paths [] := T.F_paths.choose_spec.bindsN fun _ _ _ _ _ _ us hl => match us, hl with | [_, _], _ => rfl
theorem ok_paths : FnOk P w K mg base (L2.CX P w) 4 (He.ga K "paths") T.F_paths.choose P_paths (sp_paths ⟨P, w, K⟩) := by
  refine T.F_paths.choose_spec.ok sc_paths (fun vs H Q E h => by first | (obtain ⟨rfl, _⟩ := h; rfl) | (obtain ⟨_, rfl, _⟩ := h; rfl) | (obtain ⟨_, _, rfl, _⟩ := h; rfl) | (obtain ⟨_, _, _, rfl, _⟩ := h; rfl) | (obtain ⟨_, _, _, _, rfl, _⟩ := h; rfl) | (obtain ⟨_, _, _, _, _, rfl, _⟩ := h; rfl) | (obtain ⟨_, _, _, _, _, _, rfl, _⟩ := h; rfl) | (obtain ⟨_, _, _, _, _, _, _, rfl, _⟩ := h; rfl) | (obtain ⟨_, _, _, _, _, _, _, _, rfl, _⟩ := h; rfl) | (obtain ⟨_, _, _, _, _, _, _, _, _, rfl, _⟩ := h; rfl) | (obtain ⟨_, _, _, _, _, _, _, _, _, _, rfl, _⟩ := h; rfl) | (obtain ⟨_, _, _, _, _, _, _, _, _, _, _, rfl, _⟩ := h; rfl) | (obtain ⟨_, _, _, _, _, _, _, _, _, _, _, _, rfl, _⟩ := h; rfl)) (fun cdv A outer s H vs Q E hr h => ⟨t_paths ⟨P, w, K⟩ E, ?_, pure_paths (by rfl) h⟩)
  have hu := hu_of hr
  have G_need_table := ok_need_table (P := P) (w := w) (base := base) T
  have b_need_table := b_need_table T
  have G_paths_of := ok_paths_of (P := P) (w := w) (base := base) T
  have b_paths_of := b_paths_of T
  exact (pss_cons (ps_expr (pe_call G_need_table (hr.mono (by decide)) (by rfl) T.g_need_table T.F_need_table.choose_spec.kp b_need_table .nil (passes_call (takes_of rfl rfl rfl rfl) fun _ _ _ _ h => h) (pa_cons (pv 0) (pa_cons (pv 1) pa_nil))))
  (pss_cons (ps_set (i := 2) sc_paths.nd rfl (Or.inl rfl) (pe_lst pa_nil))
  (pss_cons (ps_for (passes_of rfl) rfl (pi_range2 (by rfl) T.b_range (pa_cons pe_int (pa_cons (pe_op op_add (pv 1) pe_int) pa_nil))) (pg_name (i := 3) sc_paths.nd rfl (by first | exact Or.inl rfl | exact Or.inr rfl)) (pss_one (ps_set (i := 2) sc_paths.nd rfl (Or.inl rfl) (pe_op op_cat (pv 2) (pe_call G_paths_of (hr.mono (by decide)) (by rfl) T.g_paths_of T.F_paths_of.choose_spec.kp b_paths_of .nil passL (pa_cons (pv 0) (pa_cons (pv 3) pa_nil)))))))
  (pss_one (ps_ret (pv 2))))))
theorem b_l_paths : Binds K T.F_l_paths.choose P_l_paths [] := T.F_l_paths.choose_spec.bindsN fun _ _ _ _ _ _ us hl => match us, hl with | [_, _], _ => rfl
theorem ok_l_paths : FnOk P w K mg base (L2.CX P w) 1 (He.ga K "_law_paths") T.F_l_paths.choose P_l_paths (sp_l_paths ⟨P, w, K⟩) := by
  refine T.F_l_paths.choose_spec.ok sc_l_paths (fun vs H Q E h => by first | (obtain ⟨rfl, _⟩ := h; rfl) | (obtain ⟨_, rfl, _⟩ := h; rfl) | (obtain ⟨_, _, rfl, _⟩ := h; rfl) | (obtain ⟨_, _, _, rfl, _⟩ := h; rfl) | (obtain ⟨_, _, _, _, rfl, _⟩ := h; rfl) | (obtain ⟨_, _, _, _, _, rfl, _⟩ := h; rfl) | (obtain ⟨_, _, _, _, _, _, rfl, _⟩ := h; rfl) | (obtain ⟨_, _, _, _, _, _, _, rfl, _⟩ := h; rfl) | (obtain ⟨_, _, _, _, _, _, _, _, rfl, _⟩ := h; rfl) | (obtain ⟨_, _, _, _, _, _, _, _, _, rfl, _⟩ := h; rfl) | (obtain ⟨_, _, _, _, _, _, _, _, _, _, rfl, _⟩ := h; rfl) | (obtain ⟨_, _, _, _, _, _, _, _, _, _, _, rfl, _⟩ := h; rfl) | (obtain ⟨_, _, _, _, _, _, _, _, _, _, _, _, rfl, _⟩ := h; rfl)) (fun cdv A outer s H vs Q E hr h => ⟨t_l_paths ⟨P, w, K⟩ E, PSs.nox ?_, pure_l_paths (by rfl) h⟩)
  have hu := hu_of hr
  exact (pss_cons (ps_set (i := 2) sc_l_paths.nd rfl (Or.inl rfl) (pe_lst (pa_cons (pe_tup (pa_cons pe_int pa_nil)) pa_nil)))
  (pss_cons (ps_for PassesOwn.never rfl (pi_range1 (by rfl) T.b_range (pa_cons (pe_op op_sub (pe_callB (call_min2 rfl) (by rfl) T.b_min (by decide +kernel) (pa_cons (pv 1) (pa_cons (pe_op op_sub (pv 0) pe_int) pa_nil))) pe_int) pa_nil)) (pg_name (i := 3) sc_l_paths.nd rfl (by first | exact Or.inl rfl | exact Or.inr rfl)) (pss_one (ps_set (i := 2) sc_l_paths.nd rfl (Or.inl rfl) (pe_callB (cr_sumL rfl) (by rfl) T.b_sum (by decide +kernel) (pa_cons (pe_lc (own := [("_law_path", 5)]) (g := (gName 5)) (tt := tYes) rfl sc_l_paths.nd (pi_list (pv 2)) (blkOk_by (N := N_l_paths) (sc := defScope s_l_paths) (by decide +kernel)) (fun _ _ _ _ _ => (pg_name (i := 5) sc_l_paths.nd rfl (by first | exact Or.inl rfl | exact Or.inr rfl))) (fun _ _ _ _ _ => pts_nil) (fun _ _ _ _ _ => (pe_lc (own := [("_law_hand", 4)]) (g := (gName 4)) (tt := (tTest (tOp (rIn K true) (tVar 4) (tVar 5)))) rfl sc_l_paths.nd (pi_range1 (by rfl) T.b_range (pa_cons (pv 0) pa_nil)) (blkOk_by (N := N_l_paths) (by show L2.blkC N_l_paths (L2.relS _ (defScope s_l_paths)) _ _ = true; decide +kernel)) (fun _ _ _ _ _ => (pg_name (i := 4) sc_l_paths.nd rfl (by first | exact Or.inl rfl | exact Or.inr rfl))) (fun _ _ _ _ _ => pts_one (pt_cmpR op_notIn_seq (pv 4) (pv 5) (by rfl))) (fun _ _ _ _ _ => (pe_op op_catA (pv 5) (pe_tup (pa_cons (pv 4) pa_nil))))))) (pa_cons (pe_lst pa_nil) pa_nil))))))
  (pss_one (ps_ret (pe_lc (own := [("_law_path", 5)]) (g := (gName 5)) (tt := (tTest (tOp rEq (tCB (oLen K) (tCons (tVar 5) tNil)) (tVar 1)))) rfl sc_l_paths.nd (pi_list (pv 2)) (blkOk_by (N := N_l_paths) (sc := defScope s_l_paths) (by decide +kernel)) (fun _ _ _ _ _ => (pg_name (i := 5) sc_l_paths.nd rfl (by first | exact Or.inl rfl | exact Or.inr rfl))) (fun _ _ _ _ _ => pts_one (pt_cmpR op_eq (pe_callB call_len_seq (by rfl) T.b_len (by decide +kernel) (pa_cons (pv 5) pa_nil)) (pv 1) (nomark _))) (fun _ _ _ _ _ => (pv 5)))))))
theorem b_l_whole : Binds K T.F_l_whole.choose P_l_whole [] := T.F_l_whole.choose_spec.bindsN fun _ _ _ _ _ _ us hl => match us, hl with | [_], _ => rfl
theorem ok_l_whole : FnOk P w K mg base (L2.CX P w) 1 (He.ga K "_law_whole") T.F_l_whole.choose P_l_whole (sp_is_whole ⟨P, w, K⟩) := by
  refine T.F_l_whole.choose_spec.ok sc_l_whole (fun vs H Q E h => by first | (obtain ⟨rfl, _⟩ := h; rfl) | (obtain ⟨_, rfl, _⟩ := h; rfl) | (obtain ⟨_, _, rfl, _⟩ := h; rfl) | (obtain ⟨_, _, _, rfl, _⟩ := h; rfl) | (obtain ⟨_, _, _, _, rfl, _⟩ := h; rfl) | (obtain ⟨_, _, _, _, _, rfl, _⟩ := h; rfl) | (obtain ⟨_, _, _, _, _, _, rfl, _⟩ := h; rfl) | (obtain ⟨_, _, _, _, _, _, _, rfl, _⟩ := h; rfl) | (obtain ⟨_, _, _, _, _, _, _, _, rfl, _⟩ := h; rfl) | (obtain ⟨_, _, _, _, _, _, _, _, _, rfl, _⟩ := h; rfl) | (obtain ⟨_, _, _, _, _, _, _, _, _, _, rfl, _⟩ := h; rfl) | (obtain ⟨_, _, _, _, _, _, _, _, _, _, _, rfl, _⟩ := h; rfl) | (obtain ⟨_, _, _, _, _, _, _, _, _, _, _, _, rfl, _⟩ := h; rfl)) (fun cdv A outer s H vs Q E hr h => ⟨t_is_whole ⟨P, w, K⟩ E, PSs.nox ?_, pure_is_whole (by rfl) h⟩)
  have hu := hu_of hr
  exact (pss_one (ps_ret (pe_and (pe_callB call_isi (by rfl) T.b_isinstance (by decide +kernel) (pa_cons (pv 0) (pa_cons (pe_bltn (v := .ty "int") (by rfl) T.b_int (by decide +kernel) rfl) pa_nil))) (pe_one (pe_not (pe_callB call_isi (by rfl) T.b_isinstance (by decide +kernel) (pa_cons (pv 0) (pa_cons (pe_bltn (v := .ty "bool") (by rfl) T.b_bool (by decide +kernel) rfl) pa_nil))))))))
theorem b_l_paths_right : Binds K T.F_l_paths_right.choose P_l_paths_right [] := T.F_l_paths_right.choose_spec.bindsN fun _ _ _ _ _ _ us hl => match us, hl with | [_, _, _], _ => rfl
theorem ok_l_paths_right : FnOk P w K mg base (L2.CX P w) 2 (He.ga K "_law_paths_right") T.F_l_paths_right.choose P_l_paths_right (sp_l_paths_right ⟨P, w, K⟩) := by
  refine T.F_l_paths_right.choose_spec.ok sc_l_paths_right (fun vs H Q E h => by first | (obtain ⟨rfl, _⟩ := h; rfl) | (obtain ⟨_, rfl, _⟩ := h; rfl) | (obtain ⟨_, _, rfl, _⟩ := h; rfl) | (obtain ⟨_, _, _, rfl, _⟩ := h; rfl) | (obtain ⟨_, _, _, _, rfl, _⟩ := h; rfl) | (obtain ⟨_, _, _, _, _, rfl, _⟩ := h; rfl) | (obtain ⟨_, _, _, _, _, _, rfl, _⟩ := h; rfl) | (obtain ⟨_, _, _, _, _, _, _, rfl, _⟩ := h; rfl) | (obtain ⟨_, _, _, _, _, _, _, _, rfl, _⟩ := h; rfl) | (obtain ⟨_, _, _, _, _, _, _, _, _, rfl, _⟩ := h; rfl) | (obtain ⟨_, _, _, _, _, _, _, _, _, _, rfl, _⟩ := h; rfl) | (obtain ⟨_, _, _, _, _, _, _, _, _, _, _, rfl, _⟩ := h; rfl) | (obtain ⟨_, _, _, _, _, _, _, _, _, _, _, _, rfl, _⟩ := h; rfl)) (fun cdv A outer s H vs Q E hr h => ⟨t_l_paths_right ⟨P, w, K⟩ E, PSs.nox ?_, pure_l_paths_right (by rfl) h⟩)
  have hu := hu_of hr
  have G_l_paths := ok_l_paths (P := P) (w := w) (base := base) T
  have b_l_paths := b_l_paths T
  have G_l_whole := ok_l_whole (P := P) (w := w) (base := base) T
  have b_l_whole := b_l_whole T
  exact (pss_cons (ps_set (i := 3) sc_l_paths_right.nd rfl (Or.inl rfl) (pe_lst pa_nil))
  (pss_cons (ps_for PassesOwn.never rfl (pi_range2 (by rfl) T.b_range (pa_cons pe_int (pa_cons (pe_op op_add (pv 2) pe_int) pa_nil))) (pg_name (i := 4) sc_l_paths_right.nd rfl (by first | exact Or.inl rfl | exact Or.inr rfl)) (pss_one (ps_set (i := 3) sc_l_paths_right.nd rfl (Or.inl rfl) (pe_op op_cat (pv 3) (pe_call G_l_paths (hr.mono (by decide)) (by rfl) T.g__law_paths T.F_l_paths.choose_spec.kp b_l_paths .nil passL (pa_cons (pv 1) (pa_cons (pv 4) pa_nil)))))))
  (pss_cons (ps_if (PW.pt (pw_or (pt_not (pt_val (pe_callB call_isi (by rfl) T.b_isinstance (by decide +kernel) (pa_cons (pv 0) (pa_cons (pe_bltn (v := .ty "list") (by rfl) T.b_list (by decide +kernel) rfl) pa_nil))))) (pw_or1 (pt_cmpR (op_neD hr.units) (pv 0) (pv 3) (nomark _))))) (pss_one (ps_ret pe_bl)) pss_nil)
  (pss_one (ps_ret (pe_callB (cr_all rfl) (by rfl) T.b_all (by decide +kernel) (pa_cons (pe_lc (own := [("_law_path", 6)]) (g := (gName 6)) (tt := tYes) rfl sc_l_paths_right.nd (pi_list (pv 0)) (blkOk_by (N := N_l_paths_right) (sc := defScope s_l_paths_right) (by decide +kernel)) (fun _ _ _ _ _ => (pg_name (i := 6) sc_l_paths_right.nd rfl (by first | exact Or.inl rfl | exact Or.inr rfl))) (fun _ _ _ _ _ => pts_nil) (fun _ _ _ _ _ => (pe_and (pe_callB call_isi (by rfl) T.b_isinstance (by decide +kernel) (pa_cons (pv 6) (pa_cons (pe_bltn (v := .ty "tuple") (by rfl) T.b_tuple (by decide +kernel) rfl) pa_nil))) (pe_one (pe_callB (cr_all rfl) (by rfl) T.b_all (by decide +kernel) (pa_cons (pe_lc (own := [("_law_hand", 5)]) (g := (gName 5)) (tt := tYes) rfl sc_l_paths_right.nd (pi_tup (pv 6)) (blkOk_by (N := N_l_paths_right) (by show L2.blkC N_l_paths_right (L2.relS _ (defScope s_l_paths_right)) _ _ = true; decide +kernel)) (fun _ _ _ _ _ => (pg_name (i := 5) sc_l_paths_right.nd rfl (by first | exact Or.inl rfl | exact Or.inr rfl))) (fun _ _ _ _ _ => pts_nil) (fun _ _ _ _ _ => (pe_call G_l_whole (hr.mono (by decide)) (by rfl) T.g__law_whole T.F_l_whole.choose_spec.kp b_l_whole .nil passL (pa_cons (pv 5) pa_nil)))) pa_nil)))))) pa_nil)))))))
theorem b_parting : Binds K T.F_parting.choose P_parting [] := T.F_parting.choose_spec.bindsN fun _ _ _ _ _ _ us hl => match us, hl with | [_, _], _ => rfl
theorem ok_parting : FnOk P w K mg base (L2.CX P w) 3 (He.ga K "parting") T.F_parting.choose P_parting (sp_bad_parting ⟨P, w, K⟩) := by
  refine T.F_parting.choose_spec.ok sc_parting (fun vs H Q E h => by first | (obtain ⟨rfl, _⟩ := h; rfl) | (obtain ⟨_, rfl, _⟩ := h; rfl) | (obtain ⟨_, _, rfl, _⟩ := h; rfl) | (obtain ⟨_, _, _, rfl, _⟩ := h; rfl) | (obtain ⟨_, _, _, _, rfl, _⟩ := h; rfl) | (obtain ⟨_, _, _, _, _, rfl, _⟩ := h; rfl) | (obtain ⟨_, _, _, _, _, _, rfl, _⟩ := h; rfl) | (obtain ⟨_, _, _, _, _, _, _, rfl, _⟩ := h; rfl) | (obtain ⟨_, _, _, _, _, _, _, _, rfl, _⟩ := h; rfl) | (obtain ⟨_, _, _, _, _, _, _, _, _, rfl, _⟩ := h; rfl) | (obtain ⟨_, _, _, _, _, _, _, _, _, _, rfl, _⟩ := h; rfl) | (obtain ⟨_, _, _, _, _, _, _, _, _, _, _, rfl, _⟩ := h; rfl) | (obtain ⟨_, _, _, _, _, _, _, _, _, _, _, _, rfl, _⟩ := h; rfl)) (fun cdv A outer s H vs Q E hr h => ⟨t_bad_parting ⟨P, w, K⟩ E, ?_, pure_bad_parting (by rfl) h⟩)
  have hu := hu_of hr
  have G_need_table := ok_need_table (P := P) (w := w) (base := base) T
  have b_need_table := b_need_table T
  exact (pss_cons (ps_expr (pe_call G_need_table (hr.mono (by decide)) (by rfl) T.g_need_table T.F_need_table.choose_spec.kp b_need_table .nil (passes_call (takes_of rfl rfl rfl rfl) fun _ _ _ _ h => h) (pa_cons (pv 0) (pa_cons (pv 1) pa_nil)))) pss_never)
theorem b_Table_init : Binds K T.F_Table_init.choose P_Table_init [] := T.F_Table_init.choose_spec.bindsN fun _ _ _ _ _ _ us hl => match us, hl with | [_, _, _, _, _], _ => rfl
theorem ok_Table_init : FnOk P w K mg base (L2.CX P w) 3 (He.ma K (He.ga K "Table") "__init__") T.F_Table_init.choose P_Table_init (sp_bad_Table_init ⟨P, w, K⟩) := by
  refine T.F_Table_init.choose_spec.ok sc_Table_init (fun vs H Q E h => by first | (obtain ⟨rfl, _⟩ := h; rfl) | (obtain ⟨_, rfl, _⟩ := h; rfl) | (obtain ⟨_, _, rfl, _⟩ := h; rfl) | (obtain ⟨_, _, _, rfl, _⟩ := h; rfl) | (obtain ⟨_, _, _, _, rfl, _⟩ := h; rfl) | (obtain ⟨_, _, _, _, _, rfl, _⟩ := h; rfl) | (obtain ⟨_, _, _, _, _, _, rfl, _⟩ := h; rfl) | (obtain ⟨_, _, _, _, _, _, _, rfl, _⟩ := h; rfl) | (obtain ⟨_, _, _, _, _, _, _, _, rfl, _⟩ := h; rfl) | (obtain ⟨_, _, _, _, _, _, _, _, _, rfl, _⟩ := h; rfl) | (obtain ⟨_, _, _, _, _, _, _, _, _, _, rfl, _⟩ := h; rfl) | (obtain ⟨_, _, _, _, _, _, _, _, _, _, _, rfl, _⟩ := h; rfl) | (obtain ⟨_, _, _, _, _, _, _, _, _, _, _, _, rfl, _⟩ := h; rfl)) (fun cdv A outer s H vs Q E hr h => ⟨t_bad_Table_init ⟨P, w, K⟩ E, ?_, pure_bad_Table_init (by rfl) h⟩)
  have hu := hu_of hr
  have G_need_table := ok_need_table (P := P) (w := w) (base := base) T
  have b_need_table := b_need_table T
  exact (pss_cons (ps_expr (pe_call G_need_table (hr.mono (by decide)) (by rfl) T.g_need_table T.F_need_table.choose_spec.kp b_need_table .nil (passes_call (takes_of rfl rfl rfl rfl) fun _ _ _ _ h => h) (pa_cons (pv 1) (pa_cons (pv 2) pa_nil)))) pss_never)
theorem b_parts : Binds K T.F_parts.choose P_parts [] := T.F_parts.choose_spec.bindsN fun _ _ _ _ _ _ us hl => match us, hl with | [_, _, _, _, _], _ => rfl
theorem ok_parts : FnOk P w K mg base (L2.CX P w) 5 (He.ga K "parts") T.F_parts.choose P_parts (sp_bad_parts ⟨P, w, K⟩) := by
  refine T.F_parts.choose_spec.ok sc_parts (fun vs H Q E h => by first | (obtain ⟨rfl, _⟩ := h; rfl) | (obtain ⟨_, rfl, _⟩ := h; rfl) | (obtain ⟨_, _, rfl, _⟩ := h; rfl) | (obtain ⟨_, _, _, rfl, _⟩ := h; rfl) | (obtain ⟨_, _, _, _, rfl, _⟩ := h; rfl) | (obtain ⟨_, _, _, _, _, rfl, _⟩ := h; rfl) | (obtain ⟨_, _, _, _, _, _, rfl, _⟩ := h; rfl) | (obtain ⟨_, _, _, _, _, _, _, rfl, _⟩ := h; rfl) | (obtain ⟨_, _, _, _, _, _, _, _, rfl, _⟩ := h; rfl) | (obtain ⟨_, _, _, _, _, _, _, _, _, rfl, _⟩ := h; rfl) | (obtain ⟨_, _, _, _, _, _, _, _, _, _, rfl, _⟩ := h; rfl) | (obtain ⟨_, _, _, _, _, _, _, _, _, _, _, rfl, _⟩ := h; rfl) | (obtain ⟨_, _, _, _, _, _, _, _, _, _, _, _, rfl, _⟩ := h; rfl)) (fun cdv A outer s H vs Q E hr h => ⟨t_bad_parts ⟨P, w, K⟩ E, ?_, pure_bad_parts (by rfl) h⟩)
  have hu := hu_of hr
  have G_Table_init := ok_Table_init (P := P) (w := w) (base := base) T
  have b_Table_init := b_Table_init T
  exact (pss_cons (ps_set (i := 5) sc_parts.nd rfl (Or.inr rfl) (pe_make T.mk_Table G_Table_init (hr.mono (by decide)) (by rfl) T.g_Table b_Table_init .nil (passes_call (takes_of rfl rfl rfl rfl) fun _ _ _ _ h => h) (pa_cons (pv 0) (pa_cons (pv 1) (pa_cons (pv 2) (pa_cons (pv 3) pa_nil)))))) pss_never)
theorem b_l_refused : Binds K T.F_l_refused.choose P_l_refused [] := T.F_l_refused.choose_spec.bindsN fun _ _ _ _ _ _ us hl => match us, hl with | [_, _, _], _ => rfl
theorem ok_l_refused : FnOk P w K mg base (L2.CX P w) 6 (He.ga K "_law_refused") T.F_l_refused.choose P_l_refused (sp_l_refused ⟨P, w, K⟩) := by
  refine T.F_l_refused.choose_spec.ok sc_l_refused (fun vs H Q E h => by first | (obtain ⟨rfl, _⟩ := h; rfl) | (obtain ⟨_, rfl, _⟩ := h; rfl) | (obtain ⟨_, _, rfl, _⟩ := h; rfl) | (obtain ⟨_, _, _, rfl, _⟩ := h; rfl) | (obtain ⟨_, _, _, _, rfl, _⟩ := h; rfl) | (obtain ⟨_, _, _, _, _, rfl, _⟩ := h; rfl) | (obtain ⟨_, _, _, _, _, _, rfl, _⟩ := h; rfl) | (obtain ⟨_, _, _, _, _, _, _, rfl, _⟩ := h; rfl) | (obtain ⟨_, _, _, _, _, _, _, _, rfl, _⟩ := h; rfl) | (obtain ⟨_, _, _, _, _, _, _, _, _, rfl, _⟩ := h; rfl) | (obtain ⟨_, _, _, _, _, _, _, _, _, _, rfl, _⟩ := h; rfl) | (obtain ⟨_, _, _, _, _, _, _, _, _, _, _, rfl, _⟩ := h; rfl) | (obtain ⟨_, _, _, _, _, _, _, _, _, _, _, _, rfl, _⟩ := h; rfl)) (fun cdv A outer s H vs Q E hr h => ⟨t_l_refused ⟨P, w, K⟩ E, PSs.nox ?_, pure_l_refused (by rfl) h⟩)
  have hu := hu_of hr
  have G_paths := ok_paths (P := P) (w := w) (base := base) T
  have b_paths := b_paths T
  have G_parting := ok_parting (P := P) (w := w) (base := base) T
  have b_parting := b_parting T
  have G_parts := ok_parts (P := P) (w := w) (base := base) T
  have b_parts := b_parts T
  have G_Table_init := ok_Table_init (P := P) (w := w) (base := base) T
  have b_Table_init := b_Table_init T
  exact (pss_cons (ps_try_as (i := 4) (tb := (fun W => (tIfS (tTest (tOp rEq (tVar 0) (tC (.int 0)))) (tDrop (tCall (sp_paths ⟨P, w, K⟩) [] (EW 5 W) (tCons (tVar 1) (tCons (tVar 2) tNil)))) (tIfS (tTest (tOp rEq (tVar 0) (tC (.int 1)))) (tDrop (tCall (sp_bad_parting ⟨P, w, K⟩) [] (EW 5 W) (tCons (tVar 1) (tCons (tVar 2) tNil)))) (tIfS (tTest (tOp rEq (tVar 0) (tC (.int 2)))) (tDrop (tCall (sp_bad_parts ⟨P, w, K⟩) [] (EW 5 W) (tCons (tVar 1) (tCons (tVar 2) (tCons (tC (.str ("no sign" : Str))) (tCons (tLst (tCons (tC (.int 99)) tNil)) (tCons tDNewK tNil))))))) (tDrop (tMake (He.ga K "Table") (sp_bad_Table_init ⟨P, w, K⟩) [] (EW 5 W) (tCons (tVar 1) (tCons (tVar 2) (tCons (tC (.int 5)) (tCons (tLst (tCons (tC (.int 99)) tNil)) tNil))))))))))) (ts := (fun a cls d => (tSeq (tAsg (tCB (rIsETg K cls d a) (tCons (tVar 4) (tCons (tTup (tCons (tC (.ref (He.ga K "NoHand"))) (tCons (tC (.ref (He.ga K "NoSaying"))) (tCons (tC (.ref (He.ga K "NoSign"))) (tCons (tC (.ref (He.ga K "NotOver"))) (tCons (tC (.ref (He.ga K "Over"))) tNil)))))) tNil))) (gName 3))
  (tRet (tAndV (tCB (rIsEg K cls d a) (tCons (tVar 4) (tCons (tC (.ref (He.ga K "NoTable"))) tNil))) (tAndV (tCB (rIsEg K cls d a) (tCons (tVar 4) (tCons (tC (.ty "ValueError")) tNil))) (tNotV (tVar 3)))))))) (Wout := fun _ _ _ _ => False) rfl rfl sc_l_refused.nd rfl rfl ⟨by rfl, by decide, .inl T.g_TableError⟩ takes0 (fun W pn xe tk _ => (pss_one (ps_if (pt_cmpR op_eq (pv 0) pe_int (nomark _)) (pss_one (ps_expr (pe_call G_paths (hr.mono (by decide)) (by rfl) T.g_paths T.F_paths.choose_spec.kp b_paths .nil (passes_len tk) (pa_cons (pv 1) (pa_cons (pv 2) pa_nil))))) (pss_one (ps_if (pt_cmpR op_eq (pv 0) pe_int (nomark _)) (pss_one (ps_expr (pe_call G_parting (hr.mono (by decide)) (by rfl) T.g_parting T.F_parting.choose_spec.kp b_parting .nil (passes_len tk) (pa_cons (pv 1) (pa_cons (pv 2) pa_nil))))) (pss_one (ps_if (pt_cmpR op_eq (pv 0) pe_int (nomark _)) (pss_one (ps_expr (pe_call G_parts (hr.mono (by decide)) (by rfl) T.g_parts T.F_parts.choose_spec.kp b_parts .nil (passes_len tk) (pa_cons (pv 1) (pa_cons (pv 2) (pa_cons pe_str (pa_cons (pe_lst (pa_cons pe_int pa_nil)) (pa_cons pe_dnewK pa_nil)))))))) (pss_one (ps_expr (pe_make T.mk_Table G_Table_init (hr.mono (by decide)) (by rfl) T.g_Table b_Table_init .nil (passes_len tk) (pa_cons (pv 1) (pa_cons (pv 2) (pa_cons pe_int (pa_cons (pe_lst (pa_cons pe_int pa_nil)) pa_nil)))))))))))))) (fun a oe cls d pn hz hf => (pss_cons (ps_set (i := 3) sc_l_refused.nd rfl (Or.inl rfl) (pe_callB (call_isETg hz hf) (by rfl) T.b_isinstance (by decide +kernel) (pa_cons (pv 4) (pa_cons (pe_tup (pa_cons (pe_glob (by rfl) T.g_NoHand rfl) (pa_cons (pe_glob (by rfl) T.g_NoSaying rfl) (pa_cons (pe_glob (by rfl) T.g_NoSign rfl) (pa_cons (pe_glob (by rfl) T.g_NotOver rfl) (pa_cons (pe_glob (by rfl) T.g_Over rfl) pa_nil)))))) pa_nil))))
  (pss_one (ps_ret (pe_and (pe_callB (call_isEg hz hf) (by rfl) T.b_isinstance (by decide +kernel) (pa_cons (pv 4) (pa_cons (pe_glob (by rfl) T.g_NoTable rfl) pa_nil))) (pe_and (pe_callB (call_isEg hz hf) (by rfl) T.b_isinstance (by decide +kernel) (pa_cons (pv 4) (pa_cons (pe_bltn (v := .ty "ValueError") (by rfl) T.b_ValueError (by decide +kernel) rfl) pa_nil))) (pe_one (pe_not (pv 3))))))))))
  (pss_one (ps_ret pe_bl)))
theorem b_law : Binds K T.F_law.choose P_law [] := T.F_law.choose_spec.bindsN fun _ _ _ _ _ _ us hl => match us, hl with | [_], _ => rfl
theorem ok_law : FnOk P w K mg base CX0 7 (He.ga K "law") T.F_law.choose P_law (sp_law ⟨P, w, K⟩) := by
  refine T.F_law.choose_spec.ok sc_law (fun vs H Q E h => by first | (obtain ⟨rfl, _⟩ := h; rfl) | (obtain ⟨_, rfl, _⟩ := h; rfl) | (obtain ⟨_, _, rfl, _⟩ := h; rfl) | (obtain ⟨_, _, _, rfl, _⟩ := h; rfl) | (obtain ⟨_, _, _, _, rfl, _⟩ := h; rfl) | (obtain ⟨_, _, _, _, _, rfl, _⟩ := h; rfl) | (obtain ⟨_, _, _, _, _, _, rfl, _⟩ := h; rfl) | (obtain ⟨_, _, _, _, _, _, _, rfl, _⟩ := h; rfl) | (obtain ⟨_, _, _, _, _, _, _, _, rfl, _⟩ := h; rfl) | (obtain ⟨_, _, _, _, _, _, _, _, _, rfl, _⟩ := h; rfl) | (obtain ⟨_, _, _, _, _, _, _, _, _, _, rfl, _⟩ := h; rfl) | (obtain ⟨_, _, _, _, _, _, _, _, _, _, _, rfl, _⟩ := h; rfl) | (obtain ⟨_, _, _, _, _, _, _, _, _, _, _, _, rfl, _⟩ := h; rfl)) (fun cdv A outer s H vs Q E hr h => ⟨t_law01 ⟨P, w, K⟩ E, PSs.nox ?_, pure_law01 T.xb (by rfl) h⟩)
  have hu := hu_of hr
  have G_l_cell_at := ok_l_cell_at (P := P) (w := w) (base := base) T
  have b_l_cell_at := b_l_cell_at T
  have G_l_table := ok_l_table (P := P) (w := w) (base := base) T
  have b_l_table := b_l_table T
  have G_paths := ok_paths (P := P) (w := w) (base := base) T
  have b_paths := b_paths T
  have G_l_paths_right := ok_l_paths_right (P := P) (w := w) (base := base) T
  have b_l_paths_right := b_l_paths_right T
  have G_hearers := ok_hearers (P := P) (w := w) (base := base) T
  have b_hearers := b_hearers T
  have G_l_whole := ok_l_whole (P := P) (w := w) (base := base) T
  have b_l_whole := b_l_whole T
  have G_l_refused := ok_l_refused (P := P) (w := w) (base := base) T
  have b_l_refused := b_l_refused T
  exact (pss_cons (ps_asg (pe_call G_l_table (hr.mono (by decide)) (by rfl) T.g__law_table T.F_l_table.choose_spec.kp b_l_table .nil passL (pa_cons (pe_call G_l_cell_at (hr.mono (by decide)) (by rfl) T.g__law_cell_at T.F_l_cell_at.choose_spec.kp b_l_cell_at .nil passL (pa_cons (pv 0) (pa_cons pe_int pa_nil))) pa_nil)) (pg_tup rfl (pgs_cons (pg_name (i := 1) sc_law.nd rfl (by first | exact Or.inl rfl | exact Or.inr rfl)) (pgs_cons (pg_name (i := 2) sc_law.nd rfl (by first | exact Or.inl rfl | exact Or.inr rfl)) pgs_nil))))
  (pss_cons (ps_set (i := 3) sc_law.nd rfl (Or.inl rfl) (pe_call G_paths (hr.mono (by decide)) (by rfl) T.g_paths T.F_paths.choose_spec.kp b_paths .nil passL (pa_cons (pv 1) (pa_cons (pv 2) pa_nil))))
  (pss_cons (ps_if (pt_not (pt_val (pe_call G_l_paths_right (hr.mono (by decide)) (by rfl) T.g__law_paths_right T.F_l_paths_right.choose_spec.kp b_l_paths_right .nil passL (pa_cons (pv 3) (pa_cons (pv 1) (pa_cons (pv 2) pa_nil)))))) (pss_one (ps_ret pe_bl)) pss_nil)
  (pss_cons (ps_set (i := 4) sc_law.nd rfl (Or.inr rfl) (pe_ix ix_list (pv 3) (pe_op op_mod (pe_call G_l_cell_at (hr.mono (by decide)) (by rfl) T.g__law_cell_at T.F_l_cell_at.choose_spec.kp b_l_cell_at .nil passL (pa_cons (pv 0) (pa_cons pe_int pa_nil))) (pe_callB call_len_seq (by rfl) T.b_len (by decide +kernel) (pa_cons (pv 3) pa_nil))) (fun _ _ => rfl)))
  (pss_cons (ps_set (i := 5) sc_law.nd rfl (Or.inl rfl) (pe_call G_hearers (hr.mono (by decide)) (by rfl) T.g_hearers T.F_hearers.choose_spec.kp b_hearers .nil passL (pa_cons (pv 1) (pa_cons (pv 4) pa_nil))))
  (pss_cons (ps_setLc (i := 6) (own := [("_law_hand", 7)]) (g := (gName 7)) (tt := (tTest (tOp (rIn K true) (tVar 7) (tVar 4)))) rfl sc_law.nd rfl rfl (sw_true rfl rfl rfl (by decide +kernel)) (pi_range1 (by rfl) T.b_range (pa_cons (pv 1) pa_nil)) (blkOk_by (N := N_law) (sc := defScope s_law) (by decide +kernel)) (fun _ _ _ _ _ => (pg_name (i := 7) sc_law.nd rfl (by first | exact Or.inl rfl | exact Or.inr rfl))) (fun _ _ _ _ _ => pts_one (pt_cmpR op_notIn_seq (pv 7) (pv 4) (by rfl))) (fun _ _ _ _ _ => (pv 7)))
  (pss_cons (ps_if (PW.pt (pw_or (pt_not (pt_val (pe_callB call_isi (by rfl) T.b_isinstance (by decide +kernel) (pa_cons (pv 5) (pa_cons (pe_bltn (v := .ty "list") (by rfl) T.b_list (by decide +kernel) rfl) pa_nil))))) (pw_or (pt_cmpR (op_neD hr.units) (pv 5) (pv 6) (nomark _)) (pw_or1 (pt_not (pt_val (pe_callB (cr_all rfl) (by rfl) T.b_all (by decide +kernel) (pa_cons (pe_lc (own := [("_law_hand", 7)]) (g := (gName 7)) (tt := tYes) rfl sc_law.nd (pi_list (pv 5)) (blkOk_by (N := N_law) (sc := defScope s_law) (by decide +kernel)) (fun _ _ _ _ _ => (pg_name (i := 7) sc_law.nd rfl (by first | exact Or.inl rfl | exact Or.inr rfl))) (fun _ _ _ _ _ => pts_nil) (fun _ _ _ _ _ => (pe_call G_l_whole (hr.mono (by decide)) (by rfl) T.g__law_whole T.F_l_whole.choose_spec.kp b_l_whole .nil passL (pa_cons (pv 7) pa_nil)))) pa_nil)))))))) (pss_one (ps_ret pe_bl)) pss_nil)
  (pss_cons (ps_expr (pe_bm PySem.F.plainAttrs_list PySem.F.slot_list_append PySem.F.type_list_append mt_append (pv 3) (pa_cons (pe_tup (pa_cons pe_int pa_nil)) pa_nil)))
  (pss_cons (ps_expr (pe_bm PySem.F.plainAttrs_list PySem.F.slot_list_append PySem.F.type_list_append mt_append (pv 5) (pa_cons pe_int pa_nil)))
  (pss_cons (ps_set (i := 8) sc_law.nd rfl (Or.inl rfl) (pe_op op_mod (pe_call G_l_cell_at (hr.mono (by decide)) (by rfl) T.g__law_cell_at T.F_l_cell_at.choose_spec.kp b_l_cell_at .nil passL (pa_cons (pv 0) (pa_cons pe_int pa_nil))) (pe_op op_pow pe_int pe_int)))
  (pss_cons (ps_set (i := 9) sc_law.nd rfl (Or.inl rfl) (pe_lst (pa_cons pe_int (pa_cons pe_int (pa_cons pe_int (pa_cons (pe_op op_sub (pe_un un_neg pe_int) (pv 8)) (pa_cons (pe_op op_add pe_int (pv 8)) (pa_cons pe_bl (pa_cons pe_non (pa_cons pe_str (pa_cons (pe_tup (pa_cons pe_int pa_nil)) (pa_cons (pe_lst (pa_cons pe_int pa_nil)) pa_nil))))))))))))
  (pss_cons (ps_set (i := 10) sc_law.nd rfl (Or.inl rfl) (pe_lst (pa_cons pe_int (pa_cons (pe_un un_neg pe_int) (pa_cons (pe_op op_add pe_int (pv 8)) (pa_cons (pe_op op_sub (pe_un un_neg pe_int) (pv 8)) (pa_cons pe_bl (pa_cons pe_non (pa_cons pe_str (pa_cons (pe_lst (pa_cons pe_int pa_nil)) (pa_cons pe_bl (pa_cons (pe_tup pa_nil) pa_nil))))))))))))
  (pss_cons (ps_set (i := 11) sc_law.nd rfl (Or.inl rfl) (pe_call G_l_cell_at (hr.mono (by decide)) (by rfl) T.g__law_cell_at T.F_l_cell_at.choose_spec.kp b_l_cell_at .nil passL (pa_cons (pv 0) (pa_cons pe_int pa_nil))))
  (pss_cons (ps_set (i := 12) sc_law.nd rfl (Or.inr rfl) (pe_tup (pa_cons (pe_ix ix_list (pv 9) (pe_op op_mod (pv 11) pe_int) (fun _ _ => rfl)) (pa_cons (pv 2) pa_nil))))
  (Evl.pss_cut (ps_if (pt_cmpR op_gt (pe_op op_mod (pe_op op_fdiv (pv 11) pe_int) pe_int) pe_int (nomark _)) (pss_one (ps_set (i := 12) sc_law.nd rfl (Or.inr rfl) (pe_tup (pa_cons (pe_ix ix_list (pe_lst (pa_cons (pv 1) (pa_cons (pe_ix ix_list (pv 9) (pe_op op_mod (pv 11) pe_int) (fun _ _ => rfl)) pa_nil))) (pe_op op_sub (pe_op op_mod (pe_op op_fdiv (pv 11) pe_int) pe_int) pe_int) (fun _ _ => rfl)) (pa_cons (pe_ix ix_list (pv 10) (pe_op op_mod (pe_op op_fdiv (pv 11) pe_int) pe_int) (fun _ _ => rfl)) pa_nil))))) pss_nil)
  (pss_cons (ps_if (pt_not (pt_val (pe_callB (cr_all rfl) (by rfl) T.b_all (by decide +kernel) (pa_cons (pe_lc (own := [("_law_way", 13)]) (g := (gName 13)) (tt := tYes) rfl sc_law.nd (pi_range1 (by rfl) T.b_range (pa_cons pe_int pa_nil)) (blkOk_by (N := N_law) (sc := defScope s_law) (by decide +kernel)) (fun _ _ _ _ _ => (pg_name (i := 13) sc_law.nd rfl (by first | exact Or.inl rfl | exact Or.inr rfl))) (fun _ _ _ _ _ => pts_nil) (fun _ _ _ _ _ => (pe_call G_l_refused (hr.mono (by decide)) (by rfl) T.g__law_refused T.F_l_refused.choose_spec.kp b_l_refused .nil passL (pa_cons (pv 13) (pa_cons (pe_ix ix_tup (pv 12) pe_int (fun _ _ => rfl)) (pa_cons (pe_ix ix_tup (pv 12) pe_int (fun _ _ => rfl)) pa_nil)))))) pa_nil)))) (pss_one (ps_ret pe_bl)) pss_nil)
  (pss_one (ps_ret (pe_and (pe_call G_l_paths_right (hr.mono (by decide)) (by rfl) T.g__law_paths_right T.F_l_paths_right.choose_spec.kp b_l_paths_right .nil passL (pa_cons (pe_call G_paths (hr.mono (by decide)) (by rfl) T.g_paths T.F_paths.choose_spec.kp b_paths .nil passL (pa_cons (pv 1) (pa_cons (pv 2) pa_nil))) (pa_cons (pv 1) (pa_cons (pv 2) pa_nil)))) (pe_one (pe_cmpR (op_eqD hr.units) (pe_call G_hearers (hr.mono (by decide)) (by rfl) T.g_hearers T.F_hearers.choose_spec.kp b_hearers .nil passL (pa_cons (pv 1) (pa_cons (pv 4) pa_nil))) (pv 6) (nomark _))))))))))))))))))))))
end
def names0 : List PySem.Str := ["TableError", "NoTable", "NoSign", "NoHand", "NoSaying", "Over", "NotOver", "MOST_HANDS", "MOST_LIARS", "MOST_LETTERS", "LETTERS", "is_whole"]
def names1 : List PySem.Str := ["need_table", "need_hand", "is_sign", "need_sign", "hearers", "longer", "paths_of", "paths", "vote", "settled", "need_liars", "sayings_of"]
def names2 : List PySem.Str := ["need_lies", "Table", "lies_of", "parts", "parting", "_law_cell_at", "_law_whole", "_law_table", "_law_paths", "_law_refused", "_law_paths_right"]
def names : List PySem.Str := names0 ++ names1 ++ names2
abbrev R : PySem.W.OpenRow := PySem.W.OpenLaw.row PySem.Challenge.rw_lietable_k01_paths
abbrev hk : PySem.W.Hook := LT.hookX 5 fa fn LT.excB
def ob (s : PySem.W.SharedT) : Bool × He.AlD := LT.obsXG 5 fa fn LT.excB (HandSHeadRun.getT s)
theorem ob_eq (s : PySem.W.SharedT) : ob s = hk.obs s.abs := LT.obsXG_eq (HandSHeadRun.getT_eq s)
theorem run (w : World) : HandSHeadRun.RunEq R (PySem.W.view R.prog [41]) hk ob 6000 names w := by
  intro os
  kernel_rfl
theorem facts {P : Program} {w : World} {K : PySem.W.Frag} {h : Heap} {mg : PySem.Str → Option Value} {f : Addr} (X : K.In h) (G : h.Ns mainGlobals mg) (hfa : mg ("law" : PySem.Str) = some (.ref f)) (c : He.SaysD fa fn K) (cx : LT.excB K = true) :
    ∃ fd : FuncData, (∀ (s : Shared) (v : Value), BindsTo s fd ⟨[v], []⟩ [("_law_script", v)]) ∧ ∀ base : Heap, K.In base → base.Ns mainGlobals mg → FnOk P w K mg base CX0 7 f fd ["_law_script"] (sp_law ⟨P, w, K⟩) := by
  have T := tx_of X G c cx
  have e := hfa.symm.trans (He.glo_ok X G (c.fact 50 (f := .glo "law") rfl))
  cases e
  have b := FunD.bindsA (ps := ["_law_script"]) T.F_law.choose_spec fun _ _ _ _ _ _ us hl => match us, hl with | [_], _ => rfl
  exact ⟨T.F_law.choose, fun s v => b s [v] rfl, fun base _ _ => ok_law T⟩
end LK
open PySem PySem.W PySem.Calls PyProof.Rows
theorem PySem.Challenge.cw_lietable_k01_paths_holds : PySem.Challenge.rw_lietable_k01_paths.Holds := by
  w_on; o_law
  refine HandSHeadRun.head_any (r := OpenLaw.row PySem.Challenge.rw_lietable_k01_paths) (q := view (OpenLaw.row PySem.Challenge.rw_lietable_k01_paths).prog [41]) (H := LK.hk) (ob := LK.ob) (M := 6000) (loose := LK.names) (d := HandSHeadRun.topDef (OpenLaw.row PySem.Challenge.rw_lietable_k01_paths).prog 41) (kwd := []) LK.ob_eq
    (by kernel_rfl) (fun s => by kernel_rfl) LK.run (by kernel_rfl) (by kernel_rfl) (by kernel_rfl) (by rfl) (by first | assumption | decide +kernel) (by decide +kernel) ⟨rfl, rfl, rfl, rfl, rfl, by decide +kernel⟩ ?hw ?hc
  case hw => w_witness2
  case hc =>
    refine L2.walk_ofE (l := PySem.Challenge.rw_lietable_k01_paths) (n := 63) (k := 7) (x := "_law_script") (CX := L2.CX0) rfl (by decide) (by kernel_rfl) ⟨rfl, by decide, by decide⟩ ?F (fun _ _ _ _ z => z)
    intro w mg fa h Y G hmg0
    obtain ⟨K, KX, c, cx⟩ := Y
    have hmg : mg ("law" : PySem.Str) = some (.ref fa) := by
      have e : (HandSHeadRun.topDef (OpenLaw.row PySem.Challenge.rw_lietable_k01_paths).prog 41).name = ("law" : PySem.Str) := by kernel_rfl
      rw [← e]
      exact hmg0
    obtain ⟨fd, hb, hF⟩ := LK.facts (P := (PySem.Challenge.rw_lietable_k01_paths).prog) (w := w) KX G hmg c cx
    exact ⟨K, fd, LT.sp_law ⟨(PySem.Challenge.rw_lietable_k01_paths).prog, w, K⟩, KX, hb, fun H a ns hl _ hS => ⟨a, ns, rfl, hS, hl, fun _ => rfl⟩, hF⟩
