import PyProof.Rows.All
import Wide.All
import OpenK.AllK
import Wide.FinOn
import HandS.ForMost
import HandS.ForExc
import HandS.Evl
import HandS.Flow
import HandS.More
import HandS.Walk
import HandS.DeepEq
import PyProof.NeKinds
import PyProof.Rows.EqBoolInt
import PyProof.Rows.RegReprOcc
import HandS.Set
import HandS.SetFor
import HandS.Strs
import PyProof.Rows.SortStr
import HandS.ExcIs
import HandS.Star
import HandS.Deep
import KE.RegKIsAll
import KE.RegKTryMore
import PySem.Challenge.RW_tickrows_k61_whole_verdicts
set_option Elab.async false
set_option linter.all false
set_option maxRecDepth 100000
set_option maxHeartbeats 0
/-! Kt: levels, readings of structured values, comprehensions and loops by lists. -/
namespace Kt
open PySem PySem.Spec PyProof.Rows L2 Evl

/-! ### levels -/
inductive Lv where | z | o | x
  deriving DecidableEq
def cp : Lv → Nat
  | .z => 48
  | .o => 49
  | .x => 120
def sg (a : Lv) : Str := ⟨#[cp a]⟩
def tx (w : List Lv) : Str := ⟨(w.map cp).toArray⟩
theorem cp_inj {a b : Lv} (h : cp a = cp b) : a = b := by
  cases a <;> cases b <;> first | rfl | (exact absurd h (by decide))
theorem sg_inj {a b : Lv} (h : sg a = sg b) : a = b := cp_inj (by
  have e : (#[cp a] : Array Nat) = #[cp b] := congrArg Str.cps h
  have e2 : [cp a] = [cp b] := congrArg Array.toList e
  exact List.head_eq_of_cons_eq e2)
theorem tx_list (w : List Lv) : (tx w).cps.toList = w.map cp := rfl
theorem tx_len (w : List Lv) : (tx w).length = w.length := by
  show (w.map cp).toArray.size = w.length
  rw [List.size_toArray, List.length_map]
theorem map_cp_inj : ∀ {v w : List Lv}, v.map cp = w.map cp → v = w
  | [], [], _ => rfl
  | [], _ :: _, h => by cases h
  | _ :: _, [], h => by cases h
  | a :: v, b :: w, h => by
    have h1 : cp a = cp b ∧ v.map cp = w.map cp := by
      rw [List.map_cons, List.map_cons] at h
      exact ⟨List.head_eq_of_cons_eq h, List.tail_eq_of_cons_eq h⟩
    rw [cp_inj h1.1, map_cp_inj h1.2]
theorem tx_inj {v w : List Lv} (h : tx v = tx w) : v = w := map_cp_inj (by
  have e := congrArg (fun s : Str => s.cps.toList) h
  exact e)
theorem tx_app (v w : List Lv) : tx v ++ tx w = tx (v ++ w) := by
  refine congrArg Str.mk ?_
  show (v.map cp).toArray ++ (w.map cp).toArray = ((v ++ w).map cp).toArray
  rw [List.map_append]
  simp
theorem sg_tx (a : Lv) : sg a = tx [a] := rfl
theorem e0 : Str.ofString "0" = sg .z := by decide +kernel
theorem e1 : Str.ofString "1" = sg .o := by decide +kernel
theorem ex_ : Str.ofString "x" = sg .x := by decide +kernel
theorem e01 : Str.ofString "01" = tx [.z, .o] := by decide +kernel
theorem eE : Str.ofString "" = tx [] := by decide +kernel
theorem dec_sg (a b : Lv) : decide (V.str (sg a) = V.str (sg b)) = decide (a = b) := by
  by_cases h : a = b
  · rw [h, decide_eq_true rfl, decide_eq_true rfl]
  · rw [decide_eq_false h, decide_eq_false (fun e => h (sg_inj (V.str.inj e)))]
theorem dec_tx (a b : List Lv) : decide (V.str (tx a) = V.str (tx b)) = decide (a = b) := by
  by_cases h : a = b
  · rw [h, decide_eq_true rfl, decide_eq_true rfl]
  · rw [decide_eq_false h, decide_eq_false (fun e => h (tx_inj (V.str.inj e)))]
/-- the level at i -/
def at_ (w : List Lv) (i : Nat) : Lv := w.getD i .x
theorem at_get {w : List Lv} {i : Nat} (h : i < w.length) : w[i]? = some (at_ w i) := by
  unfold at_
  rw [List.getD_eq_getElem?_getD, List.getElem?_eq_getElem h]
  rfl
theorem atI_tx {w : List Lv} {i : Nat} {j : Int} (e : j = (i : Int)) (h : i < w.length) : atI (tx w).cps.toList j = some (cp (at_ w i)) := by
  subst e
  refine atI_nat ?_
  rw [tx_list, List.getElem?_map, at_get h]
  rfl

/-! ### heaps -/
def del (H : Hp) (p : Addr) : Hp := fun b => if b = p then none else H b
theorem del_same {H : Hp} {p : Addr} : del H p p = none := if_pos rfl
theorem del_ne {H : Hp} {p b : Addr} (h : b ≠ p) : del H p b = H b := if_neg h
theorem ex_del {H : Hp} {p : Addr} : Ex (del H p) H := fun a o h => by
  by_cases e : a = p
  · rw [e, del_same] at h; cases h
  · rw [del_ne e] at h; exact h
theorem sql_del {K : PySem.W.Frag} {H : Hp} {a p : Addr} {xs : List V} (h : SqL K H a xs) (n : a ≠ p) : SqL K (del H p) a xs := by
  rcases h with (h | ⟨o, h⟩) | h
  · exact .inl (.inl (by rw [del_ne n]; exact h))
  · exact .inl (.inr ⟨o, by rw [del_ne n]; exact h⟩)
  · exact .inr h
/-- a heap behind which a new object has changed -/
theorem Ex.mut' {H H' : Hp} {p : Addr} {o : HO} (e : Ex H H') (h : H p = none) : Ex H (upd H' p o) := Ex.mut e h
theorem ex_same {H H' : Hp} (e : Ex H H') : Same H H' := e

/-! ### what evaluates to a new object -/
def EvN (te : TE) (σ : L2.St) (H : Hp) (o : HO) : Prop := ∀ H1, Ex H H1 → ∀ Q : VK, (∀ p H2, H1 p = none → Ex H1 H2 → H2 p = some o → Q (.ref p) H2) → te σ H1 Q
/-- a new list of objects; L: their addresses and what they are of -/
def refs {α : Type} (L : List (Addr × α)) : List V := L.map fun q => V.ref q.1
def OL {α : Type} (o : α → HO) (H : Hp) (L : List (Addr × α)) : Prop := ∀ q ∈ L, H q.1 = some (o q.2)
theorem OL.ex {α : Type} {o : α → HO} {H H' : Hp} {L : List (Addr × α)} (h : OL o H L) (e : Ex H H') : OL o H' L := fun q hq => e _ _ (h q hq)
def EvO_ {α : Type} (te : TE) (σ : L2.St) (H : Hp) (o : α → HO) (l : List α) : Prop :=
  ∀ H1, Ex H H1 → ∀ Q : VK, (∀ p L H2, H1 p = none → Ex H1 H2 → L.map (·.2) = l → H2 p = some (.lst (refs L)) → OL o H2 L → Q (.ref p) H2) → te σ H1 Q
section
variable {K : PySem.W.Frag} {σ : L2.St} {H H' : Hp} {ta tb te tx' : TE} {t u : TT} {x y z v : V} {r : R2} {D : Ends} {tu tw tz : TS} {g : TG}
theorem EvN.mono {o : HO} (e : Ex H H') (h : EvN te σ H o) : EvN te σ H' o := fun H1 a Q q => h H1 (e.trans a) Q q
theorem evN_L {xs : List V} (h : EvL te σ H xs) : EvN te σ H (.lst xs) := h
theorem evL_N {xs : List V} (h : EvN te σ H (.lst xs)) : EvL te σ H xs := h
theorem evN_U {xs : List V} (h : EvU te σ H xs) : EvN te σ H (.tup xs) := h
theorem q_asgN {i : Nat} {o : HO} (h : EvN te σ H o) (k : ∀ p H1, H p = none → Ex H H1 → H1 p = some o → tz D (σ.set i (some (.ref p))) H1) : tSeq (tAsg te (gName i)) tz D σ H := h H (Ex.refl H) _ fun p H1 hp e h1 => k p H1 hp e h1
theorem q_asgO {α : Type} {i : Nat} {o : α → HO} {l : List α} (h : EvO_ te σ H o l) (k : ∀ p L H1, H p = none → Ex H H1 → L.map (·.2) = l → H1 p = some (.lst (refs L)) → OL o H1 L → tz D (σ.set i (some (.ref p))) H1) : tSeq (tAsg te (gName i)) tz D σ H := h H (Ex.refl H) _ fun p L H1 hp e hl h1 ho => k p L H1 hp e hl h1 ho
theorem s_retN {o : HO} (h : EvN te σ H o) (k : ∀ p H1, H p = none → Ex H H1 → H1 p = some o → D.rt (.ref p) H1) : tRet te D σ H := h H (Ex.refl H) _ k
theorem s_retO {α : Type} {o : α → HO} {l : List α} (h : EvO_ te σ H o l) (k : ∀ p L H1, H p = none → Ex H H1 → L.map (·.2) = l → H1 p = some (.lst (refs L)) → OL o H1 L → D.rt (.ref p) H1) : tRet te D σ H := h H (Ex.refl H) _ k
theorem ev_strIx {w : List Lv} {i : Nat} {j : Int} (ha : Ev ta σ H (.str (tx w))) (hb : Ev tb σ H (.int j)) (e : j = (i : Int)) (h : i < w.length) (hl : w.length ≤ 100000) : Ev (tOp rIxS ta tb) σ H (.str (sg (at_ w i))) :=
  ev_op ha hb (rv_ixS (by rw [tx_len]; exact hl) (atI_tx e h))

/-! ### what is walked -/
structure Wk {α : Type} (J : It) (H0 : Hp) (l : List α) (R : α → V → Hp → Prop) : Prop where
  go : ∀ i H, i < l.length → Ex H0 H → J.go i H
  stop : ∀ H, Ex H0 H → J.stop l.length H
  yld : ∀ i x H v H', l[i]? = some x → Ex H0 H → J.yld i H v H' → Ex H H' ∧ R x v H'
def EvI {α : Type} (wi : TI) (σ : L2.St) (H : Hp) (l : List α) (R : α → V → Hp → Prop) : Prop :=
  ∀ H1, Ex H H1 → ∀ RR : It → Hp → Prop, (∀ J H2, Ex H1 H2 → Wk J H2 l R → RR J H2) → wi σ H1 RR
theorem get_of {α β : Type} {l : List α} {f : α → β} {i : Nat} {x : α} {v : β} (h : l[i]? = some x) (h2 : (l.map f)[i]? = some v) : v = f x := by
  rw [List.getElem?_map, h] at h2
  exact (Option.some.inj h2).symm
theorem lt_get {α : Type} {l : List α} {i : Nat} (h : i < l.length) : ∃ x, l[i]? = some x := ⟨l[i], List.getElem?_eq_getElem h⟩
theorem wk_list {α : Type} {a : Addr} {l : List α} {φ : α → V} (hx : SqL K H a (l.map φ)) : Wk (Itl K a) H l (fun x v _ => v = φ x) where
  go := fun i H1 hi e => ⟨l.map φ, φ l[i], ex_l e hx, by rw [List.getElem?_map, List.getElem?_eq_getElem hi]; rfl⟩
  stop := fun H1 e => ⟨l.map φ, ex_l e hx, by rw [List.length_map]; exact Nat.le_refl _⟩
  yld := fun i x H1 v H2 hx' e y => ⟨by rw [y.1]; exact Ex.refl _, get_of hx' (y.2 _ (ex_l e hx))⟩
theorem ei_L {α : Type} {a : Addr} {l : List α} {φ : α → V} (h : Ev te σ H (.ref a)) (hx : SqL K H a (l.map φ)) : EvI (iList K te) σ H l (fun x v _ => v = φ x) := fun H1 e RR q =>
  h H1 e _ fun H2 e2 => ⟨a, rfl, ⟨_, ex_l (e.trans e2) hx⟩, q _ H2 e2 (wk_list (ex_l (e.trans e2) hx))⟩
theorem ei_NL {α : Type} {l : List α} {φ : α → V} (h : EvL te σ H (l.map φ)) : EvI (iList K te) σ H l (fun x v _ => v = φ x) := fun H1 e RR q =>
  h H1 e _ fun a H2 _ e2 hx => ⟨a, rfl, ⟨_, sq_of hx⟩, q _ H2 e2 (wk_list (sq_of hx))⟩
theorem ei_O {α : Type} {l : List α} {o : α → HO} (h : EvO_ te σ H o l) : EvI (iList K te) σ H l (fun x v H' => ∃ p, v = .ref p ∧ H' p = some (o x)) := fun H1 e RR q =>
  h H1 e _ fun a L H2 _ e2 hl hx ho => ⟨a, rfl, ⟨_, sq_of hx⟩, q _ H2 e2
    { go := fun i H3 hi e3 => ⟨_, _, ex_l e3 (sq_of hx), List.getElem?_eq_getElem (by rw [refs, List.length_map]; rw [← hl, List.length_map] at hi; exact hi)⟩
      stop := fun H3 e3 => ⟨_, ex_l e3 (sq_of hx), by rw [refs, List.length_map, ← hl, List.length_map]; exact Nat.le_refl _⟩
      yld := fun i y H3 v H4 hy e3 yl => by
        obtain ⟨rfl, f⟩ := yl
        have g := f _ (ex_l e3 (sq_of hx))
        rw [← hl, List.getElem?_map] at hy
        unfold refs at g
        rw [List.getElem?_map] at g
        cases hq : L[i]? with
        | none => rw [hq] at hy; cases hy
        | some q =>
          rw [hq] at hy g
          have ey : q.2 = y := Option.some.inj hy
          have ev : V.ref q.1 = v := Option.some.inj g
          exact ⟨Ex.refl _, q.1, ev.symm, by rw [← ey]; exact e3 _ _ (ho q (List.mem_of_getElem? hq))⟩ }⟩
theorem ei_r1 {ta : TA} {n : Nat} (h : EvA ta σ H [.int (n : Int)]) (hn : n ≤ 100000) : EvI (iRng1 ta) σ H (List.range n) (fun x v _ => v = .int (x : Int)) := fun H1 e RR q =>
  h H1 e _ fun H2 e2 => ⟨n, rfl, by omega, by omega, q _ H2 e2
    { go := fun i H3 hi _ => by rw [List.length_range] at hi; show i < ((n : Int)).toNat; omega
      stop := fun H3 _ => by rw [List.length_range]; show ((n : Int)).toNat ≤ n; omega
      yld := fun i y H3 v H4 hy _ yl => by
        obtain ⟨rfl, rfl⟩ := yl
        obtain ⟨hi, ey⟩ := List.getElem?_eq_some_iff.mp hy
        rw [List.getElem_range] at ey
        subst ey
        exact ⟨Ex.refl _, by rw [Int.zero_add]⟩ }⟩
theorem ei_r2 {ta : TA} {lo n : Nat} (h : EvA ta σ H [.int (lo : Int), .int (n : Int)]) (hn : lo ≤ 100000 ∧ n ≤ 100000) : EvI (iRng2 ta) σ H (List.range' lo (n - lo)) (fun x v _ => v = .int (x : Int)) := fun H1 e RR q =>
  h H1 e _ fun H2 e2 => ⟨lo, n, rfl, ⟨by omega, by omega, by omega, by omega⟩, q _ H2 e2
    { go := fun i H3 hi _ => by rw [List.length_range'] at hi; show i < ((n : Int) - (lo : Int)).toNat; omega
      stop := fun H3 _ => by rw [List.length_range']; show ((n : Int) - (lo : Int)).toNat ≤ n - lo; omega
      yld := fun i y H3 v H4 hy _ yl => by
        obtain ⟨rfl, rfl⟩ := yl
        obtain ⟨hi, ey⟩ := List.getElem?_eq_some_iff.mp hy
        rw [List.getElem_range'] at ey
        subst ey
        exact ⟨Ex.refl _, congrArg V.int (by omega)⟩ }⟩
theorem ei_str {w : List Lv} (h : Ev te σ H (.str (tx w))) : EvI (iStr te) σ H w (fun a v _ => v = .str (sg a)) := fun H1 e RR q =>
  h H1 e _ fun H2 e2 => ⟨_, rfl, q _ H2 e2
    { go := fun i H3 hi _ => by show i < (w.map cp).toArray.size; rw [List.size_toArray, List.length_map]; exact hi
      stop := fun H3 _ => by show (w.map cp).toArray.size ≤ w.length; rw [List.size_toArray, List.length_map]; exact Nat.le_refl _
      yld := fun i y H3 v H4 hy _ yl => by
        obtain ⟨rfl, c, hc, rfl⟩ := yl
        have hc' : (w.map cp).toArray[i]? = some c := hc
        rw [List.getElem?_toArray, List.getElem?_map, hy] at hc'
        have ec : cp y = c := Option.some.inj hc'
        exact ⟨Ex.refl _, by rw [← ec]; rfl⟩ }⟩
theorem wk_pair {α β : Type} {l : List α} {m : List β} {i : Nat} {x : α} {y : β} (h : (l.zip m)[i]? = some (x, y)) : l[i]? = some x ∧ m[i]? = some y := by
  rw [List.getElem?_zip_eq_some] at h
  exact h
/-- a new pair each turn -/
theorem ei_zip {α β : Type} {ta : TA} {a b : Addr} {l : List α} {m : List β} {φ : α → V} {ψ : β → V} (h : EvA ta σ H [.ref a, .ref b]) (hx : SqL K H a (l.map φ)) (hy : SqL K H b (m.map ψ)) :
    EvI (iZip K ta) σ H (l.zip m) (fun p v H' => ∃ T, v = .ref T ∧ H' T = some (.tup [φ p.1, ψ p.2])) := fun H1 e RR q =>
  h H1 e _ fun H2 e2 => ⟨a, b, _, _, rfl, ex_l (e.trans e2) hx, ex_l (e.trans e2) hy, q _ H2 e2
    { go := fun i H3 hi e3 => by
        rw [List.length_zip] at hi
        have h1 : i < l.length := by omega
        have h2 : i < m.length := by omega
        exact ⟨_, _, φ l[i], ψ m[i], ex_l ((e.trans e2).trans e3) hx, ex_l ((e.trans e2).trans e3) hy, by rw [List.getElem?_map, List.getElem?_eq_getElem h1]; rfl, by rw [List.getElem?_map, List.getElem?_eq_getElem h2]; rfl⟩
      stop := fun H3 e3 => ⟨_, _, ex_l ((e.trans e2).trans e3) hx, ex_l ((e.trans e2).trans e3) hy, by rw [List.length_map, List.length_map, List.length_zip]; omega⟩
      yld := fun i p H3 v H4 hp e3 yl => by
        obtain ⟨T, x, y, rfl, hT, rfl, f1, f2⟩ := yl
        obtain ⟨p1, p2⟩ := p
        obtain ⟨g1, g2⟩ := wk_pair hp
        have k1 := get_of g1 (f1 _ (ex_l ((e.trans e2).trans e3) hx))
        have k2 := get_of g2 (f2 _ (ex_l ((e.trans e2).trans e3) hy))
        subst k1 k2
        exact ⟨Ex.new hT, T, rfl, upd_same⟩ }⟩
/-- enumerate -/
theorem ei_enum {α : Type} {ta : TA} {a : Addr} {l : List α} {φ : α → V} (h : EvA ta σ H [.ref a]) (hx : SqL K H a (l.map φ)) :
    EvI (iEnum K ta) σ H l.zipIdx (fun p v H' => ∃ T, v = .ref T ∧ H' T = some (.tup [.int (p.2 : Int), φ p.1])) := fun H1 e RR q =>
  h H1 e _ fun H2 e2 => ⟨a, _, rfl, ex_l (e.trans e2) hx, q _ H2 e2
    { go := fun i H3 hi e3 => by
        rw [List.length_zipIdx] at hi
        exact ⟨_, φ l[i], ex_l ((e.trans e2).trans e3) hx, by rw [List.getElem?_map, List.getElem?_eq_getElem hi]; rfl⟩
      stop := fun H3 e3 => ⟨_, ex_l ((e.trans e2).trans e3) hx, by rw [List.length_map, List.length_zipIdx]; exact Nat.le_refl _⟩
      yld := fun i p H3 v H4 hp e3 yl => by
        obtain ⟨T, x, rfl, hT, rfl, f1⟩ := yl
        obtain ⟨p1, p2⟩ := p
        rw [List.getElem?_zipIdx] at hp
        cases hq : l[i]? with
        | none => rw [hq] at hp; cases hp
        | some y =>
          rw [hq] at hp
          have ep : (y, 0 + i) = (p1, p2) := Option.some.inj hp
          have e1 : y = p1 := congrArg Prod.fst ep
          have e2' : 0 + i = p2 := congrArg Prod.snd ep
          rw [Nat.zero_add] at e2'
          subst e1 e2'
          have k1 := get_of hq (f1 _ (ex_l ((e.trans e2).trans e3) hx))
          subst k1
          exact ⟨Ex.new hT, T, rfl, upd_same⟩ }⟩
/-- a locked dict's keys -/
theorem ei_keys {d : Addr} {o : Obj} {l : List (Str × V)} (h : Ev te σ H (.ref d)) (hd : H d = some (.frz o (.dK (l.map fun p => (Sum.inr p.1, p.2))))) : EvI (iKeys te) σ H l (fun p v _ => v = .str p.1) := fun H1 e RR q =>
  h H1 e _ fun H2 e2 => ⟨d, o, rfl, .inl ⟨_, e2 _ _ (e _ _ hd), q _ H2 e2
    { go := fun i H3 hi e3 => ⟨e3 _ _ (e2 _ _ (e _ _ hd)), by rw [List.length_map]; exact hi⟩
      stop := fun H3 e3 => ⟨e3 _ _ (e2 _ _ (e _ _ hd)), by rw [List.length_map]; exact Nat.le_refl _⟩
      yld := fun i p H3 v H4 hp e3 yl => by
        obtain ⟨rfl, k, u, hk, rfl⟩ := yl
        rw [List.getElem?_map, hp] at hk
        have ek : ((Sum.inr p.1 : Key), p.2) = (k, u) := Option.some.inj hk
        have ek1 : (Sum.inr p.1 : Key) = k := congrArg Prod.fst ek
        subst ek1
        exact ⟨Ex.refl _, rfl⟩ }⟩⟩

/-! ### targets -/
def TgP (g : TG) (σ : L2.St) (v : V) (H : Hp) (σ2 : L2.St) : Prop := ∀ Q : L2.St → Hp → Prop, Q σ2 H → g v σ H Q
theorem tg_name {i : Nat} : TgP (gName i) σ v H (σ.set i (some v)) := fun _ q => q
theorem tg_tup2 {i j : Nat} {p : Addr} {a b : V} (h : SqT K H p [a, b]) : TgP (gTup K 2 (gCons (gName i) (gCons (gName j) gNil))) σ (.ref p) H ((σ.set i (some a)).set j (some b)) := fun _ q =>
  ⟨p, _, rfl, h, rfl, a, [b], rfl, b, [], rfl, rfl, q⟩
theorem tg_tup3 {i j k : Nat} {p : Addr} {a b c : V} (h : SqT K H p [a, b, c]) : TgP (gTup K 3 (gCons (gName i) (gCons (gName j) (gCons (gName k) gNil)))) σ (.ref p) H (((σ.set i (some a)).set j (some b)).set k (some c)) := fun _ q =>
  ⟨p, _, rfl, h, rfl, a, [b, c], rfl, b, [c], rfl, c, [], rfl, rfl, q⟩

/-! ### comprehensions -/
theorem filter_map_snoc {α β : Type} (f : α → Bool) (φ : α → β) (l : List α) (i : Nat) (x : α) (h : l[i]? = some x) :
    ((l.take (i + 1)).filter f).map φ = ((l.take i).filter f).map φ ++ (if f x = true then [φ x] else []) := by
  rw [List.take_add_one, h, List.filter_append, List.map_append]
  congr 1
  show (List.filter f [x]).map φ = _
  by_cases hf : f x = true
  · rw [List.filter_cons, if_pos hf, if_pos hf]; rfl
  · rw [List.filter_cons, if_neg hf, if_neg hf]; rfl
/-- the common core: what holds of the list so far is told by A -/
theorem lc_gen {α : Type} {J : It} {l : List α} {R : α → V → Hp → Prop} {tt : TT} {vs : List Nat} {H2 : Hp} {Dl : Addr} {Qd : Hp → Prop} (W : Wk J H2 l R) (hz : l.length ≤ 40000) (hD : H2 Dl = none)
    (A : Nat → List V → Hp → Prop) (a0 : A 0 [] H2) (hA : ∀ i xs H' H'', A i xs H' → Ex H' H'' → A i xs H'')
    (f : α → Bool)
    (body : ∀ i x v H3, l[i]? = some x → Ex H2 H3 → H3 Dl ≠ none → R x v H3 → ∃ σ2, TgP g (wipe σ vs) v H3 σ2 ∧ wipe σ2 vs = wipe σ vs ∧ EvT tt σ2 H3 (f x) ∧
      (f x = true → ∀ H4, Ex H3 H4 → ∀ Q : VK, (∀ y H5, Ex H4 H5 → (∀ xs G, A i xs G → Ex G (del H5 Dl) → A (i + 1) (xs ++ [y]) (del H5 Dl)) → Q y H5) → te σ2 H4 Q))
    (no : ∀ i x xs G, l[i]? = some x → f x = false → A i xs G → A (i + 1) xs G)
    (fin : ∀ xs H', Ex H2 H' → H' Dl = some (.lst xs) → A l.length xs (del H' Dl) → Qd H') :
    ∃ W : Nat → Nat → Hp → Prop, (∃ m, W 0 m (upd H2 Dl (.lst []))) ∧ ∀ i m H, W i m H →
      (J.stop i H ∧ Qd H) ∨ (J.go i H ∧ ∃ Nx : Hp → Prop, (∀ H', Nx H' → ∃ m', m' < m ∧ W (i + 1) m' H') ∧ ∀ x H', J.yld i H x H' → g x (wipe σ vs) H' fun σ2 H2 => wipe σ2 vs = wipe σ vs ∧ tt σ2 H2 fun b H3 =>
        if b = true then te σ2 H3 fun y H4 => ∃ acc, H4 Dl = some (.lst acc) ∧ acc.length < sizeLine ∧ Nx (upd H4 Dl (.lst (acc ++ [y]))) else Nx H3) := by
  refine ⟨fun i m H => m = l.length - i ∧ i ≤ l.length ∧ Ex H2 H ∧ ∃ xs, H Dl = some (.lst xs) ∧ xs.length ≤ i ∧ A i xs (del H Dl), ⟨l.length, by omega, Nat.zero_le _, Ex.new hD, [], upd_same, Nat.le_refl _, ?_⟩, ?_⟩
  · refine hA _ _ _ _ a0 fun a o h => ?_
    have na : a ≠ Dl := ne_of_none h hD
    rw [del_ne na, upd_ne na]
    exact h
  rintro i m H ⟨rfl, hi, e, xs, hx, hl, ha⟩
  by_cases hlt : i < l.length
  · obtain ⟨x, hxi⟩ := lt_get hlt
    refine .inr ⟨W.go i H hlt e, fun H => Ex H2 H ∧ ∃ xs, H Dl = some (.lst xs) ∧ xs.length ≤ i + 1 ∧ A (i + 1) xs (del H Dl), fun H' p' => ⟨l.length - (i + 1), by omega, rfl, hlt, p'⟩, fun v H' y => ?_⟩
    obtain ⟨e', r⟩ := W.yld i x H v H' hxi e y
    have hx' : H' Dl = some (.lst xs) := e' _ _ hx
    obtain ⟨σ2, tg, hw, ht, hb⟩ := body i x v H' hxi (e.trans e') (by rw [hx']; intro q; cases q) r
    have exd : ∀ {Ha Hb : Hp}, Ex Ha Hb → Ex (del Ha Dl) (del Hb Dl) := fun {Ha Hb} q a o h => by
      by_cases na : a = Dl
      · rw [na, del_same] at h; cases h
      · rw [del_ne na] at h ⊢; exact q a o h
    refine tg _ ⟨hw, ht H' (Ex.refl H') _ fun H3 e3 => ?_⟩
    cases hf : f x with
    | true =>
      rw [if_pos rfl]
      refine hb hf H3 e3 _ fun yv H5 e5 k => ?_
      have hx5 : H5 Dl = some (.lst xs) := e5 _ _ (e3 _ _ hx')
      refine ⟨xs, hx5, sz_lt (by omega), Ex.mut (((e.trans e').trans e3).trans e5) hD, xs ++ [yv], upd_same, by rw [List.length_append]; show xs.length + 1 ≤ i + 1; omega, ?_⟩
      have hk := k xs (del H Dl) ha (exd ((e'.trans e3).trans e5))
      refine hA _ _ _ _ hk fun a o h => ?_
      by_cases na : a = Dl
      · rw [na, del_same] at h; cases h
      · rw [del_ne na] at h ⊢; rw [upd_ne na]; exact h
    | false =>
      rw [if_neg Bool.false_ne_true]
      exact ⟨(e.trans e').trans e3, xs, e3 _ _ hx', by omega, hA _ _ _ _ (no i x xs _ hxi hf ha) (exd (e'.trans e3))⟩
  · have ei : i = l.length := by omega
    subst ei
    exact .inl ⟨W.stop H e, fin xs H e hx ha⟩
/-- the element a plain value -/
theorem el_lc {α : Type} {wi : TI} {l : List α} {R : α → V → Hp → Prop} {tt : TT} {vs : List Nat} (f : α → Bool) (φ : α → V) (h : EvI wi σ H l R) (hz : l.length ≤ 40000)
    (body : ∀ x v H1, x ∈ l → Ex H H1 → R x v H1 → ∃ σ2, TgP g (wipe σ vs) v H1 σ2 ∧ wipe σ2 vs = wipe σ vs ∧ EvT tt σ2 H1 (f x) ∧ (f x = true → Ev te σ2 H1 (φ x))) :
    EvL (tLc wi g tt te vs) σ H ((l.filter f).map φ) := fun H1 e Q q => h H1 e _ fun J H2 e2 W Dl hD =>
  lc_gen W hz hD (fun i xs _ => xs = ((l.take i).filter f).map φ) rfl (fun _ _ _ _ h _ => h) f
    (fun i x v H3 hi e3 _ r => by
      obtain ⟨σ2, tg, hw, ht, hb⟩ := body x v H3 (List.mem_of_getElem? hi) ((e.trans e2).trans e3) r
      refine ⟨σ2, tg, hw, ht, fun hf H4 e4 Q' q' => hb hf H4 e4 Q' fun H5 e5 => q' _ H5 e5 fun xs G hx _ => ?_⟩
      show xs ++ [φ x] = _
      rw [filter_map_snoc f φ l i x hi, if_pos hf, hx])
    (fun i x xs G hi hf hx => by
      show xs = _
      rw [filter_map_snoc f φ l i x hi, if_neg (by rw [hf]; exact Bool.false_ne_true), List.append_nil]
      exact hx)
    (fun xs H' e' hx ha => by
      rw [List.take_length] at ha
      rw [ha] at hx
      exact q Dl H' (fresh_back e2 hD) (e2.trans e') hx)
/-- the element a new object -/
theorem eo_lc {α β : Type} {wi : TI} {l : List α} {R : α → V → Hp → Prop} {tt : TT} {vs : List Nat} (f : α → Bool) (φ : α → β) (o : β → HO) (h : EvI wi σ H l R) (hz : l.length ≤ 40000)
    (body : ∀ x v H1, x ∈ l → Ex H H1 → R x v H1 → ∃ σ2, TgP g (wipe σ vs) v H1 σ2 ∧ wipe σ2 vs = wipe σ vs ∧ EvT tt σ2 H1 (f x) ∧ (f x = true → EvN te σ2 H1 (o (φ x)))) :
    EvO_ (tLc wi g tt te vs) σ H o ((l.filter f).map φ) := fun H1 e Q q => h H1 e _ fun J H2 e2 W Dl hD =>
  lc_gen W hz hD (fun i xs G => ∃ L : List (Addr × β), xs = refs L ∧ L.map (·.2) = ((l.take i).filter f).map φ ∧ OL o G L) ⟨[], rfl, rfl, fun _ h => by cases h⟩ (fun _ _ _ _ ⟨L, h1, h2, h3⟩ e => ⟨L, h1, h2, h3.ex e⟩) f
    (fun i x v H3 hi e3 hn r => by
      obtain ⟨σ2, tg, hw, ht, hb⟩ := body x v H3 (List.mem_of_getElem? hi) ((e.trans e2).trans e3) r
      refine ⟨σ2, tg, hw, ht, fun hf H4 e4 Q' q' => hb hf H4 e4 Q' fun p H5 hp e5 ho => q' _ H5 e5 fun xs G hx eG => ?_⟩
      obtain ⟨L, h1, h2, h3⟩ := hx
      have np : p ≠ Dl := fun z => by
        rw [z] at hp
        cases hq : H3 Dl with
        | none => exact hn hq
        | some u => rw [e4 _ _ hq] at hp; cases hp
      refine ⟨L ++ [(p, φ x)], by rw [h1, refs, refs, List.map_append]; rfl, by rw [List.map_append, filter_map_snoc f φ l i x hi, if_pos hf, h2]; rfl, fun q' hq' => ?_⟩
      rcases List.mem_append.mp hq' with hq' | hq'
      · exact eG _ _ (h3 q' hq')
      · rw [List.mem_singleton] at hq'
        subst hq'
        rw [del_ne np]
        exact ho)
    (fun i x xs G hi hf ⟨L, h1, h2, h3⟩ => ⟨L, h1, by rw [filter_map_snoc f φ l i x hi, if_neg (by rw [hf]; exact Bool.false_ne_true), List.append_nil]; exact h2, h3⟩)
    (fun xs H' e' hx ⟨L, h1, h2, h3⟩ => by
      rw [List.take_length] at h2
      rw [h1] at hx
      exact q Dl L H' (fresh_back e2 hD) (e2.trans e') h2 hx (h3.ex ex_del))

/-! ### calls -/
def SpN (sp : Sp) (vs : List V) (H : Hp) (o : HO) : Prop := ∀ H1, Ex H H1 → ∀ Q : VK, (∀ p H2, H1 p = none → Ex H1 H2 → H2 p = some o → Q (.ref p) H2) → ∀ E : XK, sp vs H1 Q E
def SpO {α : Type} (sp : Sp) (vs : List V) (H : Hp) (o : α → HO) (l : List α) : Prop := ∀ H1, Ex H H1 → ∀ Q : VK, (∀ p L H2, H1 p = none → Ex H1 H2 → L.map (·.2) = l → H2 p = some (.lst (refs L)) → OL o H2 L → Q (.ref p) H2) → ∀ E : XK, sp vs H1 Q E
theorem en_call {sp : Sp} {dvs vs : List V} {o : HO} {E : XK} {ta : TA} (h : EvA ta σ H vs) (hs : SpN sp (vs ++ dvs) H o) : EvN (tCall sp dvs E ta) σ H o := fun H1 e Q q =>
  h H1 e _ fun H2 e2 => hs H2 (e.trans e2) Q (fun p H3 hp e3 h3 => q p H3 (fresh_back e2 hp) (e2.trans e3) h3) E
theorem eo_call {α : Type} {sp : Sp} {dvs vs : List V} {o : α → HO} {l : List α} {E : XK} {ta : TA} (h : EvA ta σ H vs) (hs : SpO sp (vs ++ dvs) H o l) : EvO_ (tCall sp dvs E ta) σ H o l := fun H1 e Q q =>
  h H1 e _ fun H2 e2 => hs H2 (e.trans e2) Q (fun p L H3 hp e3 hl h3 ho => q p L H3 (fresh_back e2 hp) (e2.trans e3) hl h3 ho) E
def RetN (o : HO) (H : Hp) (Q : VK) : Prop := ∀ p H2, H p = none → Ex H H2 → H2 p = some o → Q (.ref p) H2
def RetO {α : Type} (o : α → HO) (l : List α) (H : Hp) (Q : VK) : Prop := ∀ p L H2, H p = none → Ex H H2 → L.map (·.2) = l → H2 p = some (.lst (refs L)) → OL o H2 L → Q (.ref p) H2
end
end Kt

/-! Kw: own rules, first part; the text by places. -/
namespace Kt
open PySem PySem.Spec PyProof.Rows L2 Evl

/-! ### the text -/
def topS (i : Nat) : Stmt := PySem.Challenge.pw_tickrows_k61_whole_verdicts.main.body.getD i (.Pass ⟨0, 0, 0, 0⟩)

/-! ### a def as its callers have it -/
structure Has (P : Program) (w : World) (K : PySem.W.Frag) (mg : Str → Option Value) (base : Heap) (CX : CXT) (k : Nat) (x : Str) (ps : List Str) (sp : Sp) : Prop where
  ex : ∃ (f : Addr) (fd : FuncData), FnOk P w K mg base CX k f fd ps sp ∧ mg x = some (.ref f) ∧ PySem.W.keepIn K (.ref f) = true ∧ Binds K fd ps []
/-- a def as the top has left it -/
structure At (K : PySem.W.Frag) (mg : Str → Option Value) (x : Str) (st : Stmt) (ps : List Str) : Prop where
  ex : ∃ (f : Addr) (fd : FuncData), Fun K x x st f fd ∧ mg x = some (.ref f) ∧ Binds K fd ps []
theorem Has.mk' {P : Program} {w : World} {K : PySem.W.Frag} {mg : Str → Option Value} {base : Heap} {CX : CXT} {k : Nat} {x : Str} {st : Stmt} {ps : List Str} {sp : Sp} (a : At K mg x st ps)
    (h : ∀ f fd, Fun K x x st f fd → FnOk P w K mg base CX k f fd ps sp) : Has P w K mg base CX k x ps sp := by
  obtain ⟨f, fd, F, g, b⟩ := a.ex
  exact ⟨f, fd, h f fd F, g, F.kp, b⟩
section
variable {X : Cx} {k j : Nat} {x : Str} {ps : List Str} {sp : Sp} {e : Expr} {es : List Expr} {t : TA} {p pos : Pos}
theorem pe_callH (h : Has X.prog X.w X.K X.mg X.base CX0 k x ps sp) (hr : Room j X.A) (ha : PA X (e :: es) t) (hk : k ≤ j := by decide) (hg : Gl X x := by rfl)
    (hdb : (x == ("__debug__" : Str)) = false := by decide) (he : starEach (e :: es) X.env = (false, eval e X.env) :: starEach es X.env := by rfl) (hpl : (backTo pos (starEach es X.env)).any (·.1) = false := by rfl) :
    PE X (.Call (.Name x p) (e :: es) [] pos) (tCall sp [] E0 t) := by
  obtain ⟨f, fd, F, g, kp, b⟩ := h.ex
  exact pe_call F (hr.mono hk) hg g kp b .nil pass0 ha hdb he hpl
theorem hu64 {A : Around} (hr : Room k A) : A.units + 64 < cLine := hr.units
theorem hu1 {A : Around} (hr : Room k A) : A.units + 1 < cLine := hu_of hr
theorem pe_MU {pos : Pos} (h : ∃ t, X.mg "MOST_UNKNOWN" = some (.int 6 t)) (hg : Gl X "MOST_UNKNOWN" := by rfl) : PE X (.Name "MOST_UNKNOWN" pos) (tC (.int 6)) := by
  obtain ⟨t, h⟩ := h
  exact pe_glob hg h ⟨_, rfl⟩ (by decide)
end

/-! ### what the top knows of names -/
structure Tx (mg : Str → Option Value) : Prop where
  len : mg "len" = none
  range : mg "range" = none
  zip : mg "zip" = none
  enumerate : mg "enumerate" = none
  sum : mg "sum" = none
  all : mg "all" = none
  any : mg "any" = none
  sorted : mg "sorted" = none
  set : mg "set" = none
  list : mg "list" = none
  dict : mg "dict" = none
  int : mg "int" = none
  isinstance : mg "isinstance" = none
  g_MOST_UNKNOWN : ∃ t, mg "MOST_UNKNOWN" = some (.int 6 t)

/-! ### a list against the empty list -/
def rEq0 (K : PySem.W.Frag) : R2 := fun x y H Q => ∃ a b xs, x = .ref a ∧ y = .ref b ∧ SqL K H a xs ∧ SqL K H b [] ∧ Q (.bl xs.isEmpty) H
def rNe0 (K : PySem.W.Frag) : R2 := fun x y H Q => ∃ a b xs, x = .ref a ∧ y = .ref b ∧ SqL K H a xs ∧ SqL K H b [] ∧ Q (.bl (!xs.isEmpty)) H
section
variable {X : Cx}
theorem op_eq0 (hu : X.A.units + 64 < cLine) : OpR X (compareOp .Eq) (rEq0 X.K) := by
  intro pins s σ H u1 u2 w1 w2 Q I c1 c2 hh
  obtain ⟨a, b, xs, rfl, rfl, ha, hb, q⟩ := hh
  cases c1
  cases c2
  obtain ⟨ia, va, pa', _⟩ := I.list ha
  obtain ⟨ib, vb, pb', _⟩ := I.list hb
  cases vb
  cases xs with
  | nil =>
    cases va
    exact SeqAt.eq_listAt (e := fun _ => true) pa'.isList pb'.isList rfl (by omega) (fun j h1 => absurd h1 (Nat.not_lt_zero j)) ⟨.bl true, H, I, rfl, q⟩
  | cons y ys =>
    cases va with
    | cons r1 r2 =>
      exact SeqAt.eq_list_lengthsAt pa'.isList pb'.isList (by simp) (by omega) ⟨.bl false, H, I, rfl, q⟩
theorem op_ne0 (hu : X.A.units + 64 < cLine) : OpR X (compareOp .NotEq) (rNe0 X.K) := by
  intro pins s σ H u1 u2 w1 w2 Q I c1 c2 hh
  obtain ⟨a, b, xs, rfl, rfl, ha, hb, q⟩ := hh
  cases c1
  cases c2
  obtain ⟨ia, va, pa', _⟩ := I.list ha
  obtain ⟨ib, vb, pb', _⟩ := I.list hb
  cases vb
  cases xs with
  | nil =>
    cases va
    exact SeqAt.RcNeAt.lists (e := fun _ => true) pa'.isList pb'.isList rfl (by omega) (fun j h1 => absurd h1 (Nat.not_lt_zero j)) X.prog X.w _ _ ⟨.bl false, H, I, rfl, q⟩
  | cons y ys =>
    cases va with
    | cons r1 r2 =>
      exact SeqAt.RcNeAt.lists_lengths pa'.isList pb'.isList (by simp) (by omega) X.prog X.w _ _ ⟨.bl true, H, I, rfl, q⟩
end
section
variable {K : PySem.W.Frag} {σ : L2.St} {H H' : Hp} {ta tb te : TE}
/-- e == [] -/
theorem ev_eq0 {xs : List V} (h : EvL ta σ H xs) : Ev (tOp (rEq0 K) ta (tLst tNil)) σ H (.bl xs.isEmpty) := fun H1 e Q q =>
  h H1 e _ fun p H2 _ e2 hp => ⟨Nat.zero_le _, fun b hb => ⟨p, b, xs, rfl, rfl, sq_of ((Ex.new hb) _ _ hp), sq_of upd_same, q _ (e2.trans (Ex.new hb))⟩⟩
theorem ev_eq0v {a : Addr} {xs : List V} (h : Ev ta σ H (.ref a)) (hx : SqL K H a xs) : Ev (tOp (rEq0 K) ta (tLst tNil)) σ H (.bl xs.isEmpty) := fun H1 e Q q =>
  h H1 e _ fun H2 e2 => ⟨Nat.zero_le _, fun b hb => ⟨a, b, xs, rfl, rfl, ex_l ((e.trans e2).trans (Ex.new hb)) hx, sq_of upd_same, q _ (e2.trans (Ex.new hb))⟩⟩
theorem ev_ne0v {a : Addr} {xs : List V} (h : Ev ta σ H (.ref a)) (hx : SqL K H a xs) : Ev (tOp (rNe0 K) ta (tLst tNil)) σ H (.bl (!xs.isEmpty)) := fun H1 e Q q =>
  h H1 e _ fun H2 e2 => ⟨Nat.zero_le _, fun b hb => ⟨a, b, xs, rfl, rfl, ex_l ((e.trans e2).trans (Ex.new hb)) hx, sq_of upd_same, q _ (e2.trans (Ex.new hb))⟩⟩
theorem ev_ne0 {xs : List V} (h : EvL ta σ H xs) : Ev (tOp (rNe0 K) ta (tLst tNil)) σ H (.bl (!xs.isEmpty)) := fun H1 e Q q =>
  h H1 e _ fun p H2 _ e2 hp => ⟨Nat.zero_le _, fun b hb => ⟨p, b, xs, rfl, rfl, sq_of ((Ex.new hb) _ _ hp), sq_of upd_same, q _ (e2.trans (Ex.new hb))⟩⟩
/-- len of a text -/
theorem ev_lenS {w : List Lv} (h : Ev ta σ H (.str (tx w))) (hl : w.length ≤ 100000) : Ev (tCB (fun xs H Q => ∃ z, xs = [.str z] ∧ z.length ≤ sizeLine ∧ Q (.int z.length) H) (tCons ta tNil)) σ H (.int (w.length : Int)) := fun H1 e Q q =>
  h H1 e _ fun H2 e2 => ⟨tx w, rfl, by rw [tx_len]; exact sz_of hl, by rw [tx_len]; exact q _ e2⟩
/-- how often x stands in a wave -/
def cx (w : List Lv) : Nat := w.count .x
theorem count_tx (w : List Lv) : Txt.count (tx w) (sg .x) = (cx w : Int) := by
  rw [show sg .x = (⟨#[120]⟩ : Str) from rfl, count_cnt, tx_list]
  induction w with
  | nil => rfl
  | cons a r ih =>
    rw [List.map_cons, cnt_cons, ih]
    cases a <;> simp [cx, cp, List.count_cons] <;> omega
theorem ev_count {w : List Lv} (h : Ev ta σ H (.str (tx w))) : Ev (tM1 (fun x xs H Q => ∃ a b, x = .str a ∧ xs = [.str b] ∧ Q (.int (Txt.count a b)) H) ta (tC (.str (Str.ofString "x")))) σ H (.int (cx w : Int)) := fun H1 e Q q =>
  h H1 e _ fun H2 e2 => ⟨⟨_, rfl⟩, tx w, _, rfl, rfl, by rw [ex_, count_tx]; exact q _ e2⟩
/-! ### more on lists -/
theorem et_yes : EvT tYes σ H true := fun H1 _ _ q => q H1 (Ex.refl H1)
theorem el_lc0 {α : Type} {wi : TI} {g : TG} {l : List α} {R : α → V → Hp → Prop} {vs : List Nat} (φ : α → V) (h : EvI wi σ H l R) (hz : l.length ≤ 40000)
    (body : ∀ x v H1, x ∈ l → Ex H H1 → R x v H1 → ∃ σ2, TgP g (wipe σ vs) v H1 σ2 ∧ wipe σ2 vs = wipe σ vs ∧ Ev te σ2 H1 (φ x)) : EvL (tLc wi g tYes te vs) σ H (l.map φ) := by
  have z := el_lc (te := te) (g := g) (vs := vs) (tt := tYes) (fun _ => true) φ h hz fun x v H1 hx e r => by
    obtain ⟨σ2, a, b, c⟩ := body x v H1 hx e r
    exact ⟨σ2, a, b, et_yes, fun _ => c⟩
  rw [List.filter_eq_self.mpr (fun _ _ => rfl)] at z
  exact z
theorem eo_lc0 {α β : Type} {wi : TI} {g : TG} {l : List α} {R : α → V → Hp → Prop} {vs : List Nat} (φ : α → β) (o : β → HO) (h : EvI wi σ H l R) (hz : l.length ≤ 40000)
    (body : ∀ x v H1, x ∈ l → Ex H H1 → R x v H1 → ∃ σ2, TgP g (wipe σ vs) v H1 σ2 ∧ wipe σ2 vs = wipe σ vs ∧ EvN te σ2 H1 (o (φ x))) : EvO_ (tLc wi g tYes te vs) σ H o (l.map φ) := by
  have z := eo_lc (te := te) (g := g) (vs := vs) (tt := tYes) (fun _ => true) φ o h hz fun x v H1 hx e r => by
    obtain ⟨σ2, a, b, c⟩ := body x v H1 hx e r
    exact ⟨σ2, a, b, et_yes, fun _ => c⟩
  rw [List.filter_eq_self.mpr (fun _ _ => rfl)] at z
  exact z
theorem el_cat {xs ys : List V} (ha : EvL ta σ H xs) (hb : EvL tb σ H ys) (hz : xs.length + ys.length ≤ 100000) : EvL (tOp rCat ta tb) σ H (xs ++ ys) := fun H1 e Q q =>
  ha H1 e _ fun p H2 hp e2 h2 => hb H2 (e.trans e2) _ fun r H3 hr e3 h3 => ⟨p, r, xs, ys, rfl, rfl, e3 _ _ h2, h3, sz_of hz, fun u hu => q u _ (fresh_back (e2.trans e3) hu) ((e2.trans e3).trans (Ex.new hu)) upd_same⟩
theorem cut_tail (xs : List V) : cutV xs (some 1) none = xs.drop 1 := by
  cases xs with
  | nil => rfl
  | cons x r =>
    have e1 : HT.sIx (x :: r).length 0 (some 1) = min 1 (x :: r).length := HT.sIx_nat _ 0 1
    unfold cutV
    rw [e1, HT.sIx_none, Nat.min_eq_left (by rw [List.length_cons]; omega)]
    exact List.take_of_length_le (by rw [List.length_drop]; exact Nat.le_refl _)
theorem evL_is {xs ys : List V} (h : EvL te σ H xs) (e : xs = ys) : EvL te σ H ys := by
  rw [← e]
  exact h
theorem len_filter {α : Type} (f : α → Bool) (l : List α) {n : Nat} (h : l.length ≤ n) : (l.filter f).length ≤ n := Nat.le_trans (List.length_filter_le f l) h
end
section
variable {X : Cx} {K : PySem.W.Frag} {tg l e : Expr} {tl te : TE}
theorem ix_listK (h : X.K = K) : IxR X (rIxL K) := h ▸ ix_list
theorem ix_tupK (h : X.K = K) : IxR X (rIxT K) := h ▸ ix_tup
theorem op_in_seqK (h : X.K = K) : OpR X (compareOp .In) (rIn K false) := h ▸ op_in_seq
theorem op_notIn_seqK (h : X.K = K) : OpR X (compareOp .NotIn) (rIn K true) := h ▸ op_notIn_seq
theorem op_eq0K (h : X.K = K) (hu : X.A.units + 64 < cLine) : OpR X (compareOp .Eq) (rEq0 K) := h ▸ op_eq0 hu
theorem op_ne0K (h : X.K = K) (hu : X.A.units + 64 < cLine) : OpR X (compareOp .NotEq) (rNe0 K) := h ▸ op_ne0 hu
theorem op_eqDK (h : X.K = K) (hu : X.A.units + 64 < cLine) : OpR X (compareOp .Eq) (rEqD K) := h ▸ op_eqD hu
theorem pi_listK (h : X.K = K) (hl : PE X l tl) : PI X tg l (iList K tl) := h ▸ pi_list hl
theorem cr_allK (h : X.K = K) (hc : X.calm = true) : CallR X (.builtin "all") (rAll K) := h ▸ cr_all hc
theorem call_len_seqK (h : X.K = K) : CallR X (.builtin "len") (rLenS K) := h ▸ call_len_seq
theorem call_len_strK : CallR X (.builtin "len") (fun xs H Q => ∃ z, xs = [.str z] ∧ z.length ≤ sizeLine ∧ Q (.int z.length) H) := call_len_str
end
end Kt

/-! Kx: loops over anything walked, extend, locks, sheets. -/
namespace Kt
open PySem PySem.Spec PyProof.Rows L2 Evl

/-! ### sheets -/
abbrev Sh := List (Str × List Lv)
def kvs (l : Sh) : List (Key × V) := l.map fun p => (Sum.inr p.1, V.str (tx p.2))
def dsheet (l : Sh) : HO := .dK (kvs l)
def getW (l : Sh) (n : Str) : Option (List Lv) := (l.find? fun p => decide (p.1 = n)).map (·.2)
theorem valV_sheet (l : Sh) (n : Str) : valV (kvs l) (Sum.inr n) = (getW l n).map fun w => V.str (tx w) := by
  induction l with
  | nil => rfl
  | cons p r ih =>
    unfold kvs getW at *
    rw [List.map_cons]
    by_cases h : p.1 = n
    · rw [valV_pos (by rw [h]), List.find?_cons, decide_eq_true h]; rfl
    · rw [valV_neg (fun z => h (Sum.inr.inj z)), ih, List.find?_cons, decide_eq_false h]
theorem kvs_len (l : Sh) : (kvs l).length = l.length := by unfold kvs; rw [List.length_map]
theorem kvs_app (l m : Sh) : kvs (l ++ m) = kvs l ++ kvs m := by unfold kvs; rw [List.map_append]
theorem dget_sheet {H : Hp} {d : Addr} {l : Sh} {n : Str} {w : List Lv} (hd : Rd H d (dsheet l)) (h : getW l n = some w) : DGet H d (.str n) (some (.str (tx w))) :=
  .inl ⟨kvs l, Sum.inr n, hd, rfl, by rw [valV_sheet, h]; rfl⟩
theorem dget_o {H : Hp} {d : Addr} {l : Sh} (n : Str) (hd : Rd H d (dsheet l)) : DGet H d (.str n) ((getW l n).map fun w => V.str (tx w)) :=
  .inl ⟨kvs l, Sum.inr n, hd, rfl, (valV_sheet l n).symm⟩
theorem mut_sheet (l : Sh) : Mut (some (dsheet l)) := trivial

section
variable {K : PySem.W.Frag} {σ : L2.St} {H H' : Hp} {ta tb te tl : TE} {t u : TT} {x y z v : V} {D : Ends} {tu tw tz : TS} {g : TG}
theorem ev_dget {d : Addr} {l : Sh} {n : Str} {w : List Lv} (ha : Ev ta σ H (.ref d)) (hb : Ev tb σ H (.str n)) (hd : Rd H d (dsheet l)) (h : getW l n = some w) : Ev (tDGet ta tb) σ H (.str (tx w)) := fun H1 e Q q =>
  ha H1 e _ fun H2 e2 => hb H2 (e.trans e2) _ fun H3 e3 => ⟨d, _, rfl, dget_sheet (ex_rd ((e.trans e2).trans e3) hd) h, q _ (e2.trans e3)⟩
/-! ### loops over anything that is walked -/
theorem s_forI {α : Type} {wi : TI} {l : List α} {R : α → V → Hp → Prop} (h : EvI wi σ H l R) (Pv : Nat → L2.St → Hp → Prop) (mono : ∀ i σ' H1 H2, Ex H1 H2 → Pv i σ' H1 → Pv i σ' H2) (h0 : ∀ H1, Ex H H1 → Pv 0 σ H1)
    (hs : ∀ H2 i x v σ' H', Ex H H2 → l[i]? = some x → Ex H2 H' → Pv i σ' H' → R x v H' → ∃ σ2, TgP g σ' v H' σ2 ∧ tu { D with nx := fun σ3 H3 => Ex H2 H3 ∧ Pv (i + 1) σ3 H3, ct := fun σ3 H3 => Ex H2 H3 ∧ Pv (i + 1) σ3 H3, bk := D.nx } σ2 H')
    (hd : ∀ σ' H', Ex H H' → Pv l.length σ' H' → D.nx σ' H') : tFor wi g tu D σ H := h H (Ex.refl H) _ fun J H2 e2 W => by
  refine ⟨fun i m σ' H' => m = l.length - i ∧ i ≤ l.length ∧ Ex H2 H' ∧ Pv i σ' H', ⟨l.length, by omega, Nat.zero_le _, Ex.refl _, h0 H2 e2⟩, ?_⟩
  rintro i m σ' H' ⟨rfl, hi, e, p⟩
  by_cases hlt : i < l.length
  · obtain ⟨x, hx⟩ := lt_get hlt
    refine .inr ⟨W.go i H' hlt e, fun σ3 H3 => Ex H2 H3 ∧ Pv (i + 1) σ3 H3, fun σ3 H3 q => ⟨l.length - (i + 1), by omega, rfl, hlt, q⟩, fun v H'' y => ?_⟩
    obtain ⟨e', r⟩ := W.yld i x H' v H'' hx e y
    obtain ⟨σ2, tg, hb⟩ := hs H2 i x v σ' H'' e2 hx (e.trans e') (mono _ _ _ _ e' p) r
    exact tg _ hb
  · have ei : i = l.length := by omega
    subst ei
    exact .inl ⟨W.stop H' e, hd σ' H' (e2.trans e) p⟩
theorem q_forI {α : Type} {wi : TI} {l : List α} {R : α → V → Hp → Prop} (h : EvI wi σ H l R) (Pv : Nat → L2.St → Hp → Prop) (mono : ∀ i σ' H1 H2, Ex H1 H2 → Pv i σ' H1 → Pv i σ' H2) (h0 : ∀ H1, Ex H H1 → Pv 0 σ H1)
    (hs : ∀ H2 i x v σ' H', Ex H H2 → l[i]? = some x → Ex H2 H' → Pv i σ' H' → R x v H' → ∃ σ2, TgP g σ' v H' σ2 ∧ tu { D with nx := fun σ3 H3 => Ex H2 H3 ∧ Pv (i + 1) σ3 H3, ct := fun σ3 H3 => Ex H2 H3 ∧ Pv (i + 1) σ3 H3, bk := tz D } σ2 H')
    (hd : ∀ σ' H', Ex H H' → Pv l.length σ' H' → tz D σ' H') : tSeq (tFor wi g tu) tz D σ H := s_forI (D := { D with nx := tz D }) h Pv mono h0 hs hd
/-! ### xs.extend(..) -/
theorem s_ext {l : Addr} {xs ys : List V} (hl : H l = some (.lst xs)) (ha : Ev ta σ H (.ref l)) (h : EvL te σ H ys) (hz : xs.length + ys.length ≤ 100000) (k : ∀ H1, Ex H H1 → D.nx σ (upd H1 l (.lst (xs ++ ys)))) :
    tDrop (tBM K "list" rExtend ta (tCons te tNil)) D σ H := ha H (Ex.refl H) _ fun H1 e1 =>
  ⟨Or.inl ⟨rfl, xs, sq_of (e1 l _ hl)⟩, h H1 e1 _ fun p H2 hp e2 h2 => ⟨l, p, xs, ys, rfl, rfl, e2 l _ (e1 l _ hl), h2, sz_of hz, k H2 (e1.trans e2)⟩⟩
theorem s_extO {α : Type} {o : α → HO} {m : List α} {l : Addr} {xs : List V} (hl : H l = some (.lst xs)) (ha : Ev ta σ H (.ref l)) (h : EvO_ te σ H o m) (hz : xs.length + m.length ≤ 100000)
    (k : ∀ L H1, Ex H H1 → L.map (·.2) = m → OL o H1 L → D.nx σ (upd H1 l (.lst (xs ++ refs L)))) : tDrop (tBM K "list" rExtend ta (tCons te tNil)) D σ H := ha H (Ex.refl H) _ fun H1 e1 =>
  ⟨Or.inl ⟨rfl, xs, sq_of (e1 l _ hl)⟩, h H1 e1 _ fun p L H2 hp e2 hL h2 ho => ⟨l, p, xs, refs L, rfl, rfl, e2 l _ (e1 l _ hl), h2, sz_of (by rw [refs, List.length_map]; rw [← hL, List.length_map] at hz; exact hz), k L H2 (e1.trans e2) hL ho⟩⟩
/-! ### locks -/
theorem ex_lock {d : Addr} {u o : HO} (e : Ex (upd H d o) H') (hd : H d = some u) : Ex H (upd H' d u) := fun a w h => by
  by_cases n : a = d
  · rw [n] at h ⊢; rw [upd_same, ← hd]; exact h
  · rw [upd_ne n]; exact e a w (by rw [upd_ne n]; exact h)
theorem q_lockL {d : Addr} {u : HO} {i : Nat} {xs : List V} (hd : H d = some u) (mu : Mut (some u)) (h : ∀ od, EvL te σ (upd H d (.frz od u)) xs)
    (k : ∀ p H1, H p = none → Ex H H1 → H1 p = some (.lst xs) → tz D (σ.set i (some (.ref p))) H1) : tSeq (tLock (tAsg te (gName i))) tz D σ H :=
  ⟨d, u, hd, mu, fun od => h od _ (Ex.refl _) _ fun p H1 hp e h1 => by
    have np : p ≠ d := fun z => by rw [z, upd_same] at hp; cases hp
    refine ⟨e d _ upd_same, k p _ ?_ (ex_lock e hd) ?_⟩
    · rw [upd_ne np] at hp; exact hp
    · rw [upd_ne np]; exact h1⟩
theorem el_lock {d : Addr} {u : HO} {xs : List V} (hd : H d = some u) (mu : Mut (some u)) (h : ∀ od, EvL te σ (upd H d (.frz od u)) xs) : EvL (tLockE te) σ H xs := fun H1 e Q q =>
  ⟨d, u, e d _ hd, mu, fun od => h od (upd H1 d (.frz od u)) (fun a w z => by
    by_cases n : a = d
    · rw [n] at z ⊢; rw [upd_same] at z ⊢; exact z
    · rw [upd_ne n] at z ⊢; exact e a w z) _ fun p H2 hp e2 h2 => by
    have np : p ≠ d := fun z => by rw [z, upd_same] at hp; cases hp
    exact ⟨e2 d _ upd_same, q p _ (by rw [upd_ne np] at hp; exact hp) (ex_lock e2 (e d _ hd)) (by rw [upd_ne np]; exact h2)⟩⟩
/-! ### new objects -/
theorem en_dnew : EvN tDNewK σ H (dsheet []) := fun H1 _ _ q p hp => q p _ hp (Ex.new hp) upd_same
theorem eo_lst1 {α : Type} {o : α → HO} {m : α} (h : EvN te σ H (o m)) : EvO_ (tLst (tCons te tNil)) σ H o [m] := fun H1 e Q q =>
  h H1 e _ fun p H2 hp e2 h2 => ⟨by show 1 ≤ sizeLine; decide, fun r hr => q r [(p, m)] _ (fresh_back e2 hr) (e2.trans (Ex.new hr)) rfl upd_same (fun x hx => by
    rw [List.mem_singleton] at hx
    subst hx
    exact (Ex.new hr) _ _ h2)⟩
theorem en_dict {d : Addr} {l : Sh} (h : Ev te σ H (.ref d)) (hd : Rd H d (dsheet l)) : EvN (tCB (fun xs H Q => ∃ (a : Addr) (kvs : List (Key × V)), xs = [.ref a] ∧ Rd H a (.dK kvs) ∧ ∀ p, H p = none → Q (.ref p) (upd H p (.dK kvs))) (tCons te tNil)) σ H (dsheet l) := fun H1 e Q q =>
  h H1 e _ fun H2 e2 => ⟨d, kvs l, rfl, ex_rd (e.trans e2) hd, fun p hp => q p _ (fresh_back e2 hp) (e2.trans (Ex.new hp)) upd_same⟩
theorem el_listD {d : Addr} {l : Sh} (h : Ev te σ H (.ref d)) (hd : Rd H d (dsheet l)) : EvL (tCB (fun xs H Q => ∃ (a : Addr) (kvs : List (Key × V)), xs = [.ref a] ∧ Rd H a (.dK kvs) ∧ ∀ p, H p = none → Q (.ref p) (upd H p (.lst (kvs.map fun kv => kV kv.1)))) (tCons te tNil)) σ H (l.map fun p => V.str p.1) := fun H1 e Q q =>
  h H1 e _ fun H2 e2 => ⟨d, kvs l, rfl, ex_rd (e.trans e2) hd, fun p hp => q p _ (fresh_back e2 hp) (e2.trans (Ex.new hp)) (by
    rw [upd_same, kvs, List.map_map]
    rfl)⟩
/-- d[name] = wave -/
theorem q_dput {d : Addr} {l : Sh} {n : Str} {w : List Lv} (hd : H d = some (dsheet l)) (ha : Ev ta σ H (.ref d)) (hb : Ev tb σ H (.str n)) (hv : Ev te σ H (.str (tx w))) (hz : l.length < 1000) (k : ∀ H1, Ex H H1 → tz D σ (upd H1 d (.dK (putK (kvs l) (Sum.inr n) (.str (tx w)))))) :
    tSeq (sDPut ta tb te) tz D σ H := hv H (Ex.refl H) _ fun H1 e1 => ha H1 e1 _ fun H2 e2 => hb H2 (e1.trans e2) _ fun H3 e3 => ⟨d, _, rfl, .inl ⟨kvs l, Sum.inr n, ((e1.trans e2).trans e3) _ _ hd, rfl, small1000 (by rw [kvs_len]; omega), rfl⟩, k H3 ((e1.trans e2).trans e3)⟩
theorem put_new {l : Sh} {n : Str} {w : List Lv} (h : getW l n = none) : putK (kvs l) (Sum.inr n) (.str (tx w)) = kvs (l ++ [(n, w)]) := by
  rw [putK_new _ (by rw [valV_sheet, h]; rfl), kvs_app]
  rfl
end
end Kt

/-! Fa: changes, rises, spans. -/
namespace Kt
open PySem PySem.Spec PyProof.Rows L2 Evl
/-! changes: slots 0 wave, 1 made, 2 tick; cells  -/
abbrev s_changes : Stmt := topS 10
abbrev N_changes : List Str := ["wave", "made", "tick"]
theorem sc_changes : FnScope N_changes ["wave"] (defScope s_changes) := ⟨rfl, rfl, rfl, by decide +kernel, rfl, by decide +kernel, by decide +kernel⟩
/-! rises: slots 0 wave, 1 tick, 2 ahead, 3 here; cells  -/
abbrev s_rises : Stmt := topS 11
abbrev N_rises : List Str := ["wave", "tick", "ahead", "here"]
theorem sc_rises : FnScope N_rises ["wave"] (defScope s_rises) := ⟨rfl, rfl, rfl, by decide +kernel, rfl, by decide +kernel, by decide +kernel⟩
/-! spans: slots 0 wave, 1 starts, 2 ends, 3 tick, 4 ahead, 5 here, 6 start, 7 end; cells wave -/
abbrev s_spans : Stmt := topS 12
abbrev N_spans : List Str := ["wave", "starts", "ends", "tick", "ahead", "here", "start", "end"]
theorem sc_spans : FnScope N_spans ["wave"] (defScope s_spans) := ⟨rfl, rfl, rfl, by decide +kernel, rfl, by decide +kernel, by decide +kernel⟩
/-! ### mirrors -/
def moves (w : List Lv) (t : Nat) : Bool := !decide (at_ w t = at_ w (t - 1))
def chgTo (w : List Lv) (n : Nat) : List (Nat × Lv × Lv) := ((List.range' 1 n).filter (moves w)).map fun t => (t, at_ w (t - 1), at_ w t)
def chg (w : List Lv) : List (Nat × Lv × Lv) := chgTo w (w.length - 1)
def tup3 (q : Nat × Lv × Lv) : HO := .tup [.int (q.1 : Int), .str (sg q.2.1), .str (sg q.2.2)]
theorem chgTo_yes {w : List Lv} {n : Nat} (h : moves w (1 + n) = true) : chgTo w (n + 1) = chgTo w n ++ [(1 + n, at_ w n, at_ w (1 + n))] := by
  unfold chgTo
  rw [List.range'_concat, List.filter_append, List.map_append, Nat.one_mul, List.filter_cons, if_pos h]
  show _ ++ [(1 + n, at_ w (1 + n - 1), at_ w (1 + n))] = _
  rw [Nat.add_sub_cancel_left]
theorem chgTo_no {w : List Lv} {n : Nat} (h : moves w (1 + n) = false) : chgTo w (n + 1) = chgTo w n := by
  unfold chgTo
  rw [List.range'_concat, List.filter_append, List.map_append, Nat.one_mul, List.filter_cons, if_neg (by rw [h]; exact Bool.false_ne_true)]
  exact List.append_nil _
def spChanges : Sp := fun vs H Q _ => ∃ w : List Lv, vs = [.str (tx w)] ∧ w.length ≤ 12 ∧ RetO tup3 (chg w) H Q
section
variable {P : Program} {w : World} {K : PySem.W.Frag} {mg : Str → Option Value} {base : Heap}
theorem ok_changes (T : Tx mg) {f : Addr} {fd : FuncData} (F : Fun K "changes" "changes" s_changes f fd) : FnOk P w K mg base CX0 1 f fd ["wave"] spChanges := by
  refine F.ok sc_changes (fun vs H Q E h => ?_) (fun cdv A outer s H vs Q E hr h => ?_)
  · obtain ⟨wv, rfl, _⟩ := h
    rfl
  · obtain ⟨wv, rfl, hl, q⟩ := h
    have nd := sc_changes.nd
    refine ⟨_, (pss_cons (ps_set (i := 1) nd rfl (by first | exact .inl rfl | exact .inr rfl) (pe_lst pa_nil))
      (pss_cons (ps_for PassesOwn.never rfl (pi_range2 (by rfl) T.range (pa_cons pe_int (pa_cons (pe_callB call_len_str (by rfl) T.len PySem.boot_len (pa_cons (pv 0) pa_nil)) pa_nil))) (pg_name (i := 2) nd rfl (by first | exact .inl rfl | exact .inr rfl))
      (pss_one (ps_if (pt_cmpR op_ne (pe_ix ix_str (pv 0) (pv 2) (fun _ _ => rfl)) (pe_ix ix_str (pv 0) (pe_op op_sub (pv 2) pe_int) (fun _ _ => rfl)) (nomark _)) (pss_one (ps_expr (pe_bm PySem.F.plainAttrs_list PySem.F.slot_list_append PySem.F.type_list_append mt_append (pv 1) (pa_cons (pe_tup (pa_cons (pv 2) (pa_cons (pe_ix ix_str (pv 0) (pe_op op_sub (pv 2) pe_int) (fun _ _ => rfl)) (pa_cons (pe_ix ix_str (pv 0) (pv 2) (fun _ _ => rfl)) pa_nil)))) pa_nil)))) pss_nil)))
      (pss_one (ps_ret (pv 1))))), ?_⟩
    refine q_asgL (el_lst ea_nil (Nat.zero_le _)) fun m H1 hm e1 h1 => ?_
    refine q_forR2 (lo := 1) (n := (wv.length : Int)) (ea_cons ev_c (ea_cons (ev_lenS (ev_var rfl) (by omega)) ea_nil)) ⟨by omega, by omega, by omega, by omega⟩
      (fun i σ' H' => ∃ L k, σ' = [some (.str (tx wv)), some (.ref m), k] ∧ Ex H H' ∧ H' m = some (.lst (refs L)) ∧ OL tup3 H' L ∧ L.map (·.2) = chgTo wv i ∧ L.length ≤ i)
      (fun H2 e2 => ⟨[], none, rfl, e1.trans e2, e2 _ _ h1, fun _ h => (by cases h), rfl, Nat.le_refl _⟩) (fun i σ' H' hi hP => ?_) (fun σ' H' hP => ?_)
    · obtain ⟨L, k, rfl, e, hmL, ho, hL, hlen⟩ := hP
      have x1 : Ev (tOp rIxS (tVar 0) (tVar 2)) [some (.str (tx wv)), some (.ref m), some (.int (1 + (i : Int)))] H' (.str (sg (at_ wv (1 + i)))) := ev_strIx (ev_var rfl) (ev_var rfl) (by omega) (by omega) (by omega)
      have x2 : Ev (tOp rIxS (tVar 0) (tOp (rI0 fun i j => .int (i - j)) (tVar 2) (tC (.int 1)))) [some (.str (tx wv)), some (.ref m), some (.int (1 + (i : Int)))] H' (.str (sg (at_ wv i))) := ev_strIx (ev_var rfl) (ev_op (ev_var rfl) ev_c rv_I0) (by omega) (by omega) (by omega)
      refine s_when (b := moves wv (1 + i)) (et_test (ev_is (ev_op x1 x2 (rv_ne rfl)) ?_)) (fun hb H2 e2 => ?_) (fun hb H2 e2 => ?_)
      · unfold moves
        rw [dec_sg, Nat.add_sub_cancel_left]
      · refine s_appU (e2 _ _ hmL) (ev_var rfl) (eu_tup (ea_cons (ev_var rfl) (ea_cons (x2.mono e2) (ea_cons (x1.mono e2) ea_nil))) (by show 3 ≤ 100000; decide)) (by rw [refs, List.length_map]; omega) fun p H3 hp e3 h3 => ?_
        have hm3 : H3 m = some (.lst (refs L)) := e3 _ _ (e2 _ _ hmL)
        have npm : p ≠ m := fun z => by rw [z] at h3; rw [h3] at hm3; cases hm3
        refine ⟨L ++ [(p, (1 + i, at_ wv i, at_ wv (1 + i)))], _, rfl, Ex.mut ((e.trans e2).trans e3) hm, ?_, fun x hx => ?_, ?_, ?_⟩
        · rw [upd_same, refs, refs, List.map_append]; rfl
        · rcases List.mem_append.mp hx with hx | hx
          · have hx3 := e3 _ _ (e2 _ _ (ho x hx))
            rw [upd_ne (fun z => by rw [z, hm3] at hx3; cases hx3)]
            exact hx3
          · rw [List.mem_singleton] at hx
            subst hx
            rw [upd_ne npm, h3]
            show some (HO.tup [V.int (1 + (i : Int)), _, _]) = some (HO.tup [V.int ((1 + i : Nat) : Int), _, _])
            rw [show (1 + (i : Int)) = ((1 + i : Nat) : Int) by omega]
        · rw [List.map_append, hL, chgTo_yes hb]; rfl
        · rw [List.length_append]; show L.length + 1 ≤ i + 1; omega
      · exact ⟨L, _, rfl, e.trans e2, e2 _ _ hmL, ho.ex e2, by rw [hL, chgTo_no hb], by omega⟩
    · obtain ⟨L, k, rfl, e, hmL, ho, hL, hlen⟩ := hP
      refine s_ret (ev_var rfl) fun H2 e2 => q m L H2 hm (e.trans e2) ?_ (e2 _ _ hmL) (ho.ex e2)
      rw [hL, chg]
      congr 1
      omega
end
end Kt

/-! Fb: rises, spans. -/
namespace Kt
open PySem PySem.Spec PyProof.Rows L2 Evl
theorem chg_len (w : List Lv) : (chg w).length ≤ w.length := by
  unfold chg chgTo
  rw [List.length_map]
  exact len_filter _ _ (by rw [List.length_range']; omega)
theorem chg_mem {w : List Lv} {q : Nat × Lv × Lv} (h : q ∈ chg w) : 1 ≤ q.1 ∧ q.1 < w.length ∧ moves w q.1 = true ∧ q.2.1 = at_ w (q.1 - 1) ∧ q.2.2 = at_ w q.1 := by
  unfold chg chgTo at h
  obtain ⟨t, ht, rfl⟩ := List.mem_map.mp h
  obtain ⟨h1, h2⟩ := List.mem_filter.mp ht
  obtain ⟨a, b⟩ := List.mem_range'_1.mp h1
  exact ⟨a, by show t < w.length; omega, h2, rfl, rfl⟩
def isUp (q : Nat × Lv × Lv) : Bool := decide (q.2.1 = .z) && decide (q.2.2 = .o)
def ris (w : List Lv) : List Nat := ((chg w).filter isUp).map (·.1)
def niv (l : List Nat) : List V := l.map fun (t : Nat) => V.int (t : Int)
def spRises : Sp := fun vs H Q _ => ∃ w : List Lv, vs = [.str (tx w)] ∧ w.length ≤ 12 ∧ RetL (niv (ris w)) H Q
theorem ris_len (w : List Lv) : (ris w).length ≤ w.length := by
  unfold ris
  rw [List.length_map]
  exact len_filter _ _ (chg_len w)
/-- spans: first tick, how many, level -/
def stt (w : List Lv) : List Nat := 0 :: (chg w).map (·.1)
def nds (w : List Lv) : List Nat := (chg w).map (·.1) ++ [w.length]
def spn (w : List Lv) : List (Nat × Int × Lv) := ((stt w).zip (nds w)).map fun p => (p.1, (p.2 : Int) - (p.1 : Int), at_ w p.1)
def sp3 (q : Nat × Int × Lv) : HO := .tup [.int (q.1 : Int), .int q.2.1, .str (sg q.2.2)]
def spSpans : Sp := fun vs H Q _ => ∃ w : List Lv, vs = [.str (tx w)] ∧ (1 ≤ w.length ∧ w.length ≤ 12) ∧ RetO sp3 (spn w) H Q
theorem stt_len (w : List Lv) : (stt w).length = (chg w).length + 1 := by
  unfold stt
  rw [List.length_cons, List.length_map]
theorem nds_len (w : List Lv) : (nds w).length = (chg w).length + 1 := by
  unfold nds
  rw [List.length_append, List.length_map]
  rfl
section
variable {P : Program} {w : World} {K : PySem.W.Frag} {mg : Str → Option Value} {base : Heap}
theorem so_changes {H : Hp} {wv : List Lv} (hl : wv.length ≤ 12) : SpO spChanges ([.str (tx wv)] ++ []) H tup3 (chg wv) := fun H1 _ Q q _ => ⟨wv, rfl, hl, q⟩
theorem ok_rises (T : Tx mg) (H_changes : Has P w K mg base CX0 1 "changes" ["wave"] spChanges) {f : Addr} {fd : FuncData} (F : Fun K "rises" "rises" s_rises f fd) : FnOk P w K mg base CX0 2 f fd ["wave"] spRises := by
  refine F.ok sc_rises (fun vs H Q E h => ?_) (fun cdv A outer s H vs Q E hr h => ?_)
  · obtain ⟨wv, rfl, _⟩ := h
    rfl
  · obtain ⟨wv, rfl, hl, q⟩ := h
    have nd := sc_rises.nd
    refine ⟨_, (pss_one (ps_ret (pe_lc (own := [("tick", 1), ("ahead", 2), ("here", 3)]) (g := (gTup K 3 (gCons (gName 1) (gCons (gName 2) (gCons (gName 3) gNil))))) rfl nd (pi_list (pe_callH H_changes hr (pa_cons (pv 0) pa_nil))) (blkOk_by (own := [("tick", 1), ("ahead", 2), ("here", 3)]) (N := N_rises) (sc := defScope s_rises) (by decide +kernel)) (fun _ _ _ _ _ => (pg_tup rfl (pgs_cons (pg_name (i := 1) nd rfl (by first | exact .inl rfl | exact .inr rfl)) (pgs_cons (pg_name (i := 2) nd rfl (by first | exact .inl rfl | exact .inr rfl)) (pgs_cons (pg_name (i := 3) nd rfl (by first | exact .inl rfl | exact .inr rfl)) pgs_nil))))) (fun _ _ _ _ _ => (pts_one (PW.pt (pw_and (pt_cmpR op_eq (pv 2) pe_str (nomark _)) (pw_and1 (pt_cmpR op_eq (pv 3) pe_str (nomark _))))))) (fun _ _ _ _ _ => (pv 1))))), ?_⟩
    refine s_retL (el_lc isUp (fun q => V.int (q.1 : Int)) (ei_O (eo_call (ea_cons (ev_var rfl) ea_nil) (so_changes hl))) (by have := chg_len wv; omega) fun x v H1 hx e r => ?_) fun p H1 hp e h1 => q p H1 hp e (by
      rw [h1, niv, ris, List.map_map]
      rfl)
    obtain ⟨p, rfl, hp⟩ := r
    refine ⟨_, tg_tup3 (st_of hp), rfl, ?_, fun _ => ev_var rfl⟩
    refine et_is (et_and (et_test (ev_op (ev_var rfl) ev_c (rv_eq rfl))) fun _ => et_test (ev_op (ev_var rfl) ev_c (rv_eq rfl))) ?_
    rw [e0, e1, dec_sg, dec_sg]
    rfl
theorem ok_spans (T : Tx mg) (H_changes : Has P w K mg base CX0 1 "changes" ["wave"] spChanges) {f : Addr} {fd : FuncData} (F : Fun K "spans" "spans" s_spans f fd) : FnOk P w K mg base CX0 2 f fd ["wave"] spSpans := by
  refine F.ok sc_spans (fun vs H Q E h => ?_) (fun cdv A outer s H vs Q E hr h => ?_)
  · obtain ⟨wv, rfl, _⟩ := h
    rfl
  · obtain ⟨wv, rfl, ⟨hl1, hl⟩, q⟩ := h
    have nd := sc_spans.nd
    refine ⟨_, (pss_cons (ps_set (i := 1) nd rfl (by first | exact .inl rfl | exact .inr rfl) (pe_op op_cat (pe_lst (pa_cons pe_int pa_nil)) (pe_lc (own := [("tick", 3), ("ahead", 4), ("here", 5)]) (g := (gTup K 3 (gCons (gName 3) (gCons (gName 4) (gCons (gName 5) gNil))))) rfl nd (pi_list (pe_callH H_changes hr (pa_cons (pv 0) pa_nil))) (blkOk_by (own := [("tick", 3), ("ahead", 4), ("here", 5)]) (N := N_spans) (sc := defScope s_spans) (by decide +kernel)) (fun _ _ _ _ _ => (pg_tup rfl (pgs_cons (pg_name (i := 3) nd rfl (by first | exact .inl rfl | exact .inr rfl)) (pgs_cons (pg_name (i := 4) nd rfl (by first | exact .inl rfl | exact .inr rfl)) (pgs_cons (pg_name (i := 5) nd rfl (by first | exact .inl rfl | exact .inr rfl)) pgs_nil))))) (fun _ _ _ _ _ => pts_nil) (fun _ _ _ _ _ => (pv 3)))))
      (pss_cons (ps_set (i := 2) nd rfl (by first | exact .inl rfl | exact .inr rfl) (pe_op op_cat (pe_slice sl_list (pv 1) (po_some pe_int) po_none) (pe_lst (pa_cons (pe_callB call_len_str (by rfl) T.len PySem.boot_len (pa_cons (pv 0) pa_nil)) pa_nil))))
      (pss_one (ps_ret (pe_lc (own := [("start", 6), ("end", 7)]) (g := (gTup K 2 (gCons (gName 6) (gCons (gName 7) gNil)))) rfl nd (pi_zip (by rfl) T.zip (pa_cons (pv 1) (pa_cons (pv 2) pa_nil))) (blkOk_by (own := [("start", 6), ("end", 7)]) (N := N_spans) (sc := defScope s_spans) (by decide +kernel)) (fun _ _ _ _ _ => (pg_tup rfl (pgs_cons (pg_name (i := 6) nd rfl (by first | exact .inl rfl | exact .inr rfl)) (pgs_cons (pg_name (i := 7) nd rfl (by first | exact .inl rfl | exact .inr rfl)) pgs_nil)))) (fun _ _ _ _ _ => pts_nil) (fun _ _ _ _ _ => (pe_tup (pa_cons (pv 6) (pa_cons (pe_op op_sub (pv 7) (pv 6)) (pa_cons (pe_ix ix_str (pv 0) (pv 6) (fun _ _ => rfl)) pa_nil)))))))))), ?_⟩
    have hcl := chg_len wv
    -- starts
    refine q_asgL (xs := niv (stt wv)) (evL_is (el_cat (el_lst (ea_cons ev_c ea_nil) (by show 1 ≤ 100000; decide)) (el_lc0 (fun q => V.int (q.1 : Int)) (ei_O (eo_call (ea_cons (ev_var rfl) ea_nil) (so_changes hl))) (by omega) fun x v H1 hx e r => ?_) (by rw [List.length_map]; show 1 + _ ≤ _; omega)) ?_) fun a H1 ha e1 h1' => ?_
    · obtain ⟨p, rfl, hp⟩ := r
      exact ⟨_, tg_tup3 (st_of hp), rfl, ev_var rfl⟩
    · rw [niv, stt, List.map_cons, List.map_map]
      rfl
    -- ends
    refine q_asgL (xs := niv (nds wv)) (evL_is (el_cat (el_sl (ev_var rfl) (eo_some ev_c) eo_none (sq_of h1')) (el_lst (ea_cons (ev_lenS (ev_var rfl) (by omega)) ea_nil) (by show 1 ≤ 100000; decide)) (by rw [cut_tail]; show ((niv (stt wv)).drop 1).length + 1 ≤ _; rw [List.length_drop, niv, List.length_map, stt_len]; omega)) ?_) fun b H2 hb e2 h2' => ?_
    · rw [cut_tail, niv, niv, stt, nds, List.map_cons, List.drop_one, List.tail_cons, List.map_append]
      rfl
    refine s_retO (eo_lc0 (fun p : Nat × Nat => (p.1, (p.2 : Int) - (p.1 : Int), at_ wv p.1)) sp3 (ei_zip (ea_cons (ev_var rfl) (ea_cons (ev_var rfl) ea_nil)) (sq_of (e2 _ _ h1')) (sq_of h2')) (by rw [List.length_zip, stt_len]; omega) fun x v H3 hx e r => ?_) fun p L H3 hp e hL h3 ho => q p L H3 ?_ ((e1.trans e2).trans e) hL h3 ho
    · obtain ⟨p, rfl, hp⟩ := r
      obtain ⟨x1, x2⟩ := x
      have hx1 : x1 < wv.length := by
        have hm := (List.of_mem_zip hx).1
        rcases List.mem_cons.mp hm with z | z
        · omega
        · obtain ⟨y, hy, rfl⟩ := List.mem_map.mp z
          exact (chg_mem hy).2.1
      refine ⟨_, tg_tup2 (st_of hp), rfl, evN_U (eu_tup (ea_cons (ev_var rfl) (ea_cons (ev_op (ev_var rfl) (ev_var rfl) rv_I0) (ea_cons (ev_strIx (i := x1) (ev_var rfl) (ev_var rfl) rfl hx1 (by omega)) ea_nil))) (by show 3 ≤ 100000; decide))⟩
    · exact fresh_back (e1.trans e2) hp
end
end Kt

/-! Fc: all_known, with_wave, wave_of. -/
namespace Kt
open PySem PySem.Spec PyProof.Rows L2 Evl
/-! all_known: slots 0 wave, 1 made, 2 level, 3 some, 4 longer, 5 ahead, 6 sign; cells ahead -/
abbrev s_all_known : Stmt := topS 15
abbrev N_all_known : List Str := ["wave", "made", "level", "some", "longer", "ahead", "sign"]
theorem sc_all_known : FnScope N_all_known ["wave"] (defScope s_all_known) := ⟨rfl, rfl, rfl, by decide +kernel, rfl, by decide +kernel, by decide +kernel⟩
/-! with_wave: slots 0 sheet, 1 name, 2 wave, 3 rest, 4 made, 5 one; cells name -/
abbrev s_with_wave : Stmt := topS 17
abbrev N_with_wave : List Str := ["sheet", "name", "wave", "rest", "made", "one"]
theorem sc_with_wave : FnScope N_with_wave ["sheet", "name", "wave"] (defScope s_with_wave) := ⟨rfl, rfl, rfl, by decide +kernel, rfl, by decide +kernel, by decide +kernel⟩
/-! wave_of: slots 0 sheet, 1 name; cells  -/
abbrev s_wave_of : Stmt := topS 18
abbrev N_wave_of : List Str := ["sheet", "name"]
theorem sc_wave_of : FnScope N_wave_of ["sheet", "name"] (defScope s_wave_of) := ⟨rfl, rfl, rfl, by decide +kernel, rfl, by decide +kernel, by decide +kernel⟩
/-! ### mirrors -/
/-- the levels that a level can be -/
def opts (a : Lv) : List Lv := if a = .x then [.z, .o] else [a]
def grow1 (a : Lv) (h : List Lv) : List (List Lv) := (opts a).map fun c => h ++ [c]
def grow (m : List (List Lv)) (a : Lv) : List (List Lv) := m.flatMap (grow1 a)
def aks (w : List Lv) : List (List Lv) := w.foldl grow [[]]
theorem opts_len (a : Lv) : (opts a).length = if a = .x then 2 else 1 := by cases a <;> rfl
theorem grow_len (m : List (List Lv)) (a : Lv) : (grow m a).length = m.length * (if a = .x then 2 else 1) := by
  induction m with
  | nil => simp [grow]
  | cons h r ih =>
    unfold grow at *
    rw [List.flatMap_cons, List.length_append, ih, grow1, List.length_map, opts_len, List.length_cons, Nat.add_mul, Nat.one_mul, Nat.add_comm]
theorem aks_take_succ {w : List Lv} {i : Nat} {a : Lv} (h : w[i]? = some a) : aks (w.take (i + 1)) = grow (aks (w.take i)) a := by
  unfold aks
  rw [List.take_add_one, h, List.foldl_append]
  rfl
theorem cx_take_succ {w : List Lv} {i : Nat} {a : Lv} (h : w[i]? = some a) : cx (w.take (i + 1)) = cx (w.take i) + if a = .x then 1 else 0 := by
  unfold cx
  rw [List.take_add_one, h, List.count_append]
  cases a <;> rfl
theorem aks_snoc (w : List Lv) (a : Lv) : aks (w ++ [a]) = grow (aks w) a := by
  unfold aks
  rw [List.foldl_append]
  rfl
theorem aks_len (w : List Lv) : (aks w).length = 2 ^ cx w := by
  have key : ∀ (l : List Lv) (m : List (List Lv)), (l.foldl grow m).length = m.length * 2 ^ cx l := by
    intro l
    induction l with
    | nil => intro m; simp [cx]
    | cons a r ih =>
      intro m
      rw [List.foldl_cons, ih, grow_len]
      unfold cx
      rw [List.count_cons]
      cases a <;> simp [Nat.pow_succ, Nat.mul_comm, Nat.mul_left_comm, Nat.mul_assoc]
  rw [aks, key]
  simp
theorem cx_take_le (w : List Lv) (i : Nat) : cx (w.take i) ≤ cx w := (List.take_sublist i w).count_le _
theorem pow6 {n : Nat} (h : n ≤ 6) : 2 ^ n ≤ 64 := Nat.le_trans (Nat.pow_le_pow_right (by decide) h) (by decide)
def txs (m : List (List Lv)) : List V := m.map fun v => V.str (tx v)
def spAll : Sp := fun vs H Q _ => ∃ w : List Lv, vs = [.str (tx w)] ∧ (w.length ≤ 12 ∧ cx w ≤ 6) ∧ RetL (txs (aks w)) H Q
/-- name not among the sheet's; the sheet's waves as long as this one -/
def spWith : Sp := fun vs H Q _ => ∃ (d : Addr) (l : Sh) (n : Str) (w : List Lv), vs = [.ref d, .str n, .str (tx w)] ∧ H d = some (dsheet l) ∧ (w.length ≤ 12 ∧ l.length ≤ 10 ∧ (∀ p ∈ l, p.1 ≠ n) ∧ ∀ p ∈ l, p.2.length = w.length) ∧ RetN (dsheet (l ++ [(n, w)])) H Q
def spWaveOf : Sp := fun vs H Q _ => ∃ (d : Addr) (l : Sh) (n : Str) (w : List Lv), vs = [.ref d, .str n] ∧ Rd H d (dsheet l) ∧ getW l n = some w ∧ RetV (.str (tx w)) H Q
theorem getW_none {l : Sh} {n : Str} (h : ∀ p ∈ l, p.1 ≠ n) : getW l n = none := by
  unfold getW
  rw [List.find?_eq_none.mpr fun p hp => by simpa using h p hp]
  rfl
section
variable {P : Program} {w : World} {K : PySem.W.Frag} {mg : Str → Option Value} {base : Heap}
theorem ok_all_known (T : Tx mg) {f : Addr} {fd : FuncData} (F : Fun K "all_known" "all_known" s_all_known f fd) : FnOk P w K mg base CX0 1 f fd ["wave"] spAll := by
  refine F.ok sc_all_known (fun vs H Q E h => ?_) (fun cdv A outer s H vs Q E hr h => ?_)
  · obtain ⟨wv, rfl, _⟩ := h
    rfl
  · obtain ⟨wv, rfl, ⟨hl, hx⟩, q⟩ := h
    have nd := sc_all_known.nd
    refine ⟨_, (pss_cons (ps_if (pt_cmpR op_gt (pe_m1 PySem.F.slot_str_count PySem.F.type_str_count mt_count (pv 0) pe_str) (pe_MU T.g_MOST_UNKNOWN) (nomark _)) (pss_one ps_never) pss_nil)
      (pss_cons (ps_set (i := 1) nd rfl (by first | exact .inl rfl | exact .inr rfl) (pe_lst (pa_cons pe_str pa_nil)))
      (pss_cons (ps_for PassesOwn.never rfl (pi_str (pv 0)) (pg_name (i := 2) nd rfl (by first | exact .inl rfl | exact .inr rfl))
      (pss_cons (ps_set (i := 3) nd rfl (by first | exact .inl rfl | exact .inr rfl) (pe_ifExp (pt_cmpR op_eq (pv 2) pe_str (nomark _)) pe_str (pv 2)))
      (pss_cons (ps_set (i := 4) nd rfl (by first | exact .inl rfl | exact .inr rfl) (pe_lst pa_nil))
      (pss_cons (ps_for PassesOwn.never rfl (pi_list (pv 1)) (pg_name (i := 5) nd rfl (by first | exact .inl rfl | exact .inr rfl))
      (pss_one (ps_expr (pe_bm PySem.F.plainAttrs_list PySem.F.slot_list_extend PySem.F.type_list_extend mt_extend (pv 4) (pa_cons (pe_lc (own := [("sign", 6)]) (g := (gName 6)) rfl nd (pi_str (pv 3)) (blkOk_by (own := [("sign", 6)]) (N := N_all_known) (sc := defScope s_all_known) (by decide +kernel)) (fun _ _ _ _ _ => (pg_name (i := 6) nd rfl (by first | exact .inl rfl | exact .inr rfl))) (fun _ _ _ _ _ => pts_nil) (fun _ _ _ _ _ => (pe_op op_add_str (pv 5) (pv 6)))) pa_nil)))))
      (pss_one (ps_set (i := 1) nd rfl (by first | exact .inl rfl | exact .inr rfl) (pv 4)))))))
      (pss_one (ps_ret (pv 1)))))), ?_⟩
    refine q_when (b := decide ((6 : Int) < (cx wv : Int))) (et_test (ev_op (ev_count (ev_var rfl)) ev_c rv_I0)) (fun hb => absurd (of_decide_eq_true hb) (by omega)) fun _ H0 e0' => ?_
    refine q_asgL (xs := txs (aks (wv.take 0))) (evL_is (el_lst (ea_cons ev_c ea_nil) (by show 1 ≤ 100000; decide)) (by rw [eE]; rfl)) fun m H1 hm e1' h1 => ?_
    refine q_forI (ei_str (ev_var rfl)) (fun i σ' H' => ∃ p k3 k4 k5 k6 k7, σ' = [some (.str (tx wv)), some (.ref p), k3, k4, k5, k6, k7] ∧ H p = none ∧ H' p = some (.lst (txs (aks (wv.take i)))))
      (fun i σ' Ha Hb e hP => ?_) (fun H2 e2 => ⟨m, _, _, _, _, _, rfl, fresh_back e0' hm, e2 _ _ h1⟩) (fun H2 i a v σ' H' e2 hi e hP hv => ?_) (fun σ' H' e hP => ?_)
    · obtain ⟨p, k3, k4, k5, k6, k7, rfl, hn, hp⟩ := hP
      exact ⟨p, k3, k4, k5, k6, k7, rfl, hn, e _ _ hp⟩
    · obtain ⟨p, k3, k4, k5, k6, k7, rfl, hn, hp⟩ := hP
      subst hv
      refine ⟨_, tg_name, ?_⟩
      -- some = ..
      refine q_asg (v := .str (tx (opts a))) (ev_if (b := decide (a = .x)) (et_is (et_test (ev_op (ev_var rfl) ev_c (rv_eq rfl))) (by rw [ex_, dec_sg])) (fun hb => ev_is ev_c (by rw [e01, of_decide_eq_true hb]; rfl)) (fun hb => ev_is (ev_var rfl) (by rw [opts, if_neg (of_decide_eq_false hb), sg_tx]))) fun H3 e3 => ?_
      refine q_asgL (el_lst ea_nil (Nat.zero_le _)) fun lo H4 hlo e4 h4 => ?_
      have hp4 : H4 p = some (.lst (txs (aks (wv.take i)))) := e4 _ _ (e3 _ _ hp)
      have npl : p ≠ lo := fun z => by rw [z] at hp4; rw [← z, e3 _ _ hp] at hlo; cases hlo
      have hc6 : cx (wv.take i) ≤ 6 := Nat.le_trans (cx_take_le _ _) hx
      have hal : (aks (wv.take i)).length ≤ 64 := by rw [aks_len]; exact pow6 hc6
      have hB : SqL K (del H4 lo) p ((aks (wv.take i)).map fun v => V.str (tx v)) := sql_del (sq_of hp4) npl
      refine q_forLn (a := p) (xs := (aks (wv.take i)).map fun v => V.str (tx v)) (ev_var rfl) (sq_of hp4) (fun j σ3 H5 => ∃ k6 k7, σ3 = [some (.str (tx wv)), some (.ref p), some (.str (sg a)), some (.str (tx (opts a))), some (.ref lo), k6, k7] ∧ Ex (del H4 lo) H5 ∧ H5 lo = some (.lst (txs (((aks (wv.take i)).take j).flatMap (grow1 a)))))
        (fun H5 e5 => ⟨_, _, rfl, ex_del.trans e5, e5 _ _ h4⟩) (fun j σ3 H5 _ hP => ?_) (fun j y σ3 H5 hj hP => ?_) (fun σ3 H5 hP => ?_)
      · obtain ⟨_, _, rfl, e5, _⟩ := hP
        exact ex_l e5 hB
      · obtain ⟨k6, k7, rfl, e5, h5⟩ := hP
        obtain ⟨hh, hj', rfl⟩ : ∃ hh, (aks (wv.take i))[j]? = some hh ∧ y = .str (tx hh) := by
          rw [List.getElem?_map] at hj
          cases q : (aks (wv.take i))[j]? with
          | none => rw [q] at hj; cases hj
          | some u => rw [q] at hj; exact ⟨u, rfl, (Option.some.inj hj).symm⟩
        have hjl := (List.getElem?_eq_some_iff.mp hj').1
        have hol : (opts a).length ≤ 2 := by rw [opts_len]; split <;> omega
        have hhl : hh.length ≤ 100 := by
          have key : ∀ (l : List Lv) (m : List (List Lv)) (n : Nat), (∀ u ∈ m, u.length = n) → ∀ u ∈ l.foldl grow m, u.length = n + l.length := by
            intro l
            induction l with
            | nil => intro m n hm u hu; rw [hm u hu]; rfl
            | cons b r ih =>
              intro m n hm u hu
              have z := ih (grow m b) (n + 1) (fun u hu => by
                obtain ⟨t, ht, hu⟩ := List.mem_flatMap.mp hu
                obtain ⟨c, _, rfl⟩ := List.mem_map.mp hu
                rw [List.length_append, hm t ht]; rfl) u hu
              rw [z, List.length_cons]; omega
          have z := key (wv.take i) [[]] 0 (by simp) hh (List.mem_of_getElem? hj')
          rw [z, List.length_take]; omega
        refine s_ext h5 (ev_var rfl) (el_lc0 (fun c => V.str (tx (hh ++ [c]))) (ei_str (ev_var rfl)) (by omega) fun c v H6 hc e6 hv => ?_) (by
          have hfl : (((aks (wv.take i)).take j).flatMap (grow1 a)).length ≤ 64 * 2 := by
            have z := grow_len ((aks (wv.take i)).take j) a
            unfold grow at z
            rw [z, List.length_take]
            refine Nat.mul_le_mul (by omega) (by split <;> omega)
          rw [txs, List.length_map, List.length_map]; omega) fun H6 e6 => ?_
        · subst hv
          refine ⟨_, tg_name, rfl, ?_⟩
          refine ev_op (ev_var rfl) (ev_var rfl) (rv_val fun H7 _ Q' q' => ⟨tx hh, sg c, rfl, rfl, ?_, ?_⟩)
          · rw [tx_len]; show hh.length + 1 ≤ sizeLine; exact sz_of (by omega)
          · rw [sg_tx, tx_app]; exact q'
        · refine ⟨_, _, rfl, Ex.mut (e5.trans e6) del_same, ?_⟩
          rw [upd_same, List.take_add_one, hj', List.flatMap_append, txs, txs, List.map_append]
          show some (HO.lst (_ ++ _)) = some (HO.lst (_ ++ List.map _ (List.flatMap (grow1 a) [hh])))
          rw [List.flatMap_cons, List.flatMap_nil, List.append_nil, grow1, List.map_map]
          rfl
      · obtain ⟨k6, k7, rfl, e5, h5⟩ := hP
        rw [List.length_map, List.take_length] at h5
        refine s_asg (ev_var rfl) fun H6 e6 => ⟨(e.trans e3).trans ?_, lo, _, _, _, _, _, rfl, fresh_back ((((e0'.trans e1').trans e2).trans e).trans e3) hlo, ?_⟩
        · refine Ex.trans (fun b o hb => ?_) (e5.trans e6)
          rw [del_ne (fun z => by rw [z, hlo] at hb; cases hb)]
          exact e4 _ _ hb
        · rw [e6 _ _ h5, aks_take_succ hi]; rfl
    · obtain ⟨p, k3, k4, k5, k6, k7, rfl, hn, hp⟩ := hP
      rw [List.take_length] at hp
      exact s_ret (ev_var rfl) fun H2 e2 => q p H2 hn (((e0'.trans e1').trans e).trans e2) (e2 _ _ hp)
theorem ok_with_wave (T : Tx mg) {f : Addr} {fd : FuncData} (F : Fun K "with_wave" "with_wave" s_with_wave f fd) : FnOk P w K mg base CX0 1 f fd ["sheet", "name", "wave"] spWith := by
  refine F.ok sc_with_wave (fun vs H Q E h => ?_) (fun cdv A outer s H vs Q E hr h => ?_)
  · obtain ⟨d, l, n, wv, rfl, _⟩ := h
    rfl
  · obtain ⟨d, l, n, wv, rfl, hd, ⟨hl, hll, hn, hw⟩, q⟩ := h
    have nd := sc_with_wave.nd
    refine ⟨_, (pss_cons (ps_lock (ps_setLc (i := 3) (own := [("one", 5)]) (g := (gName 5)) rfl nd rfl rfl (sw_true rfl rfl rfl (by decide +kernel)) (pi_keys (pv 0)) (blkOk_by (own := [("one", 5)]) (N := N_with_wave) (sc := defScope s_with_wave) (by decide +kernel)) (fun _ _ _ _ _ => (pg_name (i := 5) nd rfl (by first | exact .inl rfl | exact .inr rfl))) (fun _ _ _ _ _ => (pts_one (pt_cmpR op_ne (pv 5) (pv 1) (nomark _)))) (fun _ _ _ _ _ => (pv 5))))
      (pss_cons (ps_if (PW.pt (pw_and (pt_cmpR (op_ne0 (hu64 hr)) (pv 3) (pe_lst pa_nil) (nomark _)) (pw_and1 (pt_cmpR op_ne (pe_callB call_len_str (by rfl) T.len PySem.boot_len (pa_cons (pe_dget (hu1 hr) (pv 0) (pe_ix ix_list (pv 3) pe_int (fun _ _ => rfl)) (fun _ _ => rfl)) pa_nil)) (pe_callB call_len_str (by rfl) T.len PySem.boot_len (pa_cons (pv 2) pa_nil)) (nomark _))))) (pss_one ps_never) pss_nil)
      (pss_cons (ps_set (i := 4) nd rfl (by first | exact .inl rfl | exact .inr rfl) (pe_callTy call_dictD (by rfl) T.dict (by decide +kernel) (pa_cons (pv 0) pa_nil)))
      (pss_cons (ps_dput (hu1 hr) (pv 4) (pv 1) (pv 2) rfl)
      (pss_one (ps_ret (pv 4))))))), ?_⟩
    refine q_lockL (xs := l.map fun p => V.str p.1) hd (mut_sheet l) (fun od => evL_is (el_lc (fun p => !decide (p.1 = n)) (fun p => V.str p.1) (ei_keys (l := l.map fun p => (p.1, V.str (tx p.2))) (ev_var rfl) (by rw [upd_same, dsheet, kvs, List.map_map]; rfl)) (by rw [List.length_map]; omega) fun x v H1 hx e r => ?_) ?_) fun p H1 hp e1' h1 => ?_
    · subst r
      refine ⟨_, tg_name, rfl, et_is (et_test (ev_op (ev_var rfl) (ev_var rfl) (rv_ne rfl))) ?_, fun _ => ev_var rfl⟩
      by_cases z : x.1 = n
      · rw [z, decide_eq_true rfl, decide_eq_true rfl]
      · rw [decide_eq_false (fun y => z (V.str.inj y)), decide_eq_false z]
    · rw [List.filter_map, List.map_map]
      have z : l.filter ((fun p : Str × V => !decide (p.1 = n)) ∘ fun p => (p.1, V.str (tx p.2))) = l := List.filter_eq_self.mpr fun p hp => by
        show (!decide (p.1 = n)) = true
        rw [decide_eq_false (hn p hp)]; rfl
      rw [z]
      rfl
    have hd1 : H1 d = some (dsheet l) := e1' _ _ hd
    -- the test
    have tst : EvT (tAnd (tTest (tOp (rNe0 K) (tVar 3) (tLst tNil))) (tTest (tOp rNe (tCB (fun xs H Q => ∃ z, xs = [.str z] ∧ z.length ≤ sizeLine ∧ Q (.int z.length) H) (tCons (tDGet (tVar 0) (tOp (rIxL K) (tVar 3) (tC (.int 0)))) tNil)) (tCB (fun xs H Q => ∃ z, xs = [.str z] ∧ z.length ≤ sizeLine ∧ Q (.int z.length) H) (tCons (tVar 2) tNil)))))
        [some (.ref d), some (.str n), some (.str (tx wv)), some (.ref p), none, none] H1 false := by
      cases l with
      | nil => exact et_is (et_and (b := false) (et_test (ev_ne0v (ev_var rfl) (sq_of h1))) fun z => absurd z (by decide)) rfl
      | cons p0 r =>
        refine et_is (et_and (et_test (ev_ne0v (ev_var rfl) (sq_of h1))) fun _ => et_test (ev_op (ev_lenS (ev_dget (w := p0.2) (ev_var rfl) (ev_op (ev_var rfl) ev_c (rv_ixL (sq_of h1) (atI_nat (j := 0) rfl))) (.inl hd1) ?_) ?_) (ev_lenS (ev_var rfl) (by omega)) (rv_ne rfl))) ?_
        · unfold getW
          rw [List.find?_cons, decide_eq_true rfl]; rfl
        · rw [hw p0 List.mem_cons_self]; omega
        · rw [hw p0 List.mem_cons_self, decide_eq_true rfl]; rfl
    refine q_when tst (fun hb => absurd hb Bool.false_ne_true) fun _ H2 e2 => ?_
    refine q_asgN (en_dict (ev_var rfl) (.inl (e2 _ _ hd1))) fun m H3 hm e3 h3 => ?_
    refine q_dput h3 (ev_var rfl) (ev_var rfl) (ev_var rfl) (by omega) fun H4 e4 => ?_
    have hmH : H m = none := fresh_back (e1'.trans e2) hm
    refine s_ret (ev_var rfl) fun H5 e5 => q m H5 hmH ?_ ?_
    · exact (Ex.mut (((e1'.trans e2).trans e3).trans e4) hmH).trans e5
    · refine e5 _ _ ?_
      rw [upd_same, put_new (getW_none hn)]
      rfl
theorem ok_wave_of (T : Tx mg) {f : Addr} {fd : FuncData} (F : Fun K "wave_of" "wave_of" s_wave_of f fd) : FnOk P w K mg base CX0 1 f fd ["sheet", "name"] spWaveOf := by
  refine F.ok sc_wave_of (fun vs H Q E h => ?_) (fun cdv A outer s H vs Q E hr h => ?_)
  · obtain ⟨d, l, n, wv, rfl, _⟩ := h
    rfl
  · obtain ⟨d, l, n, wv, rfl, hd, hg, q⟩ := h
    have nd := sc_wave_of.nd
    refine ⟨_, (pss_cons (ps_if (pt_cmp (pc_dnotin (hu1 hr) (pv 1) (pv 0))) (pss_one ps_never) pss_nil)
      (pss_one (ps_ret (pe_dget (hu1 hr) (pv 0) (pv 1) (fun _ _ => rfl))))), ?_⟩
    refine ⟨_, rfl, _, rfl, d, _, rfl, dget_sheet hd hg, false, rfl, ?_⟩
    refine iteF ?_
    exact s_ret (ev_dget (ev_var rfl) (ev_var rfl) hd hg) q
end
end Kt

/-! Fd: all_sheets, unknown_of. -/
namespace Kt
open PySem PySem.Spec PyProof.Rows L2 Evl
/-! all_sheets: slots 0 sheet, 1 made, 2 name, 3 longer, 4 ahead, 5 wave; cells ahead name -/
abbrev s_all_sheets : Stmt := topS 19
abbrev N_all_sheets : List Str := ["sheet", "made", "name", "longer", "ahead", "wave"]
theorem sc_all_sheets : FnScope N_all_sheets ["sheet"] (defScope s_all_sheets) := ⟨rfl, rfl, rfl, by decide +kernel, rfl, by decide +kernel, by decide +kernel⟩
/-! unknown_of: slots 0 sheet, 1 name; cells sheet -/
abbrev s_unknown_of : Stmt := topS 20
abbrev N_unknown_of : List Str := ["sheet", "name"]
theorem sc_unknown_of : FnScope N_unknown_of ["sheet"] (defScope s_unknown_of) := ⟨rfl, rfl, rfl, by decide +kernel, rfl, by decide +kernel, by decide +kernel⟩
abbrev nA : Str := Str.ofString "a"
abbrev nB : Str := Str.ofString "b"
theorem nAB : nA ≠ nB := by decide +kernel
def sh (w1 w2 : List Lv) : Sh := [(nA, w1), (nB, w2)]
theorem getA {w1 w2 : List Lv} : getW (sh w1 w2) nA = some w1 := by
  unfold getW sh
  rw [List.find?_cons, decide_eq_true rfl]
  rfl
theorem getB {w1 w2 : List Lv} : getW (sh w1 w2) nB = some w2 := by
  unfold getW sh
  rw [List.find?_cons, decide_eq_false nAB, List.find?_cons, decide_eq_true rfl]
  rfl
theorem aks_mem_len {w : List Lv} : ∀ u ∈ aks w, u.length = w.length := by
  have key : ∀ (l : List Lv) (m : List (List Lv)) (n : Nat), (∀ u ∈ m, u.length = n) → ∀ u ∈ l.foldl grow m, u.length = n + l.length := by
    intro l
    induction l with
    | nil => intro m n hm u hu; rw [hm u hu]; rfl
    | cons b r ih =>
      intro m n hm u hu
      have z := ih (grow m b) (n + 1) (fun u hu => by
        obtain ⟨t, ht, hu⟩ := List.mem_flatMap.mp hu
        obtain ⟨c, _, rfl⟩ := List.mem_map.mp hu
        rw [List.length_append, hm t ht]; rfl) u hu
      rw [z, List.length_cons]; omega
  intro u hu
  rw [key w [[]] 0 (by simp) u hu, Nat.zero_add]
def ext1 (n : Str) (w : List Lv) (h : Sh) : List Sh := (aks w).map fun v => h ++ [(n, v)]
def extS (S : List Sh) (n : Str) (w : List Lv) : List Sh := S.flatMap (ext1 n w)
def stg (l : Sh) : List Sh := l.foldl (fun S p => extS S p.1 p.2) [[]]
def sheetsOf (w1 w2 : List Lv) : List Sh := stg (sh w1 w2)
theorem extS_len (S : List Sh) (n : Str) (w : List Lv) : (extS S n w).length = S.length * 2 ^ cx w := by
  induction S with
  | nil => simp [extS]
  | cons h r ih =>
    unfold extS at *
    rw [List.flatMap_cons, List.length_append, ih, ext1, List.length_map, aks_len, List.length_cons, Nat.add_mul, Nat.one_mul, Nat.add_comm]
theorem stg_succ {l : Sh} {i : Nat} {p : Str × List Lv} (h : l[i]? = some p) : stg (l.take (i + 1)) = extS (stg (l.take i)) p.1 p.2 := by
  unfold stg
  rw [List.take_add_one, h, List.foldl_append]
  rfl
/-- what the sheets of a stage are -/
def StOk (n : Nat) (l : Sh) (i : Nat) : Prop := ∀ h ∈ stg (l.take i), h.length = i ∧ ∀ p ∈ h, p.2.length = n ∧ p.1 ∈ (l.take i).map (·.1)
theorem stOk_succ {n : Nat} {l : Sh} {i : Nat} {p : Str × List Lv} (h : l[i]? = some p) (hp : p.2.length = n) (k : StOk n l i) : StOk n l (i + 1) := by
  intro u hu
  rw [stg_succ h] at hu
  obtain ⟨g, hg, hu⟩ := List.mem_flatMap.mp hu
  obtain ⟨v, hv, rfl⟩ := List.mem_map.mp hu
  obtain ⟨k1, k2⟩ := k g hg
  refine ⟨by rw [List.length_append, k1]; rfl, fun q hq => ?_⟩
  rw [List.take_add_one, h, List.map_append]
  rcases List.mem_append.mp hq with hq | hq
  · exact ⟨(k2 q hq).1, List.mem_append_left _ (k2 q hq).2⟩
  · rw [List.mem_singleton] at hq
    subst hq
    exact ⟨(aks_mem_len v hv).trans hp, List.mem_append_right _ (by simp)⟩
theorem stOk_all {n : Nat} {l : Sh} (hl : ∀ p ∈ l, p.2.length = n) : ∀ i, i ≤ l.length → StOk n l i
  | 0, _ => fun h hh => by
    have e : h = [] := by
      rw [List.take_zero] at hh
      exact List.mem_singleton.mp hh
    subst e
    exact ⟨rfl, fun _ h => by cases h⟩
  | i + 1, hi => by
    obtain ⟨p, hp⟩ := lt_get (l := l) (i := i) (by omega)
    exact stOk_succ hp (hl p (List.mem_of_getElem? hp)) (stOk_all hl i (by omega))
def spSheets : Sp := fun vs H Q _ => ∃ (d : Addr) (w1 w2 : List Lv), vs = [.ref d] ∧ H d = some (dsheet (sh w1 w2)) ∧ (w1.length ≤ 12 ∧ w2.length = w1.length ∧ cx w1 ≤ 6 ∧ cx w2 ≤ 6) ∧ RetO dsheet (sheetsOf w1 w2) H Q
def spUnk : Sp := fun vs H Q _ => ∃ (d : Addr) (w1 w2 : List Lv), vs = [.ref d] ∧ H d = some (dsheet (sh w1 w2)) ∧ RetV (.int ((cx w1 + cx w2 : Nat) : Int)) H Q
theorem sorted2 {ys : List Str} (p : ys.Perm [nA, nB]) (h : sortedS ys = true) : ys = [nA, nB] := by
  have hl : ys.length = 2 := p.length_eq
  match ys, hl with
  | [u, v], _ =>
    have hu : u = nA ∨ u = nB := by simpa using p.mem_iff.mp (List.mem_cons_self (a := u) (l := [v]))
    rcases hu with rfl | rfl
    · have e := List.Perm.cons_inv p
      rw [List.perm_singleton] at e
      rw [e]
    · have e : [v].Perm [nA] := List.Perm.cons_inv (a := nB) (p.trans (List.Perm.swap _ _ _))
      rw [List.perm_singleton] at e
      rw [e] at h
      exact absurd h (by decide +kernel)
section
variable {P : Program} {w : World} {K : PySem.W.Frag} {mg : Str → Option Value} {base : Heap}
theorem el_sorted2 {σ : L2.St} {H : Hp} {ta : TE} (h : EvL ta σ H ([nA, nB].map V.str)) : EvL (tCB (rSortedS K) (tCons ta tNil)) σ H ([nA, nB].map V.str) := fun H1 e Q q =>
  h H1 e _ fun a H2 _ e2 h2 => ⟨a, [nA, nB], rfl, sq_of h2, by decide, fun ys p hy hs hp => by
    rw [sorted2 hy hs]
    exact q p _ (fresh_back e2 hp) (e2.trans (Ex.new hp)) upd_same⟩
theorem sl_all {H : Hp} {wv : List Lv} (hl : wv.length ≤ 12) (hx : cx wv ≤ 6) : SpL spAll ([.str (tx wv)] ++ []) H (txs (aks wv)) := fun H1 _ Q q _ => ⟨wv, rfl, ⟨hl, hx⟩, q⟩
theorem OL.mono_get {α : Type} {o : α → HO} {H : Hp} {L : List (Addr × α)} (h : OL o H L) {j : Nat} {q : Addr × α} (hj : L[j]? = some q) : H q.1 = some (o q.2) := h q (List.mem_of_getElem? hj)
theorem ok_all_sheets (T : Tx mg) (H_all_known : Has P w K mg base CX0 1 "all_known" ["wave"] spAll) (H_with_wave : Has P w K mg base CX0 1 "with_wave" ["sheet", "name", "wave"] spWith) {f : Addr} {fd : FuncData} (F : Fun K "all_sheets" "all_sheets" s_all_sheets f fd) : FnOk P w K mg base CX0 2 f fd ["sheet"] spSheets := by
  refine F.ok sc_all_sheets (fun vs H Q E h => ?_) (fun cdv A outer s H vs Q E hr h => ?_)
  · obtain ⟨d, w1, w2, rfl, _⟩ := h
    rfl
  · obtain ⟨d, w1, w2, rfl, hd, ⟨hl, hll, hx1, hx2⟩, q⟩ := h
    have nd := sc_all_sheets.nd
    refine ⟨_, (pss_cons (ps_set (i := 1) nd rfl (by first | exact .inl rfl | exact .inr rfl) (pe_lst (pa_cons pe_dnewK pa_nil)))
      (pss_cons (ps_for PassesOwn.never rfl (pi_list (pe_callB cr_sortedS (by rfl) T.sorted (by decide +kernel) (pa_cons (pe_callTy (call_listD rfl) (by rfl) T.list (by decide +kernel) (pa_cons (pv 0) pa_nil)) pa_nil))) (pg_name (i := 2) nd rfl (by first | exact .inl rfl | exact .inr rfl))
      (pss_cons (ps_set (i := 3) nd rfl (by first | exact .inl rfl | exact .inr rfl) (pe_lst pa_nil))
      (pss_cons (ps_for PassesOwn.never rfl (pi_list (pv 1)) (pg_name (i := 4) nd rfl (by first | exact .inl rfl | exact .inr rfl))
      (pss_one (ps_expr (pe_bm PySem.F.plainAttrs_list PySem.F.slot_list_extend PySem.F.type_list_extend mt_extend (pv 3) (pa_cons (pe_lc (own := [("wave", 5)]) (g := (gName 5)) rfl nd (pi_list (pe_callH H_all_known hr (pa_cons (pe_dget (hu1 hr) (pv 0) (pv 2) (fun _ _ => rfl)) pa_nil))) (blkOk_by (own := [("wave", 5)]) (N := N_all_sheets) (sc := defScope s_all_sheets) (by decide +kernel)) (fun _ _ _ _ _ => (pg_name (i := 5) nd rfl (by first | exact .inl rfl | exact .inr rfl))) (fun _ _ _ _ _ => pts_nil) (fun _ _ _ _ _ => (pe_callH H_with_wave hr (pa_cons (pv 4) (pa_cons (pv 2) (pa_cons (pv 5) pa_nil)))))) pa_nil)))))
      (pss_one (ps_set (i := 1) nd rfl (by first | exact .inl rfl | exact .inr rfl) (pv 3))))))
      (pss_one (ps_ret (pv 1))))), ?_⟩
    have hlen : ∀ p ∈ sh w1 w2, p.2.length = w1.length := by
      intro p hp
      rcases List.mem_cons.mp hp with rfl | hp
      · rfl
      · rw [List.mem_singleton] at hp
        subst hp
        exact hll
    have hget : ∀ p ∈ sh w1 w2, getW (sh w1 w2) p.1 = some p.2 ∧ cx p.2 ≤ 6 := by
      intro p hp
      rcases List.mem_cons.mp hp with rfl | hp
      · exact ⟨getA, hx1⟩
      · rw [List.mem_singleton] at hp
        subst hp
        exact ⟨getB, hx2⟩
    have hsz : ∀ i, i ≤ 2 → (stg ((sh w1 w2).take i)).length ≤ 64 * 64 := by
      intro i hi
      match i, hi with
      | 0, _ => show 1 ≤ 64 * 64; decide
      | 1, _ =>
        rw [stg_succ (p := (nA, w1)) rfl, extS_len]
        exact Nat.mul_le_mul (show 1 ≤ 64 by decide) (pow6 hx1)
      | 2, _ =>
        rw [stg_succ (p := (nB, w2)) rfl, extS_len, stg_succ (p := (nA, w1)) rfl, extS_len]
        refine Nat.mul_le_mul (Nat.le_trans (Nat.mul_le_mul (show 1 ≤ 1 by decide) (pow6 hx1)) (by decide)) (pow6 hx2)
    refine q_asgO (eo_lst1 (m := ([] : Sh)) en_dnew) fun m L0 H1 hm e1' hL0 h1 ho0 => ?_
    refine q_forI (l := sh w1 w2) (R := fun p v _ => v = V.str p.1) (ei_NL (l := sh w1 w2) (φ := fun p => V.str p.1) (el_sorted2 (evL_is (el_listD (ev_var rfl) (.inl (e1' _ _ hd))) rfl)))
      (fun i σ' H' => ∃ p L k2 k3 k4 k5, σ' = [some (.ref d), some (.ref p), k2, k3, k4, k5] ∧ H p = none ∧ H' p = some (.lst (refs L)) ∧ OL dsheet H' L ∧ L.map (·.2) = stg ((sh w1 w2).take i))
      (fun i σ' Ha Hb e hP => ?_) (fun H2 e2 => ⟨m, L0, _, _, _, _, rfl, hm, e2 _ _ h1, ho0.ex e2, hL0⟩) (fun H2 i x v σ' H' e2 hi e hP hv => ?_) (fun σ' H' e hP => ?_)
    · obtain ⟨p, L, k2, k3, k4, k5, rfl, hn, hp, ho, hL⟩ := hP
      exact ⟨p, L, k2, k3, k4, k5, rfl, hn, e _ _ hp, ho.ex e, hL⟩
    · obtain ⟨p, L, k2, k3, k4, k5, rfl, hn, hp, ho, hL⟩ := hP
      subst hv
      have hi2 : i < 2 := (List.getElem?_eq_some_iff.mp hi).1
      have hxm := List.mem_of_getElem? hi
      obtain ⟨hgx, hcx⟩ := hget x hxm
      have hst := stOk_all hlen i (by show i ≤ 2; omega)
      refine ⟨_, tg_name, ?_⟩
      refine q_asgL (el_lst ea_nil (Nat.zero_le _)) fun lo H4 hlo e4 h4 => ?_
      have hp4 : H4 p = some (.lst (refs L)) := e4 _ _ hp
      have npl : p ≠ lo := fun z => by rw [← z, hp] at hlo; cases hlo
      have ho4 : OL dsheet H4 L := ho.ex e4
      have hoB : OL dsheet (del H4 lo) L := fun u hu => by
        have z := ho4 u hu
        rw [del_ne (fun y => by rw [y, h4] at z; cases z)]
        exact z
      have hB : SqL K (del H4 lo) p (refs L) := sql_del (sq_of hp4) npl
      have hd4 : (del H4 lo) d = some (dsheet (sh w1 w2)) := by
        have z := e4 _ _ (e _ _ (e2 _ _ (e1' _ _ hd)))
        rw [del_ne (fun y => by rw [y, h4] at z; cases z)]
        exact z
      have hLl : L.length ≤ 64 * 64 := by
        have z := hsz i (by omega)
        rw [← hL, List.length_map] at z
        exact z
      refine q_forLn (a := p) (xs := refs L) (ev_var rfl) (sq_of hp4) (fun j σ3 H5 => ∃ M k4 k5, σ3 = [some (.ref d), some (.ref p), some (.str x.1), some (.ref lo), k4, k5] ∧ Ex (del H4 lo) H5 ∧ H5 lo = some (.lst (refs M)) ∧ OL dsheet H5 M ∧ M.map (·.2) = extS ((L.take j).map (·.2)) x.1 x.2)
        (fun H5 e5 => ⟨[], _, _, rfl, ex_del.trans e5, e5 _ _ h4, fun _ h => (by cases h), rfl⟩) (fun j σ3 H5 _ hP => ?_) (fun j y σ3 H5 hj hP => ?_) (fun σ3 H5 hP => ?_)
      · obtain ⟨_, _, _, rfl, e5, _⟩ := hP
        exact ex_l e5 hB
      · obtain ⟨M, k4, k5, rfl, e5, h5, hoM, hM⟩ := hP
        obtain ⟨u, hj', rfl⟩ : ∃ u, L[j]? = some u ∧ y = .ref u.1 := by
          rw [refs, List.getElem?_map] at hj
          cases q : L[j]? with
          | none => rw [q] at hj; cases hj
          | some u => rw [q] at hj; exact ⟨u, rfl, (Option.some.inj hj).symm⟩
        have hum : u.2 ∈ stg ((sh w1 w2).take i) := by rw [← hL]; exact List.mem_map.mpr ⟨u, List.mem_of_getElem? hj', rfl⟩
        obtain ⟨hu1, hu2⟩ := hst u.2 hum
        have hjl := (List.getElem?_eq_some_iff.mp hj').1
        have hMl : M.length ≤ 64 * 64 * 64 := by
          have z := congrArg List.length hM
          rw [extS_len, List.length_map, List.length_map, List.length_take] at z
          rw [z]
          exact Nat.mul_le_mul (by omega) (pow6 hcx)
        have hMl2 : M.length ≤ 64 * 64 * 2 ∨ True := .inr trivial
        refine s_extO (o := dsheet) (m := ext1 x.1 x.2 u.2) h5 (ev_var rfl) (eo_lc0 (fun v => u.2 ++ [(x.1, v)]) dsheet (ei_NL (l := aks x.2) (φ := fun v => V.str (tx v)) (el_call (ea_cons (ev_dget (ev_var rfl) (ev_var rfl) (.inl (e5 _ _ hd4)) hgx) ea_nil) (sl_all (by rw [hlen x hxm]; exact hl) hcx))) (by rw [aks_len]; have := pow6 hcx; omega) fun v' vv H6 hv e6 hvv => ?_) ?_ fun L6 H6 e6 hL6 ho6 => ?_
        · subst hvv
          refine ⟨_, tg_name, rfl, ?_⟩
          refine en_call (vs := [.ref u.1, .str x.1, .str (tx v')]) (ea_cons (ev_var rfl) (ea_cons (ev_var rfl) (ea_cons (ev_var rfl) ea_nil))) fun H7 e7 Q' q' _ => ⟨u.1, u.2, x.1, v', rfl, e7 _ _ (e6 _ _ (e5 _ _ (hoB.mono_get hj'))), ⟨?_, ?_, fun r hr => ?_, fun r hr => ?_⟩, q'⟩
          · rw [aks_mem_len v' hv, hlen x hxm]; exact hl
          · rw [hu1]; omega
          · intro z
            have hz := (hu2 r hr).2
            rw [z] at hz
            match i, hi2 with
            | 0, _ => cases hz
            | 1, _ =>
              have ex : (nB, w2) = x := Option.some.inj hi
              rw [← ex] at hz
              exact nAB (List.mem_singleton.mp hz).symm
          · rw [(hu2 r hr).1, aks_mem_len v' hv, hlen x hxm]
        · rw [refs, List.length_map, ext1, List.length_map, aks_len]
          have hst1 : (L.take j).length ≤ 64 := by
            match i, hi2 with
            | 0, _ =>
              have z := congrArg List.length hL
              rw [List.length_map] at z
              rw [List.length_take, z]
              show min j 1 ≤ 64
              omega
            | 1, _ =>
              have z := congrArg List.length hL
              rw [List.length_map, stg_succ (p := (nA, w1)) rfl, extS_len] at z
              have z2 := pow6 hx1
              rw [List.length_take, z]
              show min j (1 * 2 ^ cx w1) ≤ 64
              omega
          have hM3 : M.length ≤ 64 * 64 := by
            have z := congrArg List.length hM
            rw [extS_len, List.length_map, List.length_map] at z
            rw [z]
            exact Nat.mul_le_mul hst1 (pow6 hcx)
          have := pow6 hcx
          omega
        · refine ⟨M ++ L6, _, _, rfl, Ex.mut (e5.trans e6) del_same, ?_, fun r hr => ?_, ?_⟩
          · rw [upd_same, refs, refs, refs, List.map_append]
          · have z : H6 r.1 = some (dsheet r.2) := by
              rcases List.mem_append.mp hr with hr | hr
              · exact e6 _ _ (hoM r hr)
              · exact ho6 r hr
            have nl : r.1 ≠ lo := fun y => by rw [y, e6 _ _ h5] at z; cases z
            rw [upd_ne nl]
            exact z
          · rw [List.map_append, hM, hL6, List.take_add_one, hj', List.map_append, extS, extS, List.flatMap_append]
            show _ = _ ++ List.flatMap (ext1 x.1 x.2) [u.2]
            rw [List.flatMap_cons, List.flatMap_nil, List.append_nil]
      · obtain ⟨M, k4, k5, rfl, e5, h5, hoM, hM⟩ := hP
        have hk : (refs L).length = L.length := by rw [refs, List.length_map]
        rw [hk, List.take_length, hL] at hM
        refine s_asg (ev_var rfl) fun H6 e6 => ⟨e.trans ?_, lo, M, _, _, _, _, rfl, fresh_back (e1'.trans (e2.trans e)) hlo, e6 _ _ h5, hoM.ex e6, ?_⟩
        · refine Ex.trans (fun b o hb => ?_) (e5.trans e6)
          rw [del_ne (fun z => by rw [z, hlo] at hb; cases hb)]
          exact e4 _ _ hb
        · rw [hM, stg_succ hi]
    · obtain ⟨p, L, k2, k3, k4, k5, rfl, hn, hp, ho, hL⟩ := hP
      exact s_ret (ev_var rfl) fun H2 e2 => q p L H2 hn ((e1'.trans e).trans e2) hL (e2 _ _ hp) (ho.ex e2)
theorem ev_sum {σ : L2.St} {H : Hp} {ta : TE} {ns : List Int} (h : EvL ta σ H (ns.map V.int)) : Ev (tCB (rSum K) (tCons ta tNil)) σ H (.int ns.sum) := fun H1 e Q q =>
  h H1 e _ fun a H2 _ e2 h2 => ⟨a, ns, rfl, sq_of h2, q _ e2⟩
theorem ok_unknown_of (T : Tx mg) {f : Addr} {fd : FuncData} (F : Fun K "unknown_of" "unknown_of" s_unknown_of f fd) : FnOk P w K mg base CX0 1 f fd ["sheet"] spUnk := by
  refine F.ok sc_unknown_of (fun vs H Q E h => ?_) (fun cdv A outer s H vs Q E hr h => ?_)
  · obtain ⟨d, w1, w2, rfl, _⟩ := h
    rfl
  · obtain ⟨d, w1, w2, rfl, hd, q⟩ := h
    have nd := sc_unknown_of.nd
    refine ⟨_, (pss_one (ps_ret (pe_callB (cr_sum rfl) (by rfl) T.sum (by decide +kernel) (pa_cons (pe_lock (pe_lc (own := [("name", 1)]) (g := (gName 1)) rfl nd (pi_keys (pv 0)) (blkOk_by (own := [("name", 1)]) (N := N_unknown_of) (sc := defScope s_unknown_of) (by decide +kernel)) (fun _ _ _ _ _ => (pg_name (i := 1) nd rfl (by first | exact .inl rfl | exact .inr rfl))) (fun _ _ _ _ _ => pts_nil) (fun _ _ _ _ _ => (pe_m1 PySem.F.slot_str_count PySem.F.type_str_count mt_count (pe_dget (hu1 hr) (pv 0) (pv 1) (fun _ _ => rfl)) pe_str)))) pa_nil)))), ?_⟩
    refine s_ret (ev_is (ev_sum (ns := [(cx w1 : Int), (cx w2 : Int)]) (el_lock hd (mut_sheet _) fun od => evL_is (el_lc0 (fun p : Str × V => V.int ((if p.1 = nA then cx w1 else cx w2 : Nat) : Int)) (ei_keys (l := (sh w1 w2).map fun p => (p.1, V.str (tx p.2))) (ev_var rfl) (by rw [upd_same, dsheet, kvs, List.map_map]; rfl)) (by show 2 ≤ 40000; decide) fun x v H1 hx e r => ?_) ?_)) ?_) q
    · subst r
      have hr' : Rd H1 d (dsheet (sh w1 w2)) := .inr ⟨od, e _ _ upd_same⟩
      refine ⟨_, tg_name, rfl, ?_⟩
      rcases List.mem_cons.mp hx with rfl | hx
      · refine ev_is (ev_count (w := w1) (ev_dget (ev_var rfl) (ev_var rfl) hr' getA)) ?_
        rw [if_pos rfl]
      · have hx' : x = (nB, V.str (tx w2)) := List.mem_singleton.mp hx
        subst hx'
        refine ev_is (ev_count (w := w2) (ev_dget (ev_var rfl) (ev_var rfl) hr' getB)) ?_
        rw [if_neg (fun z => nAB z.symm)]
    · show [V.int _, V.int _] = [V.int _, V.int _]
      rw [if_pos rfl, if_neg (fun z => nAB z.symm)]
    · show V.int ((cx w1 : Int) + ((cx w2 : Int) + 0)) = _
      refine congrArg V.int ?_
      omega
end
end Kt

/-! Fe: never_both, not_after, too_short, not_still. -/
namespace Kt
open PySem PySem.Spec PyProof.Rows L2 Evl
/-! never_both: slots 0 one, 1 other, 2 tick; cells one other -/
abbrev s_never_both : Stmt := topS 22
abbrev N_never_both : List Str := ["one", "other", "tick"]
theorem sc_never_both : FnScope N_never_both ["one", "other"] (defScope s_never_both) := ⟨rfl, rfl, rfl, by decide +kernel, rfl, by decide +kernel, by decide +kernel⟩
/-! not_after: slots 0 one, 1 other, 2 low, 3 high, 4 ticks, 5 made, 6 rise, 7 some, 8 tick; cells high low rise -/
abbrev s_not_after : Stmt := topS 23
abbrev N_not_after : List Str := ["one", "other", "low", "high", "ticks", "made", "rise", "some", "tick"]
theorem sc_not_after : FnScope N_not_after ["one", "other", "low", "high"] (defScope s_not_after) := ⟨rfl, rfl, rfl, by decide +kernel, rfl, by decide +kernel, by decide +kernel⟩
/-! too_short: slots 0 wave, 1 level, 2 many, 3 made, 4 start, 5 size, 6 here; cells  -/
abbrev s_too_short : Stmt := topS 24
abbrev N_too_short : List Str := ["wave", "level", "many", "made", "start", "size", "here"]
theorem sc_too_short : FnScope N_too_short ["wave", "level", "many"] (defScope s_too_short) := ⟨rfl, rfl, rfl, by decide +kernel, rfl, by decide +kernel, by decide +kernel⟩
/-! not_still: slots 0 one, 1 other, 2 tick, 3 ahead, 4 here; cells other -/
abbrev s_not_still : Stmt := topS 25
abbrev N_not_still : List Str := ["one", "other", "tick", "ahead", "here"]
theorem sc_not_still : FnScope N_not_still ["one", "other"] (defScope s_not_still) := ⟨rfl, rfl, rfl, by decide +kernel, rfl, by decide +kernel, by decide +kernel⟩
/-! ### mirrors -/
def isO (w : List Lv) (t : Nat) : Bool := decide (at_ w t = .o)
def neverM (w1 w2 : List Lv) : List Nat := (List.range w1.length).filter fun t => isO w1 t && isO w2 t
def inTime (w2 : List Lv) (lo hi r : Nat) : List Nat := (ris w2).filter fun t => decide (r + lo ≤ t) && decide (t ≤ r + hi)
def late (w1 w2 : List Lv) (lo hi r : Nat) : Bool := (inTime w2 lo hi r).isEmpty && decide (r + hi < w1.length)
def afterM (w1 w2 : List Lv) (lo hi : Nat) : List Nat := (ris w1).filter (late w1 w2 lo hi)
def tooS (w : List Lv) (a : Lv) (many : Nat) (q : Nat × Int × Lv) : Bool := decide (0 < q.1) && (decide ((q.1 : Int) + q.2.1 < (w.length : Int)) && (decide (q.2.2 = a) && decide (q.2.1 < (many : Int))))
def shortM (w : List Lv) (a : Lv) (many : Nat) : List Nat := ((spn w).filter (tooS w a many)).map (·.1)
def stillM (w1 w2 : List Lv) : List Nat := ((chg w1).filter fun q => isO w2 q.1).map (·.1)
def spNever : Sp := fun vs H Q _ => ∃ w1 w2 : List Lv, vs = [.str (tx w1), .str (tx w2)] ∧ (w1.length ≤ 12 ∧ w2.length = w1.length) ∧ RetL (niv (neverM w1 w2)) H Q
def spAfter : Sp := fun vs H Q _ => ∃ (w1 w2 : List Lv) (lo hi : Nat), vs = [.str (tx w1), .str (tx w2), .int (lo : Int), .int (hi : Int)] ∧ (w1.length ≤ 12 ∧ w2.length = w1.length) ∧ RetL (niv (afterM w1 w2 lo hi)) H Q
def spShort : Sp := fun vs H Q _ => ∃ (w : List Lv) (a : Lv) (many : Nat), vs = [.str (tx w), .str (sg a), .int (many : Int)] ∧ (1 ≤ w.length ∧ w.length ≤ 12) ∧ RetL (niv (shortM w a many)) H Q
def spStill : Sp := fun vs H Q _ => ∃ w1 w2 : List Lv, vs = [.str (tx w1), .str (tx w2)] ∧ (w1.length ≤ 12 ∧ w2.length = w1.length) ∧ RetL (niv (stillM w1 w2)) H Q
theorem niv_len (l : List Nat) : (niv l).length = l.length := by unfold niv; rw [List.length_map]
theorem niv_app (l m : List Nat) : niv (l ++ m) = niv l ++ niv m := by unfold niv; rw [List.map_append]
theorem niv_flat (l : List Nat) : (niv l).all flatV = true := by
  unfold niv
  rw [List.all_map, List.all_eq_true]
  intro x _
  rfl
theorem niv_in (t : Nat) (l : List Nat) : inV (.int (t : Int)) (niv l) = decide (t ∈ l) := by
  induction l with
  | nil => rfl
  | cons a r ih =>
    show (eqV (.int (a : Int)) (.int (t : Int)) || inV (.int (t : Int)) (niv r)) = _
    rw [ih]
    show (((a : Int) == (t : Int)) || decide (t ∈ r)) = _
    by_cases h : t = a
    · subst h; simp
    · have h1 : ((a : Int) == (t : Int)) = false := beq_eq_false_iff_ne.mpr (by omega)
      rw [h1, Bool.false_or]
      exact decide_eq_decide.mpr ⟨fun z => List.mem_cons_of_mem _ z, fun z => (List.mem_cons.mp z).resolve_left h⟩
section
variable {P : Program} {w : World} {K : PySem.W.Frag} {mg : Str → Option Value} {base : Heap} {σ : L2.St} {H H' : Hp} {ta tb tc te tl : TE} {D : Ends} {tu tz : TS} {g : TG}
theorem et_chainLe {i j k : Int} (ha : Ev ta σ H (.int i)) (hb : Ev tb σ H (.int j)) (hc : Ev tc σ H (.int k)) :
    EvT (tTest (tChain (rI0 fun i j => .bl (decide (i ≤ j))) (rI0 fun i j => .bl (decide (i ≤ j))) ta tb tc)) σ H (decide (i ≤ j) && decide (j ≤ k)) := fun H1 e Q q =>
  ha H1 e _ fun H2 e2 => hb H2 (e.trans e2) _ fun H3 e3 => ⟨i, j, rfl, rfl, decide (i ≤ j), rfl, by
    by_cases h : i ≤ j
    · rw [decide_eq_true h] at q ⊢
      rw [if_pos rfl]
      exact hc H3 ((e.trans e2).trans e3) _ fun H4 e4 => ⟨j, k, rfl, rfl, _, rfl, q H4 ((e2.trans e3).trans e4)⟩
    · rw [decide_eq_false h] at q ⊢
      rw [if_neg Bool.false_ne_true]
      exact ⟨false, rfl, q H3 (e2.trans e3)⟩⟩
/-- for over a new list of new objects -/
theorem q_forO {α : Type} {o : α → HO} {l : List α} (h : EvO_ tl σ H o l) (Pv : Addr → List (Addr × α) → Nat → L2.St → Hp → Prop)
    (h0 : ∀ p L H1, H p = none → Ex H H1 → L.map (·.2) = l → H1 p = some (.lst (refs L)) → OL o H1 L → Pv p L 0 σ H1) (hl : ∀ p L i σ' H', Pv p L i σ' H' → SqL K H' p (refs L))
    (hs : ∀ p L i x σ' H', L.map (·.2) = l → L[i]? = some x → Pv p L i σ' H' → g (.ref x.1) σ' H' fun σ2 H2 => tu { D with nx := Pv p L (i + 1), ct := Pv p L (i + 1), bk := tz D } σ2 H2)
    (hd : ∀ p L σ' H', L.map (·.2) = l → Pv p L L.length σ' H' → tz D σ' H') : tSeq (tFor (iList K tl) g tu) tz D σ H :=
  h H (Ex.refl H) _ fun p L H1 hp e hL h1 ho => ⟨p, rfl, ⟨_, sq_of h1⟩, for_list (Pv p L) (h0 p L H1 hp e hL h1 ho) (fun i σ' H' _ q => hl p L i σ' H' q) (fun i x σ' H' hx q => by
    rw [refs, List.getElem?_map] at hx
    cases hq : L[i]? with
    | none => rw [hq] at hx; cases hx
    | some u =>
      rw [hq] at hx
      have e' : V.ref u.1 = x := Option.some.inj hx
      rw [← e']
      exact hs p L i u σ' H' hL hq q) (fun σ' H' q => hd p L σ' H' hL (by rw [refs, List.length_map] at q; exact q))⟩
theorem sl_rises {wv : List Lv} (hl : wv.length ≤ 12) : SpL spRises ([.str (tx wv)] ++ []) H (niv (ris wv)) := fun H1 _ Q q _ => ⟨wv, rfl, hl, q⟩
theorem so_spans {wv : List Lv} (h1 : 1 ≤ wv.length) (hl : wv.length ≤ 12) : SpO spSpans ([.str (tx wv)] ++ []) H sp3 (spn wv) := fun H1 _ Q q _ => ⟨wv, rfl, ⟨h1, hl⟩, q⟩
theorem ok_never_both (T : Tx mg) {f : Addr} {fd : FuncData} (F : Fun K "never_both" "never_both" s_never_both f fd) : FnOk P w K mg base CX0 1 f fd ["one", "other"] spNever := by
  refine F.ok sc_never_both (fun vs H Q E h => ?_) (fun cdv A outer s H vs Q E hr h => ?_)
  · obtain ⟨w1, w2, rfl, _⟩ := h
    rfl
  · obtain ⟨w1, w2, rfl, ⟨hl, hll⟩, q⟩ := h
    have nd := sc_never_both.nd
    refine ⟨_, (pss_one (ps_ret (pe_lc (own := [("tick", 2)]) (g := (gName 2)) rfl nd (pi_range1 (by rfl) T.range (pa_cons (pe_callB call_len_str (by rfl) T.len PySem.boot_len (pa_cons (pv 0) pa_nil)) pa_nil)) (blkOk_by (own := [("tick", 2)]) (N := N_never_both) (sc := defScope s_never_both) (by decide +kernel)) (fun _ _ _ _ _ => (pg_name (i := 2) nd rfl (by first | exact .inl rfl | exact .inr rfl))) (fun _ _ _ _ _ => (pts_one (PW.pt (pw_and (pt_cmpR op_eq (pe_ix ix_str (pv 0) (pv 2) (fun _ _ => rfl)) pe_str (nomark _)) (pw_and1 (pt_cmpR op_eq (pe_ix ix_str (pv 1) (pv 2) (fun _ _ => rfl)) pe_str (nomark _))))))) (fun _ _ _ _ _ => (pv 2))))), ?_⟩
    refine s_retL (el_lc (fun t => isO w1 t && isO w2 t) (fun t => V.int (t : Int)) (ei_r1 (n := w1.length) (ea_cons (ev_lenS (ev_var rfl) (by omega)) ea_nil) (by omega)) (by rw [List.length_range]; omega) fun t v H1 hx e r => ?_) q
    subst r
    have ht := List.mem_range.mp hx
    refine ⟨_, tg_name, rfl, et_is (et_and (et_test (ev_op (ev_strIx (ev_var rfl) (ev_var rfl) rfl ht (by omega)) ev_c (rv_eq rfl))) fun _ => et_test (ev_op (ev_strIx (i := t) (ev_var rfl) (ev_var rfl) rfl (by omega) (by omega)) ev_c (rv_eq rfl))) ?_, fun _ => ev_var rfl⟩
    rw [e1, dec_sg, dec_sg]
    rfl
theorem ok_not_after (T : Tx mg) (H_rises : Has P w K mg base CX0 2 "rises" ["wave"] spRises) {f : Addr} {fd : FuncData} (F : Fun K "not_after" "not_after" s_not_after f fd) : FnOk P w K mg base CX0 3 f fd ["one", "other", "low", "high"] spAfter := by
  refine F.ok sc_not_after (fun vs H Q E h => ?_) (fun cdv A outer s H vs Q E hr h => ?_)
  · obtain ⟨w1, w2, lo, hi, rfl, _⟩ := h
    rfl
  · obtain ⟨w1, w2, lo, hi, rfl, ⟨hl, hll⟩, q⟩ := h
    have nd := sc_not_after.nd
    refine ⟨_, (pss_cons (ps_set (i := 4) nd rfl (by first | exact .inl rfl | exact .inr rfl) (pe_callH H_rises hr (pa_cons (pv 1) pa_nil)))
      (pss_cons (ps_set (i := 5) nd rfl (by first | exact .inl rfl | exact .inr rfl) (pe_lst pa_nil))
      (pss_cons (ps_for PassesOwn.never rfl (pi_list (pe_callH H_rises hr (pa_cons (pv 0) pa_nil))) (pg_name (i := 6) nd rfl (by first | exact .inl rfl | exact .inr rfl))
      (pss_cons (ps_setLc (i := 7) (own := [("tick", 8)]) (g := (gName 8)) rfl nd rfl rfl (sw_true rfl rfl rfl (by decide +kernel)) (pi_list (pv 4)) (blkOk_by (own := [("tick", 8)]) (N := N_not_after) (sc := defScope s_not_after) (by decide +kernel)) (fun _ _ _ _ _ => (pg_name (i := 8) nd rfl (by first | exact .inl rfl | exact .inr rfl))) (fun _ _ _ _ _ => (pts_one (pt_chain op_le op_le (pe_op op_add (pv 6) (pv 2)) (pv 8) (pe_op op_add (pv 6) (pv 3))))) (fun _ _ _ _ _ => (pv 8)))
      (pss_one (ps_if (PW.pt (pw_and (pt_cmpR (op_eq0 (hu64 hr)) (pv 7) (pe_lst pa_nil) (nomark _)) (pw_and1 (pt_cmpR op_lt (pe_op op_add (pv 6) (pv 3)) (pe_callB call_len_str (by rfl) T.len PySem.boot_len (pa_cons (pv 0) pa_nil)) (nomark _))))) (pss_one (ps_expr (pe_bm PySem.F.plainAttrs_list PySem.F.slot_list_append PySem.F.type_list_append mt_append (pv 5) (pa_cons (pv 6) pa_nil)))) pss_nil))))
      (pss_one (ps_ret (pv 5)))))), ?_⟩
    refine q_asgL (el_call (ea_cons (ev_var rfl) ea_nil) (sl_rises (wv := w2) (by omega))) fun a H1 ha e1' h1 => ?_
    refine q_asgL (el_lst ea_nil (Nat.zero_le _)) fun m H2 hm e2 h2 => ?_
    have h1m : H2 a = some (.lst (niv (ris w2))) := e2 _ _ h1
    have nam : a ≠ m := fun z => by rw [← z, h1] at hm; cases hm
    have haB : SqL K (del H2 m) a (niv (ris w2)) := sql_del (sq_of h1m) nam
    have r1 := ris_len w1
    have r2 := ris_len w2
    refine q_forNLn (xs := niv (ris w1)) (el_call (ea_cons (ev_var rfl) ea_nil) (sl_rises (wv := w1) hl)) (fun p i σ' H' => p ≠ m ∧ SqL K H' p (niv (ris w1)) ∧ Ex (del H2 m) H' ∧ H' m = some (.lst (niv (((ris w1).take i).filter (late w1 w2 lo hi)))) ∧
        ∃ k6 k7 k8, σ' = [some (.str (tx w1)), some (.str (tx w2)), some (.int (lo : Int)), some (.int (hi : Int)), some (.ref a), some (.ref m), k6, k7, k8])
      (fun p H3 hp e3 h3 => ⟨fun z => (by rw [z, h2] at hp; cases hp), sq_of h3, ex_del.trans e3, e3 _ _ h2, none, none, none, rfl⟩) (fun p i σ' H' _ hP => hP.2.1) (fun p i y σ' H' hj hP => ?_) (fun p σ' H' hP => ?_)
    · obtain ⟨npm, hsq, e, hmv, k6, k7, k8, rfl⟩ := hP
      obtain ⟨r, hr', rfl⟩ : ∃ r, (ris w1)[i]? = some r ∧ y = .int (r : Int) := by
        rw [niv, List.getElem?_map] at hj
        cases q : (ris w1)[i]? with
        | none => rw [q] at hj; cases hj
        | some u => rw [q] at hj; exact ⟨u, rfl, (Option.some.inj hj).symm⟩
      refine q_asgL (el_lc (fun t => decide (r + lo ≤ t) && decide (t ≤ r + hi)) (fun (t : Nat) => V.int (t : Int)) (ei_L (l := ris w2) (φ := fun (t : Nat) => V.int (t : Int)) (ev_var rfl) (ex_l e haB)) (by omega) fun t v H4 hx e4 r' => ?_) fun b H4 hb e4 h4 => ?_
      · subst r'
        refine ⟨_, tg_name, rfl, et_is (et_chainLe (ev_op (ev_var rfl) (ev_var rfl) rv_I0) (ev_var rfl) (ev_op (ev_var rfl) (ev_var rfl) rv_I0)) ?_, fun _ => ev_var rfl⟩
        rw [show decide ((r : Int) + (lo : Int) ≤ (t : Int)) = decide (r + lo ≤ t) from decide_eq_decide.mpr (by omega), show decide ((t : Int) ≤ (r : Int) + (hi : Int)) = decide (t ≤ r + hi) from decide_eq_decide.mpr (by omega)]
      · have hm4 := e4 _ _ hmv
        have tst : EvT (tAnd (tTest (tOp (rEq0 K) (tVar 7) (tLst tNil))) (tTest (tOp (rI0 fun i j => .bl (decide (i < j))) (tOp (rI0 fun i j => .int (i + j)) (tVar 6) (tVar 3)) (tCB (fun xs H Q => ∃ z, xs = [.str z] ∧ z.length ≤ sizeLine ∧ Q (.int z.length) H) (tCons (tVar 0) tNil)))))
            [some (.str (tx w1)), some (.str (tx w2)), some (.int (lo : Int)), some (.int (hi : Int)), some (.ref a), some (.ref m), some (.int (r : Int)), some (.ref b), k8] H4 (late w1 w2 lo hi r) := by
          refine et_is (et_and (et_test (ev_eq0v (ev_var rfl) (sq_of h4))) fun _ => et_test (ev_op (ev_op (ev_var rfl) (ev_var rfl) rv_I0) (ev_lenS (ev_var rfl) (by omega)) rv_I0)) ?_
          rw [late, inTime, List.isEmpty_map, show decide ((r : Int) + (hi : Int) < (w1.length : Int)) = decide (r + hi < w1.length) from decide_eq_decide.mpr (by omega)]
        have hfl : (((ris w1).take i).filter (late w1 w2 lo hi)).length ≤ 12 := len_filter _ _ (by rw [List.length_take]; omega)
        refine s_when tst (fun hb' H5 e5 => ?_) (fun hb' H5 e5 => ?_)
        · refine s_app (e5 _ _ hm4) (ev_var rfl) (ev_var rfl) (by rw [niv_len]; omega) fun H6 e6 => ⟨npm, ?_, Ex.mut (((e.trans e4).trans e5).trans e6) del_same, ?_, _, _, _, rfl⟩
          · exact ex_l (Ex.mut (fun x o hx => e6 _ _ (e5 _ _ (e4 _ _ (ex_del _ _ hx)))) del_same) (sql_del hsq npm)
          · rw [upd_same, List.take_add_one, hr', List.filter_append, niv_app]
            show _ = some (HO.lst (_ ++ niv (List.filter _ [r])))
            rw [List.filter_cons, if_pos hb']
            rfl
        · refine ⟨npm, ex_l (e4.trans e5) hsq, (e.trans e4).trans e5, ?_, _, _, _, rfl⟩
          rw [e5 _ _ hm4, List.take_add_one, hr', List.filter_append]
          show _ = some (HO.lst (niv (_ ++ List.filter _ [r])))
          rw [List.filter_cons, if_neg (by rw [hb']; exact Bool.false_ne_true)]
          show _ = some (HO.lst (niv (_ ++ [])))
          rw [List.append_nil]
    · obtain ⟨npm, hsq, e, hmv, k6, k7, k8, rfl⟩ := hP
      rw [niv_len, List.take_length] at hmv
      refine s_ret (ev_var rfl) fun H3 e3 => q m H3 (fresh_back e1' hm) (Ex.trans (fun x o hx => ?_) (e.trans e3)) (e3 _ _ hmv)
      rw [del_ne (fun z => by rw [z, fresh_back e1' hm] at hx; cases hx)]
      exact e2 _ _ (e1' _ _ hx)
theorem ok_too_short (T : Tx mg) (H_spans : Has P w K mg base CX0 2 "spans" ["wave"] spSpans) {f : Addr} {fd : FuncData} (F : Fun K "too_short" "too_short" s_too_short f fd) : FnOk P w K mg base CX0 3 f fd ["wave", "level", "many"] spShort := by
  refine F.ok sc_too_short (fun vs H Q E h => ?_) (fun cdv A outer s H vs Q E hr h => ?_)
  · obtain ⟨wv, a, many, rfl, _⟩ := h
    rfl
  · obtain ⟨wv, lv, many, rfl, ⟨hl1, hl⟩, q⟩ := h
    have nd := sc_too_short.nd
    refine ⟨_, (pss_cons (ps_set (i := 3) nd rfl (by first | exact .inl rfl | exact .inr rfl) (pe_lst pa_nil))
      (pss_cons (ps_for PassesOwn.never rfl (pi_list (pe_callH H_spans hr (pa_cons (pv 0) pa_nil))) (pg_tup rfl (pgs_cons (pg_name (i := 4) nd rfl (by first | exact .inl rfl | exact .inr rfl)) (pgs_cons (pg_name (i := 5) nd rfl (by first | exact .inl rfl | exact .inr rfl)) (pgs_cons (pg_name (i := 6) nd rfl (by first | exact .inl rfl | exact .inr rfl)) pgs_nil))))
      (pss_one (ps_if (PW.pt (pw_and (pt_cmpR op_gt (pv 4) pe_int (nomark _)) (pw_and (pt_cmpR op_lt (pe_op op_add (pv 4) (pv 5)) (pe_callB call_len_str (by rfl) T.len PySem.boot_len (pa_cons (pv 0) pa_nil)) (nomark _)) (pw_and (pt_cmpR op_eq (pv 6) (pv 1) (nomark _)) (pw_and1 (pt_cmpR op_lt (pv 5) (pv 2) (nomark _))))))) (pss_one (ps_expr (pe_bm PySem.F.plainAttrs_list PySem.F.slot_list_append PySem.F.type_list_append mt_append (pv 3) (pa_cons (pv 4) pa_nil)))) pss_nil)))
      (pss_one (ps_ret (pv 3))))), ?_⟩
    refine q_asgL (el_lst ea_nil (Nat.zero_le _)) fun m H2 hm e2 h2 => ?_
    refine q_forO (o := sp3) (l := spn wv) (eo_call (ea_cons (ev_var rfl) ea_nil) (so_spans hl1 hl)) (fun p L i σ' H' => p ≠ m ∧ SqL K H' p (refs L) ∧ OL sp3 H' L ∧ Ex (del H2 m) H' ∧ H' m = some (.lst (niv ((((L.map (·.2)).take i).filter (tooS wv lv many)).map (·.1)))) ∧
        ∃ k4 k5 k6, σ' = [some (.str (tx wv)), some (.str (sg lv)), some (.int (many : Int)), some (.ref m), k4, k5, k6])
      (fun p L H3 hp e3 hL h3 ho => ⟨fun z => (by rw [z, h2] at hp; cases hp), sq_of h3, ho, ex_del.trans e3, e3 _ _ h2, none, none, none, rfl⟩) (fun p L i σ' H' hP => hP.2.1) (fun p L i x σ' H' hL hj hP => ?_) (fun p L σ' H' hL hP => ?_)
    · obtain ⟨npm, hsq, ho, e, hmv, k4, k5, k6, rfl⟩ := hP
      have hx := ho.mono_get hj
      have hjl := (List.getElem?_eq_some_iff.mp hj).1
      have hLl : L.length ≤ 13 := by
        have z := congrArg List.length hL
        rw [List.length_map, spn, List.length_map, List.length_zip, stt_len] at z
        have := chg_len wv
        omega
      refine tg_tup3 (st_of hx) _ ?_
      have tst : EvT (tAnd (tTest (tOp (rI0 fun i j => .bl (decide (j < i))) (tVar 4) (tC (.int 0)))) (tAnd (tTest (tOp (rI0 fun i j => .bl (decide (i < j))) (tOp (rI0 fun i j => .int (i + j)) (tVar 4) (tVar 5)) (tCB (fun xs H Q => ∃ z, xs = [.str z] ∧ z.length ≤ sizeLine ∧ Q (.int z.length) H) (tCons (tVar 0) tNil)))) (tAnd (tTest (tOp rEq (tVar 6) (tVar 1))) (tTest (tOp (rI0 fun i j => .bl (decide (i < j))) (tVar 5) (tVar 2))))))
          [some (.str (tx wv)), some (.str (sg lv)), some (.int (many : Int)), some (.ref m), some (.int (x.2.1 : Int)), some (.int x.2.2.1), some (.str (sg x.2.2.2))] H' (tooS wv lv many x.2) := by
        refine et_is (et_and (et_test (ev_op (ev_var rfl) ev_c rv_I0)) fun _ => et_and (et_test (ev_op (ev_op (ev_var rfl) (ev_var rfl) rv_I0) (ev_lenS (ev_var rfl) (by omega)) rv_I0)) fun _ => et_and (et_test (ev_op (ev_var rfl) (ev_var rfl) (rv_eq rfl))) fun _ => et_test (ev_op (ev_var rfl) (ev_var rfl) rv_I0)) ?_
        rw [dec_sg, tooS, show decide ((0 : Int) < (x.2.1 : Int)) = decide (0 < x.2.1) from decide_eq_decide.mpr (by omega)]
      have hj2 : (L.map (·.2))[i]? = some x.2 := by rw [List.getElem?_map, hj]; rfl
      have hfl : (((((L.map (·.2)).take i).filter (tooS wv lv many)).map (·.1)) : List Nat).length ≤ 13 := by
        rw [List.length_map]
        exact len_filter _ _ (by rw [List.length_take, List.length_map]; omega)
      have hm0 : ∀ {Ha : Hp}, Ex H' Ha → OL sp3 (del Ha m) L := fun {Ha} ea u hu => by
        have z := ea _ _ (ho u hu)
        rw [del_ne (fun y => by rw [y, ea _ _ hmv] at z; cases z)]
        exact z
      refine s_when tst (fun hb' H5 e5 => ?_) (fun hb' H5 e5 => ?_)
      · refine s_app (e5 _ _ hmv) (ev_var rfl) (ev_var rfl) (by rw [niv_len]; omega) fun H6 e6 => ⟨npm, ?_, ?_, Ex.mut ((e.trans e5).trans e6) del_same, ?_, _, _, _, rfl⟩
        · exact ex_l (Ex.mut (fun x o hx => e6 _ _ (e5 _ _ (ex_del _ _ hx))) del_same) (sql_del hsq npm)
        · exact (hm0 (e5.trans e6)).ex (Ex.mut ex_del del_same)
        · rw [upd_same, List.take_add_one, hj2, List.filter_append, List.map_append, niv_app]
          show _ = some (HO.lst (_ ++ niv (List.map _ (List.filter _ [x.2]))))
          rw [List.filter_cons, if_pos hb']
          rfl
      · refine ⟨npm, ex_l e5 hsq, ho.ex e5, e.trans e5, ?_, _, _, _, rfl⟩
        rw [e5 _ _ hmv, List.take_add_one, hj2, List.filter_append]
        show _ = some (HO.lst (niv (List.map _ (_ ++ List.filter _ [x.2]))))
        rw [List.filter_cons, if_neg (by rw [hb']; exact Bool.false_ne_true)]
        show _ = some (HO.lst (niv (List.map _ (_ ++ []))))
        rw [List.append_nil]
    · obtain ⟨npm, hsq, ho, e, hmv, k4, k5, k6, rfl⟩ := hP
      rw [show L.length = (L.map (·.2)).length by rw [List.length_map], List.take_length, hL] at hmv
      refine s_ret (ev_var rfl) fun H3 e3 => q m H3 hm (Ex.trans (fun x o hx => ?_) (e.trans e3)) (e3 _ _ hmv)
      rw [del_ne (fun z => by rw [z, hm] at hx; cases hx)]
      exact e2 _ _ hx
theorem ok_not_still (T : Tx mg) (H_changes : Has P w K mg base CX0 1 "changes" ["wave"] spChanges) {f : Addr} {fd : FuncData} (F : Fun K "not_still" "not_still" s_not_still f fd) : FnOk P w K mg base CX0 2 f fd ["one", "other"] spStill := by
  refine F.ok sc_not_still (fun vs H Q E h => ?_) (fun cdv A outer s H vs Q E hr h => ?_)
  · obtain ⟨w1, w2, rfl, _⟩ := h
    rfl
  · obtain ⟨w1, w2, rfl, ⟨hl, hll⟩, q⟩ := h
    have nd := sc_not_still.nd
    refine ⟨_, (pss_one (ps_ret (pe_lc (own := [("tick", 2), ("ahead", 3), ("here", 4)]) (g := (gTup K 3 (gCons (gName 2) (gCons (gName 3) (gCons (gName 4) gNil))))) rfl nd (pi_list (pe_callH H_changes hr (pa_cons (pv 0) pa_nil))) (blkOk_by (own := [("tick", 2), ("ahead", 3), ("here", 4)]) (N := N_not_still) (sc := defScope s_not_still) (by decide +kernel)) (fun _ _ _ _ _ => (pg_tup rfl (pgs_cons (pg_name (i := 2) nd rfl (by first | exact .inl rfl | exact .inr rfl)) (pgs_cons (pg_name (i := 3) nd rfl (by first | exact .inl rfl | exact .inr rfl)) (pgs_cons (pg_name (i := 4) nd rfl (by first | exact .inl rfl | exact .inr rfl)) pgs_nil))))) (fun _ _ _ _ _ => (pts_one (pt_cmpR op_eq (pe_ix ix_str (pv 1) (pv 2) (fun _ _ => rfl)) pe_str (nomark _)))) (fun _ _ _ _ _ => (pv 2))))), ?_⟩
    refine s_retL (el_lc (fun q => isO w2 q.1) (fun q => V.int (q.1 : Int)) (ei_O (eo_call (ea_cons (ev_var rfl) ea_nil) (so_changes hl))) (by have := chg_len w1; omega) fun x v H1 hx e r => ?_) fun p H1 hp e h1 => q p H1 hp e (by
      rw [h1, niv, stillM, List.map_map]
      rfl)
    obtain ⟨p, rfl, hp⟩ := r
    have hxl := (chg_mem hx).2.1
    refine ⟨_, tg_tup3 (st_of hp), rfl, et_is (et_test (ev_op (ev_strIx (i := x.1) (ev_var rfl) (ev_var rfl) rfl (by omega) (by omega)) ev_c (rv_eq rfl))) ?_, fun _ => ev_var rfl⟩
    rw [e1, dec_sg]
    rfl
end
end Kt

/-! Ff: out_of_turn, failures. -/
namespace Kt
open PySem PySem.Spec PyProof.Rows L2 Evl
/-! out_of_turn: slots 0 one, 1 other, 2 made, 3 turn, 4 tick, 5 mine, 6 yours; cells  -/
abbrev s_out_of_turn : Stmt := topS 26
abbrev N_out_of_turn : List Str := ["one", "other", "made", "turn", "tick", "mine", "yours"]
theorem sc_out_of_turn : FnScope N_out_of_turn ["one", "other"] (defScope s_out_of_turn) := ⟨rfl, rfl, rfl, by decide +kernel, rfl, by decide +kernel, by decide +kernel⟩
/-! failures: slots 0 sheet, 1 rule, 2 word, 3 one, 4 other; cells  -/
abbrev s_failures : Stmt := topS 27
abbrev N_failures : List Str := ["sheet", "rule", "word", "one", "other"]
theorem sc_failures : FnScope N_failures ["sheet", "rule"] (defScope s_failures) := ⟨rfl, rfl, rfl, by decide +kernel, rfl, by decide +kernel, by decide +kernel⟩
/-! ### mirrors -/
def b01 (b : Bool) : Int := if b then 1 else 0
theorem b01_flip (b : Bool) : 1 - b01 b = b01 (!b) := by cases b <;> rfl
theorem b01_is0 (b : Bool) : decide (V.int (b01 b) = V.int 0) = !b := by cases b <;> rfl
theorem dec_bl (a b : Bool) : decide (V.bl a = V.bl b) = (a == b) := by cases a <;> cases b <;> rfl
def turnStep (w1 w2 : List Lv) (s : List Nat × Bool) (t : Nat) : List Nat × Bool :=
  if decide (t ∈ ris w1) || decide (t ∈ ris w2) then
    if (decide (t ∈ ris w1) && decide (t ∈ ris w2)) || !(decide (t ∈ ris w1) == !s.2) then (s.1 ++ [t], s.2) else (s.1, !s.2)
  else s
def turnsTo (w1 w2 : List Lv) (n : Nat) : List Nat × Bool := (List.range n).foldl (turnStep w1 w2) ([], false)
def turnsM (w1 w2 : List Lv) : List Nat := (turnsTo w1 w2 w1.length).1
theorem turnsTo_succ (w1 w2 : List Lv) (n : Nat) : turnsTo w1 w2 (n + 1) = turnStep w1 w2 (turnsTo w1 w2 n) n := by
  unfold turnsTo
  rw [List.range_succ, List.foldl_append]
  rfl
theorem turnsTo_len (w1 w2 : List Lv) : ∀ n, (turnsTo w1 w2 n).1.length ≤ n
  | 0 => Nat.le_refl _
  | n + 1 => by
    have h := turnsTo_len w1 w2 n
    rw [turnsTo_succ]
    unfold turnStep
    split
    · split
      · show (_ ++ [n]).length ≤ _
        rw [List.length_append]
        exact Nat.succ_le_succ h
      · exact Nat.le_succ_of_le h
    · exact Nat.le_succ_of_le h
def spTurns : Sp := fun vs H Q _ => ∃ w1 w2 : List Lv, vs = [.str (tx w1), .str (tx w2)] ∧ (w1.length ≤ 12 ∧ w2.length = w1.length) ∧ RetL (niv (turnsM w1 w2)) H Q
/-- the rules -/
inductive Rl where
  | never (i j : Bool)
  | after (i j : Bool) (lo hi : Nat)
  | long (i : Bool) (a : Lv) (many : Nat)
  | still (i j : Bool)
  | turns (i j : Bool)
def nm (b : Bool) : Str := if b then nB else nA
def sel (w1 w2 : List Lv) (b : Bool) : List Lv := if b then w2 else w1
abbrev sNever : Str := Str.ofString "never"
abbrev sAfter : Str := Str.ofString "after"
abbrev sLong : Str := Str.ofString "long"
abbrev sStill : Str := Str.ofString "still"
abbrev sTurns : Str := Str.ofString "turns"
def rlV : Rl → List V
  | .never i j => [.str sNever, .str (nm i), .str (nm j)]
  | .after i j lo hi => [.str sAfter, .str (nm i), .str (nm j), .int (lo : Int), .int (hi : Int)]
  | .long i a m => [.str sLong, .str (nm i), .str (sg a), .int (m : Int)]
  | .still i j => [.str sStill, .str (nm i), .str (nm j)]
  | .turns i j => [.str sTurns, .str (nm i), .str (nm j)]
def failM (w1 w2 : List Lv) : Rl → List Nat
  | .never i j => neverM (sel w1 w2 i) (sel w1 w2 j)
  | .after i j lo hi => afterM (sel w1 w2 i) (sel w1 w2 j) lo hi
  | .long i a m => shortM (sel w1 w2 i) a m
  | .still i j => stillM (sel w1 w2 i) (sel w1 w2 j)
  | .turns i j => turnsM (sel w1 w2 i) (sel w1 w2 j)
theorem get_sel (w1 w2 : List Lv) (b : Bool) : getW (sh w1 w2) (nm b) = some (sel w1 w2 b) := by
  cases b
  · exact getA
  · exact getB
theorem sel_len {w1 w2 : List Lv} (h : w2.length = w1.length) (b : Bool) : (sel w1 w2 b).length = w1.length := by
  cases b
  · rfl
  · exact h
def spFail (K : PySem.W.Frag) : Sp := fun vs H Q _ => ∃ (d r : Addr) (w1 w2 : List Lv) (rl : Rl), vs = [.ref d, .ref r] ∧ Rd H d (dsheet (sh w1 w2)) ∧ SqT K H r (rlV rl) ∧ (1 ≤ w1.length ∧ w1.length ≤ 12 ∧ w2.length = w1.length) ∧ RetL (niv (failM w1 w2 rl)) H Q
section
variable {P : Program} {w : World} {K : PySem.W.Frag} {mg : Str → Option Value} {base : Heap} {σ : L2.St} {H H' : Hp}
theorem ok_out_of_turn (T : Tx mg) (H_rises : Has P w K mg base CX0 2 "rises" ["wave"] spRises) {f : Addr} {fd : FuncData} (F : Fun K "out_of_turn" "out_of_turn" s_out_of_turn f fd) : FnOk P w K mg base CX0 3 f fd ["one", "other"] spTurns := by
  refine F.ok sc_out_of_turn (fun vs H Q E h => ?_) (fun cdv A outer s H vs Q E hr h => ?_)
  · obtain ⟨w1, w2, rfl, _⟩ := h
    rfl
  · obtain ⟨w1, w2, rfl, ⟨hl, hll⟩, q⟩ := h
    have nd := sc_out_of_turn.nd
    refine ⟨_, (pss_cons (ps_set (i := 2) nd rfl (by first | exact .inl rfl | exact .inr rfl) (pe_lst pa_nil))
      (pss_cons (ps_set (i := 3) nd rfl (by first | exact .inl rfl | exact .inr rfl) pe_int)
      (pss_cons (ps_for PassesOwn.never rfl (pi_range1 (by rfl) T.range (pa_cons (pe_callB call_len_str (by rfl) T.len PySem.boot_len (pa_cons (pv 0) pa_nil)) pa_nil)) (pg_name (i := 4) nd rfl (by first | exact .inl rfl | exact .inr rfl))
      (pss_cons (ps_set (i := 5) nd rfl (by first | exact .inl rfl | exact .inr rfl) (pe_cmpR op_in_seq (pv 4) (pe_callH H_rises hr (pa_cons (pv 0) pa_nil)) (by rfl)))
      (pss_cons (ps_set (i := 6) nd rfl (by first | exact .inl rfl | exact .inr rfl) (pe_cmpR op_in_seq (pv 4) (pe_callH H_rises hr (pa_cons (pv 1) pa_nil)) (by rfl)))
      (pss_one (ps_if (PW.pt (pw_or (pt_val (pv 5)) (pw_or1 (pt_val (pv 6))))) (pss_one (ps_if (PW.pt (pw_or (PW.pt (pw_and (pt_val (pv 5)) (pw_and1 (pt_val (pv 6))))) (pw_or1 (pt_cmpR op_ne (pv 5) (pe_cmpR op_eq (pv 3) pe_int (nomark _)) (nomark _))))) (pss_one (ps_expr (pe_bm PySem.F.plainAttrs_list PySem.F.slot_list_append PySem.F.type_list_append mt_append (pv 2) (pa_cons (pv 4) pa_nil)))) (pss_one (ps_set (i := 3) nd rfl (by first | exact .inl rfl | exact .inr rfl) (pe_op op_sub pe_int (pv 3)))))) pss_nil)))))
      (pss_one (ps_ret (pv 2)))))), ?_⟩
    refine q_asgL (el_lst ea_nil (Nat.zero_le _)) fun m H1 hm e1' h1 => ?_
    refine q_asg ev_c fun H2 e2 => ?_
    refine q_forR1 (n := (w1.length : Int)) (ea_cons (ev_lenS (ev_var rfl) (by omega)) ea_nil) (by omega)
      (fun i σ' H' => ∃ k4 k5 k6, σ' = [some (.str (tx w1)), some (.str (tx w2)), some (.ref m), some (.int (b01 (turnsTo w1 w2 i).2)), k4, k5, k6] ∧ Ex H H' ∧ H' m = some (.lst (niv (turnsTo w1 w2 i).1)))
      (fun H3 e3 => ⟨_, _, _, rfl, (e1'.trans e2).trans e3, e3 _ _ (e2 _ _ h1)⟩) (fun i σ' H' hi hP => ?_) (fun σ' H' hP => ?_)
    · obtain ⟨k4, k5, k6, rfl, e, hmv⟩ := hP
      have inR : ∀ {tr : TA} {σ3 : L2.St} {Ha : Hp} {wv : List Lv} {vt : TE}, wv.length ≤ 12 → Ev vt σ3 Ha (.int (i : Int)) → EvA tr σ3 Ha [.str (tx wv)] → Ev (tOp (rIn K false) vt (tCall spRises [] E0 tr)) σ3 Ha (.bl (decide (i ∈ ris wv))) := fun hw h1 h2 =>
        ev_opL h1 (el_call h2 (sl_rises hw)) fun p H1 hp _ => by
          rw [← niv_in]
          exact rv_isL (sq_of hp) rfl (niv_flat _)
      refine q_asg (inR hl (ev_var rfl) (ea_cons (ev_var rfl) ea_nil)) fun H3 e3 => ?_
      refine q_asg (inR (wv := w2) (by omega) (ev_var rfl) (ea_cons (ev_var rfl) ea_nil)) fun H4 e4 => ?_
      have hlen := turnsTo_len w1 w2 i
      refine s_when (et_or (et_B (ev_var rfl)) fun _ => et_B (ev_var rfl)) (fun hb H5 e5 => ?_) (fun hb H5 e5 => ?_)
      · refine s_if (b := (decide (i ∈ ris w1) && decide (i ∈ ris w2)) || !(decide (i ∈ ris w1) == !(turnsTo w1 w2 i).2)) (et_or (et_and (et_B (ev_var rfl)) fun _ => et_B (ev_var rfl)) fun _ => et_is (et_test (ev_op (ev_var rfl) (ev_op (ev_var rfl) ev_c (rv_eq rfl)) (rv_ne rfl))) (by rw [b01_is0, dec_bl])) (fun hb2 H6 e6 => ?_) (fun hb2 H6 e6 => ?_)
        · refine s_app (e6 _ _ (e5 _ _ (e4 _ _ (e3 _ _ hmv)))) (ev_var rfl) (ev_var rfl) (by rw [niv_len]; omega) fun H7 e7 => ?_
          have hst : turnsTo w1 w2 (i + 1) = ((turnsTo w1 w2 i).1 ++ [i], (turnsTo w1 w2 i).2) := by
            rw [turnsTo_succ, turnStep, if_pos hb, if_pos hb2]
          refine ⟨some (.int (i : Int)), some (.bl (decide (i ∈ ris w1))), some (.bl (decide (i ∈ ris w2))), ?_, Ex.mut (((((e.trans e3).trans e4).trans e5).trans e6).trans e7) hm, ?_⟩
          · rw [hst]; rfl
          · rw [upd_same, hst, niv_app]; rfl
        · refine s_asg (ev_op ev_c (ev_var rfl) rv_I0) fun H7 e7 => ?_
          have hst : turnsTo w1 w2 (i + 1) = ((turnsTo w1 w2 i).1, !(turnsTo w1 w2 i).2) := by
            rw [turnsTo_succ, turnStep, if_pos hb, if_neg (by rw [hb2]; exact Bool.false_ne_true)]
          refine ⟨some (.int (i : Int)), some (.bl (decide (i ∈ ris w1))), some (.bl (decide (i ∈ ris w2))), ?_, ((((e.trans e3).trans e4).trans e5).trans e6).trans e7, ?_⟩
          · rw [hst, ← b01_flip]; rfl
          · rw [hst]; exact e7 _ _ (e6 _ _ (e5 _ _ (e4 _ _ (e3 _ _ hmv))))
      · have hst : turnsTo w1 w2 (i + 1) = turnsTo w1 w2 i := by
          rw [turnsTo_succ, turnStep, if_neg (by rw [hb]; exact Bool.false_ne_true)]
        exact ⟨some (.int (i : Int)), some (.bl (decide (i ∈ ris w1))), some (.bl (decide (i ∈ ris w2))), by rw [hst]; rfl, ((e.trans e3).trans e4).trans e5, by rw [hst]; exact e5 _ _ (e4 _ _ (e3 _ _ hmv))⟩
    · obtain ⟨k4, k5, k6, rfl, e, hmv⟩ := hP
      refine s_ret (ev_var rfl) fun H3 e3 => q m H3 hm (e.trans e3) (e3 _ _ ?_)
      rw [hmv, Int.toNat_natCast]
      rfl
theorem ev_wave {σ : L2.St} {ta : TA} {d : Addr} {w1 w2 : List Lv} {b : Bool} (h : EvA ta σ H [.ref d, .str (nm b)]) (hd : Rd H d (dsheet (sh w1 w2))) : Ev (tCall spWaveOf [] E0 ta) σ H (.str (tx (sel w1 w2 b))) :=
  ev_call (vs := [.ref d, .str (nm b)]) h fun H1 e Q q _ => ⟨d, sh w1 w2, nm b, _, rfl, ex_rd e hd, get_sel w1 w2 b, q⟩
theorem ok_failures (T : Tx mg) (H_wave_of : Has P w K mg base CX0 1 "wave_of" ["sheet", "name"] spWaveOf) (H_never_both : Has P w K mg base CX0 1 "never_both" ["one", "other"] spNever)
    (H_not_after : Has P w K mg base CX0 3 "not_after" ["one", "other", "low", "high"] spAfter) (H_too_short : Has P w K mg base CX0 3 "too_short" ["wave", "level", "many"] spShort)
    (H_not_still : Has P w K mg base CX0 2 "not_still" ["one", "other"] spStill) (H_out_of_turn : Has P w K mg base CX0 3 "out_of_turn" ["one", "other"] spTurns)
    {f : Addr} {fd : FuncData} (F : Fun K "failures" "failures" s_failures f fd) : FnOk P w K mg base CX0 4 f fd ["sheet", "rule"] (spFail K) := by
  refine F.ok sc_failures (fun vs H Q E h => ?_) (fun cdv A outer s H vs Q E hr h => ?_)
  · obtain ⟨d, r, w1, w2, rl, rfl, _⟩ := h
    rfl
  · obtain ⟨d, r, w1, w2, rl, rfl, hd, hrl, ⟨hl1, hl, hll⟩, q⟩ := h
    have nd := sc_failures.nd
    refine ⟨_, (pss_cons (ps_set (i := 2) nd rfl (by first | exact .inl rfl | exact .inr rfl) (pe_ix ix_tup (pv 1) pe_int (fun _ _ => rfl)))
      (pss_cons (ps_set (i := 3) nd rfl (by first | exact .inl rfl | exact .inr rfl) (pe_callH H_wave_of hr (pa_cons (pv 0) (pa_cons (pe_ix ix_tup (pv 1) pe_int (fun _ _ => rfl)) pa_nil))))
      (pss_cons (ps_if (pt_cmpR op_eq (pv 2) pe_str (nomark _)) (pss_one (ps_ret (pe_callH H_too_short hr (pa_cons (pv 3) (pa_cons (pe_ix ix_tup (pv 1) pe_int (fun _ _ => rfl)) (pa_cons (pe_ix ix_tup (pv 1) pe_int (fun _ _ => rfl)) pa_nil)))))) pss_nil)
      (pss_cons (ps_set (i := 4) nd rfl (by first | exact .inl rfl | exact .inr rfl) (pe_callH H_wave_of hr (pa_cons (pv 0) (pa_cons (pe_ix ix_tup (pv 1) pe_int (fun _ _ => rfl)) pa_nil))))
      (pss_cons (ps_if (pt_cmpR op_eq (pv 2) pe_str (nomark _)) (pss_one (ps_ret (pe_callH H_never_both hr (pa_cons (pv 3) (pa_cons (pv 4) pa_nil))))) pss_nil)
      (pss_cons (ps_if (pt_cmpR op_eq (pv 2) pe_str (nomark _)) (pss_one (ps_ret (pe_callH H_not_after hr (pa_cons (pv 3) (pa_cons (pv 4) (pa_cons (pe_ix ix_tup (pv 1) pe_int (fun _ _ => rfl)) (pa_cons (pe_ix ix_tup (pv 1) pe_int (fun _ _ => rfl)) pa_nil))))))) pss_nil)
      (pss_cons (ps_if (pt_cmpR op_eq (pv 2) pe_str (nomark _)) (pss_one (ps_ret (pe_callH H_not_still hr (pa_cons (pv 3) (pa_cons (pv 4) pa_nil))))) pss_nil)
      (pss_one (ps_ret (pe_callH H_out_of_turn hr (pa_cons (pv 3) (pa_cons (pv 4) pa_nil)))))))))))), ?_⟩
    have rx : ∀ {σ3 : L2.St} {Ha : Hp} {j : Nat} {v : V}, Ex H Ha → σ3[1]? = some (some (.ref r)) → (rlV rl)[j]? = some v → Ev (tOp (rIxT K) (tVar 1) (tC (.int (j : Int)))) σ3 Ha v := fun e hσ hj => ev_op (ev_var hσ) ev_c (rv_ixT (ex_t e hrl) (atI_nat hj))
    have s1 := fun b => sel_len hll b
    cases rl with
    | never i j =>
      refine q_asg (rx (j := 0) (Ex.refl H) rfl rfl) fun H1 e1' => ?_
      refine q_asg (ev_wave (b := i) (ea_cons (ev_var rfl) (ea_cons (rx (j := 1) e1' rfl rfl) ea_nil)) (ex_rd e1' hd)) fun H2 e2 => ?_
      refine q_when (b := false) (et_is (et_test (ev_op (ev_var rfl) ev_c (rv_eq rfl))) (by decide +kernel)) (fun hb => absurd hb (by decide)) fun _ H3 e3 => ?_
      have e03 := (e1'.trans e2).trans e3
      refine q_asg (ev_wave (b := j) (ea_cons (ev_var rfl) (ea_cons (rx (j := 2) e03 rfl rfl) ea_nil)) (ex_rd e03 hd)) fun H4 e4 => ?_
      refine q_when (b := true) (et_is (et_test (ev_op (ev_var rfl) ev_c (rv_eq rfl))) (by decide +kernel)) (fun _ H5 e5 => ?_) (fun hb => absurd hb (by decide))
      refine s_retL (el_call (vs := [_, _]) (ea_cons (ev_var rfl) (ea_cons (ev_var rfl) ea_nil)) fun H6 _ Q' q' _ => ⟨_, _, rfl, ⟨by rw [s1]; exact hl, by rw [s1, s1]⟩, q'⟩) fun p H6 hp e6 h6 => q p H6 (fresh_back ((e03.trans e4).trans e5) hp) (((e03.trans e4).trans e5).trans e6) h6
    | after i j lo hi =>
      refine q_asg (rx (j := 0) (Ex.refl H) rfl rfl) fun H1 e1' => ?_
      refine q_asg (ev_wave (b := i) (ea_cons (ev_var rfl) (ea_cons (rx (j := 1) e1' rfl rfl) ea_nil)) (ex_rd e1' hd)) fun H2 e2 => ?_
      refine q_when (b := false) (et_is (et_test (ev_op (ev_var rfl) ev_c (rv_eq rfl))) (by decide +kernel)) (fun hb => absurd hb (by decide)) fun _ H3 e3 => ?_
      have e03 := (e1'.trans e2).trans e3
      refine q_asg (ev_wave (b := j) (ea_cons (ev_var rfl) (ea_cons (rx (j := 2) e03 rfl rfl) ea_nil)) (ex_rd e03 hd)) fun H4 e4 => ?_
      refine q_when (b := false) (et_is (et_test (ev_op (ev_var rfl) ev_c (rv_eq rfl))) (by decide +kernel)) (fun hb => absurd hb (by decide)) fun _ H5 e5 => ?_
      refine q_when (b := true) (et_is (et_test (ev_op (ev_var rfl) ev_c (rv_eq rfl))) (by decide +kernel)) (fun _ H6 e6 => ?_) (fun hb => absurd hb (by decide))
      have e06 := ((e03.trans e4).trans e5).trans e6
      refine s_retL (el_call (vs := [_, _, _, _]) (ea_cons (ev_var rfl) (ea_cons (ev_var rfl) (ea_cons (rx (j := 3) e06 rfl rfl) (ea_cons (rx (j := 4) e06 rfl rfl) ea_nil)))) fun H7 _ Q' q' _ => ⟨_, _, lo, hi, rfl, ⟨by rw [s1]; exact hl, by rw [s1, s1]⟩, q'⟩) fun p H7 hp e7 h7 => q p H7 (fresh_back e06 hp) (e06.trans e7) h7
    | long i a m =>
      refine q_asg (rx (j := 0) (Ex.refl H) rfl rfl) fun H1 e1' => ?_
      refine q_asg (ev_wave (b := i) (ea_cons (ev_var rfl) (ea_cons (rx (j := 1) e1' rfl rfl) ea_nil)) (ex_rd e1' hd)) fun H2 e2 => ?_
      refine q_when (b := true) (et_is (et_test (ev_op (ev_var rfl) ev_c (rv_eq rfl))) (by decide +kernel)) (fun _ H3 e3 => ?_) (fun hb => absurd hb (by decide))
      have e03 := (e1'.trans e2).trans e3
      refine s_retL (el_call (vs := [_, _, _]) (ea_cons (ev_var rfl) (ea_cons (rx (j := 2) e03 rfl rfl) (ea_cons (rx (j := 3) e03 rfl rfl) ea_nil))) fun H7 _ Q' q' _ => ⟨_, a, m, rfl, ⟨by rw [s1]; exact hl1, by rw [s1]; exact hl⟩, q'⟩) fun p H7 hp e7 h7 => q p H7 (fresh_back e03 hp) (e03.trans e7) h7
    | still i j =>
      refine q_asg (rx (j := 0) (Ex.refl H) rfl rfl) fun H1 e1' => ?_
      refine q_asg (ev_wave (b := i) (ea_cons (ev_var rfl) (ea_cons (rx (j := 1) e1' rfl rfl) ea_nil)) (ex_rd e1' hd)) fun H2 e2 => ?_
      refine q_when (b := false) (et_is (et_test (ev_op (ev_var rfl) ev_c (rv_eq rfl))) (by decide +kernel)) (fun hb => absurd hb (by decide)) fun _ H3 e3 => ?_
      have e03 := (e1'.trans e2).trans e3
      refine q_asg (ev_wave (b := j) (ea_cons (ev_var rfl) (ea_cons (rx (j := 2) e03 rfl rfl) ea_nil)) (ex_rd e03 hd)) fun H4 e4 => ?_
      refine q_when (b := false) (et_is (et_test (ev_op (ev_var rfl) ev_c (rv_eq rfl))) (by decide +kernel)) (fun hb => absurd hb (by decide)) fun _ H5 e5 => ?_
      refine q_when (b := false) (et_is (et_test (ev_op (ev_var rfl) ev_c (rv_eq rfl))) (by decide +kernel)) (fun hb => absurd hb (by decide)) fun _ H6 e6 => ?_
      refine q_when (b := true) (et_is (et_test (ev_op (ev_var rfl) ev_c (rv_eq rfl))) (by decide +kernel)) (fun _ H7 e7 => ?_) (fun hb => absurd hb (by decide))
      have e07 := (((e03.trans e4).trans e5).trans e6).trans e7
      refine s_retL (el_call (vs := [_, _]) (ea_cons (ev_var rfl) (ea_cons (ev_var rfl) ea_nil)) fun H6 _ Q' q' _ => ⟨_, _, rfl, ⟨by rw [s1]; exact hl, by rw [s1, s1]⟩, q'⟩) fun p H6 hp e6 h6 => q p H6 (fresh_back e07 hp) (e07.trans e6) h6
    | turns i j =>
      refine q_asg (rx (j := 0) (Ex.refl H) rfl rfl) fun H1 e1' => ?_
      refine q_asg (ev_wave (b := i) (ea_cons (ev_var rfl) (ea_cons (rx (j := 1) e1' rfl rfl) ea_nil)) (ex_rd e1' hd)) fun H2 e2 => ?_
      refine q_when (b := false) (et_is (et_test (ev_op (ev_var rfl) ev_c (rv_eq rfl))) (by decide +kernel)) (fun hb => absurd hb (by decide)) fun _ H3 e3 => ?_
      have e03 := (e1'.trans e2).trans e3
      refine q_asg (ev_wave (b := j) (ea_cons (ev_var rfl) (ea_cons (rx (j := 2) e03 rfl rfl) ea_nil)) (ex_rd e03 hd)) fun H4 e4 => ?_
      refine q_when (b := false) (et_is (et_test (ev_op (ev_var rfl) ev_c (rv_eq rfl))) (by decide +kernel)) (fun hb => absurd hb (by decide)) fun _ H5 e5 => ?_
      refine q_when (b := false) (et_is (et_test (ev_op (ev_var rfl) ev_c (rv_eq rfl))) (by decide +kernel)) (fun hb => absurd hb (by decide)) fun _ H6 e6 => ?_
      refine q_when (b := false) (et_is (et_test (ev_op (ev_var rfl) ev_c (rv_eq rfl))) (by decide +kernel)) (fun hb => absurd hb (by decide)) fun _ H7 e7 => ?_
      have e07 := (((e03.trans e4).trans e5).trans e6).trans e7
      refine s_retL (el_call (vs := [_, _]) (ea_cons (ev_var rfl) (ea_cons (ev_var rfl) ea_nil)) fun H6 _ Q' q' _ => ⟨_, _, rfl, ⟨by rw [s1]; exact hl, by rw [s1, s1]⟩, q'⟩) fun p H6 hp e6 h6 => q p H6 (fresh_back e07 hp) (e07.trans e6) h6
end
end Kt

/-! Fg: look_unknown, verdict, sure_failures. -/
namespace Kt
open PySem PySem.Spec PyProof.Rows L2 Evl
/-! look_unknown: slots 0 sheet; cells  -/
abbrev s_look_unknown : Stmt := topS 28
abbrev N_look_unknown : List Str := ["sheet"]
theorem sc_look_unknown : FnScope N_look_unknown ["sheet"] (defScope s_look_unknown) := ⟨rfl, rfl, rfl, by decide +kernel, rfl, by decide +kernel, by decide +kernel⟩
/-! verdict: slots 0 sheet, 1 rule, 2 some, 3 known; cells rule -/
abbrev s_verdict : Stmt := topS 29
abbrev N_verdict : List Str := ["sheet", "rule", "some", "known"]
theorem sc_verdict : FnScope N_verdict ["sheet", "rule"] (defScope s_verdict) := ⟨rfl, rfl, rfl, by decide +kernel, rfl, by decide +kernel, by decide +kernel⟩
/-! sure_failures: slots 0 sheet, 1 rule, 2 rows, 3 known, 4 tick, 5 row; cells rows rule -/
abbrev s_sure_failures : Stmt := topS 30
abbrev N_sure_failures : List Str := ["sheet", "rule", "rows", "known", "tick", "row"]
theorem sc_sure_failures : FnScope N_sure_failures ["sheet", "rule"] (defScope s_sure_failures) := ⟨rfl, rfl, rfl, by decide +kernel, rfl, by decide +kernel, by decide +kernel⟩
/-! ### defs that raise -/
structure Tl (K : PySem.W.Frag) (mg : Str → Option Value) (C : Addr) : Prop where
  ex : PySem.W.excIn K C [.type "ValueError", .type "Exception", .type "BaseException", .type "object"] "ValueError.__new__" = true
  g : mg "TooLong" = some (.ref C)
  k : PySem.W.keepIn K (.ref C) = true
  sub : PySem.W.subIn K (.ref C) (.type "BaseException") = some true
  ty : PySem.W.typeIn K (.ref C) = some (.type "type")
section
variable {X : Cx} {W : WX} {k j : Nat} {x : Str} {ps : List Str} {sp : Sp} {e : Expr} {es : List Expr} {t : TA} {p pos : Pos}
theorem pe_callHX (tk : Takes X W) (h : Has X.prog X.w X.K X.mg X.base (L2.CX X.prog X.w) k x ps sp) (hr : Room j X.A) (ha : PA X (e :: es) t) (hk : k ≤ j := by decide) (hg : Gl X x := by rfl)
    (hdb : (x == ("__debug__" : Str)) = false := by decide) (he : starEach (e :: es) X.env = (false, eval e X.env) :: starEach es X.env := by rfl) (hpl : (backTo pos (starEach es X.env)).any (·.1) = false := by rfl) :
    PE X (.Call (.Name x p) (e :: es) [] pos) (tCallS sp (WE W) t) := by
  obtain ⟨f, fd, F, g, kp, b⟩ := h.ex
  exact pe_callS F (hr.mono hk) hg g kp b (fun σ => passAt tk σ) ha hdb he hpl
end
/-! ### mirrors -/
def unkN (w1 w2 : List Lv) : Nat := cx w1 + cx w2
def spLook (C : Addr) : Sp := fun vs H Q E => ∃ (d : Addr) (w1 w2 : List Lv), vs = [.ref d] ∧ H d = some (dsheet (sh w1 w2)) ∧ (unkN w1 w2 ≤ 6 → RetV .non H Q) ∧ (6 < unkN w1 w2 → ∀ H2, Ex H H2 → E (.ref C) none H2)
/-- the two waves of a sheet -/
def wA (s : Sh) : List Lv := (getW s nA).getD []
def wB (s : Sh) : List Lv := (getW s nB).getD []
/-- the failures in each known sheet -/
def failS (rl : Rl) (s : Sh) : List Nat := failM (wA s) (wB s) rl
def rowsM (w1 w2 : List Lv) (rl : Rl) : List (List Nat) := (sheetsOf w1 w2).map (failS rl)
def goodM (w1 w2 : List Lv) (rl : Rl) : List Sh := (sheetsOf w1 w2).filter fun s => (failS rl s).isEmpty
inductive Vd where | kept | broken | open_
  deriving DecidableEq
def vdS : Vd → Str
  | .kept => Str.ofString "kept"
  | .broken => Str.ofString "broken"
  | .open_ => Str.ofString "open"
def verdM (w1 w2 : List Lv) (rl : Rl) : Vd :=
  if (rowsM w1 w2 rl).all (fun r => r.isEmpty) then .kept else if (rowsM w1 w2 rl).any (fun r => r.isEmpty) then .open_ else .broken
def sureM (w1 w2 : List Lv) (rl : Rl) : List Nat := ((rowsM w1 w2 rl).headD []).filter fun t => (rowsM w1 w2 rl).all fun r => decide (t ∈ r)
def Pre (K : PySem.W.Frag) (vs : List V) (H : Hp) (w1 w2 : List Lv) (rl : Rl) : Prop := ∃ d r : Addr, vs = [.ref d, .ref r] ∧ H d = some (dsheet (sh w1 w2)) ∧ SqT K H r (rlV rl) ∧ (1 ≤ w1.length ∧ w1.length ≤ 12 ∧ w2.length = w1.length)
def spVerd (K : PySem.W.Frag) (C : Addr) : Sp := fun vs H Q E => ∃ w1 w2 rl, Pre K vs H w1 w2 rl ∧ (unkN w1 w2 ≤ 6 → RetV (.str (vdS (verdM w1 w2 rl))) H Q) ∧ (6 < unkN w1 w2 → ∀ H2, Ex H H2 → E (.ref C) none H2)
def spSure (K : PySem.W.Frag) (C : Addr) : Sp := fun vs H Q E => ∃ w1 w2 rl, Pre K vs H w1 w2 rl ∧ (unkN w1 w2 ≤ 6 → RetL (niv (sureM w1 w2 rl)) H Q) ∧ (6 < unkN w1 w2 → ∀ H2, Ex H H2 → E (.ref C) none H2)
/-! what the known sheets are -/
theorem sheets_eq (w1 w2 : List Lv) : sheetsOf w1 w2 = (aks w1).flatMap fun v1 => (aks w2).map fun v2 => sh v1 v2 := by
  show extS (extS [[]] nA w1) nB w2 = _
  unfold extS ext1
  rw [List.flatMap_cons, List.flatMap_nil, List.append_nil, List.flatMap_map]
  rfl
theorem sheets_mem {w1 w2 : List Lv} {s : Sh} (h : s ∈ sheetsOf w1 w2) : ∃ v1 v2, s = sh v1 v2 ∧ v1 ∈ aks w1 ∧ v2 ∈ aks w2 := by
  rw [sheets_eq] at h
  obtain ⟨v1, h1, h⟩ := List.mem_flatMap.mp h
  obtain ⟨v2, h2, h⟩ := List.mem_map.mp h
  exact ⟨v1, v2, h.symm, h1, h2⟩
theorem sheets_len (w1 w2 : List Lv) : (sheetsOf w1 w2).length = 2 ^ unkN w1 w2 := by
  show (extS (extS [[]] nA w1) nB w2).length = _
  rw [extS_len, extS_len, unkN, Nat.pow_add]
  simp
theorem wA_sh (v1 v2 : List Lv) : wA (sh v1 v2) = v1 := by
  unfold wA
  rw [getA]
  rfl
theorem wB_sh (v1 v2 : List Lv) : wB (sh v1 v2) = v2 := by
  unfold wB
  rw [getB]
  rfl
theorem fail_len {w1 w2 : List Lv} (h : w2.length = w1.length) (rl : Rl) : (failM w1 w2 rl).length ≤ w1.length + 1 := by
  cases rl with
  | never i j =>
    refine Nat.le_succ_of_le (len_filter _ _ ?_)
    rw [List.length_range, sel_len h]
    exact Nat.le_refl _
  | after i j lo hi =>
    refine Nat.le_succ_of_le (len_filter _ _ ?_)
    exact Nat.le_trans (ris_len _) (Nat.le_of_eq (sel_len h i))
  | long i a m =>
    show (List.map _ _).length ≤ _
    rw [List.length_map]
    refine len_filter _ _ ?_
    rw [spn, List.length_map, List.length_zip, stt_len, nds_len, Nat.min_self]
    exact Nat.succ_le_succ (Nat.le_trans (chg_len _) (Nat.le_of_eq (sel_len h i)))
  | still i j =>
    show (List.map _ _).length ≤ _
    rw [List.length_map]
    exact Nat.le_succ_of_le (len_filter _ _ (Nat.le_trans (chg_len _) (Nat.le_of_eq (sel_len h i))))
  | turns i j => exact Nat.le_succ_of_le (Nat.le_trans (turnsTo_len _ _ _) (Nat.le_of_eq (sel_len h i)))
theorem rows_len {w1 w2 : List Lv} (h : w2.length = w1.length) {rl : Rl} {r : List Nat} (hr : r ∈ rowsM w1 w2 rl) : r.length ≤ w1.length + 1 := by
  obtain ⟨s, hs, rfl⟩ := List.mem_map.mp hr
  obtain ⟨v1, v2, rfl, h1, h2⟩ := sheets_mem hs
  have l1 := aks_mem_len v1 h1
  have l2 := aks_mem_len v2 h2
  rw [failS, wA_sh, wB_sh, ← l1]
  exact fail_len (by omega) rl
section
variable {P : Program} {w : World} {K : PySem.W.Frag} {mg : Str → Option Value} {base : Heap} {σ : L2.St} {H H' : Hp} {ta te : TE} {tr : TA}
theorem so_sheets {d : Addr} {w1 w2 : List Lv} (hd : H d = some (dsheet (sh w1 w2))) (hl : w1.length ≤ 12) (hll : w2.length = w1.length) (hx : unkN w1 w2 ≤ 6) : SpO spSheets ([.ref d] ++ []) H dsheet (sheetsOf w1 w2) := fun H1 e Q q _ =>
  ⟨d, w1, w2, rfl, e _ _ hd, ⟨hl, hll, by unfold unkN at hx; omega, by unfold unkN at hx; omega⟩, q⟩
/-- failures of a known sheet -/
theorem sl_fail {p r : Addr} {w1 w2 : List Lv} {rl : Rl} {s : Sh} (hs : s ∈ sheetsOf w1 w2) (hp : H p = some (dsheet s)) (hr : SqT K H r (rlV rl)) (h : 1 ≤ w1.length ∧ w1.length ≤ 12 ∧ w2.length = w1.length) :
    SpL (spFail K) ([.ref p, .ref r] ++ []) H (niv (failS rl s)) := fun H1 e Q q _ => by
  obtain ⟨v1, v2, rfl, h1, h2⟩ := sheets_mem hs
  have l1 := aks_mem_len v1 h1
  have l2 := aks_mem_len v2 h2
  refine ⟨p, r, v1, v2, rl, rfl, .inl (e _ _ hp), ex_t e hr, ⟨by omega, by omega, by omega⟩, ?_⟩
  rw [failS, wA_sh, wB_sh] at q
  exact q
theorem q_look {C : Addr} {d : Addr} {w1 w2 : List Lv} {W : WX} {D : Ends} {tz : TS} (hσ : σ[0]? = some (some (.ref d))) (hd : H d = some (dsheet (sh w1 w2))) (k1 : unkN w1 w2 ≤ 6 → ∀ H2, Ex H H2 → tz D σ H2) (k2 : 6 < unkN w1 w2 → ∀ H2, Ex H H2 → W (.ref C) none σ H2) :
    tSeq (tDrop (tCallS (spLook C) (WE W) (tCons (tVar 0) tNil))) tz D σ H :=
  (ea_cons (ev_var (i := 0) hσ) ea_nil) H (Ex.refl H) (fun vs H1 => spLook C vs H1 (fun _ H2 => tz D σ H2) (WE W σ)) fun H1 e1' => ⟨d, w1, w2, rfl, e1' _ _ hd, fun hx H2 e2 => k1 hx H2 (e1'.trans e2), fun hx H2 e2 => k2 hx H2 (e1'.trans e2)⟩
theorem ev_allV {a : Addr} {bs : List Bool} (h : Ev te σ H (.ref a)) (hx : SqL K H a (bs.map V.bl)) : Ev (tCB (rAll K) (tCons te tNil)) σ H (.bl (bs.all id)) := fun H1 e _ q =>
  h H1 e _ fun H2 e2 => ⟨a, bs, rfl, ex_l (e.trans e2) hx, q H2 e2⟩
theorem ev_anyV {a : Addr} {bs : List Bool} (h : Ev te σ H (.ref a)) (hx : SqL K H a (bs.map V.bl)) : Ev (tCB (rAny K) (tCons te tNil)) σ H (.bl (bs.any id)) := fun H1 e _ q =>
  h H1 e _ fun H2 e2 => ⟨a, bs, rfl, ex_l (e.trans e2) hx, q H2 e2⟩
theorem ev_allN {bs : List Bool} (h : EvL te σ H (bs.map V.bl)) : Ev (tCB (rAll K) (tCons te tNil)) σ H (.bl (bs.all id)) := fun H1 e _ q =>
  h H1 e _ fun a H2 _ e2 hx => ⟨a, bs, rfl, sq_of hx, q H2 e2⟩
/-- a list of lists of numbers -/
def lol (r : List Nat) : HO := .lst (niv r)
theorem ok_look_unknown (T : Tx mg) {C : Addr} (tl : Tl K mg C) (H_unknown_of : Has P w K mg base CX0 1 "unknown_of" ["sheet"] spUnk) {f : Addr} {fd : FuncData} (F : Fun K "look_unknown" "look_unknown" s_look_unknown f fd) : FnOk P w K mg base (L2.CX P w) 2 f fd ["sheet"] (spLook C) := by
  refine F.okX sc_look_unknown (fun vs H Q E h => ?_) (fun cdv A outer s H vs Q E hr h => ?_)
  · obtain ⟨d, w1, w2, rfl, _⟩ := h
    rfl
  · obtain ⟨d, w1, w2, rfl, hd, q1, q2⟩ := h
    have nd := sc_look_unknown.nd
    refine ⟨_, (pss_one (ps_if (pt_cmpR op_gt (pe_callH H_unknown_of hr (pa_cons (pv 0) pa_nil)) (pe_MU T.g_MOST_UNKNOWN) (nomark _)) (pss_one (ps_raise rfl (takes_of rfl rfl rfl rfl) (pmk_own PySem.F.excBase_ValueError tl.ex tl.g tl.k (raises_own tl.sub tl.ty) rfl))) pss_nil)), ?_⟩
    refine s_when (b := decide (6 < unkN w1 w2)) (et_is (et_test (ev_op (ev_call (vs := [.ref d]) (ea_cons (ev_var rfl) ea_nil) fun H1 e Q' q' _ => ⟨d, w1, w2, rfl, e _ _ hd, q'⟩) ev_c rv_I0)) (decide_eq_decide.mpr (by show (6 : Int) < ((unkN w1 w2 : Nat) : Int) ↔ _; omega))) (fun hb H1 e => ?_) (fun hb H1 e => ?_)
    · exact q2 (of_decide_eq_true hb) H1 e
    · exact q1 (by have := of_decide_eq_false hb; omega) H1 e
theorem ok_verdict (T : Tx mg) {C : Addr} (H_look_unknown : Has P w K mg base (L2.CX P w) 2 "look_unknown" ["sheet"] (spLook C)) (H_all_sheets : Has P w K mg base CX0 2 "all_sheets" ["sheet"] spSheets) (H_failures : Has P w K mg base CX0 4 "failures" ["sheet", "rule"] (spFail K))
    {f : Addr} {fd : FuncData} (F : Fun K "verdict" "verdict" s_verdict f fd) : FnOk P w K mg base (L2.CX P w) 5 f fd ["sheet", "rule"] (spVerd K C) := by
  refine F.okX sc_verdict (fun vs H Q E h => ?_) (fun cdv A outer s H vs Q E hr h => ?_)
  · obtain ⟨w1, w2, rl, ⟨d, r, rfl, _⟩, _⟩ := h
    rfl
  · obtain ⟨w1, w2, rl, ⟨d, r, rfl, hd, hrl, hl⟩, q1, q2⟩ := h
    have nd := sc_verdict.nd
    refine ⟨_, (pss_cons (ps_expr (pe_callHX (takes_of rfl rfl rfl rfl) H_look_unknown hr (pa_cons (pv 0) pa_nil))) (PSs.nox (pss_cons (ps_setLc (i := 2) (own := [("known", 3)]) (g := (gName 3)) rfl nd rfl rfl (sw_true rfl rfl rfl (by decide +kernel)) (pi_list (pe_callH H_all_sheets hr (pa_cons (pv 0) pa_nil))) (blkOk_by (own := [("known", 3)]) (N := N_verdict) (sc := defScope s_verdict) (by decide +kernel)) (fun _ _ _ _ _ => (pg_name (i := 3) nd rfl (by first | exact .inl rfl | exact .inr rfl))) (fun _ _ _ _ _ => pts_nil) (fun _ _ _ _ _ => (pe_cmpR (op_eq0K (K := K) rfl (hu64 hr)) (pe_callH H_failures hr (pa_cons (pv 3) (pa_cons (pv 1) pa_nil))) (pe_lst pa_nil) (nomark _))))
      (pss_cons (ps_if (pt_val (pe_callB (cr_all rfl) (by rfl) T.all (by decide +kernel) (pa_cons (pv 2) pa_nil))) (pss_one (ps_ret pe_str)) pss_nil)
      (pss_one (ps_ret (pe_ifExp (pt_val (pe_callB (cr_any rfl) (by rfl) T.any (by decide +kernel) (pa_cons (pv 2) pa_nil))) pe_str pe_str))))))), ?_⟩
    refine q_look (d := d) (w1 := w1) (w2 := w2) rfl hd (fun hx H2 e02 => ?_) q2
    have q := q1 hx
    have hsz := sheets_len w1 w2
    have h64 := pow6 hx
    refine q_asgL (el_lc0 (fun s => V.bl (failS rl s).isEmpty) (ei_O (eo_call (ea_cons (ev_var rfl) ea_nil) (so_sheets (e02 _ _ hd) hl.2.1 hl.2.2 hx))) (by omega) fun x v H3 hxm e3 hv => ?_) fun m H3 hm e3 h3 => ?_
    · obtain ⟨p, rfl, hp⟩ := hv
      refine ⟨_, tg_name, rfl, ev_is (ev_eq0 (el_call (vs := [.ref p, .ref r]) (ea_cons (ev_var rfl) (ea_cons (ev_var rfl) ea_nil)) (sl_fail hxm hp (ex_t (e02.trans e3) hrl) hl))) (congrArg V.bl (List.isEmpty_map))⟩
    · have hbs : (sheetsOf w1 w2).map (fun s => V.bl (failS rl s).isEmpty) = ((rowsM w1 w2 rl).map fun r => r.isEmpty).map V.bl := by
        rw [rowsM, List.map_map, List.map_map]
        rfl
      rw [hbs] at h3
      have hall : ((rowsM w1 w2 rl).map fun r => r.isEmpty).all id = (rowsM w1 w2 rl).all fun r => r.isEmpty := List.all_map
      have hany : ((rowsM w1 w2 rl).map fun r => r.isEmpty).any id = (rowsM w1 w2 rl).any fun r => r.isEmpty := List.any_map
      refine q_when (et_is (et_B (ev_allV (ev_var rfl) (sq_of h3))) hall) (fun hb H4 e4 => ?_) (fun hb H4 e4 => ?_)
      · refine s_ret ev_c fun H5 e5 => ?_
        have z : verdM w1 w2 rl = .kept := by rw [verdM, if_pos hb]
        rw [z] at q
        exact q H5 (((e02.trans e3).trans e4).trans e5)
      · have hb' : ¬ (rowsM w1 w2 rl).all (fun r => r.isEmpty) = true := by rw [hb]; exact Bool.false_ne_true
        refine s_ret (ev_if (et_is (et_B (ev_anyV (ev_var rfl) (sq_of (e4 _ _ h3)))) hany) (fun hc => ?_) (fun hc => ?_)) fun H5 e5 => q H5 (((e02.trans e3).trans e4).trans e5)
        · rw [verdM, if_neg hb', if_pos hc]
          exact ev_c
        · rw [verdM, if_neg hb', if_neg (by rw [hc]; exact Bool.false_ne_true)]
          exact ev_c
theorem ok_sure_failures (T : Tx mg) {C : Addr} (H_look_unknown : Has P w K mg base (L2.CX P w) 2 "look_unknown" ["sheet"] (spLook C)) (H_all_sheets : Has P w K mg base CX0 2 "all_sheets" ["sheet"] spSheets) (H_failures : Has P w K mg base CX0 4 "failures" ["sheet", "rule"] (spFail K))
    {f : Addr} {fd : FuncData} (F : Fun K "sure_failures" "sure_failures" s_sure_failures f fd) : FnOk P w K mg base (L2.CX P w) 5 f fd ["sheet", "rule"] (spSure K C) := by
  refine F.okX sc_sure_failures (fun vs H Q E h => ?_) (fun cdv A outer s H vs Q E hr h => ?_)
  · obtain ⟨w1, w2, rl, ⟨d, r, rfl, _⟩, _⟩ := h
    rfl
  · obtain ⟨w1, w2, rl, ⟨d, r, rfl, hd, hrl, hl⟩, q1, q2⟩ := h
    have nd := sc_sure_failures.nd
    refine ⟨_, (pss_cons (ps_expr (pe_callHX (takes_of rfl rfl rfl rfl) H_look_unknown hr (pa_cons (pv 0) pa_nil))) (PSs.nox (pss_cons (ps_set (i := 2) nd rfl (by first | exact .inl rfl | exact .inr rfl) (pe_lc (own := [("known", 3)]) (g := (gName 3)) rfl nd (pi_list (pe_callH H_all_sheets hr (pa_cons (pv 0) pa_nil))) (blkOk_by (own := [("known", 3)]) (N := N_sure_failures) (sc := defScope s_sure_failures) (by decide +kernel)) (fun _ _ _ _ _ => (pg_name (i := 3) nd rfl (by first | exact .inl rfl | exact .inr rfl))) (fun _ _ _ _ _ => pts_nil) (fun _ _ _ _ _ => (pe_callH H_failures hr (pa_cons (pv 3) (pa_cons (pv 1) pa_nil))))))
      (pss_one (ps_ret (pe_lc (own := [("tick", 4)]) (g := (gName 4)) rfl nd (pi_list (pe_ix ix_list (pv 2) pe_int (fun _ _ => rfl))) (blkOk_by (own := [("tick", 4)]) (N := N_sure_failures) (sc := defScope s_sure_failures) (by decide +kernel)) (fun _ _ _ _ _ => (pg_name (i := 4) nd rfl (by first | exact .inl rfl | exact .inr rfl))) (fun _ _ _ _ _ => (pts_one (pt_val (pe_callB (cr_allK (K := K) rfl rfl) (by rfl) T.all (by decide +kernel) (pa_cons (pe_lc (own := [("row", 5)]) (g := (gName 5)) rfl nd (pi_listK (K := K) rfl (pv 2)) (blkOk_by (own := [("row", 5)]) (N := N_sure_failures) (sc := relS _ (defScope s_sure_failures)) (by decide +kernel)) (fun _ _ _ _ _ => (pg_name (i := 5) nd rfl (by first | exact .inl rfl | exact .inr rfl))) (fun _ _ _ _ _ => pts_nil) (fun _ _ _ _ _ => (pe_cmpR (op_in_seqK (K := K) rfl) (pv 4) (pv 5) (by rfl)))) pa_nil))))) (fun _ _ _ _ _ => (pv 4)))))))), ?_⟩
    refine q_look (d := d) (w1 := w1) (w2 := w2) rfl hd (fun hx H2 e02 => ?_) q2
    have q := q1 hx
    have hsz := sheets_len w1 w2
    have h64 := pow6 hx
    refine q_asgO (o := lol) (l := rowsM w1 w2 rl) (eo_lc0 (failS rl) lol (ei_O (eo_call (ea_cons (ev_var rfl) ea_nil) (so_sheets (e02 _ _ hd) hl.2.1 hl.2.2 hx))) (by omega) fun x v H3 hxm e3 hv => ?_) fun m L H3 hm e3 hL h3 ho => ?_
    · obtain ⟨p, rfl, hp⟩ := hv
      exact ⟨_, tg_name, rfl, evN_L (el_call (vs := [.ref p, .ref r]) (ea_cons (ev_var rfl) (ea_cons (ev_var rfl) ea_nil)) (sl_fail hxm hp (ex_t (e02.trans e3) hrl) hl))⟩
    · have hrl2 : (rowsM w1 w2 rl).length = 2 ^ unkN w1 w2 := by rw [rowsM, List.length_map, hsz]
      have hpos : 0 < 2 ^ unkN w1 w2 := Nat.pow_pos (by decide)
      have hLl : L.length = 2 ^ unkN w1 w2 := by rw [← hrl2, ← hL, List.length_map]
      obtain ⟨u, hu⟩ := lt_get (l := L) (i := 0) (by omega)
      have hr0 : (rowsM w1 w2 rl).headD [] = u.2 := by
        rw [← hL, List.headD_eq_head?_getD, List.head?_map, List.head?_eq_getElem?, hu]
        rfl
      have hu3 := ho.mono_get hu
      have hur : u.2.length ≤ 1000 := by
        have hum : u.2 ∈ rowsM w1 w2 rl := by rw [← hL]; exact List.mem_map.mpr ⟨u, List.mem_of_getElem? hu, rfl⟩
        exact Nat.le_trans (rows_len hl.2.2 hum) (by omega)
      refine s_retL (el_lc (fun t => (rowsM w1 w2 rl).all fun r => decide (t ∈ r)) (fun (t : Nat) => V.int (t : Int)) (ei_L (l := u.2) (φ := fun (t : Nat) => V.int (t : Int)) (ev_op (ev_var rfl) ev_c (rv_ixL (sq_of h3) (atI_nat (j := 0) (by rw [refs, List.getElem?_map, hu]; rfl)))) (sq_of hu3)) (by omega) fun t v H4 ht e4 hv => ?_) fun p H4 hp e4 h4 => q p H4 (fresh_back (e02.trans e3) hp) ((e02.trans e3).trans e4) (by rw [h4, sureM, hr0]; rfl)
      subst hv
      refine ⟨_, tg_name, rfl, ?_, fun _ => ev_var rfl⟩
      have hbs : (rowsM w1 w2 rl).all (fun r => decide (t ∈ r)) = (L.map fun q => decide (t ∈ q.2)).all id := by
        rw [← hL, List.all_map, List.all_map]
        rfl
      rw [hbs]
      refine et_B (ev_allN (evL_is (xs := L.map fun q => V.bl (decide (t ∈ q.2))) (el_lc0 (fun q : Addr × List Nat => V.bl (decide (t ∈ q.2))) (ei_L (l := L) (φ := fun q => V.ref q.1) (ev_var rfl) (sq_of (e4 _ _ h3))) (by omega) fun x v H5 hxm e5 hv => ?_) (by rw [List.map_map]; rfl)))
      subst hv
      refine ⟨_, tg_name, rfl, ev_op (ev_var rfl) (ev_var rfl) ?_⟩
      rw [← niv_in]
      exact rv_isL (sq_of (e5 _ _ (e4 _ _ (ho x hxm)))) rfl (niv_flat _)
end
end Kt

/-! Ks: set(texts), sorted of it. -/
namespace Kt
open PySem PySem.Spec PyProof.Rows L2 Evl

def keyT (e : Int × Value) : Str := match e.2 with | .str k _ => k | _ => Str.empty
def GoodT (w : World) (e : Int × Value) : Prop := ∃ k u, e.2 = Value.str k u ∧ e.1 = hashStr w k
abbrev oSet0 (w : World) : Obj := { cls := .type "set", dict := none, data := .set #[] 0 (.fresh 0 0 (!w.params.followText "set-order")) }
/-- the set of texts at a: S tells of its members -/
def TxR (w : World) (h : Heap) (a : Addr) (S : Str → Bool) (n : Nat) : Prop :=
  ∃ o es ep t, h.get? a = some o ∧ o.ExactSet ∧ o.data = .set es ep t ∧ (∀ e ∈ es.toList, GoodT w e) ∧ (es.toList.map keyT).Nodup ∧ (∀ k, S k = true ↔ k ∈ es.toList.map keyT) ∧
    es.size < scanBound ∧ t.fits es.size = true ∧ es.size = n ∧ Ris t.place.toList ∧ (w.params.followText "set-order" = true ∨ t.led = true)
section
variable {P : Program} {w : World} {h h' : Heap} {a : Addr} {S : Str → Bool} {n : Nat}
theorem TxR.at (R : TxR w h a S n) (k : ∀ o, h.get? a = some o → h'.get? a = some o) : TxR w h' a S n := by
  obtain ⟨o, es, ep, t, ho, r⟩ := R
  exact ⟨o, es, ep, t, k o ho, r⟩
theorem TxR.congr {S' : Str → Bool} (R : TxR w h a S n) (e : ∀ k, S' k = S k) : TxR w h a S' n := by
  rw [show S' = S from funext e]
  exact R
theorem goodT_elems {l : List (Int × Value)} (g : ∀ e ∈ l, GoodT w e) : ElemsOf (PySem.strKind P w) l := fun e he => by
  obtain ⟨k, u, h1, h2⟩ := g e he
  exact ⟨⟨k, by rw [h1]; exact strKind_is P w k u, h2⟩, by rw [h1] <;> rfl⟩
theorem goodT_is {e : Int × Value} (g : GoodT w e) (k : Str) : (PySem.strKind P w).is k e.2 = true ↔ keyT e = k := by
  obtain ⟨k0, u, h1, _⟩ := g
  unfold keyT
  rw [h1]
  constructor
  · intro z
    exact ((PySem.strKind P w).inj (.str k0 u) k k0 z (strKind_is P w k0 u)).symm
  · intro z
    rw [← z]
    exact strKind_is P w k0 u
theorem goodT_mem {l : List (Int × Value)} (g : ∀ e ∈ l, GoodT w e) (k : Str) : k ∈ l.map keyT ↔ ∃ e ∈ l, (PySem.strKind P w).is k e.2 = true := by
  rw [List.mem_map]
  exact ⟨fun ⟨e, he, q⟩ => ⟨e, he, (goodT_is (g e he) k).2 q⟩, fun ⟨e, he, q⟩ => ⟨e, he, (goodT_is (g e he) k).1 q⟩⟩
end
section
variable {P : Program} {w : World} {A : Around} {E : Value → Shared → Prop} {s : Shared} {a : Addr} {S : Str → Bool} {n : Nat}
theorem txR_tail {g : Bool → Sem Unit} (hg : ∀ (b : Bool) (s₁ : Shared) (Q' : Unit → Shared → Prop), Q' () s₁ → wpAny (model P w) A (g b) Q' E s₁)
    {o : Obj} {es : Array (Int × Value)} {ep : Nat} {t : SetTable} (ho : s.heap.get? a = some o) (hex : o.ExactSet) (hd : o.data = .set es ep t)
    {es1 : Array (Int × Value)} {t2 : SetTable} {S' : Str → Bool} (g1 : ∀ e ∈ es1.toList, GoodT w e) (nd1 : (es1.toList.map keyT).Nodup) (m1 : ∀ k, S' k = true ↔ k ∈ es1.toList.map keyT)
    (hb1 : es1.size < scanBound) (hf2 : t2.fits es1.size = true) (hr : Ris t2.place.toList) (hl : w.params.followText "set-order" = true ∨ t2.led = true) {wasDummy : Bool} {R : Option Bool → Shared → Prop}
    (hR : ∀ h', Heap.SameBut a s.heap h' → TxR w h' a S' es1.size → R (some true) { s with heap := h' }) :
    wpAny (model P w) A (do
        storeSet a es1 t2
        if (!wasDummy && t2.tooFull) = true then do
            g (relayAll t2 es1 (SetTable.grown es1.size)).2.2
            storeSet a (relayAll t2 es1 (SetTable.grown es1.size)).1 (relayAll t2 es1 (SetTable.grown es1.size)).2.1
            pure (some true)
          else pure (some true)) R E s := by
  refine wpAny_bind (wpAny_storeSet_of ho hd ?_ (fits_of_scanBound hb1))
  have hob := store_at (es' := es1) (t' := t2) ho hd
  have sbA := Heap.SameBut.update s.heap a (Obj.putSet es1 t2)
  split
  · have pmA := relayAll_perm t2 es1 (SetTable.grown es1.size)
    have fA := relayAll_fits t2 es1 (SetTable.grown es1.size)
    have rA := relayAll_ris t2 es1 (SetTable.grown es1.size)
    have lA := relayAll_led t2 es1 (SetTable.grown es1.size)
    generalize relayAll t2 es1 (SetTable.grown es1.size) = Z at pmA fA rA lA ⊢
    obtain ⟨esB, tB, gave⟩ := Z
    dsimp only at pmA fA rA lA ⊢
    have hszB : esB.size = es1.size := by rw [← Array.length_toList, pmA.length_eq, Array.length_toList]
    have hbB : esB.size < scanBound := by rw [hszB]; exact hb1
    refine wpAny_bind (hg _ _ _ ?_)
    refine wpAny_bind (wpAny_storeSet_of hob rfl ?_ (fits_of_scanBound hbB))
    have hob2 := store_at (es' := esB) (t' := tB) hob rfl
    refine wpAny_pure (hR _ (sbA.trans (Heap.SameBut.update _ a _)) ⟨_, esB, _, tB, hob2, hex, rfl, fun e he => g1 e (pmA.mem_iff.mp he), (pmA.map keyT).nodup_iff.mpr nd1,
      fun k => (m1 k).trans (pmA.map keyT).mem_iff.symm, hbB, fA, hszB, rA, hl.imp id fun z => by rw [lA]; exact z⟩)
  · exact wpAny_pure (hR _ sbA ⟨_, es1, _, t2, hob, hex, rfl, g1, nd1, m1, hb1, hf2, rfl, hr, hl⟩)

theorem txR_add {k : Str} {u : Tok} {Q : Bool → Shared → Prop} (R : TxR w s.heap a S n) (room : n + 1 < scanBound)
    (hQ : ∀ h', Heap.SameBut a s.heap h' → TxR w h' a (fun j => S j || decide (j = k)) (if S k = true then n else n + 1) → Q (!S k) { s with heap := h' }) :
    wpAny (model P w) A (setAddHashed a (.str k u) ((PySem.strKind P w).hash k)) Q E s := by
  obtain ⟨o, es, ep, t, ho, hex, hd, g, nd, hm, hb, hf, hn, hr, hl⟩ := R
  have hkey : (PySem.strKind P w).is k (.str k u) = true := strKind_is P w k u
  have hsc : (Value.str k u).scannable = true := rfl
  have hel : ElemsOf (PySem.strKind P w) es.toList := goodT_elems g
  unfold setAddHashed setAddHashedIn
  refine wpAny_holding (wpAny_bind (wpAny_setState_of ho hd hf ?_))
  dsimp only
  rw [byScan_of hsc hb hel]
  simp only [↓reduceIte]
  unfold setAddByScan
  refine wpAny_bind ?_
  refine wpAny_bind (wpAny_rule ?_)
  refine wpAny_bind (wpAny_setScan_of hkey ho hd hf hel ?_)
  cases hfi : List.findIdx? (fun e => (PySem.strKind P w).is k e.2) es.toList with
  | some j =>
    dsimp only
    obtain ⟨hj, pj, _⟩ := List.findIdx?_eq_some_iff_getElem.mp hfi
    have hSk : S k = true := (hm k).2 ((goodT_mem (P := P) (w := w) g k).2 ⟨es.toList[j], List.getElem_mem hj, pj⟩)
    refine wpAny_pure (wpAny_pure ?_)
    have z := hQ s.heap (Heap.SameBut.refl a s.heap) ⟨o, es, ep, t, ho, hex, hd, g, nd, fun i => by
      rw [Bool.or_eq_true, decide_eq_true_eq, ← hm i]
      exact ⟨fun z => z.elim id (fun e => e ▸ hSk), .inl⟩, hb, hf, by rw [if_pos hSk]; exact hn, hr, hl⟩
    rw [hSk] at z
    exact z
  | none =>
    dsimp only
    have hnk : k ∉ es.toList.map keyT := fun z => by
      obtain ⟨e, he, q⟩ := (goodT_mem (P := P) (w := w) g k).1 z
      exact absurd q (by rw [Bool.not_eq_true]; simpa using List.findIdx?_eq_none_iff.mp hfi e he)
    have hSk : S k = false := by
      cases q : S k with
      | false => rfl
      | true => exact absurd ((hm k).1 q) hnk
    have hgw : ∀ (b : Bool) {s₁ : Shared} {Q' : Unit → Shared → Prop}, Q' () s₁ → wpAny (model P w) A (match b with | true => rule "set.scan.the-table-gave-way" | false => pure ()) Q' E s₁ :=
      fun b s₁ Q' q => by cases b <;> first | exact wpAny_pure q | exact wpAny_rule q
    have pmA := layNew_perm t es ((PySem.strKind P w).hash k) (.str k u)
    have fA := layNew_fits t es ((PySem.strKind P w).hash k) (.str k u)
    have rA := layNew_ris t es ((PySem.strKind P w).hash k) (.str k u) hr
    have lA := layNew_led t es ((PySem.strKind P w).hash k) (.str k u)
    generalize layNew t es ((PySem.strKind P w).hash k) (.str k u) = Z at pmA fA rA lA ⊢
    obtain ⟨es1, t1, wasDummy, gave⟩ := Z
    dsimp only at pmA fA rA lA ⊢
    rw [Array.toList_push] at pmA
    have pc : es1.toList.Perm (((PySem.strKind P w).hash k, Value.str k u) :: es.toList) := pmA.trans (List.perm_append_singleton _ _)
    have pk : (es1.toList.map keyT).Perm (k :: es.toList.map keyT) := pc.map keyT
    have g1 : ∀ e ∈ es1.toList, GoodT w e := fun e he => by
      rcases List.mem_cons.mp (pc.mem_iff.mp he) with z | z
      · rw [z]; exact ⟨k, u, rfl, rfl⟩
      · exact g e z
    have nd1 : (es1.toList.map keyT).Nodup := pk.nodup_iff.mpr (List.nodup_cons.mpr ⟨hnk, nd⟩)
    have m1 : ∀ i, (S i || decide (i = k)) = true ↔ i ∈ es1.toList.map keyT := fun i => by
      rw [Bool.or_eq_true, decide_eq_true_eq, hm i, pk.mem_iff, List.mem_cons]
      exact Or.comm
    have hszA : es1.size = n + 1 := by rw [← Array.length_toList, pc.length_eq, List.length_cons, Array.length_toList, hn]
    have hb1 : es1.size < scanBound := by rw [hszA]; exact room
    have hled : w.params.followText "set-order" = true ∨ t1.led = true := hl.imp id fun z => by rw [lA]; exact z
    have fin : ∀ h', Heap.SameBut a s.heap h' → TxR w h' a (fun j => S j || decide (j = k)) es1.size → Q true { s with heap := h' } := fun h' sb r => by
      have z := hQ h' sb
      rw [hSk] at z
      rw [hszA] at r
      exact z r
    refine wpAny_bind (hgw _ ?_)
    split
    · refine wpAny_bind ?_
      rw [hashByValue_scannable 8 hsc]
      refine wpAny_pure ?_
      refine txR_tail ?_ ho hex hd g1 nd1 m1 hb1 ?_ ?_ ?_ ?_
      · intro b s₁ Q' q; cases b <;> first | exact wpAny_pure q | exact wpAny_rule q
      · first | (split <;> first | exact fA | exact SetTable.fits_plain_off fA) | exact fA
      · first | (split <;> exact rA) | exact rA
      · first | (split <;> exact hled) | exact hled
      · intro h' sb r; dsimp only; exact wpAny_pure (fin h' sb r)
    · refine wpAny_bind (wpAny_pure ?_)
      simp only [↓reduceIte]
      refine txR_tail ?_ ho hex hd g1 nd1 m1 hb1 fA rA hled ?_
      · intro b s₁ Q' q; cases b <;> first | exact wpAny_pure q | exact wpAny_rule q
      · intro h' sb r; dsimp only; exact wpAny_pure (fin h' sb r)
theorem txR_new {h : Heap} {a : Addr} (ho : h.get? a = some (oSet0 w)) : TxR w h a (fun _ => false) 0 :=
  ⟨_, #[], 0, _, ho, ⟨rfl, rfl, rfl⟩, rfl, (fun e he => by simp at he), (by simp), (fun k => by simp), (by decide), (by rfl), rfl, List.Pairwise.nil, by
    show _ ∨ (!w.params.followText "set-order") = true
    cases w.params.followText "set-order" <;> simp⟩
theorem txLoop {I : Addr} {fp wr : List Addr} {G : Array GenState → Array GenState → Prop} {n : Nat} {Pv : Nat → Value → Prop} {St : Nat → Shared → Prop} {R : Result → Shared → Prop}
    (W : WalksS P w A.in1 I fp wr G n Pv St) (S : Addr) (hSf : S ∉ fp) (ns : List Str) (hn : n = ns.length) (hb : ns.length + 1 < scanBound) (hval : ∀ i v, Pv i v → ∃ k t, ns[i]? = some k ∧ v = .str k t) :
    ∀ (k i : Nat) (s : Shared), n - i = k → i ≤ n → St i s → (∃ c, c ≤ i ∧ TxR w s.heap S (fun j => decide (j ∈ ns.take i)) c) →
      (∀ s' c, Moved (S :: wr) G s s' → c ≤ n → TxR w s'.heap S (fun j => decide (j ∈ ns)) c → R (.ok (.ret .none)) s') →
      codeAny (model P w) A (.builtin "set.update.loop" ⟨[.ref S, .ref I], []⟩) R s := by
  have hSw : S ∉ wr := fun z => hSf (W.sub _ z)
  have hsub : ∀ b ∈ wr, b ∈ S :: wr := fun b z => List.mem_cons_of_mem _ z
  intro k
  induction k with
  | zero =>
    intro i s hk' hi hst ⟨c, hc, hS⟩ hR
    obtain rfl : i = n := by omega
    refine codeAny_builtin PyProof.Rows.F.entry_set_update_loop ?_
    rw [Around.under_plainId PyProof.Rows.F.plain_set_update_loop _]
    show wpAny _ A.in1 (pyNext (.ref I) >>= _) _ _ s
    refine wpAny_bind (W.done s _ _ hst fun s' hmv => ?_)
    show wpAny _ A.in1 (ret Value.none) _ _ s'
    rw [show ns.take i = ns from List.take_of_length_le (by omega)] at hS
    exact wpAny_pure (hR s' c (hmv.mono hsub) hc (hS.at fun o e => hmv.heap S o hSw e))
  | succ k ih =>
    intro i s hk' hi hst ⟨c, hc, hS⟩ hR
    have hlt : i < n := by omega
    refine codeAny_builtin PyProof.Rows.F.entry_set_update_loop ?_
    rw [Around.under_plainId PyProof.Rows.F.plain_set_update_loop _]
    show wpAny _ A.in1 (pyNext (.ref I) >>= _) _ _ s
    refine wpAny_bind (W.item i s _ _ hlt hst fun v s' hP hst' hmv => ?_)
    obtain ⟨z, t, hz, rfl⟩ := hval i v hP
    have hS' : TxR w s'.heap S (fun j => decide (j ∈ ns.take i)) c := hS.at fun o e => hmv.heap S o hSw e
    show wpAny _ A.in1 (holding [Value.str z t] (setAdd S (.str z t)) >>= _) _ _ s'
    refine wpAny_bind (wpAny_holding ?_)
    unfold setAdd
    refine wpAny_holding ?_
    refine wpAny_bind ((PySem.strKind P w).pyHash (k := z) (strKind_is _ _ _ _) ?_)
    refine txR_add (s := { s' with toks := s'.toks + 1 }) hS' (by omega) fun h' hsb hS2 => ?_
    have hS3 : TxR w h' S (fun j => decide (j ∈ ns.take (i + 1))) (if decide (z ∈ ns.take i) = true then c else c + 1) := hS2.congr fun j => by
      rw [List.take_add_one, hz]
      simp [List.mem_append]
    have hc3 : (if decide (z ∈ ns.take i) = true then c else c + 1) ≤ i + 1 := by
      split <;> omega
    refine wpAny_pure ⟨plainId_quiet PyProof.Rows.F.plain_set_update_loop _, ih (i + 1) _ (by omega) hlt (W.frame _ s' _ _ hst' (Nat.le_succ _) fun b hbf o e => ?_) ⟨_, hc3, hS3⟩ fun s'' c2 hmw hcw hSw2 => ?_⟩
    · rw [hsb.2 b (fun z : b = S => hSf (by rw [← z]; exact hbf))]; exact e
    · refine hR s'' c2 (Moved.trans W.gtrans ((hmv.mono hsub).then_heap (Nat.le_succ _) fun b o hbf e => ?_) hmw) hcw hSw2
      rw [hsb.2 b (fun z : b = S => hbf (by rw [z]; exact List.mem_cons_self))]; exact e
set_option maxHeartbeats 8000000 in
theorem call_setT {l : Addr} {items : Array Value} (ns : List Str) {Q : Value → Shared → Prop} (hh : A.handled = none) (hl : s.heap.IsList l items) (hit : PyProof.Rows.StrsAre items.toList ns) (hb : ns.length + 1 < scanBound)
    (h : ∀ (h' : Heap) (tk c : Nat), TxR w h' s.heap.objs.size (fun j => decide (j ∈ ns)) c → c ≤ ns.length → (∀ b o, s.heap.get? b = some o → h'.get? b = some o) → Q (.ref s.heap.objs.size) { s with heap := h', toks := tk }) :
    wpAny (model P w) A (call (.type "set") [.ref l]) Q E s := by
  have hisz : items.size = ns.length := by
    rw [← Array.length_toList]
    have q := congrArg List.length hit.strs
    rw [List.length_map] at q
    exact q
  obtain ⟨c, tl, hmro⟩ := PySem.F.called_set.mro
  have hmade := PySem.F.called_set.made
  have hsub := PySem.F.called_set.sub
  refine wpAny_call (codeAny_of_tree ?_)
  show wpAny _ _ (callAny (.type "set") _) _ _ _
  refine wpAny_pure ⟨Code.quiet_builtin _ (by decide +kernel), codeAny_builtin PySem.F.entry_type_call ?_⟩
  rw [Around.under_plain (weight_type_call_type "set" [.ref l] []) rfl]
  have h1 := PySem.F.called_set.notType
  have h2 := PySem.F.called_set.canCreate
  have hct := PySem.F.typeCall_set_1 (.ref l)
  repeat (any_goals (first | assumption | wp_step))
  refine codeAny_mono (code_set_led1 (.ref l) (E := E) (Q₁ := fun obj s₁ => obj = .ref s.heap.objs.size ∧ s₁ = { s with heap := s.heap.push (oSet0 w) }) ⟨rfl, rfl⟩) fun r s₁ hr => ?_
  cases r with
  | error e => exact hr
  | ok fl =>
    cases fl with
    | ret obj =>
      obtain ⟨rfl, rfl⟩ := hr
      have hS : (s.heap.push (oSet0 w)).get? s.heap.objs.size = some (oSet0 w) := Heap.get?_push_size _ rfl
      have hT : Shared.TypeIs { s with heap := s.heap.push (oSet0 w) } (.ref s.heap.objs.size) "set" := ⟨_, hS, rfl⟩
      have hli := PySem.F.called_set.init.lookup
      have hbi := PySem.F.called_set.init.bind (.ref s.heap.objs.size)
      repeat (any_goals (first | assumption | wp_step))
      refine codeAny_mono (codeAny_call_builtin (R := wants (fun r s₂ => r = .none ∧ ∃ h' tk c, s₂ = { s with heap := h', toks := tk } ∧ TxR w h' s.heap.objs.size (fun j => decide (j ∈ ns)) c ∧ c ≤ ns.length ∧
          (∀ b o, s.heap.get? b = some o → h'.get? b = some o)) E) PySem.F.called_set.init.plain PySem.F.entry_set_init (check_set_init_1 hT ?_)) fun r₂ s₂ hr₂ => ?_
      · obtain ⟨ol, hol, hcl, nl, hdl⟩ := hl
        obtain ⟨ocls, odict, odata, oslots⟩ := ol
        simp only at hcl hdl
        subst hcl; subst hdl
        have hol' : (s.heap.push (oSet0 w)).get? l = some { cls := .type "list", dict := odict, data := .seq items nl, slots := oslots } := Heap.get?_push_of_some _ hol
        have hsls := PySem.F.sub_list_set
        have hslf := PySem.F.sub_list_frozenset
        have hne : (Value.type "list" == Value.type "dict") = false := by decide
        have hl1 : (s.heap.push (oSet0 w)).IsList l items := ⟨_, hol', rfl, nl, rfl⟩
        unfold Builtin.«set.__init__» noKeywords Builtin.Frozenset.updateFrom
        generalize hPI : pyIter = PI
        wp_walk
        subst hPI
        refine wpAny_pyIter_list hl1 ?_
        refine wpAny_bind (wpAny_runValue ?_)
        have hlS : l < s.heap.objs.size := Heap.lt_size hol
        have hh3 : A.in1.in1.in1.handled = none := by simp [hh]
        have hneI : l ≠ (s.heap.push (oSet0 w)).objs.size := by
          rw [Heap.size_push]; exact Nat.ne_of_lt (Nat.lt_trans hlS (Nat.lt_succ_self _))
        have hSf : s.heap.objs.size ∉ [(s.heap.push (oSet0 w)).objs.size, l] := by
          rw [Heap.size_push]; simp only [List.mem_cons, List.mem_singleton, List.not_mem_nil, or_false, not_or]
          exact ⟨Nat.ne_of_lt (Nat.lt_succ_self _), Nat.ne_of_gt hlS⟩
        have hval : ∀ (i : Nat) (v : Value), items[i]? = some v → ∃ k t, ns[i]? = some k ∧ v = .str k t := fun i v hv => by
          have hi : i < ns.length := by rw [← hisz]; exact (Array.getElem?_eq_some_iff.mp hv).1
          obtain ⟨t, e⟩ := SS.strs_at hit i v (by rw [Array.getElem?_toList]; exact hv)
          refine ⟨ns[i], t, List.getElem?_eq_getElem hi, ?_⟩
          rw [e, List.getD_eq_getElem?_getD, List.getElem?_eq_getElem hi] <;> rfl
        refine txLoop ((Walks.list hh3 _ l hneI items).toS) s.heap.objs.size
          hSf ns hisz hb hval (items.size - 0) 0 _ (by omega) (Nat.zero_le _)
          ⟨⟨_, Heap.get?_push_size _ rfl, rfl, rfl⟩, (hl1.push _)⟩ ?hS0 ?hR
        case hS0 =>
          exact ⟨0, Nat.le_refl 0, txR_new (Heap.get?_push_of_some _ hS)⟩
        case hR =>
          intro s' c' hmv hc' hS'
          obtain ⟨h', g2, d', tk', os'⟩ := s'
          obtain rfl : g2 = s.gens := hmv.gens
          obtain rfl : d' = s.drawn := hmv.drawn
          obtain rfl : os' = s.os := hmv.os
          show wpAny _ _ _ _ _ _
          refine wpAny_pure ?_
          show wpAny _ _ (ret Value.none) _ _ _
          rw [hisz] at hc'
          refine wpAny_pure ⟨rfl, h', tk', c', rfl, hS', hc', fun b o e => ?_⟩
          have hb0 : b < s.heap.objs.size := Heap.lt_size e
          exact hmv.heap b o (by simp only [List.mem_cons, List.mem_singleton, List.not_mem_nil, or_false, not_or, Heap.size_push]; exact ⟨Nat.ne_of_lt hb0, Nat.ne_of_lt (Nat.lt_trans hb0 (Nat.lt_succ_self _))⟩) (Heap.get?_push_of_some _ (Heap.get?_push_of_some _ e))
      · cases r₂ with
        | error e => exact hr₂
        | ok fl₂ =>
          cases fl₂ with
          | ret r =>
            obtain ⟨rfl, h', tk, c', rfl, hS', hc', hk'⟩ := hr₂
            repeat (any_goals (first | assumption | wp_step))
            exact h _ _ _ hS' hc' hk'
          | _ => exact hr₂.elim
    | _ => exact hr.elim
theorem sorted_setT {S : Str → Bool} {n : Nat} {Q : Value → Shared → Prop} (R : TxR w s.heap a S n) (hh : A.handled = none) (h64 : n < 64)
    (hQ : ∀ s' p (out : Array Value) (c : Nat) (ns : List Str), (∀ b o, s.heap.get? b = some o → s'.heap.get? b = some o) → s'.gens = s.gens → s'.os = s.os → s.heap.objs.size ≤ p →
      s'.heap.get? p = some (seqObj "list" out c) → PyProof.Rows.StrsAre out.toList ns → sortedS ns = true → ns.Nodup → (∀ k, k ∈ ns ↔ S k = true) → ns.length = n → Q (.ref p) s') :
    wpAny (model P w) A (call (.builtin "sorted") [.ref a]) Q E s := by
  obtain ⟨o, es, ep, t, ho, hex, hd, g, nd, hm, hb, hf, hn, hr, hl⟩ := R
  refine Calls.call_function_entry kind_sorted plain_sorted entry_sorted (args_sorted1 _) ?_
  unfold Builtin.«sorted»
  refine wpAny_bind (m := checkCount "sorted" 1 1 _) (wpAny_pure ?_)
  refine wpAny_bind (collect_set (A := A.in1) hh ⟨o, ho, hex.1, hd⟩ hf hb hr hl fun s1 vs k1 hz g1 o1 pm => ?_)
  have hvl : vs.length = n := by rw [pm.length_eq, List.length_map, Array.length_toList]; exact hn
  have hI : PyProof.Rows.StrsAre vs (vs.map strOf) := strsAre_map vs fun v hv => by
    obtain ⟨e, he, q⟩ := List.mem_map.mp (pm.mem_iff.mp hv)
    obtain ⟨k, u, h1, _⟩ := g e he
    exact ⟨k, u, by rw [← q]; exact h1⟩
  have pk : (vs.map strOf).Perm (es.toList.map keyT) := by
    have q := pm.map strOf
    rw [List.map_map] at q
    exact q
  refine wpAny_bind (wpAny_newList ?_ (by rw [hvl, sizeLine_eq]; omega))
  have hoL : (s1.heap.push (seqObj "list" vs.toArray 0)).get? s1.heap.objs.size = some (seqObj "list" vs.toArray 0) := Heap.get?_push_size _ rfl
  refine wpAny_bind (wpAny_holding (wpAny_call_entry slot_list_sort ⟨_, hoL, rfl⟩ entry_list_sort
    (list_sort_treeK strKind_oneLt hoL hI.keysOf (fun v₁ v₂ rest e => keyKind_strs (by rw [← e]; exact hI)) (by rw [hvl]; exact h64) fun st' hp hs => ⟨_, rfl, ?_⟩) (args_list_sort _)))
  obtain ⟨ss', a1, a2, a3⟩ := sorted_out_str hI hp hs
  obtain ⟨c, hc⟩ := sortedHeap_at (vs := vs) (out := (arrOf st').map (·.2)) hoL
  have pn : ss'.Perm (es.toList.map keyT) := a2.trans pk
  refine wpAny_pure ⟨_, rfl, hQ _ s1.heap.objs.size _ c ss' (fun b u e => ?_) g1 o1 hz hc a1 a3 (pn.nodup_iff.mpr nd) (fun k => by rw [pn.mem_iff, ← hm k]) ?_⟩
  · have q := k1 b u e
    have hlt := Heap.lt_size q
    show (sortedHeap (s1.heap.push (seqObj "list" vs.toArray 0)) s1.heap.objs.size vs ((arrOf st').map (·.2))).get? b = some u
    rw [sortedHeap_old (Nat.ne_of_lt hlt) (by rw [size_push']; exact Nat.lt_succ_of_lt hlt)]
    exact Heap.get?_push_of_some _ q
  · rw [pn.length_eq, List.length_map, Array.length_toList]; exact hn
end
end Kt

/-! Ku: sorted(set(levels)), ''.join(levels). -/
namespace Kt
open PySem PySem.Spec PyProof.Rows L2 Evl
def StO (w : World) (a : Addr) (zs : List Str) : HO := .ext fun h => ∃ n, TxR w h a (fun j => decide (j ∈ zs)) n
def rSetT (K : PySem.W.Frag) (w : World) : List V → Hp → VK → Prop := fun vs H Q => ∃ (l : Addr) (zs : List Str), vs = [.ref l] ∧ SqL K H l (zs.map V.str) ∧ zs.length ≤ 1000 ∧ ∀ p, H p = none → Q (.ref p) (upd H p (StO w p zs))
def rSortZ (w : World) : List V → Hp → VK → Prop := fun vs H Q => ∃ (a : Addr) (zs : List Str), vs = [.ref a] ∧ H a = some (StO w a zs) ∧ (∀ ys : List Str, ys.Nodup → (∀ k ∈ ys, k ∈ zs) → ys.length < 64) ∧
  ∀ ys p, ys.Nodup → (∀ k, k ∈ ys ↔ k ∈ zs) → sortedS ys = true → H p = none → Q (.ref p) (upd H p (.lst (ys.map V.str)))
section
variable {X : Cx}
theorem stO_new {w : World} {P : Program} {H : Hp} {h : Heap} {a : Addr} {zs : List Str} {n : Nat} (R : TxR w h a (fun j => decide (j ∈ zs)) n) : ObjOk P w H h a (StO w a zs) := by
  have ⟨o, _, _, _, ho, _⟩ := R
  exact ⟨⟨n, R⟩, ⟨o, ho⟩, fun h1 h2 ⟨m, p⟩ k => ⟨m, p.at k⟩⟩
theorem vals_strs : ∀ {ys : List Str} {us : List Value}, StrsAre us ys → Vals (ys.map V.str) us
  | _, _, .nil => .nil
  | _, _, .cons y k r => .cons ⟨k, rfl⟩ (vals_strs r)
theorem cr_setS (hc : X.calm = true) : CallR X (.type "set") (rSetT X.K X.w) := by
  intro pins s σ H vs us Q I r h
  obtain ⟨l, zs, rfl, hs, hz, q⟩ := h
  obtain ⟨its, rv, hl, _⟩ := I.list hs
  rw [Vals.ref1 r]
  refine call_setT zs (I.ok.hd hc) hl.isList (strsAre_of rv) (by unfold scanBound; omega) fun h' tk c R _ k => ?_
  exact ⟨.ref _, upd H s.heap.objs.size (StO X.w s.heap.objs.size zs), I.laid (t' := tk) k (Nat.le_refl _) (stO_new R), rfl, q _ (I.hok.fresh (Nat.le_refl _))⟩
theorem cr_sortedZ (hc : X.calm = true) : CallR X (.builtin "sorted") (rSortZ X.w) := by
  intro pins s σ H vs us Q I r h
  obtain ⟨a, zs, rfl, ha, hfew, q⟩ := h
  obtain ⟨n, R⟩ : ∃ n, TxR X.w s.heap a (fun j => decide (j ∈ zs)) n := (I.hok a _ ha).1
  have h64 : n < 64 := by
    obtain ⟨o, es, ep, t, ho, hex, hd, g, nd, hm, hb, hf, hn, hr, hl⟩ := R
    have z := hfew (es.toList.map keyT) nd fun k hk => of_decide_eq_true ((hm k).mpr hk)
    rw [List.length_map, Array.length_toList, hn] at z
    exact z
  rw [Vals.ref1 r]
  refine sorted_setT R (I.ok.hd hc) h64 fun s' p out c ns k g o hp hg hi hs nd hm hl => ?_
  have hlen : (ns.map V.str).length ≤ sizeLine := by rw [List.length_map, hl, sizeLine_eq]; omega
  have hn : H p = none := I.hok.fresh hp
  have J : Inv X pins σ (upd H p (.lst (ns.map V.str))) { s with heap := s'.heap, gens := s'.gens, drawn := s'.drawn, toks := s'.toks } :=
    I.call (ch := []) (Un.laid k hp hn) (I.hok.laid k hp ⟨hlen, out.toList, c, vals_strs hi, hg⟩) (by rw [g]; exact I.bare) (fun _ z => nomatch z)
  have e : s' = { s with heap := s'.heap, gens := s'.gens, drawn := s'.drawn, toks := s'.toks } := by
    cases s'
    cases s
    cases o
    rfl
  rw [e]
  exact ⟨.ref p, _, J, rfl, q ns p nd (fun k => (hm k).trans decide_eq_true_iff) hs hn⟩
theorem cr_setSK {K : PySem.W.Frag} {w : World} (hc : X.calm = true) (h1 : X.K = K) (h2 : X.w = w) : CallR X (.type "set") (rSetT K w) := h1 ▸ h2 ▸ cr_setS hc
theorem cr_sortedZK {w : World} (hc : X.calm = true) (h2 : X.w = w) : CallR X (.builtin "sorted") (rSortZ w) := h2 ▸ cr_sortedZ hc
end
/-- the levels that stand in L -/
def lvls (L : List Lv) : List Lv := [Lv.z, Lv.o].filter fun a => decide (a ∈ L)
theorem sg_ne : sg .z ≠ sg .o := by decide +kernel
theorem sortedB : sortedS [sg .o, sg .z] = false := by decide +kernel
theorem nd2 {a b : Str} : ∀ {ys : List Str}, ys.Nodup → (∀ k ∈ ys, k = a ∨ k = b) → ys.length ≤ 2
  | [], _, _ => by decide
  | [_], _, _ => Nat.le_succ 1
  | [_, _], _, _ => Nat.le_refl 2
  | x :: y :: z :: r, nd, h => by
    exfalso
    have h1 := h x (by simp)
    have h2 := h y (by simp)
    have h3 := h z (by simp)
    simp only [List.nodup_cons, List.mem_cons, not_or] at nd
    obtain ⟨⟨n1, n2, _⟩, ⟨n3, _⟩, _⟩ := nd
    rcases h1 with rfl | rfl <;> rcases h2 with rfl | rfl <;> rcases h3 with rfl | rfl <;> contradiction
theorem sorted_lvls {L : List Lv} (hL : ∀ a ∈ L, a = .z ∨ a = .o) {ys : List Str} (nd : ys.Nodup) (hm : ∀ k, k ∈ ys ↔ k ∈ L.map sg) (hs : sortedS ys = true) : ys = (lvls L).map sg := by
  have hmem : ∀ k, k ∈ ys ↔ k ∈ (lvls L).map sg := fun k => by
    rw [hm k, List.mem_map, List.mem_map]
    unfold lvls
    constructor
    · rintro ⟨a, ha, rfl⟩
      refine ⟨a, List.mem_filter.mpr ⟨?_, decide_eq_true ha⟩, rfl⟩
      rcases hL a ha with rfl | rfl <;> simp
    · rintro ⟨a, ha, rfl⟩
      exact ⟨a, of_decide_eq_true (List.mem_filter.mp ha).2, rfl⟩
  have nd' : ((lvls L).map sg).Nodup := by
    unfold lvls
    by_cases h1 : Lv.z ∈ L <;> by_cases h2 : Lv.o ∈ L <;> simp [List.filter, h1, h2, sg_ne]
  have p : ys.Perm ((lvls L).map sg) := (List.perm_ext_iff_of_nodup nd nd').mpr hmem
  unfold lvls at p ⊢
  by_cases h1 : Lv.z ∈ L <;> by_cases h2 : Lv.o ∈ L <;> simp [List.filter, h1, h2] at p ⊢
  · match ys, p.length_eq with
    | [u, v], _ =>
      have hu : u = sg .z ∨ u = sg .o := by simpa using p.mem_iff.mp (List.mem_cons_self (a := u) (l := [v]))
      rcases hu with rfl | rfl
      · have e := List.Perm.cons_inv p
        rw [List.perm_singleton] at e
        rw [e]
      · have e : [v].Perm [sg .z] := List.Perm.cons_inv (a := sg .o) (p.trans (List.Perm.swap _ _ _))
        rw [List.perm_singleton] at e
        rw [e, sortedB] at hs
        cases hs
  · exact p
  · exact p
  · exact p
section
variable {K : PySem.W.Frag} {w : World} {σ : L2.St} {H : Hp} {ta te : TE}
theorem el_sortedSet {L : List Lv} (hL : ∀ a ∈ L, a = .z ∨ a = .o) (hn : L.length ≤ 1000) (h : EvL ta σ H (L.map fun a => V.str (sg a))) : EvL (tCB (rSortZ w) (tCons (tCB (rSetT K w) (tCons ta tNil)) tNil)) σ H ((lvls L).map fun a => V.str (sg a)) := fun H1 e Q q =>
  h H1 e _ fun l H2 hl e2 h2 => ⟨l, L.map sg, rfl, sq_of (by rw [h2, List.map_map]; rfl), by rw [List.length_map]; exact hn, fun p hp =>
    ⟨p, L.map sg, rfl, upd_same, fun ys nd hm => Nat.lt_of_le_of_lt (nd2 (a := sg .z) (b := sg .o) nd fun k hk => by
      obtain ⟨a, ha, rfl⟩ := List.mem_map.mp (hm k hk)
      rcases hL a ha with rfl | rfl
      · exact .inl rfl
      · exact .inr rfl) (by decide), fun ys r nd hm hs hr => by
      rw [sorted_lvls hL nd hm hs]
      have e3 : Ex H1 (upd H2 p (StO w p (L.map sg))) := e2.trans (Ex.new hp)
      exact q r _ (fresh_back e3 hr) (e3.trans (Ex.new hr)) (by rw [upd_same, List.map_map]; rfl)⟩⟩
theorem join_tx : ∀ ws : List Lv, Str.join (Str.ofString "") (ws.map sg) = tx ws
  | [] => rfl
  | [a] => rfl
  | a :: b :: r => by
    show sg a ++ Str.ofString "" ++ Str.join (Str.ofString "") ((b :: r).map sg) = _
    rw [join_tx (b :: r), eE, sg_tx, tx_app, tx_app]
    rfl
theorem sum_sg (ws : List Lv) : ((ws.map sg).map (·.length)).sum = ws.length := by
  induction ws with
  | nil => rfl
  | cons a r ih =>
    rw [List.map_cons, List.map_cons, List.sum_cons, ih, List.length_cons, Nat.add_comm]
    rfl
def rJoin (K : PySem.W.Frag) : V → List V → Hp → VK → Prop := fun x xs H Q => ∃ a p, ∃ ys : List Str, x = .str a ∧ xs = [.ref p] ∧ (SqL K H p (ys.map V.str) ∨ SqT K H p (ys.map V.str)) ∧
      (ys.map (·.length)).sum + ys.length * a.length ≤ 16777216 ∧ Q (.str (Txt.join a ys)) H
theorem join_ok {p : Addr} {ws : List Lv} {Q : VK} (hn : ws.length ≤ 1000) (hx : SqL K H p (ws.map fun a => V.str (sg a))) (q : Q (.str (tx ws)) H) : rJoin K (.str (Str.ofString "")) [.ref p] H Q := by
  refine ⟨_, p, ws.map sg, rfl, rfl, .inl (by rw [List.map_map]; exact hx), ?_, ?_⟩
  · rw [sum_sg, eE, tx_len]
    show ws.length + (ws.map sg).length * 0 ≤ _
    omega
  · rw [TL.join_eq, join_tx]
    exact q
theorem ev_join {p : Addr} {ws : List Lv} (h : Ev te σ H (.ref p)) (hn : ws.length ≤ 1000) (hx : SqL K H p (ws.map fun a => V.str (sg a))) : Ev (tM1 (rJoin K) (tC (.str (Str.ofString ""))) te) σ H (.str (tx ws)) := fun H1 e Q q =>
  ⟨⟨_, rfl⟩, h H1 e _ fun H2 e2 => join_ok hn (ex_l (e.trans e2) hx) (q _ e2)⟩
theorem ev_joinN {ws : List Lv} (h : EvL te σ H (ws.map fun a => V.str (sg a))) (hn : ws.length ≤ 1000) : Ev (tM1 (rJoin K) (tC (.str (Str.ofString ""))) te) σ H (.str (tx ws)) := fun H1 e Q q =>
  ⟨⟨_, rfl⟩, h H1 e _ fun p H2 _ e2 hx => join_ok hn (sq_of hx) (q _ e2)⟩
end
end Kt

/-! Fh: told_by. -/
namespace Kt
open PySem PySem.Spec PyProof.Rows L2 Evl
/-! told_by: slots 0 sheet, 1 rule, 2 some, 3 made, 4 name, 5 levels, 6 tick, 7 here, 8 known; cells name rule tick -/
abbrev s_told_by : Stmt := topS 31
abbrev N_told_by : List Str := ["sheet", "rule", "some", "made", "name", "levels", "tick", "here", "known"]
theorem sc_told_by : FnScope N_told_by ["sheet", "rule"] (defScope s_told_by) := ⟨rfl, rfl, rfl, by decide +kernel, rfl, by decide +kernel, by decide +kernel⟩
/-! ### mirrors -/
def wv (s : Sh) (n : Str) : List Lv := (getW s n).getD []
def oneOf : List Lv → Lv
  | [a] => a
  | _ => .x
def toldW (G : List Sh) (n : Str) (len : Nat) : List Lv := (List.range len).map fun t => oneOf (lvls (G.map fun s => at_ (wv s n) t))
def toldS (G : List Sh) (len : Nat) : Sh := sh (toldW G nA len) (toldW G nB len)
def spTold (K : PySem.W.Frag) (C : Addr) : Sp := fun vs H Q E => ∃ w1 w2 rl, Pre K vs H w1 w2 rl ∧ (unkN w1 w2 ≤ 6 → (goodM w1 w2 rl = [] → RetV .non H Q) ∧ (goodM w1 w2 rl ≠ [] → RetN (dsheet (toldS (goodM w1 w2 rl) w1.length)) H Q)) ∧ (6 < unkN w1 w2 → ∀ H2, Ex H H2 → E (.ref C) none H2)
def lvV (ws : List Lv) : List V := ws.map fun a => V.str (sg a)
theorem aks_known {w : List Lv} : ∀ u ∈ aks w, ∀ a ∈ u, a = .z ∨ a = .o := by
  have key : ∀ (l : List Lv) (m : List (List Lv)), (∀ u ∈ m, ∀ a ∈ u, a = .z ∨ a = .o) → ∀ u ∈ l.foldl grow m, ∀ a ∈ u, a = .z ∨ a = .o := by
    intro l
    induction l with
    | nil => intro m hm u hu; exact hm u hu
    | cons b r ih =>
      intro m hm
      refine ih (grow m b) fun u hu a ha => ?_
      obtain ⟨t, ht, hu⟩ := List.mem_flatMap.mp hu
      obtain ⟨c, hc, rfl⟩ := List.mem_map.mp hu
      rcases List.mem_append.mp ha with ha | ha
      · exact hm t ht a ha
      · rw [List.mem_singleton] at ha
        subst ha
        cases b <;> simp [opts] at hc <;> simp [hc]
  exact key w [[]] (by simp)
theorem toldW_succ (G : List Sh) (n : Str) (j : Nat) : toldW G n (j + 1) = toldW G n j ++ [oneOf (lvls (G.map fun s => at_ (wv s n) j))] := by
  unfold toldW
  rw [List.range_succ, List.map_append]
  rfl
theorem at_mem {w : List Lv} {i : Nat} (h : i < w.length) : at_ w i ∈ w := List.mem_of_getElem? (at_get h)
/-- the waves of a known sheet -/
theorem known_wave {w1 w2 : List Lv} (hll : w2.length = w1.length) {s : Sh} (hs : s ∈ sheetsOf w1 w2) {n : Str} (hn : n = nA ∨ n = nB) : getW s n = some (wv s n) ∧ (wv s n).length = w1.length ∧ ∀ t, t < w1.length → at_ (wv s n) t = .z ∨ at_ (wv s n) t = .o := by
  obtain ⟨v1, v2, rfl, h1, h2⟩ := sheets_mem hs
  have l1 := aks_mem_len v1 h1
  have l2 := aks_mem_len v2 h2
  unfold wv
  rcases hn with rfl | rfl
  · rw [getA]
    exact ⟨rfl, l1, fun t ht => aks_known v1 h1 _ (at_mem (by show t < v1.length; omega))⟩
  · rw [getB]
    exact ⟨rfl, by show v2.length = _; omega, fun t ht => aks_known v2 h2 _ (at_mem (by show t < v2.length; omega))⟩
section
variable {P : Program} {w : World} {K : PySem.W.Frag} {mg : Str → Option Value} {base : Heap} {σ : L2.St} {H H' : Hp} {ta tb te tl td : TE} {tr : TA} {tt : TT} {tu tz : TS} {D : Ends}
theorem q_lock {d : Addr} {u : HO} (hd : H d = some u) (mu : Mut (some u)) (h : ∀ od, tu ⟨fun σ' H' => H' d = some (.frz od u) ∧ tz D σ' (upd H' d u), fun v H' => H' d = some (.frz od u) ∧ D.rt v (upd H' d u), fun σ' H' => H' d = some (.frz od u) ∧ D.bk σ' (upd H' d u), fun σ' H' => H' d = some (.frz od u) ∧ D.ct σ' (upd H' d u)⟩ σ (upd H d (.frz od u))) :
    tSeq (tLock tu) tz D σ H := ⟨d, u, hd, mu, h⟩
theorem wk_keys {d : Addr} {o : Obj} {l : Sh} (hd : H d = some (.frz o (dsheet l))) : Wk (Itk d o (kvs l)) H l (fun p v _ => v = .str p.1) where
  go := fun i H3 hi e3 => ⟨e3 _ _ hd, by rw [kvs_len]; exact hi⟩
  stop := fun H3 e3 => ⟨e3 _ _ hd, by rw [kvs_len]; exact Nat.le_refl _⟩
  yld := fun i p H3 v H4 hp e3 yl => by
    obtain ⟨rfl, k, u, hk, rfl⟩ := yl
    unfold kvs at hk
    rw [List.getElem?_map, hp] at hk
    have ek : ((Sum.inr p.1 : Key), V.str (tx p.2)) = (k, u) := Option.some.inj hk
    have ek1 : (Sum.inr p.1 : Key) = k := congrArg Prod.fst ek
    subst ek1
    exact ⟨Ex.refl _, rfl⟩
/-- for name in sheet: what the loop does to other things is free -/
theorem s_forK {d : Addr} {o : Obj} {l : Sh} {j : Nat} (h : Ev td σ H (.ref d)) (hd : H d = some (.frz o (dsheet l))) (Pv : Nat → L2.St → Hp → Prop) (h0 : ∀ H1, Ex H H1 → Pv 0 σ H1) (hk : ∀ i σ' H', Pv i σ' H' → H' d = some (.frz o (dsheet l)))
    (hs : ∀ i x σ' H', l[i]? = some x → Pv i σ' H' → tu { D with nx := Pv (i + 1), ct := Pv (i + 1), bk := D.nx } (σ'.set j (some (.str x.1))) H') (he : ∀ σ' H', Pv l.length σ' H' → D.nx σ' H') : tFor (iKeys td) (gName j) tu D σ H := h H (Ex.refl H) _ fun H2 e2 => by
  refine ⟨d, o, rfl, .inl ⟨kvs l, e2 _ _ hd, fun i m σ' H' => m = l.length - i ∧ i ≤ l.length ∧ Pv i σ' H', ⟨l.length, by omega, Nat.zero_le _, h0 H2 e2⟩, ?_⟩⟩
  rintro i m σ' H' ⟨rfl, hi, p⟩
  have W := wk_keys (hk i σ' H' p)
  by_cases hlt : i < l.length
  · obtain ⟨x, hx⟩ := lt_get hlt
    refine .inr ⟨W.go i H' hlt (Ex.refl _), Pv (i + 1), fun σ3 H3 q => ⟨l.length - (i + 1), by omega, rfl, hlt, q⟩, fun v H'' y => ?_⟩
    have eH : H'' = H' := y.1
    obtain ⟨_, r⟩ := W.yld i x H' v H'' hx (Ex.refl _) y
    subst r eH
    exact hs i x σ' H'' hx p
  · have ei : i = l.length := by omega
    subst ei
    exact .inl ⟨W.stop H' (Ex.refl _), he σ' H' p⟩
theorem s_dput {d : Addr} {l : Sh} {n : Str} {w : List Lv} (hd : H d = some (dsheet l)) (ha : Ev ta σ H (.ref d)) (hb : Ev tb σ H (.str n)) (hv : Ev te σ H (.str (tx w))) (hz : l.length < 1000) (k : ∀ H1, Ex H H1 → D.nx σ (upd H1 d (.dK (putK (kvs l) (Sum.inr n) (.str (tx w)))))) :
    sDPut ta tb te D σ H := hv H (Ex.refl H) _ fun H1 e1 => ha H1 e1 _ fun H2 e2 => hb H2 (e1.trans e2) _ fun H3 e3 => ⟨d, _, rfl, .inl ⟨kvs l, Sum.inr n, ((e1.trans e2).trans e3) _ _ hd, rfl, small1000 (by rw [kvs_len]; omega), rfl⟩, k H3 ((e1.trans e2).trans e3)⟩
/-- some of a new list's objects -/
theorem eo_filt {α : Type} {o : α → HO} {l : List α} {j : Nat} {vs : List Nat} (f : α → Bool) (h : EvO_ tl σ H o l) (hz : l.length ≤ 40000)
    (body : ∀ x p H1, x ∈ l → Ex H H1 → H1 p = some (o x) → ∃ σ2, TgP (gName j) (wipe σ vs) (.ref p) H1 σ2 ∧ wipe σ2 vs = wipe σ vs ∧ EvT tt σ2 H1 (f x) ∧ Ev te σ2 H1 (.ref p)) :
    EvO_ (tLc (iList K tl) (gName j) tt te vs) σ H o (l.filter f) := fun H1 e Q q => h H1 e _ fun a L H2 ha e2 hl hx ho => by
  have hLl : L.length = l.length := by rw [← hl, List.length_map]
  refine ⟨a, rfl, ⟨_, sq_of hx⟩, fun Dl hD => lc_gen (l := L) (wk_list (sq_of hx)) (by rw [hLl]; exact hz) hD (fun i xs _ => xs = refs ((L.take i).filter fun q => f q.2)) rfl (fun _ _ _ _ h _ => h) (fun q => f q.2)
    (fun i x v H3 hi e3 _ r => ?_) (fun i x xs G hi hf hx' => ?_) (fun xs H' e' hx' ha' => ?_)⟩
  · subst r
    have hxm := List.mem_of_getElem? hi
    obtain ⟨σ2, tg, hw, ht, hb⟩ := body x.2 x.1 H3 (by rw [← hl]; exact List.mem_map.mpr ⟨x, hxm, rfl⟩) ((e.trans e2).trans e3) (e3 _ _ (ho x hxm))
    refine ⟨σ2, tg, hw, ht, fun hf H4 e4 Q' q' => hb H4 e4 Q' fun H5 e5 => q' _ H5 e5 fun xs G hx' _ => ?_⟩
    show xs ++ [V.ref x.1] = refs _
    unfold refs
    rw [filter_map_snoc (fun q : Addr × α => f q.2) (fun q => V.ref q.1) L i x hi, if_pos hf, hx']
    rfl
  · show xs = refs _
    unfold refs
    rw [filter_map_snoc (fun q : Addr × α => f q.2) (fun q => V.ref q.1) L i x hi, if_neg (by show ¬ f x.2 = true; rw [show f x.2 = false from hf]; exact Bool.false_ne_true), List.append_nil]
    exact hx'
  · rw [List.take_length] at ha'
    rw [ha'] at hx'
    refine q Dl (L.filter fun q => f q.2) H' (fresh_back e2 hD) (e2.trans e') ?_ hx' fun u hu => e' _ _ (ho u (List.mem_filter.mp hu).1)
    rw [← hl, List.filter_map]
    rfl
theorem ok_told_by (T : Tx mg) {C : Addr} (H_look_unknown : Has P w K mg base (L2.CX P w) 2 "look_unknown" ["sheet"] (spLook C)) (H_all_sheets : Has P w K mg base CX0 2 "all_sheets" ["sheet"] spSheets) (H_failures : Has P w K mg base CX0 4 "failures" ["sheet", "rule"] (spFail K))
    {f : Addr} {fd : FuncData} (F : Fun K "told_by" "told_by" s_told_by f fd) : FnOk P w K mg base (L2.CX P w) 5 f fd ["sheet", "rule"] (spTold K C) := by
  refine F.okX sc_told_by (fun vs H Q E h => ?_) (fun cdv A outer s H vs Q E hr h => ?_)
  · obtain ⟨w1, w2, rl, ⟨d, r, rfl, _⟩, _⟩ := h
    rfl
  · obtain ⟨w1, w2, rl, ⟨d, r, rfl, hd, hrl, hl⟩, q1, q2⟩ := h
    have nd := sc_told_by.nd
    refine ⟨_, (pss_cons (ps_expr (pe_callHX (takes_of rfl rfl rfl rfl) H_look_unknown hr (pa_cons (pv 0) pa_nil))) (PSs.nox (pss_cons (ps_setLc (i := 2) (own := [("known", 8)]) (g := (gName 8)) rfl nd rfl rfl (sw_true rfl rfl rfl (by decide +kernel)) (pi_list (pe_callH H_all_sheets hr (pa_cons (pv 0) pa_nil))) (blkOk_by (own := [("known", 8)]) (N := N_told_by) (sc := defScope s_told_by) (by decide +kernel)) (fun _ _ _ _ _ => (pg_name (i := 8) nd rfl (by first | exact .inl rfl | exact .inr rfl))) (fun _ _ _ _ _ => (pts_one (pt_cmpR (op_eq0K (K := K) rfl (hu64 hr)) (pe_callH H_failures hr (pa_cons (pv 8) (pa_cons (pv 1) pa_nil))) (pe_lst pa_nil) (nomark _)))) (fun _ _ _ _ _ => (pv 8)))
      (pss_cons (ps_if (pt_cmpR (op_eq0 (hu64 hr)) (pv 2) (pe_lst pa_nil) (nomark _)) (pss_one (ps_ret pe_non)) pss_nil)
      (pss_cons (ps_set (i := 3) nd rfl (by first | exact .inl rfl | exact .inr rfl) pe_dnewK)
      (pss_cons (ps_lock (ps_for PassesOwn.never rfl (pi_keys (pv 0)) (pg_name (i := 4) nd rfl (by first | exact .inl rfl | exact .inr rfl))
      (pss_cons (ps_set (i := 5) nd rfl (by first | exact .inl rfl | exact .inr rfl) (pe_lst pa_nil))
      (pss_cons (ps_for PassesOwn.never rfl (pi_range1 (by rfl) T.range (pa_cons (pe_callB call_len_str (by rfl) T.len PySem.boot_len (pa_cons (pe_dget (hu1 hr) (pv 0) (pv 4) (fun _ _ => rfl)) pa_nil)) pa_nil)) (pg_name (i := 6) nd rfl (by first | exact .inl rfl | exact .inr rfl))
      (pss_cons (ps_set (i := 7) nd rfl (by first | exact .inl rfl | exact .inr rfl) (pe_callB (cr_sortedZ rfl) (by rfl) T.sorted (by decide +kernel) (pa_cons (pe_callTy (cr_setS rfl) (by rfl) T.set (by decide +kernel) (pa_cons (pe_lc (own := [("known", 8)]) (g := (gName 8)) rfl nd (pi_list (pv 2)) (blkOk_by (own := [("known", 8)]) (N := N_told_by) (sc := defScope s_told_by) (by decide +kernel)) (fun _ _ _ _ _ => (pg_name (i := 8) nd rfl (by first | exact .inl rfl | exact .inr rfl))) (fun _ _ _ _ _ => pts_nil) (fun _ _ _ _ _ => (pe_ix ix_str (pe_dget (hu1 hr) (pv 8) (pv 4) (fun _ _ => rfl)) (pv 6) (fun _ _ => rfl)))) pa_nil)) pa_nil)))
      (pss_one (ps_expr (pe_bm PySem.F.plainAttrs_list PySem.F.slot_list_append PySem.F.type_list_append mt_append (pv 5) (pa_cons (pe_ifExp (pt_cmpR op_eq (pe_callB call_len_seq (by rfl) T.len PySem.boot_len (pa_cons (pv 7) pa_nil)) pe_int (nomark _)) (pe_ix ix_list (pv 7) pe_int (fun _ _ => rfl)) pe_str) pa_nil))))))
      (pss_one (ps_dput (hu1 hr) (pv 3) (pv 4) (pe_join pe_str (pv 5)) rfl))))))
      (pss_one (ps_ret (pv 3))))))))), ?_⟩
    refine q_look (d := d) (w1 := w1) (w2 := w2) rfl hd (fun hx H2 e02 => ?_) q2
    obtain ⟨qn, qd⟩ := q1 hx
    have hsz := sheets_len w1 w2
    have h64 := pow6 hx
    refine q_asgO (o := dsheet) (l := goodM w1 w2 rl) (eo_filt (fun s => (failS rl s).isEmpty) (eo_call (ea_cons (ev_var rfl) ea_nil) (so_sheets (e02 _ _ hd) hl.2.1 hl.2.2 hx)) (by omega) fun x p H3 hxm e3 hp => ?_) fun m M H3 hm e3 hM h3 ho => ?_
    · exact ⟨_, tg_name, rfl, et_is (et_test (ev_eq0 (el_call (vs := [.ref p, .ref r]) (ea_cons (ev_var rfl) (ea_cons (ev_var rfl) ea_nil)) (sl_fail hxm hp (ex_t (e02.trans e3) hrl) hl)))) List.isEmpty_map, ev_var rfl⟩
    have e03 := e02.trans e3
    have hMl : M.length ≤ 64 := by
      have z := congrArg List.length hM
      rw [List.length_map, goodM] at z
      rw [z]
      exact len_filter _ _ (by omega)
    have hMk : ∀ u ∈ M, u.2 ∈ sheetsOf w1 w2 := fun u hu => by
      have z : u.2 ∈ goodM w1 w2 rl := by rw [← hM]; exact List.mem_map.mpr ⟨u, hu, rfl⟩
      exact (List.mem_filter.mp z).1
    refine q_when (et_test (ev_eq0v (ev_var rfl) (sq_of h3))) (fun hb H4 e4 => ?_) (fun hb H4 e4 => ?_)
    · have z : goodM w1 w2 rl = [] := by
        rw [← hM]
        unfold refs at hb
        rw [List.isEmpty_map, List.isEmpty_iff] at hb
        rw [hb]; rfl
      exact s_ret ev_c fun H5 e5 => qn z H5 ((e03.trans e4).trans e5)
    · have z : goodM w1 w2 rl ≠ [] := by
        rw [← hM]
        intro y
        rw [List.map_eq_nil_iff] at y
        rw [y] at hb
        cases hb
      refine q_asgN en_dnew fun mk H5 hmk e5 h5 => ?_
      have e04 := e03.trans e4
      have hd4 : H4 d = some (dsheet (sh w1 w2)) := e04 _ _ hd
      have hdm : mk ≠ d := fun z => by rw [z, hd4] at hmk; cases hmk
      have hlen : ∀ p ∈ sh w1 w2, getW (sh w1 w2) p.1 = some p.2 ∧ p.2.length = w1.length ∧ (p.1 = nA ∨ p.1 = nB) := by
        intro p hp
        rcases List.mem_cons.mp hp with rfl | hp
        · exact ⟨getA, rfl, .inl rfl⟩
        · rw [List.mem_singleton] at hp
          subst hp
          exact ⟨getB, hl.2.2, .inr rfl⟩
      have tS : ∀ i, i ≤ 2 → ∃ l : Sh, l = ((sh w1 w2).take i).map (fun p => (p.1, toldW (goodM w1 w2 rl) p.1 w1.length)) ∧ l.length ≤ 2 := fun i hi => ⟨_, rfl, by rw [List.length_map, List.length_take]; show min i 2 ≤ 2; omega⟩
      refine q_lock (e5 _ _ hd4) (mut_sheet _) fun od => ?_
      refine s_forK (d := d) (o := od) (l := sh w1 w2) (ev_var rfl) upd_same
        (fun i σ' H' => ∃ k4 k5 k6 k7 k8, σ' = [some (.ref d), some (.ref r), some (.ref m), some (.ref mk), k4, k5, k6, k7, k8] ∧ Ex (upd H4 d (.frz od (dsheet (sh w1 w2)))) H' ∧ H' mk = some (dsheet (((sh w1 w2).take i).map fun p => (p.1, toldW (goodM w1 w2 rl) p.1 w1.length))))
        (fun H6 e6 => ⟨_, _, _, _, _, rfl, ?_, e6 _ _ (by rw [upd_ne hdm]; exact h5)⟩) (fun i σ' H' hP => ?_) (fun i x σ' H' hi hP => ?_) (fun σ' H' hP => ?_)
      · refine Ex.trans (fun a o ha => ?_) e6
        by_cases n : a = d
        · rw [n, upd_same] at ha ⊢; exact ha
        · rw [upd_ne n] at ha ⊢; exact e5 _ _ ha
      · obtain ⟨k4, k5, k6, k7, k8, rfl, e, _⟩ := hP
        exact e _ _ upd_same
      · obtain ⟨k4, k5, k6, k7, k8, rfl, e, hmk6⟩ := hP
        have hxm := List.mem_of_getElem? hi
        obtain ⟨hgx, hlx, hnx⟩ := hlen x hxm
        have hi2 : i < 2 := (List.getElem?_eq_some_iff.mp hi).1
        have mk0 : (upd H4 d (.frz od (dsheet (sh w1 w2)))) mk = none := by rw [upd_ne hdm]; exact hmk
        have mM : ∀ {Ha : Hp}, Ex (upd H4 d (.frz od (dsheet (sh w1 w2)))) Ha → Ha m = some (.lst (refs M)) ∧ (∀ u ∈ M, Rd Ha u.1 (dsheet u.2)) ∧ Rd Ha d (dsheet (sh w1 w2)) := fun {Ha} ea => by
          have h3' : H4 m = some (.lst (refs M)) := e4 _ _ h3
          refine ⟨ea _ _ (by rw [upd_ne (fun z => by rw [z, hd4] at h3'; cases h3')]; exact h3'), fun u hu => ?_, .inr ⟨od, ea _ _ upd_same⟩⟩
          have hu4 : H4 u.1 = some (dsheet u.2) := e4 _ _ (ho u hu)
          by_cases n : u.1 = d
          · rw [n] at hu4 ⊢
            refine .inr ⟨od, ?_⟩
            rw [← Option.some.inj (hd4.symm.trans hu4)]
            exact ea _ _ upd_same
          · exact .inl (ea _ _ (by rw [upd_ne n]; exact hu4))
        refine q_asgL (el_lst ea_nil (Nat.zero_le _)) fun lv H7 hlv e7 h7 => ?_
        have lv0 : (upd H4 d (.frz od (dsheet (sh w1 w2)))) lv = none := fresh_back e hlv
        have lvm : lv ≠ mk := fun z => by rw [z, hmk6] at hlv; cases hlv
        have e07 := e.trans e7
        refine q_forR1 (n := (w1.length : Int)) (ea_cons (ev_is (ev_lenS (w := x.2) (ev_dget (ev_var rfl) (ev_var rfl) (mM e07).2.2 hgx) (by omega)) (by rw [hlx])) ea_nil) (by omega)
          (fun j σ3 H8 => ∃ k6 k7 k8, σ3 = [some (.ref d), some (.ref r), some (.ref m), some (.ref mk), some (.str x.1), some (.ref lv), k6, k7, k8] ∧ Ex (upd H4 d (.frz od (dsheet (sh w1 w2)))) H8 ∧ H8 mk = some (dsheet (((sh w1 w2).take i).map fun p => (p.1, toldW (goodM w1 w2 rl) p.1 w1.length))) ∧ H8 lv = some (.lst (lvV (toldW (goodM w1 w2 rl) x.1 j))))
          (fun H8 e8 => ⟨_, _, _, rfl, e07.trans e8, e8 _ _ (e7 _ _ hmk6), e8 _ _ h7⟩) (fun j σ3 H8 hj hP => ?_) (fun σ3 H8 hP => ?_)
        · obtain ⟨k6, k7, k8, rfl, e8, hmk8, hlv8⟩ := hP
          have hjl : j < w1.length := by omega
          have hG : (goodM w1 w2 rl).map (fun s => at_ (wv s x.1) j) = M.map fun u => at_ (wv u.2 x.1) j := by
            rw [← hM, List.map_map]
            rfl
          refine q_asgL (xs := lvV (lvls ((goodM w1 w2 rl).map fun s => at_ (wv s x.1) j))) (el_sortedSet (fun a ha => ?_) (by rw [hG, List.length_map]; omega) (evL_is (el_lc0 (fun u : Addr × Sh => V.str (sg (at_ (wv u.2 x.1) j))) (ei_L (l := M) (φ := fun q => V.ref q.1) (ev_var rfl) (sq_of (mM e8).1)) (by omega) fun u v H9 hu e9 hv => ?_) ?_)) fun hh H9 hhn e9 h9 => ?_
          · rw [hG] at ha
            obtain ⟨u, hu, rfl⟩ := List.mem_map.mp ha
            exact (known_wave hl.2.2 (hMk u hu) hnx).2.2 j hjl
          · subst hv
            obtain ⟨g1, g2, _⟩ := known_wave hl.2.2 (hMk u hu) hnx
            exact ⟨_, tg_name, rfl, ev_strIx (i := j) (ev_dget (ev_var rfl) (ev_var rfl) (ex_rd e9 ((mM e8).2.1 u hu)) g1) (ev_var rfl) rfl (by omega) (by omega)⟩
          · rw [hG, List.map_map]
            rfl
          · generalize hls : lvls ((goodM w1 w2 rl).map fun s => at_ (wv s x.1) j) = ls at h9
            have hll : ls.length ≤ 2 := by rw [← hls]; exact len_filter _ _ (Nat.le_refl _)
            refine s_app (v := .str (sg (oneOf ls))) (e9 _ _ hlv8) (ev_var rfl) (ev_if (b := decide (ls.length = 1)) (et_is (et_test (ev_op (ev_len (ev_var rfl) (sq_of h9)) ev_c (rv_eq rfl))) ?_) (fun hb => ?_) (fun hb => ev_is ev_c ?_)) (by rw [lvV, List.length_map, toldW, List.length_map, List.length_range]; omega) fun H10 e10 => ?_
            · rw [lvV, List.length_map]
              refine decide_eq_decide.mpr ⟨fun z => ?_, fun z => by rw [z]; rfl⟩
              have z' := V.int.inj z
              omega
            · obtain ⟨a, rfl⟩ := List.length_eq_one_iff.mp (of_decide_eq_true hb)
              exact ev_op (ev_var rfl) ev_c (rv_ixL (sq_of h9) (atI_nat (j := 0) rfl))
            · rw [ex_]
              match ls, hb with
              | [], _ => rfl
              | [_], hb => exact Bool.noConfusion (show true = false from hb)
              | _ :: _ :: _, _ => rfl
            · refine ⟨_, _, _, rfl, Ex.mut ((e8.trans e9).trans e10) lv0, ?_, ?_⟩
              · rw [upd_ne lvm.symm]; exact e10 _ _ (e9 _ _ hmk8)
              · rw [upd_same, toldW_succ, hls, lvV, lvV, List.map_append]
                rfl
        · obtain ⟨k6, k7, k8, rfl, e8, hmk8, hlv8⟩ := hP
          rw [Int.toNat_natCast] at hlv8
          refine s_dput hmk8 (ev_var rfl) (ev_var rfl) (ev_join (ws := toldW (goodM w1 w2 rl) x.1 w1.length) (ev_var rfl) (by rw [toldW, List.length_map, List.length_range]; omega) (sq_of hlv8)) (by rw [List.length_map, List.length_take]; show min i 2 < 1000; omega) fun H9 e9 => ?_
          refine ⟨_, _, _, _, _, rfl, Ex.mut (e8.trans e9) mk0, ?_⟩
          rw [upd_same, put_new, List.take_add_one, hi, List.map_append]
          · rfl
          · refine getW_none fun p hp => ?_
            obtain ⟨y, hy, rfl⟩ := List.mem_map.mp hp
            match i, hi2 with
            | 0, _ => cases hy
            | 1, _ =>
              have hi' : x = (nB, w2) := (Option.some.inj hi).symm
              rw [show (sh w1 w2).take 1 = [(nA, w1)] from rfl, List.mem_singleton] at hy
              rw [hy, hi']
              exact nAB
      · obtain ⟨k4, k5, k6, k7, k8, rfl, e, hmk6⟩ := hP
        refine ⟨e _ _ upd_same, ?_⟩
        refine s_ret (ev_var rfl) fun H6 e6 => qd z mk H6 (fresh_back e04 hmk) (e04.trans ((ex_lock e hd4).trans e6)) (e6 _ _ ?_)
        rw [upd_ne hdm, hmk6]
        rfl
end
end Kt

/-! Fi: _law_cell, _law_pick, _law_wave, _law_seldom. -/
namespace Kt
open PySem PySem.Spec PyProof.Rows L2 Evl
/-! _law_cell: slots 0 _law_script, 1 _law_k; cells  -/
abbrev s_law_cell : Stmt := topS 33
abbrev N_law_cell : List Str := ["_law_script", "_law_k"]
theorem sc_law_cell : FnScope N_law_cell ["_law_script", "_law_k"] (defScope s_law_cell) := ⟨rfl, rfl, rfl, by decide +kernel, rfl, by decide +kernel, by decide +kernel⟩
/-! _law_pick: slots 0 _law_script, 1 _law_k, 2 _law_many, 3 _law_drawn; cells  -/
abbrev s_law_pick : Stmt := topS 34
abbrev N_law_pick : List Str := ["_law_script", "_law_k", "_law_many", "_law_drawn"]
theorem sc_law_pick : FnScope N_law_pick ["_law_script", "_law_k", "_law_many"] (defScope s_law_pick) := ⟨rfl, rfl, rfl, by decide +kernel, rfl, by decide +kernel, by decide +kernel⟩
/-! _law_wave: slots 0 _law_script, 1 _law_at, 2 _law_many, 3 _law_signs, 4 _law_made, 5 _law_k; cells  -/
abbrev s_law_wave : Stmt := topS 35
abbrev N_law_wave : List Str := ["_law_script", "_law_at", "_law_many", "_law_signs", "_law_made", "_law_k"]
theorem sc_law_wave : FnScope N_law_wave ["_law_script", "_law_at", "_law_many", "_law_signs"] (defScope s_law_wave) := ⟨rfl, rfl, rfl, by decide +kernel, rfl, by decide +kernel, by decide +kernel⟩
/-! _law_seldom: slots 0 _law_script, 1 _law_at, 2 _law_many, 3 _law_most, 4 _law_made, 5 _law_k, 6 _law_tick; cells  -/
abbrev s_law_seldom : Stmt := topS 36
abbrev N_law_seldom : List Str := ["_law_script", "_law_at", "_law_many", "_law_most", "_law_made", "_law_k", "_law_tick"]
theorem sc_law_seldom : FnScope N_law_seldom ["_law_script", "_law_at", "_law_many", "_law_most"] (defScope s_law_seldom) := ⟨rfl, rfl, rfl, by decide +kernel, rfl, by decide +kernel, by decide +kernel⟩
/-! ### mirrors -/
def cellZ (ns : List Int) (k : Nat) : Int := if k < ns.length then ns.getD k 0 else if ns.isEmpty then 0 else ns.getD (k % ns.length) 0 * 31 + (k : Int)
def drawnZ (ns : List Int) (k : Nat) : Int := (cellZ ns k + 6151 * ((k : Int) + 1)) * 40692 % 2147483399
def pickZ (ns : List Int) (k n : Nat) : Nat := ((drawnZ ns k * drawnZ ns k + drawnZ ns k / 31) % 2147483629 % (n : Int)).toNat
theorem pickZ_lt (ns : List Int) (k : Nat) {n : Nat} (h : 0 < n) : pickZ ns k n < n := by
  unfold pickZ
  generalize (drawnZ ns k * drawnZ ns k + drawnZ ns k / 31) % 2147483629 = z
  have h1 := Int.emod_nonneg z (show (n : Int) ≠ 0 by omega)
  have h2 := Int.emod_lt_of_pos z (show (0 : Int) < (n : Int) by omega)
  omega
theorem pickZ_int (ns : List Int) (k : Nat) {n : Nat} (h : 0 < n) : (drawnZ ns k * drawnZ ns k + drawnZ ns k / 31) % 2147483629 % (n : Int) = (pickZ ns k n : Int) := by
  unfold pickZ
  generalize (drawnZ ns k * drawnZ ns k + drawnZ ns k / 31) % 2147483629 = z
  have h1 := Int.emod_nonneg z (show (n : Int) ≠ 0 by omega)
  omega
theorem drawnZ_bd (ns : List Int) (k : Nat) : 0 ≤ drawnZ ns k ∧ drawnZ ns k < 2147483399 := by
  unfold drawnZ
  generalize (cellZ ns k + 6151 * ((k : Int) + 1)) * 40692 = z
  exact ⟨Int.emod_nonneg z (by omega), Int.emod_lt_of_pos z (by omega)⟩
def s01 : List Lv := [.z, .o]
def waveZ (ns : List Int) (at' : Nat) : Nat → List Lv
  | 0 => [at_ s01 (pickZ ns at' 2)]
  | i + 1 => if pickZ ns (at' + 2 * (i + 1)) 2 = 0 then waveZ ns at' i ++ [at_ (waveZ ns at' i) i] else waveZ ns at' i ++ [at_ s01 (pickZ ns (at' + 2 * (i + 1) + 1) 2)]
theorem waveZ_len (ns : List Int) (at' : Nat) : ∀ i, (waveZ ns at' i).length = i + 1
  | 0 => rfl
  | i + 1 => by
    have h := waveZ_len ns at' i
    rw [waveZ]
    split <;> rw [List.length_append, h] <;> rfl
def putX (w : List Lv) (t : Nat) : List Lv := w.take t ++ [.x] ++ w.drop (t + 1)
theorem putX_len {w : List Lv} {t : Nat} (h : t < w.length) : (putX w t).length = w.length := by
  unfold putX
  rw [List.length_append, List.length_append, List.length_take, List.length_drop]
  show min t w.length + 1 + (w.length - (t + 1)) = _
  omega
def seldomZ (ns : List Int) (at' many : Nat) : Nat → List Lv
  | 0 => waveZ ns at' (many - 1)
  | i + 1 => putX (seldomZ ns at' many i) (pickZ ns (at' + 41 + i) many)
theorem seldomZ_len (ns : List Int) (at' : Nat) {many : Nat} (h : 0 < many) : ∀ i, (seldomZ ns at' many i).length = many
  | 0 => by rw [seldomZ, waveZ_len]; omega
  | i + 1 => by
    have z := seldomZ_len ns at' h i
    rw [seldomZ, putX_len (by rw [z]; exact pickZ_lt ns _ h), z]
/-! ### texts cut -/
theorem cut_tx (w : List Lv) (a b : Nat) (h : b ≤ w.length) : cutS (tx w) (some (a : Int)) (some (b : Int)) = tx ((w.drop a).take (b - a)) := by
  unfold cutS
  rw [HT.sIx_nat, HT.sIx_nat, tx_len, tx_list, Nat.min_eq_left h]
  unfold tx
  rw [List.map_take, List.map_drop]
  by_cases ha : a ≤ w.length
  · rw [Nat.min_eq_left ha]
  · rw [Nat.min_eq_right (by omega), List.drop_of_length_le (by rw [List.length_map]; exact Nat.le_refl _), List.drop_of_length_le (by rw [List.length_map]; omega), List.take_nil, List.take_nil]
theorem cut_to (w : List Lv) (b : Nat) (h : b ≤ w.length) : cutS (tx w) none (some (b : Int)) = tx (w.take b) := by
  unfold cutS
  rw [HT.sIx_nat, HT.sIx_none, tx_len, tx_list, Nat.min_eq_left h]
  unfold tx
  rw [List.map_take, List.drop_zero, Nat.sub_zero]
theorem cut_from (w : List Lv) (a : Nat) (h : a ≤ w.length) : cutS (tx w) (some (a : Int)) none = tx (w.drop a) := by
  unfold cutS
  rw [HT.sIx_nat, HT.sIx_none, tx_len, tx_list, Nat.min_eq_left h]
  unfold tx
  rw [List.map_drop, List.take_of_length_le (by rw [List.length_drop, List.length_map]; exact Nat.le_refl _)]
def spCell2 (K : PySem.W.Frag) : Sp := fun vs H Q _ => ∃ (l : Addr) (ns : List Int) (k : Nat), vs = [.ref l, .int (k : Int)] ∧ SqL K H l (ns.map V.int) ∧ RetV (.int (cellZ ns k)) H Q
def spPick (K : PySem.W.Frag) : Sp := fun vs H Q _ => ∃ (l : Addr) (ns : List Int) (k n : Nat), vs = [.ref l, .int (k : Int), .int (n : Int)] ∧ SqL K H l (ns.map V.int) ∧ 0 < n ∧ RetV (.int (pickZ ns k n : Int)) H Q
def spWave (K : PySem.W.Frag) : Sp := fun vs H Q _ => ∃ (l : Addr) (ns : List Int) (a n : Nat), vs = [.ref l, .int (a : Int), .int (n : Int), .str (tx s01)] ∧ SqL K H l (ns.map V.int) ∧ (0 < n ∧ n ≤ 12) ∧ RetV (.str (tx (waveZ ns a (n - 1)))) H Q
def selZ (ns : List Int) (a n most : Nat) : List Lv := seldomZ ns a n (pickZ ns (a + 40) (most + 1))
theorem selZ_len (ns : List Int) (a most : Nat) {n : Nat} (h : 0 < n) : (selZ ns a n most).length = n := seldomZ_len ns a h _
def spSeldom (K : PySem.W.Frag) : Sp := fun vs H Q _ => ∃ (l : Addr) (ns : List Int) (a n most : Nat), vs = [.ref l, .int (a : Int), .int (n : Int), .int (most : Int)] ∧ SqL K H l (ns.map V.int) ∧ (0 < n ∧ n ≤ 12 ∧ most ≤ 10) ∧ RetV (.str (tx (selZ ns a n most))) H Q
section
variable {P : Program} {w : World} {K : PySem.W.Frag} {mg : Str → Option Value} {base : Heap} {σ : L2.St} {H : Hp} {ta tb te : TE} {tr : TA} {tl th : TO}
theorem ev_nat {i j : Int} (h : Ev te σ H (.int i)) (e : i = j) : Ev te σ H (.int j) := e ▸ h
theorem ev_sl {wv : List Lv} {lo hi : Option Int} (h : Ev te σ H (.str (tx wv))) (h1 : EvO tl σ H lo) (h2 : EvO th σ H hi) (hl : wv.length ≤ 100000) : Ev (tSl rSlS te tl th) σ H (.str (cutS (tx wv) lo hi)) := fun H1 e Q q =>
  h H1 e _ fun H2 e2 => h1 H2 (e.trans e2) _ fun H3 e3 => h2 H3 ((e.trans e2).trans e3) _ fun H4 e4 => ⟨tx wv, rfl, by rw [tx_len]; exact sz_of hl, q H4 ((e2.trans e3).trans e4)⟩
theorem rv_cat {v u : List Lv} (h : v.length + u.length ≤ 100000) : RV (fun x y H Q => ∃ i j, x = .str i ∧ y = .str j ∧ i.length + j.length ≤ sizeLine ∧ Q (.str (i ++ j)) H) (.str (tx v)) (.str (tx u)) H (.str (tx (v ++ u))) := fun H1 _ Q q =>
  ⟨tx v, tx u, rfl, rfl, by rw [tx_len, tx_len]; exact sz_of h, by rw [tx_app]; exact q H1 (Ex.refl H1)⟩
theorem get_cell {ns : List Int} {k : Nat} (h : k < ns.length) : (ns.map V.int)[k]? = some (.int (ns.getD k 0)) := by
  rw [List.getElem?_map, List.getElem?_eq_getElem h, List.getD_eq_getElem?_getD, List.getElem?_eq_getElem h]
  rfl
theorem ok_law_cell (T : Tx mg) {f : Addr} {fd : FuncData} (F : Fun K "_law_cell" "_law_cell" s_law_cell f fd) : FnOk P w K mg base CX0 1 f fd ["_law_script", "_law_k"] (spCell2 K) := by
  refine F.ok sc_law_cell (fun vs H Q E h => ?_) (fun cdv A outer s H vs Q E hr h => ?_)
  · obtain ⟨l, ns, k, rfl, _⟩ := h
    rfl
  · obtain ⟨l, ns, k, rfl, hs, q⟩ := h
    have nd := sc_law_cell.nd
    refine ⟨_, (pss_cons (ps_if (pt_cmpR op_lt (pv 1) (pe_callB call_len_seq (by rfl) T.len PySem.boot_len (pa_cons (pv 0) pa_nil)) (nomark _)) (pss_one (ps_ret (pe_ix ix_list (pv 0) (pv 1) (fun _ _ => rfl)))) pss_nil)
      (pss_cons (ps_if (pt_cmpR (op_eq0 (hu64 hr)) (pv 0) (pe_lst pa_nil) (nomark _)) (pss_one (ps_ret pe_int)) pss_nil)
      (pss_one (ps_ret (pe_op op_add (pe_op op_mul (pe_ix ix_list (pv 0) (pe_op op_mod (pv 1) (pe_callB call_len_seq (by rfl) T.len PySem.boot_len (pa_cons (pv 0) pa_nil))) (fun _ _ => rfl)) pe_int) (pv 1)))))), ?_⟩
    have hL : (ns.map V.int).length = ns.length := List.length_map ..
    refine q_when (b := decide (k < ns.length)) (et_is (et_test (ev_op (ev_var rfl) (ev_len (ev_var rfl) hs) rv_I0)) (by rw [hL]; exact decide_eq_decide.mpr (by omega))) (fun hb H1 e1 => ?_) (fun hb H1 e1 => ?_)
    · have hk := of_decide_eq_true hb
      rw [cellZ, if_pos hk] at q
      exact s_ret (ev_op (ev_var rfl) (ev_var rfl) (rv_ixL (ex_l e1 hs) (atI_nat (get_cell hk)))) fun H2 e2 => q H2 (e1.trans e2)
    · have hk : ¬ k < ns.length := of_decide_eq_false hb
      rw [cellZ, if_neg hk] at q
      refine q_when (et_is (et_test (ev_eq0v (ev_var rfl) (ex_l e1 hs))) List.isEmpty_map) (fun hb H2 e2 => ?_) (fun hb H2 e2 => ?_)
      · rw [if_pos hb] at q
        exact s_ret ev_c fun H3 e3 => q H3 ((e1.trans e2).trans e3)
      · rw [if_neg (by rw [hb]; exact Bool.false_ne_true)] at q
        have hpos : 0 < ns.length := by
          cases ns with
          | nil => cases hb
          | cons a r => exact Nat.succ_pos _
        have hm : k % ns.length < ns.length := Nat.mod_lt _ hpos
        have e12 := e1.trans e2
        refine s_ret (ev_op (ev_op (ev_op (ev_var rfl) (ev_nat (j := ((k % ns.length : Nat) : Int)) (ev_op (ev_var rfl) (ev_nat (j := (ns.length : Int)) (ev_len (ev_var rfl) (ex_l e12 hs)) (by rw [hL])) (rv_I (by omega))) (by omega)) (rv_ixL (ex_l e12 hs) (atI_nat (get_cell hm)))) ev_c (rv_I (.inr ⟨by decide, by decide⟩))) (ev_var rfl) rv_I0) fun H3 e3 => q H3 (e12.trans e3)
theorem ok_law_pick (T : Tx mg) (H_law_cell : Has P w K mg base CX0 1 "_law_cell" ["_law_script", "_law_k"] (spCell2 K)) {f : Addr} {fd : FuncData} (F : Fun K "_law_pick" "_law_pick" s_law_pick f fd) : FnOk P w K mg base CX0 2 f fd ["_law_script", "_law_k", "_law_many"] (spPick K) := by
  refine F.ok sc_law_pick (fun vs H Q E h => ?_) (fun cdv A outer s H vs Q E hr h => ?_)
  · obtain ⟨l, ns, k, n, rfl, _⟩ := h
    rfl
  · obtain ⟨l, ns, k, n, rfl, hs, hn, q⟩ := h
    have nd := sc_law_pick.nd
    refine ⟨_, (pss_cons (ps_set (i := 3) nd rfl (by first | exact .inl rfl | exact .inr rfl) (pe_op op_mod (pe_op op_mul (pe_op op_add (pe_callH H_law_cell hr (pa_cons (pv 0) (pa_cons (pv 1) pa_nil))) (pe_op op_mul pe_int (pe_op op_add (pv 1) pe_int))) pe_int) pe_int))
      (pss_one (ps_ret (pe_op op_mod (pe_op op_mod (pe_op op_add (pe_op op_mul (pv 3) (pv 3)) (pe_op op_fdiv (pv 3) pe_int)) pe_int) (pv 2))))), ?_⟩
    refine q_asg (v := .int (drawnZ ns k)) (ev_op (ev_op (ev_op (ev_call (vs := [_, _]) (ea_cons (ev_var rfl) (ea_cons (ev_var rfl) ea_nil)) fun H1 e Q' q' _ => ⟨l, ns, k, rfl, ex_l e hs, q'⟩) (ev_op ev_c (ev_op (ev_var rfl) ev_c rv_I0) (rv_I (.inl ⟨by decide, by decide⟩))) rv_I0) ev_c (rv_I (.inr ⟨by decide, by decide⟩))) ev_c (rv_I (by decide))) fun H1 e1 => ?_
    obtain ⟨b1, b2⟩ := drawnZ_bd ns k
    refine s_ret (ev_nat (ev_op (ev_op (ev_op (ev_op (ev_var rfl) (ev_var rfl) (rv_I (.inl ⟨by omega, by omega⟩))) (ev_op (ev_var rfl) ev_c (rv_I ⟨by decide, by decide⟩)) rv_I0) ev_c (rv_I (by decide))) (ev_var rfl) (rv_I (by omega))) (pickZ_int ns k hn)) fun H2 e2 => q H2 (e1.trans e2)
/-- a draw -/
theorem ev_pick {l : Addr} {ns : List Int} {k n : Nat} (hs : SqL K H l (ns.map V.int)) (hn : 0 < n) (h : EvA tr σ H [.ref l, .int (k : Int), .int (n : Int)]) : Ev (tCall (spPick K) [] E0 tr) σ H (.int (pickZ ns k n : Int)) :=
  ev_call h fun H1 e Q q _ => ⟨l, ns, k, n, rfl, ex_l e hs, hn, q⟩
theorem ok_law_wave (T : Tx mg) (H_law_pick : Has P w K mg base CX0 2 "_law_pick" ["_law_script", "_law_k", "_law_many"] (spPick K)) {f : Addr} {fd : FuncData} (F : Fun K "_law_wave" "_law_wave" s_law_wave f fd) : FnOk P w K mg base CX0 3 f fd ["_law_script", "_law_at", "_law_many", "_law_signs"] (spWave K) := by
  refine F.ok sc_law_wave (fun vs H Q E h => ?_) (fun cdv A outer s H vs Q E hr h => ?_)
  · obtain ⟨l, ns, a, n, rfl, _⟩ := h
    rfl
  · obtain ⟨l, ns, a, n, rfl, hs, ⟨hn, hn2⟩, q⟩ := h
    have nd := sc_law_wave.nd
    refine ⟨_, (pss_cons (ps_set (i := 4) nd rfl (by first | exact .inl rfl | exact .inr rfl) (pe_ix ix_str (pv 3) (pe_callH H_law_pick hr (pa_cons (pv 0) (pa_cons (pv 1) (pa_cons (pe_callB call_len_str (by rfl) T.len PySem.boot_len (pa_cons (pv 3) pa_nil)) pa_nil)))) (fun _ _ => rfl)))
      (pss_cons (ps_for PassesOwn.never rfl (pi_range2 (by rfl) T.range (pa_cons pe_int (pa_cons (pv 2) pa_nil))) (pg_name (i := 5) nd rfl (by first | exact .inl rfl | exact .inr rfl))
      (pss_one (ps_if (pt_cmpR op_eq (pe_callH H_law_pick hr (pa_cons (pv 0) (pa_cons (pe_op op_add (pv 1) (pe_op op_mul pe_int (pv 5))) (pa_cons pe_int pa_nil)))) pe_int (nomark _)) (pss_one (ps_set (i := 4) nd rfl (by first | exact .inl rfl | exact .inr rfl) (pe_op op_add_str (pv 4) (pe_ix ix_str (pv 4) (pe_un un_neg pe_int) (fun _ _ => rfl))))) (pss_one (ps_set (i := 4) nd rfl (by first | exact .inl rfl | exact .inr rfl) (pe_op op_add_str (pv 4) (pe_ix ix_str (pv 3) (pe_callH H_law_pick hr (pa_cons (pv 0) (pa_cons (pe_op op_add (pe_op op_add (pv 1) (pe_op op_mul pe_int (pv 5))) pe_int) (pa_cons (pe_callB call_len_str (by rfl) T.len PySem.boot_len (pa_cons (pv 3) pa_nil)) pa_nil)))) (fun _ _ => rfl))))))))
      (pss_one (ps_ret (pv 4))))), ?_⟩
    have p2 : ∀ k, pickZ ns k 2 < s01.length := fun k => pickZ_lt ns k (by decide)
    refine q_asg (v := .str (tx (waveZ ns a 0))) (ev_strIx (ev_var rfl) (ev_pick (k := a) (n := 2) hs (by decide) (ea_cons (ev_var rfl) (ea_cons (ev_var rfl) (ea_cons (ev_lenS (w := s01) (ev_var rfl) (by decide)) ea_nil)))) rfl (p2 _) (by decide)) fun H1 e1 => ?_
    refine q_forR2 (lo := 1) (n := (n : Int)) (ea_cons ev_c (ea_cons (ev_var rfl) ea_nil)) ⟨by omega, by omega, by omega, by omega⟩
      (fun i σ' H' => ∃ k5, σ' = [some (.ref l), some (.int (a : Int)), some (.int (n : Int)), some (.str (tx s01)), some (.str (tx (waveZ ns a i))), k5] ∧ Ex H H')
      (fun H2 e2 => ⟨none, rfl, e1.trans e2⟩) (fun i σ' H' hi hP => ?_) (fun σ' H' hP => ?_)
    · obtain ⟨k5, rfl, e⟩ := hP
      have hl := waveZ_len ns a i
      refine s_if (b := decide (pickZ ns (a + 2 * (i + 1)) 2 = 0)) (et_is (et_test (ev_op (ev_pick (k := a + 2 * (i + 1)) (n := 2) (ex_l e hs) (by decide) (ea_cons (ev_var rfl) (ea_cons (ev_nat (ev_op (ev_var rfl) (ev_op ev_c (ev_var rfl) (rv_I (.inl ⟨by decide, by decide⟩))) rv_I0) (by omega)) (ea_cons ev_c ea_nil)))) ev_c (rv_eq rfl))) ?_) (fun hb H2 e2 => ?_) (fun hb H2 e2 => ?_)
      · refine decide_eq_decide.mpr ⟨fun z => ?_, fun z => by rw [z]; rfl⟩
        have z' := V.int.inj z
        omega
      · have hat : atI (tx (waveZ ns a i)).cps.toList (-1) = some (cp (at_ (waveZ ns a i) i)) := by
          have hg := at_get (w := waveZ ns a i) (i := i) (by omega)
          have hd : waveZ ns a i = (waveZ ns a i).take i ++ [at_ (waveZ ns a i) i] := by
            conv => lhs; rw [← List.take_of_length_le (l := waveZ ns a i) (i := i + 1) (by omega), List.take_add_one, hg]
            rfl
          rw [tx_list]
          conv => lhs; rw [hd, List.map_append]
          exact atI_last _ _
        refine s_asg (v := .str (tx (waveZ ns a (i + 1)))) (ev_is (ev_op (ev_var rfl) (ev_op (ev_var rfl) (ev_un ev_c ru_neg) (rv_ixS (by rw [tx_len]; omega) hat)) (rv_cat (u := [at_ (waveZ ns a i) i]) (by rw [hl]; show i + 1 + 1 ≤ _; omega))) (by rw [waveZ, if_pos (of_decide_eq_true hb)])) fun H3 e3 => ⟨_, rfl, (e.trans e2).trans e3⟩
      · refine s_asg (v := .str (tx (waveZ ns a (i + 1)))) (ev_is (ev_op (ev_var rfl) (ev_strIx (ev_var rfl) (ev_pick (k := a + 2 * (i + 1) + 1) (n := 2) (ex_l (e.trans e2) hs) (by decide) (ea_cons (ev_var rfl) (ea_cons (ev_nat (ev_op (ev_op (ev_var rfl) (ev_op ev_c (ev_var rfl) (rv_I (.inl ⟨by decide, by decide⟩))) rv_I0) ev_c rv_I0) (by omega)) (ea_cons (ev_lenS (w := s01) (ev_var rfl) (by decide)) ea_nil)))) rfl (p2 _) (by decide)) (rv_cat (u := [at_ s01 (pickZ ns (a + 2 * (i + 1) + 1) 2)]) (by rw [hl]; show i + 1 + 1 ≤ _; omega))) (by rw [waveZ, if_neg (of_decide_eq_false hb)])) fun H3 e3 => ⟨_, rfl, (e.trans e2).trans e3⟩
    · obtain ⟨k5, rfl, e⟩ := hP
      have en : ((n : Int) - 1).toNat = n - 1 := by omega
      rw [en]
      exact s_ret (ev_var rfl) fun H2 e2 => q H2 (e.trans e2)
theorem ok_law_seldom (T : Tx mg) (H_law_pick : Has P w K mg base CX0 2 "_law_pick" ["_law_script", "_law_k", "_law_many"] (spPick K)) (H_law_wave : Has P w K mg base CX0 3 "_law_wave" ["_law_script", "_law_at", "_law_many", "_law_signs"] (spWave K))
    {f : Addr} {fd : FuncData} (F : Fun K "_law_seldom" "_law_seldom" s_law_seldom f fd) : FnOk P w K mg base CX0 4 f fd ["_law_script", "_law_at", "_law_many", "_law_most"] (spSeldom K) := by
  refine F.ok sc_law_seldom (fun vs H Q E h => ?_) (fun cdv A outer s H vs Q E hr h => ?_)
  · obtain ⟨l, ns, a, n, most, rfl, _⟩ := h
    rfl
  · obtain ⟨l, ns, a, n, most, rfl, hs, ⟨hn, hn2, hm⟩, q⟩ := h
    have nd := sc_law_seldom.nd
    refine ⟨_, (pss_cons (ps_set (i := 4) nd rfl (by first | exact .inl rfl | exact .inr rfl) (pe_callH H_law_wave hr (pa_cons (pv 0) (pa_cons (pv 1) (pa_cons (pv 2) (pa_cons pe_str pa_nil))))))
      (pss_cons (ps_for PassesOwn.never rfl (pi_range1 (by rfl) T.range (pa_cons (pe_callH H_law_pick hr (pa_cons (pv 0) (pa_cons (pe_op op_add (pv 1) pe_int) (pa_cons (pe_op op_add (pv 3) pe_int) pa_nil)))) pa_nil)) (pg_name (i := 5) nd rfl (by first | exact .inl rfl | exact .inr rfl))
      (pss_cons (ps_set (i := 6) nd rfl (by first | exact .inl rfl | exact .inr rfl) (pe_callH H_law_pick hr (pa_cons (pv 0) (pa_cons (pe_op op_add (pe_op op_add (pv 1) pe_int) (pv 5)) (pa_cons (pv 2) pa_nil)))))
      (pss_one (ps_set (i := 4) nd rfl (by first | exact .inl rfl | exact .inr rfl) (pe_op op_add_str (pe_op op_add_str (pe_slice sl_str (pv 4) po_none (po_some (pv 6))) pe_str) (pe_slice sl_str (pv 4) (po_some (pe_op op_add (pv 6) pe_int)) po_none))))))
      (pss_one (ps_ret (pv 4))))), ?_⟩
    refine q_asg (v := .str (tx (seldomZ ns a n 0))) (ev_call (vs := [.ref l, .int (a : Int), .int (n : Int), .str (tx s01)]) (ea_cons (ev_var rfl) (ea_cons (ev_var rfl) (ea_cons (ev_var rfl) (ea_cons (ev_is ev_c (by rw [e01]; rfl)) ea_nil)))) fun H1 e Q' q' _ => ⟨l, ns, a, n, rfl, ex_l e hs, ⟨hn, hn2⟩, q'⟩) fun H1 e1 => ?_
    refine q_forR1 (n := (pickZ ns (a + 40) (most + 1) : Int)) (ea_cons (ev_pick (k := a + 40) (n := most + 1) (ex_l e1 hs) (by omega) (ea_cons (ev_var rfl) (ea_cons (ev_nat (ev_op (ev_var rfl) ev_c rv_I0) (by omega)) (ea_cons (ev_nat (ev_op (ev_var rfl) ev_c rv_I0) (by omega)) ea_nil)))) ea_nil) (by have := pickZ_lt ns (a + 40) (show 0 < most + 1 by omega); omega)
      (fun i σ' H' => ∃ k5 k6, σ' = [some (.ref l), some (.int (a : Int)), some (.int (n : Int)), some (.int (most : Int)), some (.str (tx (seldomZ ns a n i))), k5, k6] ∧ Ex H H')
      (fun H2 e2 => ⟨none, none, rfl, e1.trans e2⟩) (fun i σ' H' hi hP => ?_) (fun σ' H' hP => ?_)
    · obtain ⟨k5, k6, rfl, e⟩ := hP
      have hl := seldomZ_len ns a hn i
      have ht := pickZ_lt ns (a + 41 + i) hn
      refine q_asg (ev_pick (k := a + 41 + i) (n := n) (ex_l e hs) hn (ea_cons (ev_var rfl) (ea_cons (ev_nat (ev_op (ev_op (ev_var rfl) ev_c rv_I0) (ev_var rfl) rv_I0) (by omega)) (ea_cons (ev_var rfl) ea_nil)))) fun H2 e2 => ?_
      refine s_asg (v := .str (tx (seldomZ ns a n (i + 1)))) (ev_op (ev_op (ev_is (ev_sl (ev_var rfl) eo_none (eo_some (ev_var rfl)) (by omega)) (by rw [cut_to _ _ (by omega)])) (ev_is (w := .str (tx [.x])) ev_c (by rw [ex_]; rfl)) (rv_cat (by rw [List.length_take]; show _ + 1 ≤ _; omega)))
        (ev_is (ev_sl (ev_var rfl) (eo_some (ev_nat (j := ((pickZ ns (a + 41 + i) n + 1 : Nat) : Int)) (ev_op (ev_var rfl) ev_c rv_I0) (by omega))) eo_none (by omega)) (by rw [cut_from _ _ (by omega)])) (rv_cat (by rw [List.length_append, List.length_take, List.length_drop]; show _ + 1 + _ ≤ _; omega))) fun H3 e3 => ⟨_, _, rfl, (e.trans e2).trans e3⟩
    · obtain ⟨k5, k6, rfl, e⟩ := hP
      rw [Int.toNat_natCast]
      exact s_ret (ev_var rfl) fun H2 e2 => q H2 (e.trans e2)
end
end Kt

/-! Fj: _law_can_be. -/
namespace Kt
open PySem PySem.Spec PyProof.Rows L2 Evl
/-! _law_can_be: slots 0 _law_wave_here, 1 _law_made, 2 _law_level, 3 _law_longer, 4 _law_ahead, 5 _law_sign; cells  -/
abbrev s_law_can_be : Stmt := topS 37
abbrev N_law_can_be : List Str := ["_law_wave_here", "_law_made", "_law_level", "_law_longer", "_law_ahead", "_law_sign"]
theorem sc_law_can_be : FnScope N_law_can_be ["_law_wave_here"] (defScope s_law_can_be) := ⟨rfl, rfl, rfl, by decide +kernel, rfl, by decide +kernel, by decide +kernel⟩
theorem aks_all_len {w : List Lv} {i : Nat} {u : List Lv} (h : u ∈ aks (w.take i)) : u.length ≤ w.length := by
  rw [aks_mem_len u h, List.length_take]
  omega
section
variable {P : Program} {w : World} {K : PySem.W.Frag} {mg : Str → Option Value} {base : Heap} {σ : L2.St} {H : Hp} {ta tb te : TE} {tr : TA} {tu tz : TS} {D : Ends}
theorem s_forS {v : List Lv} {j : Nat} (h : Ev te σ H (.str (tx v))) (Pv : Nat → L2.St → Hp → Prop) (h0 : ∀ H1, Ex H H1 → Pv 0 σ H1)
    (hs : ∀ i a σ' H', v[i]? = some a → Pv i σ' H' → tu { D with nx := Pv (i + 1), ct := Pv (i + 1), bk := D.nx } (σ'.set j (some (.str (sg a)))) H') (he : ∀ σ' H', Pv v.length σ' H' → D.nx σ' H') : tFor (iStr te) (gName j) tu D σ H :=
  h H (Ex.refl H) _ fun H2 e2 => by
  have hsz : (tx v).cps.size = v.length := tx_len v
  refine ⟨tx v, rfl, fun i m σ' H' => m = v.length - i ∧ i ≤ v.length ∧ Pv i σ' H', ⟨v.length, by omega, Nat.zero_le _, h0 H2 e2⟩, ?_⟩
  rintro i m σ' H' ⟨rfl, hi, p⟩
  by_cases hlt : i < v.length
  · obtain ⟨a, ha⟩ := lt_get hlt
    refine .inr ⟨show i < (tx v).cps.size by rw [hsz]; exact hlt, Pv (i + 1), fun σ3 H3 q => ⟨v.length - (i + 1), by omega, rfl, hlt, q⟩, fun x H'' y => ?_⟩
    obtain ⟨rfl, c, hc, rfl⟩ := y
    have hc' : (v.map cp).toArray[i]? = some c := hc
    rw [List.getElem?_toArray, List.getElem?_map, ha] at hc'
    obtain rfl : cp a = c := Option.some.inj hc'
    exact hs i a σ' H'' ha p
  · obtain rfl : i = v.length := by omega
    exact .inl ⟨show (tx v).cps.size ≤ v.length by rw [hsz]; exact Nat.le_refl _, he σ' H' p⟩
theorem q_cutS {v : List Lv} {j : Nat} (h : Ev te σ H (.str (tx v))) (Pv : Nat → L2.St → Hp → Prop) (h0 : ∀ H1, Ex H H1 → Pv 0 σ H1)
    (hs : ∀ i a σ' H', v[i]? = some a → Pv i σ' H' → tu { D with nx := Pv (i + 1), ct := Pv (i + 1), bk := tz D } (σ'.set j (some (.str (sg a)))) H') (he : ∀ σ' H', Pv v.length σ' H' → tz D σ' H') : tSeq (tFor (iStr te) (gName j) tu) tz D σ H := s_forS (D := { D with nx := tz D }) h Pv h0 hs he
theorem opts_if {a : Lv} (h : Ev te σ H (.str (sg a))) : Ev (tIf (tTest (tOp rEq te (tC (.str (Str.ofString "x"))))) (tC (.str (Str.ofString "01"))) te) σ H (.str (tx (opts a))) :=
  ev_if (b := decide (a = .x)) (et_is (et_test (ev_op h ev_c (rv_eq rfl))) (by rw [ex_, dec_sg])) (fun hb => ev_is ev_c (by rw [e01, of_decide_eq_true hb]; rfl)) (fun hb => ev_is h (by rw [opts, if_neg (of_decide_eq_false hb), sg_tx]))
theorem txs_len (m : List (List Lv)) : (txs m).length = m.length := by unfold txs; rw [List.length_map]
theorem txs_app (m n : List (List Lv)) : txs m ++ txs n = txs (m ++ n) := by unfold txs; rw [List.map_append]
theorem ok_law_can_be (T : Tx mg) {f : Addr} {fd : FuncData} (F : Fun K "_law_can_be" "_law_can_be" s_law_can_be f fd) : FnOk P w K mg base CX0 1 f fd ["_law_wave_here"] spAll := by
  refine F.ok sc_law_can_be (fun vs H Q E h => ?_) (fun cdv A outer s H vs Q E hr h => ?_)
  · obtain ⟨wv, rfl, _⟩ := h
    rfl
  · obtain ⟨wv, rfl, ⟨hl, hx⟩, q⟩ := h
    have nd := sc_law_can_be.nd
    refine ⟨_, (pss_cons (ps_set (i := 1) nd rfl (by first | exact .inl rfl | exact .inr rfl) (pe_lst (pa_cons pe_str pa_nil)))
      (pss_cons (ps_for PassesOwn.never rfl (pi_str (pv 0)) (pg_name (i := 2) nd rfl (by first | exact .inl rfl | exact .inr rfl))
      (pss_cons (ps_set (i := 3) nd rfl (by first | exact .inl rfl | exact .inr rfl) (pe_lst pa_nil))
      (pss_cons (ps_for PassesOwn.never rfl (pi_list (pv 1)) (pg_name (i := 4) nd rfl (by first | exact .inl rfl | exact .inr rfl))
      (pss_one (ps_for PassesOwn.never rfl (pi_str (pe_ifExp (pt_cmpR op_eq (pv 2) pe_str (nomark _)) pe_str (pv 2))) (pg_name (i := 5) nd rfl (by first | exact .inl rfl | exact .inr rfl))
      (pss_one (ps_expr (pe_bm PySem.F.plainAttrs_list PySem.F.slot_list_append PySem.F.type_list_append mt_append (pv 3) (pa_cons (pe_op op_add_str (pv 4) (pv 5)) pa_nil)))))))
      (pss_one (ps_set (i := 1) nd rfl (by first | exact .inl rfl | exact .inr rfl) (pv 3))))))
      (pss_one (ps_ret (pv 1))))), ?_⟩
    refine q_asgL (xs := txs (aks (wv.take 0))) (evL_is (el_lst (ea_cons ev_c ea_nil) (by show 1 ≤ 100000; decide)) (by rw [eE]; rfl)) fun m H1 hm e1' h1 => ?_
    refine q_cutS (v := wv) (ev_var rfl) (fun i σ' H' => ∃ p k2 k3 k4 k5, σ' = [some (.str (tx wv)), some (.ref p), k2, k3, k4, k5] ∧ H p = none ∧ Ex H H' ∧ H' p = some (.lst (txs (aks (wv.take i)))))
      (fun H2 e2 => ⟨m, _, _, _, _, rfl, hm, e1'.trans e2, e2 _ _ h1⟩) (fun i a σ' H' hi hP => ?_) (fun σ' H' hP => ?_)
    · obtain ⟨p, k2, k3, k4, k5, rfl, hn, e, hp⟩ := hP
      refine q_asgL (el_lst ea_nil (Nat.zero_le _)) fun lo H4 hlo e4 h4 => ?_
      have hp4 : H4 p = some (.lst (txs (aks (wv.take i)))) := e4 _ _ hp
      have npl : p ≠ lo := fun z => by rw [← z, hp] at hlo; cases hlo
      have hc6 : cx (wv.take i) ≤ 6 := Nat.le_trans (cx_take_le _ _) hx
      have hal : (aks (wv.take i)).length ≤ 64 := by rw [aks_len]; exact pow6 hc6
      have hB : SqL K (del H4 lo) p (txs (aks (wv.take i))) := sql_del (sq_of hp4) npl
      have hol : (opts a).length ≤ 2 := by rw [opts_len]; split <;> omega
      have fl : ∀ j, (((aks (wv.take i)).take j).flatMap (grow1 a)).length ≤ 64 * 2 := fun j => by
        have z := grow_len ((aks (wv.take i)).take j) a
        unfold grow at z
        rw [z, List.length_take]
        exact Nat.mul_le_mul (by omega) (by split <;> omega)
      refine q_forLn (a := p) (xs := txs (aks (wv.take i))) (ev_var rfl) (sq_of hp4) (fun j σ3 H5 => ∃ k4 k5, σ3 = [some (.str (tx wv)), some (.ref p), some (.str (sg a)), some (.ref lo), k4, k5] ∧ Ex (del H4 lo) H5 ∧ H5 lo = some (.lst (txs (((aks (wv.take i)).take j).flatMap (grow1 a)))))
        (fun H5 e5 => ⟨_, _, rfl, ex_del.trans e5, e5 _ _ h4⟩) (fun j σ3 H5 _ hP => ?_) (fun j y σ3 H5 hj hP => ?_) (fun σ3 H5 hP => ?_)
      · obtain ⟨_, _, rfl, e5, _⟩ := hP
        exact ex_l e5 hB
      · obtain ⟨k4, k5, rfl, e5, h5⟩ := hP
        obtain ⟨hh, hj', rfl⟩ : ∃ hh, (aks (wv.take i))[j]? = some hh ∧ y = .str (tx hh) := by
          unfold txs at hj
          rw [List.getElem?_map] at hj
          cases q : (aks (wv.take i))[j]? with
          | none => rw [q] at hj; cases hj
          | some u => rw [q] at hj; exact ⟨u, rfl, (Option.some.inj hj).symm⟩
        have hhl : hh.length ≤ 12 := Nat.le_trans (aks_all_len (List.mem_of_getElem? hj')) hl
        refine s_forS (v := opts a) (opts_if (ev_var rfl)) (fun r σ5 H6 => ∃ k5, σ5 = [some (.str (tx wv)), some (.ref p), some (.str (sg a)), some (.ref lo), some (.str (tx hh)), k5] ∧ Ex (del H4 lo) H6 ∧ H6 lo = some (.lst (txs (((aks (wv.take i)).take j).flatMap (grow1 a) ++ ((opts a).take r).map fun c => hh ++ [c]))))
          (fun H6 e6 => ⟨_, rfl, e5.trans e6, by rw [List.take_zero, List.map_nil, List.append_nil]; exact e6 _ _ h5⟩) (fun r c σ5 H6 hr' hP => ?_) (fun σ5 H6 hP => ?_)
        · obtain ⟨k5, rfl, e6, h6⟩ := hP
          refine s_app h6 (ev_var rfl) (ev_op (ev_var rfl) (ev_var rfl) (rv_cat (u := [c]) (by show hh.length + 1 ≤ _; omega))) ?_ fun H7 e7 => ⟨_, rfl, Ex.mut (e6.trans e7) del_same, ?_⟩
          · have z := fl j
            rw [txs, List.length_map, List.length_append, List.length_map, List.length_take]
            omega
          · rw [upd_same, List.take_add_one, hr', List.map_append, ← List.append_assoc]
            exact congrArg (fun z => some (HO.lst z)) (txs_app _ [hh ++ [c]])
        · obtain ⟨k5, rfl, e6, h6⟩ := hP
          refine ⟨_, _, rfl, e6, ?_⟩
          rw [h6, List.take_length, List.take_add_one, hj', List.flatMap_append]
          show _ = some (HO.lst (txs (_ ++ List.flatMap (grow1 a) [hh])))
          rw [List.flatMap_cons, List.flatMap_nil, List.append_nil]
          rfl
      · obtain ⟨k4, k5, rfl, e5, h5⟩ := hP
        rw [txs_len, List.take_length] at h5
        refine s_asg (ev_var rfl) fun H6 e6 => ⟨lo, _, _, _, _, rfl, fresh_back e hlo, ?_, ?_⟩
        · refine Ex.trans (fun b o hb => ?_) (e5.trans e6)
          rw [del_ne (fun z => by rw [z] at hb; rw [e _ _ hb] at hlo; cases hlo)]
          exact e4 _ _ (e _ _ hb)
        · rw [e6 _ _ h5, aks_take_succ hi]; rfl
    · obtain ⟨p, k2, k3, k4, k5, rfl, hn, e, hp⟩ := hP
      rw [List.take_length] at hp
      exact s_ret (ev_var rfl) fun H2 e2 => q p H2 hn (e.trans e2) (e2 _ _ hp)
end
end Kt

/-! Fk: _law_sheet, _law_short, _law_rule. -/
namespace Kt
open PySem PySem.Spec PyProof.Rows L2 Evl
/-! _law_sheet: slots 0 _law_script, 1 _law_at, 2 _law_names, 3 _law_many, 4 _law_most, 5 _law_k, 6 _law_name; cells _law_at _law_many _law_most _law_script -/
abbrev s_law_sheet : Stmt := topS 38
abbrev N_law_sheet : List Str := ["_law_script", "_law_at", "_law_names", "_law_many", "_law_most", "_law_k", "_law_name"]
theorem sc_law_sheet : FnScope N_law_sheet ["_law_script", "_law_at", "_law_names", "_law_many", "_law_most"] (defScope s_law_sheet) := ⟨rfl, rfl, rfl, by decide +kernel, rfl, by decide +kernel, by decide +kernel⟩
/-! _law_short: slots 0 _law_wave_here, 1 _law_level, 2 _law_many, 3 _law_made, 4 _law_k, 5 _law_end; cells  -/
abbrev s_law_short : Stmt := topS 40
abbrev N_law_short : List Str := ["_law_wave_here", "_law_level", "_law_many", "_law_made", "_law_k", "_law_end"]
theorem sc_law_short : FnScope N_law_short ["_law_wave_here", "_law_level", "_law_many"] (defScope s_law_short) := ⟨rfl, rfl, rfl, by decide +kernel, rfl, by decide +kernel, by decide +kernel⟩
/-! _law_rule: slots 0 _law_script, 1 _law_at, 2 _law_names, 3 _law_one, 4 _law_other, 5 _law_low, 6 _law_rules; cells  -/
abbrev s_law_rule : Stmt := topS 41
abbrev N_law_rule : List Str := ["_law_script", "_law_at", "_law_names", "_law_one", "_law_other", "_law_low", "_law_rules"]
theorem sc_law_rule : FnScope N_law_rule ["_law_script", "_law_at", "_law_names"] (defScope s_law_rule) := ⟨rfl, rfl, rfl, by decide +kernel, rfl, by decide +kernel, by decide +kernel⟩
/-! ### mirrors -/
def shA (ns : List Int) (a n most : Nat) : Sh := sh (selZ ns a n most) (selZ ns (a + 60) n most)
def abV : List V := [.str nA, .str nB]
def spLSheet (K : PySem.W.Frag) : Sp := fun vs H Q _ => ∃ (l nl : Addr) (ns : List Int) (a n most : Nat), vs = [.ref l, .int (a : Int), .ref nl, .int (n : Int), .int (most : Int)] ∧ SqL K H l (ns.map V.int) ∧ SqL K H nl abV ∧ (0 < n ∧ n ≤ 12 ∧ most ≤ 10) ∧ RetN (dsheet (shA ns a n most)) H Q
def RetE (o : HO) (H : Hp) (Q : VK) : Prop := ∀ p H2, Ex H H2 → H2 p = some o → Q (.ref p) H2
/-- where the run that starts at k ends -/
def runE (w : List Lv) (k : Nat) : Nat → Nat → Nat
  | 0, e => e
  | f + 1, e => if decide (e < w.length) && decide (at_ w e = at_ w k) then runE w k f (e + 1) else e
def lshort1 (w : List Lv) (a : Lv) (m k : Nat) : Bool := decide (at_ w k = a) && (!decide (at_ w (k - 1) = a) && (decide (runE w k (w.length - k) k < w.length) && decide ((runE w k (w.length - k) k : Int) - (k : Int) < (m : Int))))
def lshortTo (w : List Lv) (a : Lv) (m n : Nat) : List Nat := (List.range' 1 n).filter (lshort1 w a m)
def lshortM (w : List Lv) (a : Lv) (m : Nat) : List Nat := lshortTo w a m (w.length - 1)
def spLShort : Sp := fun vs H Q _ => ∃ (w : List Lv) (a : Lv) (m : Nat), vs = [.str (tx w), .str (sg a), .int (m : Int)] ∧ (1 ≤ w.length ∧ w.length ≤ 12) ∧ RetL (niv (lshortM w a m)) H Q
def b2 (ns : List Int) (k : Nat) : Bool := decide (pickZ ns k 2 = 1)
def rules (ns : List Int) (a : Nat) : List Rl := [.never (b2 ns a) (b2 ns (a + 1)), .after (b2 ns a) (b2 ns (a + 1)) (pickZ ns (a + 2) 3) (pickZ ns (a + 2) 3 + pickZ ns (a + 3) 3), .long (b2 ns a) (at_ s01 (pickZ ns (a + 4) 2)) (1 + pickZ ns (a + 5) 4), .still (b2 ns a) (b2 ns (a + 1)), .turns (b2 ns a) (b2 ns (a + 1))]
def ruleZ (ns : List Int) (a : Nat) : Rl := (rules ns a).getD (pickZ ns (a + 6) 5) (.never true true)
def spLRule (K : PySem.W.Frag) : Sp := fun vs H Q _ => ∃ (l nl : Addr) (ns : List Int) (a : Nat), vs = [.ref l, .int (a : Int), .ref nl] ∧ SqL K H l (ns.map V.int) ∧ SqL K H nl abV ∧ RetE (.tup (rlV (ruleZ ns a))) H Q
theorem runE_stop {w : List Lv} {k e : Nat} (f : Nat) (h : (decide (e < w.length) && decide (at_ w e = at_ w k)) = false) : runE w k f e = e := by
  cases f with
  | zero => rfl
  | succ f => rw [runE, if_neg (by rw [h]; exact Bool.false_ne_true)]
theorem merge_sh (w1 w2 : List Lv) : mergeK [] (kvs (sh w1 w2)) = kvs (sh w1 w2) := by
  show putK (putK ([] : List (Key × V)) (Sum.inr nA) (V.str (tx w1))) (Sum.inr nB) (V.str (tx w2)) = _
  have e1 : putK ([] : List (Key × V)) (Sum.inr nA) (V.str (tx w1)) = kvs [(nA, w1)] := put_new (l := []) rfl
  rw [e1, put_new (getW_none (n := nB) fun p hp => by rw [List.mem_singleton] at hp; rw [hp]; exact nAB)]
  rfl
section
variable {P : Program} {w : World} {K : PySem.W.Frag} {mg : Str → Option Value} {base : Heap} {σ : L2.St} {H : Hp} {ta tb te : TE} {tr : TA} {tu tz : TS} {D : Ends}
theorem pair_of {o : Str × List Lv → HO} (ho : ∀ q, o q = .tup [.str q.1, .str (tx q.2)]) : ∀ {L : List (Addr × (Str × List Lv))}, OL o H L → Paired (fun p (kv : Key × V) => SqT K H p [kV kv.1, kv.2]) (L.map (·.1)) (kvs (L.map (·.2)))
  | [], _ => .nil
  | q :: L, h => .cons (st_of (by rw [h q List.mem_cons_self, ho]; rfl)) (pair_of ho fun u hu => h u (List.mem_cons_of_mem _ hu))
theorem en_dictP {o : Str × List Lv → HO} (ho : ∀ q, o q = .tup [.str q.1, .str (tx q.2)]) {w1 w2 : List Lv} (h : EvO_ te σ H o (sh w1 w2)) : EvN (tCB (fun xs H Q => ∃ (a : Addr) (ps : List Addr) (kvs : List (Key × V)), xs = [.ref a] ∧ SqL K H a (ps.map V.ref) ∧ Paired (fun p kv => SqT K H p [kV kv.1, kv.2]) ps kvs ∧
    ∀ p, H p = none → Q (.ref p) (upd H p (.dK (mergeK [] kvs)))) (tCons te tNil)) σ H (dsheet (sh w1 w2)) := fun H1 e Q q =>
  h H1 e _ fun p L H2 hp e2 hL h2 hO => ⟨p, L.map (·.1), kvs (sh w1 w2), rfl, by
      rw [List.map_map]
      exact sq_of h2, by rw [← hL]; exact pair_of ho hO, fun r hr => q r _ (fresh_back e2 hr) (e2.trans (Ex.new hr)) (by rw [upd_same, merge_sh]; rfl)⟩
theorem ok_law_sheet (T : Tx mg) (H_law_seldom : Has P w K mg base CX0 4 "_law_seldom" ["_law_script", "_law_at", "_law_many", "_law_most"] (spSeldom K)) {f : Addr} {fd : FuncData} (F : Fun K "_law_sheet" "_law_sheet" s_law_sheet f fd) :
    FnOk P w K mg base CX0 5 f fd ["_law_script", "_law_at", "_law_names", "_law_many", "_law_most"] (spLSheet K) := by
  refine F.ok sc_law_sheet (fun vs H Q E h => ?_) (fun cdv A outer s H vs Q E hr h => ?_)
  · obtain ⟨l, nl, ns, a, n, most, rfl, _⟩ := h
    rfl
  · obtain ⟨l, nl, ns, a, n, most, rfl, hs, hn, ⟨h1, h2, h3⟩, q⟩ := h
    have nd := sc_law_sheet.nd
    refine ⟨_, (pss_one (ps_ret (pe_callTy (call_dictP rfl) (by rfl) T.dict (by decide +kernel) (pa_cons (pe_lc (own := [("_law_k", 5), ("_law_name", 6)]) (g := (gTup K 2 (gCons (gName 5) (gCons (gName 6) gNil)))) rfl nd (pi_enum (by rfl) T.enumerate (pa_cons (pv 2) pa_nil)) (blkOk_by (own := [("_law_k", 5), ("_law_name", 6)]) (N := N_law_sheet) (sc := defScope s_law_sheet) (by decide +kernel)) (fun _ _ _ _ _ => (pg_tup rfl (pgs_cons (pg_name (i := 5) nd rfl (by first | exact .inl rfl | exact .inr rfl)) (pgs_cons (pg_name (i := 6) nd rfl (by first | exact .inl rfl | exact .inr rfl)) pgs_nil)))) (fun _ _ _ _ _ => pts_nil) (fun _ _ _ _ _ => (pe_tup (pa_cons (pv 6) (pa_cons (pe_callH H_law_seldom hr (pa_cons (pv 0) (pa_cons (pe_op op_add (pv 1) (pe_op op_mul pe_int (pv 5))) (pa_cons (pv 3) (pa_cons (pv 4) pa_nil))))) pa_nil))))) pa_nil)))), ?_⟩
    refine s_retN (en_dictP (o := fun q => .tup [.str q.1, .str (tx q.2)]) (fun _ => rfl) (eo_lc0 (l := [nA, nB].zipIdx) (fun p : Str × Nat => (p.1, selZ ns (a + 60 * p.2) n most)) (fun q => .tup [.str q.1, .str (tx q.2)]) (ei_enum (l := [nA, nB]) (φ := V.str) (ea_cons (ev_var rfl) ea_nil) hn) (by decide) fun x v H1 hx e r => ?_)) q
    obtain ⟨p, rfl, hp⟩ := r
    refine ⟨_, tg_tup2 (st_of hp), rfl, evN_U (eu_tup (ea_cons (ev_var rfl) (ea_cons (ev_call (vs := [.ref l, .int ((a + 60 * x.2 : Nat) : Int), .int (n : Int), .int (most : Int)]) (ea_cons (ev_var rfl) (ea_cons (ev_nat (ev_op (ev_var rfl) (ev_op ev_c (ev_var rfl) (rv_I (.inl ⟨by decide, by decide⟩))) rv_I0) (by omega)) (ea_cons (ev_var rfl) (ea_cons (ev_var rfl) ea_nil)))) fun H2 e2 Q' q' _ => ⟨l, ns, _, n, most, rfl, ex_l (e.trans e2) hs, ⟨h1, h2, h3⟩, q'⟩) ea_nil)) (by show 2 ≤ 100000; decide))⟩
theorem ok_law_short (T : Tx mg) {f : Addr} {fd : FuncData} (F : Fun K "_law_short" "_law_short" s_law_short f fd) : FnOk P w K mg base CX0 1 f fd ["_law_wave_here", "_law_level", "_law_many"] spLShort := by
  refine F.ok sc_law_short (fun vs H Q E h => ?_) (fun cdv A outer s H vs Q E hr h => ?_)
  · obtain ⟨wv, a, m, rfl, _⟩ := h
    rfl
  · obtain ⟨wv, a, m, rfl, ⟨hl1, hl⟩, q⟩ := h
    have nd := sc_law_short.nd
    refine ⟨_, (pss_cons (ps_set (i := 3) nd rfl (by first | exact .inl rfl | exact .inr rfl) (pe_lst pa_nil))
      (pss_cons (ps_for PassesOwn.never rfl (pi_range2 (by rfl) T.range (pa_cons pe_int (pa_cons (pe_callB call_len_str (by rfl) T.len PySem.boot_len (pa_cons (pv 0) pa_nil)) pa_nil))) (pg_name (i := 4) nd rfl (by first | exact .inl rfl | exact .inr rfl))
      (pss_cons (ps_set (i := 5) nd rfl (by first | exact .inl rfl | exact .inr rfl) (pv 4))
      (pss_cons (ps_while PassesOwn.never (PW.pt (pw_and (pt_cmpR op_lt (pv 5) (pe_callB call_len_str (by rfl) T.len PySem.boot_len (pa_cons (pv 0) pa_nil)) (nomark _)) (pw_and1 (pt_cmpR op_eq (pe_ix ix_str (pv 0) (pv 5) (fun _ _ => rfl)) (pe_ix ix_str (pv 0) (pv 4) (fun _ _ => rfl)) (nomark _))))) (pss_one (ps_set (i := 5) nd rfl (by first | exact .inl rfl | exact .inr rfl) (pe_op op_add (pv 5) pe_int))))
      (pss_one (ps_if (PW.pt (pw_and (pt_cmpR op_eq (pe_ix ix_str (pv 0) (pv 4) (fun _ _ => rfl)) (pv 1) (nomark _)) (pw_and (pt_cmpR op_ne (pe_ix ix_str (pv 0) (pe_op op_sub (pv 4) pe_int) (fun _ _ => rfl)) (pv 1) (nomark _)) (pw_and (pt_cmpR op_lt (pv 5) (pe_callB call_len_str (by rfl) T.len PySem.boot_len (pa_cons (pv 0) pa_nil)) (nomark _)) (pw_and1 (pt_cmpR op_lt (pe_op op_sub (pv 5) (pv 4)) (pv 2) (nomark _))))))) (pss_one (ps_expr (pe_bm PySem.F.plainAttrs_list PySem.F.slot_list_append PySem.F.type_list_append mt_append (pv 3) (pa_cons (pv 4) pa_nil)))) pss_nil)))))
      (pss_one (ps_ret (pv 3))))), ?_⟩
    refine q_asgL (el_lst ea_nil (Nat.zero_le _)) fun mk H1 hmk e1 h1 => ?_
    refine q_forR2 (lo := 1) (n := (wv.length : Int)) (ea_cons ev_c (ea_cons (ev_lenS (ev_var rfl) (by omega)) ea_nil)) ⟨by omega, by omega, by omega, by omega⟩
      (fun i σ' H' => ∃ k4 k5, σ' = [some (.str (tx wv)), some (.str (sg a)), some (.int (m : Int)), some (.ref mk), k4, k5] ∧ Ex H H' ∧ H' mk = some (.lst (niv (lshortTo wv a m i))))
      (fun H2 e2 => ⟨none, none, rfl, e1.trans e2, e2 _ _ h1⟩) (fun i σ' H' hi hP => ?_) (fun σ' H' hP => ?_)
    · obtain ⟨k4, k5, rfl, e, hm⟩ := hP
      have hk : 1 + i < wv.length := by omega
      have ek : (1 : Int) + (i : Int) = ((1 + i : Nat) : Int) := by omega
      refine q_asg (ev_var rfl) fun H2 e2 => ?_
      refine q_while (fun mm σ3 H3 => ∃ en : Nat, mm = wv.length - en ∧ (1 + i ≤ en ∧ en ≤ wv.length) ∧ σ3 = [some (.str (tx wv)), some (.str (sg a)), some (.int (m : Int)), some (.ref mk), some (.int (1 + (i : Int))), some (.int (en : Int))] ∧ Ex H' H3 ∧ runE wv (1 + i) (wv.length - en) en = runE wv (1 + i) (wv.length - (1 + i)) (1 + i))
        (wv.length - (1 + i)) ⟨1 + i, rfl, ⟨Nat.le_refl _, by omega⟩, by rw [← ek]; rfl, e2, rfl⟩ (fun mm σ3 H3 hw => ?_)
      obtain ⟨en, rfl, ⟨g1, g2⟩, rfl, e3, hrun⟩ := hw
      refine ⟨decide (en < wv.length) && decide (at_ wv en = at_ wv (1 + i)), et_and (et_is (et_test (ev_op (ev_var rfl) (ev_lenS (ev_var rfl) (by omega)) rv_I0)) (decide_eq_decide.mpr (by omega))) fun hb => et_is (et_test (ev_op (ev_strIx (i := en) (ev_var rfl) (ev_var rfl) rfl (of_decide_eq_true hb) (by omega)) (ev_strIx (i := 1 + i) (ev_var rfl) (ev_var rfl) ek hk (by omega)) (rv_eq rfl))) (dec_sg _ _), fun hb H4 e4 => ?_, fun hb H4 e4 => ?_⟩
      · have hen : en < wv.length := by
          rw [Bool.and_eq_true] at hb
          exact of_decide_eq_true hb.1
        refine ⟨fun σ5 H5 => σ5 = [some (.str (tx wv)), some (.str (sg a)), some (.int (m : Int)), some (.ref mk), some (.int (1 + (i : Int))), some (.int ((en + 1 : Nat) : Int))] ∧ Ex H' H5, fun σ5 H5 hN => ⟨wv.length - (en + 1), by omega, en + 1, rfl, ⟨by omega, by omega⟩, hN.1, hN.2, ?_⟩, ?_⟩
        · rw [← hrun, show wv.length - en = (wv.length - (en + 1)) + 1 by omega, runE, if_pos hb]
        · exact s_asg (ev_nat (j := ((en + 1 : Nat) : Int)) (ev_op (ev_var rfl) ev_c rv_I0) (by omega)) fun H5 e5 => ⟨rfl, (e3.trans e4).trans e5⟩
      · rw [runE_stop _ hb] at hrun
        have e5 := e3.trans e4
        refine s_when (b := lshort1 wv a m (1 + i)) (et_is (et_and (et_is (et_test (ev_op (ev_strIx (i := 1 + i) (ev_var rfl) (ev_var rfl) ek hk (by omega)) (ev_var rfl) (rv_eq rfl))) (dec_sg _ _)) fun _ => et_and (et_is (et_test (ev_op (ev_strIx (i := i) (ev_var rfl) (ev_op (ev_var rfl) ev_c rv_I0) (by omega) (by omega) (by omega)) (ev_var rfl) (rv_ne rfl))) (by rw [dec_sg])) fun _ => et_and (et_is (b := decide (en < wv.length)) (et_test (ev_op (ev_var rfl) (ev_lenS (ev_var rfl) (by omega)) rv_I0)) (decide_eq_decide.mpr (by omega))) fun _ => et_test (ev_op (ev_op (ev_var rfl) (ev_var rfl) rv_I0) (ev_var rfl) rv_I0)) ?_) (fun hb2 H6 e6 => ?_) (fun hb2 H6 e6 => ?_)
        · rw [lshort1, ← hrun, Nat.add_sub_cancel_left, ek]
        · have hst : lshortTo wv a m (i + 1) = lshortTo wv a m i ++ [1 + i] := by
            unfold lshortTo
            rw [List.range'_concat, List.filter_append, Nat.one_mul, List.filter_cons, if_pos hb2]
            rfl
          refine s_app (e6 _ _ (e5 _ _ hm)) (ev_var rfl) (ev_var rfl) (by
            rw [niv_len]
            refine Nat.lt_of_le_of_lt (len_filter _ _ (n := i) (by rw [List.length_range']; exact Nat.le_refl _)) (by omega)) fun H7 e7 => ⟨_, _, rfl, Ex.mut (((e.trans e5).trans e6).trans e7) hmk, ?_⟩
          rw [upd_same, hst, niv_app, ek]
          rfl
        · have hst : lshortTo wv a m (i + 1) = lshortTo wv a m i := by
            unfold lshortTo
            rw [List.range'_concat, List.filter_append, Nat.one_mul, List.filter_cons, if_neg (by rw [hb2]; exact Bool.false_ne_true)]
            exact List.append_nil _
          exact ⟨_, _, rfl, (e.trans e5).trans e6, by rw [hst]; exact e6 _ _ (e5 _ _ hm)⟩
    · obtain ⟨k4, k5, rfl, e, hm⟩ := hP
      refine s_ret (ev_var rfl) fun H2 e2 => q mk H2 hmk (e.trans e2) (e2 _ _ ?_)
      rw [hm, show ((wv.length : Int) - 1).toNat = wv.length - 1 by omega]
      rfl
theorem nm_pick (ns : List Int) (k : Nat) : abV[pickZ ns k 2]? = some (.str (nm (b2 ns k))) := by
  have h := pickZ_lt ns k (show 0 < 2 by decide)
  unfold b2
  generalize pickZ ns k 2 = z at h
  match z, h with
  | 0, _ => rfl
  | 1, _ => rfl
theorem get_rule (ns : List Int) (a : Nat) : (rules ns a)[pickZ ns (a + 6) 5]? = some (ruleZ ns a) := by
  have h := pickZ_lt ns (a + 6) (show 0 < 5 by decide)
  unfold ruleZ
  rw [List.getD_eq_getElem?_getD, List.getElem?_eq_getElem (show _ < (rules ns a).length from h)]
  rfl
theorem rlV_len (r : Rl) : (rlV r).length ≤ 5 := by
  cases r <;> simp [rlV]
/-- a list of new tuples -/
def rlO (r : Rl) : HO := .tup (rlV r)
theorem ev_rv {ta' : TA} {r : Rl} (h : EvA ta' σ H (rlV r)) : EvN (tTup ta') σ H (rlO r) := evN_U (eu_tup h (Nat.le_trans (rlV_len r) (by decide)))
theorem eo_one {α : Type} {o : α → HO} {m : α} (h : EvN te σ H (o m)) : EvO_ (tLst (tCons te tNil)) σ H o [m] := eo_lst1 h
theorem eo_two {α : Type} {o : α → HO} {m n : α} (h : EvN ta σ H (o m)) (h2 : EvN tb σ H (o n)) : EvO_ (tLst (tCons ta (tCons tb tNil))) σ H o [m, n] := fun H1 e Q q =>
  h H1 e _ fun p H2 hp e2 h2' => h2 H2 (e.trans e2) _ fun r H3 hr e3 h3 => ⟨by show 2 ≤ sizeLine; decide, fun u hu => q u [(p, m), (r, n)] _ (fresh_back (e2.trans e3) hu) ((e2.trans e3).trans (Ex.new hu)) rfl upd_same (fun x hx => by
    rcases List.mem_cons.mp hx with rfl | hx
    · exact (Ex.new hu) _ _ (e3 _ _ h2')
    · rw [List.mem_singleton] at hx
      subst hx
      exact (Ex.new hu) _ _ h3)⟩
theorem q_extO {α : Type} {o : α → HO} {m : List α} {l : Addr} {xs : List V} (hl : H l = some (.lst xs)) (ha : Ev ta σ H (.ref l)) (h : EvO_ te σ H o m) (hz : xs.length + m.length ≤ 100000)
    (k : ∀ L H1, Ex H H1 → L.map (·.2) = m → OL o H1 L → tz D σ (upd H1 l (.lst (xs ++ refs L)))) : tSeq (tDrop (tBM K "list" rExtend ta (tCons te tNil))) tz D σ H := s_extO (D := { D with nx := tz D }) hl ha h hz k
theorem ok_law_rule (T : Tx mg) (H_law_pick : Has P w K mg base CX0 2 "_law_pick" ["_law_script", "_law_k", "_law_many"] (spPick K)) {f : Addr} {fd : FuncData} (F : Fun K "_law_rule" "_law_rule" s_law_rule f fd) : FnOk P w K mg base CX0 3 f fd ["_law_script", "_law_at", "_law_names"] (spLRule K) := by
  refine F.ok sc_law_rule (fun vs H Q E h => ?_) (fun cdv A outer s H vs Q E hr h => ?_)
  · obtain ⟨l, nl, ns, a, rfl, _⟩ := h
    rfl
  · obtain ⟨l, nl, ns, a, rfl, hs, hn, q⟩ := h
    have nd := sc_law_rule.nd
    refine ⟨_, (pss_cons (ps_set (i := 3) nd rfl (by first | exact .inl rfl | exact .inr rfl) (pe_ix ix_list (pv 2) (pe_callH H_law_pick hr (pa_cons (pv 0) (pa_cons (pv 1) (pa_cons (pe_callB call_len_seq (by rfl) T.len PySem.boot_len (pa_cons (pv 2) pa_nil)) pa_nil)))) (fun _ _ => rfl)))
      (pss_cons (ps_set (i := 4) nd rfl (by first | exact .inl rfl | exact .inr rfl) (pe_ix ix_list (pv 2) (pe_callH H_law_pick hr (pa_cons (pv 0) (pa_cons (pe_op op_add (pv 1) pe_int) (pa_cons (pe_callB call_len_seq (by rfl) T.len PySem.boot_len (pa_cons (pv 2) pa_nil)) pa_nil)))) (fun _ _ => rfl)))
      (pss_cons (ps_set (i := 5) nd rfl (by first | exact .inl rfl | exact .inr rfl) (pe_callH H_law_pick hr (pa_cons (pv 0) (pa_cons (pe_op op_add (pv 1) pe_int) (pa_cons pe_int pa_nil)))))
      (pss_cons (ps_set (i := 6) nd rfl (by first | exact .inl rfl | exact .inr rfl) (pe_lst (pa_cons (pe_tup (pa_cons pe_str (pa_cons (pv 3) (pa_cons (pv 4) pa_nil)))) (pa_cons (pe_tup (pa_cons pe_str (pa_cons (pv 3) (pa_cons (pv 4) (pa_cons (pv 5) (pa_cons (pe_op op_add (pv 5) (pe_callH H_law_pick hr (pa_cons (pv 0) (pa_cons (pe_op op_add (pv 1) pe_int) (pa_cons pe_int pa_nil))))) pa_nil)))))) pa_nil))))
      (pss_cons (ps_expr (pe_bm PySem.F.plainAttrs_list PySem.F.slot_list_extend PySem.F.type_list_extend mt_extend (pv 6) (pa_cons (pe_lst (pa_cons (pe_tup (pa_cons pe_str (pa_cons (pv 3) (pa_cons (pe_ix ix_str pe_str (pe_callH H_law_pick hr (pa_cons (pv 0) (pa_cons (pe_op op_add (pv 1) pe_int) (pa_cons pe_int pa_nil)))) (fun _ _ => rfl)) (pa_cons (pe_op op_add pe_int (pe_callH H_law_pick hr (pa_cons (pv 0) (pa_cons (pe_op op_add (pv 1) pe_int) (pa_cons pe_int pa_nil))))) pa_nil))))) pa_nil)) pa_nil)))
      (pss_cons (ps_expr (pe_bm PySem.F.plainAttrs_list PySem.F.slot_list_extend PySem.F.type_list_extend mt_extend (pv 6) (pa_cons (pe_lst (pa_cons (pe_tup (pa_cons pe_str (pa_cons (pv 3) (pa_cons (pv 4) pa_nil)))) (pa_cons (pe_tup (pa_cons pe_str (pa_cons (pv 3) (pa_cons (pv 4) pa_nil)))) pa_nil))) pa_nil)))
      (pss_one (ps_ret (pe_ix ix_list (pv 6) (pe_callH H_law_pick hr (pa_cons (pv 0) (pa_cons (pe_op op_add (pv 1) pe_int) (pa_cons pe_int pa_nil)))) (fun _ _ => rfl)))))))))), ?_⟩
    have pk : ∀ {σ3 : L2.St} {Ha : Hp} {k n : Nat} {c : Int} {tn : TE}, Ex H Ha → σ3[0]? = some (some (.ref l)) → σ3[1]? = some (some (.int (a : Int))) → 0 < n → (a : Int) + c = (k : Int) → Ev tn σ3 Ha (.int (n : Int)) → Ev (tCall (spPick K) [] E0 (tCons (tVar 0) (tCons (tOp (rI0 fun i j => .int (i + j)) (tVar 1) (tC (.int c))) (tCons tn tNil)))) σ3 Ha (.int (pickZ ns k n : Int)) :=
      fun e g1 g2 hn he ht => ev_pick (ex_l e hs) hn (ea_cons (ev_var g1) (ea_cons (ev_nat (ev_op (ev_var g2) ev_c rv_I0) he) (ea_cons ht ea_nil)))
    have nl2 : ∀ {σ3 : L2.St} {Ha : Hp}, Ex H Ha → σ3[2]? = some (some (.ref nl)) → Ev (tCB (rLenS K) (tCons (tVar 2) tNil)) σ3 Ha (.int ((2 : Nat) : Int)) := fun e g => ev_len (ev_var g) (ex_l e hn)
    refine q_asg (v := .str (nm (b2 ns a))) (ev_op (ev_var rfl) (ev_pick (k := a) (n := 2) hs (by decide) (ea_cons (ev_var rfl) (ea_cons (ev_var rfl) (ea_cons (nl2 (Ex.refl H) rfl) ea_nil)))) (rv_ixL hn (atI_nat (nm_pick ns a)))) fun H1 e1 => ?_
    refine q_asg (v := .str (nm (b2 ns (a + 1)))) (ev_op (ev_var rfl) (pk (k := a + 1) (n := 2) e1 rfl rfl (by decide) (by omega) (nl2 e1 rfl)) (rv_ixL (ex_l e1 hn) (atI_nat (nm_pick ns (a + 1))))) fun H2 e2 => ?_
    have e02 := e1.trans e2
    refine q_asg (pk (k := a + 2) (n := 3) e02 rfl rfl (by decide) (by omega) ev_c) fun H3 e3 => ?_
    have e03 := e02.trans e3
    refine q_asgO (o := rlO) (l := [.never (b2 ns a) (b2 ns (a + 1)), .after (b2 ns a) (b2 ns (a + 1)) (pickZ ns (a + 2) 3) (pickZ ns (a + 2) 3 + pickZ ns (a + 3) 3)]) (eo_two (ev_rv (r := .never _ _) (ea_cons ev_c (ea_cons (ev_var rfl) (ea_cons (ev_var rfl) ea_nil))))
      (ev_rv (r := .after _ _ _ _) (ea_cons ev_c (ea_cons (ev_var rfl) (ea_cons (ev_var rfl) (ea_cons (ev_var rfl) (ea_cons (ev_nat (ev_op (ev_var rfl) (pk (k := a + 3) (n := 3) e03 rfl rfl (by decide) (by omega) ev_c) rv_I0) (by omega)) ea_nil))))))) fun mk L H4 hmk e4 hL h4 ho => ?_
    have e04 := e03.trans e4
    have hmk0 : H mk = none := fresh_back e03 hmk
    have p2 : pickZ ns (a + 4) 2 < s01.length := pickZ_lt ns (a + 4) (by decide)
    refine q_extO (o := rlO) (m := [.long (b2 ns a) (at_ s01 (pickZ ns (a + 4) 2)) (1 + pickZ ns (a + 5) 4)]) h4 (ev_var rfl) (eo_one (ev_rv (r := .long _ _ _) (ea_cons ev_c (ea_cons (ev_var rfl) (ea_cons (ev_strIx (w := s01) (ev_is ev_c (by rw [e01]; rfl)) (pk (k := a + 4) (n := 2) e04 rfl rfl (by decide) (by omega) ev_c) rfl p2 (by decide)) (ea_cons (ev_nat (ev_op ev_c (pk (k := a + 5) (n := 4) e04 rfl rfl (by decide) (by omega) ev_c) rv_I0) (by omega)) ea_nil)))))) ?_ fun L2 H5 e5 hL2 ho2 => ?_
    · have z := congrArg List.length hL
      rw [List.length_map] at z
      rw [refs, List.length_map, z]
      show 2 + 1 ≤ _
      decide
    have e05 : Ex H (upd H5 mk (.lst (refs L ++ refs L2))) := Ex.mut (e04.trans e5) hmk0
    have oM : ∀ {Ha : Hp} {xs : List V} {M : List (Addr × Rl)}, OL rlO Ha M → (∃ ys, Ha mk = some (.lst ys)) → OL rlO (upd Ha mk (.lst xs)) M := fun hM ⟨ys, hy⟩ u hu => by
      have z := hM u hu
      rw [upd_ne (fun y => by rw [y, hy] at z; cases z)]
      exact z
    have ho5 := oM (xs := refs L ++ refs L2) (ho.ex e5) ⟨_, e5 _ _ h4⟩
    have ho25 := oM (xs := refs L ++ refs L2) ho2 ⟨_, e5 _ _ h4⟩
    refine q_extO (o := rlO) (m := [.still (b2 ns a) (b2 ns (a + 1)), .turns (b2 ns a) (b2 ns (a + 1))]) (xs := refs L ++ refs L2) upd_same (ev_var rfl) (eo_two (ev_rv (r := .still _ _) (ea_cons ev_c (ea_cons (ev_var rfl) (ea_cons (ev_var rfl) ea_nil)))) (ev_rv (r := .turns _ _) (ea_cons ev_c (ea_cons (ev_var rfl) (ea_cons (ev_var rfl) ea_nil))))) ?_ fun L3 H6 e6 hL3 ho3 => ?_
    · have z := congrArg List.length hL
      have z2 := congrArg List.length hL2
      rw [List.length_map] at z z2
      rw [List.length_append, refs, refs, List.length_map, List.length_map, z, z2]
      show 2 + 1 + 2 ≤ _
      decide
    have hmk6 : H6 mk = some (.lst (refs L ++ refs L2)) := e6 _ _ upd_same
    have e06 : Ex H (upd H6 mk (.lst (refs L ++ refs L2 ++ refs L3))) := Ex.mut (e05.trans e6) hmk0
    have ho6 := oM (xs := refs L ++ refs L2 ++ refs L3) (ho5.ex e6) ⟨_, hmk6⟩
    have ho26 := oM (xs := refs L ++ refs L2 ++ refs L3) (ho25.ex e6) ⟨_, hmk6⟩
    have ho36 := oM (xs := refs L ++ refs L2 ++ refs L3) ho3 ⟨_, hmk6⟩
    have hall : (L ++ L2 ++ L3).map (·.2) = rules ns a := by
      rw [List.map_append, List.map_append, hL, hL2, hL3]
      rfl
    have hg := get_rule ns a
    rw [← hall, List.getElem?_map] at hg
    cases hu : (L ++ L2 ++ L3)[pickZ ns (a + 6) 5]? with
    | none => rw [hu] at hg; cases hg
    | some u =>
      rw [hu] at hg
      have hu2 : u.2 = ruleZ ns a := Option.some.inj hg
      refine s_ret (v := .ref u.1) (ev_op (ev_var rfl) (pk (k := a + 6) (n := 5) e06 rfl rfl (by decide) (by omega) ev_c) (rv_ixL (sq_of upd_same) (atI_nat ?_))) fun H7 e7 => ?_
      · have er : refs L ++ refs L2 ++ refs L3 = (L ++ L2 ++ L3).map fun q => V.ref q.1 := by
          unfold refs
          rw [List.map_append, List.map_append]
        rw [er, List.getElem?_map, hu]
        rfl
      · refine q u.1 H7 (e06.trans e7) (e7 _ _ ?_)
        rw [← hu2]
        rcases List.mem_append.mp (List.mem_of_getElem? hu) with hm | hm
        · rcases List.mem_append.mp hm with hm | hm
          · exact ho6 u hm
          · exact ho26 u hm
        · exact ho36 u hm
end
end Kt

/-! Fl: _law_failures. -/
namespace Kt
open PySem PySem.Spec PyProof.Rows L2 Evl
/-! _law_failures: slots 0 _law_sheet_here, 1 _law_rule_here, 2 _law_word_here, 3 _law_first, 4 _law_one, 5 _law_many, 6 _law_ups, 7 _law_other, 8 _law_highs, 9 _law_made, 10 _law_turn, 11 _law_k, 12 _law_here, 13 _law_tick; cells _law_highs _law_many _law_one _law_other _law_rule_here -/
abbrev s_law_failures : Stmt := topS 39
abbrev N_law_failures : List Str := ["_law_sheet_here", "_law_rule_here", "_law_word_here", "_law_first", "_law_one", "_law_many", "_law_ups", "_law_other", "_law_highs", "_law_made", "_law_turn", "_law_k", "_law_here", "_law_tick"]
theorem sc_law_failures : FnScope N_law_failures ["_law_sheet_here", "_law_rule_here"] (defScope s_law_failures) := ⟨rfl, rfl, rfl, by decide +kernel, rfl, by decide +kernel, by decide +kernel⟩
/-! ### mirrors -/
def upAt (w : List Lv) (k : Nat) : Bool := decide (at_ w (k - 1) = .z) && decide (at_ w k = .o)
def ups (w : List Lv) : List Nat := (List.range' 1 (w.length - 1)).filter (upAt w)
theorem ups_ris (w : List Lv) : ups w = ris w := by
  unfold ups ris chg chgTo
  rw [List.filter_map, List.map_map, List.filter_filter]
  have e : ((fun q : Nat × Lv × Lv => q.1) ∘ fun t => (t, at_ w (t - 1), at_ w t)) = id := rfl
  rw [e, List.map_id]
  refine List.filter_congr fun t _ => ?_
  show upAt w t = (decide (at_ w (t - 1) = .z) && decide (at_ w t = .o) && !decide (at_ w t = at_ w (t - 1)))
  unfold upAt
  cases at_ w (t - 1) <;> cases at_ w t <;> rfl
theorem still_eq (w1 w2 : List Lv) : ((List.range' 1 (w1.length - 1)).filter fun k => moves w1 k && isO w2 k) = stillM w1 w2 := by
  unfold stillM chg chgTo
  rw [List.filter_map, List.map_map, List.filter_filter]
  have e : ((fun q : Nat × Lv × Lv => q.1) ∘ fun t => (t, at_ w1 (t - 1), at_ w1 t)) = id := rfl
  rw [e, List.map_id]
  exact List.filter_congr fun t _ => Bool.and_comm _ _
theorem after_eq (w1 w2 : List Lv) (lo hi : Nat) : (((ris w1).filter fun k => (inTime w2 lo hi k).isEmpty).filter fun k => decide (k + hi < w1.length)) = afterM w1 w2 lo hi := by
  unfold afterM
  rw [List.filter_filter]
  exact List.filter_congr fun t _ => Bool.and_comm _ _
def lfailM (w1 w2 : List Lv) : Rl → List Nat
  | .long i a m => lshortM (sel w1 w2 i) a m
  | r => failM w1 w2 r
def spLFail (K : PySem.W.Frag) : Sp := fun vs H Q _ => ∃ (d r : Addr) (w1 w2 : List Lv) (rl : Rl), vs = [.ref d, .ref r] ∧ Rd H d (dsheet (sh w1 w2)) ∧ SqT K H r (rlV rl) ∧ (1 ≤ w1.length ∧ w1.length ≤ 12 ∧ w2.length = w1.length) ∧ RetL (niv (lfailM w1 w2 rl)) H Q
def rlW : Rl → Str
  | .never .. => sNever
  | .after .. => sAfter
  | .long .. => sLong
  | .still .. => sStill
  | .turns .. => sTurns
def rlI : Rl → Bool
  | .never i _ | .after i _ _ _ | .long i _ _ | .still i _ | .turns i _ => i
theorem cut2 (rl : Rl) : cutV (rlV rl) none (some 2) = [.str (rlW rl), .str (nm (rlI rl))] ∧ ¬ (HT.sIx (rlV rl).length 0 none = 0 ∧ HT.sIx (rlV rl).length (rlV rl).length (some 2) = (rlV rl).length) := by
  cases rl <;> exact ⟨rfl, by rintro ⟨_, z⟩; revert z; show ¬ (min 2 _ = _); simp [rlV]⟩
theorem take2 {w : List Lv} {k : Nat} (h1 : 1 ≤ k) (h : k < w.length) : (w.drop (k - 1)).take (k + 1 - (k - 1)) = [at_ w (k - 1), at_ w k] := by
  obtain ⟨j, rfl⟩ : ∃ j, k = j + 1 := ⟨k - 1, by omega⟩
  rw [show j + 1 + 1 - (j + 1 - 1) = 2 by omega, Nat.add_sub_cancel]
  have g1 := at_get (w := w) (i := j) (by omega)
  have g2 := at_get h
  rw [List.take_add_one, List.take_add_one, List.take_zero, List.getElem?_drop, List.getElem?_drop, Nat.add_zero, g1, g2]
  rfl
theorem dec_two (a b c d : Lv) : decide ([a, b] = [c, d]) = (decide (a = c) && decide (b = d)) := by cases a <;> cases b <;> cases c <;> cases d <;> rfl
theorem e11 : Str.ofString "11" = tx [.o, .o] := by decide +kernel
section
variable {P : Program} {w : World} {K : PySem.W.Frag} {mg : Str → Option Value} {base : Heap} {σ : L2.St} {H : Hp} {ta tb te tm : TE} {tr : TA} {tu tz : TS} {D : Ends} {g : TG} {v : V}
theorem q_asgT {i j : Nat} {a b : V} (h : EvU te σ H [a, b]) (k : ∀ H1, Ex H H1 → tz D ((σ.set i (some a)).set j (some b)) H1) : tSeq (tAsg te (gTup K 2 (gCons (gName i) (gCons (gName j) gNil)))) tz D σ H := h H (Ex.refl H) _ fun p H1 hp e h1 => tg_tup2 (st_of h1) _ (k H1 e)
theorem eu_slT {tl th : TO} {a : Addr} {xs : List V} {lo hi : Option Int} (h : Ev te σ H (.ref a)) (h1 : EvO tl σ H lo) (h2 : EvO th σ H hi) (hs : SqT K H a xs) (hn : ¬ (HT.sIx xs.length 0 lo = 0 ∧ HT.sIx xs.length xs.length hi = xs.length)) : EvU (tSl (rSlT K) te tl th) σ H (cutV xs lo hi) := fun H1 e _ q =>
  h H1 e _ fun H2 e2 => h1 H2 (e.trans e2) _ fun H3 e3 => h2 H3 ((e.trans e2).trans e3) _ fun H4 e4 =>
    ⟨a, xs, rfl, ex_t (((e.trans e2).trans e3).trans e4) hs, hn, fun p hp => q p _ (fresh_back ((e2.trans e3).trans e4) hp) (((e2.trans e3).trans e4).trans (Ex.new hp)) upd_same⟩
/-- the ticks at which a wave rises, by slices -/
theorem el_ups {wv : List Lv} {j : Nat} {vs : List Nat} (hl : wv.length ≤ 12) (hm : Ev tm σ H (.int (wv.length : Int))) (hv : ∀ x, (wipe σ vs).set j (some x) = (wipe σ vs).set j (some x)) (hw : ∀ x, wipe ((wipe σ vs).set j (some x)) vs = wipe σ vs)
    (hj : ∀ x : V, ((wipe σ vs).set j (some x))[j]? = some (some x)) (ho : ∀ (x : V) H1, Ex H H1 → Ev ta ((wipe σ vs).set j (some x)) H1 (.str (tx wv))) :
    EvL (tLc (iRng2 (tCons (tC (.int 1)) (tCons tm tNil))) (gName j) (tTest (tOp rEq (tSl rSlS ta (tPart (tOp (rI0 fun i j => .int (i - j)) (tVar j) (tC (.int 1)))) (tPart (tOp (rI0 fun i j => .int (i + j)) (tVar j) (tC (.int 1))))) (tC (.str (Str.ofString "01"))))) (tVar j) vs) σ H (niv (ris wv)) := by
  rw [← ups_ris]
  refine el_lc (upAt wv) (fun (t : Nat) => V.int (t : Int)) (ei_r2 (lo := 1) (n := wv.length) (ea_cons ev_c (ea_cons hm ea_nil)) (by omega)) (by rw [List.length_range']; omega) fun t v H1 ht e r => ?_
  subst r
  obtain ⟨t1, t2⟩ := List.mem_range'_1.mp ht
  have t3 : t < wv.length := by omega
  refine ⟨_, tg_name, hw _, et_is (et_test (ev_op (ev_is (ev_sl (ho _ H1 e) (eo_some (ev_nat (j := ((t - 1 : Nat) : Int)) (ev_op (ev_var (hj _)) ev_c rv_I0) (by omega))) (eo_some (ev_nat (j := ((t + 1 : Nat) : Int)) (ev_op (ev_var (hj _)) ev_c rv_I0) (by omega))) (by omega)) (by rw [cut_tx _ _ _ (by omega), take2 t1 t3])) (ev_is (w := .str (tx [.z, .o])) ev_c (by rw [e01])) (rv_eq rfl))) ?_, fun _ => ev_var (hj _)⟩
  rw [dec_tx, dec_two]
  rfl
theorem ev_intB {b : Bool} (h : Ev te σ H (.bl b)) : Ev (tCB (fun xs H Q => (∃ i, xs = [.int i] ∧ Q (.int i) H) ∨ ∃ k, xs = [.bl k] ∧ Q (.int (if k then 1 else 0)) H) (tCons te tNil)) σ H (.int (b01 b)) := fun H1 e Q q =>
  h H1 e _ fun H2 e2 => .inr ⟨b, rfl, q H2 e2⟩
def two (a b : Int) : PyData := .list [.int a, .int b]
theorem dp_two {p : Addr} {a b : Int} (h : H p = some (.lst [.int a, .int b])) : Dp K H (.ref p) (two a b) := .lst (sq_of h) (.cons (.int _) (.cons (.int _) .nil))
theorem two_sh (a b : Int) : SeqAt.shaped (two a b) = true := by rfl
theorem eq_two (a b c d : Bool) : PyData.eqv (two (b01 a) (b01 b)) (two (b01 c) (b01 d)) = (a == c && b == d) := by cases a <;> cases b <;> cases c <;> cases d <;> decide +kernel
theorem ev_neTwo {p : Addr} {a b c d : Int} (h : Ev ta σ H (.ref p)) (hp : H p = some (.lst [.int a, .int b])) (h2 : EvL tb σ H [.int c, .int d]) : Ev (tOp (rNeD K) ta tb) σ H (.bl (!PyData.eqv (two a b) (two c d))) :=
  ev_opL h h2 fun q H1 hq e => rv_val fun H2 e2 Q k => ⟨two a b, two c d, dp_two (e2 _ _ (e _ _ hp)), dp_two (e2 _ _ hq), two_sh _ _, two_sh _ _, k⟩
theorem ev_eqTwo {p : Addr} {a b c d : Int} (h : Ev ta σ H (.ref p)) (hp : H p = some (.lst [.int a, .int b])) (h2 : EvL tb σ H [.int c, .int d]) : Ev (tOp (rEqD K) ta tb) σ H (.bl (PyData.eqv (two a b) (two c d))) :=
  ev_opL h h2 fun q H1 hq e => rv_val fun H2 e2 Q k => ⟨two a b, two c d, dp_two (e2 _ _ (e _ _ hp)), dp_two (e2 _ _ hq), two_sh _ _, two_sh _ _, k⟩
theorem turn_case (m y t : Bool) (h : (m || y) = true) : (m == !t && y == t) = !((m && y) || !(m == !t)) := by revert h; cases m <;> cases y <;> cases t <;> decide
theorem ok_law_failures (T : Tx mg) (H_law_short : Has P w K mg base CX0 1 "_law_short" ["_law_wave_here", "_law_level", "_law_many"] spLShort) {f : Addr} {fd : FuncData} (F : Fun K "_law_failures" "_law_failures" s_law_failures f fd) :
    FnOk P w K mg base CX0 2 f fd ["_law_sheet_here", "_law_rule_here"] (spLFail K) := by
  refine F.ok sc_law_failures (fun vs H Q E h => ?_) (fun cdv A outer s H vs Q E hr h => ?_)
  · obtain ⟨d, r, w1, w2, rl, rfl, _⟩ := h
    rfl
  · obtain ⟨d, r, w1, w2, rl, rfl, hd, hrl, ⟨hl1, hl, hll⟩, q⟩ := h
    have nd := sc_law_failures.nd
    refine ⟨_, (pss_cons (ps_asg (pe_slice sl_tup (pv 1) po_none (po_some pe_int)) (pg_tup rfl (pgs_cons (pg_name (i := 2) nd rfl (by first | exact .inl rfl | exact .inr rfl)) (pgs_cons (pg_name (i := 3) nd rfl (by first | exact .inl rfl | exact .inr rfl)) pgs_nil))))
      (pss_cons (ps_set (i := 4) nd rfl (by first | exact .inl rfl | exact .inr rfl) (pe_dget (hu1 hr) (pv 0) (pv 3) (fun _ _ => rfl)))
      (pss_cons (ps_set (i := 5) nd rfl (by first | exact .inl rfl | exact .inr rfl) (pe_callB call_len_str (by rfl) T.len PySem.boot_len (pa_cons (pv 4) pa_nil)))
      (pss_cons (ps_setLc (i := 6) (own := [("_law_k", 11)]) (g := (gName 11)) rfl nd rfl rfl (sw_true rfl rfl rfl (by decide +kernel)) (pi_range2 (by rfl) T.range (pa_cons pe_int (pa_cons (pv 5) pa_nil))) (blkOk_by (own := [("_law_k", 11)]) (N := N_law_failures) (sc := defScope s_law_failures) (by decide +kernel)) (fun _ _ _ _ _ => (pg_name (i := 11) nd rfl (by first | exact .inl rfl | exact .inr rfl))) (fun _ _ _ _ _ => (pts_one (pt_cmpR op_eq (pe_slice sl_str (pv 4) (po_some (pe_op op_sub (pv 11) pe_int)) (po_some (pe_op op_add (pv 11) pe_int))) pe_str (nomark _)))) (fun _ _ _ _ _ => (pv 11)))
      (pss_cons (ps_if (pt_cmpR op_eq (pv 2) pe_str (nomark _)) (pss_one (ps_ret (pe_callH H_law_short hr (pa_cons (pv 4) (pa_cons (pe_ix ix_tup (pv 1) pe_int (fun _ _ => rfl)) (pa_cons (pe_ix ix_tup (pv 1) pe_int (fun _ _ => rfl)) pa_nil)))))) pss_nil)
      (pss_cons (ps_set (i := 7) nd rfl (by first | exact .inl rfl | exact .inr rfl) (pe_dget (hu1 hr) (pv 0) (pe_ix ix_tup (pv 1) pe_int (fun _ _ => rfl)) (fun _ _ => rfl)))
      (pss_cons (ps_set (i := 8) nd rfl (by first | exact .inl rfl | exact .inr rfl) (pe_lc (own := [("_law_k", 11)]) (g := (gName 11)) rfl nd (pi_range2 (by rfl) T.range (pa_cons pe_int (pa_cons (pv 5) pa_nil))) (blkOk_by (own := [("_law_k", 11)]) (N := N_law_failures) (sc := defScope s_law_failures) (by decide +kernel)) (fun _ _ _ _ _ => (pg_name (i := 11) nd rfl (by first | exact .inl rfl | exact .inr rfl))) (fun _ _ _ _ _ => (pts_one (pt_cmpR op_eq (pe_slice sl_str (pv 7) (po_some (pe_op op_sub (pv 11) pe_int)) (po_some (pe_op op_add (pv 11) pe_int))) pe_str (nomark _)))) (fun _ _ _ _ _ => (pv 11))))
      (pss_cons (ps_if (pt_cmpR op_eq (pv 2) pe_str (nomark _)) (pss_one (ps_ret (pe_lc (own := [("_law_k", 11)]) (g := (gName 11)) rfl nd (pi_range1 (by rfl) T.range (pa_cons (pv 5) pa_nil)) (blkOk_by (own := [("_law_k", 11)]) (N := N_law_failures) (sc := defScope s_law_failures) (by decide +kernel)) (fun _ _ _ _ _ => (pg_name (i := 11) nd rfl (by first | exact .inl rfl | exact .inr rfl))) (fun _ _ _ _ _ => (pts_one (pt_cmpR op_eq (pe_op op_add_str (pe_ix ix_str (pv 4) (pv 11) (fun _ _ => rfl)) (pe_ix ix_str (pv 7) (pv 11) (fun _ _ => rfl))) pe_str (nomark _)))) (fun _ _ _ _ _ => (pv 11))))) pss_nil)
      (pss_cons (ps_if (pt_cmpR op_eq (pv 2) pe_str (nomark _)) (pss_cons (ps_setLc (i := 9) (own := [("_law_k", 11)]) (g := (gName 11)) rfl nd rfl rfl (sw_true rfl rfl rfl (by decide +kernel)) (pi_list (pv 6)) (blkOk_by (own := [("_law_k", 11)]) (N := N_law_failures) (sc := defScope s_law_failures) (by decide +kernel)) (fun _ _ _ _ _ => (pg_name (i := 11) nd rfl (by first | exact .inl rfl | exact .inr rfl))) (fun _ _ _ _ _ => (pts_one (pt_cmpR (op_eq0K (K := K) rfl (hu64 hr)) (pe_lc (own := [("_law_tick", 13)]) (g := (gName 13)) rfl nd (pi_listK (K := K) rfl (pv 8)) (blkOk_by (own := [("_law_tick", 13)]) (N := N_law_failures) (sc := relS _ (defScope s_law_failures)) (by decide +kernel)) (fun _ _ _ _ _ => (pg_name (i := 13) nd rfl (by first | exact .inl rfl | exact .inr rfl))) (fun _ _ _ _ _ => (pts_one (pt_chain op_le op_le (pe_ix (ix_tupK (K := K) rfl) (pv 1) pe_int (fun _ _ => rfl)) (pe_op op_sub (pv 13) (pv 11)) (pe_ix (ix_tupK (K := K) rfl) (pv 1) pe_int (fun _ _ => rfl))))) (fun _ _ _ _ _ => (pv 13))) (pe_lst pa_nil) (nomark _)))) (fun _ _ _ _ _ => (pv 11)))
      (pss_one (ps_ret (pe_lc (own := [("_law_k", 11)]) (g := (gName 11)) rfl nd (pi_list (pv 9)) (blkOk_by (own := [("_law_k", 11)]) (N := N_law_failures) (sc := defScope s_law_failures) (by decide +kernel)) (fun _ _ _ _ _ => (pg_name (i := 11) nd rfl (by first | exact .inl rfl | exact .inr rfl))) (fun _ _ _ _ _ => (pts_one (pt_cmpR op_lt (pe_op op_add (pv 11) (pe_ix (ix_tupK (K := K) rfl) (pv 1) pe_int (fun _ _ => rfl))) (pv 5) (nomark _)))) (fun _ _ _ _ _ => (pv 11)))))) pss_nil)
      (pss_cons (ps_if (pt_cmpR op_eq (pv 2) pe_str (nomark _)) (pss_one (ps_ret (pe_lc (own := [("_law_k", 11)]) (g := (gName 11)) rfl nd (pi_range2 (by rfl) T.range (pa_cons pe_int (pa_cons (pv 5) pa_nil))) (blkOk_by (own := [("_law_k", 11)]) (N := N_law_failures) (sc := defScope s_law_failures) (by decide +kernel)) (fun _ _ _ _ _ => (pg_name (i := 11) nd rfl (by first | exact .inl rfl | exact .inr rfl))) (fun _ _ _ _ _ => (pts_one (PW.pt (pw_and (pt_cmpR op_ne (pe_ix ix_str (pv 4) (pv 11) (fun _ _ => rfl)) (pe_ix ix_str (pv 4) (pe_op op_sub (pv 11) pe_int) (fun _ _ => rfl)) (nomark _)) (pw_and1 (pt_cmpR op_eq (pe_ix ix_str (pv 7) (pv 11) (fun _ _ => rfl)) pe_str (nomark _))))))) (fun _ _ _ _ _ => (pv 11))))) pss_nil)
      (pss_cons (ps_set (i := 9) nd rfl (by first | exact .inl rfl | exact .inr rfl) (pe_lst pa_nil))
      (pss_cons (ps_set (i := 10) nd rfl (by first | exact .inl rfl | exact .inr rfl) pe_int)
      (pss_cons (ps_for PassesOwn.never rfl (pi_range1 (by rfl) T.range (pa_cons (pv 5) pa_nil)) (pg_name (i := 11) nd rfl (by first | exact .inl rfl | exact .inr rfl))
      (pss_cons (ps_set (i := 12) nd rfl (by first | exact .inl rfl | exact .inr rfl) (pe_lst (pa_cons (pe_callTy call_int1 (by rfl) T.int (by decide +kernel) (pa_cons (pe_cmpR op_in_seq (pv 11) (pv 6) (by rfl)) pa_nil)) (pa_cons (pe_callTy call_int1 (by rfl) T.int (by decide +kernel) (pa_cons (pe_cmpR op_in_seq (pv 11) (pv 8) (by rfl)) pa_nil)) pa_nil))))
      (pss_one (ps_if (pt_cmpR (op_neD (hu64 hr)) (pv 12) (pe_lst (pa_cons pe_int (pa_cons pe_int pa_nil))) (nomark _)) (pss_one (ps_if (pt_cmpR (op_eqD (hu64 hr)) (pv 12) (pe_lst (pa_cons (pe_op op_sub pe_int (pv 10)) (pa_cons (pv 10) pa_nil))) (nomark _)) (pss_one (ps_set (i := 10) nd rfl (by first | exact .inl rfl | exact .inr rfl) (pe_op op_sub pe_int (pv 10)))) (pss_one (ps_expr (pe_bm PySem.F.plainAttrs_list PySem.F.slot_list_append PySem.F.type_list_append mt_append (pv 9) (pa_cons (pv 11) pa_nil)))))) pss_nil))))
      (pss_one (ps_ret (pv 9)))))))))))))))), ?_⟩
    have rx : ∀ {σ3 : L2.St} {Ha : Hp} {j : Nat} {v : V}, Ex H Ha → σ3[1]? = some (some (.ref r)) → (rlV rl)[j]? = some v → Ev (tOp (rIxT K) (tVar 1) (tC (.int (j : Int)))) σ3 Ha v := fun e hσ hj => ev_op (ev_var hσ) ev_c (rv_ixT (ex_t e hrl) (atI_nat hj))
    have s1 := fun b => sel_len hll b
    obtain ⟨c1, c2⟩ := cut2 rl
    have cu := eu_slT (σ := start N_law_failures [.ref d, .ref r]) (tl := tNoPart) (th := tPart (tC (.int 2))) (ev_var (i := 1) rfl) eo_none (eo_some ev_c) hrl c2
    rw [c1] at cu
    refine q_asgT cu fun H1 e1 => ?_
    refine q_asg (v := .str (tx (sel w1 w2 (rlI rl)))) (ev_dget (ev_var rfl) (ev_var rfl) (ex_rd e1 hd) (get_sel w1 w2 (rlI rl))) fun H2 e2 => ?_
    refine q_asg (v := .int (w1.length : Int)) (ev_nat (ev_lenS (ev_var rfl) (by rw [s1]; omega)) (by rw [s1])) fun H3 e3 => ?_
    have e03 := (e1.trans e2).trans e3
    refine q_asgL (el_ups (wv := sel w1 w2 (rlI rl)) (by rw [s1]; exact hl) (ev_nat (ev_var rfl) (by rw [s1])) (fun _ => rfl) (fun _ => rfl) (fun _ => rfl) (fun _ _ _ => ev_var rfl)) fun up H4 hup e4 h4 => ?_
    have e04 := e03.trans e4
    have wordT : ∀ {σ3 : L2.St} {Ha : Hp} {z : Str} {b : Bool}, σ3[2]? = some (some (.str (rlW rl))) → decide (V.str (rlW rl) = V.str z) = b → EvT (tTest (tOp rEq (tVar 2) (tC (.str z)))) σ3 Ha b := fun g1 g2 => et_is (et_test (ev_op (ev_var g1) ev_c (rv_eq rfl))) g2
    cases rl with
    | long i a m =>
      refine q_when (b := true) (wordT rfl (by show decide (V.str sLong = _) = _; decide +kernel)) (fun _ H5 e5 => ?_) (fun hb => absurd hb (by decide))
      have e05 := e04.trans e5
      refine s_retL (el_call (vs := [_, _, _]) (ea_cons (ev_var rfl) (ea_cons (rx (j := 2) e05 rfl rfl) (ea_cons (rx (j := 3) e05 rfl rfl) ea_nil))) fun H7 _ Q' q' _ => ⟨_, a, m, rfl, ⟨by rw [s1]; exact hl1, by rw [s1]; exact hl⟩, q'⟩) fun p H7 hp e7 h7 => q p H7 (fresh_back e05 hp) (e05.trans e7) h7
    | never i j =>
      refine q_when (b := false) (wordT rfl (by show decide (V.str sNever = _) = _; decide +kernel)) (fun hb => absurd hb (by decide)) fun _ H5 e5 => ?_
      have e05 := e04.trans e5
      refine q_asg (v := .str (tx (sel w1 w2 j))) (ev_dget (ev_var rfl) (rx (j := 2) e05 rfl rfl) (ex_rd e05 hd) (get_sel w1 w2 j)) fun H6 e6 => ?_
      refine q_asgL (el_ups (wv := sel w1 w2 j) (by rw [s1]; exact hl) (ev_nat (ev_var rfl) (by rw [s1])) (fun _ => rfl) (fun _ => rfl) (fun _ => rfl) (fun _ _ _ => ev_var rfl)) fun hg H7 hhg e7 h7 => ?_
      have e07 := (e05.trans e6).trans e7
      refine q_when (b := true) (wordT rfl (by show decide (V.str sNever = _) = _; decide +kernel)) (fun _ H8 e8 => ?_) (fun hb => absurd hb (by decide))
      have e08 := e07.trans e8
      refine s_retL (el_lc (fun t => isO (sel w1 w2 i) t && isO (sel w1 w2 j) t) (fun t => V.int (t : Int)) (ei_r1 (n := w1.length) (ea_cons (ev_var rfl) ea_nil) (by omega)) (by rw [List.length_range]; omega) fun t v H9 hx e9 r' => ?_) fun p H9 hp e9 h9 => q p H9 (fresh_back e08 hp) (e08.trans e9) (by
        rw [h9]
        show _ = some (HO.lst (niv (neverM (sel w1 w2 i) (sel w1 w2 j))))
        rw [neverM, s1]
        rfl)
      subst r'
      have ht := List.mem_range.mp hx
      refine ⟨_, tg_name, rfl, et_is (et_test (ev_op (ev_op (ev_strIx (w := sel w1 w2 i) (ev_var rfl) (ev_var rfl) rfl (by rw [s1]; exact ht) (by rw [s1]; omega)) (ev_strIx (w := sel w1 w2 j) (i := t) (ev_var rfl) (ev_var rfl) rfl (by rw [s1]; exact ht) (by rw [s1]; omega)) (rv_cat (v := [_]) (u := [_]) (by show 1 + 1 ≤ 100000; decide))) (ev_is (w := .str (tx [.o, .o])) ev_c (by rw [e11])) (rv_eq rfl))) ?_, fun _ => ev_var rfl⟩
      rw [dec_tx]
      exact dec_two _ _ _ _
    | after i j lo hi =>
      refine q_when (b := false) (wordT rfl (by show decide (V.str sAfter = _) = _; decide +kernel)) (fun hb => absurd hb (by decide)) fun _ H5 e5 => ?_
      have e05 := e04.trans e5
      refine q_asg (v := .str (tx (sel w1 w2 j))) (ev_dget (ev_var rfl) (rx (j := 2) e05 rfl rfl) (ex_rd e05 hd) (get_sel w1 w2 j)) fun H6 e6 => ?_
      refine q_asgL (el_ups (wv := sel w1 w2 j) (by rw [s1]; exact hl) (ev_nat (ev_var rfl) (by rw [s1])) (fun _ => rfl) (fun _ => rfl) (fun _ => rfl) (fun _ _ _ => ev_var rfl)) fun hg H7 hhg e7 h7 => ?_
      have e07 := (e05.trans e6).trans e7
      refine q_when (b := false) (wordT rfl (by show decide (V.str sAfter = _) = _; decide +kernel)) (fun hb => absurd hb (by decide)) fun _ H8 e8 => ?_
      refine q_when (b := true) (wordT rfl (by show decide (V.str sAfter = _) = _; decide +kernel)) (fun _ H9 e9 => ?_) (fun hb => absurd hb (by decide))
      have e09 := (e07.trans e8).trans e9
      have h4' : H9 up = some (.lst (niv (ris (sel w1 w2 i)))) := e9 _ _ (e8 _ _ (e7 _ _ (e6 _ _ (e5 _ _ h4))))
      have h7' : H9 hg = some (.lst (niv (ris (sel w1 w2 j)))) := e9 _ _ (e8 _ _ h7)
      have r1 := ris_len (sel w1 w2 i)
      have r2 := ris_len (sel w1 w2 j)
      rw [s1] at r1 r2
      refine q_asgL (el_lc (fun k => (inTime (sel w1 w2 j) lo hi k).isEmpty) (fun (t : Nat) => V.int (t : Int)) (ei_L (l := ris (sel w1 w2 i)) (φ := fun (t : Nat) => V.int (t : Int)) (ev_var rfl) (sq_of h4')) (by omega) fun k v H10 hx e10 r' => ?_) fun mk H10 hmk e10 h10 => ?_
      · subst r'
        refine ⟨_, tg_name, rfl, et_is (et_test (ev_eq0 (el_lc (fun t => decide (k + lo ≤ t) && decide (t ≤ k + hi)) (fun (t : Nat) => V.int (t : Int)) (ei_L (l := ris (sel w1 w2 j)) (φ := fun (t : Nat) => V.int (t : Int)) (ev_var rfl) (sq_of (e10 _ _ h7'))) (by omega) fun t v H11 hx2 e11' r2' => ?_))) List.isEmpty_map, fun _ => ev_var rfl⟩
        subst r2'
        have eA := (e09.trans e10).trans e11'
        refine ⟨_, tg_name, rfl, et_is (et_chainLe (rx (j := 3) eA rfl rfl) (ev_op (ev_var rfl) (ev_var rfl) rv_I0) (rx (j := 4) eA rfl rfl)) ?_, fun _ => ev_var rfl⟩
        rw [show decide ((lo : Int) ≤ (t : Int) - (k : Int)) = decide (k + lo ≤ t) from decide_eq_decide.mpr (by omega), show decide ((t : Int) - (k : Int) ≤ (hi : Int)) = decide (t ≤ k + hi) from decide_eq_decide.mpr (by omega)]
      · refine s_retL (el_lc (fun k => decide (k + hi < w1.length)) (fun (t : Nat) => V.int (t : Int)) (ei_L (l := (ris (sel w1 w2 i)).filter fun k => (inTime (sel w1 w2 j) lo hi k).isEmpty) (φ := fun (t : Nat) => V.int (t : Int)) (ev_var rfl) (sq_of h10)) (Nat.le_trans (len_filter _ _ r1) (by omega)) fun k v H11 hx e11' r' => ?_) fun p H11 hp e11' h11 => q p H11 (fresh_back (e09.trans e10) hp) ((e09.trans e10).trans e11') (by
          rw [h11]
          show _ = some (HO.lst (niv (afterM (sel w1 w2 i) (sel w1 w2 j) lo hi)))
          rw [← after_eq, s1]
          rfl)
        subst r'
        exact ⟨_, tg_name, rfl, et_is (et_test (ev_op (ev_op (ev_var rfl) (rx (j := 4) ((e09.trans e10).trans e11') rfl rfl) rv_I0) (ev_var rfl) rv_I0)) (decide_eq_decide.mpr (by omega)), fun _ => ev_var rfl⟩
    | still i j =>
      refine q_when (b := false) (wordT rfl (by show decide (V.str sStill = _) = _; decide +kernel)) (fun hb => absurd hb (by decide)) fun _ H5 e5 => ?_
      have e05 := e04.trans e5
      refine q_asg (v := .str (tx (sel w1 w2 j))) (ev_dget (ev_var rfl) (rx (j := 2) e05 rfl rfl) (ex_rd e05 hd) (get_sel w1 w2 j)) fun H6 e6 => ?_
      refine q_asgL (el_ups (wv := sel w1 w2 j) (by rw [s1]; exact hl) (ev_nat (ev_var rfl) (by rw [s1])) (fun _ => rfl) (fun _ => rfl) (fun _ => rfl) (fun _ _ _ => ev_var rfl)) fun hg H7 hhg e7 h7 => ?_
      have e07 := (e05.trans e6).trans e7
      refine q_when (b := false) (wordT rfl (by show decide (V.str sStill = _) = _; decide +kernel)) (fun hb => absurd hb (by decide)) fun _ H8 e8 => ?_
      refine q_when (b := false) (wordT rfl (by show decide (V.str sStill = _) = _; decide +kernel)) (fun hb => absurd hb (by decide)) fun _ H9 e9 => ?_
      refine q_when (b := true) (wordT rfl (by show decide (V.str sStill = _) = _; decide +kernel)) (fun _ H10 e10 => ?_) (fun hb => absurd hb (by decide))
      have e0a := ((e07.trans e8).trans e9).trans e10
      refine s_retL (el_lc (fun k => moves (sel w1 w2 i) k && isO (sel w1 w2 j) k) (fun t => V.int (t : Int)) (ei_r2 (lo := 1) (n := w1.length) (ea_cons ev_c (ea_cons (ev_var rfl) ea_nil)) (by omega)) (by rw [List.length_range']; omega) fun t v H9 hx e9 r' => ?_) fun p H9 hp e9 h9 => q p H9 (fresh_back e0a hp) (e0a.trans e9) (by
        rw [h9]
        show _ = some (HO.lst (niv (stillM (sel w1 w2 i) (sel w1 w2 j))))
        rw [← still_eq, s1]
        rfl)
      subst r'
      obtain ⟨t1, t2⟩ := List.mem_range'_1.mp hx
      refine ⟨_, tg_name, rfl, et_and (et_is (et_test (ev_op (ev_strIx (w := sel w1 w2 i) (ev_var rfl) (ev_var rfl) rfl (by rw [s1]; omega) (by rw [s1]; omega)) (ev_strIx (w := sel w1 w2 i) (i := t - 1) (ev_var rfl) (ev_op (ev_var rfl) ev_c rv_I0) (by omega) (by rw [s1]; omega) (by rw [s1]; omega)) (rv_ne rfl))) (by rw [dec_sg]; rfl)) fun _ => et_is (et_test (ev_op (ev_strIx (w := sel w1 w2 j) (i := t) (ev_var rfl) (ev_var rfl) rfl (by rw [s1]; omega) (by rw [s1]; omega)) ev_c (rv_eq rfl))) (by rw [Kt.e1, dec_sg]; rfl), fun _ => ev_var rfl⟩
    | turns i j =>
      refine q_when (b := false) (wordT rfl (by show decide (V.str sTurns = _) = _; decide +kernel)) (fun hb => absurd hb (by decide)) fun _ H5 e5 => ?_
      have e05 := e04.trans e5
      refine q_asg (v := .str (tx (sel w1 w2 j))) (ev_dget (ev_var rfl) (rx (j := 2) e05 rfl rfl) (ex_rd e05 hd) (get_sel w1 w2 j)) fun H6 e6 => ?_
      refine q_asgL (el_ups (wv := sel w1 w2 j) (by rw [s1]; exact hl) (ev_nat (ev_var rfl) (by rw [s1])) (fun _ => rfl) (fun _ => rfl) (fun _ => rfl) (fun _ _ _ => ev_var rfl)) fun hg H7 hhg e7 h7 => ?_
      have e07 := (e05.trans e6).trans e7
      refine q_when (b := false) (wordT rfl (by show decide (V.str sTurns = _) = _; decide +kernel)) (fun hb => absurd hb (by decide)) fun _ H8 e8 => ?_
      refine q_when (b := false) (wordT rfl (by show decide (V.str sTurns = _) = _; decide +kernel)) (fun hb => absurd hb (by decide)) fun _ H9 e9 => ?_
      refine q_when (b := false) (wordT rfl (by show decide (V.str sTurns = _) = _; decide +kernel)) (fun hb => absurd hb (by decide)) fun _ H10 e10 => ?_
      have e0a := ((e07.trans e8).trans e9).trans e10
      have hup' : H10 up = some (.lst (niv (ris (sel w1 w2 i)))) := e10 _ _ (e9 _ _ (e8 _ _ (e7 _ _ (e6 _ _ (e5 _ _ h4)))))
      have hhg' : H10 hg = some (.lst (niv (ris (sel w1 w2 j)))) := e10 _ _ (e9 _ _ (e8 _ _ h7))
      refine q_asgL (el_lst ea_nil (Nat.zero_le _)) fun mk H11 hmk e11' h11 => ?_
      have hmk0 : H mk = none := fresh_back e0a hmk
      refine q_asg ev_c fun H12 e12 => ?_
      have e0b := (e0a.trans e11').trans e12
      refine q_forR1 (n := (w1.length : Int)) (ea_cons (ev_var rfl) ea_nil) (by omega)
        (fun n σ' H' => ∃ k11 k12, σ' = [some (.ref d), some (.ref r), some (.str sTurns), some (.str (nm i)), some (.str (tx (sel w1 w2 i))), some (.int (w1.length : Int)), some (.ref up), some (.str (tx (sel w1 w2 j))), some (.ref hg), some (.ref mk), some (.int (b01 (turnsTo (sel w1 w2 i) (sel w1 w2 j) n).2)), k11, k12, none] ∧ Ex H10 H' ∧ H' mk = some (.lst (niv (turnsTo (sel w1 w2 i) (sel w1 w2 j) n).1)))
        (fun H13 e13 => ⟨_, _, rfl, (e11'.trans e12).trans e13, e13 _ _ (e12 _ _ h11)⟩) (fun n σ' H' hn hP => ?_) (fun σ' H' hP => ?_)
      · obtain ⟨k11, k12, rfl, e, hmv⟩ := hP
        have hlen := turnsTo_len (sel w1 w2 i) (sel w1 w2 j) n
        generalize hS : turnsTo (sel w1 w2 i) (sel w1 w2 j) n = S at hmv hlen
        have inR : ∀ {σ3 : L2.St} {Ha : Hp} {p : Addr} {l : List Nat} {v1 v2 : Nat}, Ha p = some (.lst (niv l)) → σ3[v1]? = some (some (.int (n : Int))) → σ3[v2]? = some (some (.ref p)) → Ev (tOp (rIn K false) (tVar v1) (tVar v2)) σ3 Ha (.bl (decide (n ∈ l))) := fun hp g1 g2 =>
          ev_op (ev_var g1) (ev_var g2) (by rw [← niv_in]; exact rv_isL (sq_of hp) rfl (niv_flat _))
        refine q_asgL (el_lst (vs := [.int (b01 (decide (n ∈ ris (sel w1 w2 i)))), .int (b01 (decide (n ∈ ris (sel w1 w2 j))))]) (ea_cons (ev_intB (inR (e _ _ hup') rfl rfl)) (ea_cons (ev_intB (inR (e _ _ hhg') rfl rfl)) ea_nil)) (by show 2 ≤ 100000; decide)) fun hh H13 hhh e13 h13 => ?_
        have hS1 : turnsTo (sel w1 w2 i) (sel w1 w2 j) (n + 1) = turnStep (sel w1 w2 i) (sel w1 w2 j) S n := by rw [turnsTo_succ, hS]
        have two0 : EvL (tLst (tCons (tC (.int 0)) (tCons (tC (.int 0)) tNil))) [some (.ref d), some (.ref r), some (.str sTurns), some (.str (nm i)), some (.str (tx (sel w1 w2 i))), some (.int (w1.length : Int)), some (.ref up), some (.str (tx (sel w1 w2 j))), some (.ref hg), some (.ref mk), some (.int (b01 S.2)), some (.int (n : Int)), some (.ref hh), none] H13 [.int (b01 false), .int (b01 false)] := el_lst (ea_cons ev_c (ea_cons ev_c ea_nil)) (by show 2 ≤ 100000; decide)
        refine s_when (b := decide (n ∈ ris (sel w1 w2 i)) || decide (n ∈ ris (sel w1 w2 j))) (et_is (et_test (ev_neTwo (ev_var rfl) h13 two0)) ?_) (fun hb H14 e14 => ?_) (fun hb H14 e14 => ?_)
        · rw [eq_two]
          cases decide (n ∈ ris (sel w1 w2 i)) <;> cases decide (n ∈ ris (sel w1 w2 j)) <;> rfl
        · have e1a := (e.trans e13).trans e14
          refine s_if (b := !((decide (n ∈ ris (sel w1 w2 i)) && decide (n ∈ ris (sel w1 w2 j))) || !(decide (n ∈ ris (sel w1 w2 i)) == !S.2))) (et_is (et_test (ev_eqTwo (c := b01 (!S.2)) (d := b01 S.2) (ev_var rfl) (e14 _ _ h13) (el_lst (ea_cons (ev_nat (ev_op ev_c (ev_var rfl) rv_I0) (b01_flip _)) (ea_cons (ev_var rfl) ea_nil)) (by show 2 ≤ 100000; decide)))) ?_) (fun hb2 H15 e15 => ?_) (fun hb2 H15 e15 => ?_)
          · rw [eq_two]
            exact turn_case _ _ _ hb
          · have hb2' := hb2
            rw [Bool.not_eq_true'] at hb2'
            have hst : turnsTo (sel w1 w2 i) (sel w1 w2 j) (n + 1) = (S.1, !S.2) := by
              rw [hS1, turnStep, if_pos hb, if_neg (by rw [hb2']; exact Bool.false_ne_true)]
            refine s_asg (ev_nat (ev_op ev_c (ev_var rfl) rv_I0) (b01_flip _)) fun H16 e16 => ?_
            exact ⟨some (.int (n : Int)), some (.ref hh), by rw [hst]; rfl, (e1a.trans e15).trans e16, by rw [hst]; exact e16 _ _ (e15 _ _ (e14 _ _ (e13 _ _ hmv)))⟩
          · have hb2' := hb2
            rw [Bool.not_eq_false'] at hb2'
            have hst : turnsTo (sel w1 w2 i) (sel w1 w2 j) (n + 1) = (S.1 ++ [n], S.2) := by
              rw [hS1, turnStep, if_pos hb, if_pos hb2']
            refine s_app (e15 _ _ (e14 _ _ (e13 _ _ hmv))) (ev_var rfl) (ev_var rfl) (by rw [niv_len]; omega) fun H16 e16 => ?_
            refine ⟨some (.int (n : Int)), some (.ref hh), by rw [hst]; rfl, Ex.mut ((e1a.trans e15).trans e16) hmk, ?_⟩
            rw [upd_same, hst, niv_app]
            rfl
        · have hst : turnsTo (sel w1 w2 i) (sel w1 w2 j) (n + 1) = S := by
            rw [hS1, turnStep, if_neg (by rw [hb]; exact Bool.false_ne_true)]
          exact ⟨some (.int (n : Int)), some (.ref hh), by rw [hst]; rfl, (e.trans e13).trans e14, by rw [hst]; exact e14 _ _ (e13 _ _ hmv)⟩
      · obtain ⟨k11, k12, rfl, e, hmv⟩ := hP
        refine s_ret (ev_var rfl) fun H13 e13 => q mk H13 hmk0 ((e0a.trans e).trans e13) (e13 _ _ ?_)
        rw [hmv, Int.toNat_natCast]
        show _ = some (HO.lst (niv (turnsM (sel w1 w2 i) (sel w1 w2 j))))
        rw [turnsM, s1]
end
end Kt

/-! Kz: an exception that is kept behind its clause; isinstance of it; xs.count(True); a def called by an expression. -/
namespace Kt
open PySem PySem.Spec PyProof.Rows L2 Evl
/-- the exception's object, tracked -/
def excH (a : Addr) (cls : Value) (d : Option Addr) : HO := .ext fun h => ∃ oe vs, h.get? a = some oe ∧ Zc cls d oe ∧ oe.data = .fields vs
section
variable {X : Cx} {pins : List (Addr × Obj)} {σ : L2.St} {H : Hp} {s : Shared}
theorem inv_suite0 (I : Inv X pins σ H s) (a : Addr) : Inv (X.suite a (X.pn ++ pins)) [] σ H s :=
  ⟨I.ok.suite _ _, I.os, I.bare, I.base, I.loc, I.cell, I.free, I.freeC, fun p hp => I.pin p (by rw [List.append_nil] at hp; exact hp), I.hok, I.len⟩
theorem inv_unsuite0 {a : Addr} {pn' : List (Addr × Obj)} (I : Inv (X.suite a (X.pn ++ pins)) pn' σ H s) (ok : X.Ok) : Inv X pins σ H s :=
  ⟨ok, I.os, I.bare, I.base, I.loc, I.cell, I.free, I.freeC, fun p hp => I.pin p (List.mem_append_left _ hp), I.hok, I.len⟩
/-- an object that stands untracked, no one's before, is tracked -/
theorem inv_seen {a : Addr} {oe : Obj} {vs : Array Value} {cls : Value} {d : Option Addr} (I : Inv X pins σ H s) (he : s.heap.get? a = some oe) (hz : Zc cls d oe) (hd : oe.data = .fields vs) (na : H a = none)
    (n0 : X.s_0.heap.get? a = none) (nL : a ≠ X.env.locals) (nP : ∀ p ∈ X.pn ++ pins, p.1 ≠ a) : Inv X pins σ (upd H a (excH a cls d)) s := by
  have ne : ∀ {b : Addr} {u : HO}, H b = some u → b ≠ a := fun q => ne_of_none q na
  have n0' : ∀ {b : Addr} {o : Obj}, X.s_0.heap.get? b = some o → b ≠ a := fun q z => by rw [z, n0] at q; cases q
  have B := I.base
  refine ⟨I.ok, I.os, I.bare, ⟨B.keep, B.slot, fun b o q1 q2 q3 => ?_, B.there, fun b xs q => ?_, fun b o u q => ?_, fun b ps q => ?_⟩, I.loc, I.cell, ?_, fun x c q => ?_, fun p hp => ?_, fun b u q => ?_, I.len⟩
  · rw [upd_ne (n0' q1)]
    exact B.free b o q1 q2 q3
  · have z := B.tups b xs q
    rw [upd_ne (ne z)]
    exact z
  · have z := B.frzs b o u q
    rw [upd_ne (ne z)]
    exact z
  · obtain ⟨more, z⟩ := B.tbls b ps q
    exact ⟨more, by rw [upd_ne (ne z)]; exact z⟩
  · rw [upd_ne (Ne.symm nL)]
    exact I.free
  · obtain ⟨v, oc, hoc, hcd⟩ := I.cell x c q
    have nc : c ≠ a := fun z => by
      rw [z, he] at hoc
      cases hoc
      rw [hd] at hcd
      cases hcd
    rw [upd_ne nc]
    exact I.freeC x c q
  · obtain ⟨p1, p2, p3, p4, p5⟩ := I.pin p hp
    exact ⟨p1, by rw [upd_ne (nP p hp)]; exact p2, p3, p4, p5⟩
  · by_cases hb : b = a
    · subst hb
      rw [upd_same] at q
      cases q
      exact ⟨⟨oe, vs, he, hz, hd⟩, ⟨oe, he⟩, fun h1 h2 ⟨o', v', k1, k2⟩ k => ⟨o', v', k _ k1, k2⟩⟩
    · rw [upd_ne hb] at q
      exact (I.hok b u q).stay (fun c v _ z => z) (fun c z => by rw [upd_ne (ne z)]; exact z) fun c xs z => by rw [upd_ne (ne z)]; exact z
end
/-- what the clause wishes of an exception of the body: it is tracked from then on -/
def wKeep (K : PySem.W.Frag) (c : Value) (i : Nat) (ts : TS) (D : Ends) : WX := fun cls d σ H =>
  PySem.W.exmOne K cls c = some true ∧ ∀ a, H a = none → ts { nx := fun σ' H' => D.nx (σ'.set i none) H', rt := D.rt, bk := fun σ' H' => D.bk (σ'.set i none) H', ct := fun σ' H' => D.ct (σ'.set i none) H' } (σ.set i (some (.ref a))) (upd H a (excH a cls d))
section
variable {X : Cx} {x n : Str} {c : Value} {i : Nat} {body suite : List Stmt} {b₀ : Stmt} {np pos pos' : Pos} {tb : WX → TS} {ts : TS}
theorem ps_try_keep (hs : X.stack = X.env :: X.outer) (hf : X.env.frame = some X.env.locals) (hex : X.ex = []) (hN : X.N.Nodup) (hi : X.N[i]? = some n) (hln : X.env.kindOf n = some .local) (hc : Names X x c)
    (hb : ∀ (W : WX) (pn : List (Addr × Obj)) (xe : Value → Shared → Prop), Takes (X.tr pn xe) W → PassesOwn (model X.prog X.w) X.A X.env xe → PSs (X.tr pn xe) body (tb W))
    (hsu : ∀ (a : Addr) (pn : List (Addr × Obj)), PSs (X.suite a pn) (b₀ :: suite) ts) :
    PS X (.Try body [.ExceptHandler (some (.Name x np)) (some n) (b₀ :: suite) pos'] [] [] pos) (fun D σ H => tb (wKeep X.K c i ts D) D σ H) := by
  refine ⟨fun pins s σ H D I h => ?_⟩
  have okX := I.ok
  have frX : X.A.frames = some (X.env :: X.outer) := by rw [okX.frames, hs]
  have locN : Loc X.env.scope n := .inl hln
  refine wpAny_Try_except ?_
  refine wpAny_mono ((hb (wKeep X.K c i ts D) (X.pn ++ pins) (fun e s₁ => wpAny (model X.prog X.w) X.A (noteFrame e X.env) (fun _ s₂ => wpAny (model X.prog X.w) X.A (setFlight e none) (fun _ s₃ =>
    wpAny (model X.prog X.w) X.A (handleBy e X.env [.ExceptHandler (some (.Name x np)) (some n) (b₀ :: suite) pos']) (SP X pins D) X.xe s₃) X.xe s₂) X.xe s₁) (fun u s' xx => ?_) PassesOwn.looking).run [] s σ H D (I.toTry _) h) (fun f s1 q => ?_) (fun e s1 he => he)
  · obtain ⟨a, B, sI, pins', σ', H', cls, d, rfl, Jt, nb, up, sky, na, os, ag, hb1, hyes⟩ := xx
    have J : Inv X pins σ' H' sI := Jt.ofTry okX
    rw [hs] at sky
    show wpAny (model X.prog X.w) X.A (noteFrame (.ref a) X.env) _ _ _
    refine Sky.land Zc.steady frX hf sky fun hA flA upA => ?_
    have JA : Inv X pins σ' H' { s' with heap := hA } := J.landed nb flA.1 (up.trans upA) os ag
    obtain ⟨oA, vA, eA, zA, dA⟩ := flA.there
    have notF : a ∉ frs (X.env :: X.outer) := fun hm => by
      obtain ⟨_, o', e', hnf⟩ := flA.2.2.1.mem hm
      rw [eA] at e'
      cases e'
      exact hnf _ dA
    have nL : a ≠ X.env.locals := fun z => notF (List.mem_filterMap.mpr ⟨X.env, List.mem_cons_self, by rw [hf, z]⟩)
    have nF : a ∉ X.fs := fun hm => by
      obtain ⟨e, he, q⟩ := List.mem_filterMap.mp hm
      exact notF (List.mem_filterMap.mpr ⟨e, List.mem_cons_of_mem _ he, q⟩)
    have nB : ∀ o, sI.heap.get? a ≠ some o := fun o q => by
      have z := nb a o q (by rw [hs]; exact notF)
      rw [flA.2.1] at z
      cases z
    have n0 : X.s_0.heap.get? a = none := by
      cases q : X.s_0.heap.get? a with
      | none => rfl
      | some o =>
        obtain ⟨o', q'⟩ := J.base.there a o q (by rw [hex]; exact fun z => nomatch z)
        exact absurd q' (nB o')
    have nP : ∀ p ∈ X.pn ++ pins, p.1 ≠ a := fun p hp z => by
      have w := (J.pin p hp).1
      rw [z] at w
      exact nB _ w
    have SA := JA.suite eA dA na nL nF
    refine wpAny_handleBy_cons (codeAny_handlers_test ?_) (by intro q; cases q)
    have LT : PySem.W.Looks (model X.prog X.w) hA (typeOf (.ref a)) cls := fun A Q E s k q => wpAny_typeOf_ref (k _ _ eA) (by rw [zA.1]; exact q)
    have LM := PySem.W.exm_one (M := model X.prog X.w) (JA.kIn) LT hb1
    have seek : ∀ {Q : Value → Shared → Prop} {E : Value → Shared → Prop}, Q c { s' with heap := hA } → wpAny (model X.prog X.w) (X.A.mark (some (.ref a))) (eval (.Name x np) X.env) Q E { s' with heap := hA } := fun {Q E} q => by
      obtain ⟨hg, hdbg, hm | ⟨hm, hv, hnn⟩⟩ := hc
      · exact ld_glob (X := X.suite a ((a, oA) :: (X.pn ++ pins))) SA hg hm q hdbg
      · exact ld_blt (X := X.suite a ((a, oA) :: (X.pn ++ pins))) SA hg hm hv q hnn hdbg
    refine seek (LM.here (codeAny_handlers_suite_as ?_))
    refine HandSPX.lands_againZ flA fun hC flC upC => ?_
    have JC : Inv X pins σ' H' { s' with heap := hC } := J.landed nb flC.1 ((up.trans upA).trans upC) os ag
    obtain ⟨oC, vC, eC, zC, dC⟩ := flC.there
    have SC := inv_suite0 (inv_seen (s := { s' with heap := hC }) JC eC zC dC na n0 nL nP) a
    refine store_ok (X := X.suite a (X.pn ++ pins)) (v := .ref a) SC hN hi locN rfl (fun s5 S5 => ?_) (.inr hln)
    refine wpAny_mono ((hsu a (X.pn ++ pins)).run [] s5 _ _ _ S5 (hyes a na)) (fun f s6 q => ?_) (fun _ _ z => False.elim z)
    have fin : ∀ {σ6 : L2.St} {H6 : Hp} {Q : Shared → Prop}, Inv (X.suite a (X.pn ++ pins)) [] σ6 H6 s6 → (∀ s7, Inv X pins (σ6.set i none) H6 s7 → Q s7) →
        wpAny (model X.prog X.w) X.A (do bindName X.env n .none; unbindBehindTheSuite X.env n pos') (fun _ s7 => Q s7) X.xe s6 := fun S6 hq => gone_ok (inv_unsuite0 S6 okX) hN hi hln hq
    cases f with
    | next => obtain ⟨σ6, H6, S6, q6⟩ := q; exact fin S6 fun s7 J7 => ⟨_, _, J7, q6⟩
    | brk => obtain ⟨σ6, H6, S6, q6⟩ := q; exact fin S6 fun s7 J7 => ⟨_, _, J7, q6⟩
    | cont => obtain ⟨σ6, H6, S6, q6⟩ := q; exact fin S6 fun s7 J7 => ⟨_, _, J7, q6⟩
    | ret u => obtain ⟨v6, σ6, H6, S6, r6, q6⟩ := q; exact fin S6 fun s7 J7 => ⟨_, _, _, J7, r6, q6⟩
  · cases f with
    | next => obtain ⟨σ', H', J', q⟩ := q; exact wpAny_execs_nil ⟨σ', H', J'.ofTry okX, q⟩
    | brk => obtain ⟨σ', H', J', q⟩ := q; exact ⟨σ', H', J'.ofTry okX, q⟩
    | cont => obtain ⟨σ', H', J', q⟩ := q; exact ⟨σ', H', J'.ofTry okX, q⟩
    | ret u => obtain ⟨v, σ', H', J', r, q⟩ := q; exact ⟨v, σ', H', J'.ofTry okX, r, q⟩
end
/-! ### isinstance of a kept exception -/
def rIsT (K : PySem.W.Frag) (D : Addr) : List V → Hp → VK → Prop := fun xs H Q => ∃ (a : Addr) (c : V) (cv : Value) (b : Bool), xs = [.ref a, c] ∧ H a = some (excH a (.ref D) none) ∧ (∀ u, RelV c u → u = cv) ∧ PySem.W.kitOne K (.ref D) cv = some b ∧ Q (.bl b) H
theorem call_isT {X : Cx} {D : Addr} (C : ExcC X.K D) : CallR X (.builtin "isinstance") (rIsT X.K D) := by
  intro pins s σ H xs us Q I r h
  obtain ⟨a, c, cv, b, rfl, ha, hcv, e, q⟩ := h
  cases r with
  | cons rx rr =>
    cases rr with
    | cons rt rr =>
      cases rr
      cases rx
      obtain rfl := hcv _ rt
      obtain ⟨oe, vs, hget, hz, hv⟩ : ∃ oe vs, s.heap.get? a = some oe ∧ Zc (.ref D) none oe ∧ oe.data = .fields vs := (I.hok a _ ha).1
      have J : PySem.W.InstAt s.heap a oe D none := by
        obtain ⟨oc, od, oda, osl⟩ := oe
        obtain ⟨h1, h2⟩ := hz
        dsimp only at h1 h2 hv
        subst h1 h2 hv
        exact ⟨hget, rfl, rfl, trivial⟩
      exact PySem.W.kia_one (PySem.W.handS_kitx_exc C.hg C.hk C.hs C.hd C.ha C.hn C.ht C.hm) I.kIn J e (fun z => nomatch z) fun tk => ⟨.bl b, H, I.kept (t' := tk) fun _ _ z => z, rfl, q⟩
/-! ### xs.count(True) -/
def rCntB (K : PySem.W.Frag) : V → List V → Hp → VK → Prop := fun x xs H Q => ∃ (p : Addr) (bs : List Bool), x = .ref p ∧ xs = [.bl true] ∧ SqL K H p (bs.map V.bl) ∧ Q (.int (bs.count true : Nat)) H
theorem bls_flat (bs : List Bool) : (bs.map V.bl).all flatV = true := by
  rw [List.all_map, List.all_eq_true]
  exact fun _ _ => rfl
theorem cnt_bls : ∀ {bs : List Bool} {us : List Value}, Vals (bs.map V.bl) us → us.countP (eqU (.bl true)) = bs.count true
  | [], _, .nil => rfl
  | b :: bs, _, .cons h t => by
    rw [List.countP_cons, List.count_cons, cnt_bls t, eqU_of h rfl]
    cases b <;> rfl
theorem mt_lcountB {X : Cx} : MtR X "list.count" (rCntB X.K) := by
  intro pins s σ H x xs v us Q I rx rxs h
  obtain ⟨p, bs, rfl, rfl, hs, q⟩ := h
  cases rx
  cases rxs with
  | cons ry rt =>
    rename_i uy ut
    cases rt
    obtain ⟨its, rv, ⟨⟨cls, dd, data, sl⟩, n, ho, hc, hdn, hd⟩, hlen⟩ := I.list hs
    simp only at hc hd
    subst hc hd
    refine call_meets PySem.F.slot_list_count ⟨_, ho, rfl⟩ PySem.F.entry_list_count (PySem.F.args_list_count_2 _ _)
      (SeqAt.list_countAt p its.toArray n dd sl uy (eqU (.bl true))) ⟨ho, fun y hy => mem_eqAt ry rfl rv (bls_flat bs) y (by simpa using hy), ?_⟩
    refine ⟨.int (bs.count true : Nat), H, I.tok _, ⟨s.toks, ?_⟩, q⟩
    rw [← cnt_bls rv]
theorem pe_gref {X : Cx} {x : Str} {a : Addr} {pos : Pos} (hm : X.mg x = some (.ref a)) (hg : Gl X x := by rfl) (hd : (x == ("__debug__" : Str)) = false := by decide) : PE X (.Name x pos) (tC (.ref a)) := pe_glob hg hm rfl hd
theorem ve_boot : bootBuiltins "ValueError" = some (.type "ValueError") := by decide +kernel
theorem pe_VE {X : Cx} {pos : Pos} (hm : X.mg "ValueError" = none) (hg : Gl X "ValueError" := by rfl) : PE X (.Name "ValueError" pos) (tC (.ty "ValueError")) := pe_bltn hg hm ve_boot rfl
/-! ### a def called by an expression -/
def tCallFx (P : Program) (w : World) (K : PySem.W.Frag) (mg : Str → Option Value) (base : Heap) (j : Nat) (W : WX) (tf : TE) (t : TA) : TE := fun σ H Q => tf σ H fun y H1 => ∃ (f : Addr) (fd : FuncData) (k : Nat) (ps : List Str) (sp : Sp), y = .ref f ∧ FnOk P w K mg base (L2.CX P w) k f fd ps sp ∧
  Binds K fd ps [] ∧ PySem.W.keepIn K (.ref f) = true ∧ k ≤ j ∧ t σ H1 fun vs H2 => sp vs H2 Q (WE W σ)
theorem pe_callFx {X : Cx} {W : WX} {j : Nat} {fe e : Expr} {es : List Expr} {tf : TE} {t : TA} {pos : Pos} (tk : Takes X W) (hf : PE X fe tf) (hr : Room j X.A) (ha : PA X (e :: es) t)
    (ht : eval (.Call fe (e :: es) [] pos) X.env = (do callWith pos (← eval fe X.env) [] (backTo pos (starEach (e :: es) X.env)) (backToKw pos (keywordEach [] X.env))) := by rfl)
    (he : starEach (e :: es) X.env = (false, eval e X.env) :: starEach es X.env := by rfl) (hpl : (backTo pos (starEach es X.env)).any (·.1) = false := by rfl) : PE X (.Call fe (e :: es) [] pos) (tCallFx X.prog X.w X.K X.mg X.base j W tf t) := by
  refine ⟨fun pins s σ H Q I h => ?_⟩
  refine Call_ (thn (hf.run pins s σ H _ I h) fun u s1 ⟨y, H1, I1, ry, f, fd, k, ps, sp, ey, F, hb, hk, hkj, q⟩ => ?_) ht
  subst ey
  obtain rfl : u = Value.ref f := ry
  refine PySem.W.callWith_K (h₀ := X.base) I.ok.mod.kin hk (thn (ha.run pos pins s1 σ H1 _ I1 q) fun us s2 ⟨vs, H2, I2, r, q2⟩ => ⟨I2.kIn, ?_⟩) he hpl
  exact run_fnS (E := WE W) F (hr.mono hkj) hb (passAt tk σ) I2 r q2
end Kt

/-! Fm: _law_word, _law_tried. -/
namespace Kt
open PySem PySem.Spec PyProof.Rows L2 Evl
/-! _law_word: slots 0 _law_kept, 1 _law_kinds; cells  -/
abbrev s_law_word : Stmt := topS 42
abbrev N_law_word : List Str := ["_law_kept", "_law_kinds"]
theorem sc_law_word : FnScope N_law_word ["_law_kept"] (defScope s_law_word) := ⟨rfl, rfl, rfl, by decide +kernel, rfl, by decide +kernel, by decide +kernel⟩
/-! _law_tried: slots 0 _law_what, 1 _law_sheet_here, 2 _law_rule_here, 3 _law_kept, 4 _law_answer, 5 e; cells  -/
abbrev s_law_tried : Stmt := topS 43
abbrev N_law_tried : List Str := ["_law_what", "_law_sheet_here", "_law_rule_here", "_law_kept", "_law_answer", "e"]
theorem sc_law_tried : FnScope N_law_tried ["_law_what", "_law_sheet_here", "_law_rule_here"] (defScope s_law_tried) := ⟨rfl, rfl, rfl, by decide +kernel, rfl, by decide +kernel, by decide +kernel⟩
/-- what the top knows of the exceptions' classes; C: TooLong -/
structure Ek (K : PySem.W.Frag) (mg : Str → Option Value) (C : Addr) : Prop where
  xc : ExcC K C
  clash : ∃ c, mg "Clash" = some (.ref c) ∧ PySem.W.kitOne K (.ref C) (.ref c) = some false
  noName : ∃ c, mg "NoName" = some (.ref c) ∧ PySem.W.kitOne K (.ref C) (.ref c) = some false
  noText : ∃ c, mg "NoText" = some (.ref c) ∧ PySem.W.kitOne K (.ref C) (.ref c) = some false
  noTick : ∃ c, mg "NoTick" = some (.ref c) ∧ PySem.W.kitOne K (.ref C) (.ref c) = some false
  noWave : ∃ c, mg "NoWave" = some (.ref c) ∧ PySem.W.kitOne K (.ref C) (.ref c) = some false
  unlike : ∃ c, mg "Unlike" = some (.ref c) ∧ PySem.W.kitOne K (.ref C) (.ref c) = some false
  tooLong : mg "TooLong" = some (.ref C) ∧ PySem.W.kitOne K (.ref C) (.ref C) = some true
  ve : mg "ValueError" = none ∧ PySem.W.kitOne K (.ref C) (.type "ValueError") = some true
  te : ∃ c, mg "TickError" = some (.ref c) ∧ PySem.W.exmOne K (.ref C) (.ref c) = some true
abbrev sTooLong : Str := Str.ofString "too long"
def spWord (C : Addr) : Sp := fun vs H Q _ => ∃ a : Addr, vs = [.ref a] ∧ H a = some (excH a (.ref C) none) ∧ RetV (.str sTooLong) H Q
def spTried (K : PySem.W.Frag) : Sp := fun vs H Q _ => ∃ (what : Nat) (d r : Addr) (w1 w2 : List Lv) (rl : Rl), vs = [.int (what : Int), .ref d, .ref r] ∧ what < 3 ∧ Pre K [.ref d, .ref r] H w1 w2 rl ∧ (6 < unkN w1 w2 → RetV (.str sTooLong) H Q) ∧
  (unkN w1 w2 ≤ 6 → (what = 0 → RetV (.str (vdS (verdM w1 w2 rl))) H Q) ∧ (what = 1 → RetL (niv (sureM w1 w2 rl)) H Q) ∧
    (what = 2 → (goodM w1 w2 rl = [] → RetV .non H Q) ∧ (goodM w1 w2 rl ≠ [] → RetN (dsheet (toldS (goodM w1 w2 rl) w1.length)) H Q)))
abbrev tbTried (P : Program) (w : World) (K : PySem.W.Frag) (mg : Str → Option Value) (base : Heap) (f1 f2 f3 : Addr) (W : WX) : TS :=
  tAsg (tCallFx P w K mg base 5 W (tOp (rIxL K) (tLst (tCons (tC (.ref f1)) (tCons (tC (.ref f2)) (tCons (tC (.ref f3)) tNil)))) (tVar 0)) (tCons (tVar 1) (tCons (tVar 2) tNil))) (gName 4)
section
variable {P : Program} {w : World} {K : PySem.W.Frag} {mg : Str → Option Value} {base : Heap} {σ : L2.St} {H : Hp} {ta tb te tf : TE} {tr t : TA} {tu tz : TS} {D : Ends} {r : V → List V → Hp → VK → Prop} {z : V} {vs xs : List V}
theorem ev_bmL {a : Addr} (h : Ev ta σ H (.ref a)) (hx : SqL K H a xs) (ht : EvA t σ H vs) (hr : ∀ H1, Ex H H1 → ∀ Q : VK, Q z H1 → r (.ref a) vs H1 Q) : Ev (tBM K "list" r ta t) σ H z := fun H1 e Q q =>
  h H1 e _ fun H2 e2 => ⟨Or.inl ⟨rfl, xs, ex_l (e.trans e2) hx⟩, ht H2 (e.trans e2) _ fun H3 e3 => hr H3 ((e.trans e2).trans e3) Q (q H3 (e2.trans e3))⟩
theorem ev_isC {C a c : Addr} {b : Bool} (h : Ev ta σ H (.ref a)) (ha : H a = some (excH a (.ref C) none)) (hk : PySem.W.kitOne K (.ref C) (.ref c) = some b) : Ev (tCB (rIsT K C) (tCons ta (tCons (tC (.ref c)) tNil))) σ H (.bl b) :=
  ev_cb (ea_cons h (ea_cons ev_c ea_nil)) fun H1 e Q q => ⟨a, _, _, b, rfl, e _ _ ha, fun u hu => hu, hk, q H1 (Ex.refl _)⟩
theorem ok_law_word (T : Tx mg) {C : Addr} (ek : Ek K mg C) {f : Addr} {fd : FuncData} (F : Fun K "_law_word" "_law_word" s_law_word f fd) : FnOk P w K mg base CX0 1 f fd ["_law_kept"] (spWord C) := by
  refine F.ok sc_law_word (fun vs H Q E h => ?_) (fun cdv A outer s H vs Q E hr h => ?_)
  · obtain ⟨a, rfl, _⟩ := h
    rfl
  · obtain ⟨a, rfl, ha, q⟩ := h
    have nd := sc_law_word.nd
    have xc := ek.xc
    obtain ⟨c1, g_Clash, k1⟩ := ek.clash
    obtain ⟨c2, g_NoName, k2⟩ := ek.noName
    obtain ⟨c3, g_NoText, k3⟩ := ek.noText
    obtain ⟨c4, g_NoTick, k4⟩ := ek.noTick
    obtain ⟨c5, g_NoWave, k5⟩ := ek.noWave
    obtain ⟨c7, g_Unlike, k7⟩ := ek.unlike
    obtain ⟨g_TooLong, k6⟩ := ek.tooLong
    obtain ⟨ve_no, k8⟩ := ek.ve
    refine ⟨_, (pss_cons (ps_set (i := 1) nd rfl (by first | exact .inl rfl | exact .inr rfl) (pe_lst (pa_cons (pe_callB (call_isT xc) (by rfl) T.isinstance (by decide +kernel) (pa_cons (pv 0) (pa_cons (pe_gref g_Clash) pa_nil))) (pa_cons (pe_callB (call_isT xc) (by rfl) T.isinstance (by decide +kernel) (pa_cons (pv 0) (pa_cons (pe_gref g_NoName) pa_nil))) (pa_cons (pe_callB (call_isT xc) (by rfl) T.isinstance (by decide +kernel) (pa_cons (pv 0) (pa_cons (pe_gref g_NoText) pa_nil))) (pa_cons (pe_callB (call_isT xc) (by rfl) T.isinstance (by decide +kernel) (pa_cons (pv 0) (pa_cons (pe_gref g_NoTick) pa_nil))) pa_nil))))))
      (pss_cons (ps_expr (pe_bm PySem.F.plainAttrs_list PySem.F.slot_list_extend PySem.F.type_list_extend mt_extend (pv 1) (pa_cons (pe_lst (pa_cons (pe_callB (call_isT xc) (by rfl) T.isinstance (by decide +kernel) (pa_cons (pv 0) (pa_cons (pe_gref g_NoWave) pa_nil))) (pa_cons (pe_callB (call_isT xc) (by rfl) T.isinstance (by decide +kernel) (pa_cons (pv 0) (pa_cons (pe_gref g_TooLong) pa_nil))) (pa_cons (pe_callB (call_isT xc) (by rfl) T.isinstance (by decide +kernel) (pa_cons (pv 0) (pa_cons (pe_gref g_Unlike) pa_nil))) pa_nil)))) pa_nil)))
      (pss_cons (ps_if (PW.pt (pw_or (pt_cmpR op_ne (pe_bm PySem.F.plainAttrs_list PySem.F.slot_list_count PySem.F.type_list_count mt_lcountB (pv 1) (pa_cons pe_bl pa_nil)) pe_int (nomark _)) (pw_or1 (pt_not (pt_val (pe_callB (call_isT xc) (by rfl) T.isinstance (by decide +kernel) (pa_cons (pv 0) (pa_cons (pe_VE ve_no) pa_nil)))))))) (pss_one (ps_ret pe_str)) pss_nil)
      (pss_one (ps_ret (pe_ix ix_list (pe_lst (pa_cons pe_str (pa_cons pe_str (pa_cons pe_str (pa_cons pe_str (pa_cons pe_str (pa_cons pe_str (pa_cons pe_str pa_nil)))))))) (pe_bm PySem.F.plainAttrs_list PySem.F.slot_list_index PySem.F.type_list_index mt_index (pv 1) (pa_cons pe_bl pa_nil)) (fun _ _ => rfl))))))), ?_⟩
    refine q_asgL (xs := [false, false, false, false].map V.bl) (el_lst (ea_cons (ev_isC (ev_var rfl) ha k1) (ea_cons (ev_isC (ev_var rfl) ha k2) (ea_cons (ev_isC (ev_var rfl) ha k3) (ea_cons (ev_isC (ev_var rfl) ha k4) ea_nil)))) (by decide)) fun m H1 hm e1 h1 => ?_
    have ha1 := e1 _ _ ha
    refine s_ext (D := { nx := fun σ' H' => _, rt := _, bk := _, ct := _ }) (ys := [false, true, false].map V.bl) h1 (ev_var rfl) (el_lst (ea_cons (ev_isC (ev_var rfl) ha1 k5) (ea_cons (ev_isC (ev_var rfl) ha1 k6) (ea_cons (ev_isC (ev_var rfl) ha1 k7) ea_nil))) (by decide)) (by decide) fun H2 e2 => ?_
    have ma : m ≠ a := fun z => by rw [z, ha] at hm; cases hm
    have ha3 : (upd H2 m (.lst ([false, false, false, false].map V.bl ++ [false, true, false].map V.bl))) a = some (excH a (.ref C) none) := by rw [upd_ne (Ne.symm ma)]; exact e2 _ _ ha1
    have hs : SqL K (upd H2 m (.lst ([false, false, false, false].map V.bl ++ [false, true, false].map V.bl))) m ([false, false, false, false, false, true, false].map V.bl) := sq_of upd_same
    have e03 : Ex H (upd H2 m (.lst ([false, false, false, false].map V.bl ++ [false, true, false].map V.bl))) := Ex.mut (e1.trans e2) hm
    refine q_when (b := false) (et_is (et_or (et_test (ev_op (ev_bmL (z := .int 1) (ev_var rfl) hs (ea_cons ev_c ea_nil) fun H3 e3 Q' q' => ⟨m, [false, false, false, false, false, true, false], rfl, rfl, ex_l e3 hs, q'⟩) ev_c (rv_ne rfl))) fun _ => et_not (et_B (ev_cb (z := .bl true) (ea_cons (ev_var rfl) (ea_cons ev_c ea_nil)) fun H3 e3 Q' q' => ⟨a, _, _, true, rfl, e3 _ _ ha3, fun u hu => hu, k8, q' H3 (Ex.refl _)⟩))) (by decide)) (fun hb => absurd hb (by decide)) fun _ H3 e3 => ?_
    refine s_ret (ev_opL1 (xs := [.str (Str.ofString "clash"), .str (Str.ofString "no name"), .str (Str.ofString "no text"), .str (Str.ofString "no tick"), .str (Str.ofString "no wave"), .str (Str.ofString "too long"), .str (Str.ofString "unlike")]) (el_lst (ea_cons ev_c (ea_cons ev_c (ea_cons ev_c (ea_cons ev_c (ea_cons ev_c (ea_cons ev_c (ea_cons ev_c ea_nil))))))) (by decide)) (fun H4 e4 => ev_bmL (z := .int ((5 : Nat) : Int)) (ev_var rfl) (ex_l (e3.trans e4) hs) (ea_cons ev_c ea_nil) fun H5 e5 Q' q' => ⟨m, _, .bl true, 5, .bl true, rfl, rfl, ex_l ((e3.trans e4).trans e5) hs, rfl, rfl, rfl, rfl, fun i z' hi hz => ?_, q'⟩) fun p H4 h4 e4 => rv_ixL (sq_of h4) (atI_nat (j := 5) rfl)) fun H4 e4 => q H4 ((e03.trans e3).trans e4)
    match i, hi with
    | 0, _ => cases hz; rfl
    | 1, _ => cases hz; rfl
    | 2, _ => cases hz; rfl
    | 3, _ => cases hz; rfl
    | 4, _ => cases hz; rfl
theorem ok_law_tried (T : Tx mg) {C : Addr} (ek : Ek K mg C) (H_verdict : Has P w K mg base (L2.CX P w) 5 "verdict" ["sheet", "rule"] (spVerd K C)) (H_sure_failures : Has P w K mg base (L2.CX P w) 5 "sure_failures" ["sheet", "rule"] (spSure K C))
    (H_told_by : Has P w K mg base (L2.CX P w) 5 "told_by" ["sheet", "rule"] (spTold K C)) (H_law_word : Has P w K mg base CX0 1 "_law_word" ["_law_kept"] (spWord C))
    {f : Addr} {fd : FuncData} (F : Fun K "_law_tried" "_law_tried" s_law_tried f fd) : FnOk P w K mg base CX0 6 f fd ["_law_what", "_law_sheet_here", "_law_rule_here"] (spTried K) := by
  refine F.ok sc_law_tried (fun vs H Q E h => ?_) (fun cdv A outer s H vs Q E hr h => ?_)
  · obtain ⟨what, d, r, w1, w2, rl, rfl, _⟩ := h
    rfl
  · obtain ⟨what, d, r, w1, w2, rl, rfl, hw, hp, q1, q2⟩ := h
    have nd := sc_law_tried.nd
    obtain ⟨f1, fd1, F1, g_verdict, kp1, b1⟩ := H_verdict.ex
    obtain ⟨f2, fd2, F2, g_sure_failures, kp2, b2⟩ := H_sure_failures.ex
    obtain ⟨f3, fd3, F3, g_told_by, kp3, b3⟩ := H_told_by.ex
    obtain ⟨cT, g_TickError, hexm⟩ := ek.te
    refine ⟨_, (pss_cons (ps_set (i := 3) nd rfl (by first | exact .inl rfl | exact .inr rfl) pe_non)
      (pss_cons (ps_set (i := 4) nd rfl (by first | exact .inl rfl | exact .inr rfl) pe_non)
      (pss_cons (ps_try_keep (tb := tbTried P w K mg base f1 f2 f3) (ts := tAsg (tVar 5) (gName 3)) rfl rfl rfl nd (i := 5) rfl rfl ⟨rfl, by decide, .inl g_TickError⟩ (fun W pn xe tk po => (pss_one (ps_set (i := 4) nd rfl (by first | exact .inl rfl | exact .inr rfl) (pe_callFx tk (pe_ix (ix_listK (K := K) rfl) (pe_lst (pa_cons (pe_gref g_verdict) (pa_cons (pe_gref g_sure_failures) (pa_cons (pe_gref g_told_by) pa_nil)))) (pv 0) (fun _ _ => rfl)) hr (pa_cons (pv 1) (pa_cons (pv 2) pa_nil)))))) (fun a pn => (pss_one (ps_set (i := 3) nd rfl (by first | exact .inl rfl | exact .inr rfl) (pv 5)))))
      (pss_cons (ps_if (pt_cmpR op_isN (pv 3) pe_non (nomark _)) (pss_one (ps_ret (pv 4))) pss_nil)
      (pss_one (ps_ret (pe_callH H_law_word hr (pa_cons (pv 3) pa_nil)))))))), ?_⟩
    refine q_asg ev_c fun H1 e1 => ?_
    refine q_asg ev_c fun H2 e2 => ?_
    have e02 := e1.trans e2
    have kept : ∀ {v k5} {H3 : Hp}, Ex H H3 → (∀ H4, Ex H3 H4 → Q v H4) → tIfS (tTest (tOp (fun x y H Q => y = .non ∧ Q (.bl (decide (x = .non))) H) (tVar 3) (tC .non))) (tRet (tVar 4)) tNext { nx := tRet (tCall (spWord C) [] E0 (tCons (tVar 3) tNil)) { nx := fun _ H' => Q .non H', rt := Q }, rt := Q }
        [some (.int (what : Int)), some (.ref d), some (.ref r), some .non, some v, k5] H3 := fun {v k5 H3} e q => by
      refine s_when (b := true) (et_test (ev_op (ev_var rfl) ev_c (rv_val fun H4 e4 Q' q' => ⟨rfl, q'⟩))) (fun _ H4 e4 => ?_) (fun hb => absurd hb (by decide))
      exact s_ret (ev_var rfl) fun H5 e5 => q H5 (e4.trans e5)
    have args : ∀ {H3 : Hp}, EvA (tCons (tVar 1) (tCons (tVar 2) tNil)) [some (.int (what : Int)), some (.ref d), some (.ref r), some .non, some .non, none] H3 [.ref d, .ref r] := ea_cons (ev_var rfl) (ea_cons (ev_var rfl) ea_nil)
    -- the exception's way
    have caught : 6 < unkN w1 w2 → ∀ (D : Ends), (D.nx = fun σ' H' => tIfS (tTest (tOp (fun x y H Q => y = .non ∧ Q (.bl (decide (x = .non))) H) (tVar 3) (tC .non))) (tRet (tVar 4)) tNext { nx := tRet (tCall (spWord C) [] E0 (tCons (tVar 3) tNil)) { nx := fun _ H' => Q .non H', rt := Q }, rt := Q } σ' H') →
        ∀ H3, Ex H2 H3 → wKeep K (.ref cT) 5 (tAsg (tVar 5) (gName 3)) D (.ref C) none [some (.int (what : Int)), some (.ref d), some (.ref r), some .non, some .non, none] H3 := fun hx D hD H3 e3 => by
      refine ⟨hexm, fun a ha => ?_⟩
      refine s_asg (ev_var rfl) fun H4 e4 => ?_
      show D.nx _ H4
      rw [hD]
      have hx4 : H4 a = some (excH a (.ref C) none) := e4 _ _ upd_same
      have e04 : Ex H H4 := (e02.trans e3).trans ((Ex.new ha).trans e4)
      refine s_when (b := false) (et_test (ev_op (ev_var rfl) ev_c (rv_val fun H4 e4 Q' q' => ⟨rfl, q'⟩))) (fun hb => absurd hb (by decide)) fun _ H5 e5 => ?_
      exact s_ret (ev_call (ea_cons (ev_var rfl) ea_nil) fun H6 e6 Q' q' _ => ⟨a, rfl, e6 _ _ (e5 _ _ hx4), q'⟩) fun H6 e6 => q1 hx H6 ((e04.trans e5).trans e6)
    have pre : ∀ {H3 : Hp}, Ex H2 H3 → Pre K [.ref d, .ref r] H3 w1 w2 rl := fun e3 => by
      obtain ⟨d', r', eq, hd, hr', hl⟩ := hp
      exact ⟨d', r', eq, e02.trans e3 _ _ hd, ex_t (e02.trans e3) hr', hl⟩
    refine (ev_opL1 (xs := [.ref f1, .ref f2, .ref f3]) (z := ([.ref f1, .ref f2, .ref f3] : List V).getD what .non) (el_lst (ea_cons ev_c (ea_cons ev_c (ea_cons ev_c ea_nil))) (by show 3 ≤ 100000; decide)) (fun H3 e3 => ev_var rfl) fun p H3 h3 e3 => rv_ixL (sq_of h3) (atI_nat ?_)) H2 (Ex.refl H2) _ fun H3 e3 => ?_
    · rw [List.getD_eq_getElem?_getD]
      match what, hw with
      | 0, _ => rfl
      | 1, _ => rfl
      | 2, _ => rfl
    · match what, hw with
      | 0, _ =>
        refine ⟨f1, fd1, 5, _, _, rfl, F1, b1, kp1, Nat.le_refl _, args H3 (Ex.refl H3) _ fun H4 e4 => ⟨w1, w2, rl, pre (e3.trans e4), fun hx H5 e5 => ?_, fun hx H5 e5 => caught hx _ rfl H5 ((e3.trans e4).trans e5)⟩⟩
        exact kept ((e02.trans (e3.trans e4)).trans e5) fun H6 e6 => (q2 hx).1 rfl H6 (((e02.trans (e3.trans e4)).trans e5).trans e6)
      | 1, _ =>
        refine ⟨f2, fd2, 5, _, _, rfl, F2, b2, kp2, Nat.le_refl _, args H3 (Ex.refl H3) _ fun H4 e4 => ⟨w1, w2, rl, pre (e3.trans e4), fun hx p H5 hp5 e5 h5 => ?_, fun hx H5 e5 => caught hx _ rfl H5 ((e3.trans e4).trans e5)⟩⟩
        have e05 := (e02.trans (e3.trans e4)).trans e5
        exact kept e05 fun H6 e6 => (q2 hx).2.1 rfl p H6 (fresh_back (e02.trans (e3.trans e4)) hp5) (e05.trans e6) (e6 _ _ h5)
      | 2, _ =>
        refine ⟨f3, fd3, 5, _, _, rfl, F3, b3, kp3, Nat.le_refl _, args H3 (Ex.refl H3) _ fun H4 e4 => ⟨w1, w2, rl, pre (e3.trans e4), fun hx => ⟨fun hg H5 e5 => ?_, fun hg p H5 hp5 e5 h5 => ?_⟩, fun hx H5 e5 => caught hx _ rfl H5 ((e3.trans e4).trans e5)⟩⟩
        · exact kept ((e02.trans (e3.trans e4)).trans e5) fun H6 e6 => ((q2 hx).2.2 rfl).1 hg H6 (((e02.trans (e3.trans e4)).trans e5).trans e6)
        · have e05 := (e02.trans (e3.trans e4)).trans e5
          exact kept e05 fun H6 e6 => ((q2 hx).2.2 rfl).2 hg p H6 (fresh_back (e02.trans (e3.trans e4)) hp5) (e05.trans e6) (e6 _ _ h5)
end
end Kt

/-! Pl: the plain law. -/
namespace Kt
open PySem PySem.Spec PyProof.Rows L2 Evl
theorem opts_mem {a c : Lv} : c ∈ opts a ↔ (a = .x ∧ (c = .z ∨ c = .o)) ∨ (a ≠ .x ∧ c = a) := by
  cases a <;> cases c <;> simp [opts]
theorem at_app_lt {l m : List Lv} {i : Nat} (h : i < l.length) : at_ (l ++ m) i = at_ l i := by
  unfold at_
  rw [List.getD_eq_getElem?_getD, List.getD_eq_getElem?_getD, List.getElem?_append_left h]
theorem at_app_ge {l m : List Lv} {i : Nat} (h : l.length ≤ i) : at_ (l ++ m) i = at_ m (i - l.length) := by
  unfold at_
  rw [List.getD_eq_getElem?_getD, List.getD_eq_getElem?_getD, List.getElem?_append_right h]
theorem ext_at {u v : List Lv} (hl : u.length = v.length) (h : ∀ i, i < v.length → at_ u i = at_ v i) : u = v := by
  refine List.ext_getElem hl fun i h1 h2 => ?_
  have e1 := at_get h1
  have e2 := at_get h2
  rw [List.getElem?_eq_getElem h1] at e1
  rw [List.getElem?_eq_getElem h2] at e2
  rw [Option.some.inj e1, Option.some.inj e2, h i h2]
/-- u is w with its unknown levels told -/
def Kn (u w : List Lv) : Prop := u.length = w.length ∧ ∀ i, i < w.length → at_ u i ∈ opts (at_ w i)
theorem mem_aks : ∀ (n : Nat) (w : List Lv), w.length = n → ∀ u, u ∈ aks w ↔ Kn u w := by
  intro n
  induction n with
  | zero =>
    intro w hw u
    obtain rfl := List.length_eq_zero_iff.mp hw
    show u ∈ [[]] ↔ _
    rw [List.mem_singleton]
    constructor
    · rintro rfl
      exact ⟨rfl, fun i h => absurd h (Nat.not_lt_zero i)⟩
    · rintro ⟨h, _⟩
      exact List.length_eq_zero_iff.mp h
  | succ n ih =>
    intro w hw u
    rcases List.eq_nil_or_concat w with rfl | ⟨l, a, rfl⟩
    · cases hw
    · rw [List.concat_eq_append] at hw ⊢
      have hl : l.length = n := by rw [List.length_append] at hw; exact Nat.succ.inj hw
      rw [aks_snoc]
      unfold grow grow1
      rw [List.mem_flatMap]
      constructor
      · rintro ⟨h, hh, hu⟩
        obtain ⟨c, hc, rfl⟩ := List.mem_map.mp hu
        obtain ⟨k1, k2⟩ := (ih l hl h).mp hh
        refine ⟨by rw [List.length_append, List.length_append, k1]; rfl, fun i hi => ?_⟩
        rw [List.length_append] at hi
        by_cases hlt : i < l.length
        · rw [at_app_lt (l := h) (by omega), at_app_lt (l := l) hlt]
          exact k2 i hlt
        · have ei : i = l.length := by have : i < l.length + 1 := hi; omega
          rw [at_app_ge (l := h) (by omega), at_app_ge (l := l) (by omega), k1, ei, Nat.sub_self]
          exact hc
      · rintro ⟨k1, k2⟩
        rcases List.eq_nil_or_concat u with rfl | ⟨h, c, rfl⟩
        · rw [List.length_append] at k1
          cases k1
        · rw [List.concat_eq_append] at k1 k2 ⊢
          have k1' : h.length = l.length := by rw [List.length_append, List.length_append] at k1; exact Nat.succ.inj k1
          refine ⟨h, (ih l hl h).mpr ⟨k1', fun i hi => ?_⟩, List.mem_map.mpr ⟨c, ?_, rfl⟩⟩
          · have z := k2 i (by rw [List.length_append]; omega)
            rw [at_app_lt (l := h) (by omega), at_app_lt (l := l) hi] at z
            exact z
          · have z := k2 l.length (by rw [List.length_append]; exact Nat.lt_succ_self _)
            rw [at_app_ge (l := h) (by omega), at_app_ge (l := l) (Nat.le_refl _), k1', Nat.sub_self] at z
            exact z
theorem aks_iff {u w : List Lv} : u ∈ aks w ↔ Kn u w := mem_aks w.length w rfl u
theorem aks_ne (w : List Lv) : ∃ u, u ∈ aks w := by
  have h : 0 < (aks w).length := by rw [aks_len]; exact Nat.pow_pos (by decide)
  exact ⟨_, List.getElem_mem h⟩
theorem sheets_iff {w1 w2 : List Lv} {s : Sh} : s ∈ sheetsOf w1 w2 ↔ ∃ v1 v2, s = sh v1 v2 ∧ v1 ∈ aks w1 ∧ v2 ∈ aks w2 := by
  refine ⟨sheets_mem, ?_⟩
  rintro ⟨v1, v2, rfl, h1, h2⟩
  rw [sheets_eq]
  exact List.mem_flatMap.mpr ⟨v1, h1, List.mem_map.mpr ⟨v2, h2, rfl⟩⟩
theorem sheets_ne (w1 w2 : List Lv) : ∃ s, s ∈ sheetsOf w1 w2 := by
  obtain ⟨v1, h1⟩ := aks_ne w1
  obtain ⟨v2, h2⟩ := aks_ne w2
  exact ⟨_, sheets_iff.mpr ⟨v1, v2, rfl, h1, h2⟩⟩
/-! ### one level more known -/
def setA (w : List Lv) (t : Nat) (c : Lv) : List Lv := w.take t ++ [c] ++ w.drop (t + 1)
theorem setA_len {w : List Lv} {t : Nat} (c : Lv) (h : t < w.length) : (setA w t c).length = w.length := by
  unfold setA
  rw [List.length_append, List.length_append, List.length_take, List.length_drop]
  show min t w.length + 1 + (w.length - (t + 1)) = _
  omega
theorem setA_at {w : List Lv} {t : Nat} (c : Lv) (h : t < w.length) (i : Nat) : at_ (setA w t c) i = if i = t then c else at_ w i := by
  unfold setA
  have h1 : (w.take t).length = t := by rw [List.length_take]; omega
  by_cases h2 : i < t
  · rw [if_neg (by omega), List.append_assoc, at_app_lt (by omega)]
    unfold at_
    rw [List.getD_eq_getElem?_getD, List.getD_eq_getElem?_getD, List.getElem?_take, if_pos h2]
  · by_cases h3 : i = t
    · rw [if_pos h3, at_app_lt (by rw [List.length_append, h1, h3]; exact Nat.lt_succ_self _), at_app_ge (by omega), h1, h3, Nat.sub_self]
      rfl
    · have h4 : (w.take t ++ [c]).length = t + 1 := by rw [List.length_append, h1]; rfl
      rw [if_neg h3, at_app_ge (by omega), h4]
      unfold at_
      rw [List.getD_eq_getElem?_getD, List.getD_eq_getElem?_getD, List.getElem?_drop, show t + 1 + (i - (t + 1)) = i by omega]
theorem setA_kn {w u : List Lv} {t : Nat} {c : Lv} (h : t < w.length) (hx : at_ w t = .x) (hc : c = .z ∨ c = .o) (k : Kn u (setA w t c)) : Kn u w := by
  obtain ⟨k1, k2⟩ := k
  rw [setA_len c h] at k1 k2
  refine ⟨k1, fun i hi => ?_⟩
  have z := k2 i hi
  rw [setA_at c h] at z
  by_cases e : i = t
  · rw [if_pos e] at z
    rw [e, hx]
    rw [e] at z
    rcases hc with rfl | rfl
    · rw [List.mem_singleton.mp z]; exact List.mem_cons_self
    · rw [List.mem_singleton.mp z]; exact List.mem_cons_of_mem _ List.mem_cons_self
  · rw [if_neg e] at z
    exact z
theorem setA_cx {w : List Lv} {t : Nat} {c : Lv} (h : t < w.length) (hc : c = .z ∨ c = .o) : cx (setA w t c) ≤ cx w := by
  have e : w = w.take t ++ w.drop t := (List.take_append_drop t w).symm
  unfold setA cx
  rw [List.append_assoc, List.count_append, List.count_append]
  conv => rhs; rw [e, List.count_append]
  have h1 : List.count Lv.x [c] = 0 := by rcases hc with rfl | rfl <;> rfl
  have h2 : List.count Lv.x (w.drop (t + 1)) ≤ List.count Lv.x (w.drop t) := by
    rw [← List.drop_drop]
    exact (List.drop_sublist 1 (w.drop t)).count_le _
  omega
/-- the waves of a sheet one of whose levels is told -/
def more1 (w1 w2 : List Lv) (b : Bool) (t : Nat) (c : Lv) : List Lv := if b then w1 else setA w1 t c
def more2 (w1 w2 : List Lv) (b : Bool) (t : Nat) (c : Lv) : List Lv := if b then setA w2 t c else w2
section
variable {w1 w2 : List Lv} {b : Bool} {t : Nat} {c : Lv} {rl : Rl}
theorem more_sub (h : t < (sel w1 w2 b).length) (hx : at_ (sel w1 w2 b) t = .x) (hc : c = .z ∨ c = .o) {s : Sh} (hs : s ∈ sheetsOf (more1 w1 w2 b t c) (more2 w1 w2 b t c)) : s ∈ sheetsOf w1 w2 := by
  obtain ⟨v1, v2, rfl, h1, h2⟩ := sheets_iff.mp hs
  cases b
  · exact sheets_iff.mpr ⟨v1, v2, rfl, aks_iff.mpr (setA_kn h hx hc (aks_iff.mp h1)), h2⟩
  · exact sheets_iff.mpr ⟨v1, v2, rfl, h1, aks_iff.mpr (setA_kn h hx hc (aks_iff.mp h2))⟩
theorem more_unk (h : t < (sel w1 w2 b).length) (hc : c = .z ∨ c = .o) : unkN (more1 w1 w2 b t c) (more2 w1 w2 b t c) ≤ unkN w1 w2 := by
  unfold unkN
  cases b
  · exact Nat.add_le_add_right (setA_cx h hc) _
  · exact Nat.add_le_add_left (setA_cx h hc) _
theorem more_len1 (hl : w2.length = w1.length) (h : t < (sel w1 w2 b).length) : (more1 w1 w2 b t c).length = w1.length := by
  cases b
  · exact setA_len c h
  · rfl
theorem more_len2 (hl : w2.length = w1.length) (h : t < (sel w1 w2 b).length) : (more2 w1 w2 b t c).length = w1.length := by
  cases b
  · exact hl
  · exact (setA_len c h).trans hl
theorem all_rows : (rowsM w1 w2 rl).all (fun r => r.isEmpty) = true ↔ ∀ s ∈ sheetsOf w1 w2, failS rl s = [] := by
  rw [rowsM, List.all_map, List.all_eq_true]
  exact ⟨fun h s hs => List.isEmpty_iff.mp (h s hs), fun h s hs => List.isEmpty_iff.mpr (h s hs)⟩
theorem any_rows : (rowsM w1 w2 rl).any (fun r => r.isEmpty) = true ↔ ∃ s ∈ sheetsOf w1 w2, failS rl s = [] := by
  rw [rowsM, List.any_map, List.any_eq_true]
  exact ⟨fun ⟨s, hs, h⟩ => ⟨s, hs, List.isEmpty_iff.mp h⟩, fun ⟨s, hs, h⟩ => ⟨s, hs, List.isEmpty_iff.mpr h⟩⟩
theorem verd_kept : verdM w1 w2 rl = .kept ↔ ∀ s ∈ sheetsOf w1 w2, failS rl s = [] := by
  rw [← all_rows]
  unfold verdM
  by_cases h : (rowsM w1 w2 rl).all (fun r => r.isEmpty) = true
  · rw [if_pos h]; exact ⟨fun _ => h, fun _ => rfl⟩
  · rw [if_neg h]
    refine ⟨fun z => ?_, fun z => absurd z h⟩
    split at z <;> cases z
theorem verd_broken : verdM w1 w2 rl = .broken ↔ ∀ s ∈ sheetsOf w1 w2, failS rl s ≠ [] := by
  have key : (∀ s ∈ sheetsOf w1 w2, failS rl s ≠ []) ↔ ¬ (rowsM w1 w2 rl).any (fun r => r.isEmpty) = true := by
    rw [any_rows]
    exact ⟨fun h ⟨s, hs, e⟩ => h s hs e, fun h s hs e => h ⟨s, hs, e⟩⟩
  rw [key]
  unfold verdM
  by_cases h : (rowsM w1 w2 rl).all (fun r => r.isEmpty) = true
  · rw [if_pos h]
    refine ⟨fun z => (by cases z), fun z => absurd ?_ z⟩
    obtain ⟨s, hs⟩ := sheets_ne w1 w2
    exact any_rows.mpr ⟨s, hs, all_rows.mp h s hs⟩
  · rw [if_neg h]
    by_cases h2 : (rowsM w1 w2 rl).any (fun r => r.isEmpty) = true
    · rw [if_pos h2]; exact ⟨fun z => (by cases z), fun z => absurd h2 z⟩
    · rw [if_neg h2]; exact ⟨fun _ => h2, fun _ => rfl⟩
/-- a verdict that is not open holds of a sheet of which more is known -/
theorem more_verd (h : t < (sel w1 w2 b).length) (hx : at_ (sel w1 w2 b) t = .x) (hc : c = .z ∨ c = .o) (ho : verdM w1 w2 rl ≠ .open_) : verdM (more1 w1 w2 b t c) (more2 w1 w2 b t c) rl = verdM w1 w2 rl := by
  cases e : verdM w1 w2 rl with
  | kept => exact verd_kept.mpr fun s hs => verd_kept.mp e s (more_sub h hx hc hs)
  | broken => exact verd_broken.mpr fun s hs => verd_broken.mp e s (more_sub h hx hc hs)
  | open_ => exact absurd e ho
theorem sure_mem {u : Nat} : u ∈ sureM w1 w2 rl ↔ ∀ s ∈ sheetsOf w1 w2, u ∈ failS rl s := by
  unfold sureM
  rw [List.mem_filter, List.all_eq_true]
  constructor
  · rintro ⟨_, h⟩ s hs
    exact of_decide_eq_true (h _ (List.mem_map.mpr ⟨s, hs, rfl⟩))
  · intro h
    have hall : ∀ r ∈ rowsM w1 w2 rl, u ∈ r := fun r hr => by
      obtain ⟨s, hs, rfl⟩ := List.mem_map.mp hr
      exact h s hs
    refine ⟨?_, fun r hr => decide_eq_true (hall r hr)⟩
    cases hr : rowsM w1 w2 rl with
    | nil =>
      obtain ⟨s, hs⟩ := sheets_ne w1 w2
      have z : failS rl s ∈ rowsM w1 w2 rl := List.mem_map.mpr ⟨s, hs, rfl⟩
      rw [hr] at z
      cases z
    | cons r rs => exact hall r (by rw [hr]; exact List.mem_cons_self)
theorem more_sure (h : t < (sel w1 w2 b).length) (hx : at_ (sel w1 w2 b) t = .x) (hc : c = .z ∨ c = .o) {u : Nat} (hu : u ∈ sureM w1 w2 rl) : u ∈ sureM (more1 w1 w2 b t c) (more2 w1 w2 b t c) rl :=
  sure_mem.mpr fun s hs => sure_mem.mp hu s (more_sub h hx hc hs)
end
/-! ### what is told of a kept sheet -/
theorem lvls_one {L : List Lv} {a : Lv} (hL : ∀ c, c ∈ L ↔ c ∈ opts a) : oneOf (lvls L) = a := by
  have hz := hL .z
  have ho := hL .o
  unfold lvls
  cases a <;> simp [opts] at hz ho <;> simp [List.filter, hz, ho, oneOf]
/-- a wave with its unknown levels told: z everywhere, c at t -/
def fz (a : Lv) : Lv := if a = .x then .z else a
theorem told_all {w : List Lv} {t : Nat} (h : t < w.length) (c : Lv) : (∃ u ∈ aks w, at_ u t = c) ↔ c ∈ opts (at_ w t) := by
  constructor
  · rintro ⟨u, hu, rfl⟩
    exact (aks_iff.mp hu).2 t h
  · intro hc
    have ml : (w.map fz).length = w.length := List.length_map ..
    have mt : ∀ i, i < w.length → at_ (w.map fz) i = fz (at_ w i) := fun i hi => by
      have e1 := at_get (w := w.map fz) (i := i) (by rw [ml]; exact hi)
      rw [List.getElem?_map, at_get hi] at e1
      exact (Option.some.inj e1).symm
    refine ⟨setA (w.map fz) t c, aks_iff.mpr ⟨by rw [setA_len c (by rw [ml]; exact h), ml], fun i hi => ?_⟩, by rw [setA_at c (by rw [ml]; exact h), if_pos rfl]⟩
    rw [setA_at c (by rw [ml]; exact h)]
    by_cases e : i = t
    · rw [if_pos e, e]; exact hc
    · rw [if_neg e, mt i hi]
      cases at_ w i <;> simp [fz, opts]
theorem told_kept {w1 w2 : List Lv} (hl : w2.length = w1.length) : toldS (sheetsOf w1 w2) w1.length = sh w1 w2 := by
  have one : ∀ (n : Str) (w : List Lv), w.length = w1.length → (∀ s ∈ sheetsOf w1 w2, wv s n ∈ aks w) → (∀ u ∈ aks w, ∃ s ∈ sheetsOf w1 w2, wv s n = u) → toldW (sheetsOf w1 w2) n w1.length = w := fun n w hw k1 k2 => by
    have tl : (toldW (sheetsOf w1 w2) n w1.length).length = w1.length := by unfold toldW; rw [List.length_map, List.length_range]
    refine ext_at (by rw [tl, hw]) fun i hi => ?_
    have e1 := at_get (w := toldW (sheetsOf w1 w2) n w1.length) (i := i) (by rw [tl, ← hw]; exact hi)
    unfold toldW at e1
    rw [List.getElem?_map, List.getElem?_range (by rw [← hw]; exact hi)] at e1
    rw [show at_ (toldW (sheetsOf w1 w2) n w1.length) i = oneOf (lvls ((sheetsOf w1 w2).map fun s => at_ (wv s n) i)) from (Option.some.inj e1).symm]
    refine lvls_one fun c => ?_
    rw [← told_all hi c, List.mem_map]
    constructor
    · rintro ⟨s, hs, rfl⟩
      exact ⟨_, k1 s hs, rfl⟩
    · rintro ⟨u, hu, rfl⟩
      obtain ⟨s, hs, e⟩ := k2 u hu
      exact ⟨s, hs, by rw [e]⟩
  have wvA : ∀ v1 v2, wv (sh v1 v2) nA = v1 := fun v1 v2 => by unfold wv; rw [getA]; rfl
  have wvB : ∀ v1 v2, wv (sh v1 v2) nB = v2 := fun v1 v2 => by unfold wv; rw [getB]; rfl
  unfold toldS
  rw [one nA w1 rfl (fun s hs => ?_) (fun u hu => ?_), one nB w2 hl (fun s hs => ?_) (fun u hu => ?_)]
  · obtain ⟨v1, v2, rfl, h1, h2⟩ := sheets_iff.mp hs
    rw [wvB]; exact h2
  · obtain ⟨v1, h1⟩ := aks_ne w1
    exact ⟨sh v1 u, sheets_iff.mpr ⟨v1, u, rfl, h1, hu⟩, wvB _ _⟩
  · obtain ⟨v1, v2, rfl, h1, h2⟩ := sheets_iff.mp hs
    rw [wvA]; exact h1
  · obtain ⟨v2, h2⟩ := aks_ne w2
    exact ⟨sh u v2, sheets_iff.mpr ⟨u, v2, rfl, hu, h2⟩, wvA _ _⟩
theorem good_kept {w1 w2 : List Lv} {rl : Rl} (h : verdM w1 w2 rl = .kept) : goodM w1 w2 rl = sheetsOf w1 w2 := List.filter_eq_self.mpr fun s hs => by
  rw [verd_kept.mp h s hs]; rfl
theorem good_broken {w1 w2 : List Lv} {rl : Rl} (h : verdM w1 w2 rl = .broken) : goodM w1 w2 rl = [] := List.filter_eq_nil_iff.mpr fun s hs z => verd_broken.mp h s hs (List.isEmpty_iff.mp z)
/-! ### runs that are too short -/
def allW : Nat → List (List Lv)
  | 0 => [[]]
  | n + 1 => (allW n).flatMap fun w => [.z :: w, .o :: w]
theorem mem_allW : ∀ {w : List Lv}, (∀ a ∈ w, a = .z ∨ a = .o) → w ∈ allW w.length
  | [], _ => List.mem_singleton.mpr rfl
  | a :: w, h => by
    have ih := mem_allW fun c hc => h c (List.mem_cons_of_mem _ hc)
    refine List.mem_flatMap.mpr ⟨w, ih, ?_⟩
    rcases h a List.mem_cons_self with rfl | rfl <;> simp
theorem short_all : ((List.range 7).all fun n => (allW n).all fun w => [Lv.z, Lv.o].all fun a => (List.range 5).all fun m => shortM w a m == lshortM w a m) = true := by decide +kernel
/-- what the law's rules are -/
def RlOk : Rl → Prop
  | .long _ a m => (a = .z ∨ a = .o) ∧ m < 5
  | _ => True
theorem short_eq {w : List Lv} {a : Lv} {m : Nat} (hw : ∀ c ∈ w, c = .z ∨ c = .o) (hl : w.length < 7) (ha : a = .z ∨ a = .o) (hm : m < 5) : shortM w a m = lshortM w a m := by
  have h := List.all_eq_true.mp short_all w.length (List.mem_range.mpr hl)
  have h2 := List.all_eq_true.mp h w (mem_allW hw)
  have h3 := List.all_eq_true.mp h2 a (by rcases ha with rfl | rfl <;> simp)
  exact eq_of_beq (List.all_eq_true.mp h3 m (List.mem_range.mpr hm))
def lfailS (rl : Rl) (s : Sh) : List Nat := lfailM (wA s) (wB s) rl
theorem lfail_eq {w1 w2 : List Lv} {rl : Rl} (hl : w1.length < 7) (hll : w2.length = w1.length) (hr : RlOk rl) {s : Sh} (hs : s ∈ sheetsOf w1 w2) : lfailS rl s = failS rl s := by
  obtain ⟨v1, v2, rfl, h1, h2⟩ := sheets_mem hs
  unfold lfailS failS
  rw [wA_sh, wB_sh]
  cases rl with
  | long i a m =>
    show lshortM _ _ _ = shortM _ _ _
    have e1 := aks_mem_len v1 h1
    have e2 := aks_mem_len v2 h2
    refine (short_eq ?_ ?_ hr.1 hr.2).symm
    · cases i
      · exact aks_known v1 h1
      · exact aks_known v2 h2
    · rw [sel_len (by omega)]; omega
  | _ => rfl
/-! ### failures rise -/
def Asc (n : Nat) (l : List Nat) : Prop := ∃ p : Nat → Bool, l = (List.range n).filter p
theorem asc_filter {n : Nat} {l : List Nat} (h : Asc n l) (q : Nat → Bool) : Asc n (l.filter q) := by
  obtain ⟨p, rfl⟩ := h
  exact ⟨fun t => q t && p t, List.filter_filter ..⟩
theorem asc_range' (n : Nat) : Asc n (List.range' 1 (n - 1)) := by
  refine ⟨fun t => decide (1 ≤ t), ?_⟩
  cases n with
  | zero => rfl
  | succ n =>
    rw [List.range_eq_range', List.range'_succ, List.filter_cons, if_neg (by decide)]
    refine (List.filter_eq_self.mpr fun t ht => ?_).symm
    exact decide_eq_true (List.mem_range'_1.mp ht).1
theorem asc_range (n : Nat) : Asc n (List.range n) := ⟨fun _ => true, (List.filter_eq_self.mpr fun _ _ => rfl).symm⟩
theorem asc_turns (w1 w2 : List Lv) : ∀ n, Asc n (turnsTo w1 w2 n).1
  | 0 => ⟨fun _ => true, rfl⟩
  | n + 1 => by
    obtain ⟨p, hp⟩ := asc_turns w1 w2 n
    have key : ∀ (b : Bool), Asc (n + 1) ((turnsTo w1 w2 n).1 ++ if b then [n] else []) := fun b => by
      refine ⟨fun t => if t = n then b else p t, ?_⟩
      rw [List.range_succ, List.filter_append, hp]
      congr 1
      · refine List.filter_congr fun t ht => ?_
        rw [if_neg (Nat.ne_of_lt (List.mem_range.mp ht))]
      · rw [List.filter_cons, if_pos rfl]
        cases b <;> rfl
    rw [turnsTo_succ]
    unfold turnStep
    split
    · split
      · exact key true
      · have z := key false
        rw [if_neg Bool.false_ne_true, List.append_nil] at z
        exact z
    · have z := key false
      rw [if_neg Bool.false_ne_true, List.append_nil] at z
      exact z
theorem asc_ris (w : List Lv) : Asc w.length (ris w) := by
  rw [← ups_ris]
  exact asc_filter (asc_range' _) _
theorem asc_lfail {w1 w2 : List Lv} (hll : w2.length = w1.length) (rl : Rl) : Asc w1.length (lfailM w1 w2 rl) := by
  have s1 := fun b => sel_len hll b
  cases rl with
  | never i j =>
    have z := asc_filter (asc_range (sel w1 w2 i).length) (fun t => isO (sel w1 w2 i) t && isO (sel w1 w2 j) t)
    rw [s1] at z
    exact (s1 i) ▸ z
  | after i j lo hi =>
    have z := asc_filter (asc_ris (sel w1 w2 i)) (late (sel w1 w2 i) (sel w1 w2 j) lo hi)
    rw [s1] at z
    exact z
  | long i a m =>
    have z := asc_filter (asc_range' (sel w1 w2 i).length) (lshort1 (sel w1 w2 i) a m)
    rw [s1] at z
    exact (s1 i) ▸ z
  | still i j =>
    show Asc _ (stillM _ _)
    rw [← still_eq]
    have z := asc_filter (asc_range' (sel w1 w2 i).length) (fun k => moves (sel w1 w2 i) k && isO (sel w1 w2 j) k)
    rw [s1] at z
    exact (s1 i) ▸ z
  | turns i j =>
    show Asc _ (turnsM _ _)
    have z := asc_turns (sel w1 w2 i) (sel w1 w2 j) (sel w1 w2 i).length
    rw [s1] at z
    exact (s1 i) ▸ z
theorem asc_sure {n : Nat} {rows : List (List Nat)} (h : ∀ r ∈ rows, Asc n r) (hne : rows ≠ []) : (List.range n).filter (fun t => rows.all fun r => decide (t ∈ r)) = (rows.headD []).filter fun t => rows.all fun r => decide (t ∈ r) := by
  cases rows with
  | nil => exact absurd rfl hne
  | cons r rs =>
    obtain ⟨p, hp⟩ := h r List.mem_cons_self
    show _ = r.filter _
    have key : ∀ q : Nat → Bool, r.filter q = (List.range n).filter fun t => q t && p t := fun q => by
      conv => lhs; rw [hp]
      exact List.filter_filter ..
    rw [key]
    refine List.filter_congr fun t ht => ?_
    rw [List.all_cons]
    have e : decide (t ∈ r) = p t := by
      rw [hp]
      by_cases hpt : p t = true
      · rw [hpt]; exact decide_eq_true (List.mem_filter.mpr ⟨ht, hpt⟩)
      · rw [Bool.not_eq_true] at hpt
        rw [hpt]; exact decide_eq_false fun z => by rw [(List.mem_filter.mp z).2] at hpt; cases hpt
    rw [e]
    cases p t <;> simp
/-! ### the law's own answers -/
def lrowsM (w1 w2 : List Lv) (rl : Rl) : List (List Nat) := (sheetsOf w1 w2).map (lfailS rl)
theorem lrows_eq {w1 w2 : List Lv} {rl : Rl} (hl : w1.length < 7) (hll : w2.length = w1.length) (hr : RlOk rl) : lrowsM w1 w2 rl = rowsM w1 w2 rl := List.map_congr_left fun s hs => lfail_eq hl hll hr hs
theorem lsure_eq {w1 w2 : List Lv} {rl : Rl} (hl : w1.length < 7) (hll : w2.length = w1.length) (hr : RlOk rl) : (List.range w1.length).filter (fun t => (rowsM w1 w2 rl).all fun r => decide (t ∈ r)) = sureM w1 w2 rl := by
  refine asc_sure (fun r hr' => ?_) fun z => ?_
  · rw [← lrows_eq hl hll hr] at hr'
    obtain ⟨s, hs, rfl⟩ := List.mem_map.mp hr'
    obtain ⟨v1, v2, rfl, h1, h2⟩ := sheets_mem hs
    have e1 := aks_mem_len v1 h1
    have e2 := aks_mem_len v2 h2
    unfold lfailS
    rw [wA_sh, wB_sh, ← e1]
    exact asc_lfail (by omega) rl
  · obtain ⟨s, hs⟩ := sheets_ne w1 w2
    have k : failS rl s ∈ rowsM w1 w2 rl := List.mem_map.mpr ⟨s, hs, rfl⟩
    rw [z] at k
    cases k
theorem ldue_eq (w1 w2 : List Lv) (rl : Rl) : (if (goodM w1 w2 rl).length = (sheetsOf w1 w2).length then Vd.kept else if (rowsM w1 w2 rl).any (fun r => r.isEmpty) then .open_ else .broken) = verdM w1 w2 rl := by
  have h : (goodM w1 w2 rl).length = (sheetsOf w1 w2).length ↔ (rowsM w1 w2 rl).all (fun r => r.isEmpty) = true := by
    rw [all_rows]
    constructor
    · intro h s hs
      have e : goodM w1 w2 rl = sheetsOf w1 w2 := List.Sublist.eq_of_length (List.filter_sublist ..) h
      rw [← e] at hs
      exact List.isEmpty_iff.mp (List.mem_filter.mp hs).2
    · intro h
      rw [good_kept (verd_kept.mpr h)]
  unfold verdM
  by_cases h2 : (rowsM w1 w2 rl).all (fun r => r.isEmpty) = true
  · rw [if_pos (h.mpr h2), if_pos h2]
  · rw [if_neg fun z => h2 (h.mp z), if_neg h2]
end Kt

/-! Ky: != of nested lists that are equal; [] in rows. -/
namespace PySem.SeqAt
open AutoSeq1 (wpAny_loadPart')
open MeetsSeq MeetsSeq2 MeetsSeq3 SeqRoads2
section
variable {prog : Program} {w : World}
abbrev lsO (dd : Option Addr) (xs : Array Value) (n : Nat) (sl : Array (Option Value)) : Obj := { cls := .type "list", dict := dd, data := .seq xs n, slots := sl }
/-- two lists of pairwise equal items: != says False -/
theorem kt_neLoop (l b : Addr) (xs ys : Array Value) (n m : Nat) (dl db : Option Addr) (sl sb : Array (Option Value)) (hsz : xs.size = ys.size) (k : Nat) :
    ∀ i : Nat, xs.size - i = k → MeetsIn prog w (Builtin.«list.__eq__.loop» ⟨[.ref l, .ref b, rawInt i, rawInt 3], []⟩)
      (fun A R s => s.heap.get? l = some (lsO dl xs n sl) ∧ s.heap.get? b = some (lsO db ys m sb) ∧ (∀ j (h1 : j < xs.size) (h2 : j < ys.size), EqP prog w A.in1 s xs[j] ys[j] true) ∧ R (.ok (.ret (.bool false))) s) := by
  induction k with
  | zero =>
    intro i hk A R s h
    obtain ⟨hp, g, d, tk, os⟩ := s; obtain ⟨hl, hb, he, h⟩ := h
    wp_walk using wpAny_loadPart' hl, wpAny_loadPart' hb
    have g1 : xs[((i : Nat) : Int).toNat]? = none := by simp; omega
    have g2 : ys[((i : Nat) : Int).toNat]? = none := by simp; omega
    rw [g1, g2]
    wp_walk using wpAny_loadPart' hl, wpAny_loadPart' hb
    show R (.ok (.ret (.bool (xs.size != ys.size)))) _
    rw [hsz]
    simpa using h
  | succ k ih =>
    intro i hk A R s h
    obtain ⟨hp, g, d, tk, os⟩ := s; obtain ⟨hl, hb, he, h⟩ := h
    wp_walk using wpAny_loadPart' hl, wpAny_loadPart' hb
    have lt1 : i < xs.size := by omega
    have lt2 : i < ys.size := by omega
    have g1 : xs[((i : Nat) : Int).toNat]? = some xs[i] := by simp [lt1]
    have g2 : ys[((i : Nat) : Int).toNat]? = some ys[i] := by simp [lt2]
    have hc : ((i : Int) + 1) = ((i + 1 : Nat) : Int) := by push_cast; rfl
    rw [g1, g2]
    refine wpAny_bind (he i lt1 lt2 _ _ ?_)
    wp_walk
    rw [hc]
    exact ⟨plainId_quiet plain_eq_loop _, codeAny_builtin entry_eq_loop (by
      rw [Around.under_plainId plain_eq_loop _]
      exact ih (i + 1) (by omega) A R _ ⟨hl, hb, he, h⟩)⟩
theorem kt_ne (l b : Addr) (xs ys : Array Value) (n m : Nat) (dl db : Option Addr) (sl sb : Array (Option Value)) (hsz : xs.size = ys.size) :
    MeetsIn prog w (Builtin.«list.__ne__» ⟨[.ref l, .ref b], []⟩)
      (fun A R s => s.heap.get? l = some (lsO dl xs n sl) ∧ s.heap.get? b = some (lsO db ys m sb) ∧ (∀ j (h1 : j < xs.size) (h2 : j < ys.size), EqP prog w A.in1 s xs[j] ys[j] true) ∧ R (.ok (.ret (.bool false))) s) := by
  intro A R s h
  obtain ⟨hp, g, d, tk, os⟩ := s; obtain ⟨hl, hb, he, h⟩ := h
  have f3 := AutoSeq1.sub_list_list
  have hne : ¬ (xs.size != ys.size) = true := by simp [hsz]
  wp_walk using wpAny_loadPart' hl, wpAny_loadPart' hb
  exact ⟨plainId_quiet plain_eq_loop _, codeAny_builtin entry_eq_loop (by
    rw [Around.under_plainId plain_eq_loop _]
    exact kt_neLoop l b xs ys n m dl db sl sb hsz _ 0 rfl A R _ ⟨hl, hb, he, h⟩)⟩
theorem kt_rcNe {A : Around} {s : Shared} {l b : Addr} {xs ys : Array Value} (hl : s.heap.IsList l xs) (hb : s.heap.IsList b ys) (hsz : xs.size = ys.size) (hu : A.units < cLine)
    (he : ∀ j (h1 : j < xs.size) (h2 : j < ys.size), EqP prog w A.in1 s xs[j] ys[j] true) (E Q : Value → Shared → Prop) (h : Q (.bool false) s) : wpAny (model prog w) A (richCompare .NotEq (.ref l) (.ref b)) Q E s := by
  obtain ⟨⟨c1, dl, t1, sl⟩, ho, hc, n, hd⟩ := id hl
  obtain ⟨⟨c2, db, t2, sb⟩, ho2, hc2, m, hd2⟩ := id hb
  simp only at hc hd hc2 hd2
  subst hc hd hc2 hd2
  have ta : s.TypeIs (.ref l) "list" := ⟨_, ho, rfl⟩
  have tb : s.TypeIs (.ref b) "list" := ⟨_, ho2, rfl⟩
  exact wpAny_richCompare_same_room (op := .NotEq) ta tb F.slot_list_ne (call_meetsIn F.slot_list_ne ta F.entry_list_ne (F.args_list_ne_2 _ _) (kt_ne l b xs ys n m dl db sl sb hsz)
    ⟨ho, ho2, he, show Value.bool false ≠ Value.notImplemented ∧ Q (.bool false) s from ⟨(fun x => nomatch x), h⟩⟩) hu
end
end PySem.SeqAt
namespace Kt
open PySem PySem.Spec PyProof.Rows L2 Evl
/-- a != b, two lists that are equal -/
def rNeV (K : PySem.W.Frag) : R2 := fun x y H Q => ∃ a b xs ys, x = .ref a ∧ y = .ref b ∧ SqL K H a xs ∧ SqL K H b ys ∧ Paired (EqV K H 8) xs ys ∧ Q (.bl false) H
theorem op_neV {X : Cx} (hu : X.A.units + 64 < cLine) : OpR X (compareOp .NotEq) (rNeV X.K) := by
  intro pins s σ H x y v u Q I rx ry h
  obtain ⟨a, b, xs, ys, rfl, rfl, ha, hb, hp, q⟩ := h
  cases (show v = Value.ref a from rx)
  cases (show u = Value.ref b from ry)
  obtain ⟨us, r1, p1, _⟩ := I.list ha
  obtain ⟨ws, r2, p2, _⟩ := I.list hb
  have hsz : us.toArray.size = ws.toArray.size := by
    rw [List.size_toArray, List.size_toArray, ← r1.length, ← r2.length]
    exact Paired.length hp
  refine SeqAt.kt_rcNe p1.isList p2.isList hsz (by omega) (fun j h1 h2 => ?_) _ _ ⟨.bl false, H, I, rfl, q⟩
  have k := items_run (eqV_run I 8 X.A.in1 (by show X.A.units + 1 + 8 < cLine; omega)) hp r1 r2 j (by simpa using h1) (by simpa using h2)
  simpa using k
end Kt

/-! Kv: words for the law's own walk. -/
namespace Kt
open PySem PySem.Spec PyProof.Rows L2 Evl
theorem hu65 {k : Nat} {A : Around} (hr : Room k A) : A.units + 65 < cLine := by have := hr.un; omega
/-! ### 'x' * 4 -/
def rX4 : R2 := fun x y H Q => x = .str (Str.ofString "x") ∧ y = .int 4 ∧ Q (.str (tx [.x, .x, .x, .x])) H
theorem op_x4 {X : Cx} : OpR X (binaryOp .Mult) rX4 := by
  intro pins s σ H x y v u Q I rx ry h
  obtain ⟨rfl, rfl, q⟩ := h
  obtain ⟨t, rfl⟩ := rx
  obtain ⟨t2, rfl⟩ := ry
  refine PySem.P.mul_str (by decide) (fun _ _ => by decide +kernel) (fun _ _ => by decide +kernel) ?_
  rw [if_neg (by decide), if_neg (by decide +kernel)]
  have e : (⟨(List.replicate (4 : Int).toNat (Str.ofString "x").cps).foldl (· ++ ·) #[]⟩ : Str) = tx [.x, .x, .x, .x] := by decide +kernel
  rw [e]
  exact ⟨by decide +kernel, .str (tx [.x, .x, .x, .x]), H, I.tok _, ⟨_, rfl⟩, q⟩
theorem exx0x : Str.ofString "xx0x" = tx [.x, .x, .z, .x] := by decide +kernel
theorem e0xx1 : Str.ofString "0xx1" = tx [.z, .x, .x, .o] := by decide +kernel
section
variable {K : PySem.W.Frag} {σ : L2.St} {H H' : Hp} {ta tb te tl t1 t2 : TE} {tr t : TA} {tt u : TT} {x y z v : V} {D : Ends} {tu tz s1 s2 : TS} {g : TG} {sp : Sp} {E : XK}
/-! ### what goes on is named -/
theorem q_with2 {M : L2.St → Hp → Prop} (k : ∀ σ' H', M σ' H' → tz D σ' H') (h : (∀ σ' H', M σ' H' → tz D σ' H') → tSeq s1 (tSeq s2 tz) D σ H) : tSeq s1 (tSeq s2 tz) D σ H := h k
theorem q_whenP {b : Bool} (M : L2.St → Hp → Prop) (h : EvT tt σ H b) (k : ∀ σ' H', M σ' H' → tz D σ' H') (h1 : b = true → ∀ H1, Ex H H1 → (∀ σ' H', M σ' H' → tz D σ' H') → tu { D with nx := tz D } σ H1) (h2 : b = false → ∀ H1, Ex H H1 → M σ H1) : tSeq (tIfS tt tu tNext) tz D σ H :=
  q_when h (fun hb H1 e => h1 hb H1 e k) fun hb H1 e => k σ H1 (h2 hb H1 e)
/-! ### calls with a new list among the arguments -/
theorem call_L3 {xs : List V} {v1 v2 : V} {vs : List V} {Q : VK} (h1 : Ev t1 σ H v1) (h2 : Ev t2 σ H v2) (h3 : EvL tl σ H xs) (h4 : EvA tr σ H vs) (k : ∀ p H1, H1 p = some (.lst xs) → Ex H H1 → sp (v1 :: v2 :: .ref p :: (vs ++ [])) H1 Q E) :
    tCall sp [] E (tCons t1 (tCons t2 (tCons tl tr))) σ H Q :=
  h1 H (Ex.refl H) _ fun H1 e1 => h2 H1 e1 _ fun H2 e2 => h3 H2 (e1.trans e2) _ fun p H3 _ e3 h3' => h4 H3 ((e1.trans e2).trans e3) _ fun H4 e4 => k p H4 (e4 _ _ h3') (((e1.trans e2).trans e3).trans e4)
theorem q_asgC {i : Nat} {o : HO} (h : ∀ Q : VK, RetE o H Q → te σ H Q) (k : ∀ p H1, Ex H H1 → H1 p = some o → tz D (σ.set i (some (.ref p))) H1) : tSeq (tAsg te (gName i)) tz D σ H := h _ k
/-! ### {'a': .., 'b': ..} -/
theorem en_two {w1 w2 : List Lv} (h1 : Ev ta σ H (.str (tx w1))) (h2 : Ev tb σ H (.str (tx w2))) : EvN (tDisp [(tC (.str nA), ta), (tC (.str nB), tb)]) σ H (dsheet (sh w1 w2)) := fun H1 e Q q p hp =>
  ev_c _ (Ex.refl _) _ fun H2 e2 => h1 H2 (e.trans ((Ex.new hp).trans e2)) _ fun H3 e3 => ev_c _ (Ex.refl _) _ fun H4 e4 => h2 H4 (((e.trans ((Ex.new hp).trans e2)).trans e3).trans e4) _ fun H5 e5 => by
    have e25 : Ex (upd H1 p (.dK [])) H5 := ((e2.trans e3).trans e4).trans e5
    refine ⟨e25 _ _ upd_same, kvs (sh w1 w2), rfl, by show 2 ≤ 15; decide, q p _ hp ?_ (by rw [upd_same, merge_sh]; rfl)⟩
    exact Ex.mut ((Ex.new hp).trans e25) hp
/-! ### lists of what is a value or a new object -/
def Dv (d : V ⊕ HO) (v : V) (H : Hp) : Prop := match d with
  | .inl u => v = u
  | .inr o => ∃ a, v = .ref a ∧ H a = some o
theorem Dv.ex {d : V ⊕ HO} (h : Dv d v H) (e : Ex H H') : Dv d v H' := by
  cases d with
  | inl u => exact h
  | inr o => obtain ⟨a, h1, h2⟩ := h; exact ⟨a, h1, e _ _ h2⟩
inductive AllD (H : Hp) : List (V ⊕ HO) → List V → Prop
  | nil : AllD H [] []
  | cons {d : V ⊕ HO} {v : V} {ds : List (V ⊕ HO)} {vs : List V} : Dv d v H → AllD H ds vs → AllD H (d :: ds) (v :: vs)
theorem AllD.ex {ds : List (V ⊕ HO)} {vs : List V} (h : AllD H ds vs) (e : Ex H H') : AllD H' ds vs := by
  induction h with
  | nil => exact .nil
  | cons h _ ih => exact .cons (h.ex e) ih
theorem AllD.snoc {ds : List (V ⊕ HO)} {vs : List V} {d : V ⊕ HO} (h : AllD H ds vs) (hd : Dv d v H) : AllD H (ds ++ [d]) (vs ++ [v]) := by
  induction h with
  | nil => exact .cons hd .nil
  | cons h _ ih => exact .cons h ih
def EvM (te : TE) (σ : L2.St) (H : Hp) (d : V ⊕ HO) : Prop := ∀ H1, Ex H H1 → ∀ Q : VK, (∀ v H2, (∀ o a, d = .inr o → v = .ref a → H1 a = none) → Ex H1 H2 → Dv d v H2 → Q v H2) → te σ H1 Q
theorem em_lc {α : Type} {wi : TI} {l : List α} {R : α → V → Hp → Prop} {vs : List Nat} (φ : α → V ⊕ HO) (h : EvI wi σ H l R) (hz : l.length ≤ 40000)
    (body : ∀ x v H1, x ∈ l → Ex H H1 → R x v H1 → ∃ σ2, TgP g (wipe σ vs) v H1 σ2 ∧ wipe σ2 vs = wipe σ vs ∧ EvM te σ2 H1 (φ x)) :
    ∀ H1, Ex H H1 → ∀ Q : VK, (∀ p xs H2, H1 p = none → Ex H1 H2 → H2 p = some (.lst xs) → AllD H2 (l.map φ) xs → Q (.ref p) H2) → tLc wi g tYes te vs σ H1 Q := fun H1 e Q q => h H1 e _ fun J H2 e2 W Dl hD =>
  lc_gen W hz hD (fun i xs G => AllD G ((l.take i).map φ) xs) .nil (fun _ _ _ _ h e => h.ex e) (fun _ => true)
    (fun i x v H3 hi e3 hn r => by
      obtain ⟨σ2, tg, hw, hb⟩ := body x v H3 (List.mem_of_getElem? hi) ((e.trans e2).trans e3) r
      refine ⟨σ2, tg, hw, et_yes, fun hf H4 e4 Q' q' => hb H4 e4 Q' fun u H5 hu e5 hd => q' _ H5 e5 fun xs G hx eG => ?_⟩
      show AllD _ (List.map φ (l.take (i + 1))) (xs ++ [u])
      rw [List.take_add_one, hi, List.map_append]
      refine (hx.ex eG).snoc ?_
      revert hu hd
      generalize φ x = dd
      intro hu hd
      cases dd with
      | inl w => exact hd
      | inr o =>
        obtain ⟨a, ea, ha⟩ := hd
        refine ⟨a, ea, ?_⟩
        have na := hu o a rfl ea
        rw [del_ne (fun z => ?_)]
        · exact ha
        · rw [z] at na
          cases hq : H3 Dl with
          | none => exact hn hq
          | some w => rw [e4 _ _ hq] at na; cases na)
    (fun i x xs G hi hf _ => by cases hf)
    (fun xs H' e' hx ha => by
      rw [List.take_length] at ha
      exact q Dl xs H' (fresh_back e2 hD) (e2.trans e') hx (ha.ex ex_del))
theorem em_V (h : Ev te σ H v) : EvM te σ H (.inl v) := fun H1 e Q q => h H1 e _ fun H2 e2 => q v H2 (fun _ _ z => by cases z) e2 rfl
theorem em_N {o : HO} (h : EvN te σ H o) : EvM te σ H (.inr o) := fun H1 e Q q => h H1 e _ fun p H2 hp e2 h2 => q (.ref p) H2 (fun _ a _ z => by cases z; exact hp) e2 ⟨p, rfl, h2⟩
/-! ### tuples made on the way -/
theorem eu_ifT {b : Bool} {xs : List V} (h : EvT tt σ H b) (h1 : b = true → EvU ta σ H xs) (h2 : b = false → EvU tb σ H xs) : EvU (tIf tt ta tb) σ H xs := fun H1 e Q q => h H1 e _ fun H2 e2 => by
  cases b with
  | true => exact h1 rfl H2 (e.trans e2) Q fun p H3 hp e3 h3 => q p H3 (fresh_back e2 hp) (e2.trans e3) h3
  | false => exact h2 rfl H2 (e.trans e2) Q fun p H3 hp e3 h3 => q p H3 (fresh_back e2 hp) (e2.trans e3) h3
theorem q_forNT {xs : List V} {j : Nat} (h : EvU tl σ H xs) (Pv : Addr → Nat → L2.St → Hp → Prop) (h0 : ∀ p H1, H p = none → Ex H H1 → H1 p = some (.tup xs) → Pv p 0 σ H1) (hl : ∀ p i σ' H', i ≤ xs.length → Pv p i σ' H' → SqT K H' p xs)
    (hs : ∀ p i x σ' H', xs[i]? = some x → Pv p i σ' H' → tu { D with nx := Pv p (i + 1), ct := Pv p (i + 1), bk := tz D } (σ'.set j (some x)) H') (hd : ∀ p σ' H', Pv p xs.length σ' H' → tz D σ' H') : tSeq (tFor (iTup K tl) (gName j) tu) tz D σ H :=
  h H (Ex.refl H) _ fun p H1 hp e h1 => ⟨p, rfl, ⟨xs, st_of h1⟩, for_tup (Pv p) (h0 p H1 hp e h1) (hl p) (fun i x σ' H' hx q => hs p i x σ' H' hx q) (hd p)⟩
/-! ### ['too long'] * 3 -/
theorem el_rep {xs : List V} {n : Nat} (h : EvL ta σ H xs) (hz : xs.length * n ≤ 100000) (hn : n ≤ 100000) (hb : Ev tb σ H (.int (n : Int))) : EvL (tOp rRep ta tb) σ H (List.replicate n xs).flatten := fun H1 e Q q =>
  h H1 e _ fun p H2 hp e2 h2 => hb H2 (e.trans e2) _ fun H3 e3 => ⟨p, (n : Int), xs, rfl, rfl, e3 _ _ h2, by omega, by omega, sz_of (by rw [Int.toNat_natCast]; exact hz), fun r hr => q r _ (fresh_back (e2.trans e3) hr) ((e2.trans e3).trans (Ex.new hr)) (by rw [upd_same, Int.toNat_natCast])⟩
def dTL : PyData := .list [.str sTooLong, .str sTooLong, .str sTooLong]
theorem dp_TL {p : Addr} (h : H p = some (.lst [.str sTooLong, .str sTooLong, .str sTooLong])) : Dp K H (.ref p) dTL := .lst (sq_of h) (.cons (.str _) (.cons (.str _) (.cons (.str _) .nil)))
theorem sh_TL : SeqAt.shaped dTL = true := by decide +kernel
theorem eq_TL : PyData.eqv dTL dTL = true := by decide +kernel
/-! ### [] in rows -/
def dN (r : List Nat) : PyData := .list (r.map fun (t : Nat) => PyData.int (t : Int))
theorem dpAll_niv : ∀ r : List Nat, DpAll K H (niv r) (r.map fun (t : Nat) => PyData.int (t : Int))
  | [] => .nil
  | a :: r => .cons (.int _) (dpAll_niv r)
theorem dpAll_rows : ∀ {L : List (Addr × List Nat)}, OL lol H L → DpAll K H (refs L) (L.map fun q => dN q.2)
  | [], _ => .nil
  | q :: L, h => .cons (.lst (sq_of (h q List.mem_cons_self)) (dpAll_niv q.2)) (dpAll_rows fun u hu => h u (List.mem_cons_of_mem _ hu))
theorem can_ints : ∀ r : List Nat, PyData.canLayAll0 (r.map fun (t : Nat) => PyData.int (t : Int)) = true ∧ PyData.depthAll (r.map fun (t : Nat) => PyData.int (t : Int)) = 0
  | [] => ⟨rfl, rfl⟩
  | a :: r => by
    obtain ⟨h1, h2⟩ := can_ints r
    rw [List.map_cons]
    exact ⟨by rw [PyData.canLayAll0, h1]; rfl, by rw [PyData.depthAll, h2]; rfl⟩
theorem can_rows : ∀ rs : List (List Nat), PyData.canLayAll0 (rs.map dN) = true ∧ PyData.depthAll (rs.map dN) ≤ 1
  | [] => ⟨rfl, Nat.zero_le _⟩
  | r :: rs => by
    obtain ⟨h1, h2⟩ := can_rows rs
    obtain ⟨k1, k2⟩ := can_ints r
    rw [List.map_cons]
    refine ⟨by rw [PyData.canLayAll0, h1, dN, PyData.canLay0, k1]; rfl, ?_⟩
    rw [PyData.depthAll, dN, PyData.depth, k2]
    omega
theorem sh_rows (rs : List (List Nat)) : SeqAt.shaped (.list (rs.map dN)) = true := by
  obtain ⟨h1, h2⟩ := can_rows rs
  unfold SeqAt.shaped
  rw [PyData.canLay0, h1, PyData.depth]
  exact decide_eq_true (by omega)
theorem eqv_nil (r : List Nat) : PyData.eqv (dN r) (.list []) = r.isEmpty := by
  cases r <;> rfl
theorem ev_inRows {p : Addr} {L : List (Addr × List Nat)} (h : Ev tb σ H (.ref p)) (hp : H p = some (.lst (refs L))) (ho : OL lol H L) : Ev (tOp (rInD K) (tLst tNil) tb) σ H (.bl ((L.map (·.2)).any fun r => r.isEmpty)) :=
  ev_opL1 (el_lst ea_nil (Nat.zero_le _)) (fun H1 e => h.mono e) fun q H1 hq e => rv_val fun H2 e2 Q k => ⟨.list [], L.map fun q => dN q.2, .lst (sq_of (e2 _ _ hq)) .nil, .lst (sq_of (e2 _ _ (e _ _ hp))) (dpAll_rows (ho.ex (e.trans e2))), by decide +kernel, by
    have z := sh_rows (L.map (·.2))
    rw [List.map_map] at z
    exact z, by
    have e : (L.map fun q => dN q.2).any (fun z => PyData.eqv z (.list [])) = (L.map (·.2)).any fun r => r.isEmpty := by
      rw [List.any_map, List.any_map]
      refine congrArg (fun f => L.any f) (funext fun q => ?_)
      exact eqv_nil q.2
    rw [e]
    exact k⟩
/-! ### the three answers against the law's own -/
theorem pair_niv : ∀ r : List Nat, Paired (EqV K H 7) (niv r) (niv r)
  | [] => .nil
  | a :: r => .cons (.inl ⟨rfl, rfl⟩) (pair_niv r)
theorem eqv_niv {p q : Addr} {r : List Nat} (hp : H p = some (.lst (niv r))) (hq : H q = some (.lst (niv r))) : EqV K H 8 (.ref p) (.ref q) := .inr (.inr (.inl ⟨p, q, _, _, rfl, rfl, sq_of hp, sq_of hq, pair_niv r⟩))
theorem eqv_sheet {p q : Addr} {w1 w2 : List Lv} (hp : H p = some (dsheet (sh w1 w2))) (hq : H q = some (dsheet (sh w1 w2))) : EqV K H 8 (.ref p) (.ref q) := by
  refine .inr (.inr (.inr ⟨p, q, _, _, rfl, rfl, hp, hq, rfl, fun r hr => ?_⟩))
  unfold kvs at hr
  obtain ⟨y, hy, rfl⟩ := List.mem_map.mp hr
  refine ⟨V.str (tx y.2), ?_, .inl ⟨rfl, rfl⟩⟩
  rw [valV_sheet]
  rcases List.mem_cons.mp hy with rfl | hy
  · rw [getA]; rfl
  · rw [List.mem_singleton] at hy
    subst hy
    rw [getB]; rfl
theorem en_ifF {o : HO} (h : EvT tt σ H false) (h2 : EvN tb σ H o) : EvN (tIf tt ta tb) σ H o := fun H1 e Q q => h H1 e _ fun H2 e2 => h2 H2 (e.trans e2) Q fun p H3 hp e3 h3 => q p H3 (fresh_back e2 hp) (e2.trans e3) h3
theorem st_upd {p mk : Addr} {xs : List V} {o : HO} (h : SqT K H p xs) (n : p ≠ mk) : SqT K (upd H mk o) p xs := by
  rcases h with (h | ⟨ob, h⟩) | h
  · exact .inl (.inl (by rw [upd_ne n]; exact h))
  · exact .inl (.inr ⟨ob, by rw [upd_ne n]; exact h⟩)
  · exact .inr h
def lvO (ls : List Lv) : HO := .lst (lvV ls)
theorem ev_one {j : Nat} {p : Addr} {ls : List Lv} (hv : σ[j]? = some (some (.ref p))) (hp : H p = some (lvO ls)) :
    Ev (tIf (tTest (tOp rEq (tCB (rLenS K) (tCons (tVar j) tNil)) (tC (.int 1)))) (tOp (rIxL K) (tVar j) (tC (.int 0))) (tC (.str (Str.ofString "x")))) σ H (.str (sg (oneOf ls))) := by
  have hs : SqL K H p (lvV ls) := sq_of hp
  refine ev_if (b := decide (ls.length = 1)) (et_is (et_test (ev_op (ev_len (ev_var hv) hs) ev_c (rv_eq rfl))) ?_) (fun hb => ?_) (fun hb => ev_is ev_c ?_)
  · rw [lvV, List.length_map]
    exact decide_eq_decide.mpr ⟨fun z => by have z' := V.int.inj z; omega, fun z => by rw [z]; rfl⟩
  · obtain ⟨a, rfl⟩ := List.length_eq_one_iff.mp (of_decide_eq_true hb)
    exact ev_op (ev_var hv) ev_c (rv_ixL hs (atI_nat (j := 0) rfl))
  · rw [ex_]
    match ls, hb with
    | [], _ => rfl
    | [_], hb => exact Bool.noConfusion (show true = false from hb)
    | _ :: _ :: _, _ => rfl
theorem put_sel (w1 w2 u : List Lv) (b : Bool) : putK (kvs (sh w1 w2)) (Sum.inr (nm b)) (V.str (tx u)) = kvs (sh (if b then w1 else u) (if b then u else w2)) := by
  cases b
  · simp [putK, kvs, sh, nm, nAB, Ne.symm nAB]
  · simp [putK, kvs, sh, nm, nAB, Ne.symm nAB]
/-! ### the three answers of tried -/
theorem sp_tried0 {d r : Addr} {w1 w2 : List Lv} {rl : Rl} (pre : ∀ Ha, Ex H Ha → Pre K [.ref d, .ref r] Ha w1 w2 rl) : SpV (spTried K) ([.int 0, .ref d, .ref r] ++ []) H (.str (if 6 < unkN w1 w2 then sTooLong else vdS (verdM w1 w2 rl))) := fun H1 e Q q _ =>
  ⟨0, d, r, w1, w2, rl, rfl, by decide, pre H1 e, fun hx => by rw [if_pos hx] at q; exact q, fun hx => ⟨fun _ => by rw [if_neg (by omega)] at q; exact q, fun z => absurd z (by decide), fun z => absurd z (by decide)⟩⟩
theorem sp_tried1 {d r : Addr} {w1 w2 : List Lv} {rl : Rl} (pre : ∀ Ha, Ex H Ha → Pre K [.ref d, .ref r] Ha w1 w2 rl) (hx : unkN w1 w2 ≤ 6) : SpL (spTried K) ([.int 1, .ref d, .ref r] ++ []) H (niv (sureM w1 w2 rl)) := fun H1 e Q q _ =>
  ⟨1, d, r, w1, w2, rl, rfl, by decide, pre H1 e, fun z => absurd z (by omega), fun _ => ⟨fun z => absurd z (by decide), fun _ => q, fun z => absurd z (by decide)⟩⟩
theorem sp_tried2n {d r : Addr} {w1 w2 : List Lv} {rl : Rl} (pre : ∀ Ha, Ex H Ha → Pre K [.ref d, .ref r] Ha w1 w2 rl) (hx : unkN w1 w2 ≤ 6) (hg : goodM w1 w2 rl = []) : SpV (spTried K) ([.int 2, .ref d, .ref r] ++ []) H .non := fun H1 e Q q _ =>
  ⟨2, d, r, w1, w2, rl, rfl, by decide, pre H1 e, fun z => absurd z (by omega), fun _ => ⟨fun z => absurd z (by decide), fun z => absurd z (by decide), fun _ => ⟨fun _ => q, fun z => absurd hg z⟩⟩⟩
theorem sp_tried2 {d r : Addr} {w1 w2 : List Lv} {rl : Rl} (pre : ∀ Ha, Ex H Ha → Pre K [.ref d, .ref r] Ha w1 w2 rl) (hx : unkN w1 w2 ≤ 6) (hg : goodM w1 w2 rl ≠ []) : SpN (spTried K) ([.int 2, .ref d, .ref r] ++ []) H (dsheet (toldS (goodM w1 w2 rl) w1.length)) := fun H1 e Q q _ =>
  ⟨2, d, r, w1, w2, rl, rfl, by decide, pre H1 e, fun z => absurd z (by omega), fun _ => ⟨fun z => absurd z (by decide), fun z => absurd z (by decide), fun _ => ⟨fun z => absurd z hg, fun _ => q⟩⟩⟩
/-! ### 'ab'[i] -/
theorem ab_ix (ns : List Int) (k : Nat) : ∃ c, atI (Str.ofString "ab").cps.toList (pickZ ns k 2 : Int) = some c ∧ (⟨#[c]⟩ : Str) = nm (b2 ns k) := by
  have h := pickZ_lt ns k (show 0 < 2 by decide)
  unfold b2
  generalize pickZ ns k 2 = z at h
  match z, h with
  | 0, _ => exact ⟨97, by decide +kernel, by decide +kernel⟩
  | 1, _ => exact ⟨98, by decide +kernel, by decide +kernel⟩
end
/-! ### what is good among all, by zip -/
theorem zip_good {α β : Type} (f : α → β) (p : β → Bool) : ∀ (E : List (Addr × α)) (R : List (Addr × β)), R.map (·.2) = E.map (fun q => f q.2) → ((E.zip R).filter fun q => p q.2.2).map (·.1) = E.filter fun q => p (f q.2)
  | [], _, _ => rfl
  | e :: E, [], h => by cases h
  | e :: E, r :: R, h => by
    rw [List.map_cons, List.map_cons] at h
    have h1 : r.2 = f e.2 := List.head_eq_of_cons_eq h
    have ih := zip_good f p E R (List.tail_eq_of_cons_eq h)
    rw [List.zip_cons_cons, List.filter_cons, List.filter_cons]
    show (if p r.2 = true then _ else _ : List ((Addr × α) × (Addr × β))).map _ = _
    rw [h1]
    by_cases hp : p (f e.2) = true
    · rw [if_pos hp, if_pos hp, List.map_cons, ih]
    · rw [if_neg hp, if_neg hp, ih]
theorem rule_ok (ns : List Int) (a : Nat) : RlOk (ruleZ ns a) := by
  have hm : ruleZ ns a ∈ rules ns a := List.mem_of_getElem? (get_rule ns a)
  revert hm
  generalize ruleZ ns a = r
  intro hm
  unfold rules at hm
  rcases List.mem_cons.mp hm with rfl | hm
  · trivial
  rcases List.mem_cons.mp hm with rfl | hm
  · trivial
  rcases List.mem_cons.mp hm with rfl | hm
  · have h1 := pickZ_lt ns (a + 5) (show 0 < 4 by decide)
    have h2 := pickZ_lt ns (a + 4) (show 0 < 2 by decide)
    refine ⟨?_, by omega⟩
    generalize pickZ ns (a + 4) 2 = z at h2
    match z, h2 with
    | 0, _ => exact .inl rfl
    | 1, _ => exact .inr rfl
  rcases List.mem_cons.mp hm with rfl | hm
  · trivial
  rw [List.mem_singleton] at hm
  subst hm
  trivial
end Kt

/-! Fn: law. -/
namespace Kt
open PySem PySem.Spec PyProof.Rows L2 Evl
/-! law: slots 0 _law_script, 1 _law_many, 2 _law_sheet_here, 3 _law_rule_here, 4 _law_every, 5 _law_one, 6 _law_rows, 7 _law_good, 8 _law_due, 9 _law_sure, 10 _law_told, 11 _law_name, 12 _law_levels, 13 _law_tick, 14 _law_more, 15 _law_what, 16 _law_other, 17 _law_known, 18 _law_row, 19 _law_some; cells _law_good _law_more _law_name _law_one _law_rows _law_rule_here _law_sheet_here -/
abbrev s_law : Stmt := topS 44
abbrev N_law : List Str := ["_law_script", "_law_many", "_law_sheet_here", "_law_rule_here", "_law_every", "_law_one", "_law_rows", "_law_good", "_law_due", "_law_sure", "_law_told", "_law_name", "_law_levels", "_law_tick", "_law_more", "_law_what", "_law_other", "_law_known", "_law_row", "_law_some"]
theorem sc_law : FnScope N_law ["_law_script"] (defScope s_law) := ⟨rfl, rfl, rfl, by decide +kernel, rfl, by decide +kernel, by decide +kernel⟩
def spLaw (K : PySem.W.Frag) : Sp := fun vs H Q _ => ∃ (a : Addr) (ns : List Int), vs = [.ref a] ∧ SqL K H a (ns.map V.int) ∧ RetV (.bl true) H Q
section
variable {P : Program} {w : World} {K : PySem.W.Frag} {mg : Str → Option Value} {base : Heap}
theorem ok_law (T : Tx mg) (H_law_pick : Has P w K mg base CX0 2 "_law_pick" ["_law_script", "_law_k", "_law_many"] (spPick K)) (H_law_sheet : Has P w K mg base CX0 5 "_law_sheet" ["_law_script", "_law_at", "_law_names", "_law_many", "_law_most"] (spLSheet K))
    (H_law_rule : Has P w K mg base CX0 3 "_law_rule" ["_law_script", "_law_at", "_law_names"] (spLRule K)) (H_law_tried : Has P w K mg base CX0 6 "_law_tried" ["_law_what", "_law_sheet_here", "_law_rule_here"] (spTried K))
    (H_law_can_be : Has P w K mg base CX0 1 "_law_can_be" ["_law_wave_here"] spAll) (H_law_failures : Has P w K mg base CX0 2 "_law_failures" ["_law_sheet_here", "_law_rule_here"] (spLFail K))
    {f : Addr} {fd : FuncData} (F : Fun K "law" "law" s_law f fd) : FnOk P w K mg base CX0 7 f fd ["_law_script"] (spLaw K) := by
  refine F.ok sc_law (fun vs H Q E h => ?_) (fun cdv A outer s H vs Q E hr h => ?_)
  · obtain ⟨l, ns, rfl, _⟩ := h
    rfl
  · obtain ⟨l, ns, rfl, hs, q⟩ := h
    have nd := sc_law.nd
    refine ⟨_, (pss_cons (ps_set (i := 1) nd rfl (by first | exact .inl rfl | exact .inr rfl) (pe_op op_add pe_int (pe_callH H_law_pick hr (pa_cons (pv 0) (pa_cons pe_int (pa_cons pe_int pa_nil))))))
      (pss_cons (ps_set (i := 2) nd rfl (by first | exact .inl rfl | exact .inr rfl) (pe_callH H_law_sheet hr (pa_cons (pv 0) (pa_cons pe_int (pa_cons (pe_lst (pa_cons pe_str (pa_cons pe_str pa_nil))) (pa_cons (pv 1) (pa_cons (pe_op op_add pe_int (pe_callH H_law_pick hr (pa_cons (pv 0) (pa_cons pe_int (pa_cons pe_int pa_nil))))) pa_nil)))))))
      (pss_cons (ps_if (pt_cmpR op_eq (pe_callH H_law_pick hr (pa_cons (pv 0) (pa_cons pe_int (pa_cons pe_int pa_nil)))) pe_int (nomark _)) (pss_cons (ps_set (i := 2) nd rfl (by first | exact .inl rfl | exact .inr rfl) (pe_disp (pps_cons pe_str (pe_op op_x4 pe_str pe_int) (pps_cons pe_str (pe_ifExp (pt_cmpR op_eq (pe_callH H_law_pick hr (pa_cons (pv 0) (pa_cons pe_int (pa_cons pe_int pa_nil)))) pe_int (nomark _)) pe_str pe_str) pps_nil)) (by rfl) (by rfl) (fun z => by cases z) (by decide)))
      (pss_one (ps_set (i := 1) nd rfl (by first | exact .inl rfl | exact .inr rfl) pe_int))) pss_nil)
      (pss_cons (ps_set (i := 3) nd rfl (by first | exact .inl rfl | exact .inr rfl) (pe_callH H_law_rule hr (pa_cons (pv 0) (pa_cons pe_int (pa_cons (pe_lst (pa_cons pe_str (pa_cons pe_str pa_nil))) pa_nil)))))
      (pss_cons (ps_if (pt_cmpR op_gt (pe_m1 PySem.F.slot_str_count PySem.F.type_str_count mt_count (pe_op op_add_str (pe_dget (hu1 hr) (pv 2) pe_str (fun _ _ => rfl)) (pe_dget (hu1 hr) (pv 2) pe_str (fun _ _ => rfl))) pe_str) pe_int (nomark _)) (pss_one (ps_ret (pe_cmpR (op_eqD (hu64 hr)) (pe_lc (own := [("_law_what", 15)]) (g := (gName 15)) rfl nd (pi_range1 (by rfl) T.range (pa_cons pe_int pa_nil)) (blkOk_by (own := [("_law_what", 15)]) (N := N_law) (sc := defScope s_law) (by decide +kernel)) (fun _ _ _ _ _ => (pg_name (i := 15) nd rfl (by first | exact .inl rfl | exact .inr rfl))) (fun _ _ _ _ _ => pts_nil) (fun _ _ _ _ _ => (pe_callH H_law_tried hr (pa_cons (pv 15) (pa_cons (pv 2) (pa_cons (pv 3) pa_nil)))))) (pe_op op_rep (pe_lst (pa_cons pe_str pa_nil)) pe_int) (nomark _)))) pss_nil)
      (pss_cons (ps_set (i := 4) nd rfl (by first | exact .inl rfl | exact .inr rfl) (pe_lst pa_nil))
      (pss_cons (ps_for PassesOwn.never rfl (pi_list (pe_callH H_law_can_be hr (pa_cons (pe_dget (hu1 hr) (pv 2) pe_str (fun _ _ => rfl)) pa_nil))) (pg_name (i := 5) nd rfl (by first | exact .inl rfl | exact .inr rfl))
      (pss_one (ps_expr (pe_bm PySem.F.plainAttrs_list PySem.F.slot_list_extend PySem.F.type_list_extend mt_extend (pv 4) (pa_cons (pe_lc (own := [("_law_other", 16)]) (g := (gName 16)) rfl nd (pi_list (pe_callH H_law_can_be hr (pa_cons (pe_dget (hu1 hr) (pv 2) pe_str (fun _ _ => rfl)) pa_nil))) (blkOk_by (own := [("_law_other", 16)]) (N := N_law) (sc := defScope s_law) (by decide +kernel)) (fun _ _ _ _ _ => (pg_name (i := 16) nd rfl (by first | exact .inl rfl | exact .inr rfl))) (fun _ _ _ _ _ => pts_nil) (fun _ _ _ _ _ => (pe_disp (pps_cons pe_str (pv 5) (pps_cons pe_str (pv 16) pps_nil)) (by rfl) (by rfl) (fun z => by cases z) (by decide)))) pa_nil)))))
      (pss_cons (ps_set (i := 6) nd rfl (by first | exact .inl rfl | exact .inr rfl) (pe_lc (own := [("_law_known", 17)]) (g := (gName 17)) rfl nd (pi_list (pv 4)) (blkOk_by (own := [("_law_known", 17)]) (N := N_law) (sc := defScope s_law) (by decide +kernel)) (fun _ _ _ _ _ => (pg_name (i := 17) nd rfl (by first | exact .inl rfl | exact .inr rfl))) (fun _ _ _ _ _ => pts_nil) (fun _ _ _ _ _ => (pe_callH H_law_failures hr (pa_cons (pv 17) (pa_cons (pv 3) pa_nil))))))
      (pss_cons (ps_set (i := 7) nd rfl (by first | exact .inl rfl | exact .inr rfl) (pe_lc (own := [("_law_known", 17), ("_law_row", 18)]) (g := (gTup K 2 (gCons (gName 17) (gCons (gName 18) gNil)))) rfl nd (pi_zip (by rfl) T.zip (pa_cons (pv 4) (pa_cons (pv 6) pa_nil))) (blkOk_by (own := [("_law_known", 17), ("_law_row", 18)]) (N := N_law) (sc := defScope s_law) (by decide +kernel)) (fun _ _ _ _ _ => (pg_tup rfl (pgs_cons (pg_name (i := 17) nd rfl (by first | exact .inl rfl | exact .inr rfl)) (pgs_cons (pg_name (i := 18) nd rfl (by first | exact .inl rfl | exact .inr rfl)) pgs_nil)))) (fun _ _ _ _ _ => (pts_one (pt_cmpR (op_eq0K (K := K) rfl (hu64 hr)) (pv 18) (pe_lst pa_nil) (nomark _)))) (fun _ _ _ _ _ => (pv 17))))
      (pss_cons (ps_set (i := 8) nd rfl (by first | exact .inl rfl | exact .inr rfl) (pe_ifExp (pt_cmpR (op_inD (hu65 hr)) (pe_lst pa_nil) (pv 6) (by rfl)) pe_str pe_str))
      (pss_cons (ps_if (pt_cmpR op_eq (pe_callB call_len_seq (by rfl) T.len PySem.boot_len (pa_cons (pv 7) pa_nil)) (pe_callB call_len_seq (by rfl) T.len PySem.boot_len (pa_cons (pv 4) pa_nil)) (nomark _)) (pss_one (ps_set (i := 8) nd rfl (by first | exact .inl rfl | exact .inr rfl) pe_str)) pss_nil)
      (pss_cons (ps_setLc (i := 9) (own := [("_law_tick", 13)]) (g := (gName 13)) rfl nd rfl rfl (sw_true rfl rfl rfl (by decide +kernel)) (pi_range1 (by rfl) T.range (pa_cons (pv 1) pa_nil)) (blkOk_by (own := [("_law_tick", 13)]) (N := N_law) (sc := defScope s_law) (by decide +kernel)) (fun _ _ _ _ _ => (pg_name (i := 13) nd rfl (by first | exact .inl rfl | exact .inr rfl))) (fun _ _ _ _ _ => (pts_one (pt_cmpR (op_eq0K (K := K) rfl (hu64 hr)) (pe_lc (own := [("_law_row", 18)]) (g := (gName 18)) rfl nd (pi_listK (K := K) rfl (pv 6)) (blkOk_by (own := [("_law_row", 18)]) (N := N_law) (sc := relS _ (defScope s_law)) (by decide +kernel)) (fun _ _ _ _ _ => (pg_name (i := 18) nd rfl (by first | exact .inl rfl | exact .inr rfl))) (fun _ _ _ _ _ => (pts_one (pt_cmpR (op_notIn_seqK (K := K) rfl) (pv 13) (pv 18) (by rfl)))) (fun _ _ _ _ _ => (pv 18))) (pe_lst pa_nil) (nomark _)))) (fun _ _ _ _ _ => (pv 13)))
      (pss_cons (ps_set (i := 10) nd rfl (by first | exact .inl rfl | exact .inr rfl) (pe_ifExp (pt_cmpR (op_eq0 (hu64 hr)) (pv 7) (pe_lst pa_nil) (nomark _)) pe_non pe_dnewK))
      (pss_cons (ps_for PassesOwn.never rfl (pi_tup (pe_ifExp (pt_cmpR (op_ne0 (hu64 hr)) (pv 7) (pe_lst pa_nil) (nomark _)) (pe_tup (pa_cons pe_str (pa_cons pe_str pa_nil))) (pe_tup pa_nil))) (pg_name (i := 11) nd rfl (by first | exact .inl rfl | exact .inr rfl))
      (pss_cons (ps_setLc (i := 12) (own := [("_law_tick", 13)]) (g := (gName 13)) rfl nd rfl rfl (sw_true rfl rfl rfl (by decide +kernel)) (pi_range1 (by rfl) T.range (pa_cons (pv 1) pa_nil)) (blkOk_by (own := [("_law_tick", 13)]) (N := N_law) (sc := defScope s_law) (by decide +kernel)) (fun _ _ _ _ _ => (pg_name (i := 13) nd rfl (by first | exact .inl rfl | exact .inr rfl))) (fun _ _ _ _ _ => pts_nil) (fun _ _ _ _ _ => (pe_callB (cr_sortedZK (w := w) rfl rfl) (by rfl) T.sorted (by decide +kernel) (pa_cons (pe_callTy (cr_setSK (K := K) (w := w) rfl rfl rfl) (by rfl) T.set (by decide +kernel) (pa_cons (pe_lc (own := [("_law_known", 17)]) (g := (gName 17)) rfl nd (pi_listK (K := K) rfl (pv 7)) (blkOk_by (own := [("_law_known", 17)]) (N := N_law) (sc := relS _ (defScope s_law)) (by decide +kernel)) (fun _ _ _ _ _ => (pg_name (i := 17) nd rfl (by first | exact .inl rfl | exact .inr rfl))) (fun _ _ _ _ _ => pts_nil) (fun _ _ _ _ _ => (pe_ix ix_str (pe_dget (hu1 hr) (pv 17) (pv 11) (fun _ _ => rfl)) (pv 13) (fun _ _ => rfl)))) pa_nil)) pa_nil))))
      (pss_one (ps_dput (hu1 hr) (pv 10) (pv 11) (pe_join pe_str (pe_lc (own := [("_law_some", 19)]) (g := (gName 19)) rfl nd (pi_list (pv 12)) (blkOk_by (own := [("_law_some", 19)]) (N := N_law) (sc := defScope s_law) (by decide +kernel)) (fun _ _ _ _ _ => (pg_name (i := 19) nd rfl (by first | exact .inl rfl | exact .inr rfl))) (fun _ _ _ _ _ => pts_nil) (fun _ _ _ _ _ => (pe_ifExp (pt_cmpR op_eq (pe_callB (call_len_seqK (K := K) rfl) (by rfl) T.len PySem.boot_len (pa_cons (pv 19) pa_nil)) pe_int (nomark _)) (pe_ix (ix_listK (K := K) rfl) (pv 19) pe_int (fun _ _ => rfl)) pe_str)))) rfl))))
      (pss_cons (ps_if (pt_cmpR (op_neV (hu64 hr)) (pe_lc (own := [("_law_what", 15)]) (g := (gName 15)) rfl nd (pi_range1 (by rfl) T.range (pa_cons pe_int pa_nil)) (blkOk_by (own := [("_law_what", 15)]) (N := N_law) (sc := defScope s_law) (by decide +kernel)) (fun _ _ _ _ _ => (pg_name (i := 15) nd rfl (by first | exact .inl rfl | exact .inr rfl))) (fun _ _ _ _ _ => pts_nil) (fun _ _ _ _ _ => (pe_callH H_law_tried hr (pa_cons (pv 15) (pa_cons (pv 2) (pa_cons (pv 3) pa_nil)))))) (pe_lst (pa_cons (pv 8) (pa_cons (pv 9) (pa_cons (pv 10) pa_nil)))) (nomark _)) (pss_one (ps_ret pe_bl)) pss_nil)
      (pss_cons (ps_set (i := 13) nd rfl (by first | exact .inl rfl | exact .inr rfl) (pe_callH H_law_pick hr (pa_cons (pv 0) (pa_cons pe_int (pa_cons (pv 1) pa_nil)))))
      (pss_cons (ps_set (i := 11) nd rfl (by first | exact .inl rfl | exact .inr rfl) (pe_ix ix_str pe_str (pe_callH H_law_pick hr (pa_cons (pv 0) (pa_cons pe_int (pa_cons pe_int pa_nil)))) (fun _ _ => rfl)))
      (pss_cons (ps_if (pt_cmpR op_eq (pe_ix ix_str (pe_dget (hu1 hr) (pv 2) (pv 11) (fun _ _ => rfl)) (pv 13) (fun _ _ => rfl)) pe_str (nomark _)) (pss_cons (ps_set (i := 14) nd rfl (by first | exact .inl rfl | exact .inr rfl) (pe_callTy call_dictD (by rfl) T.dict (by decide +kernel) (pa_cons (pv 2) pa_nil)))
      (pss_cons (ps_dput (hu1 hr) (pv 14) (pv 11) (pe_op op_add_str (pe_op op_add_str (pe_slice sl_str (pe_dget (hu1 hr) (pv 2) (pv 11) (fun _ _ => rfl)) po_none (po_some (pv 13))) (pe_ix ix_str pe_str (pe_callH H_law_pick hr (pa_cons (pv 0) (pa_cons pe_int (pa_cons pe_int pa_nil)))) (fun _ _ => rfl))) (pe_slice sl_str (pe_dget (hu1 hr) (pv 2) (pv 11) (fun _ _ => rfl)) (po_some (pe_op op_add (pv 13) pe_int)) po_none)) rfl)
      (pss_cons (ps_if (PW.pt (pw_and (pt_cmpR op_ne (pv 8) pe_str (nomark _)) (pw_and1 (pt_cmpR op_ne (pe_callH H_law_tried hr (pa_cons pe_int (pa_cons (pv 14) (pa_cons (pv 3) pa_nil)))) (pv 8) (nomark _))))) (pss_one (ps_ret pe_bl)) pss_nil)
      (pss_one (ps_if (pt_cmpR (op_ne0 (hu64 hr)) (pe_lc (own := [("_law_one", 5)]) (g := (gName 5)) rfl nd (pi_list (pv 9)) (blkOk_by (own := [("_law_one", 5)]) (N := N_law) (sc := defScope s_law) (by decide +kernel)) (fun _ _ _ _ _ => (pg_name (i := 5) nd rfl (by first | exact .inl rfl | exact .inr rfl))) (fun _ _ _ _ _ => (pts_one (pt_cmpR (op_notIn_seqK (K := K) rfl) (pv 5) (pe_callH H_law_tried hr (pa_cons pe_int (pa_cons (pv 14) (pa_cons (pv 3) pa_nil)))) (by rfl)))) (fun _ _ _ _ _ => (pv 5))) (pe_lst pa_nil) (nomark _)) (pss_one (ps_ret pe_bl)) pss_nil))))) pss_nil)
      (pss_one (ps_ret (pe_or (pe_cmpR op_isN (pv 10) pe_non (nomark _)) (pe_or (pe_cmpR op_eq (pe_callH H_law_tried hr (pa_cons pe_int (pa_cons (pv 10) (pa_cons (pv 3) pa_nil)))) pe_str (nomark _)) (pe_one (pe_cmpR op_eq (pv 8) pe_str (nomark _))))))))))))))))))))))))), ?_⟩
    have pk : ∀ {σ3 : L2.St} {Ha : Hp} {k n : Nat} {tn : TE}, Ex H Ha → σ3[0]? = some (some (.ref l)) → 0 < n → Ev tn σ3 Ha (.int (n : Int)) → Ev (tCall (spPick K) [] E0 (tCons (tVar 0) (tCons (tC (.int (k : Int))) (tCons tn tNil)))) σ3 Ha (.int (pickZ ns k n : Int)) :=
      fun e g1 hn ht => ev_pick (ex_l e hs) hn (ea_cons (ev_var g1) (ea_cons ev_c (ea_cons ht ea_nil)))
    have abL : ∀ {σ3 : L2.St} {Ha : Hp}, EvL (tLst (tCons (tC (.str nA)) (tCons (tC (.str nB)) tNil))) σ3 Ha abV := el_lst (ea_cons ev_c (ea_cons ev_c ea_nil)) (by show 2 ≤ 100000; decide)
    -- many
    have hn0 := pickZ_lt ns 0 (show 0 < 6 by decide)
    refine q_asg (v := .int ((1 + pickZ ns 0 6 : Nat) : Int)) (ev_nat (ev_op ev_c (pk (k := 0) (n := 6) (Ex.refl H) rfl (by decide) ev_c) rv_I0) (by omega)) fun H1 e1 => ?_
    generalize hn : 1 + pickZ ns 0 6 = n0
    have n01 : 1 ≤ n0 ∧ n0 ≤ 6 := by omega
    -- the sheet
    have hm0 := pickZ_lt ns 1 (show 0 < 2 by decide)
    refine q_asgC (o := dsheet (shA ns 10 n0 (2 + pickZ ns 1 2))) (fun Q' q' => call_L3 (vs := [.int (n0 : Int), .int ((2 + pickZ ns 1 2 : Nat) : Int)]) (ev_var rfl) ev_c abL (ea_cons (ev_var rfl) (ea_cons (ev_nat (ev_op ev_c (pk (k := 1) (n := 2) e1 rfl (by decide) ev_c) rv_I0) (by omega)) ea_nil))
      fun p H2 hp e2 => ⟨l, p, ns, 10, n0, 2 + pickZ ns 1 2, rfl, ex_l (e1.trans e2) hs, sq_of hp, ⟨by omega, by omega, by omega⟩, fun r H3 _ e3 h3 => q' r H3 (e2.trans e3) h3⟩) fun d0 H2 e2 h2 => ?_
    have e02 := e1.trans e2
    refine q_whenP (b := decide (pickZ ns 6 8 = 0)) (fun σ' H' => ∃ (n : Nat) (d : Addr) (w1 w2 : List Lv), σ' = [some (.ref l), some (.int (n : Int)), some (.ref d), none, none, none, none, none, none, none, none, none, none, none, none, none, none, none, none, none] ∧ Ex H H' ∧ H' d = some (dsheet (sh w1 w2)) ∧ w1.length = n ∧ w2.length = n ∧ 1 ≤ n ∧ n ≤ 6)
      (et_is (et_test (ev_op (pk (k := 6) (n := 8) e02 rfl (by decide) ev_c) ev_c (rv_eq rfl))) (decide_eq_decide.mpr ⟨fun z => by have z' := V.int.inj z; omega, fun z => by rw [z]; rfl⟩)) (fun σ' H' hM => ?_) (fun hb H3 e3 kk => ?_) (fun hb H3 e3 => ⟨n0, d0, _, _, rfl, e02.trans e3, e3 _ _ h2, selZ_len ns 10 _ (by omega), selZ_len ns 70 _ (by omega), n01.1, n01.2⟩)
    rotate_left
    · refine q_asgN (en_two (w1 := [.x, .x, .x, .x]) (w2 := if pickZ ns 7 2 = 0 then [.x, .x, .z, .x] else [.z, .x, .x, .o]) (ev_op ev_c ev_c (rv_val fun H4 e4 Q' q' => ⟨rfl, rfl, q'⟩)) (ev_if (b := decide (pickZ ns 7 2 = 0)) (et_is (et_test (ev_op (pk (k := 7) (n := 2) (e02.trans e3) rfl (by decide) ev_c) ev_c (rv_eq rfl))) (decide_eq_decide.mpr ⟨fun z => by have z' := V.int.inj z; omega, fun z => by rw [z]; rfl⟩)) (fun hb => ev_is ev_c ?_) (fun hb => ev_is ev_c ?_))) fun d H4 hd e4 h4 => ?_
      · rw [if_pos (of_decide_eq_true hb), exx0x]
      · rw [if_neg (of_decide_eq_false hb), e0xx1]
      · refine s_asg ev_c fun H5 e5 => kk _ _ ⟨4, d, _, _, rfl, ((e02.trans e3).trans e4).trans e5, e5 _ _ h4, rfl, ?_, by decide, by decide⟩
        split <;> rfl
    obtain ⟨n, d, w1, w2, rfl, e3, hd, hl1, hl2, n1, n6⟩ := hM
    clear h2 e2 e02 hn0 hm0
    have hll : w2.length = w1.length := by omega
    have hL : 1 ≤ w1.length ∧ w1.length ≤ 12 ∧ w2.length = w1.length := by omega
    -- the rule
    have hrk := rule_ok ns 300
    refine q_asgC (o := .tup (rlV (ruleZ ns 300))) (fun Q' q' => call_L3 (vs := []) (ev_var rfl) ev_c abL ea_nil fun p H4 hp e4 => ⟨l, p, ns, 300, rfl, ex_l (e3.trans e4) hs, sq_of hp, fun r H5 e5 h5 => q' r H5 (e4.trans e5) h5⟩) fun r Hr er hr' => ?_
    generalize ruleZ ns 300 = rl at hr' hrk
    have eHr := e3.trans er
    have hdr := er _ _ hd
    have hrl : SqT K Hr r (rlV rl) := st_of hr'
    -- the calls of tried
    have preT : ∀ {Ha : Hp}, Ex Hr Ha → Pre K [.ref d, .ref r] Ha w1 w2 rl := fun e => ⟨d, r, rfl, e _ _ hdr, ex_t e hrl, hL⟩
    have dA : ∀ {σ3 : L2.St} {Ha : Hp}, Ex Hr Ha → σ3[2]? = some (some (.ref d)) → Ev (tDGet (tVar 2) (tC (.str nA))) σ3 Ha (.str (tx w1)) := fun e g => ev_dget (ev_var g) ev_c (.inl (e _ _ hdr)) getA
    have dB : ∀ {σ3 : L2.St} {Ha : Hp}, Ex Hr Ha → σ3[2]? = some (some (.ref d)) → Ev (tDGet (tVar 2) (tC (.str nB))) σ3 Ha (.str (tx w2)) := fun e g => ev_dget (ev_var g) ev_c (.inl (e _ _ hdr)) getB
    -- too much is unknown
    have cnt : cx (w1 ++ w2) = unkN w1 w2 := List.count_append
    refine q_when (b := decide (6 < unkN w1 w2)) (et_is (et_test (ev_op (ev_count (w := w1 ++ w2) (ev_op (dA (Ex.refl _) rfl) (dB (Ex.refl _) rfl) (rv_cat (by omega)))) ev_c rv_I0)) (by rw [cnt]; exact decide_eq_decide.mpr (by omega))) (fun hb H4 e4 => ?_) (fun hb H4 e4 => ?_)
    · have hx := of_decide_eq_true hb
      refine s_ret (ev_opLL (xs := [.str sTooLong, .str sTooLong, .str sTooLong]) (ys := [.str sTooLong, .str sTooLong, .str sTooLong]) (el_lc0 (l := List.range 3) (fun _ => .str sTooLong) (ei_r1 (n := 3) (ea_cons ev_c ea_nil) (by decide)) (by decide) fun t v H5 ht e5 r5 => ?_)
        (el_rep (n := 3) (xs := [.str sTooLong]) (el_lst (ea_cons ev_c ea_nil) (by show 1 ≤ 100000; decide)) (by decide) (by decide) ev_c) fun p1 p2 H5 h1 h2 e5 => rv_val fun H6 e6 Q' q' => ⟨dTL, dTL, dp_TL (e6 _ _ h1), dp_TL (e6 _ _ h2), sh_TL, sh_TL, q'⟩) fun H5 e5 => ?_
      · subst r5
        refine ⟨_, tg_name, rfl, ev_call (vs := [.int (t : Int), .ref d, .ref r]) (ea_cons (ev_var rfl) (ea_cons (ev_var rfl) (ea_cons (ev_var rfl) ea_nil))) fun H6 e6 Q' q' _ => ⟨t, d, r, w1, w2, rl, rfl, List.mem_range.mp ht, preT ((e4.trans e5).trans e6), fun _ => q', fun z => absurd hx (by omega)⟩⟩
      · rw [eq_TL]
        exact q H5 (eHr.trans (e4.trans e5))
    have hx : unkN w1 w2 ≤ 6 := by have := of_decide_eq_false hb; omega
    have hx1 : cx w1 ≤ 6 := by unfold unkN at hx; omega
    have hx2 : cx w2 ≤ 6 := by unfold unkN at hx; omega
    have hsz := sheets_len w1 w2
    have h64 := pow6 hx
    -- all that it can be
    refine q_asgL (el_lst ea_nil (Nat.zero_le _)) fun ev He hev ee hev0 => ?_
    have eHe : Ex Hr He := e4.trans ee
    have hevr : Hr ev = none := fresh_back e4 hev
    refine q_forNLn (xs := txs (aks w1)) (el_call (vs := [.str (tx w1)]) (ea_cons (dA eHe rfl) ea_nil) (sl_all (by omega) hx1))
      (fun p i σ' H' => p ≠ ev ∧ SqL K H' p (txs (aks w1)) ∧ Ex (del He ev) H' ∧ Ex Hr H' ∧ ∃ k5 E, σ' = [some (.ref l), some (.int (n : Int)), some (.ref d), some (.ref r), some (.ref ev), k5, none, none, none, none, none, none, none, none, none, none, none, none, none, none] ∧ H' ev = some (.lst (refs E)) ∧ OL dsheet H' E ∧ E.map (·.2) = ((aks w1).take i).flatMap fun v1 => (aks w2).map fun v2 => sh v1 v2)
      (fun p H5 hp e5 h5 => ⟨fun z => (by rw [z, hev0] at hp; cases hp), sq_of h5, ex_del.trans e5, eHe.trans e5, none, [], rfl, e5 _ _ hev0, fun _ h => (by cases h), rfl⟩) (fun p i σ' H' _ hP => hP.2.1) (fun p i y σ' H' hj hP => ?_) (fun p σ' H' hP => ?_)
    · obtain ⟨npe, hsq, ed, eR, k5, E, rfl, hE, hoE, hEm⟩ := hP
      obtain ⟨v1, hj', rfl⟩ : ∃ v1, (aks w1)[i]? = some v1 ∧ y = .str (tx v1) := by
        unfold txs at hj
        rw [List.getElem?_map] at hj
        cases q' : (aks w1)[i]? with
        | none => rw [q'] at hj; cases hj
        | some u => rw [q'] at hj; exact ⟨u, rfl, (Option.some.inj hj).symm⟩
      have hEl : E.length ≤ 64 * 64 := by
        have z := congrArg List.length hEm
        rw [List.length_map] at z
        rw [z, List.length_flatMap]
        have z2 : ((aks w1).take i).map (fun v1 => ((aks w2).map fun v2 => sh v1 v2).length) = List.replicate ((aks w1).take i).length (aks w2).length := by
          rw [List.eq_replicate_iff]
          refine ⟨List.length_map .., fun b hb => ?_⟩
          obtain ⟨u, _, rfl⟩ := List.mem_map.mp hb
          exact List.length_map ..
        rw [z2, List.sum_replicate_nat, List.length_take, aks_len, aks_len]
        have p1 := pow6 hx1
        have p2 := pow6 hx2
        exact Nat.mul_le_mul (by omega) p2
      refine s_extO (o := dsheet) (m := (aks w2).map fun v2 => sh v1 v2) hE (ev_var rfl) (eo_lc0 (fun v2 => sh v1 v2) dsheet (ei_NL (l := aks w2) (φ := fun v => V.str (tx v)) (el_call (vs := [.str (tx w2)]) (ea_cons (dB eR rfl) ea_nil) (sl_all (by omega) hx2))) (by rw [aks_len]; have := pow6 hx2; omega) fun v2 vv H6 hv e6 hvv => ?_) ?_ fun L6 H6 e6 hL6 ho6 => ?_
      · subst hvv
        exact ⟨_, tg_name, rfl, en_two (ev_var rfl) (ev_var rfl)⟩
      · rw [refs, List.length_map, List.length_map, aks_len]
        have := pow6 hx2
        omega
      · have hev6 := e6 _ _ hE
        refine ⟨npe, ?_, Ex.mut (ed.trans e6) del_same, Ex.mut (eR.trans e6) hevr, _, E ++ L6, rfl, ?_, fun u hu => ?_, ?_⟩
        · exact ex_l (Ex.mut (fun x o hx => e6 _ _ (ex_del _ _ hx)) del_same) (sql_del hsq npe)
        · rw [upd_same, refs, refs, refs, List.map_append]
        · have hu6 : H6 u.1 = some (dsheet u.2) := by
            rcases List.mem_append.mp hu with hu | hu
            · exact e6 _ _ (hoE u hu)
            · exact ho6 u hu
          rw [upd_ne (fun z => by rw [z, hev6] at hu6; cases hu6)]
          exact hu6
        · rw [List.map_append, hEm, hL6, List.take_add_one, hj', List.flatMap_append]
          show _ = _ ++ List.flatMap _ [v1]
          rw [List.flatMap_cons, List.flatMap_nil, List.append_nil]
    obtain ⟨_, _, _, eR, k5, E, rfl, hE, hoE, hEm⟩ := hP
    rw [txs_len, List.take_length, ← sheets_eq] at hEm
    have hEl : E.length ≤ 64 := by
      have z := congrArg List.length hEm
      rw [List.length_map] at z
      omega
    have hEk : ∀ u ∈ E, u.2 ∈ sheetsOf w1 w2 := fun u hu => by rw [← hEm]; exact List.mem_map.mpr ⟨u, hu, rfl⟩
    -- the rows
    refine q_asgO (o := lol) (l := E.map fun u => lfailS rl u.2) (eo_lc0 (fun u => lfailS rl u.2) lol (ei_L (l := E) (φ := fun u => V.ref u.1) (ev_var rfl) (sq_of hE)) (by omega) fun u v H6 hu e6 hv => ?_) fun rw_ R H6 hrw e6 hR h6 hoR => ?_
    · subst hv
      refine ⟨_, tg_name, rfl, evN_L (el_call (vs := [.ref u.1, .ref r]) (ea_cons (ev_var rfl) (ea_cons (ev_var rfl) ea_nil)) fun H7 e7 Q' q' _ => ?_)⟩
      obtain ⟨v1, v2, hsv, k1, k2⟩ := sheets_mem (hEk u hu)
      have l1 := aks_mem_len v1 k1
      have l2 := aks_mem_len v2 k2
      have hu' := hoE u hu
      unfold lfailS at q'
      rw [hsv] at hu' q'
      rw [wA_sh, wB_sh] at q'
      exact ⟨u.1, r, v1, v2, rl, rfl, .inl (e7 _ _ (e6 _ _ hu')), ex_t ((eR.trans e6).trans e7) hrl, ⟨by omega, by omega, by omega⟩, q'⟩
    have hRf : R.map (·.2) = E.map fun u => failS rl u.2 := by
      rw [hR]
      exact List.map_congr_left fun u hu => lfail_eq (by omega) hll hrk (hEk u hu)
    have hRr : R.map (·.2) = rowsM w1 w2 rl := by
      rw [hRf, rowsM, ← hEm, List.map_map]
      rfl
    have hRl : R.length ≤ 64 := by
      have z := congrArg List.length hRr
      rw [List.length_map, rowsM, List.length_map] at z
      omega
    -- the good ones
    refine q_asgL (el_lc (fun p : (Addr × Sh) × (Addr × List Nat) => p.2.2.isEmpty) (fun p => V.ref p.1.1) (ei_zip (l := E) (m := R) (φ := fun u => V.ref u.1) (ψ := fun u => V.ref u.1) (ea_cons (ev_var rfl) (ea_cons (ev_var rfl) ea_nil)) (sq_of (e6 _ _ hE)) (sq_of h6)) (by rw [List.length_zip]; omega) fun x v H7 hx e7 hv => ?_) fun gd H7 hgd e7 h7 => ?_
    · obtain ⟨p, rfl, hp⟩ := hv
      obtain ⟨x1, x2⟩ := x
      have hx2 := (List.of_mem_zip hx).2
      exact ⟨_, tg_tup2 (st_of hp), rfl, et_is (et_test (ev_eq0v (ev_var rfl) (sq_of (e7 _ _ (hoR x2 hx2))))) List.isEmpty_map, fun _ => ev_var rfl⟩
    have hzip := zip_good (failS rl) (fun r => r.isEmpty) E R hRf
    generalize hGd : E.filter (fun q => (failS rl q.2).isEmpty) = G at hzip
    have hGm : G.map (·.2) = goodM w1 w2 rl := by
      rw [← hGd, goodM, ← hEm, List.filter_map]
      rfl
    have h7' : H7 gd = some (.lst (refs G)) := by
      rw [h7, ← hzip, refs, List.map_map]
      rfl
    clear h7
    have hGE : ∀ u ∈ G, u ∈ E := fun u hu => by rw [← hGd] at hu; exact (List.mem_filter.mp hu).1
    have hGl : G.length ≤ 64 := by rw [← hGd]; exact len_filter _ _ hEl
    have hE7 : H7 ev = some (.lst (refs E)) := e7 _ _ (e6 _ _ hE)
    have hR7 : H7 rw_ = some (.lst (refs R)) := e7 _ _ h6
    have hoR7 : OL lol H7 R := hoR.ex e7
    have hoG7 : OL dsheet H7 G := fun u hu => e7 _ _ (e6 _ _ (hoE u (hGE u hu)))
    have eR7 : Ex Hr H7 := (eR.trans e6).trans e7
    clear hgd hoR hrw hE hoE e6 e7 h6 hevr hev hev0 eHe
    -- what is due
    refine q_asg (v := .str (vdS (if (rowsM w1 w2 rl).any (fun r => r.isEmpty) then .open_ else .broken))) (ev_if (et_is (et_test (ev_inRows (ev_var rfl) hR7 hoR7)) (by rw [hRr])) (fun hb => ev_is ev_c (by rw [hb]; rfl)) (fun hb => ev_is ev_c (by rw [hb]; rfl))) fun H8 e8 => ?_
    have eG : G.length = (goodM w1 w2 rl).length := by rw [← hGm, List.length_map]
    have eEl : E.length = (sheetsOf w1 w2).length := by rw [← hEm, List.length_map]
    refine q_ifAsg (b := decide ((goodM w1 w2 rl).length = (sheetsOf w1 w2).length)) (v := .str (vdS (verdM w1 w2 rl))) (et_is (et_test (ev_op (ev_len (ev_var rfl) (sq_of (e8 _ _ h7'))) (ev_len (ev_var rfl) (sq_of (e8 _ _ hE7))) (rv_eq rfl))) ?_) (fun hb => ev_is ev_c ?_) (fun hb => ?_) fun H9 e9 => ?_
    · rw [refs, refs, List.length_map, List.length_map, ← eG, ← eEl]
      exact decide_eq_decide.mpr ⟨fun z => by have z' := V.int.inj z; omega, fun z => by rw [z]⟩
    · rw [← ldue_eq, if_pos (of_decide_eq_true hb)]
      rfl
    · rw [← ldue_eq, if_neg (of_decide_eq_false hb)]
      rfl
    have e79 := e8.trans e9
    -- what is sure
    refine q_asgL (xs := niv (sureM w1 w2 rl)) (evL_is (el_lc (fun t => (rowsM w1 w2 rl).all fun r => decide (t ∈ r)) (fun (t : Nat) => V.int (t : Int)) (ei_r1 (n := n) (ea_cons (ev_var rfl) ea_nil) (by omega)) (by rw [List.length_range]; omega) fun t v H10 ht e10 hv => ?_) ?_) fun sr H10 hsr e10 h10 => ?_
    · subst hv
      refine ⟨_, tg_name, rfl, et_is (et_test (ev_eq0 (el_lc (fun q : Addr × List Nat => !decide (t ∈ q.2)) (fun q => V.ref q.1) (ei_L (l := R) (φ := fun q => V.ref q.1) (ev_var rfl) (sq_of (e10 _ _ (e79 _ _ hR7)))) (by omega) fun q v H11 hq e11' hv => ?_))) ?_, fun _ => ev_var rfl⟩
      · subst hv
        refine ⟨_, tg_name, rfl, et_test (ev_op (ev_var rfl) (ev_var rfl) ?_), fun _ => ev_var rfl⟩
        rw [← niv_in]
        exact rv_niL (sq_of (e11' _ _ (e10 _ _ (e79 _ _ (hoR7 q hq))))) rfl (niv_flat _)
      · rw [List.isEmpty_map, ← hRr, List.all_map]
        clear hR hRf hRr hRl hzip hR7 hoR7
        induction R with
        | nil => rfl
        | cons q R ih =>
          rw [List.filter_cons, List.all_cons, ← ih]
          show List.isEmpty (if (!decide (t ∈ q.2)) = true then _ else _) = (decide (t ∈ q.2) && _)
          cases decide (t ∈ q.2) <;> rfl
    · rw [← lsure_eq (by omega) hll hrk, hl1]
      rfl
    have eR10 : Ex Hr H10 := (eR7.trans e79).trans e10
    have hgd10 : H10 gd = some (.lst (refs G)) := e10 _ _ (e79 _ _ h7')
    have hoG10 : OL dsheet H10 G := hoG7.ex (e79.trans e10)
    have hgGe : (refs G).isEmpty = (goodM w1 w2 rl).isEmpty := by rw [refs, List.isEmpty_map, ← hGm, List.isEmpty_map]
    clear e10 e79 e8 e9 hR7 hoR7 hE7 hoG7 h7' eR7
    -- what is told
    refine q_with2 (M := fun σ' H' => ∃ tv k11 k12, σ' = [some (.ref l), some (.int (n : Int)), some (.ref d), some (.ref r), some (.ref ev), k5, some (.ref rw_), some (.ref gd), some (.str (vdS (verdM w1 w2 rl))), some (.ref sr), some tv, k11, k12, none, none, none, none, none, none, none] ∧ Ex H10 H' ∧
      ((goodM w1 w2 rl = [] ∧ tv = .non) ∨ (goodM w1 w2 rl ≠ [] ∧ ∃ mk, tv = .ref mk ∧ H' mk = some (dsheet (toldS (goodM w1 w2 rl) w1.length))))) (fun σ' H' hM => ?_) (fun kk => ?_)
    rotate_left
    · by_cases hg : goodM w1 w2 rl = []
      · have hge : (refs G).isEmpty = true := by rw [hgGe, hg]; rfl
        refine q_asg (v := .non) (ev_if (b := true) (et_is (et_test (ev_eq0v (ev_var rfl) (sq_of hgd10))) hge) (fun _ => ev_c) (fun z => absurd z (by decide))) fun H11 e11' => ?_
        refine q_forNT (xs := []) (eu_ifT (b := false) (et_is (et_test (ev_ne0v (ev_var rfl) (sq_of (e11' _ _ hgd10)))) (by rw [hge]; rfl)) (fun z => absurd z (by decide)) fun _ => eu_tup ea_nil (Nat.zero_le _))
          (fun p i σ' H' => SqT K H' p [] ∧ Ex H10 H' ∧ σ' = [some (.ref l), some (.int (n : Int)), some (.ref d), some (.ref r), some (.ref ev), k5, some (.ref rw_), some (.ref gd), some (.str (vdS (verdM w1 w2 rl))), some (.ref sr), some .non, none, none, none, none, none, none, none, none, none])
          (fun p H12 hp e12 h12 => ⟨st_of h12, e11'.trans e12, rfl⟩) (fun p i σ' H' _ hP => hP.1) (fun p i x σ' H' hx _ => by cases hx) (fun p σ' H' hP => ?_)
        obtain ⟨_, e, rfl⟩ := hP
        exact kk _ _ ⟨.non, none, none, rfl, e, .inl ⟨hg, rfl⟩⟩
      · have hge : (refs G).isEmpty = false := by
          rw [hgGe]
          cases hq : goodM w1 w2 rl with
          | nil => exact absurd hq hg
          | cons _ _ => rfl
        refine q_asgN (en_ifF (et_is (et_test (ev_eq0v (ev_var rfl) (sq_of hgd10))) hge) en_dnew) fun mk H11 hmk e11' h11 => ?_
        have hlen : ∀ y ∈ sh w1 w2, y.1 = nA ∨ y.1 = nB := by
          intro y hy
          rcases List.mem_cons.mp hy with rfl | hy
          · exact .inl rfl
          · rw [List.mem_singleton] at hy
            subst hy
            exact .inr rfl
        refine q_forNT (xs := (sh w1 w2).map fun y : Str × List Lv => V.str y.1) (eu_ifT (b := true) (et_is (et_test (ev_ne0v (ev_var rfl) (sq_of (e11' _ _ hgd10)))) (by rw [hge]; rfl)) (fun _ => eu_tup (ea_cons ev_c (ea_cons ev_c ea_nil)) (by show 2 ≤ 100000; decide)) (fun z => absurd z (by decide)))
          (fun p i σ' H' => SqT K H' p ((sh w1 w2).map fun y : Str × List Lv => V.str y.1) ∧ p ≠ mk ∧ Ex H10 H' ∧ ∃ k11 k12, σ' = [some (.ref l), some (.int (n : Int)), some (.ref d), some (.ref r), some (.ref ev), k5, some (.ref rw_), some (.ref gd), some (.str (vdS (verdM w1 w2 rl))), some (.ref sr), some (.ref mk), k11, k12, none, none, none, none, none, none, none] ∧
            H' mk = some (dsheet (((sh w1 w2).take i).map fun y : Str × List Lv => (y.1, toldW (goodM w1 w2 rl) y.1 w1.length))))
          (fun p H12 hp e12 h12 => ⟨st_of h12, fun z => (by rw [z, h11] at hp; cases hp), e11'.trans e12, none, none, rfl, e12 _ _ h11⟩) (fun p i σ' H' _ hP => hP.1) (fun p i x σ' H' hx hP => ?_) (fun p σ' H' hP => ?_)
        · obtain ⟨hst, npm, e, k11, k12, rfl, hmk'⟩ := hP
          obtain ⟨y, hy, rfl⟩ : ∃ y, (sh w1 w2)[i]? = some y ∧ x = .str y.1 := by
            rw [List.getElem?_map] at hx
            cases q' : (sh w1 w2)[i]? with
            | none => rw [q'] at hx; cases hx
            | some u => rw [q'] at hx; exact ⟨u, rfl, (Option.some.inj hx).symm⟩
          have hnx := hlen y (List.mem_of_getElem? hy)
          have hi2 : i < 2 := (List.getElem?_eq_some_iff.mp hy).1
          have hG : ∀ t, (goodM w1 w2 rl).map (fun s => at_ (wv s y.1) t) = G.map fun u => at_ (wv u.2 y.1) t := fun t => by
            rw [← hGm, List.map_map]
            rfl
          refine q_asgO (o := lvO) (l := (List.range n).map fun t => lvls ((goodM w1 w2 rl).map fun s => at_ (wv s y.1) t)) (eo_lc0 (fun t => lvls ((goodM w1 w2 rl).map fun s => at_ (wv s y.1) t)) lvO (ei_r1 (n := n) (ea_cons (ev_var rfl) ea_nil) (by omega)) (by rw [List.length_range]; omega) fun t v H12 ht e12 hv => ?_) fun lv L H12 hlv e12 hL h12 hoL => ?_
          · subst hv
            have htl := List.mem_range.mp ht
            refine ⟨_, tg_name, rfl, evN_L (el_sortedSet (fun a ha => ?_) (by rw [hG, List.length_map]; omega) (evL_is (el_lc0 (fun u : Addr × Sh => V.str (sg (at_ (wv u.2 y.1) t))) (ei_L (l := G) (φ := fun u => V.ref u.1) (ev_var rfl) (sq_of (e12 _ _ (e _ _ hgd10)))) (by omega) fun u v H13 hu e13 hv => ?_) ?_))⟩
            · rw [hG] at ha
              obtain ⟨u, hu, rfl⟩ := List.mem_map.mp ha
              exact (known_wave hll (hEk u (hGE u hu)) hnx).2.2 t (by omega)
            · subst hv
              obtain ⟨g1, g2, _⟩ := known_wave hll (hEk u (hGE u hu)) hnx
              exact ⟨_, tg_name, rfl, ev_strIx (i := t) (ev_dget (ev_var rfl) (ev_var rfl) (.inl (e13 _ _ (e12 _ _ (e _ _ (hoG10 u hu))))) g1) (ev_var rfl) rfl (by omega) (by omega)⟩
            · rw [hG, List.map_map]
              rfl
          · have hLl : L.length = n := by
              have z := congrArg List.length hL
              rw [List.length_map, List.length_map, List.length_range] at z
              exact z
            refine s_dput (w := toldW (goodM w1 w2 rl) y.1 w1.length) (e12 _ _ hmk') (ev_var rfl) (ev_var rfl) (ev_joinN (evL_is (el_lc0 (fun u : Addr × List Lv => V.str (sg (oneOf u.2))) (ei_L (l := L) (φ := fun u => V.ref u.1) (ev_var rfl) (sq_of h12)) (by omega) fun u v H13 hu e13 hv => ?_) ?_) (by rw [toldW, List.length_map, List.length_range]; omega)) (by rw [List.length_map, List.length_take]; show min i 2 < 1000; omega) fun H13 e13 => ?_
            · subst hv
              exact ⟨_, tg_name, rfl, ev_one rfl (e13 _ _ (hoL u hu))⟩
            · rw [toldW, hl1, List.map_map]
              have z : (L.map fun u => V.str (sg (oneOf u.2))) = (L.map (·.2)).map fun ls => V.str (sg (oneOf ls)) := by rw [List.map_map]; rfl
              rw [z, hL, List.map_map]
              rfl
            · refine ⟨st_upd (ex_t (e12.trans e13) hst) npm, npm, Ex.mut ((e.trans e12).trans e13) hmk, _, _, rfl, ?_⟩
              rw [upd_same, put_new, List.take_add_one, hy, List.map_append]
              · rfl
              · refine getW_none fun p' hp' => ?_
                obtain ⟨y', hy', rfl⟩ := List.mem_map.mp hp'
                match i, hi2 with
                | 0, _ => cases hy'
                | 1, _ =>
                  have hi' : y = (nB, w2) := (Option.some.inj hy).symm
                  rw [show (sh w1 w2).take 1 = [(nA, w1)] from rfl, List.mem_singleton] at hy'
                  rw [hy', hi']
                  exact nAB
        · obtain ⟨_, _, e, k11, k12, rfl, hmk'⟩ := hP
          exact kk _ _ ⟨.ref mk, k11, k12, rfl, e, .inr ⟨hg, mk, rfl, hmk'⟩⟩
    obtain ⟨tv, k11, k12, rfl, eM, hT⟩ := hM
    have eRM : Ex Hr H' := eR10.trans eM
    have hsr : H' sr = some (.lst (niv (sureM w1 w2 rl))) := eM _ _ h10
    -- the three answers
    have preM : ∀ {Ha Hb : Hp}, Ex H' Ha → Ex Ha Hb → Pre K [.ref d, .ref r] Hb w1 w2 rl := fun ea eb => preT ((eRM.trans ea).trans eb)
    refine q_when (b := false) (et_test fun H11 e11' Q' q' => ?_) (fun hb => absurd hb (by decide)) fun _ H11 e11' => ?_
    · refine em_lc (l := List.range 3) (fun t : Nat => if t = 0 then Sum.inl (V.str (vdS (verdM w1 w2 rl))) else if t = 1 then Sum.inr (HO.lst (niv (sureM w1 w2 rl))) else if goodM w1 w2 rl = [] then Sum.inl V.non else Sum.inr (dsheet (toldS (goodM w1 w2 rl) w1.length)))
        (ei_r1 (n := 3) (ea_cons ev_c ea_nil) (by decide)) (by decide) (fun t v H12 ht e12 hv => ?_) H11 e11' _ fun p xs H12 hp e12 h12 hall => ?_
      · subst hv
        refine ⟨_, tg_name, rfl, ?_⟩
        have args : EvA (tCons (tVar 15) (tCons (tVar 2) (tCons (tVar 3) tNil))) [some (.ref l), some (.int (n : Int)), some (.ref d), some (.ref r), some (.ref ev), k5, some (.ref rw_), some (.ref gd), some (.str (vdS (verdM w1 w2 rl))), some (.ref sr), some tv, k11, k12, none, none, some (.int (t : Int)), none, none, none, none] H12 [.int (t : Int), .ref d, .ref r] := ea_cons (ev_var rfl) (ea_cons (ev_var rfl) (ea_cons (ev_var rfl) ea_nil))
        have pre : ∀ Ha, Ex H12 Ha → Pre K [.ref d, .ref r] Ha w1 w2 rl := fun Ha ea => preM e12 ea
        have ht3 := List.mem_range.mp ht
        match t, ht3 with
        | 0, _ =>
          have z := sp_tried0 pre
          rw [if_neg (by omega)] at z
          exact em_V (ev_call args z)
        | 1, _ => exact em_N (evN_L (el_call args (sp_tried1 pre hx)))
        | 2, _ =>
          by_cases hg : goodM w1 w2 rl = []
          · rw [if_neg (by decide), if_neg (by decide), if_pos hg]
            exact em_V (ev_call args (sp_tried2n pre hx hg))
          · rw [if_neg (by decide), if_neg (by decide), if_neg hg]
            exact em_N (en_call args (sp_tried2 pre hx hg))
      · refine el_lst (vs := [.str (vdS (verdM w1 w2 rl)), .ref sr, tv]) (ea_cons (ev_var rfl) (ea_cons (ev_var rfl) (ea_cons (ev_var rfl) ea_nil))) (by show 3 ≤ 100000; decide) H12 (Ex.refl _) _ fun p2 H13 hp2 e13 h13 => ?_
        have hall' := hall.ex e13
        have eM13 := (e11'.trans e12).trans e13
        refine ⟨p, p2, xs, _, rfl, rfl, sq_of (e13 _ _ h12), sq_of h13, ?_, q' _ (e12.trans e13)⟩
        cases hall' with
        | cons d0 r0 =>
          cases r0 with
          | cons d1 r1 =>
            cases r1 with
            | cons d2 r2 =>
              cases r2
              have d0' : _ = V.str (vdS (verdM w1 w2 rl)) := d0
              obtain ⟨a1, ea1, ha1⟩ : ∃ a, _ = V.ref a ∧ H13 a = some (HO.lst (niv (sureM w1 w2 rl))) := d1
              rw [d0', ea1]
              refine .cons (.inl ⟨rfl, rfl⟩) (.cons (eqv_niv ha1 (eM13 _ _ hsr)) (.cons ?_ .nil))
              rcases hT with ⟨hg, rfl⟩ | ⟨hg, mk, rfl, hmk⟩
              · have d2' : Dv (if goodM w1 w2 rl = [] then Sum.inl V.non else Sum.inr (dsheet (toldS (goodM w1 w2 rl) w1.length))) _ H13 := d2
                rw [if_pos hg] at d2'
                have d2'' : _ = V.non := d2'
                rw [d2'']
                exact .inl ⟨rfl, rfl⟩
              · have d2' : Dv (if goodM w1 w2 rl = [] then Sum.inl V.non else Sum.inr (dsheet (toldS (goodM w1 w2 rl) w1.length))) _ H13 := d2
                rw [if_neg hg] at d2'
                obtain ⟨a2, ea2, ha2⟩ := d2'
                rw [ea2]
                exact eqv_sheet ha2 (eM13 _ _ hmk)
    -- one level more
    have eR11 : Ex Hr H11 := eRM.trans e11'
    refine q_asg (pk (k := 2) (n := n) (eHr.trans eR11) rfl (by omega) (ev_var rfl)) fun H12 e12 => ?_
    obtain ⟨cab, hab, hnm⟩ := ab_ix ns 3
    refine q_asg (v := .str (nm (b2 ns 3))) (ev_is (ev_op ev_c (pk (k := 3) (n := 2) ((eHr.trans eR11).trans e12) rfl (by decide) ev_c) (rv_ixS (by show 2 ≤ 100000; decide) hab)) (by rw [hnm])) fun H13 e13 => ?_
    have eM13 := (e11'.trans e12).trans e13
    have eR13 : Ex Hr H13 := eRM.trans eM13
    generalize hb3 : b2 ns 3 = b3
    have htk := pickZ_lt ns 2 (show 0 < n by omega)
    generalize htk' : pickZ ns 2 n = tk at htk
    have hsl : (sel w1 w2 b3).length = w1.length := sel_len hll b3
    have hT13 : (goodM w1 w2 rl = [] ∧ tv = .non) ∨ (goodM w1 w2 rl ≠ [] ∧ ∃ mk, tv = .ref mk ∧ H13 mk = some (dsheet (toldS (goodM w1 w2 rl) w1.length))) := by
      rcases hT with z | ⟨hg, mk, rfl, hmk⟩
      · exact .inl z
      · exact .inr ⟨hg, mk, rfl, eM13 _ _ hmk⟩
    have hsr13 : H13 sr = some (.lst (niv (sureM w1 w2 rl))) := eM13 _ _ hsr
    have dS : ∀ {σ3 : L2.St} {Ha : Hp}, Ex H13 Ha → σ3[2]? = some (some (.ref d)) → σ3[11]? = some (some (.str (nm b3))) → Ev (tDGet (tVar 2) (tVar 11)) σ3 Ha (.str (tx (sel w1 w2 b3))) := fun e g g2 => ev_dget (ev_var g) (ev_var g2) (.inl (e _ _ (eR13 _ _ hdr))) (get_sel w1 w2 b3)
    refine q_whenP (b := decide (at_ (sel w1 w2 b3) tk = .x)) (fun σ' H'' => ∃ k5 k14, σ' = [some (.ref l), some (.int (n : Int)), some (.ref d), some (.ref r), some (.ref ev), k5, some (.ref rw_), some (.ref gd), some (.str (vdS (verdM w1 w2 rl))), some (.ref sr), some tv, some (.str (nm b3)), k12, some (.int (tk : Int)), k14, none, none, none, none, none] ∧ Ex H13 H'')
      (et_is (et_test (ev_op (ev_strIx (i := tk) (dS (Ex.refl _) rfl rfl) (ev_var rfl) rfl (by omega) (by omega)) ev_c (rv_eq rfl))) (by rw [ex_, dec_sg])) (fun σ' H'' hM => ?_) (fun hb H14 e14 kk => ?_) (fun hb H14 e14 => ⟨_, none, rfl, e14⟩)
    rotate_left
    · have hax := of_decide_eq_true hb
      have htl : tk < (sel w1 w2 b3).length := by omega
      refine q_asgN (en_dict (l := sh w1 w2) (ev_var rfl) (.inl (e14 _ _ (eR13 _ _ hdr)))) fun mo H15 hmo e15 h15 => ?_
      have p4 : pickZ ns 4 2 < s01.length := pickZ_lt ns 4 (by decide)
      generalize hcz : at_ s01 (pickZ ns 4 2) = cz
      have hcz' : cz = .z ∨ cz = .o := by
        rw [← hcz]
        generalize pickZ ns 4 2 = z at p4
        match z, p4 with
        | 0, _ => exact .inl rfl
        | 1, _ => exact .inr rfl
      have e145 := e14.trans e15
      refine q_dput (l := sh w1 w2) (n := nm b3) (w := setA (sel w1 w2 b3) tk cz) h15 (ev_var rfl) (ev_var rfl) (ev_op (ev_op (ev_is (ev_sl (dS e145 rfl rfl) eo_none (eo_some (ev_var rfl)) (by omega)) (by rw [cut_to _ _ (by omega)])) (ev_is (w := .str (tx [cz])) (ev_strIx (w := s01) (ev_is ev_c (by rw [e01]; rfl)) (pk (k := 4) (n := 2) ((eHr.trans eR13).trans e145) rfl (by decide) ev_c) rfl p4 (by decide)) (by rw [hcz]; rfl)) (rv_cat (by rw [List.length_take]; show _ + 1 ≤ _; omega)))
        (ev_is (ev_sl (dS e145 rfl rfl) (eo_some (ev_nat (j := ((tk + 1 : Nat) : Int)) (ev_op (ev_var rfl) ev_c rv_I0) (by omega))) eo_none (by omega)) (by rw [cut_from _ _ (by omega)])) (rv_cat (by rw [List.length_append, List.length_take, List.length_drop]; show _ + 1 + _ ≤ _; omega))) (by show 2 < 1000; decide) fun H16 e16 => ?_
      rw [put_sel]
      have hm1 : (if b3 = true then w1 else setA (sel w1 w2 b3) tk cz) = more1 w1 w2 b3 tk cz := by cases b3 <;> rfl
      have hm2 : (if b3 = true then setA (sel w1 w2 b3) tk cz else w2) = more2 w1 w2 b3 tk cz := by cases b3 <;> rfl
      rw [hm1, hm2]
      have hH17 : (upd H16 mo (.dK (kvs (sh (more1 w1 w2 b3 tk cz) (more2 w1 w2 b3 tk cz))))) mo = some (dsheet (sh (more1 w1 w2 b3 tk cz) (more2 w1 w2 b3 tk cz))) := upd_same
      have e17 : Ex H13 (upd H16 mo (.dK (kvs (sh (more1 w1 w2 b3 tk cz) (more2 w1 w2 b3 tk cz))))) := Ex.mut (e145.trans e16) (fresh_back e14 hmo)
      generalize upd H16 mo (.dK (kvs (sh (more1 w1 w2 b3 tk cz) (more2 w1 w2 b3 tk cz)))) = H17 at hH17 e17
      have ml1 := more_len1 (c := cz) hll htl
      have ml2 := more_len2 (c := cz) hll htl
      have mx : unkN (more1 w1 w2 b3 tk cz) (more2 w1 w2 b3 tk cz) ≤ 6 := Nat.le_trans (more_unk htl hcz') hx
      have preN : ∀ {Ha : Hp}, Ex H17 Ha → Pre K [.ref mo, .ref r] Ha (more1 w1 w2 b3 tk cz) (more2 w1 w2 b3 tk cz) rl := fun e => ⟨mo, r, rfl, e _ _ hH17, ex_t ((eR13.trans e17).trans e) hrl, by omega, by omega, by omega⟩
      refine q_when (b := false) (et_is (et_and (et_test (ev_op (ev_var rfl) ev_c (rv_ne rfl))) fun _ => et_test (ev_op (ev_call (vs := [.int 0, .ref mo, .ref r]) (ea_cons ev_c (ea_cons (ev_var rfl) (ea_cons (ev_var rfl) ea_nil))) (sp_tried0 (rl := rl) fun Ha ea => preN ea)) (ev_var rfl) (rv_ne rfl))) ?_) (fun hb => absurd hb (by decide)) fun _ H18 e18 => ?_
      · rw [if_neg (by omega)]
        by_cases ho : verdM w1 w2 rl = .open_
        · rw [ho]
          rfl
        · rw [more_verd htl hax hcz' ho, decide_eq_true (p := V.str (vdS (verdM w1 w2 rl)) = V.str (vdS (verdM w1 w2 rl))) rfl]
          exact Bool.and_false _
      · refine s_when (b := false) (et_is (et_test (ev_ne0 (el_lc (fun u => !decide (u ∈ sureM (more1 w1 w2 b3 tk cz) (more2 w1 w2 b3 tk cz) rl)) (fun (u : Nat) => V.int (u : Int)) (ei_L (l := sureM w1 w2 rl) (φ := fun (u : Nat) => V.int (u : Int)) (ev_var rfl) (sq_of (e18 _ _ (e17 _ _ hsr13)))) ?_ fun u v H19 hu e19 hv => ?_))) ?_) (fun hb => absurd hb (by decide)) fun _ H19 e19 => kk _ _ ⟨_, _, rfl, (e17.trans e18).trans e19⟩
        · rw [← lsure_eq (by omega) hll hrk]
          exact Nat.le_trans (len_filter _ _ (n := w1.length) (by rw [List.length_range]; exact Nat.le_refl _)) (by omega)
        · subst hv
          refine ⟨_, tg_name, rfl, et_test (ev_opL (ev_var rfl) (el_call (vs := [.int 1, .ref mo, .ref r]) (ea_cons ev_c (ea_cons (ev_var rfl) (ea_cons (ev_var rfl) ea_nil))) (sp_tried1 (rl := rl) (fun Ha ea => preN ((e18.trans e19).trans ea)) mx)) fun p H20 hp _ => ?_), fun _ => ev_var rfl⟩
          rw [← niv_in]
          exact rv_niL (sq_of hp) rfl (niv_flat _)
        · rw [List.isEmpty_map, List.filter_eq_nil_iff.mpr fun u hu => ?_]
          · rfl
          · rw [decide_eq_true (more_sure htl hax hcz' hu)]
            exact Bool.false_ne_true
    obtain ⟨k5', k14, rfl, eF⟩ := hM
    have fin : ∀ {b : Bool} {H15 : Hp}, b = true → Ex H13 H15 → Q (.bl b) H15 := fun hb e => by
      rw [hb]
      exact q _ ((eHr.trans eR13).trans e)
    rcases hT13 with ⟨hg, rfl⟩ | ⟨hg, mk, rfl, hmk⟩
    · exact s_ret (ev_orV (b := true) (ev_op (ev_var rfl) ev_c (rv_val fun H15 e15 Q' q' => ⟨rfl, q'⟩)) fun z => absurd z (by decide)) fun H15 e15 => fin rfl (eF.trans e15)
    · have tl1 : ∀ nn, (toldW (goodM w1 w2 rl) nn w1.length).length = w1.length := fun nn => by unfold toldW; rw [List.length_map, List.length_range]
      have preZ : ∀ {Ha : Hp}, Ex H'' Ha → Pre K [.ref mk, .ref r] Ha (toldW (goodM w1 w2 rl) nA w1.length) (toldW (goodM w1 w2 rl) nB w1.length) rl := fun e => ⟨mk, r, rfl, e _ _ (eF _ _ hmk), ex_t ((eR13.trans eF).trans e) hrl, by rw [tl1]; exact hL.1, by rw [tl1]; exact hL.2.1, by rw [tl1, tl1]⟩
      refine s_ret (ev_orV (ev_op (ev_var rfl) ev_c (rv_val fun H15 e15 Q' q' => ⟨rfl, q'⟩)) fun _ => ev_orV (ev_op (ev_call (vs := [.int 0, .ref mk, .ref r]) (ea_cons ev_c (ea_cons (ev_var rfl) (ea_cons (ev_var rfl) ea_nil))) (sp_tried0 (rl := rl) fun Ha ea => preZ ea)) ev_c (rv_eq rfl)) fun _ => ev_op (ev_var rfl) ev_c (rv_eq rfl)) fun H15 e15 => fin ?_ (eF.trans e15)
      cases hv : verdM w1 w2 rl with
      | kept =>
        have hgk := good_kept hv
        have htd := told_kept hll
        rw [hgk]
        unfold toldS at htd
        have h1 : toldW (sheetsOf w1 w2) nA w1.length = w1 := by
          have z := congrArg (fun s => wA s) htd
          rw [wA_sh, wA_sh] at z
          exact z
        have h2 : toldW (sheetsOf w1 w2) nB w1.length = w2 := by
          have z := congrArg (fun s => wB s) htd
          rw [wB_sh, wB_sh] at z
          exact z
        rw [h1, h2, if_neg (by omega), hv]
        rfl
      | broken => exact absurd (good_broken hv) hg
      | open_ =>
        rw [decide_eq_true (p := V.str (vdS .open_) = V.str (Str.ofString "open")) rfl, Bool.or_true, Bool.or_true]
end
end Kt

/-! Fz: every def, as its callers have it; the law's own. -/
namespace Kt
open PySem PySem.Spec PyProof.Rows L2 Evl
theorem at_mk {K : PySem.W.Frag} {h : Heap} {mg : Str → Option Value} {x : Str} {st : Stmt} {ps : List Str} {f : Addr} {od an : Option Addr} {sl : Array (Option Value)} {oc kV dc pm cd ct : Value} (X : K.In h) (G : h.Ns mainGlobals mg)
    (a : PySem.W.nsIn K mainGlobals x = some (some (.ref f))) (l : K.lookup f = some ⟨oc, od, .func (PySem.W.fnOf x x (defArgs st) (defBody st) (defScope st) .none kV dc pm an cd ct), sl⟩) (c : PySem.W.codeIn K cd x = true) (k : PySem.W.keepIn K (.ref f) = true)
    (hb : ∀ fd, Fun K x x st f fd → Binds K fd ps []) : At K mg x st ps :=
  ⟨f, _, fun_mk (st := st) l c k, PySem.W.mg_of X G a, hb _ (fun_mk (st := st) l c k)⟩
section
variable {K : PySem.W.Frag} {f : Addr} {fd : FuncData}
theorem b_changes (F : Fun K "changes" "changes" s_changes f fd) : Binds K fd ["wave"] [] := F.binds (ps := ["wave"]) fun _ _ _ _ _ _ us hl => match us, hl with | [_], _ => rfl
theorem b_rises (F : Fun K "rises" "rises" s_rises f fd) : Binds K fd ["wave"] [] := F.binds (ps := ["wave"]) fun _ _ _ _ _ _ us hl => match us, hl with | [_], _ => rfl
theorem b_spans (F : Fun K "spans" "spans" s_spans f fd) : Binds K fd ["wave"] [] := F.binds (ps := ["wave"]) fun _ _ _ _ _ _ us hl => match us, hl with | [_], _ => rfl
theorem b_all_known (F : Fun K "all_known" "all_known" s_all_known f fd) : Binds K fd ["wave"] [] := F.binds (ps := ["wave"]) fun _ _ _ _ _ _ us hl => match us, hl with | [_], _ => rfl
theorem b_with_wave (F : Fun K "with_wave" "with_wave" s_with_wave f fd) : Binds K fd ["sheet", "name", "wave"] [] := F.binds (ps := ["sheet", "name", "wave"]) fun _ _ _ _ _ _ us hl => match us, hl with | [_, _, _], _ => rfl
theorem b_wave_of (F : Fun K "wave_of" "wave_of" s_wave_of f fd) : Binds K fd ["sheet", "name"] [] := F.binds (ps := ["sheet", "name"]) fun _ _ _ _ _ _ us hl => match us, hl with | [_, _], _ => rfl
theorem b_all_sheets (F : Fun K "all_sheets" "all_sheets" s_all_sheets f fd) : Binds K fd ["sheet"] [] := F.binds (ps := ["sheet"]) fun _ _ _ _ _ _ us hl => match us, hl with | [_], _ => rfl
theorem b_unknown_of (F : Fun K "unknown_of" "unknown_of" s_unknown_of f fd) : Binds K fd ["sheet"] [] := F.binds (ps := ["sheet"]) fun _ _ _ _ _ _ us hl => match us, hl with | [_], _ => rfl
theorem b_never_both (F : Fun K "never_both" "never_both" s_never_both f fd) : Binds K fd ["one", "other"] [] := F.binds (ps := ["one", "other"]) fun _ _ _ _ _ _ us hl => match us, hl with | [_, _], _ => rfl
theorem b_not_after (F : Fun K "not_after" "not_after" s_not_after f fd) : Binds K fd ["one", "other", "low", "high"] [] := F.binds (ps := ["one", "other", "low", "high"]) fun _ _ _ _ _ _ us hl => match us, hl with | [_, _, _, _], _ => rfl
theorem b_too_short (F : Fun K "too_short" "too_short" s_too_short f fd) : Binds K fd ["wave", "level", "many"] [] := F.binds (ps := ["wave", "level", "many"]) fun _ _ _ _ _ _ us hl => match us, hl with | [_, _, _], _ => rfl
theorem b_not_still (F : Fun K "not_still" "not_still" s_not_still f fd) : Binds K fd ["one", "other"] [] := F.binds (ps := ["one", "other"]) fun _ _ _ _ _ _ us hl => match us, hl with | [_, _], _ => rfl
theorem b_out_of_turn (F : Fun K "out_of_turn" "out_of_turn" s_out_of_turn f fd) : Binds K fd ["one", "other"] [] := F.binds (ps := ["one", "other"]) fun _ _ _ _ _ _ us hl => match us, hl with | [_, _], _ => rfl
theorem b_failures (F : Fun K "failures" "failures" s_failures f fd) : Binds K fd ["sheet", "rule"] [] := F.binds (ps := ["sheet", "rule"]) fun _ _ _ _ _ _ us hl => match us, hl with | [_, _], _ => rfl
theorem b_look_unknown (F : Fun K "look_unknown" "look_unknown" s_look_unknown f fd) : Binds K fd ["sheet"] [] := F.binds (ps := ["sheet"]) fun _ _ _ _ _ _ us hl => match us, hl with | [_], _ => rfl
theorem b_verdict (F : Fun K "verdict" "verdict" s_verdict f fd) : Binds K fd ["sheet", "rule"] [] := F.binds (ps := ["sheet", "rule"]) fun _ _ _ _ _ _ us hl => match us, hl with | [_, _], _ => rfl
theorem b_sure_failures (F : Fun K "sure_failures" "sure_failures" s_sure_failures f fd) : Binds K fd ["sheet", "rule"] [] := F.binds (ps := ["sheet", "rule"]) fun _ _ _ _ _ _ us hl => match us, hl with | [_, _], _ => rfl
theorem b_told_by (F : Fun K "told_by" "told_by" s_told_by f fd) : Binds K fd ["sheet", "rule"] [] := F.binds (ps := ["sheet", "rule"]) fun _ _ _ _ _ _ us hl => match us, hl with | [_, _], _ => rfl
theorem b_law_cell (F : Fun K "_law_cell" "_law_cell" s_law_cell f fd) : Binds K fd ["_law_script", "_law_k"] [] := F.binds (ps := ["_law_script", "_law_k"]) fun _ _ _ _ _ _ us hl => match us, hl with | [_, _], _ => rfl
theorem b_law_pick (F : Fun K "_law_pick" "_law_pick" s_law_pick f fd) : Binds K fd ["_law_script", "_law_k", "_law_many"] [] := F.binds (ps := ["_law_script", "_law_k", "_law_many"]) fun _ _ _ _ _ _ us hl => match us, hl with | [_, _, _], _ => rfl
theorem b_law_wave (F : Fun K "_law_wave" "_law_wave" s_law_wave f fd) : Binds K fd ["_law_script", "_law_at", "_law_many", "_law_signs"] [] := F.binds (ps := ["_law_script", "_law_at", "_law_many", "_law_signs"]) fun _ _ _ _ _ _ us hl => match us, hl with | [_, _, _, _], _ => rfl
theorem b_law_seldom (F : Fun K "_law_seldom" "_law_seldom" s_law_seldom f fd) : Binds K fd ["_law_script", "_law_at", "_law_many", "_law_most"] [] := F.binds (ps := ["_law_script", "_law_at", "_law_many", "_law_most"]) fun _ _ _ _ _ _ us hl => match us, hl with | [_, _, _, _], _ => rfl
theorem b_law_can_be (F : Fun K "_law_can_be" "_law_can_be" s_law_can_be f fd) : Binds K fd ["_law_wave_here"] [] := F.binds (ps := ["_law_wave_here"]) fun _ _ _ _ _ _ us hl => match us, hl with | [_], _ => rfl
theorem b_law_sheet (F : Fun K "_law_sheet" "_law_sheet" s_law_sheet f fd) : Binds K fd ["_law_script", "_law_at", "_law_names", "_law_many", "_law_most"] [] := F.binds (ps := ["_law_script", "_law_at", "_law_names", "_law_many", "_law_most"]) fun _ _ _ _ _ _ us hl => match us, hl with | [_, _, _, _, _], _ => rfl
theorem b_law_short (F : Fun K "_law_short" "_law_short" s_law_short f fd) : Binds K fd ["_law_wave_here", "_law_level", "_law_many"] [] := F.binds (ps := ["_law_wave_here", "_law_level", "_law_many"]) fun _ _ _ _ _ _ us hl => match us, hl with | [_, _, _], _ => rfl
theorem b_law_failures (F : Fun K "_law_failures" "_law_failures" s_law_failures f fd) : Binds K fd ["_law_sheet_here", "_law_rule_here"] [] := F.binds (ps := ["_law_sheet_here", "_law_rule_here"]) fun _ _ _ _ _ _ us hl => match us, hl with | [_, _], _ => rfl
theorem b_law_rule (F : Fun K "_law_rule" "_law_rule" s_law_rule f fd) : Binds K fd ["_law_script", "_law_at", "_law_names"] [] := F.binds (ps := ["_law_script", "_law_at", "_law_names"]) fun _ _ _ _ _ _ us hl => match us, hl with | [_, _, _], _ => rfl
theorem b_law_word (F : Fun K "_law_word" "_law_word" s_law_word f fd) : Binds K fd ["_law_kept"] [] := F.binds (ps := ["_law_kept"]) fun _ _ _ _ _ _ us hl => match us, hl with | [_], _ => rfl
theorem b_law_tried (F : Fun K "_law_tried" "_law_tried" s_law_tried f fd) : Binds K fd ["_law_what", "_law_sheet_here", "_law_rule_here"] [] := F.binds (ps := ["_law_what", "_law_sheet_here", "_law_rule_here"]) fun _ _ _ _ _ _ us hl => match us, hl with | [_, _, _], _ => rfl
end
/-- the defs of the top, as it has left them -/
structure Tops (K : PySem.W.Frag) (mg : Str → Option Value) : Prop where
  a_changes : At K mg "changes" s_changes ["wave"]
  a_rises : At K mg "rises" s_rises ["wave"]
  a_spans : At K mg "spans" s_spans ["wave"]
  a_all_known : At K mg "all_known" s_all_known ["wave"]
  a_with_wave : At K mg "with_wave" s_with_wave ["sheet", "name", "wave"]
  a_wave_of : At K mg "wave_of" s_wave_of ["sheet", "name"]
  a_all_sheets : At K mg "all_sheets" s_all_sheets ["sheet"]
  a_unknown_of : At K mg "unknown_of" s_unknown_of ["sheet"]
  a_never_both : At K mg "never_both" s_never_both ["one", "other"]
  a_not_after : At K mg "not_after" s_not_after ["one", "other", "low", "high"]
  a_too_short : At K mg "too_short" s_too_short ["wave", "level", "many"]
  a_not_still : At K mg "not_still" s_not_still ["one", "other"]
  a_out_of_turn : At K mg "out_of_turn" s_out_of_turn ["one", "other"]
  a_failures : At K mg "failures" s_failures ["sheet", "rule"]
  a_look_unknown : At K mg "look_unknown" s_look_unknown ["sheet"]
  a_verdict : At K mg "verdict" s_verdict ["sheet", "rule"]
  a_sure_failures : At K mg "sure_failures" s_sure_failures ["sheet", "rule"]
  a_told_by : At K mg "told_by" s_told_by ["sheet", "rule"]
  a_law_cell : At K mg "_law_cell" s_law_cell ["_law_script", "_law_k"]
  a_law_pick : At K mg "_law_pick" s_law_pick ["_law_script", "_law_k", "_law_many"]
  a_law_wave : At K mg "_law_wave" s_law_wave ["_law_script", "_law_at", "_law_many", "_law_signs"]
  a_law_seldom : At K mg "_law_seldom" s_law_seldom ["_law_script", "_law_at", "_law_many", "_law_most"]
  a_law_can_be : At K mg "_law_can_be" s_law_can_be ["_law_wave_here"]
  a_law_sheet : At K mg "_law_sheet" s_law_sheet ["_law_script", "_law_at", "_law_names", "_law_many", "_law_most"]
  a_law_short : At K mg "_law_short" s_law_short ["_law_wave_here", "_law_level", "_law_many"]
  a_law_failures : At K mg "_law_failures" s_law_failures ["_law_sheet_here", "_law_rule_here"]
  a_law_rule : At K mg "_law_rule" s_law_rule ["_law_script", "_law_at", "_law_names"]
  a_law_word : At K mg "_law_word" s_law_word ["_law_kept"]
  a_law_tried : At K mg "_law_tried" s_law_tried ["_law_what", "_law_sheet_here", "_law_rule_here"]
theorem all_law {P : Program} {w : World} {K : PySem.W.Frag} {mg : Str → Option Value} {C : Addr} (A : Tops K mg) (T : Tx mg) (tl : Tl K mg C) (ek : Ek K mg C) (base : Heap) {f : Addr} {fd : FuncData} (F : Fun K "law" "law" s_law f fd) : FnOk P w K mg base CX0 7 f fd ["_law_script"] (spLaw K) := by
  have H_changes : Has P w K mg base CX0 1 "changes" ["wave"] spChanges := Has.mk' A.a_changes fun f fd F => ok_changes T  F
  have H_rises : Has P w K mg base CX0 2 "rises" ["wave"] spRises := Has.mk' A.a_rises fun f fd F => ok_rises T H_changes F
  have H_spans : Has P w K mg base CX0 2 "spans" ["wave"] spSpans := Has.mk' A.a_spans fun f fd F => ok_spans T H_changes F
  have H_all_known : Has P w K mg base CX0 1 "all_known" ["wave"] spAll := Has.mk' A.a_all_known fun f fd F => ok_all_known T  F
  have H_with_wave : Has P w K mg base CX0 1 "with_wave" ["sheet", "name", "wave"] spWith := Has.mk' A.a_with_wave fun f fd F => ok_with_wave T  F
  have H_wave_of : Has P w K mg base CX0 1 "wave_of" ["sheet", "name"] spWaveOf := Has.mk' A.a_wave_of fun f fd F => ok_wave_of T  F
  have H_all_sheets : Has P w K mg base CX0 2 "all_sheets" ["sheet"] spSheets := Has.mk' A.a_all_sheets fun f fd F => ok_all_sheets T H_all_known H_with_wave F
  have H_unknown_of : Has P w K mg base CX0 1 "unknown_of" ["sheet"] spUnk := Has.mk' A.a_unknown_of fun f fd F => ok_unknown_of T  F
  have H_never_both : Has P w K mg base CX0 1 "never_both" ["one", "other"] spNever := Has.mk' A.a_never_both fun f fd F => ok_never_both T  F
  have H_not_after : Has P w K mg base CX0 3 "not_after" ["one", "other", "low", "high"] spAfter := Has.mk' A.a_not_after fun f fd F => ok_not_after T H_rises F
  have H_too_short : Has P w K mg base CX0 3 "too_short" ["wave", "level", "many"] spShort := Has.mk' A.a_too_short fun f fd F => ok_too_short T H_spans F
  have H_not_still : Has P w K mg base CX0 2 "not_still" ["one", "other"] spStill := Has.mk' A.a_not_still fun f fd F => ok_not_still T H_changes F
  have H_out_of_turn : Has P w K mg base CX0 3 "out_of_turn" ["one", "other"] spTurns := Has.mk' A.a_out_of_turn fun f fd F => ok_out_of_turn T H_rises F
  have H_failures : Has P w K mg base CX0 4 "failures" ["sheet", "rule"] (spFail K) := Has.mk' A.a_failures fun f fd F => ok_failures T H_wave_of H_never_both H_not_after H_too_short H_not_still H_out_of_turn F
  have H_look_unknown : Has P w K mg base (L2.CX P w) 2 "look_unknown" ["sheet"] (spLook C) := Has.mk' A.a_look_unknown fun f fd F => ok_look_unknown T tl H_unknown_of F
  have H_verdict : Has P w K mg base (L2.CX P w) 5 "verdict" ["sheet", "rule"] (spVerd K C) := Has.mk' A.a_verdict fun f fd F => ok_verdict T H_look_unknown H_all_sheets H_failures F
  have H_sure_failures : Has P w K mg base (L2.CX P w) 5 "sure_failures" ["sheet", "rule"] (spSure K C) := Has.mk' A.a_sure_failures fun f fd F => ok_sure_failures T H_look_unknown H_all_sheets H_failures F
  have H_told_by : Has P w K mg base (L2.CX P w) 5 "told_by" ["sheet", "rule"] (spTold K C) := Has.mk' A.a_told_by fun f fd F => ok_told_by T H_look_unknown H_all_sheets H_failures F
  have H_law_cell : Has P w K mg base CX0 1 "_law_cell" ["_law_script", "_law_k"] (spCell2 K) := Has.mk' A.a_law_cell fun f fd F => ok_law_cell T  F
  have H_law_pick : Has P w K mg base CX0 2 "_law_pick" ["_law_script", "_law_k", "_law_many"] (spPick K) := Has.mk' A.a_law_pick fun f fd F => ok_law_pick T H_law_cell F
  have H_law_wave : Has P w K mg base CX0 3 "_law_wave" ["_law_script", "_law_at", "_law_many", "_law_signs"] (spWave K) := Has.mk' A.a_law_wave fun f fd F => ok_law_wave T H_law_pick F
  have H_law_seldom : Has P w K mg base CX0 4 "_law_seldom" ["_law_script", "_law_at", "_law_many", "_law_most"] (spSeldom K) := Has.mk' A.a_law_seldom fun f fd F => ok_law_seldom T H_law_pick H_law_wave F
  have H_law_can_be : Has P w K mg base CX0 1 "_law_can_be" ["_law_wave_here"] spAll := Has.mk' A.a_law_can_be fun f fd F => ok_law_can_be T  F
  have H_law_sheet : Has P w K mg base CX0 5 "_law_sheet" ["_law_script", "_law_at", "_law_names", "_law_many", "_law_most"] (spLSheet K) := Has.mk' A.a_law_sheet fun f fd F => ok_law_sheet T H_law_seldom F
  have H_law_short : Has P w K mg base CX0 1 "_law_short" ["_law_wave_here", "_law_level", "_law_many"] spLShort := Has.mk' A.a_law_short fun f fd F => ok_law_short T  F
  have H_law_failures : Has P w K mg base CX0 2 "_law_failures" ["_law_sheet_here", "_law_rule_here"] (spLFail K) := Has.mk' A.a_law_failures fun f fd F => ok_law_failures T H_law_short F
  have H_law_rule : Has P w K mg base CX0 3 "_law_rule" ["_law_script", "_law_at", "_law_names"] (spLRule K) := Has.mk' A.a_law_rule fun f fd F => ok_law_rule T H_law_pick F
  have H_law_word : Has P w K mg base CX0 1 "_law_word" ["_law_kept"] (spWord C) := Has.mk' A.a_law_word fun f fd F => ok_law_word T ek F
  have H_law_tried : Has P w K mg base CX0 6 "_law_tried" ["_law_what", "_law_sheet_here", "_law_rule_here"] (spTried K) := Has.mk' A.a_law_tried fun f fd F => ok_law_tried T ek H_verdict H_sure_failures H_told_by H_law_word F
  exact ok_law T H_law_pick H_law_sheet H_law_rule H_law_tried H_law_can_be H_law_failures F
theorem fin_all {P : Program} {w : World} {K : PySem.W.Frag} {h : Heap} {mg : Str → Option Value} {fa C : Addr} (X : K.In h) (G : h.Ns mainGlobals mg) (hfa : mg "law" = some (.ref fa))
    {f0 : Addr} {od0 an0 : Option Addr} {sl0 : Array (Option Value)} {oc0 kV0 dc0 pm0 cd0 ct0 : Value} (a0 : PySem.W.nsIn K mainGlobals "changes" = some (some (.ref f0)))
    (l0 : K.lookup f0 = some ⟨oc0, od0, .func (PySem.W.fnOf "changes" "changes" (defArgs s_changes) (defBody s_changes) (defScope s_changes) .none kV0 dc0 pm0 an0 cd0 ct0), sl0⟩) (c0 : PySem.W.codeIn K cd0 "changes" = true) (k0 : PySem.W.keepIn K (.ref f0) = true)
    {f1 : Addr} {od1 an1 : Option Addr} {sl1 : Array (Option Value)} {oc1 kV1 dc1 pm1 cd1 ct1 : Value} (a1 : PySem.W.nsIn K mainGlobals "rises" = some (some (.ref f1)))
    (l1 : K.lookup f1 = some ⟨oc1, od1, .func (PySem.W.fnOf "rises" "rises" (defArgs s_rises) (defBody s_rises) (defScope s_rises) .none kV1 dc1 pm1 an1 cd1 ct1), sl1⟩) (c1 : PySem.W.codeIn K cd1 "rises" = true) (k1 : PySem.W.keepIn K (.ref f1) = true)
    {f2 : Addr} {od2 an2 : Option Addr} {sl2 : Array (Option Value)} {oc2 kV2 dc2 pm2 cd2 ct2 : Value} (a2 : PySem.W.nsIn K mainGlobals "spans" = some (some (.ref f2)))
    (l2 : K.lookup f2 = some ⟨oc2, od2, .func (PySem.W.fnOf "spans" "spans" (defArgs s_spans) (defBody s_spans) (defScope s_spans) .none kV2 dc2 pm2 an2 cd2 ct2), sl2⟩) (c2 : PySem.W.codeIn K cd2 "spans" = true) (k2 : PySem.W.keepIn K (.ref f2) = true)
    {f3 : Addr} {od3 an3 : Option Addr} {sl3 : Array (Option Value)} {oc3 kV3 dc3 pm3 cd3 ct3 : Value} (a3 : PySem.W.nsIn K mainGlobals "all_known" = some (some (.ref f3)))
    (l3 : K.lookup f3 = some ⟨oc3, od3, .func (PySem.W.fnOf "all_known" "all_known" (defArgs s_all_known) (defBody s_all_known) (defScope s_all_known) .none kV3 dc3 pm3 an3 cd3 ct3), sl3⟩) (c3 : PySem.W.codeIn K cd3 "all_known" = true) (k3 : PySem.W.keepIn K (.ref f3) = true)
    {f4 : Addr} {od4 an4 : Option Addr} {sl4 : Array (Option Value)} {oc4 kV4 dc4 pm4 cd4 ct4 : Value} (a4 : PySem.W.nsIn K mainGlobals "with_wave" = some (some (.ref f4)))
    (l4 : K.lookup f4 = some ⟨oc4, od4, .func (PySem.W.fnOf "with_wave" "with_wave" (defArgs s_with_wave) (defBody s_with_wave) (defScope s_with_wave) .none kV4 dc4 pm4 an4 cd4 ct4), sl4⟩) (c4 : PySem.W.codeIn K cd4 "with_wave" = true) (k4 : PySem.W.keepIn K (.ref f4) = true)
    {f5 : Addr} {od5 an5 : Option Addr} {sl5 : Array (Option Value)} {oc5 kV5 dc5 pm5 cd5 ct5 : Value} (a5 : PySem.W.nsIn K mainGlobals "wave_of" = some (some (.ref f5)))
    (l5 : K.lookup f5 = some ⟨oc5, od5, .func (PySem.W.fnOf "wave_of" "wave_of" (defArgs s_wave_of) (defBody s_wave_of) (defScope s_wave_of) .none kV5 dc5 pm5 an5 cd5 ct5), sl5⟩) (c5 : PySem.W.codeIn K cd5 "wave_of" = true) (k5 : PySem.W.keepIn K (.ref f5) = true)
    {f6 : Addr} {od6 an6 : Option Addr} {sl6 : Array (Option Value)} {oc6 kV6 dc6 pm6 cd6 ct6 : Value} (a6 : PySem.W.nsIn K mainGlobals "all_sheets" = some (some (.ref f6)))
    (l6 : K.lookup f6 = some ⟨oc6, od6, .func (PySem.W.fnOf "all_sheets" "all_sheets" (defArgs s_all_sheets) (defBody s_all_sheets) (defScope s_all_sheets) .none kV6 dc6 pm6 an6 cd6 ct6), sl6⟩) (c6 : PySem.W.codeIn K cd6 "all_sheets" = true) (k6 : PySem.W.keepIn K (.ref f6) = true)
    {f7 : Addr} {od7 an7 : Option Addr} {sl7 : Array (Option Value)} {oc7 kV7 dc7 pm7 cd7 ct7 : Value} (a7 : PySem.W.nsIn K mainGlobals "unknown_of" = some (some (.ref f7)))
    (l7 : K.lookup f7 = some ⟨oc7, od7, .func (PySem.W.fnOf "unknown_of" "unknown_of" (defArgs s_unknown_of) (defBody s_unknown_of) (defScope s_unknown_of) .none kV7 dc7 pm7 an7 cd7 ct7), sl7⟩) (c7 : PySem.W.codeIn K cd7 "unknown_of" = true) (k7 : PySem.W.keepIn K (.ref f7) = true)
    {f8 : Addr} {od8 an8 : Option Addr} {sl8 : Array (Option Value)} {oc8 kV8 dc8 pm8 cd8 ct8 : Value} (a8 : PySem.W.nsIn K mainGlobals "never_both" = some (some (.ref f8)))
    (l8 : K.lookup f8 = some ⟨oc8, od8, .func (PySem.W.fnOf "never_both" "never_both" (defArgs s_never_both) (defBody s_never_both) (defScope s_never_both) .none kV8 dc8 pm8 an8 cd8 ct8), sl8⟩) (c8 : PySem.W.codeIn K cd8 "never_both" = true) (k8 : PySem.W.keepIn K (.ref f8) = true)
    {f9 : Addr} {od9 an9 : Option Addr} {sl9 : Array (Option Value)} {oc9 kV9 dc9 pm9 cd9 ct9 : Value} (a9 : PySem.W.nsIn K mainGlobals "not_after" = some (some (.ref f9)))
    (l9 : K.lookup f9 = some ⟨oc9, od9, .func (PySem.W.fnOf "not_after" "not_after" (defArgs s_not_after) (defBody s_not_after) (defScope s_not_after) .none kV9 dc9 pm9 an9 cd9 ct9), sl9⟩) (c9 : PySem.W.codeIn K cd9 "not_after" = true) (k9 : PySem.W.keepIn K (.ref f9) = true)
    {f10 : Addr} {od10 an10 : Option Addr} {sl10 : Array (Option Value)} {oc10 kV10 dc10 pm10 cd10 ct10 : Value} (a10 : PySem.W.nsIn K mainGlobals "too_short" = some (some (.ref f10)))
    (l10 : K.lookup f10 = some ⟨oc10, od10, .func (PySem.W.fnOf "too_short" "too_short" (defArgs s_too_short) (defBody s_too_short) (defScope s_too_short) .none kV10 dc10 pm10 an10 cd10 ct10), sl10⟩) (c10 : PySem.W.codeIn K cd10 "too_short" = true) (k10 : PySem.W.keepIn K (.ref f10) = true)
    {f11 : Addr} {od11 an11 : Option Addr} {sl11 : Array (Option Value)} {oc11 kV11 dc11 pm11 cd11 ct11 : Value} (a11 : PySem.W.nsIn K mainGlobals "not_still" = some (some (.ref f11)))
    (l11 : K.lookup f11 = some ⟨oc11, od11, .func (PySem.W.fnOf "not_still" "not_still" (defArgs s_not_still) (defBody s_not_still) (defScope s_not_still) .none kV11 dc11 pm11 an11 cd11 ct11), sl11⟩) (c11 : PySem.W.codeIn K cd11 "not_still" = true) (k11 : PySem.W.keepIn K (.ref f11) = true)
    {f12 : Addr} {od12 an12 : Option Addr} {sl12 : Array (Option Value)} {oc12 kV12 dc12 pm12 cd12 ct12 : Value} (a12 : PySem.W.nsIn K mainGlobals "out_of_turn" = some (some (.ref f12)))
    (l12 : K.lookup f12 = some ⟨oc12, od12, .func (PySem.W.fnOf "out_of_turn" "out_of_turn" (defArgs s_out_of_turn) (defBody s_out_of_turn) (defScope s_out_of_turn) .none kV12 dc12 pm12 an12 cd12 ct12), sl12⟩) (c12 : PySem.W.codeIn K cd12 "out_of_turn" = true) (k12 : PySem.W.keepIn K (.ref f12) = true)
    {f13 : Addr} {od13 an13 : Option Addr} {sl13 : Array (Option Value)} {oc13 kV13 dc13 pm13 cd13 ct13 : Value} (a13 : PySem.W.nsIn K mainGlobals "failures" = some (some (.ref f13)))
    (l13 : K.lookup f13 = some ⟨oc13, od13, .func (PySem.W.fnOf "failures" "failures" (defArgs s_failures) (defBody s_failures) (defScope s_failures) .none kV13 dc13 pm13 an13 cd13 ct13), sl13⟩) (c13 : PySem.W.codeIn K cd13 "failures" = true) (k13 : PySem.W.keepIn K (.ref f13) = true)
    {f14 : Addr} {od14 an14 : Option Addr} {sl14 : Array (Option Value)} {oc14 kV14 dc14 pm14 cd14 ct14 : Value} (a14 : PySem.W.nsIn K mainGlobals "look_unknown" = some (some (.ref f14)))
    (l14 : K.lookup f14 = some ⟨oc14, od14, .func (PySem.W.fnOf "look_unknown" "look_unknown" (defArgs s_look_unknown) (defBody s_look_unknown) (defScope s_look_unknown) .none kV14 dc14 pm14 an14 cd14 ct14), sl14⟩) (c14 : PySem.W.codeIn K cd14 "look_unknown" = true) (k14 : PySem.W.keepIn K (.ref f14) = true)
    {f15 : Addr} {od15 an15 : Option Addr} {sl15 : Array (Option Value)} {oc15 kV15 dc15 pm15 cd15 ct15 : Value} (a15 : PySem.W.nsIn K mainGlobals "verdict" = some (some (.ref f15)))
    (l15 : K.lookup f15 = some ⟨oc15, od15, .func (PySem.W.fnOf "verdict" "verdict" (defArgs s_verdict) (defBody s_verdict) (defScope s_verdict) .none kV15 dc15 pm15 an15 cd15 ct15), sl15⟩) (c15 : PySem.W.codeIn K cd15 "verdict" = true) (k15 : PySem.W.keepIn K (.ref f15) = true)
    {f16 : Addr} {od16 an16 : Option Addr} {sl16 : Array (Option Value)} {oc16 kV16 dc16 pm16 cd16 ct16 : Value} (a16 : PySem.W.nsIn K mainGlobals "sure_failures" = some (some (.ref f16)))
    (l16 : K.lookup f16 = some ⟨oc16, od16, .func (PySem.W.fnOf "sure_failures" "sure_failures" (defArgs s_sure_failures) (defBody s_sure_failures) (defScope s_sure_failures) .none kV16 dc16 pm16 an16 cd16 ct16), sl16⟩) (c16 : PySem.W.codeIn K cd16 "sure_failures" = true) (k16 : PySem.W.keepIn K (.ref f16) = true)
    {f17 : Addr} {od17 an17 : Option Addr} {sl17 : Array (Option Value)} {oc17 kV17 dc17 pm17 cd17 ct17 : Value} (a17 : PySem.W.nsIn K mainGlobals "told_by" = some (some (.ref f17)))
    (l17 : K.lookup f17 = some ⟨oc17, od17, .func (PySem.W.fnOf "told_by" "told_by" (defArgs s_told_by) (defBody s_told_by) (defScope s_told_by) .none kV17 dc17 pm17 an17 cd17 ct17), sl17⟩) (c17 : PySem.W.codeIn K cd17 "told_by" = true) (k17 : PySem.W.keepIn K (.ref f17) = true)
    {f18 : Addr} {od18 an18 : Option Addr} {sl18 : Array (Option Value)} {oc18 kV18 dc18 pm18 cd18 ct18 : Value} (a18 : PySem.W.nsIn K mainGlobals "_law_cell" = some (some (.ref f18)))
    (l18 : K.lookup f18 = some ⟨oc18, od18, .func (PySem.W.fnOf "_law_cell" "_law_cell" (defArgs s_law_cell) (defBody s_law_cell) (defScope s_law_cell) .none kV18 dc18 pm18 an18 cd18 ct18), sl18⟩) (c18 : PySem.W.codeIn K cd18 "_law_cell" = true) (k18 : PySem.W.keepIn K (.ref f18) = true)
    {f19 : Addr} {od19 an19 : Option Addr} {sl19 : Array (Option Value)} {oc19 kV19 dc19 pm19 cd19 ct19 : Value} (a19 : PySem.W.nsIn K mainGlobals "_law_pick" = some (some (.ref f19)))
    (l19 : K.lookup f19 = some ⟨oc19, od19, .func (PySem.W.fnOf "_law_pick" "_law_pick" (defArgs s_law_pick) (defBody s_law_pick) (defScope s_law_pick) .none kV19 dc19 pm19 an19 cd19 ct19), sl19⟩) (c19 : PySem.W.codeIn K cd19 "_law_pick" = true) (k19 : PySem.W.keepIn K (.ref f19) = true)
    {f20 : Addr} {od20 an20 : Option Addr} {sl20 : Array (Option Value)} {oc20 kV20 dc20 pm20 cd20 ct20 : Value} (a20 : PySem.W.nsIn K mainGlobals "_law_wave" = some (some (.ref f20)))
    (l20 : K.lookup f20 = some ⟨oc20, od20, .func (PySem.W.fnOf "_law_wave" "_law_wave" (defArgs s_law_wave) (defBody s_law_wave) (defScope s_law_wave) .none kV20 dc20 pm20 an20 cd20 ct20), sl20⟩) (c20 : PySem.W.codeIn K cd20 "_law_wave" = true) (k20 : PySem.W.keepIn K (.ref f20) = true)
    {f21 : Addr} {od21 an21 : Option Addr} {sl21 : Array (Option Value)} {oc21 kV21 dc21 pm21 cd21 ct21 : Value} (a21 : PySem.W.nsIn K mainGlobals "_law_seldom" = some (some (.ref f21)))
    (l21 : K.lookup f21 = some ⟨oc21, od21, .func (PySem.W.fnOf "_law_seldom" "_law_seldom" (defArgs s_law_seldom) (defBody s_law_seldom) (defScope s_law_seldom) .none kV21 dc21 pm21 an21 cd21 ct21), sl21⟩) (c21 : PySem.W.codeIn K cd21 "_law_seldom" = true) (k21 : PySem.W.keepIn K (.ref f21) = true)
    {f22 : Addr} {od22 an22 : Option Addr} {sl22 : Array (Option Value)} {oc22 kV22 dc22 pm22 cd22 ct22 : Value} (a22 : PySem.W.nsIn K mainGlobals "_law_can_be" = some (some (.ref f22)))
    (l22 : K.lookup f22 = some ⟨oc22, od22, .func (PySem.W.fnOf "_law_can_be" "_law_can_be" (defArgs s_law_can_be) (defBody s_law_can_be) (defScope s_law_can_be) .none kV22 dc22 pm22 an22 cd22 ct22), sl22⟩) (c22 : PySem.W.codeIn K cd22 "_law_can_be" = true) (k22 : PySem.W.keepIn K (.ref f22) = true)
    {f23 : Addr} {od23 an23 : Option Addr} {sl23 : Array (Option Value)} {oc23 kV23 dc23 pm23 cd23 ct23 : Value} (a23 : PySem.W.nsIn K mainGlobals "_law_sheet" = some (some (.ref f23)))
    (l23 : K.lookup f23 = some ⟨oc23, od23, .func (PySem.W.fnOf "_law_sheet" "_law_sheet" (defArgs s_law_sheet) (defBody s_law_sheet) (defScope s_law_sheet) .none kV23 dc23 pm23 an23 cd23 ct23), sl23⟩) (c23 : PySem.W.codeIn K cd23 "_law_sheet" = true) (k23 : PySem.W.keepIn K (.ref f23) = true)
    {f24 : Addr} {od24 an24 : Option Addr} {sl24 : Array (Option Value)} {oc24 kV24 dc24 pm24 cd24 ct24 : Value} (a24 : PySem.W.nsIn K mainGlobals "_law_short" = some (some (.ref f24)))
    (l24 : K.lookup f24 = some ⟨oc24, od24, .func (PySem.W.fnOf "_law_short" "_law_short" (defArgs s_law_short) (defBody s_law_short) (defScope s_law_short) .none kV24 dc24 pm24 an24 cd24 ct24), sl24⟩) (c24 : PySem.W.codeIn K cd24 "_law_short" = true) (k24 : PySem.W.keepIn K (.ref f24) = true)
    {f25 : Addr} {od25 an25 : Option Addr} {sl25 : Array (Option Value)} {oc25 kV25 dc25 pm25 cd25 ct25 : Value} (a25 : PySem.W.nsIn K mainGlobals "_law_failures" = some (some (.ref f25)))
    (l25 : K.lookup f25 = some ⟨oc25, od25, .func (PySem.W.fnOf "_law_failures" "_law_failures" (defArgs s_law_failures) (defBody s_law_failures) (defScope s_law_failures) .none kV25 dc25 pm25 an25 cd25 ct25), sl25⟩) (c25 : PySem.W.codeIn K cd25 "_law_failures" = true) (k25 : PySem.W.keepIn K (.ref f25) = true)
    {f26 : Addr} {od26 an26 : Option Addr} {sl26 : Array (Option Value)} {oc26 kV26 dc26 pm26 cd26 ct26 : Value} (a26 : PySem.W.nsIn K mainGlobals "_law_rule" = some (some (.ref f26)))
    (l26 : K.lookup f26 = some ⟨oc26, od26, .func (PySem.W.fnOf "_law_rule" "_law_rule" (defArgs s_law_rule) (defBody s_law_rule) (defScope s_law_rule) .none kV26 dc26 pm26 an26 cd26 ct26), sl26⟩) (c26 : PySem.W.codeIn K cd26 "_law_rule" = true) (k26 : PySem.W.keepIn K (.ref f26) = true)
    {f27 : Addr} {od27 an27 : Option Addr} {sl27 : Array (Option Value)} {oc27 kV27 dc27 pm27 cd27 ct27 : Value} (a27 : PySem.W.nsIn K mainGlobals "_law_word" = some (some (.ref f27)))
    (l27 : K.lookup f27 = some ⟨oc27, od27, .func (PySem.W.fnOf "_law_word" "_law_word" (defArgs s_law_word) (defBody s_law_word) (defScope s_law_word) .none kV27 dc27 pm27 an27 cd27 ct27), sl27⟩) (c27 : PySem.W.codeIn K cd27 "_law_word" = true) (k27 : PySem.W.keepIn K (.ref f27) = true)
    {f28 : Addr} {od28 an28 : Option Addr} {sl28 : Array (Option Value)} {oc28 kV28 dc28 pm28 cd28 ct28 : Value} (a28 : PySem.W.nsIn K mainGlobals "_law_tried" = some (some (.ref f28)))
    (l28 : K.lookup f28 = some ⟨oc28, od28, .func (PySem.W.fnOf "_law_tried" "_law_tried" (defArgs s_law_tried) (defBody s_law_tried) (defScope s_law_tried) .none kV28 dc28 pm28 an28 cd28 ct28), sl28⟩) (c28 : PySem.W.codeIn K cd28 "_law_tried" = true) (k28 : PySem.W.keepIn K (.ref f28) = true)
    {f29 : Addr} {od29 an29 : Option Addr} {sl29 : Array (Option Value)} {oc29 kV29 dc29 pm29 cd29 ct29 : Value} (a29 : PySem.W.nsIn K mainGlobals "law" = some (some (.ref f29)))
    (l29 : K.lookup f29 = some ⟨oc29, od29, .func (PySem.W.fnOf "law" "law" (defArgs s_law) (defBody s_law) (defScope s_law) .none kV29 dc29 pm29 an29 cd29 ct29), sl29⟩) (c29 : PySem.W.codeIn K cd29 "law" = true) (k29 : PySem.W.keepIn K (.ref f29) = true)
    (z0 : PySem.W.nsIn K mainGlobals "len" = some none)
    (z1 : PySem.W.nsIn K mainGlobals "range" = some none)
    (z2 : PySem.W.nsIn K mainGlobals "zip" = some none)
    (z3 : PySem.W.nsIn K mainGlobals "enumerate" = some none)
    (z4 : PySem.W.nsIn K mainGlobals "sum" = some none)
    (z5 : PySem.W.nsIn K mainGlobals "all" = some none)
    (z6 : PySem.W.nsIn K mainGlobals "any" = some none)
    (z7 : PySem.W.nsIn K mainGlobals "sorted" = some none)
    (z8 : PySem.W.nsIn K mainGlobals "set" = some none)
    (z9 : PySem.W.nsIn K mainGlobals "list" = some none)
    (z10 : PySem.W.nsIn K mainGlobals "dict" = some none)
    (z11 : PySem.W.nsIn K mainGlobals "int" = some none)
    (z12 : PySem.W.nsIn K mainGlobals "isinstance" = some none)
    {tM : Tok} (zM : PySem.W.nsIn K mainGlobals "MOST_UNKNOWN" = some (some (.int 6 tM)))
    (gT : PySem.W.nsIn K mainGlobals "TooLong" = some (some (.ref C))) (xT : PySem.W.excIn K C [.type "ValueError", .type "Exception", .type "BaseException", .type "object"] "ValueError.__new__" = true) (kT : PySem.W.keepIn K (.ref C) = true) (sT : PySem.W.subIn K (.ref C) (.type "BaseException") = some true) (tT : PySem.W.typeIn K (.ref C) = some (.type "type"))
    (y1 : PySem.W.findIn K (.ref C) "__getattribute__" = some (some (.builtin "BaseException.__getattribute__"))) (y2 : PySem.W.findIn K (.ref C) "__getattr__" = some none) (y4 : PySem.W.hasDictIn K C = true) (y5 : PySem.W.findIn K (.ref C) "__class__" = some (some (.builtin "object.__class__")))
    (y6 : PySem.W.specialIn K (.builtin "object.__class__") "__get__" = some (some (.builtin "getset_descriptor.__get__"))) (y7 : PySem.W.takesIn K (.builtin "object.__class__") = some true) (y8 : PySem.W.mroIn K C (.type "object") = some true)
    {g0 : Addr} (q0 : PySem.W.nsIn K mainGlobals "Clash" = some (some (.ref g0))) (r0 : PySem.W.kitOne K (.ref C) (.ref g0) = some false)
    {g1 : Addr} (q1 : PySem.W.nsIn K mainGlobals "NoName" = some (some (.ref g1))) (r1 : PySem.W.kitOne K (.ref C) (.ref g1) = some false)
    {g2 : Addr} (q2 : PySem.W.nsIn K mainGlobals "NoText" = some (some (.ref g2))) (r2 : PySem.W.kitOne K (.ref C) (.ref g2) = some false)
    {g3 : Addr} (q3 : PySem.W.nsIn K mainGlobals "NoTick" = some (some (.ref g3))) (r3 : PySem.W.kitOne K (.ref C) (.ref g3) = some false)
    {g4 : Addr} (q4 : PySem.W.nsIn K mainGlobals "NoWave" = some (some (.ref g4))) (r4 : PySem.W.kitOne K (.ref C) (.ref g4) = some false)
    {g5 : Addr} (q5 : PySem.W.nsIn K mainGlobals "Unlike" = some (some (.ref g5))) (r5 : PySem.W.kitOne K (.ref C) (.ref g5) = some false)
    (rT : PySem.W.kitOne K (.ref C) (.ref C) = some true) (zV : PySem.W.nsIn K mainGlobals "ValueError" = some none) (rV : PySem.W.kitOne K (.ref C) (.type "ValueError") = some true) {gE : Addr} (qE : PySem.W.nsIn K mainGlobals "TickError" = some (some (.ref gE))) (rE : PySem.W.exmOne K (.ref C) (.ref gE) = some true) :
    ∃ fd : FuncData, (∀ (s : Shared) (v : Value), BindsTo s fd ⟨[v], []⟩ [("_law_script", v)]) ∧ ∀ base : Heap, K.In base → base.Ns mainGlobals mg → FnOk P w K mg base CX0 7 fa fd ["_law_script"] (spLaw K) := by
  have e := hfa.symm.trans (PySem.W.mg_of X G a29)
  cases e
  have A : Tops K mg := ⟨at_mk X G a0 l0 c0 k0 fun _ F => b_changes F, at_mk X G a1 l1 c1 k1 fun _ F => b_rises F, at_mk X G a2 l2 c2 k2 fun _ F => b_spans F, at_mk X G a3 l3 c3 k3 fun _ F => b_all_known F, at_mk X G a4 l4 c4 k4 fun _ F => b_with_wave F, at_mk X G a5 l5 c5 k5 fun _ F => b_wave_of F, at_mk X G a6 l6 c6 k6 fun _ F => b_all_sheets F, at_mk X G a7 l7 c7 k7 fun _ F => b_unknown_of F, at_mk X G a8 l8 c8 k8 fun _ F => b_never_both F, at_mk X G a9 l9 c9 k9 fun _ F => b_not_after F, at_mk X G a10 l10 c10 k10 fun _ F => b_too_short F, at_mk X G a11 l11 c11 k11 fun _ F => b_not_still F, at_mk X G a12 l12 c12 k12 fun _ F => b_out_of_turn F, at_mk X G a13 l13 c13 k13 fun _ F => b_failures F, at_mk X G a14 l14 c14 k14 fun _ F => b_look_unknown F, at_mk X G a15 l15 c15 k15 fun _ F => b_verdict F, at_mk X G a16 l16 c16 k16 fun _ F => b_sure_failures F, at_mk X G a17 l17 c17 k17 fun _ F => b_told_by F, at_mk X G a18 l18 c18 k18 fun _ F => b_law_cell F, at_mk X G a19 l19 c19 k19 fun _ F => b_law_pick F, at_mk X G a20 l20 c20 k20 fun _ F => b_law_wave F, at_mk X G a21 l21 c21 k21 fun _ F => b_law_seldom F, at_mk X G a22 l22 c22 k22 fun _ F => b_law_can_be F, at_mk X G a23 l23 c23 k23 fun _ F => b_law_sheet F, at_mk X G a24 l24 c24 k24 fun _ F => b_law_short F, at_mk X G a25 l25 c25 k25 fun _ F => b_law_failures F, at_mk X G a26 l26 c26 k26 fun _ F => b_law_rule F, at_mk X G a27 l27 c27 k27 fun _ F => b_law_word F, at_mk X G a28 l28 c28 k28 fun _ F => b_law_tried F⟩
  have T : Tx mg := ⟨PySem.W.mg_none_of X G z0, PySem.W.mg_none_of X G z1, PySem.W.mg_none_of X G z2, PySem.W.mg_none_of X G z3, PySem.W.mg_none_of X G z4, PySem.W.mg_none_of X G z5, PySem.W.mg_none_of X G z6, PySem.W.mg_none_of X G z7, PySem.W.mg_none_of X G z8, PySem.W.mg_none_of X G z9, PySem.W.mg_none_of X G z10, PySem.W.mg_none_of X G z11, PySem.W.mg_none_of X G z12, ⟨_, PySem.W.mg_of X G zM⟩⟩
  have tl : Tl K mg C := ⟨xT, PySem.W.mg_of X G gT, kT, sT, tT⟩
  have ek : Ek K mg C := ⟨⟨y1, y2, sT, y4, y5, y6, y7, y8⟩, ⟨_, PySem.W.mg_of X G q0, r0⟩, ⟨_, PySem.W.mg_of X G q1, r1⟩, ⟨_, PySem.W.mg_of X G q2, r2⟩, ⟨_, PySem.W.mg_of X G q3, r3⟩, ⟨_, PySem.W.mg_of X G q4, r4⟩, ⟨_, PySem.W.mg_of X G q5, r5⟩, ⟨PySem.W.mg_of X G gT, rT⟩, ⟨PySem.W.mg_none_of X G zV, rV⟩, ⟨_, PySem.W.mg_of X G qE, rE⟩⟩
  exact ⟨_, fun s v => .of_eq rfl, fun base _ _ => all_law A T tl ek base (fun_mk (st := s_law) l29 c29 k29)⟩
end Kt

open PySem PySem.W PyProof.Rows
set_option maxHeartbeats 0 in
theorem PySem.Challenge.cw_tickrows_k61_whole_verdicts_holds : PySem.Challenge.rw_tickrows_k61_whole_verdicts.Holds := by
  w_on; o_law; k_head; (case hw => w_witness2)
  k_fill
  refine L2.walk_of (l := PySem.Challenge.rw_tickrows_k61_whole_verdicts) (n := 63) (k := 7) (x := "_law_script") (CX := fun _ => L2.CX0) (sp := fun w => Kt.spLaw _) rfl (by decide) rfl ⟨rfl, by decide, by decide⟩ (fun w h Y => PySem.W.kIn_of Y) ?F (fun _ _ a ns hl _ hS => ⟨a, ns, rfl, hS, fun _ _ => rfl⟩) (fun _ _ _ _ _ z => z)
  case F =>
    intro w mg fa h KX G hmg
    refine' Kt.fin_all KX G hmg ?a0 ?l0 ?c0 ?k0 ?a1 ?l1 ?c1 ?k1 ?a2 ?l2 ?c2 ?k2 ?a3 ?l3 ?c3 ?k3 ?a4 ?l4 ?c4 ?k4 ?a5 ?l5 ?c5 ?k5 ?a6 ?l6 ?c6 ?k6 ?a7 ?l7 ?c7 ?k7 ?a8 ?l8 ?c8 ?k8 ?a9 ?l9 ?c9 ?k9 ?a10 ?l10 ?c10 ?k10 ?a11 ?l11 ?c11 ?k11 ?a12 ?l12 ?c12 ?k12 ?a13 ?l13 ?c13 ?k13 ?a14 ?l14 ?c14 ?k14 ?a15 ?l15 ?c15 ?k15 ?a16 ?l16 ?c16 ?k16 ?a17 ?l17 ?c17 ?k17 ?a18 ?l18 ?c18 ?k18 ?a19 ?l19 ?c19 ?k19 ?a20 ?l20 ?c20 ?k20 ?a21 ?l21 ?c21 ?k21 ?a22 ?l22 ?c22 ?k22 ?a23 ?l23 ?c23 ?k23 ?a24 ?l24 ?c24 ?k24 ?a25 ?l25 ?c25 ?k25 ?a26 ?l26 ?c26 ?k26 ?a27 ?l27 ?c27 ?k27 ?a28 ?l28 ?c28 ?k28 ?a29 ?l29 ?c29 ?k29 ?z0 ?z1 ?z2 ?z3 ?z4 ?z5 ?z6 ?z7 ?z8 ?z9 ?z10 ?z11 ?z12 ?zM ?gT ?xT ?kT ?sT ?tT ?y1 ?y2 ?y4 ?y5 ?y6 ?y7 ?y8 ?q0 ?r0 ?q1 ?r1 ?q2 ?r2 ?q3 ?r3 ?q4 ?r4 ?q5 ?r5 ?rT ?zV ?rV ?qE ?rE
    (case a0 => k_is); (case l0 => k_is); (case c0 => k_is); (case k0 => k_is); (case a1 => k_is); (case l1 => k_is); (case c1 => k_is); (case k1 => k_is)
    (case a2 => k_is); (case l2 => k_is); (case c2 => k_is); (case k2 => k_is); (case a3 => k_is); (case l3 => k_is); (case c3 => k_is); (case k3 => k_is)
    (case a4 => k_is); (case l4 => k_is); (case c4 => k_is); (case k4 => k_is); (case a5 => k_is); (case l5 => k_is); (case c5 => k_is); (case k5 => k_is)
    (case a6 => k_is); (case l6 => k_is); (case c6 => k_is); (case k6 => k_is); (case a7 => k_is); (case l7 => k_is); (case c7 => k_is); (case k7 => k_is)
    (case a8 => k_is); (case l8 => k_is); (case c8 => k_is); (case k8 => k_is); (case a9 => k_is); (case l9 => k_is); (case c9 => k_is); (case k9 => k_is)
    (case a10 => k_is); (case l10 => k_is); (case c10 => k_is); (case k10 => k_is); (case a11 => k_is); (case l11 => k_is); (case c11 => k_is); (case k11 => k_is)
    (case a12 => k_is); (case l12 => k_is); (case c12 => k_is); (case k12 => k_is); (case a13 => k_is); (case l13 => k_is); (case c13 => k_is); (case k13 => k_is)
    (case a14 => k_is); (case l14 => k_is); (case c14 => k_is); (case k14 => k_is); (case a15 => k_is); (case l15 => k_is); (case c15 => k_is); (case k15 => k_is)
    (case a16 => k_is); (case l16 => k_is); (case c16 => k_is); (case k16 => k_is); (case a17 => k_is); (case l17 => k_is); (case c17 => k_is); (case k17 => k_is)
    (case a18 => k_is); (case l18 => k_is); (case c18 => k_is); (case k18 => k_is); (case a19 => k_is); (case l19 => k_is); (case c19 => k_is); (case k19 => k_is)
    (case a20 => k_is); (case l20 => k_is); (case c20 => k_is); (case k20 => k_is); (case a21 => k_is); (case l21 => k_is); (case c21 => k_is); (case k21 => k_is)
    (case a22 => k_is); (case l22 => k_is); (case c22 => k_is); (case k22 => k_is); (case a23 => k_is); (case l23 => k_is); (case c23 => k_is); (case k23 => k_is)
    (case a24 => k_is); (case l24 => k_is); (case c24 => k_is); (case k24 => k_is); (case a25 => k_is); (case l25 => k_is); (case c25 => k_is); (case k25 => k_is)
    (case a26 => k_is); (case l26 => k_is); (case c26 => k_is); (case k26 => k_is); (case a27 => k_is); (case l27 => k_is); (case c27 => k_is); (case k27 => k_is)
    (case a28 => k_is); (case l28 => k_is); (case c28 => k_is); (case k28 => k_is); (case a29 => k_is); (case l29 => k_is); (case c29 => k_is); (case k29 => k_is)
    (case z0 => k_is); (case z1 => k_is); (case z2 => k_is); (case z3 => k_is); (case z4 => k_is); (case z5 => k_is); (case z6 => k_is); (case z7 => k_is)
    (case z8 => k_is); (case z9 => k_is); (case z10 => k_is); (case z11 => k_is); (case z12 => k_is); (case zM => k_is); (case gT => k_is); (case xT => k_exc)
    (case kT => k_is); (case sT => k_is); (case tT => k_is); (case y1 => k_is); (case y2 => k_is); (case y4 => k_is); (case y5 => k_is); (case y6 => k_is)
    (case y7 => k_is); (case y8 => k_is); (case q0 => k_is); (case r0 => kit_is); (case q1 => k_is); (case r1 => kit_is); (case q2 => k_is); (case r2 => kit_is)
    (case q3 => k_is); (case r3 => kit_is); (case q4 => k_is); (case r4 => kit_is); (case q5 => k_is); (case r5 => kit_is); (case rT => kit_is); (case zV => k_is)
    (case rV => kit_is); (case qE => k_is); (case rE => kts_exm)
