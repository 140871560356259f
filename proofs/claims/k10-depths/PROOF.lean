import PyProof.Rows.All
import Wide.All
import OpenK.AllK
import Wide.FinOn
import KE.KStateDown
import KE.DataFind
import PyProof.InstEq
import HandS.ForMost
import HandS.ForExc
import HandS.Defaults
import HandS.IsInst
import HandS.TupAny
import HandS.Head0
import HandS.Head1
import HandS.Head2
import HandS.HeadEnd
import HandS.HeadHook1
import HandS.HeadHook2
import HandS.HeadHook3
import HandS.HeadHook4
import KE.KExcIs
import HandS.ExcInit
import HandS.ExcField
import HandS.FStr
import HandS.Lambda
import HandS.EndTab
import HandS.HeadWalk
import HandS.Comp
import HandS.Style
import HandS.Zip
import HandS.Evl
import HandS.SetFor
import HandS.Conv
import PyProof.EqAt
import PySem.Challenge.RW_writeways_k10_depths
set_option Elab.async false
set_option linter.all false
set_option maxRecDepth 100000
set_option maxHeartbeats 4000000
namespace Ww
open PySem PySem.Spec PyProof.Rows L2
-- WwBase
/-! ### cells: a part of the abstract heap that is known -/
abbrev Cell := Addr × HO
def Own (H : Hp) (L : List Cell) : Prop := (L.map (·.1)).Nodup ∧ ∀ p ∈ L, H p.1 = some p.2
section
variable {H : Hp} {L L' R : List Cell} {a p : Addr} {o o' : HO} {c0 c1 c2 c3 c4 c5 c6 c7 : Cell}
theorem Own.mem (h : Own H L) (m : (a, o) ∈ L) : H a = some o := h.2 _ m
theorem Own.perm (h : Own H L) (e : L.Perm L') : Own H L' := ⟨((e.map _).nodup_iff).mp h.1, fun q m => h.2 q (e.mem_iff.mpr m)⟩
theorem Own.sub (h : Own H L) (e : L'.Sublist L) : Own H L' := ⟨List.Nodup.sublist (e.map _) h.1, fun q m => h.2 q (e.subset m)⟩
theorem Own.tail (h : Own H (c0 :: L)) : Own H L := h.sub (List.sublist_cons_self _ _)
theorem Own.right (h : Own H (L' ++ L)) : Own H L := h.sub (List.sublist_append_right _ _)
theorem Own.left (h : Own H (L ++ L')) : Own H L := h.sub (List.sublist_append_left _ _)
theorem Own.a0 (h : Own H ((a, o) :: L)) : H a = some o := h.2 (a, o) (by simp)
theorem Own.a1 (h : Own H (c0 :: (a, o) :: L)) : H a = some o := h.2 (a, o) (by simp)
theorem Own.a2 (h : Own H (c0 :: c1 :: (a, o) :: L)) : H a = some o := h.2 (a, o) (by simp)
theorem Own.a3 (h : Own H (c0 :: c1 :: c2 :: (a, o) :: L)) : H a = some o := h.2 (a, o) (by simp)
theorem Own.a4 (h : Own H (c0 :: c1 :: c2 :: c3 :: (a, o) :: L)) : H a = some o := h.2 (a, o) (by simp)
theorem Own.a5 (h : Own H (c0 :: c1 :: c2 :: c3 :: c4 :: (a, o) :: L)) : H a = some o := h.2 (a, o) (by simp)
theorem Own.a6 (h : Own H (c0 :: c1 :: c2 :: c3 :: c4 :: c5 :: (a, o) :: L)) : H a = some o := h.2 (a, o) (by simp)
theorem Own.a7 (h : Own H (c0 :: c1 :: c2 :: c3 :: c4 :: c5 :: c6 :: (a, o) :: L)) : H a = some o := h.2 (a, o) (by simp)
theorem Own.fresh (h : Own H L) (hp : H p = none) : p ∉ L.map (·.1) := fun m => by
  obtain ⟨q, hq, e⟩ := List.mem_map.mp m
  have := h.2 q hq
  rw [e, hp] at this
  cases this
theorem Own.keep (h : Own H L) (hp : p ∉ L.map (·.1)) : Own (upd H p o) L := ⟨h.1, fun q m => by
  rw [upd_ne (fun e => hp (List.mem_map.mpr ⟨q, m, e⟩))]
  exact h.2 q m⟩
theorem Own.new (h : Own H L) (hp : H p = none) : Own (upd H p o) ((p, o) :: L) := by
  refine ⟨List.nodup_cons.mpr ⟨h.fresh hp, h.1⟩, fun q m => ?_⟩
  rcases List.mem_cons.mp m with e | m
  · rw [e]
    exact upd_same
  · exact (h.keep (h.fresh hp)).2 q m
theorem Own.keepNew (h : Own H L) (hp : H p = none) : Own (upd H p o) L := h.keep (h.fresh hp)
theorem Own.set (h : Own H ((a, o) :: L)) : Own (upd H a o') ((a, o') :: L) := by
  have hn := List.nodup_cons.mp h.1
  refine ⟨h.1, fun q m => ?_⟩
  rcases List.mem_cons.mp m with e | m
  · rw [e]
    exact upd_same
  · exact (h.tail.keep hn.1).2 q m
theorem Own.nil : Own H [] := ⟨List.nodup_nil, fun _ m => by cases m⟩
theorem Own.setAt (h : Own H L) (e : L.Perm ((a, o) :: R)) : Own (upd H a o') ((a, o') :: R) := (h.perm e).set
theorem Own.seqL {K : PySem.W.Frag} {xs : List V} (h : Own H ((a, .lst xs) :: L)) : SqL K H a xs := SqL.of h.a0
end
/-- one in a count -/
noncomputable def one1 (c d : Cell) : Nat := by classical exact if d = c then 1 else 0
noncomputable def cnt (c : Cell) : List Cell → Nat
  | [] => 0
  | d :: r => one1 c d + cnt c r
theorem cnt_nil (c : Cell) : cnt c [] = 0 := rfl
theorem cnt_cons (c d : Cell) (r : List Cell) : cnt c (d :: r) = one1 c d + cnt c r := rfl
theorem cnt_app (c : Cell) : ∀ l r : List Cell, cnt c (l ++ r) = cnt c l + cnt c r
  | [], r => by rw [List.nil_append, cnt_nil, Nat.zero_add]
  | d :: l, r => by rw [List.cons_append, cnt_cons, cnt_cons, cnt_app c l r, Nat.add_assoc]
theorem cnt_mem {c : Cell} : ∀ {l : List Cell}, 0 < cnt c l → c ∈ l
  | [], h => by rw [cnt_nil] at h; omega
  | d :: r, h => by
    classical
    by_cases e : d = c
    · rw [e]; exact List.mem_cons_self
    · rw [cnt_cons] at h
      have z : one1 c d = 0 := by unfold one1; rw [if_neg e]
      exact List.mem_cons_of_mem _ (cnt_mem (by omega))
theorem cnt_perm : ∀ {l r : List Cell}, (∀ c, cnt c l = cnt c r) → l.Perm r
  | [], r, h => by
    cases r with
    | nil => exact List.Perm.nil
    | cons d r =>
      have := h d
      rw [cnt_nil, cnt_cons] at this
      have z : one1 d d = 1 := by unfold one1; rw [if_pos rfl]
      omega
  | d :: l, r, h => by
    have hd := h d
    rw [cnt_cons] at hd
    have z : one1 d d = 1 := by unfold one1; rw [if_pos rfl]
    obtain ⟨r1, r2, e⟩ := List.append_of_mem (cnt_mem (c := d) (l := r) (by omega))
    subst e
    have e2 : l.Perm (r1 ++ r2) := cnt_perm fun c => by
      have := h c
      rw [cnt_cons, cnt_app, cnt_cons] at this
      rw [cnt_app]
      omega
    exact (e2.cons d).trans List.perm_middle.symm
local macro_rules | `(tactic| walk_at "perm") => `(tactic| (refine cnt_perm fun c => ?_; simp only [cnt_app, cnt_cons, cnt_nil, List.append_assoc, List.cons_append, List.nil_append] <;> omega))
example (A B C : List Cell) (x y : Cell) : (A ++ x :: B ++ (y :: C)).Perm (y :: (C ++ A) ++ ([x] ++ B)) := by walk_at "perm"

/-! ### globals -/
section
variable {X : Cx}
theorem pe_globI {x : Str} {i : Int} {pos : Pos} (hg : Gl X x) (hm : ∃ t, X.mg x = some (.int i t)) (hd : (x == ("__debug__" : Str)) = false := by decide) : PE X (.Name x pos) (tC (.int i)) := by
  obtain ⟨t, hm⟩ := hm
  exact pe_glob hg hm ⟨t, rfl⟩ hd
theorem pe_globR {x : Str} {a : Addr} {pos : Pos} (hg : Gl X x) (hm : X.mg x = some (.ref a)) (hd : (x == ("__debug__" : Str)) = false := by decide) : PE X (.Name x pos) (tC (.ref a)) := pe_glob hg hm (show RelV (.ref a) (.ref a) from rfl) hd
theorem pe_globS {x z : Str} {pos : Pos} (hg : Gl X x) (hm : ∃ t, X.mg x = some (.str z t)) (hd : (x == ("__debug__" : Str)) = false := by decide) : PE X (.Name x pos) (tC (.str z)) := by
  obtain ⟨t, hm⟩ := hm
  exact pe_glob hg hm ⟨t, rfl⟩ hd
end

/-! ### two instances of a class without its own __eq__ -/
def CmpC (K : PySem.W.Frag) (C : Addr) : Prop :=
  ∃ (nm q : Str) (N : Addr) (bs : List Value) (hdct : Bool) (sn : List Str) (sub : List Value) (ab : Bool) (col : Option Bool) (dd : Option Addr) (k0 k1 k2 k3 k5 : Option Value) (newId : String),
    K.lookup C = some (excClassObj nm q C N bs [.type "object"] hdct sn sub ab col dd k0 k1 k2 k3 k5 newId) ∧ PySem.W.nsOkIn K N = true ∧ PySem.W.nsIn K N "__eq__" = some none ∧ PySem.W.nsIn K N "__ne__" = some none
def cmpB (K : PySem.W.Frag) (C : Addr) : Bool := match K.lookup C with
  | some ⟨.type t, _, .cls cd, sl⟩ => (match cd.mro, sl.toList with
    | [.ref C', .type o], [_, _, _, _, some (.builtin _), _] => decide (t = "type") && (decide (C' = C) && (decide (o = "object") && (!cd.hasDel && (PySem.W.nsOkIn K cd.ns && (He.eqO (PySem.W.nsIn K cd.ns "__eq__") (some none) && He.eqO (PySem.W.nsIn K cd.ns "__ne__") (some none))))))
    | _, _ => false)
  | _ => false
theorem cmpB_ok {K : PySem.W.Frag} {C : Addr} (q : cmpB K C = true) : CmpC K C := by
  unfold cmpB at q
  split at q
  · rename_i t dd cd sl ho
    split at q
    · rename_i C' o k0 k1 k2 k3 n k5 hm hs
      obtain ⟨q1, q⟩ := He.ba q
      obtain ⟨q2, q⟩ := He.ba q
      obtain ⟨q3, q⟩ := He.ba q
      obtain ⟨q4, q⟩ := He.ba q
      obtain ⟨q5, q⟩ := He.ba q
      obtain ⟨q6, q7⟩ := He.ba q
      have e1 := of_decide_eq_true q1
      have e2 := of_decide_eq_true q2
      have e3 := of_decide_eq_true q3
      obtain ⟨nm, bs, mro, ns, qn, hd, sn, sub, ab, col, del⟩ := cd
      dsimp only at hm q4 q5 q6 q7
      have e4 : del = false := by
        cases del with
        | false => rfl
        | true => cases q4
      subst hm e1 e2 e3 e4
      have hsl : sl = #[k0, k1, k2, k3, some (.builtin n), k5] := by
        obtain ⟨l⟩ := sl
        simp only at hs
        rw [hs]
      subst hsl
      exact ⟨nm, qn, ns, bs, hd, sn, sub, ab, col, dd, k0, k1, k2, k3, k5, n, ho, q5, He.eqO_ok q6, He.eqO_ok q7⟩
    · cases q
  · cases q
theorem CmpC.inst {K : PySem.W.Frag} {C : Addr} {h : Heap} (c : CmpC K C) (X : K.In h) {x dx : Addr} (hx : h.get? x = some (PySem.W.instObj C dx)) : h.CmpInst x C [.type "object"] := by
  obtain ⟨nm, q, N, bs, hdct, sn, sub, ab, col, dd, k0, k1, k2, k3, k5, newId, hC, ho, h1, h2⟩ := c
  exact ⟨_, nm, q, N, bs, hdct, sn, sub, ab, col, dd, k0, k1, k2, k3, k5, newId, _, hx, rfl, X _ _ hC, .of_isNs (PySem.W.isNs_of_in X ho), PySem.W.nsMap_none_of_in X ho h1, PySem.W.nsMap_none_of_in X ho h2⟩
section
variable {X : Cx}
/-- xs.remove(o), xs a list of instances of the class at C -/
def rRemO (C : Addr) : V → List V → Hp → VK → Prop := fun x xs H Q => ∃ (l : Addr) (as : List Addr) (a : Addr) (j : Nat), x = .ref l ∧ xs = [.ref a] ∧ H l = some (.lst (as.map V.ref)) ∧ (∀ b ∈ as, ∃ dx fs, H b = some (.ins C dx fs)) ∧
  as[j]? = some a ∧ (∀ m : Nat, m < j → as[m]? ≠ some a) ∧ Q .non (upd H l (.lst ((as.eraseIdx j).map V.ref)))
theorem refs_of_vals : ∀ {as : List Addr} {us : List Value}, Vals (as.map V.ref) us → us = as.map Value.ref
  | [], _, h => by cases h; rfl
  | a :: as, _, h => by
    cases h with
    | cons r t =>
      obtain rfl := r
      rw [refs_of_vals t]
      rfl
theorem erase_map {α β : Type} (f : α → β) : ∀ (as : List α) (j : Nat), (as.map f).eraseIdx j = (as.eraseIdx j).map f
  | [], _ => rfl
  | _ :: _, 0 => rfl
  | a :: as, j + 1 => by
    show f a :: (as.map f).eraseIdx j = f a :: (as.eraseIdx j).map f
    rw [erase_map f as j]
theorem erase_mapR (as : List Addr) (j : Nat) : (as.map V.ref).eraseIdx j = (as.eraseIdx j).map V.ref := erase_map _ as j
theorem mt_removeO {C : Addr} (c : CmpC X.K C) (hu : X.A.units + 1 < cLine) : MtM X "list.remove" (rRemO C) := by
  intro pins s σ H x xs v us Q I rx rxs h
  obtain ⟨l, as, a, j, rfl, rfl, hH, hI, hj, hno, q⟩ := h
  cases rx
  obtain ⟨u, rfl, ru⟩ := rxs.one
  obtain rfl : u = Value.ref a := ru
  obtain ⟨z, its, n, r, hl, e⟩ := I.lstM hH
  have hi := refs_of_vals r
  subst hi
  rw [List.length_map] at z hl
  have hjn : j < as.length := (List.getElem?_eq_some_iff.mp hj).1
  have inst : ∀ b ∈ as, ∃ dx, s.heap.get? b = some (PySem.W.instObj C dx) := fun b hb => by
    obtain ⟨dx, fs, hb⟩ := hI b hb
    obtain ⟨_, _, _, e, _⟩ := I.hok b _ hb
    exact ⟨dx, e⟩
  have ha : a ∈ as := List.mem_of_getElem? hj
  obtain ⟨dxa, hoa⟩ := inst a ha
  have KX : X.K.In s.heap := I.kIn
  have hsz : (as.map Value.ref).toArray.size = as.length := by simp
  refine call_meets PySem.F.slot_list_remove ⟨_, e, rfl⟩ PySem.F.entry_list_remove (PySem.F.args_list_remove_2 _ _)
    (SeqAt.list_removeAt l (as.map Value.ref).toArray n none #[] (.ref a) (fun y => decide (y = .ref a)) j (by omega) ?_ ?_ (by omega)) ⟨e, fun y hy => ?_, ?_⟩
  · obtain ⟨h1, h2⟩ := List.getElem?_eq_some_iff.mp hj
    simp [h2]
  · intro m hm hmj
    have hmn : m < as.length := by omega
    have hne := hno m hmj
    rw [List.getElem?_eq_getElem hmn] at hne
    simp only [List.getElem_toArray, List.getElem_map, decide_eq_false_iff_not, Value.ref.injEq]
    exact fun q => hne (by rw [q])
  · have hy2 : y ∈ as.map Value.ref := by simpa using hy
    obtain ⟨b, hb, rfl⟩ := List.mem_map.mp hy2
    by_cases eb : b = a
    · subst eb
      rw [decide_eq_true rfl]
      exact SeqAt.EqAt.same _
    · rw [decide_eq_false (by intro q; injection q with q; exact eb q)]
      obtain ⟨dxb, hob⟩ := inst b hb
      refine SeqAt.EqAt.of_refs eb fun prog w E Q hq => ?_
      have F0 := PySem.F.cmp_object
      obtain ⟨hp, g, d, t, os⟩ := s
      exact PySem.richCompare_eq_other F0 F0 (c.inst KX hob) (c.inst KX hoa) eb hu hq
  · have rr := r.eraseIdx j
    rw [erase_mapR] at rr
    refine ⟨.non, _, I.lset (its' := (as.map Value.ref).eraseIdx j) (t' := s.toks) hH e ?_ rr ?_, rfl, q⟩
    · rw [List.eraseIdxIfInBounds_toArray]
    · rw [List.length_map]
      have := List.length_eraseIdx_le as j
      omega
end
/-! ### xs[a:b] = ys -/
def gSlice (to : TE) (tl th : TO) : TG := fun v σ H Q => to σ H fun x H1 => tl σ H1 fun lo H2 => th σ H2 fun hi H3 => ∃ (l b : Addr) (xs ys : List V) (i j : Int), x = .ref l ∧ v = .ref b ∧ lo = some i ∧ hi = some j ∧
  H3 l = some (.lst xs) ∧ H3 b = some (.lst ys) ∧ l ≠ b ∧ 0 ≤ i ∧ i ≤ j ∧ j ≤ xs.length ∧ xs.length + ys.length ≤ sizeLine ∧ Q σ (upd H3 l (.lst (xs.take i.toNat ++ ys ++ xs.drop j.toNat)))
theorem part_int {v : Value} {i : Int} (h : IsPart v (some i)) : RelV (.int i) v := by
  cases h
  exact ⟨_, rfl⟩
theorem pg_slice {X : Cx} {o : Expr} {lo hi : Option Expr} {p2 pos : Pos} {to : TE} {tl th : TO} (ho : PE X o to) (hl : PO X lo tl) (hu : PO X hi th) : PG X (.Subscript o (.Slice lo hi none p2) pos) (gSlice to tl th) := by
  refine ⟨fun pins s σ H v u Q I r h => ?_⟩
  show wpAny _ _ (do
      let ov ← holding [u] (eval o X.env)
      let iv ← holding [u, ov] (eval (.Slice lo hi none p2) X.env)
      standAt pos
      holding [u, ov, iv] (setItem ov iv u)
      release [iv, u, ov] []) _ _ _
  refine wpAny_bind (wpAny_holding (thn (ho.run pins s σ H _ I h) fun ov s1 ⟨x, H1, I1, r1, q1⟩ => ?_))
  refine wpAny_bind (wpAny_holding (wpAny_Slice (thn (hl.run pins s1 σ H1 _ I1 q1) fun vl s2 ⟨l, H2, I2, pl, q2⟩ => thn (hu.run pins s2 σ H2 _ I2 q2) fun vu s3 ⟨u3, H3, I3, pu, q3⟩ => ?_)))
  rw [evalPart_none]
  refine wpAny_pure ?_
  have I4 : Inv X pins σ H3 { s3 with heap := s3.heap.push { cls := .type "slice", data := .fields #[vl, vu, .none] } } := I3.kept (t' := s3.toks) fun b ob q => Heap.get?_push_of_some _ q
  obtain ⟨a, b, xs, ys, i, j, rfl, rfl, rfl, rfl, ha, hb, hne, h0, hij, hjx, hz, q⟩ := q3
  obtain rfl : ov = Value.ref a := r1
  obtain rfl : u = Value.ref b := r
  refine wpAny_bind (wpAny_standAt (wpAny_bind (wpAny_holding (set_slice I4 ha hb hne (Heap.IsSliceOf.new ..) (part_int pl) (part_int pu) h0 hij hjx hz fun s' I5 => ?_))))
  exact wpAny_release ⟨σ, _, I5, q⟩

/-! ### names of readings -/
abbrev rAddI : R2 := rI0 fun i j => .int (i + j)
abbrev rSubI : R2 := rI0 fun i j => .int (i - j)
abbrev rMulI : R2 := rI CMul fun i j => .int (i * j)
abbrev rDivI : R2 := rI CDiv fun i j => .int (i / j)
abbrev rModI : R2 := rI (fun _ j => 0 < j) fun i j => .int (i % j)
abbrev rLtI : R2 := rI0 fun i j => .bl (decide (i < j))
abbrev rLeI : R2 := rI0 fun i j => .bl (decide (i ≤ j))
abbrev rGtI : R2 := rI0 fun i j => .bl (decide (j < i))
abbrev rGeI : R2 := rI0 fun i j => .bl (decide (j ≤ i))
abbrev rLenQ (K : PySem.W.Frag) : List V → Hp → VK → Prop := fun xs H Q => ∃ p ys, xs = [.ref p] ∧ (SqL K H p ys ∨ SqT K H p ys) ∧ Q (.int ys.length) H
abbrev rListQ (K : PySem.W.Frag) : List V → Hp → VK → Prop := fun xs H Q => ∃ p ys, xs = [.ref p] ∧ (SqL K H p ys ∨ SqT K H p ys) ∧ ∀ l, H l = none → Q (.ref l) (upd H l (.lst ys))
abbrev rTupQ (K : PySem.W.Frag) : List V → Hp → VK → Prop := fun xs H Q => ∃ p ys, xs = [.ref p] ∧ ((SqL K H p ys ∧ ∀ l, H l = none → Q (.ref l) (upd H l (.tup ys))) ∨ (SqT K H p ys ∧ Q (.ref p) H))
/-- a for over enumerate(xs) -/
theorem for_enum {K : PySem.W.Frag} {a : Addr} {xs : List V} {g : TG} {tb : TS} {D : Ends} {σ : L2.St} {H : Hp} (Pv : Nat → L2.St → Hp → Prop) (h0 : Pv 0 σ H) (hl : ∀ i σ H, i ≤ xs.length → Pv i σ H → SqL K H a xs)
    (hs : ∀ i x σ H T, xs[i]? = some x → Pv i σ H → H T = none → g (.ref T) σ (upd H T (.tup [.int (i : Nat), x])) fun σ2 H2 => tb { D with nx := Pv (i + 1), ct := Pv (i + 1), bk := D.nx } σ2 H2) (hd : ∀ σ H, Pv xs.length σ H → D.nx σ H) :
    ∃ W : Nat → Nat → L2.St → Hp → Prop, (∃ m, W 0 m σ H) ∧ ∀ i m σ H, W i m σ H →
      ((Ite K a).stop i H ∧ D.nx σ H) ∨ ((Ite K a).go i H ∧ ∃ N : L2.St → Hp → Prop, (∀ σ' H', N σ' H' → ∃ m', m' < m ∧ W (i + 1) m' σ' H') ∧ ∀ x H', (Ite K a).yld i H x H' → g x σ H' fun σ2 H2 => tb { D with nx := N, ct := N, bk := D.nx } σ2 H2) := by
  refine ⟨fun i m σ H => m = xs.length - i ∧ i ≤ xs.length ∧ Pv i σ H, ⟨xs.length, by simp, Nat.zero_le _, h0⟩, ?_⟩
  rintro i m σ H ⟨rfl, hi, p⟩
  have q := hl i σ H hi p
  by_cases hlt : i < xs.length
  · refine .inr ⟨⟨xs, xs[i], q, by simp [hlt]⟩, Pv (i + 1), fun σ' H' p' => ⟨xs.length - (i + 1), by omega, rfl, hlt, p'⟩, fun v H' y => ?_⟩
    obtain ⟨T, x, e1, e2, e3, e4⟩ := y
    subst e1 e3
    exact hs i x σ H T (e4 xs q) p e2
  · have e : i = xs.length := by omega
    subst e
    exact .inl ⟨⟨xs, q, Nat.le_refl _⟩, hd σ H p⟩
-- WwXc
/-! ### own classes of exceptions: what is checked of the written part -/
/-- the class's object is as the making of its instances wants it -/
def oexB (K : PySem.W.Frag) (C : Addr) : Bool := match K.lookup C with
  | some ⟨.type "type", _, .cls cd, sl⟩ => (match cd.mro, sl.toList with
    | .ref D :: bm, [_, _, _, _, some (.builtin n), _] => D == C && (n == "ValueError.__new__" && (!cd.hasDel && (cd.hasDict && PySem.HandSPX.refsVE bm)))
    | _, _ => false)
  | _ => false
theorem oexB_ok {K : PySem.W.Frag} {C : Addr} (q : oexB K C = true) : ∃ nm qn N bs bm sn sub ab col dd k0 k1 k2 k3 k5, K.lookup C = some (excClassObj nm qn C N bs bm true sn sub ab col dd k0 k1 k2 k3 k5 "ValueError.__new__") ∧ PySem.HandSPX.refsVE bm = true := by
  unfold oexB at q
  split at q
  · rename_i dct cd sl hk
    split at q
    · rename_i D bm y0 y1 y2 y3 n y5 em es
      obtain ⟨q1, q⟩ := Bool.and_eq_true_iff.mp q
      obtain ⟨q2, q⟩ := Bool.and_eq_true_iff.mp q
      obtain ⟨q3, q⟩ := Bool.and_eq_true_iff.mp q
      obtain ⟨q4, q5⟩ := Bool.and_eq_true_iff.mp q
      obtain ⟨c1, c2, c3, c4, c5, c6, c7, c8, c9, c10, c11⟩ := cd
      have e3 : c11 = false := by
        have : (!c11) = true := q3
        cases c11
        · rfl
        · cases this
      have e4 : c6 = true := q4
      have em : c3 = .ref D :: bm := em
      have eD : D = C := eq_of_beq q1
      have en : n = "ValueError.__new__" := eq_of_beq q2
      have hsl : sl = #[y0, y1, y2, y3, some (.builtin n), y5] := by
        obtain ⟨sl⟩ := sl
        have es : sl = _ := es
        rw [es]
      subst e3 e4 em eD en hsl
      exact ⟨c1, c5, c4, c2, bm, c7, c8, c9, c10, dct, y0, y1, y2, y3, y5, hk, q5⟩
    · cases q
  · cases q
/-- all that is asked of a class of exceptions -/
structure XcC (K : PySem.W.Frag) (C : Addr) : Prop where
  cl : (PySem.W.clsIn K C).isSome = true
  ga : PySem.W.findIn K (.ref C) "__getattribute__" = some (some (.builtin "BaseException.__getattribute__"))
  gg : PySem.W.findIn K (.ref C) "__getattr__" = some none
  sb : PySem.W.subIn K (.ref C) (.type "BaseException") = some true
  hd : PySem.W.hasDictIn K C = true
  hc : PySem.W.findIn K (.ref C) "__class__" = some (some (.builtin "object.__class__"))
  sg : PySem.W.specialIn K (.builtin "object.__class__") "__get__" = some (some (.builtin "getset_descriptor.__get__"))
  tk : PySem.W.takesIn K (.builtin "object.__class__") = some true
  mo : PySem.W.mroIn K C (.type "object") = some true
  sa : PySem.W.findIn K (.ref C) "__setattr__" = some (some (.builtin "object.__setattr__"))
  ty : PySem.W.typeIn K (.ref C) = some (.type "type")
  kp : PySem.W.keepIn K (.ref C) = true
def xcB (K : PySem.W.Frag) (C : Addr) : Bool :=
  (PySem.W.clsIn K C).isSome && (He.eqO (PySem.W.findIn K (.ref C) "__getattribute__") (some (some (.builtin "BaseException.__getattribute__"))) && (He.eqO (PySem.W.findIn K (.ref C) "__getattr__") (some none) && (decide (PySem.W.subIn K (.ref C) (.type "BaseException") = some true) &&
  (PySem.W.hasDictIn K C && (He.eqO (PySem.W.findIn K (.ref C) "__class__") (some (some (.builtin "object.__class__"))) && (He.eqO (PySem.W.specialIn K (.builtin "object.__class__") "__get__") (some (some (.builtin "getset_descriptor.__get__"))) &&
  (decide (PySem.W.takesIn K (.builtin "object.__class__") = some true) && (decide (PySem.W.mroIn K C (.type "object") = some true) && (He.eqO (PySem.W.findIn K (.ref C) "__setattr__") (some (some (.builtin "object.__setattr__"))) && (decide (PySem.W.typeIn K (.ref C) = some (.type "type")) && PySem.W.keepIn K (.ref C)))))))))))
theorem xcB_ok {K : PySem.W.Frag} {C : Addr} (q : xcB K C = true) : XcC K C := by
  obtain ⟨q1, q⟩ := He.ba q
  obtain ⟨q2, q⟩ := He.ba q
  obtain ⟨q3, q⟩ := He.ba q
  obtain ⟨q4, q⟩ := He.ba q
  obtain ⟨q5, q⟩ := He.ba q
  obtain ⟨q6, q⟩ := He.ba q
  obtain ⟨q7, q⟩ := He.ba q
  obtain ⟨q8, q⟩ := He.ba q
  obtain ⟨q9, q⟩ := He.ba q
  obtain ⟨q10, q⟩ := He.ba q
  obtain ⟨q11, q12⟩ := He.ba q
  exact ⟨q1, He.eqO_ok q2, He.eqO_ok q3, of_decide_eq_true q4, q5, He.eqO_ok q6, He.eqO_ok q7, of_decide_eq_true q8, of_decide_eq_true q9, He.eqO_ok q10, of_decide_eq_true q11, q12⟩
theorem XcC.oex {K : PySem.W.Frag} {C : Addr} (x : XcC K C) (o : oexB K C = true) : OexC K C := ⟨oexB_ok o, x.sa, x.sb, x.ty, x.kp⟩
theorem XcC.xf {K : PySem.W.Frag} {C : Addr} (x : XcC K C) : XfC K C := ⟨x.ga, x.gg, x.sb, x.hd⟩
/-! ### isinstance(e, c) in the suite, whatever the exception's dict -/
def rIsX (K : PySem.W.Frag) (a : Addr) (cls : Value) (d : Option Addr) : List V → Hp → VK → Prop := fun xs H Q =>
  ∃ (D : Addr) (c : V) (cv : Value) (b : Bool), cls = .ref D ∧ XcC K D ∧ (∀ dd, d = some dd → ∃ fs, H dd = some (.xd fs)) ∧ xs = [.ref a, c] ∧ (∀ u, RelV c u → u = cv) ∧ PySem.W.kitOne K (.ref D) cv = some b ∧ Q (.bl b) H
theorem call_isX {X : Cx} {a : Addr} {oe : Obj} {cls : Value} {d : Option Addr} {pn : List (Addr × Obj)} (hz : Zc cls d oe) (hf : ∃ vs, oe.data = .fields vs) : CallR (X.suite a ((a, oe) :: pn)) (.builtin "isinstance") (rIsX X.K a cls d) := by
  intro pins s σ H xs us Q I r h
  obtain ⟨D, c, cv, b, rfl, C, hd, rfl, hcv, e, q⟩ := h
  cases r with
  | cons rx rr =>
    cases rr with
    | cons rt rr =>
      cases rr
      cases rx
      have ec := hcv _ rt
      subst ec
      obtain ⟨hget, _⟩ := I.pin (a, oe) (List.mem_append_left _ List.mem_cons_self)
      obtain ⟨vs, hv⟩ := hf
      obtain ⟨z1, z2⟩ := hz
      obtain ⟨od, J⟩ : ∃ od, PySem.W.InstAt s.heap a oe D od := by
        cases d with
        | none =>
          refine ⟨none, hget, z1, by unfold PySem.W.notCls; rw [hv] <;> rfl, ?_⟩
          rw [z2]
          trivial
        | some dd =>
          obtain ⟨fs, hfs⟩ := hd dd rfl
          have hx : ObjOk X.prog X.w H s.heap dd (.xd fs) := I.hok dd _ hfs
          obtain ⟨mA, ⟨o, _, _, ho, _⟩, _⟩ := hx
          refine ⟨some o, hget, z1, by unfold PySem.W.notCls; rw [hv] <;> rfl, ?_⟩
          rw [z2]
          exact ho
      exact PySem.W.kia_one (PySem.W.kitx_exc C.cl C.ga C.gg C.sb C.hc C.sg C.tk C.mo) I.kIn J e (fun z => nomatch z) fun tk => ⟨.bl b, H, I.kept (t' := tk) fun _ _ z => z, rfl, q⟩
/-! ### e.f in the suite -/
def tXg (K : PySem.W.Frag) (a : Addr) (cls : Value) (d : Option Addr) (f : Str) (te : TE) : TE := fun σ H Q => te σ H fun x H1 => x = .ref a ∧ ∃ (C dd : Addr) (fs : List (Str × V)) (v : V), cls = .ref C ∧ XcC K C ∧ PySem.W.findIn K (.ref C) f = some none ∧ d = some dd ∧ H1 dd = some (.xd fs) ∧ fs.lookup f = some v ∧ Q v H1
theorem pe_xg {X : Cx} {a : Addr} {oe : Obj} {cls : Value} {d : Option Addr} {pn : List (Addr × Obj)} {e : Expr} {te : TE} {pos : Pos} {n : Str} (hz : Zc cls d oe) (hf : ∃ vs, oe.data = .fields vs) (he : PE (X.suite a ((a, oe) :: pn)) e te)
    (hb : attributeBase e n X.env (eval e X.env) = eval e X.env := by rfl) : PE (X.suite a ((a, oe) :: pn)) (.Attribute e n pos) (tXg X.K a cls d n te) := by
  refine ⟨fun pins s σ H Q I h => ?_⟩
  have base := (he.run pins s σ H _ I h)
  refine attr_of hb (thn base fun u s1 hh => ?_)
  obtain ⟨x, H1, I1, rx, ex, C, dd, fs, v, rfl, T, hno, rfl, ea, l, q⟩ := hh
  subst ex
  obtain rfl : u = Value.ref a := rx
  obtain ⟨ha, _⟩ := I1.pin (a, oe) (List.mem_append_left _ List.mem_cons_self)
  obtain ⟨vs, hdt⟩ := hf
  have hx : ObjOk X.prog X.w H1 s1.heap dd (.xd fs) := I1.hok dd _ ea
  obtain ⟨mA, hns, hr⟩ := hx
  obtain ⟨od, ho, hl⟩ := lookIn_ns hns
  obtain ⟨u, hu, ru⟩ := RelO.some_of (v := v) (o := mA n) (by rw [← l]; exact hr n)
  have nc : PySem.W.notCls oe = true := by unfold PySem.W.notCls; rw [hdt] <;> rfl
  have J : PySem.W.InstAt s1.heap a oe C (some od) := ⟨ha, hz.1, nc, by rw [hz.2]; exact ho⟩
  refine HandSPX.exc_get I1.kIn J T.ga T.gg T.sb (PySem.W.findObj_own T.hd hno rfl (by rw [hl, hu])) (handed_of ru) ⟨v, H1, I1.tok _, ru, q⟩
/-! ### W.__init__(self, ..), W an own class over ValueError without an own __init__ -/
theorem pe_weinit {X : Cx} {e : Expr} {es : List Expr} {ta : TA} {x : Str} {p1 p2 pos : Pos} {pl : Sem Bool} {W : Addr} (gx : Gl X x) (mx : X.mg x = some (.ref W))
    (sg : PySem.W.specialIn X.K (.ref W) "__getattribute__" = some (some (.builtin "type.__getattribute__"))) (rd : PySem.W.readsIn X.K W (.type "type") = true)
    (fc : PySem.W.findCls X.K (.ref W) (.type "type") "__init__" = some (.val (.builtin "ValueError.__init__"))) (pa : PA X (e :: es) ta)
    (ec : eval (.Call (.Attribute (.Name x p1) "__init__" p2) (e :: es) [] pos) X.env = (do
      let ov ← eval (.Name x p1) X.env
      standAt p2.atName
      let (fu, fi) ← holding [ov] (getMethod ov "__init__" pl)
      callWith pos fu fi (backTo pos (starEach (e :: es) X.env)) (backToKw pos (keywordEach [] X.env))) := by rfl)
    (hdb : (x == ("__debug__" : Str)) = false := by decide) (h1 : starEach (e :: es) X.env = (false, eval e X.env) :: starEach es X.env := by rfl) (h2 : (backTo pos (starEach es X.env)).any (·.1) = false := by rfl) :
    PE X (.Call (.Attribute (.Name x p1) "__init__" p2) (e :: es) [] pos) (tVeI X.K ta) := by
  refine ⟨fun pins s σ H Q I h => ?_⟩
  refine PySem.W.methodCall_KW (ld_glob I gx mx ?_ hdb) ec
  refine PySem.W.method_cls I.kIn sg (PySem.W.cls_value I.kIn rd fc (by decide +kernel) ?_)
  refine PyProof.Rows.callWith_method1 (thn (pa.run pos pins _ σ H _ (I.tok _) h) fun us s1 hh => ?_) h1 h2
  obtain ⟨vs, H1, I1, r1, a, C, ws, ev, hl, T, ea, q⟩ := hh
  subst ev
  cases r1 with
  | @cons _ u0 _ ur ra rw' =>
    obtain rfl : u0 = Value.ref a := ra
    refine oinit_ok T I1 ea (by rw [← Paired.length rw', sizeLine_eq]; omega) fun s' J => ⟨.non, H1, J, rfl, q⟩
/-! ### raise C(n) of a class whose __init__ keeps one field -/
/-- what __init__ of such a class does -/
def spExI (K : PySem.W.Frag) (C : Addr) (f : Str) : Sp := fun vs H Q _ => ∃ (a : Addr) (n : Int), vs = [.ref a, .int n] ∧ n.natAbs < 2 ^ 60 ∧ H a = some (exo a C none) ∧
  ∀ dx, H dx = none → dx ≠ a → Q .non (upd (upd H dx (exd dx [(f, .int n)])) a (exo a C (some dx)))
theorem rz_go {C : Addr} {f : Str} {K : PySem.W.Frag} {H1 : Hp} {Q : XK} {n : Int} (hn : n.natAbs < 2 ^ 60) (k : ∀ d, H1 d = none → Q (.ref C) (some d) (upd H1 d (.xd [(f, .int n)]))) :
    ([V.int n] : List V).length ≤ 1000 ∧ ∀ a, H1 a = none → spExI K C f (.ref a :: ([V.int n] ++ [])) (upd H1 a (exo a C none))
      (fun v H2 => v = .non ∧ ∃ (d : Addr) (fs : List (Str × V)), H2 a = some (exo a C (some d)) ∧ H2 d = some (exd d fs) ∧ H1 d = none ∧ Q (.ref C) (some d) (upd (del H2 a) d (.xd fs))) (fun _ _ _ => False) := by
  refine ⟨by show 1 ≤ 1000; decide, fun a ha => ⟨a, n, rfl, hn, upd_same, fun dx hdx hne => ?_⟩⟩
  have hd1 : H1 dx = none := by
    rw [upd_ne hne] at hdx
    exact hdx
  refine ⟨rfl, dx, [(f, .int n)], upd_same, by rw [upd_ne hne, upd_same], hd1, ?_⟩
  have e : upd (del (upd (upd (upd H1 a (exo a C none)) dx (exd dx [(f, V.int n)])) a (exo a C (some dx))) a) dx (HO.xd [(f, V.int n)]) = upd H1 dx (.xd [(f, .int n)]) := by
    funext b
    by_cases hb : b = dx
    · rw [hb, upd_same, upd_same]
    · rw [upd_ne hb, upd_ne hb]
      by_cases ha2 : b = a
      · rw [ha2, del_same, ha]
      · rw [del_ne ha2, upd_ne ha2, upd_ne hb, upd_ne ha2]
  rw [e]
  exact k dx hd1
theorem log60 {n : Int} (h : n.natAbs < 2 ^ 60) : n.natAbs.log2 < 1920 := by
  by_cases z : n.natAbs = 0
  · rw [z]
    decide
  · exact Nat.lt_trans ((Nat.log2_lt z).mpr h) (by decide)
theorem int_fits60 {n : Int} (h : n.natAbs < 2 ^ 60) {x : Str} (hx : x.length ≤ 100) : (x ++ Str.ofString (toString n)).length ≤ sizeLine := by
  have e := int_text_length_le (a := n) (k := 1920) (by decide) (log60 h)
  rw [Str.length_append, PySem.ofString_length, sizeLine_eq]
  omega
theorem isFn_ty {K : PySem.W.Frag} {v : Value} (h : PySem.W.isFn K v = true) : PySem.W.typeIn K v = some (.type "function") := eq_of_beq h
/-- the slots are as many as the names -/
theorem takesLen {X : Cx} {W : WX} (t : Takes X W) : Takes X (fun cls d σ H => σ.length = X.N.length → W cls d σ H) := fun u s' ⟨a, B, sI, pins, σ, H, cls, d, e, I, nb, up, sky, na, os, ag, w⟩ =>
  t u s' ⟨a, B, sI, pins, σ, H, cls, d, e, I, nb, up, sky, na, os, ag, w I.len⟩
/-! ### the program's classes of exceptions, by their names -/
structure ExcT (K : PySem.W.Frag) (cs : List Str) : Prop where
  xc : ∀ c ∈ cs, XcC K (He.ga K c)
  ex : ∀ c ∈ cs, PySem.W.exmOne K (.ref (He.ga K c)) (.ref (He.ga K "WayError")) = some true
  kit : ∀ c ∈ cs, ∀ d ∈ cs, PySem.W.kitOne K (.ref (He.ga K c)) (.ref (He.ga K d)) = some (decide (c = d))
  kv : ∀ c ∈ cs, PySem.W.kitOne K (.ref (He.ga K c)) (.type "ValueError") = some true
  sg : PySem.W.specialIn K (.ref (He.ga K "WayError")) "__getattribute__" = some (some (.builtin "type.__getattribute__"))
  rd : PySem.W.readsIn K (He.ga K "WayError") (.type "type") = true
  fc : PySem.W.findCls K (.ref (He.ga K "WayError")) (.type "type") "__init__" = some (.val (.builtin "ValueError.__init__"))
def isVal (r : Option PySem.W.CFound) (v : Value) : Bool := match r with
  | some (.val u) => decide (u = v)
  | _ => false
theorem isVal_ok {r : Option PySem.W.CFound} {v : Value} (h : isVal r v = true) : r = some (.val v) := by
  unfold isVal at h
  split at h
  · rw [of_decide_eq_true h]
  · cases h
def excTB (K : PySem.W.Frag) (cs : List Str) : Bool :=
  (cs.all fun c => xcB K (He.ga K c) && (decide (PySem.W.exmOne K (.ref (He.ga K c)) (.ref (He.ga K "WayError")) = some true) && (decide (PySem.W.kitOne K (.ref (He.ga K c)) (.type "ValueError") = some true) && cs.all fun d => decide (PySem.W.kitOne K (.ref (He.ga K c)) (.ref (He.ga K d)) = some (decide (c = d)))))) &&
  (He.eqO (PySem.W.specialIn K (.ref (He.ga K "WayError")) "__getattribute__") (some (some (.builtin "type.__getattribute__"))) && (PySem.W.readsIn K (He.ga K "WayError") (.type "type") && isVal (PySem.W.findCls K (.ref (He.ga K "WayError")) (.type "type") "__init__") (.builtin "ValueError.__init__")))
theorem excTB_ok {K : PySem.W.Frag} {cs : List Str} (h : excTB K cs = true) : ExcT K cs := by
  obtain ⟨h1, h⟩ := He.ba h
  obtain ⟨h2, h⟩ := He.ba h
  obtain ⟨h3, h4⟩ := He.ba h
  have at_ := List.all_eq_true.mp h1
  refine ⟨fun c hc => ?_, fun c hc => ?_, fun c hc d hd => ?_, fun c hc => ?_, He.eqO_ok h2, h3, isVal_ok h4⟩
  · exact xcB_ok (He.ba (at_ c hc)).1
  · exact of_decide_eq_true (He.ba (He.ba (at_ c hc)).2).1
  · exact of_decide_eq_true (List.all_eq_true.mp (He.ba (He.ba (He.ba (at_ c hc)).2).2).2 d hd)
  · exact of_decide_eq_true (He.ba (He.ba (He.ba (at_ c hc)).2).2).1
def bads : List Str := ["BadRule", "BadHands", "BadHand", "BadPlace", "BadNumber", "BadDeed", "BadRoom", "BadWays", "BadLeavings", "BadText"]
/-! ### the head's facts, the interpreter's statics among them -/
def asY (g : Addr → Option Obj) (n : Nat) : List Addr := He.asD g n ++ [cStatics]
def obsY (n : Nat) (fa : List He.Fa) (fn : List He.DefD) (tf : List He.Defn) (ex : PySem.W.Frag → Bool) (g : Addr → Option Obj) : He.AlX := (He.obsT fa fn [] (He.frT g (asY g n)), ex (He.frT g (asY g n)) && He.tabsB g tf (He.frT g (asY g n)))
theorem saysY_of {n : Nat} {fa : List He.Fa} {fn : List He.DefD} {tf : List He.Defn} {ex : PySem.W.Frag → Bool} {w : World} {h : Heap} (e : obsY n fa fn tf ex h.get? = He.valX fn [] w) : He.SaysX fa fn [] tf ex w h (He.frT h.get? (asY h.get? n)) := by
  have out : ∀ {a : Addr} {o : Obj}, h.get? a = some o → He.emptyTab o = true → (He.frT h.get? (asY h.get? n)).lookup a = none := fun q z => He.frT_none q z
  have e1 := congrArg Prod.fst e
  have e2 := congrArg Prod.snd e
  dsimp only [obsY] at e1 e2
  generalize He.frT h.get? (asY h.get? n) = K at e1 e2 out ⊢
  obtain ⟨a1, a2⟩ := He.ba (show (ex K && He.tabsB h.get? tf K) = true from e2)
  have key : ∀ p ∈ tf, PySem.W.codeHdIn K (He.cT K p).1 (He.cT K p).2 = true ∧ ∃ o, h.get? (He.cT K p).2 = some o ∧ He.emptyTab o = true := fun p hp => by
    obtain ⟨b1, b2⟩ := He.ba (List.all_eq_true.mp a2 p hp)
    refine ⟨b1, ?_⟩
    split at b2
    · rename_i o q
      exact ⟨o, q, b2⟩
    · cases b2
  refine ⟨e1, a1, fun p hp => (key p hp).1, fun p hp => ?_, fun p hp => ?_⟩
  · obtain ⟨_, o, q, z⟩ := key p hp
    exact out q z
  · obtain ⟨_, o, q, z⟩ := key p hp
    rw [q, He.emptyTab_eq z]
def hookY (n : Nat) (fa : List He.Fa) (fn : List He.DefD) (tf : List He.Defn) (ex : PySem.W.Frag → Bool) : PySem.W.Hook where
  α := He.AlX
  obs s := obsY n fa fn tf ex s.heap.get?
  val w := He.valX fn [] w
  says w h := ∃ K : PySem.W.Frag, K.In h ∧ He.SaysX fa fn [] tf ex w h K
  of _ _ e := ⟨_, He.frT_in, saysY_of e⟩
  keeps _ _ _ z k := by
    obtain ⟨K, hK, c⟩ := z
    exact ⟨K, hK.keeps k, c.t, c.more, c.hd, c.out, fun p hp => k _ _ (c.empty p hp)⟩
theorem obsY_eq {n : Nat} {fa : List He.Fa} {fn : List He.DefD} {tf : List He.Defn} {ex : PySem.W.Frag → Bool} {g : Addr → Option Obj} {s : Shared} (h : ∀ a, g a = s.heap.get? a) : obsY n fa fn tf ex g = (hookY n fa fn tf ex).obs s := by
  have e : g = s.heap.get? := funext h
  subst e
  rfl
/-! ### tables of code objects, as cells -/
def isTb : HO → Bool
  | .tbl _ => true
  | .ext _ => true
  | _ => false
/-- cells that are no tables and no code objects -/
def NT (L : List Cell) : Prop := ∀ c ∈ L, isTb c.2 = false
theorem NT.nil : NT [] := fun c hc => by cases hc
theorem NT.cons {c : Cell} {L : List Cell} (h : isTb c.2 = false) (k : NT L) : NT (c :: L) := fun d hd => by
  rcases List.mem_cons.mp hd with e | e
  · rw [e]
    exact h
  · exact k d e
theorem NT.app {L M : List Cell} (h : NT L) (k : NT M) : NT (L ++ M) := fun d hd => (List.mem_append.mp hd).elim (h d) (k d)
theorem NT.left {L M : List Cell} (h : NT (L ++ M)) : NT L := fun d hd => h d (List.mem_append_left _ hd)
theorem NT.right {L M : List Cell} (h : NT (L ++ M)) : NT M := fun d hd => h d (List.mem_append_right _ hd)
/-- of any cells those that are none -/
def nt (L : List Cell) : List Cell := L.filter fun c => !isTb c.2
theorem nt_mem {L : List Cell} {c : Cell} : c ∈ nt L ↔ c ∈ L ∧ isTb c.2 = false := by
  unfold nt
  rw [List.mem_filter]
  cases isTb c.2 <;> simp
theorem nt_NT (L : List Cell) : NT (nt L) := fun c hc => (nt_mem.mp hc).2
theorem nt_sub (L : List Cell) : (nt L).Sublist L := List.filter_sublist
theorem Own.extN {H H1 : Hp} {L : List Cell} (O : Own H L) (n : NT L) (e : LamX.ExtN H H1) : Own H1 L := ⟨O.1, fun c hc => e c.1 c.2 (O.2 c hc) fun ps z => by
  have := n c hc
  rw [z] at this
  cases this⟩
def TabC (TL : List Cell) (P : Addr) (q : Str) : Prop := ∃ ps : Array Value, (P, HO.tbl ps) ∈ TL ∧ TriplesOk ps.toList ∧ ∀ (pos : Pos) (cv : Value), codeAmong pos ps.toList = some cv → ∃ c, cv = .ref c ∧ (c, LamX.CodeO c q) ∈ TL
theorem TabC.tab {TL : List Cell} {P : Addr} {q : Str} (t : TabC TL P q) {H : Hp} (O : ∀ c ∈ TL, H c.1 = some c.2) : LamX.TabS H P q := by
  obtain ⟨ps, h1, h2, h3⟩ := t
  refine ⟨ps, O _ h1, h2, fun pos cv hc => ?_⟩
  obtain ⟨c, e, hm⟩ := h3 pos cv hc
  exact ⟨c, e, O _ hm⟩
def uniq : List Addr → List Addr
  | [] => []
  | a :: l => if a ∈ l then uniq l else a :: uniq l
theorem uniq_mem {a : Addr} : ∀ {l : List Addr}, a ∈ uniq l ↔ a ∈ l
  | [] => Iff.rfl
  | b :: l => by
    unfold uniq
    split
    · rename_i h
      rw [uniq_mem, List.mem_cons]
      exact ⟨.inr, fun z => z.elim (fun e => e ▸ h) id⟩
    · rw [List.mem_cons, List.mem_cons, uniq_mem]
theorem uniq_nd : ∀ l : List Addr, (uniq l).Nodup
  | [] => List.nodup_nil
  | b :: l => by
    unfold uniq
    split
    · exact uniq_nd l
    · rename_i h
      exact List.nodup_cons.mpr ⟨fun z => h (uniq_mem.mp z), uniq_nd l⟩
theorem among_mem {pos : Pos} {cv : Value} : ∀ {l : List Value}, codeAmong pos l = some cv → cv ∈ l := by
  intro l
  fun_induction codeAmong pos l with
  | case1 =>
    intro h
    obtain rfl := Option.some.inj h
    simp
  | case2 _ _ _ _ _ _ _ ih =>
    intro h
    have := ih h
    simp [this]
  | case3 => exact fun h => nomatch h
def refsIn (vs : List Value) : List Addr := vs.filterMap fun v => match v with
  | .ref c => some c
  | _ => none
theorem tab_cells {H : Hp} {L : List Cell} {P : Addr} {q : Str} (t : LamX.TabS H P q) (O : Own H L) (n : NT L) : ∃ TL, TabC TL P q ∧ Own H (L ++ TL) := by
  classical
  obtain ⟨ps, hP, ht, ha⟩ := t
  obtain ⟨cs, hcs⟩ : ∃ cs, cs = uniq ((refsIn ps.toList).filter fun c => decide (H c = some (LamX.CodeO c q))) := ⟨_, rfl⟩
  have hc : ∀ c ∈ cs, H c = some (LamX.CodeO c q) := fun c h => by
    rw [hcs] at h
    exact of_decide_eq_true (List.mem_filter.mp (uniq_mem.mp h)).2
  have nd : cs.Nodup := by
    rw [hcs]
    exact uniq_nd _
  have isT : ∀ d ∈ ((P, HO.tbl ps) :: cs.map fun c => (c, LamX.CodeO c q)), H d.1 = some d.2 ∧ isTb d.2 = true := fun d hd => by
    rcases List.mem_cons.mp hd with e | e
    · rw [e]
      exact ⟨hP, rfl⟩
    · obtain ⟨c, h, rfl⟩ := List.mem_map.mp e
      exact ⟨hc c h, rfl⟩
  refine ⟨(P, .tbl ps) :: cs.map fun c => (c, LamX.CodeO c q), ⟨ps, List.mem_cons_self, ht, fun pos cv h => ?_⟩, ?_, fun d hd => ?_⟩
  · obtain ⟨c, rfl, h2⟩ := ha pos cv h
    refine ⟨c, rfl, List.mem_cons_of_mem _ (List.mem_map.mpr ⟨c, ?_, rfl⟩)⟩
    rw [hcs]
    exact uniq_mem.mpr (List.mem_filter.mpr ⟨List.mem_filterMap.mpr ⟨.ref c, among_mem h, rfl⟩, decide_eq_true h2⟩)
  · rw [List.map_append]
    refine List.nodup_append.mpr ⟨O.1, ?_, fun a h1 b h2 e => ?_⟩
    · show (P :: (cs.map fun c => (c, LamX.CodeO c q)).map (·.1)).Nodup
      rw [List.map_map]
      have : cs.map ((fun x : Cell => x.1) ∘ fun c => (c, LamX.CodeO c q)) = cs := by
        show cs.map (fun c => c) = cs
        exact List.map_id' cs
      rw [this]
      refine List.nodup_cons.mpr ⟨fun z => ?_, nd⟩
      have := hc P z
      rw [hP] at this
      exact LamX.codeO_ne ps (Option.some.inj this).symm
    · obtain ⟨d, hd, rfl⟩ := List.mem_map.mp h1
      obtain ⟨d2, hd2, rfl⟩ := List.mem_map.mp h2
      have g1 := O.2 d hd
      obtain ⟨g2, g3⟩ := isT d2 hd2
      rw [e, g2] at g1
      have := n d hd
      rw [← Option.some.inj g1, g3] at this
      cases this
  · rcases List.mem_append.mp hd with h | h
    · exact O.2 d h
    · exact (isT d h).1
/-- x(lambda: ..) by cells -/
theorem lam_go {P : Addr} {q : Str} {TT : (XK → Hp → VK → Prop) → Hp → VK → Prop} {t : XK → TE} {σ : L2.St} {H : Hp} {Q : VK} {L TL : List Cell} (O : Own H (L ++ TL)) (n : NT L) (ht : TabC TL P q)
    (k : ∀ (H1 : Hp) (TL' : List Cell), TabC TL' P q → Own H1 (L ++ TL') → TT (fun E H' Q' => t E σ H' Q') H1 Q) : LamX.tLam [(P, q)] TT t σ H Q := by
  refine ⟨fun p hp => ?_, fun H1 e T1 => ?_⟩
  · rw [List.mem_singleton.mp hp]
    exact ht.tab fun c hc => O.2 c (List.mem_append_right _ hc)
  · obtain ⟨TL', h1, h2⟩ := tab_cells (T1 (P, q) List.mem_cons_self) ((O.left).extN n e) n
    exact k H1 TL' h1 h2
-- WwLm
section lamLayer
 open LamX
/-! ### lambdas as values, with a default or without -/
abbrev lmFn (q : Str) (params : Arguments) (body : Expr) (scope : Scope) (cl : List (Str × Addr)) (dV pm cdv ct : Value) : FuncData :=
  { name := "<lambda>", qualname := q, params := params, body := .expr body, scope := scope, globals := mainGlobals, closure := cl, defaults := dV, kwdefaults := .none, doc := .none, pyModule := pm, annotations := none, code := cdv, closureTuple := ct, builtins := builtinsNs }
abbrev lmObj (q : Str) (params : Arguments) (body : Expr) (scope : Scope) (cl : List (Str × Addr)) (dV pm : Value) (c' : Addr) (ctv : Value) : Obj := { cls := .type "function", data := .func (lmFn q params body scope cl dV pm (.ref c') ctv) }
section
variable {M : Model} {A : Around} {E : Value → Shared → Prop} {s : Shared} {q : Str} {params : Arguments} {body : Expr} {scope : Scope} {env : Env} {c P : Addr} {ps : Array Value} {pos : Pos} {firstLine : Nat} {mg : Str → Option Value} {cl : List (Str × Addr)} {Q : Value → Shared → Prop} {dV : Value}
/-- the function's object is made, its code new in the table -/
theorem lm_new (hcl : closureFor scope env = pure cl) (hge0 : env.globals = mainGlobals) (hg : s.heap.Ns mainGlobals mg) (hcode : env.code = .ref c) (C : PySem.W.CodeHd s.heap c P) (hP : s.heap.get? P = some (PySem.W.tabObj ps)) (ht : TriplesOk ps.toList) (hnf : codeAmong pos ps.toList = none) (hgP : mainGlobals ≠ P) (hb : s.heap.BuiltinsAt mg P)
    (k : ∀ (c' : Addr) (ctv : Value) (h' : Heap) (tk : Tok), Heap.ExtBut P s.heap h' → s.heap.objs.size ≤ c' → c' < h'.objs.size → h'.CodeRec (.ref c') q → h'.get? P = some (PySem.W.tabObj (ps ++ #[rawInt pos.line, rawInt pos.col, .ref c'])) → Q (.ref h'.objs.size) { s with heap := h'.push (lmObj q params body scope cl dV ((mg "__name__").getD .none) c' ctv), toks := tk }) :
    wpAny M A (makeTail "<lambda>" q params (.expr body) scope env dV .none none pos firstLine) Q E s := by
  obtain ⟨bm, ob, b1, b2, _, b3, b4, b5, b6, b7⟩ := hb
  unfold makeTail; rw [hcl, hge0]; refine wpAny_bind (wpAny_pure ?_)
  cases cl with
  | nil =>
    simp only [List.isEmpty_nil, if_true]; refine wpAny_bind (wpAny_pure ?_)
    refine wpAny_bind (wpAny_functionCodeX hcode (C.code hP ht) (C.tab hP) hnf fun c' h' tk hx g1 g2 _ g3 g4 _ => ?_); have hg' := hg.extBut hx hgP
    refine wpAny_bind (wpAny_builtinsFor hg' b1 b2 (hx _ _ b3 b4) b5 b6 b7 ?_); refine wpAny_bind (wpAny_nsGet hg' ?_)
    exact wpAny_bind (wpAny_pure (wpAny_newObj_type (k c' .none h' tk hx g1 g2 g3 g4.2) (by size_fits)))
  | cons x r =>
    simp only [List.isEmpty_cons, Bool.false_eq_true, if_false]; refine wpAny_bind (wpAny_newTextTuple ?_)
    have up : ∀ {T : Obj} (b : Addr) (o : Obj), s.heap.get? b = some o → (s.heap.push T).get? b = some o := fun b o e => Heap.get?_push_of_some _ e
    refine wpAny_bind (wpAny_functionCodeX hcode ((C.keeps up).code (Heap.get?_push_of_some _ hP) ht) ((C.keeps up).tab (Heap.get?_push_of_some _ hP)) hnf fun c' h' tk hx g1 g2 _ g3 g4 _ => ?_)
    have hg' := (hg.push _).extBut hx hgP; have hx' : Heap.ExtBut P s.heap h' := fun b o hb' e => hx b o hb' (Heap.get?_push_of_some _ e)
    refine wpAny_bind (wpAny_builtinsFor hg' b1 b2 (hx' _ _ b3 b4) b5 b6 b7 ?_); refine wpAny_bind (wpAny_nsGet hg' ?_)
    exact wpAny_bind (wpAny_pure (wpAny_newObj_type (k c' _ h' tk hx' (Nat.le_trans (by rw [Heap.size_push]; omega) g1) g2 g3 g4.2) (by size_fits)))
/-- the same, its code found in the table -/
theorem lm_old {cv : Value} (hcl : closureFor scope env = pure cl) (hge0 : env.globals = mainGlobals) (hg : s.heap.Ns mainGlobals mg) (hcode : env.code = .ref c) (C : PySem.W.CodeHd s.heap c P) (hP : s.heap.get? P = some (PySem.W.tabObj ps)) (ht : TriplesOk ps.toList) (hf : codeAmong pos ps.toList = some cv) (hb : s.heap.BuiltinsAt mg P)
    (k : ∀ (ctv : Value) (h' : Heap) (tk : Tok), (∀ b o, s.heap.get? b = some o → h'.get? b = some o) → s.heap.objs.size ≤ h'.objs.size → Q (.ref h'.objs.size) { s with heap := h'.push { cls := .type "function", data := .func (lmFn q params body scope cl dV ((mg "__name__").getD .none) cv ctv) }, toks := tk }) :
    wpAny M A (makeTail "<lambda>" q params (.expr body) scope env dV .none none pos firstLine) Q E s := by
  obtain ⟨bm, ob, b1, b2, _, b3, b4, b5, b6, b7⟩ := hb
  unfold makeTail; rw [hcl, hge0]; refine wpAny_bind (wpAny_pure ?_)
  cases cl with
  | nil =>
    simp only [List.isEmpty_nil, if_true]; refine wpAny_bind (wpAny_pure ?_)
    refine wpAny_bind (wpAny_functionCode_hit hcode (C.code hP ht) hf ?_); refine wpAny_bind (wpAny_builtinsFor hg b1 b2 b4 b5 b6 b7 ?_); refine wpAny_bind (wpAny_nsGet hg ?_)
    exact wpAny_bind (wpAny_pure (wpAny_newObj_type (k .none s.heap s.toks (fun _ _ e => e) (Nat.le_refl _)) (by size_fits)))
  | cons x r =>
    simp only [List.isEmpty_cons, Bool.false_eq_true, if_false]; refine wpAny_bind (wpAny_newTextTuple ?_)
    have up : ∀ {T : Obj} (b : Addr) (o : Obj), s.heap.get? b = some o → (s.heap.push T).get? b = some o := fun b o e => Heap.get?_push_of_some _ e
    refine wpAny_bind (wpAny_functionCode_hit hcode ((C.keeps up).code (Heap.get?_push_of_some _ hP) ht) hf ?_); refine wpAny_bind (wpAny_builtinsFor (hg.push _) b1 b2 (Heap.get?_push_of_some _ b4) b5 b6 b7 ?_); refine wpAny_bind (wpAny_nsGet (hg.push _) ?_)
    exact wpAny_bind (wpAny_pure (wpAny_newObj_type (k _ _ s.toks (fun b o e => Heap.get?_push_of_some _ e) (by rw [Heap.size_push]; omega)) (by size_fits)))
end
/-- a lambda's function, told by its object -/
def LamO (f : Addr) (o : Obj) : HO := .frz o (.own 0)
theorem lamO_nt (f : Addr) (o : Obj) : isTb (LamO f o) = false := rfl
/-- the defaults: none, or one number -/
def Dfl (X : Cx) (params : Arguments) : Option Int → Prop
  | none => defaultsOf params X.env = ([], [])
  | some i => ∃ e : Expr, defaultsOf params X.env = ([eval e X.env], []) ∧ PE X e (tC (.int i))
def DvOk (H : Hp) (dV : Value) : Option Int → Prop
  | none => dV = .none
  | some i => ∃ d : Addr, dV = .ref d ∧ H d = some (.tup [.int i])
section
variable {X : Cx} {pins : List (Addr × Obj)} {σ : L2.St} {H : Hp} {s : Shared}
/-- behind the defaults: the function is made and known -/
theorem lm_make1 {T : List (Addr × Str)} {c P : Addr} {params : Arguments} {body : Expr} {scope : Scope} {pos : Pos} {dV : Value} {ds : Option Int} {E : Value → Shared → Prop} {Q : Value → Shared → Prop} (I : Inv X pins σ H s) (TB : TabB X.base X.mg c P) (hcode : X.env.code = .ref c)
    (hm : (P, X.env.qual ++ "<lambda>") ∈ T) (hu : ∀ p ∈ T, p.1 = P → p.2 = X.env.qual ++ "<lambda>") (hT : Tabs T H) (hd : DvOk H dV ds) (hfree : ∀ y ∈ scope.names, y.2 = .free → ∃ c, X.env.cells.lookup y.1 = some c)
    (k : ∀ (f c' : Addr) (pm ctv : Value) (H1 : Hp) (s' : Shared), Inv X pins σ H1 s' → ExtN H H1 → Tabs T H1 → H f = none → H1 f = some (LamO f (lmObj (X.env.qual ++ "<lambda>") params body scope (cloFrom X.env.cells scope.names []) dV pm c' ctv)) → H1 c' = some (CodeO c' (X.env.qual ++ "<lambda>")) → DvOk H1 dV ds → Q (.ref f) s') :
    wpAny (model X.prog X.w) X.A (makeTail "<lambda>" (X.env.qual ++ "<lambda>") params (.expr body) scope X.env dV .none none pos pos.line) Q E s := by
  obtain ⟨ps, hP, ht, ha⟩ := hT _ hm
  have bP : s.heap.BuiltinsAt X.mg P := TB.bm.keeps I.bk
  have hP' : s.heap.get? P = some { cls := .none, data := .fields ps } := I.hok P _ hP
  have dvK : ∀ {H' : Hp}, ExtN H H' → DvOk H' dV ds := fun {H'} e => by
    cases ds with
    | none => exact hd
    | some i =>
      obtain ⟨d, e1, e2⟩ := hd
      exact ⟨d, e1, e d _ e2 (fun ps z => by cases z)⟩
  cases hc : codeAmong pos ps.toList with
  | none =>
    refine lm_new (mg := X.mg) (c := c) (P := P) (ps := ps) (closure_ok hfree) I.ok.glob (I.mod.glob.keeps I.bk) hcode (TB.code.keeps I.bk) hP' ht hc TB.gP bP fun c' ctv h' tk hx g1 g2 g3 g4 => ?_
    obtain ⟨c2, oc, vs, t, e2, hoc, hdd, hv⟩ := g3
    cases e2
    have hsz : s.heap.objs.size ≤ h'.objs.size := Nat.le_trans g1 (Nat.le_of_lt g2)
    have nC : H c' = none := I.hok.fresh g1
    have I1 := inv_table (t' := tk) (more := #[rawInt pos.line, rawInt pos.col, .ref c']) (h' := h') I hP hx g4 g1 ⟨oc, vs, t, hoc, hdd, hv⟩
    have hE : ExtN H (upd (upd H P (.tbl (ps ++ #[rawInt pos.line, rawInt pos.col, .ref c']))) c' (CodeO c' (X.env.qual ++ "<lambda>"))) := fun b o e n => by
      rw [upd_ne (ne_of_none e nC), upd_ne (fun z => n ps (Option.some.inj (e.symm.trans (by rw [z]; exact hP))))]
      exact e
    have eL : (ps ++ #[rawInt pos.line, rawInt pos.col, .ref c']).toList = ps.toList ++ [rawInt pos.line, rawInt pos.col, .ref c'] := by simp
    have hT1 : Tabs T (upd (upd H P (.tbl (ps ++ #[rawInt pos.line, rawInt pos.col, .ref c']))) c' (CodeO c' (X.env.qual ++ "<lambda>"))) := fun p hp => by
      by_cases hb : p.1 = P
      · rw [hu p hp hb, hb]
        refine ⟨_, by rw [upd_ne (ne_of_none hP nC), upd_same], by rw [eL]; exact PySem.TriplesOk_snoc _ _ _ _ ht, fun p' cv hcv => ?_⟩
        rw [eL] at hcv
        rcases among_app _ ht hcv with z | z
        · obtain ⟨c0, e1, e2⟩ := ha p' cv z
          exact ⟨c0, e1, hE _ _ e2 codeO_ne⟩
        · exact ⟨c', z, upd_same⟩
      · obtain ⟨ps', a1, a2, a3⟩ := hT p hp
        refine ⟨ps', by rw [upd_ne (ne_of_none a1 nC), upd_ne hb]; exact a1, a2, fun p' cv hcv => ?_⟩
        obtain ⟨c0, e1, e2⟩ := a3 p' cv hcv
        exact ⟨c0, e1, hE _ _ e2 codeO_ne⟩
    have nF : (upd (upd H P (.tbl (ps ++ #[rawInt pos.line, rawInt pos.col, .ref c']))) c' (CodeO c' (X.env.qual ++ "<lambda>"))) h'.objs.size = none := I1.hok.fresh (Nat.le_refl _)
    have I2 := I1.laid (a := h'.objs.size) (o := LamO h'.objs.size (lmObj (X.env.qual ++ "<lambda>") params body scope (cloFrom X.env.cells scope.names []) dV ((X.mg "__name__").getD .none) c' ctv)) (h' := h'.push (lmObj (X.env.qual ++ "<lambda>") params body scope (cloFrom X.env.cells scope.names []) dV ((X.mg "__name__").getD .none) c' ctv)) (t' := tk) (fun b o e => Heap.get?_push_of_some _ e) (Nat.le_refl _)
      ⟨Heap.get?_push_size _ rfl, ⟨_, Heap.get?_push_size _ rfl⟩⟩
    have up : ∀ b o, (upd (upd H P (.tbl (ps ++ #[rawInt pos.line, rawInt pos.col, .ref c']))) c' (CodeO c' (X.env.qual ++ "<lambda>"))) b = some o → upd (upd (upd H P (.tbl (ps ++ #[rawInt pos.line, rawInt pos.col, .ref c']))) c' (CodeO c' (X.env.qual ++ "<lambda>"))) h'.objs.size (LamO h'.objs.size (lmObj (X.env.qual ++ "<lambda>") params body scope (cloFrom X.env.cells scope.names []) dV ((X.mg "__name__").getD .none) c' ctv)) b = some o := fun b o e => by
      rw [upd_ne (ne_of_none e nF)]
      exact e
    have hE2 := hE.trans (ExtN.of up)
    exact k h'.objs.size c' _ ctv _ _ I2 hE2 (hT1.ext up) (I.hok.fresh hsz) upd_same (up _ _ upd_same) (dvK hE2)
  | some cv =>
    obtain ⟨c', e, hco⟩ := ha pos cv hc
    subst e
    refine lm_old (mg := X.mg) (c := c) (P := P) (ps := ps) (closure_ok hfree) I.ok.glob (I.mod.glob.keeps I.bk) hcode (TB.code.keeps I.bk) hP' ht hc bP fun ctv h' tk hx hsz => ?_
    have I1 : Inv X pins σ H { s with heap := h', toks := tk } := I.kept hx
    have nF : H h'.objs.size = none := I.hok.fresh hsz
    have I2 := I1.laid (a := h'.objs.size) (o := LamO h'.objs.size (lmObj (X.env.qual ++ "<lambda>") params body scope (cloFrom X.env.cells scope.names []) dV ((X.mg "__name__").getD .none) c' ctv)) (h' := h'.push (lmObj (X.env.qual ++ "<lambda>") params body scope (cloFrom X.env.cells scope.names []) dV ((X.mg "__name__").getD .none) c' ctv)) (t' := tk) (fun b o e => Heap.get?_push_of_some _ e) (Nat.le_refl _)
      ⟨Heap.get?_push_size _ rfl, ⟨_, Heap.get?_push_size _ rfl⟩⟩
    have up : ∀ b o, H b = some o → upd H h'.objs.size (LamO h'.objs.size (lmObj (X.env.qual ++ "<lambda>") params body scope (cloFrom X.env.cells scope.names []) dV ((X.mg "__name__").getD .none) c' ctv)) b = some o := fun b o e => by
      rw [upd_ne (ne_of_none e nF)]
      exact e
    exact k h'.objs.size c' _ ctv _ _ I2 (ExtN.of up) (hT.ext up) nF upd_same (up _ _ hco) (dvK (ExtN.of up))
/-- a lambda as a value -/
structure LamI where
  params : Arguments
  body : Expr
  scope : Scope
  ds : Option Int
  ps : List Str
def LamAt (X : Cx) (B : LamI) (H : Hp) (f : Addr) : Prop := ∃ (dV pm : Value) (c' : Addr) (ctv : Value), H f = some (LamO f (lmObj (X.env.qual ++ "<lambda>") B.params B.body B.scope (cloFrom X.env.cells B.scope.names []) dV pm c' ctv)) ∧ H c' = some (CodeO c' (X.env.qual ++ "<lambda>")) ∧ DvOk H dV B.ds
def tLamV (X : Cx) (T : List (Addr × Str)) (B : LamI) : TE := fun σ H Q => Tabs T H ∧ ∀ (f : Addr) (H1 : Hp), ExtN H H1 → Tabs T H1 → H f = none → LamAt X B H1 f → Q (.ref f) H1
theorem pe_lamV {T : List (Addr × Str)} {c P : Addr} {B : LamI} {pos : Pos} (TB : TabB X.base X.mg c P) (hcode : X.env.code = .ref c) (hm : (P, X.env.qual ++ "<lambda>") ∈ T) (hu : ∀ p ∈ T, p.1 = P → p.2 = X.env.qual ++ "<lambda>") (hd : Dfl X B.params B.ds)
    (hfree : X.Ok → ∀ y ∈ B.scope.names, y.2 = .free → ∃ c, X.env.cells.lookup y.1 = some c) : PE X (.Lambda B.params B.body B.scope pos) (tLamV X T B) := by
  refine ⟨fun pins s σ H Q I h => ?_⟩
  obtain ⟨hT, h⟩ := h
  rw [arm_eval_Lambda]
  cases hds : B.ds with
  | none =>
    rw [hds] at hd
    have hd : defaultsOf B.params X.env = ([], []) := hd
    rw [hd]
    show wpAny _ _ (do let dv ← evalAll []; let kdv ← holding dv (evalAllOpt []); makeFunction "<lambda>" (X.env.qual ++ "<lambda>") B.params (.expr B.body) B.scope X.env dv kdv [] pos pos.line) _ _ s
    refine wpAny_bind (wpAny_pure (wpAny_bind (wpAny_holding (wpAny_pure ?_))))
    rw [makeFunction_eq]
    simp only [List.zip_nil_right, List.filterMap_nil, List.isEmpty_nil, if_true, pure_bind]
    refine lm_make1 (T := T) (c := c) (P := P) (ds := none) I TB hcode hm hu hT rfl (hfree I.ok) fun f c' pm ctv H1 s' I1 eN T1 hf hl hc' hdv => ?_
    exact ⟨.ref f, H1, I1, rfl, h f H1 eN T1 hf ⟨.none, pm, c', ctv, hl, hc', by rw [hds]; exact hdv⟩⟩
  | some i =>
    rw [hds] at hd
    obtain ⟨e, he, pe⟩ := hd
    rw [he]
    show wpAny _ _ (do let dv ← evalAll [eval e X.env]; let kdv ← holding dv (evalAllOpt []); makeFunction "<lambda>" (X.env.qual ++ "<lambda>") B.params (.expr B.body) B.scope X.env dv kdv [] pos pos.line) _ _ s
    refine wpAny_bind (wpAny_evalAll_cons (thn (pe.run pins s σ H (fun v H' => v = .int i ∧ H' = H) I ⟨rfl, rfl⟩) fun u s1 ⟨v, H', I1, r1, e1, e2⟩ => wpAny_evalAll_nil ?_))
    subst e1
    subst e2
    obtain ⟨tk0, rfl⟩ := r1
    refine wpAny_bind (wpAny_holding (wpAny_pure ?_))
    rw [makeFunction_eq]
    simp only [List.zip_nil_right, List.filterMap_nil, List.isEmpty_nil, List.isEmpty_cons, if_true, Bool.false_eq_true, if_false, pure_bind]
    refine wpAny_bind (wpAny_newTextTuple ?_)
    have nD : H' s1.heap.objs.size = none := I1.hok.fresh (Nat.le_refl _)
    have I2 := I1.laid (a := s1.heap.objs.size) (o := .tup [.int i]) (h' := s1.heap.push { cls := .type "tuple", data := .seq [Value.int i tk0].toArray }) (t' := s1.toks) (fun b o e => Heap.get?_push_of_some _ e) (Nat.le_refl _)
      ⟨by show 1 ≤ sizeLine; decide, [Value.int i tk0], .cons ⟨tk0, rfl⟩ .nil, ⟨_, Heap.get?_push_size _ rfl, rfl, _, rfl⟩⟩
    have up : ∀ b o, H' b = some o → upd H' s1.heap.objs.size (.tup [.int i]) b = some o := fun b o e => by
      rw [upd_ne (ne_of_none e nD)]
      exact e
    refine lm_make1 (T := T) (c := c) (P := P) (ds := some i) I2 TB hcode hm hu (hT.ext up) ⟨_, rfl, upd_same⟩ (hfree I.ok) fun f c' pm ctv H1 s' I3 eN T1 hf hl hc' hdv => ?_
    refine ⟨.ref f, H1, I3, rfl, h f H1 ((ExtN.of up).trans eN) T1 ?_ ⟨_, pm, c', ctv, hl, hc', by rw [hds]; exact hdv⟩⟩
    cases hh : H' f with
    | none => rfl
    | some o =>
      rw [up f o hh] at hf
      cases hf
end
/-! ### a lambda's body runs -/
/-- its names: captured ones, globals, and its parameter, which the maker has not -/
structure LmS (N : List Str) (sc : Scope) (B : LamI) : Prop where
  kind : B.scope.kind = .function
  co : B.scope.isCoroutine = false
  gen : B.scope.isGenerator = false
  own : ∀ y ∈ B.scope.names, y.2 ≠ .cell ∧ (y.2 = .local → y.1 ∉ N)
  free : ∀ y ∈ B.scope.names, y.2 = .free → sc.names.lookup y.1 = some .cell ∨ sc.names.lookup y.1 = some .free
  par : ∀ x ∈ B.ps, B.scope.names.lookup x = some .local
def lmSB (N : List Str) (sc : Scope) (B : LamI) : Bool :=
  decide (B.scope.kind = .function) && (!B.scope.isCoroutine && (!B.scope.isGenerator && ((B.scope.names.all fun y => !decide (y.2 = .cell) && ((!decide (y.2 = .local) || !decide (y.1 ∈ N)) && (!decide (y.2 = .free) || (decide (sc.names.lookup y.1 = some .cell) || decide (sc.names.lookup y.1 = some .free))))) && B.ps.all fun x => decide (B.scope.names.lookup x = some .local))))
theorem lmS_by {N : List Str} {sc : Scope} {B : LamI} (h : lmSB N sc B = true) : LmS N sc B := by
  unfold lmSB at h
  simp only [Bool.and_eq_true, Bool.or_eq_true, Bool.not_eq_true', decide_eq_true_eq, decide_eq_false_iff_not, List.all_eq_true] at h
  obtain ⟨h1, h2, h3, h4, h5⟩ := h
  refine ⟨h1, h2, h3, fun y hy => ⟨(h4 y hy).1, fun e => ?_⟩, fun y hy e => ?_, h5⟩
  · rcases (h4 y hy).2.1 with z | z
    · exact absurd e z
    · exact z
  · rcases (h4 y hy).2.2 with z | z
    · exact absurd e z
    · exact z
theorem LmS.has {X : Cx} {B : LamI} (L : LmS X.N X.env.scope B) (ok : X.Ok) : ∀ y ∈ B.scope.names, y.2 = .free → ∃ c, X.env.cells.lookup y.1 = some c := fun y hy e => by
  rcases L.free y hy e with k | k
  · exact ok.has _ (.inl k)
  · exact ok.has _ (.inr k)
/-- what the maker's cells hold -/
structure Home (X : Cx) (B : LamI) (σ : L2.St) (H : Hp) (h : Heap) : Prop where
  has : ∀ y ∈ B.scope.names, y.2 = .free → ∃ c, X.env.cells.lookup y.1 = some c
  inj : ∀ x y c, X.env.cells.lookup x = some c → X.env.cells.lookup y = some c → x = y
  cell : ∀ y c, X.env.cells.lookup y = some c → H c = none ∧ ∃ v, h.IsCell c v
  loc : ∀ (i : Nat) (y : Str) (v : V), X.N[i]? = some y → σ[i]? = some (some v) → (y, NameKind.free) ∈ B.scope.names → ∃ u c, RelV v u ∧ X.env.cells.lookup y = some c ∧ h.IsCell c (some u)
  len : σ.length = X.N.length
theorem Home.of {X : Cx} {B : LamI} {pins : List (Addr × Obj)} {σ : L2.St} {H : Hp} {s : Shared} (L : LmS X.N X.env.scope B) (I : Inv X pins σ H s) : Home X B σ H s.heap := by
  refine ⟨L.has I.ok, I.ok.inj, fun y c e => ⟨I.freeC y c e, I.cell y c e⟩, fun i y v e1 e2 hy => ?_, I.len⟩
  obtain ⟨m, hn, hl⟩ := I.loc
  have hvis : Vis X.env.scope y := (L.free _ hy rfl).elim (fun k => .inr (.inl k)) (fun k => .inr (.inr k))
  obtain ⟨u, r, q⟩ := hl i y v e1 e2 hvis
  rcases q with ⟨k', _⟩ | ⟨_, c, e, z⟩
  · have k' : X.env.scope.names.lookup y = some .local := k'
    rcases L.free _ hy rfl with k2 | k2 <;> rw [show X.env.scope.names.lookup y = _ from k2] at k' <;> cases k'
  · exact ⟨u, c, r, e, z⟩
theorem isCell_un {fs ex : List Addr} {H H' : Hp} {h h' : Heap} {c : Addr} {v : Option Value} (u : Un fs ex H H' h h') (n : H c = none) (hx : c ∉ ex) (z : h.IsCell c v) : h'.IsCell c v := by
  obtain ⟨o, ho, hd⟩ := z
  obtain ⟨sl, q⟩ := u.any ho n hx
  exact ⟨_, q, hd⟩
theorem Home.un {X : Cx} {B : LamI} {σ : L2.St} {H H' : Hp} {h h' : Heap} {fs ex : List Addr} (m : Home X B σ H h) (u : Un fs ex H H' h h') (hx : ∀ y c, X.env.cells.lookup y = some c → c ∉ ex) : Home X B σ H' h' := by
  refine ⟨m.has, m.inj, fun y c e => ?_, fun i y v e1 e2 hy => ?_, m.len⟩
  · obtain ⟨n, v, z⟩ := m.cell y c e
    obtain ⟨o, ho, _⟩ := id z
    exact ⟨u.free c o ho n (hx y c e), v, isCell_un u n (hx y c e) z⟩
  · obtain ⟨w, c, r, e, z⟩ := m.loc i y v e1 e2 hy
    exact ⟨w, c, r, e, isCell_un u (m.cell y c e).1 (hx y c e) z⟩
theorem lm_start {X : Cx} {B : LamI} {σ : L2.St} {HZ : Hp} {s1 : Shared} {A : Around} {outer : List Env} {E : XK} {f c' : Addr} {h₁ : Heap} {tk : Nat} {bs : List (Str × Value)} (L : LmS X.N X.env.scope B) (m : Home X B σ HZ s1.heap) (e0 : Env0 X.prog X.w X.K X.mg X.base A outer s1 HZ) (hd : A.handled = none)
    (hns : h₁.Ns s1.heap.objs.size fun y => bs.reverse.lookup y) (kp : ∀ b o, s1.heap.get? b = some o → h₁.get? b = some o) : Inv (lamCx X A outer s1 HZ E B.scope f c') [] σ HZ { s1 with heap := h₁, toks := tk } := by
  have cm : ∀ {y c}, (cloFrom X.env.cells B.scope.names []).lookup y = some c → X.env.cells.lookup y = some c := fun {y c} e => by
    rcases cloFrom_mem (PySem.mem_of_lookup e) with hm | ⟨h1, h2⟩
    · cases hm
    · obtain ⟨c1, hc⟩ := m.has _ h1 rfl
      have hc : X.env.cells.lookup y = some c1 := hc
      have e2 : c = c1 := by rw [h2, hc] <;> rfl
      rw [e2]
      exact hc
  have look : ∀ {y}, B.scope.names.lookup y = some .free → ∃ c, (cloFrom X.env.cells B.scope.names []).lookup y = some c := fun {y} hl => mem_lookup (cloFrom_has (cells := X.env.cells) (acc := []) (PySem.mem_of_lookup hl))
  have up : ∀ {c : Addr} {v : Option Value}, s1.heap.IsCell c v → h₁.IsCell c v := fun {c v} ⟨o, ho, hd⟩ => ⟨o, kp _ _ ho, hd⟩
  have noA : ∀ b : Addr, b ∉ (lamCx X A outer s1 HZ E B.scope f c').ex := fun b z => absurd (show b ∈ ([] : List Addr) from z) (by simp)
  refine ⟨⟨e0.mod, L.kind, rfl, rfl, Nat.le_refl _, fun y z c e1 e2 => m.inj y z c (cm e1) (cm e2), fun y hy => ?_, fun y c z _ => ?_, fun _ => hd, Around.frames_deeper e0.frames, .inr ⟨rfl, rfl⟩, fun b z => absurd z (noA b), e0.bs, e0.bsz, fun b _ _ => noA b, fun b z => absurd z (noA b), e0.funs, e0.frf⟩,
    rfl, e0.bare, Un.kept kp, ⟨_, hns, fun i y v e1 e2 e3 => ?_⟩, fun y c e => ?_, e0.hok.fresh (Nat.le_refl _), fun y c e => (m.cell y c (cm e)).1, fun q hq => absurd (show q ∈ ([] : List (Addr × Obj)) ++ [] from hq) (by simp), e0.hok.kept kp, m.len⟩
  · have hy : B.scope.names.lookup y = some .cell ∨ B.scope.names.lookup y = some .free := hy
    rcases hy with hy | hy
    · exact absurd rfl (L.own _ (PySem.mem_of_lookup hy)).1
    · exact look hy
  · have z : false = true := z
    cases z
  · have e3 : Vis B.scope y := e3
    rcases e3 with k | k | k
    · exact absurd (List.mem_of_getElem? e1) ((L.own _ (PySem.mem_of_lookup k)).2 rfl)
    · exact absurd rfl (L.own _ (PySem.mem_of_lookup k)).1
    · obtain ⟨w', c, r, e, z⟩ := m.loc i y v e1 e2 (PySem.mem_of_lookup k)
      obtain ⟨c2, h2⟩ := look k
      have : c2 = c := by
        have := cm h2
        rw [e] at this
        exact (Option.some.inj this).symm
      subst this
      exact ⟨w', r, .inr ⟨.inr k, c2, h2, up z⟩⟩
  · obtain ⟨_, w', z⟩ := m.cell y c (cm e)
    exact ⟨w', up z⟩
/-- what a call without arguments binds -/
def LBd (B : LamI) : Prop := match B.ds with
  | none => B.ps = [] ∧ ∀ (q : Str) (cl : List (Str × Addr)) (pm cv ctv : Value), bindArgs (lmFn q B.params B.body B.scope cl .none pm cv ctv) ⟨[], []⟩ = pure []
  | some _ => ∃ x0, B.ps = [x0] ∧ ∀ (T : Addr) (q : Str) (cl : List (Str × Addr)) (pm cv ctv u : Value), ∃ k, bindArgs (lmFn q B.params B.body B.scope cl (.ref T) pm cv ctv) ⟨[], []⟩ = seqItems? (.ref T) >>= k ∧ k (some #[u]) = pure [(x0, u)]
theorem lbd_run {P : Program} {w : World} {A : Around} {E : Value → Shared → Prop} {B : LamI} {H : Hp} {s : Shared} {q : Str} {cl : List (Str × Addr)} {dV pm cv ctv : Value} {Q : List (Str × Value) → Shared → Prop} (hb : LBd B) (hk : HOk P w H s.heap) (hd : DvOk H dV B.ds) (k : ∀ bs, (∀ y ∈ bs, y.1 ∈ B.ps) → Q bs s) :
    wpAny (model P w) A (bindArgs (lmFn q B.params B.body B.scope cl dV pm cv ctv) ⟨[], []⟩) Q E s := by
  unfold LBd at hb
  cases hds : B.ds with
  | none =>
    rw [hds] at hb hd
    obtain rfl : dV = .none := hd
    rw [hb.2]
    exact wpAny_pure (k [] fun y hy => nomatch hy)
  | some i =>
    rw [hds] at hb hd
    obtain ⟨x0, e0, hb⟩ := hb
    obtain ⟨d, rfl, hd⟩ := hd
    obtain ⟨_, its, rv, o, ho, hc, n, hdt⟩ := (show ObjOk P w H s.heap d (.tup [.int i]) from hk d _ hd)
    cases rv with
    | @cons _ u _ us r1 r2 =>
      cases r2
      obtain ⟨kk, e1, e2⟩ := hb d q cl pm cv ctv u
      rw [e1]
      refine wpAny_bind (wpAny_seqItems ho hdt ?_)
      rw [show ([u] : List Value).toArray = #[u] from rfl, e2]
      exact wpAny_pure (k _ fun y hy => by rw [List.mem_singleton.mp hy, e0]; exact List.mem_cons_self)
/-- a(), in the def that got the lambda -/
theorem pe_actD {X : Cx} {B : LamI} {CXg : CXT} {Eg : XK} {Ng : List Str} {qg : Str} {sg : Scope} {g f : Addr} {cdg : Value} {A0 : Around} {stk : List Env} {σ : L2.St} {H : Hp} {s : Shared} {k i : Nat} {a : Str} {pn : List (Addr × Obj)} {xe : Value → Shared → Prop} {W : WX} {E : XK} {tb : TE} {p1 p2 : Pos}
    (m : Home X B σ H s.heap) (L : LmS X.N X.env.scope B) (hb : LBd B) (tk : Takes ((cxOf CXg X.prog X.w X.K X.mg X.base Ng qg sg g cdg A0 stk s H Eg).tr pn xe) W) (hW : ∀ cls d σ' H', E cls d H' → W cls d σ' H') (hr : Room (k + 1) (A0.deeper (envOfC qg sg s.heap.objs.size g cdg)))
    (hbody : ∀ (A : Around) (outer : List Env) (s : Shared) (H : Hp) (c' : Addr), Room k (A.deeper (lamEnv X B.scope s.heap.objs.size f c')) → PE (lamCx X A outer s H E B.scope f c') B.body tb)
    (hN : Ng[i]? = some a) (hv : Vis sg a) (hd : (a == ("__debug__" : Str)) = false := by decide) (hcd : (a == ("__classdict__" : Str)) = false := by decide) :
    PE ((cxOf CXg X.prog X.w X.K X.mg X.base Ng qg sg g cdg A0 stk s H Eg).tr pn xe) (.Call (.Name a p1) [] [] p2) (fun σZ HZ Q => σZ[i]? = some (some (.ref f)) ∧ LamAt X B HZ f ∧ tb σ HZ Q) := by
  refine ⟨fun pinsZ sZ σZ HZ Q IZ h => ?_⟩
  obtain ⟨hs, ⟨dV, pm, c', ctv, hf, hc, hdv⟩, ht⟩ := h
  refine wpAny_Call_Name_kw (thn ((pe_var (pos := p1) (i := i) hN hv hd hcd).run pinsZ sZ σZ HZ (fun v H1 => v = .ref f ∧ H1 = HZ) IZ ⟨.ref f, hs, rfl, rfl⟩) fun u s1 ⟨v, H1, I1, r1, q1⟩ => ?_)
  obtain ⟨ev, eH⟩ := q1
  subst ev
  rw [eH] at I1
  obtain rfl : u = Value.ref f := r1
  have of1 : s1.heap.get? f = some (lmObj (X.env.qual ++ "<lambda>") B.params B.body B.scope (cloFrom X.env.cells B.scope.names []) dV pm c' ctv) := (I1.hok f _ hf).1
  refine PySem.W.callWith_F0 ⟨_, _, _, _, of1⟩ ?_
  have un : Un (frs stk) [] H HZ s.heap s1.heap := I1.base
  obtain ⟨⟨oc, vs, t, hoc, hdc, hvc⟩, _, _⟩ := I1.hok c' _ hc
  have rc : codeAny (model X.prog X.w) (A0.deeper (envOfC qg sg s.heap.objs.size g cdg)) (.call (.ref f) ⟨[], []⟩) (CR (L2.CX X.prog X.w) (envOfC qg sg s.heap.objs.size g cdg :: stk) X.prog X.w HZ s1 Q E) s1 := by
    refine PySem.W.kla_callFunE hr.depth of1 rfl L.co L.gen rfl ⟨c', oc, vs, t, rfl, hoc, hdc, hvc⟩ ?_
    refine lbd_run hb I1.hok hdv fun bs hbs => ?_
    refine wpAny_newFunctionEnv (fun y hy => (L.own y hy).1) (fun y hy => L.par _ (hbs y hy)) (fun h₁ hns hsb => ⟨I1.nolimit.fresh _ hsb, ?_⟩) L.kind
    show codeAny _ _ (.expr B.body (lamEnv X B.scope s1.heap.objs.size f c')) _ _
    have kp : ∀ b o, s1.heap.get? b = some o → h₁.get? b = some o := fun b o e => hsb.extBut b o (Nat.ne_of_lt (Heap.lt_size e)) (Heap.get?_push_of_some _ e)
    have J : Inv (lamCx X (A0.deeper (envOfC qg sg s.heap.objs.size g cdg)) (envOfC qg sg s.heap.objs.size g cdg :: stk) s1 HZ E B.scope f c') [] σ HZ { s1 with heap := h₁, toks := s1.toks + bs.length } := lm_start L (m.un un fun _ _ _ z => nomatch z) I1.env0 hr.hd hns kp
    refine PySem.W.kla_codeExpr (wpAny_mono ((hbody _ _ s1 HZ c' (hr.deeper _)).run [] _ _ HZ Q J ht) (fun v s' hq => ?_) fun e s' hq => hq)
    obtain ⟨w', H', J', rv, q⟩ := hq
    exact ⟨w', H', J'.os, J'.bare, J'.base, J'.hok, rv, q⟩
  have hx : Passes (L2.CX X.prog X.w) ((cxOf CXg X.prog X.w X.K X.mg X.base Ng qg sg g cdg A0 stk s H Eg).tr pn xe) E := passes_call tk hW
  refine wpAny_call (codeAny_mono rc fun r s' hq => ?_)
  cases r with
  | error e => exact hx pinsZ σZ HZ s1 e s' I1 hq
  | ok fl =>
    cases fl with
    | ret u => exact I1.after hq
    | next => exact False.elim hq
    | brk => exact False.elim hq
    | cont => exact False.elim hq
/-- a lambda whose body is read by t -/
structure LamK (X : Cx) (k : Nat) (B : LamI) (t : XK → TE) : Prop where
  L : LmS X.N X.env.scope B
  bd : LBd B
  body : ∀ (A : Around) (outer : List Env) (s : Shared) (H : Hp) (E : XK) (f c' : Addr), Room k (A.deeper (lamEnv X B.scope s.heap.objs.size f c')) → PE (lamCx X A outer s H E B.scope f c') B.body (t E)
def tCallLam (X : Cx) (k : Nat) (σf : L2.St → L2.St) (TT : (XK → Hp → VK → Prop) → Hp → VK → Prop) (te : TE) : TE := fun σ H Q => te σ H fun v H1 => ∃ (B : LamI) (t : XK → TE) (f : Addr), LamK X k B t ∧ v = .ref f ∧ LamAt X B H1 f ∧ TT (fun E H' Q' => LamAt X B H' f ∧ t E (σf σ) H' Q') H1 Q
/-- x(e), e a lambda that was made in X's frame; within Y, which is X or a block of it -/
theorem pe_callLamY {X : Cx} {s0 : Shared} {H0 : Hp} {ev : Env} {ou : List Env} {ex0 : List Addr} {fn0 : Str → Bool} {pn0 : List (Addr × Obj)} {xe0 : Value → Shared → Prop} {TT : (XK → Hp → VK → Prop) → Hp → VK → Prop} {x a : Str} {g : Addr} {k : Nat} {pg : Arguments} {bg : List Stmt} {sg : Scope} {dV kV doc pm cdv ct oc : Value} {an od : Option Addr}
    {osl : Array (Option Value)} {Ng : List Str} {e : Expr} {te : TE} {σf : L2.St → L2.St} {p pos : Pos} (hg : Gl { X with s_0 := s0, H_0 := H0, env := ev, outer := ou, ex := ex0, fn := fn0, pn := pn0, xe := xe0 } x) (hm : X.mg x = some (.ref g)) (hk : PySem.W.keepIn X.K (.ref g) = true)
    (lk : X.K.lookup g = some ⟨oc, od, .func (PySem.W.fnOf x x pg bg sg dV kV doc pm an cdv ct), osl⟩) (hcg : PySem.W.codeIn X.K cdv x = true) (hb : L2.Binds X.K (PySem.W.fnOf x x pg bg sg dV kV doc pm an cdv ct) [a] []) (Sg : FnScope Ng [a] sg) (hNg : Ng[0]? = some a) (hva : Vis sg a)
    (hG : GivesTo X Ng x sg g cdv bg a (X.env.qual ++ "<lambda>") TT) (hr : Room (k + 2) X.A)
    (hH : ∀ (B : LamI) (pins : List (Addr × Obj)) (s : Shared) (σ : L2.St) (H : Hp), LmS X.N X.env.scope B → Inv { X with s_0 := s0, H_0 := H0, env := ev, outer := ou, ex := ex0, fn := fn0, pn := pn0, xe := xe0 } pins σ H s → Home X B (σf σ) H s.heap)
    (he : PE { X with s_0 := s0, H_0 := H0, env := ev, outer := ou, ex := ex0, fn := fn0, pn := pn0, xe := xe0 } e te) (hst : starEach [e] ev = (false, eval e ev) :: starEach [] ev := by rfl)
    (hdb : (x == ("__debug__" : Str)) = false := by decide) (hd : (a == ("__debug__" : Str)) = false := by decide) (hcd : (a == ("__classdict__" : Str)) = false := by decide) :
    PE { X with s_0 := s0, H_0 := H0, env := ev, outer := ou, ex := ex0, fn := fn0, pn := pn0, xe := xe0 } (.Call (.Name x p) [e] [] pos) (tCallLam X k σf TT te) := by
  refine ⟨fun pins s σ H Q I h => ?_⟩
  refine wpAny_Call_Name_kw (ld_glob I hg hm ?_ hdb)
  refine PySem.W.callWith_K (h₀ := X.base) I.ok.mod.kin hk ?_ hst (by rfl)
  show wpAny _ _ (spliced (backTo pos (starEach [e] ev))) _ _ s
  rw [hst]
  show wpAny _ _ (spliced ((false, eval e ev) :: backTo pos (starEach [] ev))) _ _ s
  refine Calls.spliced_cons (thn (he.run pins s σ H _ I h) fun u s' ⟨v, H1, I1, r1, q1⟩ => ?_)
  obtain ⟨B, t, f, hB, rfl, hAt, hq⟩ := q1
  obtain rfl : u = Value.ref f := r1
  refine Calls.spliced_nil ⟨I1.kIn, ?_⟩
  obtain ⟨dV', pm', c', ctv', hf, hco, hdv⟩ := id hAt
  have rc : codeAny (model X.prog X.w) X.A (.call (.ref g) ⟨[.ref f], []⟩) (CR C8.CX0 X.stack X.prog X.w H1 s' Q C8.E0) s' := by
    refine run_ofS (N := Ng) (ps := [a]) (us := [.ref f]) (vs := [.ref f]) lk hcg Sg hr I1.env0 (hb s' [.ref f] I1.kIn rfl) (.cons rfl .nil) rfl fun hr' => ?_
    obtain ⟨t', ht', hq'⟩ := hG f c' s' H1 Q (fun E H' Q' => LamAt X B H' f ∧ t E (σf σ) H' Q') (fun W pn xe E p1 p2 tk hW => ⟨fun pins2 s2 σ2 H2 Q2 I2 h2 => (pe_actD (i := 0) (p1 := p1) (p2 := p2) (hH B pins s' σ H1 hB.L I1) hB.L hB.bd tk hW hr' (fun A outer s H c' hr2 => hB.body A outer s H E f c' hr2) hNg hva hd hcd).run pins2 s2 σ2 H2 Q2 I2 ⟨h2.1, h2.2.2⟩⟩) hco hq
    exact ⟨t', ht'.nox, hq'⟩
  refine wpAny_call (codeAny_mono rc fun r s2 hq => ?_)
  cases r with
  | error e => exact (show False from hq).elim
  | ok fl =>
    cases fl with
    | ret u => exact I1.after hq
    | next => exact False.elim hq
    | brk => exact False.elim hq
    | cont => exact False.elim hq
/-- the same in the maker's own frame -/
theorem pe_callLam {X : Cx} {TT : (XK → Hp → VK → Prop) → Hp → VK → Prop} {x a : Str} {g : Addr} {k : Nat} {pg : Arguments} {bg : List Stmt} {sg : Scope} {dV kV doc pm cdv ct oc : Value} {an od : Option Addr} {osl : Array (Option Value)} {Ng : List Str} {e : Expr} {te : TE} {p pos : Pos} (hg : Gl X x) (hm : X.mg x = some (.ref g)) (hk : PySem.W.keepIn X.K (.ref g) = true)
    (lk : X.K.lookup g = some ⟨oc, od, .func (PySem.W.fnOf x x pg bg sg dV kV doc pm an cdv ct), osl⟩) (hcg : PySem.W.codeIn X.K cdv x = true) (hb : L2.Binds X.K (PySem.W.fnOf x x pg bg sg dV kV doc pm an cdv ct) [a] []) (Sg : FnScope Ng [a] sg) (hNg : Ng[0]? = some a) (hva : Vis sg a)
    (hG : GivesTo X Ng x sg g cdv bg a (X.env.qual ++ "<lambda>") TT) (hr : Room (k + 2) X.A) (he : PE X e te) (hst : starEach [e] X.env = (false, eval e X.env) :: starEach [] X.env := by rfl)
    (hdb : (x == ("__debug__" : Str)) = false := by decide) (hd : (a == ("__debug__" : Str)) = false := by decide) (hcd : (a == ("__classdict__" : Str)) = false := by decide) : PE X (.Call (.Name x p) [e] [] pos) (tCallLam X k id TT te) :=
  pe_callLamY (X := X) (s0 := X.s_0) (H0 := X.H_0) (ev := X.env) (ou := X.outer) (ex0 := X.ex) (fn0 := X.fn) (pn0 := X.pn) (xe0 := X.xe) (σf := id) hg hm hk lk hcg hb Sg hNg hva hG hr (fun B pins s σ H L I => Home.of L I) he hst hdb hd hcd
/-! ### by cells -/
/-- a lambda among the cells -/
def LamC (X : Cx) (B : LamI) (L : List Cell) (f : Addr) : Prop := ∃ (dV pm : Value) (c' : Addr) (ctv : Value), (f, LamO f (lmObj (X.env.qual ++ "<lambda>") B.params B.body B.scope (cloFrom X.env.cells B.scope.names []) dV pm c' ctv)) ∈ L ∧ (c', CodeO c' (X.env.qual ++ "<lambda>")) ∈ L ∧ (match B.ds with | none => dV = .none | some i => ∃ d : Addr, dV = .ref d ∧ (d, HO.tup [.int i]) ∈ L)
theorem LamC.at {X : Cx} {B : LamI} {L : List Cell} {f : Addr} (h : LamC X B L f) {H : Hp} (O : Own H L) : LamAt X B H f := by
  obtain ⟨dV, pm, c', ctv, h1, h2, h3⟩ := h
  refine ⟨dV, pm, c', ctv, O.mem h1, O.mem h2, ?_⟩
  cases hd : B.ds with
  | none =>
    rw [hd] at h3
    exact h3
  | some i =>
    rw [hd] at h3
    obtain ⟨d, e, h4⟩ := h3
    exact ⟨d, e, O.mem h4⟩
theorem lbd0 {p : Arguments} {b : Expr} {s : Scope} (h : ∀ (q : Str) (cl : List (Str × Addr)) (pm cv ctv : Value), bindArgs (lmFn q p b s cl .none pm cv ctv) ⟨[], []⟩ = pure []) : LBd ⟨p, b, s, none, []⟩ := ⟨rfl, h⟩
theorem lbd1 {p : Arguments} {b : Expr} {s : Scope} {i : Int} {x0 : Str} (h : ∀ (T : Addr) (q : Str) (cl : List (Str × Addr)) (pm cv ctv u : Value), ∃ k, bindArgs (lmFn q p b s cl (.ref T) pm cv ctv) ⟨[], []⟩ = seqItems? (.ref T) >>= k ∧ k (some #[u]) = pure [(x0, u)]) : LBd ⟨p, b, s, some i, [x0]⟩ := ⟨x0, rfl, h⟩
theorem dfl0 {X : Cx} {p : Arguments} (h : defaultsOf p X.env = ([], [])) : Dfl X p none := h
theorem dfl1 {X : Cx} {p : Arguments} {i : Int} {e : Expr} (h : defaultsOf p X.env = ([eval e X.env], [])) (pe : PE X e (tC (.int i))) : Dfl X p (some i) := ⟨e, h, pe⟩
theorem TabC.mono {TL TL' : List Cell} {P : Addr} {q : Str} (t : TabC TL P q) (h : ∀ c ∈ TL, c ∈ TL') : TabC TL' P q := by
  obtain ⟨ps, h1, h2, h3⟩ := t
  refine ⟨ps, h _ h1, h2, fun pos cv hc => ?_⟩
  obtain ⟨c, e, hm⟩ := h3 pos cv hc
  exact ⟨c, e, h _ hm⟩
theorem Own.meetX {H : Hp} {L : List Cell} {q : Addr} {o : HO} (O : Own H L) (h : H q = some o) : ∃ N : List Cell, Own H (N ++ L) ∧ (q, o) ∈ N ++ L ∧ ∀ c ∈ N, c = (q, o) := by
  by_cases m : q ∈ L.map (·.1)
  · obtain ⟨c, hc, e⟩ := List.mem_map.mp m
    have := O.2 c hc
    rw [e, h] at this
    have e2 : c = (q, o) := Prod.ext e (Option.some.inj this).symm
    exact ⟨[], O, by rw [← e2]; exact hc, fun c hc => nomatch hc⟩
  · exact ⟨[(q, o)], ⟨List.nodup_cons.mpr ⟨m, O.1⟩, fun c hc => (List.mem_cons.mp hc).elim (fun e => by rw [e]; exact h) (O.2 c)⟩, List.mem_cons_self, fun c hc => List.mem_singleton.mp hc⟩
theorem lamV_goE {X : Cx} {B : LamI} {P : Addr} {q : Str} {σ : L2.St} {H : Hp} {Q : VK} {L TL : List Cell} (O : Own H (L ++ TL)) (n : NT L) (ht : TabC TL P q) (hq : X.env.qual ++ "<lambda>" = q)
    (k : ∀ (f : Addr) (H1 : Hp) (F TL' : List Cell), ExtN H H1 → TabC TL' P q → NT F → LamC X B (F ++ (L ++ TL')) f → Own H1 (F ++ (L ++ TL')) → Q (.ref f) H1) : tLamV X [(P, q)] B σ H Q := by
  refine ⟨fun p hp => ?_, fun f H1 e T1 hf hat => ?_⟩
  · rw [List.mem_singleton.mp hp]
    exact ht.tab fun c hc => O.2 c (List.mem_append_right _ hc)
  · obtain ⟨TL', h1, O1⟩ := tab_cells (T1 (P, q) List.mem_cons_self) ((O.left).extN n e) n
    obtain ⟨dV, pm, c', ctv, a1, a2, a3⟩ := hat
    obtain ⟨N1, O2, m2, _⟩ := O1.meetX a2
    obtain ⟨N3, O3, m3, hN3⟩ := O2.meetX a1
    have ntF : NT N3 := fun c hc => by
      rw [hN3 c hc]
      rfl
    have pm3 : ∀ {M : List Cell}, (M ++ (N3 ++ (N1 ++ (L ++ TL')))).Perm ((M ++ N3) ++ (L ++ (N1 ++ TL'))) := fun {M} => by
      refine cnt_perm fun c => ?_
      simp only [cnt_app]
      omega
    have tb : TabC (N1 ++ TL') P q := h1.mono fun c hc => List.mem_append_right _ hc
    cases hds : B.ds with
    | none =>
      rw [hds] at a3
      have O4 := O3.perm (pm3 (M := []))
      refine k f H1 N3 (N1 ++ TL') e tb ntF ⟨dV, pm, c', ctv, (pm3 (M := [])).mem_iff.mp m3, (pm3 (M := [])).mem_iff.mp (List.mem_append_right N3 m2), by rw [hds]; exact a3⟩ O4
    | some i =>
      rw [hds] at a3
      obtain ⟨d, e1, e2⟩ := a3
      obtain ⟨N4, O4, m4, hN4⟩ := O3.meetX e2
      have ntG : NT (N4 ++ N3) := NT.app (fun c hc => by rw [hN4 c hc]; rfl) ntF
      have O5 := O4.perm (pm3 (M := N4))
      refine k f H1 (N4 ++ N3) (N1 ++ TL') e tb ntG ⟨dV, pm, c', ctv, (pm3 (M := N4)).mem_iff.mp (List.mem_append_right _ m3), (pm3 (M := N4)).mem_iff.mp (List.mem_append_right _ (List.mem_append_right _ m2)), by rw [hds]; exact ⟨d, e1, (pm3 (M := N4)).mem_iff.mp m4⟩⟩ O5
theorem lamV_go {X : Cx} {B : LamI} {P : Addr} {q : Str} {σ : L2.St} {H : Hp} {Q : VK} {L TL : List Cell} (O : Own H (L ++ TL)) (n : NT L) (ht : TabC TL P q) (hq : X.env.qual ++ "<lambda>" = q)
    (k : ∀ (f : Addr) (H1 : Hp) (F TL' : List Cell), TabC TL' P q → NT F → LamC X B (F ++ (L ++ TL')) f → Own H1 (F ++ (L ++ TL')) → Q (.ref f) H1) : tLamV X [(P, q)] B σ H Q :=
  lamV_goE O n ht hq fun f H1 F TL' _ => k f H1 F TL'
theorem LamAt.ext {X : Cx} {B : LamI} {H H' : Hp} {f : Addr} (h : LamAt X B H f) (e : ExtN H H') : LamAt X B H' f := by
  obtain ⟨dV, pm, c', ctv, a1, a2, a3⟩ := h
  refine ⟨dV, pm, c', ctv, e _ _ a1 (fun ps z => by cases z), e _ _ a2 (fun ps z => by cases z), ?_⟩
  cases hds : B.ds with
  | none =>
    rw [hds] at a3
    exact a3
  | some i =>
    rw [hds] at a3
    obtain ⟨d, e1, e2⟩ := a3
    exact ⟨d, e1, e _ _ e2 (fun ps z => by cases z)⟩
theorem lam_cells {X : Cx} {B : LamI} {H : Hp} {L : List Cell} {f : Addr} (O : Own H L) (h : LamAt X B H f) : ∃ N : List Cell, Own H (N ++ L) ∧ LamC X B (N ++ L) f := by
  obtain ⟨dV, pm, c', ctv, a1, a2, a3⟩ := h
  obtain ⟨N1, O1, m1, h1⟩ := O.meetX a1
  obtain ⟨N2, O2, m2, h2⟩ := O1.meetX a2
  cases hds : B.ds with
  | none =>
    rw [hds] at a3
    refine ⟨N2 ++ N1, by rw [List.append_assoc]; exact O2, dV, pm, c', ctv, ?_, ?_, by rw [hds]; exact a3⟩
    · rw [List.append_assoc]
      exact List.mem_append_right _ m1
    · rw [List.append_assoc]
      exact m2
  | some i =>
    rw [hds] at a3
    obtain ⟨d, e1, e2⟩ := a3
    obtain ⟨N3, O3, m3, h3⟩ := O2.meetX e2
    refine ⟨N3 ++ (N2 ++ N1), ?_, dV, pm, c', ctv, ?_, ?_, ?_⟩
    · rw [List.append_assoc, List.append_assoc]
      exact O3
    · rw [List.append_assoc, List.append_assoc]
      exact List.mem_append_right _ (List.mem_append_right _ m1)
    · rw [List.append_assoc, List.append_assoc]
      exact List.mem_append_right _ m2
    · rw [hds]
      refine ⟨d, e1, ?_⟩
      rw [List.append_assoc, List.append_assoc]
      exact m3
theorem callLam_go {X : Cx} {B : LamI} {P : Addr} {q : Str} {σ : L2.St} {H : Hp} {Q : VK} {kk : Nat} {TT : (XK → Hp → VK → Prop) → Hp → VK → Prop} {L TL : List Cell} (O : Own H (L ++ TL)) (n : NT L) (ht : TabC TL P q) (hq : X.env.qual ++ "<lambda>" = q)
    (k : ∀ (f : Addr) (H1 : Hp) (F TL' : List Cell), TabC TL' P q → NT F → LamC X B (F ++ (L ++ TL')) f → Own H1 (F ++ (L ++ TL')) → ∃ t : XK → TE, LamK X kk B t ∧ TT (fun E H' Q' => LamAt X B H' f ∧ t E σ H' Q') H1 Q) : tCallLam X kk id TT (tLamV X [(P, q)] B) σ H Q :=
  lamV_go O n ht hq fun f H1 F TL' h1 h2 h3 O1 => by
    obtain ⟨t, hk, h⟩ := k f H1 F TL' h1 h2 h3 O1
    exact ⟨B, t, f, hk, rfl, h3.at O1, h⟩
theorem seqLst_go {i : Nat} {v : V} {a : TE} {r : L2.TA} {g : TG} {u : TS} {D : Ends} {rt : VK} {bk ct : L2.St → Hp → Prop} {σ : L2.St} {H : Hp} (h : a (σ.set i (some v)) H fun x H1 => r (σ.set i (some v)) H1 fun xs H2 => (x :: xs).length ≤ sizeLine ∧ ∀ p, H2 p = none → g (.ref p) (σ.set i (some v)) (upd H2 p (.lst (x :: xs))) (u D)) : gName i v σ H (Ends.mk (tSeq (tAsg (tLst (tCons a r)) g) u D) rt bk ct).nx := h
theorem tCons_go {a : TE} {r : L2.TA} {σ : L2.St} {H : Hp} {Q : List V → Hp → Prop} (h : a σ H fun x H1 => r σ H1 fun xs H2 => Q (x :: xs) H2) : tCons a r σ H Q := h
end lamLayer
-- WwLc
/-! ### a comprehension whose test is never so, the test told of the outer frame -/
section
variable {X : Cx}
def tLcF (wi : TI) (g : TG) (tt : L2.St → TT) (vs : List Nat) : TE := fun σ H Q => wi σ H fun J H1 => ∀ D, H1 D = none → ∃ W : Nat → Nat → Hp → Prop, (∃ m, W 0 m (upd H1 D (.lst []))) ∧
  ∀ i m H2, W i m H2 → (J.stop i H2 ∧ Q (.ref D) H2) ∨ (J.go i H2 ∧ ∃ N : Hp → Prop, (∀ H5, N H5 → ∃ m', m' < m ∧ W (i + 1) m' H5) ∧ ∀ x H3, J.yld i H2 x H3 → g x (wipe σ vs) H3 fun σ4 H4 => wipe σ4 vs = wipe σ vs ∧ tt σ σ4 H4 fun b H5 => b = false ∧ N H5)
/-- what the block's iterator has is let alone by what is asked of the block -/
theorem fpIn {s0 : Shared} {H0 : Hp} {scope : Scope} {ce : Env} {fp : List Addr} {σ' : L2.St} {H' : Hp} {s' : Shared} (J : Inv (X.blk s0 H0 scope ce fp) [] σ' H' s') (z : ∀ b ∈ fp, H' b = none) : ∀ b ∈ fp, FpOk (X.blk s0 H0 scope ce fp) [] H' b := by
  intro b hb
  have q := J.ok.exf b hb
  refine ⟨z b hb, q.1, J.ok.exfs b hb, Or.inl hb, q.2, ?_⟩
  intro p hp
  have hp : p ∈ ([] : List (Addr × Obj)) ++ [] := hp
  simp at hp
theorem lcF_loop {s0 s4 : Shared} {H0 : Hp} {σ : L2.St} {elt tg iter : Expr} {ifs : List Expr} {scope : Scope} {pos : Pos} {ce : Env} {fp : List Addr} {it D : Addr} {tn : Nat → Heap → Prop} {J : It} {g : TG} {tt : TT} {vs : List Nat} {Q : VK} {R : Result → Shared → Prop} {W : Nat → Nat → Hp → Prop} {m0 : Nat}
    (hc : X.calm = true) (T : Turn X.prog X.w X.K tg J fp it tn) (I4 : Inv (X.blk s0 H0 scope ce fp) [] (wipe σ vs) H0 s4) (st : tn 0 s4.heap) (nf : ∀ b ∈ fp, H0 b = none) (pg : PG (X.blk s0 H0 scope ce fp) tg g) (pt : PTs (X.blk s0 H0 scope ce fp) ifs tt) (w0 : W 0 m0 H0)
    (turn : ∀ i m H2, W i m H2 → (J.stop i H2 ∧ Q (.ref D) H2) ∨ (J.go i H2 ∧ ∃ N : Hp → Prop, (∀ H5, N H5 → ∃ m', m' < m ∧ W (i + 1) m' H5) ∧ ∀ x H3, J.yld i H2 x H3 → g x (wipe σ vs) H3 fun σ4 H4 => wipe σ4 vs = wipe σ vs ∧ tt σ4 H4 fun b H5 => b = false ∧ N H5))
    (hR : ∀ s' H', Inv (X.blk s0 H0 scope ce fp) [] (wipe σ vs) H' s' → Q (.ref D) H' → R (.ok .next) s') :
    codeAny (model X.prog X.w) X.A (.compLoop (.ListComp elt [⟨tg, iter, ifs, 0⟩] scope pos) 0 (.ref it) (.ref D) ce) R s4 := by
  refine compLoop_any (fun m s' => ∃ (i : Nat) (H' : Hp), W i m H' ∧ tn i s'.heap ∧ (∀ b ∈ fp, H' b = none) ∧ Inv (X.blk s0 H0 scope ce fp) [] (wipe σ vs) H' s') (fun m s5 hyp => ?_) m0 ⟨0, H0, w0, st, nf, I4⟩
  obtain ⟨i, H5, w5, t5, n5, I5⟩ := hyp
  have F5 := fpIn I5 n5
  cases turn i m H5 w5 with
  | inl z =>
    refine thnF (T.done (X.blk s0 H0 scope ce fp) rfl rfl rfl hc i [] s5 (wipe σ vs) H5 (fun _ _ => False) I5 F5 t5 z.1) (fun r s6 hr => ?_)
    rw [hr.1]
    exact hR s6 H5 hr.2 z.2
  | inr z =>
    obtain ⟨zg, N, hN, zs⟩ := z
    refine thnF (T.item (X.blk s0 H0 scope ce fp) rfl rfl rfl hc i [] s5 (wipe σ vs) H5 (fun _ _ => False) I5 F5 t5 zg) (fun r s6 hr => ?_)
    obtain ⟨u, e, hn⟩ := hr
    rw [e]
    refine thnF hn (fun _ s7 hy => ?_)
    obtain ⟨x, H7, I7, rx, y7, t7, n7⟩ := hy
    have P7 := I7.pinned (fpIn I7 n7) (T.obj _ _ t7)
    refine thnF (pg.run _ s7 _ H7 x u _ P7 rx (zs x H7 y7)) (fun _ s8 hs => ?_)
    obtain ⟨σ8, H8, I8, e8, q8⟩ := hs
    refine thnF (pt.run _ s8 σ8 H8 _ I8 q8) (fun b s9 hb => ?_)
    obtain ⟨H9, I9, rfl, hn9⟩ := hb
    obtain ⟨m', lt, w9⟩ := hN H9 hn9
    have pn : ∀ b ∈ fp, ∀ o, s7.heap.get? b = some o → s9.heap.get? b = some o ∧ H9 b = none := fun b hb o eo => by
      have := I9.pin (b, o) (List.mem_append_right _ (List.mem_append_right _ (mem_pinsAt hb eo)))
      exact ⟨this.1, this.2.1⟩
    refine ⟨m', lt, i + 1, H9, w9, T.keep _ _ _ t7 fun b hb o eo => (pn b hb o eo).1, fun b hb => ?_, (I9.unpinned (pins := [])).weak ?_ fun j v ev => ?_⟩
    · obtain ⟨o, eo, _⟩ := T.obj _ _ t7 b hb
      exact (pn b hb o eo).2
    · rw [← e8, wipe_length]
    · rw [← e8] at ev
      exact (wipe_some ev).1
theorem pe_lcF {elt tg iter : Expr} {ifs : List Expr} {scope : Scope} {own : List (Str × Nat)} {pos : Pos} {wi : TI} {g : TG} {tt : L2.St → TT} (hc : X.calm = true) (hN : X.N.Nodup) (hi : PI X tg iter wi) (ok : BlkOk X.N X.env.scope scope own)
    (hg : ∀ (s : Shared) (H : Hp) (C : Addr) (cl : List (Str × Addr)) (fp : List Addr), PG (X.blk s H scope (compEnvC scope cl C X.env) fp) tg g)
    (ht : ∀ (pins : List (Addr × Obj)) (σ : L2.St) (s : Shared) (H : Hp) (C : Addr) (cl : List (Str × Addr)) (fp : List Addr), Inv X pins σ H s → (∀ b ∈ fp, FpOk X pins H b) → PTs (X.blk s H scope (compEnvC scope cl C X.env) fp) ifs (tt σ))
    (hs : ∀ x, foldedSetIterable iter X.env x = pure x := by intro _; rfl) : PE X (.ListComp elt [⟨tg, iter, ifs, 0⟩] scope pos) (tLcF wi g tt (own.map (·.2))) := by
  refine ⟨fun pins s σ H Q I h => ?_⟩
  rw [eval_ListComp]
  have cells : ∀ y ∈ scope.names, y.2 = .free → ∃ c, X.env.cells.lookup y.1 = some c := fun y hy e => I.ok.has _ (ok.free y hy e)
  refine wpAny_comprehension_free rfl hs (closure_ok cells) ok.kind (fun y hy e => (ok.uniq y hy).trans (congrArg some e)) ?_
  refine thn (hi.run pins s σ H _ I h) (fun xv s1 hx => thn hx fun itv s2 h2 => ?_)
  obtain ⟨it, fp, tn, J, H2, rfl, I2, T, st2, f2, q⟩ := h2
  refine wpAny_newObj_type (newEnv_comp ?_) (by show 0 ≤ sizeLine; decide)
  obtain ⟨W, ⟨m0, w0⟩, turn⟩ := q s2.heap.objs.size (I2.hok.fresh (Nat.le_refl _))
  obtain ⟨D, eD⟩ : ∃ D, D = s2.heap.objs.size := ⟨_, rfl⟩
  obtain ⟨s3, e3⟩ : ∃ s3 : Shared, s3 = { s2 with heap := s2.heap.push { cls := .type "list", data := .seq ([] : List Value).toArray } } := ⟨_, rfl⟩
  have kp3 : ∀ b o, s2.heap.get? b = some o → s3.heap.get? b = some o := fun b o e => by
    rw [e3]
    exact Heap.get?_push_of_some _ e
  have I3 : Inv X pins σ (upd H2 D (.lst [])) s3 := by
    rw [e3, eD]
    exact I2.laid (t' := s2.toks) (fun b o e => Heap.get?_push_of_some _ e) (Nat.le_refl _) ⟨Nat.zero_le _, [], 0, .nil, Heap.get?_push_size _ rfl⟩
  have f3 : ∀ b ∈ fp, FpOk X pins (upd H2 D (.lst [])) b ∧ b < s3.heap.objs.size := fun b hb => by
    obtain ⟨o, eo, _⟩ := T.obj _ _ st2 b hb
    refine ⟨⟨?_, (f2 b hb).2⟩, Heap.lt_size (kp3 b o eo)⟩
    rw [upd_ne (by rw [eD]; exact Nat.ne_of_lt (Heap.lt_size eo))]
    exact (f2 b hb).1
  have st3 : tn 0 s3.heap := T.keep _ _ _ st2 fun b _ o e => kp3 b o e
  rw [← eD] at w0 turn
  rw [← e3, ← eD]
  have I4 := block_start I3 ok hN f3
  have pg := hg s3 (upd H2 D (.lst [])) s3.heap.objs.size (cellsFrom (s3.heap.objs.size + 1) scope.names (cloFrom X.env.cells scope.names [])) fp
  have pt := ht pins σ s3 (upd H2 D (.lst [])) s3.heap.objs.size (cellsFrom (s3.heap.objs.size + 1) scope.names (cloFrom X.env.cells scope.names [])) fp I3 fun b hb => (f3 b hb).1
  have st4 : tn 0 (pushCells (s3.heap.push { cls := .type "dict", data := .dict #[] }) scope.names) := T.keep _ _ _ st3 fun b _ o e => pushCells_keeps _ _ _ _ (Heap.get?_push_of_some _ e)
  have loop := lcF_loop (elt := elt) (iter := iter) (pos := pos) (D := D) (Q := Q) (R := compPost (model X.prog X.w) X.A X.xe none (EP X pins σ Q) (.ref D) s3.heap.objs.size) hc T I4 st4 (fun b hb => (f3 b hb).1.1) pg pt w0 turn (fun s6 H6 I6 qq => ?_)
  · exact codeAny_compStart_list loop (T.self X.A 0 _ _ _ st4 loop)
  · have I7 : Inv X pins σ H6 s6 := I3.call' (ch := fp) I6.os I6.base I6.hok I6.bare fun b hb => by
      obtain ⟨_, a1, _, a3, a4, a5⟩ := (f3 b hb).1
      exact ⟨a3, a1, a4, a5⟩
    obtain ⟨m, hn, _⟩ := I6.loc
    obtain ⟨_, g1, g2, g3, g4, g5⟩ := I3.fpOk (H' := H6) (Nat.le_refl _) I6.free
    exact ⟨m, hn, fun h'' sb => ⟨.ref D, H6, I7.turned (t' := s6.toks) (fun b o hb e => (sb.2 b hb).trans e) I6.free g1 g3 g4 g5, rfl, qq⟩⟩
/-- x(e) within a block, e a lambda that the block's maker has made -/
theorem pe_callLamB {s0 : Shared} {H0 : Hp} {scope : Scope} {ce : Env} {fp : List Addr} {pins : List (Addr × Obj)} {σ : L2.St} (I : Inv X pins σ H0 s0) (hf : ∀ b ∈ fp, FpOk X pins H0 b) {TT : (XK → Hp → VK → Prop) → Hp → VK → Prop} {x a : Str} {g : Addr} {k : Nat} {pg : Arguments} {bg : List Stmt} {sg : Scope} {dV kV doc pm cdv ct oc : Value} {an od : Option Addr}
    {osl : Array (Option Value)} {Ng : List Str} {e : Expr} {te : TE} {p pos : Pos} (hg : Gl (X.blk s0 H0 scope ce fp) x) (hm : X.mg x = some (.ref g)) (hk : PySem.W.keepIn X.K (.ref g) = true)
    (lk : X.K.lookup g = some ⟨oc, od, .func (PySem.W.fnOf x x pg bg sg dV kV doc pm an cdv ct), osl⟩) (hcg : PySem.W.codeIn X.K cdv x = true) (hb : L2.Binds X.K (PySem.W.fnOf x x pg bg sg dV kV doc pm an cdv ct) [a] []) (Sg : FnScope Ng [a] sg) (hNg : Ng[0]? = some a) (hva : Vis sg a)
    (hG : LamX.GivesTo X Ng x sg g cdv bg a (X.env.qual ++ "<lambda>") TT) (hr : Room (k + 2) X.A) (he : PE (X.blk s0 H0 scope ce fp) e te) (hst : starEach [e] ce = (false, eval e ce) :: starEach [] ce := by rfl)
    (hdb : (x == ("__debug__" : Str)) = false := by decide) (hd : (a == ("__debug__" : Str)) = false := by decide) (hcd : (a == ("__classdict__" : Str)) = false := by decide) :
    PE (X.blk s0 H0 scope ce fp) (.Call (.Name x p) [e] [] pos) (tCallLam X k (fun _ => σ) TT te) :=
  pe_callLamY (X := X) (σf := fun _ => σ) hg hm hk lk hcg hb Sg hNg hva hG hr (fun B pins' s' σ' H' L I' => (Home.of L I).un I'.base fun y c e hc => (hf c hc).2.2.2.2.1 y c e rfl) he hst hdb hd hcd
theorem lcF_list {K : PySem.W.Frag} {a : Addr} {xs : List V} {g : TG} {tt : L2.St → TT} {vs : List Nat} {σ : L2.St} {H1 : Hp} {D : Addr} {Qd : Hp → Prop} (Pv : Nat → Hp → Prop) (h0 : Pv 0 (upd H1 D (.lst []))) (hq : ∀ i H, i ≤ xs.length → Pv i H → SqL K H a xs)
    (step : ∀ i x H, xs[i]? = some x → Pv i H → g x (wipe σ vs) H fun σ4 H4 => wipe σ4 vs = wipe σ vs ∧ tt σ σ4 H4 fun b H5 => b = false ∧ Pv (i + 1) H5) (fin : ∀ H, Pv xs.length H → Qd H) :
    ∃ W : Nat → Nat → Hp → Prop, (∃ m, W 0 m (upd H1 D (.lst []))) ∧
      ∀ i m H2, W i m H2 → ((Itl K a).stop i H2 ∧ Qd H2) ∨ ((Itl K a).go i H2 ∧ ∃ N : Hp → Prop, (∀ H5, N H5 → ∃ m', m' < m ∧ W (i + 1) m' H5) ∧ ∀ x H3, (Itl K a).yld i H2 x H3 → g x (wipe σ vs) H3 fun σ4 H4 => wipe σ4 vs = wipe σ vs ∧ tt σ σ4 H4 fun b H5 => b = false ∧ N H5) := by
  refine ⟨fun i m H => i + m = xs.length ∧ Pv i H, ⟨xs.length, Nat.zero_add _, h0⟩, fun i m H2 hw => ?_⟩
  obtain ⟨him, hp⟩ := hw
  have sq := hq i H2 (by omega) hp
  cases m with
  | zero =>
    obtain rfl : i = xs.length := him
    exact .inl ⟨⟨xs, sq, Nat.le_refl _⟩, fin H2 hp⟩
  | succ m =>
    have hi : i < xs.length := by omega
    refine .inr ⟨⟨xs, xs[i], sq, List.getElem?_eq_getElem hi⟩, Pv (i + 1), fun H5 h5 => ⟨m, Nat.lt_succ_self m, by omega, h5⟩, fun x H3 hy => ?_⟩
    obtain ⟨rfl, hx⟩ := hy
    exact step i x _ (hx xs sq) hp
end
theorem gRet_go {i : Nat} {v : V} {rr : R2} {a b : TE} {r : L2.TA} {D : Ends} {rt : VK} {bk ct : L2.St → Hp → Prop} {σ : L2.St} {H : Hp} (h : a (σ.set i (some v)) H fun x H1 => r (σ.set i (some v)) H1 fun xs H2 => (x :: xs).length ≤ sizeLine ∧ ∀ p, H2 p = none → b (σ.set i (some v)) (upd H2 p (.lst (x :: xs))) fun y H3 => rr (.ref p) y H3 D.rt) :
    gName i v σ H (Ends.mk (tRet (tOp rr (tLst (tCons a r)) b) D) rt bk ct).nx := h
theorem lam_here {X : Cx} {B : LamI} {L : List Cell} {f : Addr} {kk : Nat} {t : XK → TE} {H : Hp} {σ : L2.St} {Q : VK} {TT : (XK → Hp → VK → Prop) → Hp → VK → Prop} (C : LamC X B L f) (O : Own H L) (k : LamK X kk B t) (h : TT (fun E H' Q' => LamAt X B H' f ∧ t E σ H' Q') H Q) :
    ∃ (B : LamI) (t : XK → TE) (f' : Addr), LamK X kk B t ∧ V.ref f = .ref f' ∧ LamAt X B H f' ∧ TT (fun E H' Q' => LamAt X B H' f' ∧ t E σ H' Q') H Q := ⟨B, t, f, k, rfl, C.at O, h⟩
theorem LamC.mono {X : Cx} {B : LamI} {L L' : List Cell} {f : Addr} (h : LamC X B L f) (s : ∀ c ∈ L, c ∈ L') : LamC X B L' f := by
  obtain ⟨dV, pm, c', ctv, a1, a2, a3⟩ := h
  refine ⟨dV, pm, c', ctv, s _ a1, s _ a2, ?_⟩
  cases hds : B.ds with
  | none =>
    rw [hds] at a3
    exact a3
  | some i =>
    rw [hds] at a3
    obtain ⟨d, e1, e2⟩ := a3
    exact ⟨d, e1, s _ e2⟩
theorem LamC.drop {X : Cx} {B : LamI} {R : List Cell} {f a : Addr} {xs : List V} (h : LamC X B ((a, .lst xs) :: R) f) : LamC X B R f := by
  have q : ∀ (c : Addr) (o : HO), (∀ ys, o ≠ .lst ys) → (c, o) ∈ ((a, HO.lst xs) :: R) → (c, o) ∈ R := fun c o n m => by
    rcases List.mem_cons.mp m with z | z
    · exact absurd (congrArg Prod.snd z) (n xs)
    · exact z
  obtain ⟨dV, pm, c', ctv, a1, a2, a3⟩ := h
  refine ⟨dV, pm, c', ctv, q _ _ (fun ys z => by cases z) a1, q _ _ (fun ys z => by cases z) a2, ?_⟩
  cases hds : B.ds with
  | none =>
    rw [hds] at a3
    exact a3
  | some i =>
    rw [hds] at a3
    obtain ⟨d, e1, e2⟩ := a3
    exact ⟨d, e1, q _ _ (fun ys z => by cases z) e2⟩
-- WwModel
/-! ### the rooms, plainly -/
structure Ln where
  b : Nat
  ns : List Int
  d : Bool
/-- a room's rule: ways, write back, take in, leave late; its title -/
structure Ru where
  ways : Nat
  bk : Bool
  inn : Bool
  lt : Bool
  tl : List V
structure Rm where
  ru : Ru
  ss : List (List Ln)
structure Ent where
  tl : List V
  w : Str
  n : Nat
/-- what stands behind: rooms, the far room's cells, the log -/
structure Ta where
  rs : List Rm
  far : List Int
  log : List Ent
def Ent.vs (e : Ent) : List V := e.tl ++ [.str e.w, .int e.n]
def Rm.ix (r : Rm) (b : Nat) : Nat := b % r.ss.length
def Rm.ls (r : Rm) (b : Nat) : List Ln := r.ss.getD (r.ix b) []
def Rm.put (r : Rm) (b : Nat) (ls : List Ln) : Rm := { r with ss := r.ss.set (r.ix b) ls }
def fnd (b : Nat) : List Ln → Option Nat
  | [] => none
  | l :: r => if l.b = b then some 0 else (fnd b r).map (· + 1)
def Ta.note (t : Ta) (tl : List V) (w : Str) (n : Nat) : Ta := { t with log := t.log ++ [⟨tl, w, n⟩] }
def Ta.cons (r : Rm) (t : Ta) : Ta := { t with rs := r :: t.rs }
def setBlk (far : List Int) (b : Nat) (ns : List Int) : List Int := far.take (b * 4) ++ ns ++ far.drop (b * 4 + 4)
def getBlk (far : List Int) (b : Nat) : List Int := (far.drop (b * 4)).take 4
/-- what may be asked of what stands behind -/
structure Ops where
  hm : Ta → Nat → List Int → Ta
  br : Ta → Nat → List Int × Ta
  ch : Ta → Nat → Int → Ta
def farOps : Ops where
  hm := fun t b ns => { t with far := setBlk t.far b ns }
  br := fun t b => (getBlk t.far b, t)
  ch := fun t p v => { t with far := t.far.set p v }
def passH (o : Ops) (tl : List V) (t : Ta) (b : Nat) (ns : List Int) : Ta := o.hm (t.note tl "home" b) b ns
def passC (o : Ops) (tl : List V) (t : Ta) (p : Nat) (v : Int) : Ta := o.ch (t.note tl "cell" p) p v
/-- one set's lines, by what is done of them -/
def mkWay (o : Ops) (u : Ru) (ls : List Ln) (t : Ta) : List Ln × Ta :=
  if ls.length = u.ways then
    match ls with
    | [] => ([], t)
    | l :: rest => (rest, if l.d = true then passH o u.tl t l.b l.ns else t)
  else (ls, t)
def touchL {α : Type} (lt : Bool) (ls : List α) (i : Nat) : List α := if lt = true then ls.eraseIdx i ++ (ls[i]?).toList else ls
def touchI {α : Type} (lt : Bool) (ls : List α) (i : Nat) : Nat := if lt = true then ls.length - 1 else i
/-- reach: the lines, what is behind, the line's place -/
def reachL (o : Ops) (u : Ru) (ls : List Ln) (t : Ta) (b : Nat) : List Ln × Ta × Nat :=
  match fnd b ls with
  | some i => (touchL u.lt ls i, t, touchI u.lt ls i)
  | none => ((mkWay o u ls t).1 ++ [⟨b, (o.br ((mkWay o u ls t).2.note u.tl "bring" b) b).1, false⟩], (o.br ((mkWay o u ls t).2.note u.tl "bring" b) b).2, (mkWay o u ls t).1.length)
def lnAt (ls : List Ln) (i : Nat) : Ln := ls.getD i ⟨0, [], false⟩
def bringL (o : Ops) (u : Ru) (ls : List Ln) (t : Ta) (b : Nat) : List Int × List Ln × Ta :=
  ((lnAt (reachL o u ls t b).1 (reachL o u ls t b).2.2).ns, (reachL o u ls t b).1, (reachL o u ls t b).2.1)
def lookL (o : Ops) (u : Ru) (ls : List Ln) (t : Ta) (p : Nat) : Int × List Ln × Ta :=
  ((lnAt (reachL o u ls t (p / 4)).1 (reachL o u ls t (p / 4)).2.2).ns.getD (p % 4) 0, (reachL o u ls t (p / 4)).1, (reachL o u ls t (p / 4)).2.1)
def setCell (bk : Bool) (l : Ln) (p : Nat) (v : Int) : Ln := { l with ns := l.ns.set (p % 4) v, d := bk || l.d }
def changeL (o : Ops) (u : Ru) (ls : List Ln) (t : Ta) (p : Nat) (v : Int) : List Ln × Ta :=
  if u.inn = false ∧ fnd (p / 4) ls = none then (ls, passC o u.tl t p v)
  else
    ((reachL o u ls t (p / 4)).1.set (reachL o u ls t (p / 4)).2.2 (setCell u.bk (lnAt (reachL o u ls t (p / 4)).1 (reachL o u ls t (p / 4)).2.2) p v),
      if u.bk = true then (reachL o u ls t (p / 4)).2.1 else passC o u.tl (reachL o u ls t (p / 4)).2.1 p v)
def homeL (o : Ops) (u : Ru) (ls : List Ln) (t : Ta) (b : Nat) (ns : List Int) : List Ln × Ta :=
  match fnd b ls with
  | none =>
    if u.inn = true then ((mkWay o u ls t).1 ++ [⟨b, ns, u.bk⟩], if u.bk = true then (mkWay o u ls t).2 else passH o u.tl (mkWay o u ls t).2 b ns)
    else (ls, passH o u.tl t b ns)
  | some i => ((touchL u.lt ls i).set (touchI u.lt ls i) ⟨b, ns, u.bk⟩, if u.bk = true then t else passH o u.tl t b ns)
def yieldL (o : Ops) (u : Ru) (ls : List Ln) (t : Ta) (b : Nat) (gone : Bool) : List Ln × Ta :=
  match fnd b ls with
  | none => (ls, t)
  | some i => (if gone = true then ls.eraseIdx i else ls.set i { lnAt ls i with d := false }, if (lnAt ls i).d = true then passH o u.tl t b (lnAt ls i).ns else t)
def settleL (o : Ops) (u : Ru) : List Ln → Ta → List Ln × Ta
  | [], t => ([], t)
  | l :: r, t => ({ l with d := false } :: (settleL o u r (if l.d = true then passH o u.tl t l.b l.ns else t)).1, (settleL o u r (if l.d = true then passH o u.tl t l.b l.ns else t)).2)
def settleS (o : Ops) (u : Ru) : List (List Ln) → Ta → List (List Ln) × Ta
  | [], t => ([], t)
  | ls :: r, t => ((settleL o u ls t).1 :: (settleS o u r (settleL o u ls t).2).1, (settleS o u r (settleL o u ls t).2).2)
def ops : Nat → Ops
  | 0 => farOps
  | n + 1 => {
      hm := fun t b ns => match t.rs with
        | [] => t
        | r :: rs => Ta.cons (r.put b (homeL (ops n) r.ru (r.ls b) { t with rs := rs } b ns).1) (homeL (ops n) r.ru (r.ls b) { t with rs := rs } b ns).2
      br := fun t b => match t.rs with
        | [] => ([], t)
        | r :: rs => ((bringL (ops n) r.ru (r.ls b) { t with rs := rs } b).1, Ta.cons (r.put b (bringL (ops n) r.ru (r.ls b) { t with rs := rs } b).2.1) (bringL (ops n) r.ru (r.ls b) { t with rs := rs } b).2.2)
      ch := fun t p v => match t.rs with
        | [] => t
        | r :: rs => Ta.cons (r.put (p / 4) (changeL (ops n) r.ru (r.ls (p / 4)) { t with rs := rs } p v).1) (changeL (ops n) r.ru (r.ls (p / 4)) { t with rs := rs } p v).2 }

/-! ### what holds of them -/
structure LnOk (l : Ln) : Prop where
  b : l.b < 16
  ns : l.ns.length = 4
structure LsOk (u : Ru) (ls : List Ln) : Prop where
  len : ls.length ≤ u.ways
  ok : ∀ l ∈ ls, LnOk l
structure RuOk (u : Ru) : Prop where
  w0 : 0 < u.ways
  w4 : u.ways ≤ 4
  t4 : u.tl.length ≤ 4
structure RmOk (r : Rm) : Prop where
  s0 : 0 < r.ss.length
  s4 : r.ss.length ≤ 4
  ru : RuOk r.ru
  ln : ∀ ls ∈ r.ss, LsOk r.ru ls
structure TaOk (n : Nat) (t : Ta) : Prop where
  len : t.rs.length = n
  rs : ∀ r ∈ t.rs, RmOk r
  far : t.far.length = 64

/-! ### the same with addresses -/
structure LnA where
  a : Addr
  dx : Addr
  na : Addr
  l : Ln
/-- what stands behind: rooms one before the other, the far one last -/
inductive Pa where
  | far (la : Addr)
  | room (a : Addr) (be : Pa)
def Pa.ad : Pa → Addr
  | .far la => la
  | .room a _ => a
/-- a room's head: its object, its dict, the list of its sets, its title; its rule, what is behind, the diary, the sets -/
structure Hd where
  a : Addr
  dx : Addr
  sl : Addr
  ti : Addr
  u : Ru
  be : Pa
  di : Addr
  sas : List Addr
def fLine (b n d : V) : List (Str × V) := [("block", b), ("numbers", n), ("is_dirty", d)]
def fRoom (w bk inn lt be ti di ss : V) : List (Str × V) := [("ways", w), ("is_back", bk), ("is_in", inn), ("is_late", lt), ("behind", be), ("title", ti), ("diary", di), ("sets", ss)]
def fFar (h : V) : List (Str × V) := [("held", h)]
def fHall (d l s o : V) : List (Str × V) := [("diary", d), ("last", l), ("shared", s), ("own", o)]
def lnC (CL : Addr) (l : LnA) : List Cell := [(l.a, .ins CL l.dx (fLine (.int l.l.b) (.ref l.na) (.bl l.l.d))), (l.na, .lst (l.l.ns.map V.int))]
def lnsC (CL : Addr) : List LnA → List Cell
  | [] => []
  | l :: r => lnC CL l ++ lnsC CL r
def stC (CL : Addr) (s : Addr × List LnA) : List Cell := (s.1, .lst (s.2.map fun l => V.ref l.a)) :: lnsC CL s.2
def stsC (CL : Addr) : List (Addr × List LnA) → List Cell
  | [] => []
  | s :: r => stC CL s ++ stsC CL r
def hdO (CR : Addr) (h : Hd) : HO := .ins CR h.dx (fRoom (.int h.u.ways) (.bl h.u.bk) (.bl h.u.inn) (.bl h.u.lt) (.ref h.be.ad) (.ref h.ti) (.ref h.di) (.ref h.sl))
def hdC (CR : Addr) (h : Hd) : List Cell := [(h.a, hdO CR h), (h.sl, .lst (h.sas.map V.ref)), (h.ti, .tup h.u.tl)]
/-- a room at a, with be behind and the diary di -/
def RmRep (CL CR di a : Addr) (be : Pa) (r : Rm) (C : List Cell) : Prop := ∃ (h : Hd) (ss : List (Addr × List LnA)), h.a = a ∧ h.be = be ∧ h.di = di ∧ h.u = r.ru ∧ h.sas = ss.map (·.1) ∧ r.ss = ss.map (fun s => s.2.map (·.l)) ∧ C = hdC CR h ++ stsC CL ss
/-- what stands behind -/
def Rep (CF CL CR di : Addr) : Pa → List Rm → List Int → List Cell → Prop
  | .far la, [], far, C => ∃ dx fl, C = [(la, .ins CF dx (fFar (.ref fl))), (fl, .lst (far.map V.int))]
  | .room a be, r :: rs, far, C => ∃ C1 C2 : List Cell, RmRep CL CR di a be r C1 ∧ Rep CF CL CR di be rs far C2 ∧ C = C1 ++ C2
  | _, _, _, _ => False
def logC : List Addr → List Ent → List Cell
  | a :: as, e :: es => (a, .tup e.vs) :: logC as es
  | _, _ => []
def DRep (di : Addr) (log : List Ent) (C : List Cell) : Prop := ∃ as : List Addr, as.length = log.length ∧ C = (di, .lst (as.map V.ref)) :: logC as log
-- WwField
theorem lk_hd {f : Str} {y : V} {fs : List (Str × V)} : ((f, y) :: fs).lookup f = some y := by simp [List.lookup]
theorem lk_tl {f g : Str} {y : V} {fs : List (Str × V)} (h : (g == f) = false) : ((f, y) :: fs).lookup g = fs.lookup g := by simp [List.lookup, h]
theorem pf_hd {f : Str} {y z : V} {fs : List (Str × V)} : putF f z ((f, y) :: fs) = (f, z) :: fs := by unfold putF; rw [if_pos rfl]
theorem pf_tl {f g : Str} {y z : V} {fs : List (Str × V)} (h : (g == f) = false) : putF g z ((f, y) :: fs) = (f, y) :: putF g z fs := by
  have e : ¬ f = g := fun q => by rw [q, beq_self_eq_true] at h; cases h
  show (if f = g then _ else _) = _
  rw [if_neg e]
theorem pf_nil {f : Str} {z : V} : putF f z [] = [(f, z)] := rfl
theorem ne_ask_others_diary : (("ask_others" : Str) == ("diary" : Str)) = false := by decide +kernel
theorem ne_ask_others_last : (("ask_others" : Str) == ("last" : Str)) = false := by decide +kernel
theorem ne_ask_others_own : (("ask_others" : Str) == ("own" : Str)) = false := by decide +kernel
theorem ne_ask_others_shared : (("ask_others" : Str) == ("shared" : Str)) = false := by decide +kernel
theorem ne_behind_is_back : (("behind" : Str) == ("is_back" : Str)) = false := by decide +kernel
theorem ne_behind_is_in : (("behind" : Str) == ("is_in" : Str)) = false := by decide +kernel
theorem ne_behind_is_late : (("behind" : Str) == ("is_late" : Str)) = false := by decide +kernel
theorem ne_behind_ways : (("behind" : Str) == ("ways" : Str)) = false := by decide +kernel
theorem ne_bring_behind : (("bring" : Str) == ("behind" : Str)) = false := by decide +kernel
theorem ne_bring_diary : (("bring" : Str) == ("diary" : Str)) = false := by decide +kernel
theorem ne_bring_held : (("bring" : Str) == ("held" : Str)) = false := by decide +kernel
theorem ne_bring_is_back : (("bring" : Str) == ("is_back" : Str)) = false := by decide +kernel
theorem ne_bring_is_in : (("bring" : Str) == ("is_in" : Str)) = false := by decide +kernel
theorem ne_bring_is_late : (("bring" : Str) == ("is_late" : Str)) = false := by decide +kernel
theorem ne_bring_sets : (("bring" : Str) == ("sets" : Str)) = false := by decide +kernel
theorem ne_bring_title : (("bring" : Str) == ("title" : Str)) = false := by decide +kernel
theorem ne_bring_ways : (("bring" : Str) == ("ways" : Str)) = false := by decide +kernel
theorem ne_change_behind : (("change" : Str) == ("behind" : Str)) = false := by decide +kernel
theorem ne_change_diary : (("change" : Str) == ("diary" : Str)) = false := by decide +kernel
theorem ne_change_held : (("change" : Str) == ("held" : Str)) = false := by decide +kernel
theorem ne_change_is_back : (("change" : Str) == ("is_back" : Str)) = false := by decide +kernel
theorem ne_change_is_in : (("change" : Str) == ("is_in" : Str)) = false := by decide +kernel
theorem ne_change_is_late : (("change" : Str) == ("is_late" : Str)) = false := by decide +kernel
theorem ne_change_last : (("change" : Str) == ("last" : Str)) = false := by decide +kernel
theorem ne_change_own : (("change" : Str) == ("own" : Str)) = false := by decide +kernel
theorem ne_change_sets : (("change" : Str) == ("sets" : Str)) = false := by decide +kernel
theorem ne_change_shared : (("change" : Str) == ("shared" : Str)) = false := by decide +kernel
theorem ne_change_title : (("change" : Str) == ("title" : Str)) = false := by decide +kernel
theorem ne_change_ways : (("change" : Str) == ("ways" : Str)) = false := by decide +kernel
theorem ne_diary_behind : (("diary" : Str) == ("behind" : Str)) = false := by decide +kernel
theorem ne_diary_is_back : (("diary" : Str) == ("is_back" : Str)) = false := by decide +kernel
theorem ne_diary_is_in : (("diary" : Str) == ("is_in" : Str)) = false := by decide +kernel
theorem ne_diary_is_late : (("diary" : Str) == ("is_late" : Str)) = false := by decide +kernel
theorem ne_diary_title : (("diary" : Str) == ("title" : Str)) = false := by decide +kernel
theorem ne_diary_ways : (("diary" : Str) == ("ways" : Str)) = false := by decide +kernel
theorem ne_far_diary : (("far" : Str) == ("diary" : Str)) = false := by decide +kernel
theorem ne_far_last : (("far" : Str) == ("last" : Str)) = false := by decide +kernel
theorem ne_far_own : (("far" : Str) == ("own" : Str)) = false := by decide +kernel
theorem ne_far_shared : (("far" : Str) == ("shared" : Str)) = false := by decide +kernel
theorem ne_holds_behind : (("holds" : Str) == ("behind" : Str)) = false := by decide +kernel
theorem ne_holds_diary : (("holds" : Str) == ("diary" : Str)) = false := by decide +kernel
theorem ne_holds_is_back : (("holds" : Str) == ("is_back" : Str)) = false := by decide +kernel
theorem ne_holds_is_in : (("holds" : Str) == ("is_in" : Str)) = false := by decide +kernel
theorem ne_holds_is_late : (("holds" : Str) == ("is_late" : Str)) = false := by decide +kernel
theorem ne_holds_sets : (("holds" : Str) == ("sets" : Str)) = false := by decide +kernel
theorem ne_holds_title : (("holds" : Str) == ("title" : Str)) = false := by decide +kernel
theorem ne_holds_ways : (("holds" : Str) == ("ways" : Str)) = false := by decide +kernel
theorem ne_home_behind : (("home" : Str) == ("behind" : Str)) = false := by decide +kernel
theorem ne_home_diary : (("home" : Str) == ("diary" : Str)) = false := by decide +kernel
theorem ne_home_held : (("home" : Str) == ("held" : Str)) = false := by decide +kernel
theorem ne_home_is_back : (("home" : Str) == ("is_back" : Str)) = false := by decide +kernel
theorem ne_home_is_in : (("home" : Str) == ("is_in" : Str)) = false := by decide +kernel
theorem ne_home_is_late : (("home" : Str) == ("is_late" : Str)) = false := by decide +kernel
theorem ne_home_sets : (("home" : Str) == ("sets" : Str)) = false := by decide +kernel
theorem ne_home_title : (("home" : Str) == ("title" : Str)) = false := by decide +kernel
theorem ne_home_ways : (("home" : Str) == ("ways" : Str)) = false := by decide +kernel
theorem ne_is_back_ways : (("is_back" : Str) == ("ways" : Str)) = false := by decide +kernel
theorem ne_is_dirty_block : (("is_dirty" : Str) == ("block" : Str)) = false := by decide +kernel
theorem ne_is_dirty_numbers : (("is_dirty" : Str) == ("numbers" : Str)) = false := by decide +kernel
theorem ne_is_in_is_back : (("is_in" : Str) == ("is_back" : Str)) = false := by decide +kernel
theorem ne_is_in_ways : (("is_in" : Str) == ("ways" : Str)) = false := by decide +kernel
theorem ne_is_late_is_back : (("is_late" : Str) == ("is_back" : Str)) = false := by decide +kernel
theorem ne_is_late_is_in : (("is_late" : Str) == ("is_in" : Str)) = false := by decide +kernel
theorem ne_is_late_ways : (("is_late" : Str) == ("ways" : Str)) = false := by decide +kernel
theorem ne_last_diary : (("last" : Str) == ("diary" : Str)) = false := by decide +kernel
theorem ne_line_of_behind : (("line_of" : Str) == ("behind" : Str)) = false := by decide +kernel
theorem ne_line_of_diary : (("line_of" : Str) == ("diary" : Str)) = false := by decide +kernel
theorem ne_line_of_is_back : (("line_of" : Str) == ("is_back" : Str)) = false := by decide +kernel
theorem ne_line_of_is_in : (("line_of" : Str) == ("is_in" : Str)) = false := by decide +kernel
theorem ne_line_of_is_late : (("line_of" : Str) == ("is_late" : Str)) = false := by decide +kernel
theorem ne_line_of_sets : (("line_of" : Str) == ("sets" : Str)) = false := by decide +kernel
theorem ne_line_of_title : (("line_of" : Str) == ("title" : Str)) = false := by decide +kernel
theorem ne_line_of_ways : (("line_of" : Str) == ("ways" : Str)) = false := by decide +kernel
theorem ne_lines_of_behind : (("lines_of" : Str) == ("behind" : Str)) = false := by decide +kernel
theorem ne_lines_of_diary : (("lines_of" : Str) == ("diary" : Str)) = false := by decide +kernel
theorem ne_lines_of_is_back : (("lines_of" : Str) == ("is_back" : Str)) = false := by decide +kernel
theorem ne_lines_of_is_in : (("lines_of" : Str) == ("is_in" : Str)) = false := by decide +kernel
theorem ne_lines_of_is_late : (("lines_of" : Str) == ("is_late" : Str)) = false := by decide +kernel
theorem ne_lines_of_sets : (("lines_of" : Str) == ("sets" : Str)) = false := by decide +kernel
theorem ne_lines_of_title : (("lines_of" : Str) == ("title" : Str)) = false := by decide +kernel
theorem ne_lines_of_ways : (("lines_of" : Str) == ("ways" : Str)) = false := by decide +kernel
theorem ne_log_diary : (("log" : Str) == ("diary" : Str)) = false := by decide +kernel
theorem ne_log_last : (("log" : Str) == ("last" : Str)) = false := by decide +kernel
theorem ne_log_own : (("log" : Str) == ("own" : Str)) = false := by decide +kernel
theorem ne_log_shared : (("log" : Str) == ("shared" : Str)) = false := by decide +kernel
theorem ne_look_behind : (("look" : Str) == ("behind" : Str)) = false := by decide +kernel
theorem ne_look_diary : (("look" : Str) == ("diary" : Str)) = false := by decide +kernel
theorem ne_look_is_back : (("look" : Str) == ("is_back" : Str)) = false := by decide +kernel
theorem ne_look_is_in : (("look" : Str) == ("is_in" : Str)) = false := by decide +kernel
theorem ne_look_is_late : (("look" : Str) == ("is_late" : Str)) = false := by decide +kernel
theorem ne_look_last : (("look" : Str) == ("last" : Str)) = false := by decide +kernel
theorem ne_look_own : (("look" : Str) == ("own" : Str)) = false := by decide +kernel
theorem ne_look_sets : (("look" : Str) == ("sets" : Str)) = false := by decide +kernel
theorem ne_look_shared : (("look" : Str) == ("shared" : Str)) = false := by decide +kernel
theorem ne_look_title : (("look" : Str) == ("title" : Str)) = false := by decide +kernel
theorem ne_look_ways : (("look" : Str) == ("ways" : Str)) = false := by decide +kernel
theorem ne_make_way_behind : (("make_way" : Str) == ("behind" : Str)) = false := by decide +kernel
theorem ne_make_way_diary : (("make_way" : Str) == ("diary" : Str)) = false := by decide +kernel
theorem ne_make_way_is_back : (("make_way" : Str) == ("is_back" : Str)) = false := by decide +kernel
theorem ne_make_way_is_in : (("make_way" : Str) == ("is_in" : Str)) = false := by decide +kernel
theorem ne_make_way_is_late : (("make_way" : Str) == ("is_late" : Str)) = false := by decide +kernel
theorem ne_make_way_sets : (("make_way" : Str) == ("sets" : Str)) = false := by decide +kernel
theorem ne_make_way_title : (("make_way" : Str) == ("title" : Str)) = false := by decide +kernel
theorem ne_make_way_ways : (("make_way" : Str) == ("ways" : Str)) = false := by decide +kernel
theorem ne_moves_diary : (("moves" : Str) == ("diary" : Str)) = false := by decide +kernel
theorem ne_moves_last : (("moves" : Str) == ("last" : Str)) = false := by decide +kernel
theorem ne_moves_own : (("moves" : Str) == ("own" : Str)) = false := by decide +kernel
theorem ne_moves_shared : (("moves" : Str) == ("shared" : Str)) = false := by decide +kernel
theorem ne_near_diary : (("near" : Str) == ("diary" : Str)) = false := by decide +kernel
theorem ne_near_last : (("near" : Str) == ("last" : Str)) = false := by decide +kernel
theorem ne_near_own : (("near" : Str) == ("own" : Str)) = false := by decide +kernel
theorem ne_near_shared : (("near" : Str) == ("shared" : Str)) = false := by decide +kernel
theorem ne_need_diary : (("need" : Str) == ("diary" : Str)) = false := by decide +kernel
theorem ne_need_last : (("need" : Str) == ("last" : Str)) = false := by decide +kernel
theorem ne_need_own : (("need" : Str) == ("own" : Str)) = false := by decide +kernel
theorem ne_need_shared : (("need" : Str) == ("shared" : Str)) = false := by decide +kernel
theorem ne_note_behind : (("note" : Str) == ("behind" : Str)) = false := by decide +kernel
theorem ne_note_diary : (("note" : Str) == ("diary" : Str)) = false := by decide +kernel
theorem ne_note_is_back : (("note" : Str) == ("is_back" : Str)) = false := by decide +kernel
theorem ne_note_is_in : (("note" : Str) == ("is_in" : Str)) = false := by decide +kernel
theorem ne_note_is_late : (("note" : Str) == ("is_late" : Str)) = false := by decide +kernel
theorem ne_note_sets : (("note" : Str) == ("sets" : Str)) = false := by decide +kernel
theorem ne_note_title : (("note" : Str) == ("title" : Str)) = false := by decide +kernel
theorem ne_note_ways : (("note" : Str) == ("ways" : Str)) = false := by decide +kernel
theorem ne_numbers_block : (("numbers" : Str) == ("block" : Str)) = false := by decide +kernel
theorem ne_own_diary : (("own" : Str) == ("diary" : Str)) = false := by decide +kernel
theorem ne_own_last : (("own" : Str) == ("last" : Str)) = false := by decide +kernel
theorem ne_own_shared : (("own" : Str) == ("shared" : Str)) = false := by decide +kernel
theorem ne_pass_cell_behind : (("pass_cell" : Str) == ("behind" : Str)) = false := by decide +kernel
theorem ne_pass_cell_diary : (("pass_cell" : Str) == ("diary" : Str)) = false := by decide +kernel
theorem ne_pass_cell_is_back : (("pass_cell" : Str) == ("is_back" : Str)) = false := by decide +kernel
theorem ne_pass_cell_is_in : (("pass_cell" : Str) == ("is_in" : Str)) = false := by decide +kernel
theorem ne_pass_cell_is_late : (("pass_cell" : Str) == ("is_late" : Str)) = false := by decide +kernel
theorem ne_pass_cell_sets : (("pass_cell" : Str) == ("sets" : Str)) = false := by decide +kernel
theorem ne_pass_cell_title : (("pass_cell" : Str) == ("title" : Str)) = false := by decide +kernel
theorem ne_pass_cell_ways : (("pass_cell" : Str) == ("ways" : Str)) = false := by decide +kernel
theorem ne_pass_home_behind : (("pass_home" : Str) == ("behind" : Str)) = false := by decide +kernel
theorem ne_pass_home_diary : (("pass_home" : Str) == ("diary" : Str)) = false := by decide +kernel
theorem ne_pass_home_is_back : (("pass_home" : Str) == ("is_back" : Str)) = false := by decide +kernel
theorem ne_pass_home_is_in : (("pass_home" : Str) == ("is_in" : Str)) = false := by decide +kernel
theorem ne_pass_home_is_late : (("pass_home" : Str) == ("is_late" : Str)) = false := by decide +kernel
theorem ne_pass_home_sets : (("pass_home" : Str) == ("sets" : Str)) = false := by decide +kernel
theorem ne_pass_home_title : (("pass_home" : Str) == ("title" : Str)) = false := by decide +kernel
theorem ne_pass_home_ways : (("pass_home" : Str) == ("ways" : Str)) = false := by decide +kernel
theorem ne_reach_behind : (("reach" : Str) == ("behind" : Str)) = false := by decide +kernel
theorem ne_reach_diary : (("reach" : Str) == ("diary" : Str)) = false := by decide +kernel
theorem ne_reach_is_back : (("reach" : Str) == ("is_back" : Str)) = false := by decide +kernel
theorem ne_reach_is_in : (("reach" : Str) == ("is_in" : Str)) = false := by decide +kernel
theorem ne_reach_is_late : (("reach" : Str) == ("is_late" : Str)) = false := by decide +kernel
theorem ne_reach_sets : (("reach" : Str) == ("sets" : Str)) = false := by decide +kernel
theorem ne_reach_title : (("reach" : Str) == ("title" : Str)) = false := by decide +kernel
theorem ne_reach_ways : (("reach" : Str) == ("ways" : Str)) = false := by decide +kernel
theorem ne_sets_behind : (("sets" : Str) == ("behind" : Str)) = false := by decide +kernel
theorem ne_sets_diary : (("sets" : Str) == ("diary" : Str)) = false := by decide +kernel
theorem ne_sets_is_back : (("sets" : Str) == ("is_back" : Str)) = false := by decide +kernel
theorem ne_sets_is_in : (("sets" : Str) == ("is_in" : Str)) = false := by decide +kernel
theorem ne_sets_is_late : (("sets" : Str) == ("is_late" : Str)) = false := by decide +kernel
theorem ne_sets_title : (("sets" : Str) == ("title" : Str)) = false := by decide +kernel
theorem ne_sets_ways : (("sets" : Str) == ("ways" : Str)) = false := by decide +kernel
theorem ne_settle_behind : (("settle" : Str) == ("behind" : Str)) = false := by decide +kernel
theorem ne_settle_diary : (("settle" : Str) == ("diary" : Str)) = false := by decide +kernel
theorem ne_settle_is_back : (("settle" : Str) == ("is_back" : Str)) = false := by decide +kernel
theorem ne_settle_is_in : (("settle" : Str) == ("is_in" : Str)) = false := by decide +kernel
theorem ne_settle_is_late : (("settle" : Str) == ("is_late" : Str)) = false := by decide +kernel
theorem ne_settle_last : (("settle" : Str) == ("last" : Str)) = false := by decide +kernel
theorem ne_settle_own : (("settle" : Str) == ("own" : Str)) = false := by decide +kernel
theorem ne_settle_sets : (("settle" : Str) == ("sets" : Str)) = false := by decide +kernel
theorem ne_settle_shared : (("settle" : Str) == ("shared" : Str)) = false := by decide +kernel
theorem ne_settle_title : (("settle" : Str) == ("title" : Str)) = false := by decide +kernel
theorem ne_settle_ways : (("settle" : Str) == ("ways" : Str)) = false := by decide +kernel
theorem ne_shared_diary : (("shared" : Str) == ("diary" : Str)) = false := by decide +kernel
theorem ne_shared_last : (("shared" : Str) == ("last" : Str)) = false := by decide +kernel
theorem ne_title_behind : (("title" : Str) == ("behind" : Str)) = false := by decide +kernel
theorem ne_title_is_back : (("title" : Str) == ("is_back" : Str)) = false := by decide +kernel
theorem ne_title_is_in : (("title" : Str) == ("is_in" : Str)) = false := by decide +kernel
theorem ne_title_is_late : (("title" : Str) == ("is_late" : Str)) = false := by decide +kernel
theorem ne_title_ways : (("title" : Str) == ("ways" : Str)) = false := by decide +kernel
theorem ne_touch_behind : (("touch" : Str) == ("behind" : Str)) = false := by decide +kernel
theorem ne_touch_diary : (("touch" : Str) == ("diary" : Str)) = false := by decide +kernel
theorem ne_touch_is_back : (("touch" : Str) == ("is_back" : Str)) = false := by decide +kernel
theorem ne_touch_is_in : (("touch" : Str) == ("is_in" : Str)) = false := by decide +kernel
theorem ne_touch_is_late : (("touch" : Str) == ("is_late" : Str)) = false := by decide +kernel
theorem ne_touch_sets : (("touch" : Str) == ("sets" : Str)) = false := by decide +kernel
theorem ne_touch_title : (("touch" : Str) == ("title" : Str)) = false := by decide +kernel
theorem ne_touch_ways : (("touch" : Str) == ("ways" : Str)) = false := by decide +kernel
theorem ne_yield_up_behind : (("yield_up" : Str) == ("behind" : Str)) = false := by decide +kernel
theorem ne_yield_up_diary : (("yield_up" : Str) == ("diary" : Str)) = false := by decide +kernel
theorem ne_yield_up_is_back : (("yield_up" : Str) == ("is_back" : Str)) = false := by decide +kernel
theorem ne_yield_up_is_in : (("yield_up" : Str) == ("is_in" : Str)) = false := by decide +kernel
theorem ne_yield_up_is_late : (("yield_up" : Str) == ("is_late" : Str)) = false := by decide +kernel
theorem ne_yield_up_sets : (("yield_up" : Str) == ("sets" : Str)) = false := by decide +kernel
theorem ne_yield_up_title : (("yield_up" : Str) == ("title" : Str)) = false := by decide +kernel
theorem ne_yield_up_ways : (("yield_up" : Str) == ("ways" : Str)) = false := by decide +kernel
theorem lk_Far_held {v0 : V} : (fFar v0).lookup ("held" : Str) = some v0 := lk_hd
theorem no_Far_bring {v0 : V} : (fFar v0).lookup ("bring" : Str) = none := (lk_tl ne_bring_held).trans (rfl)
theorem no_Far_home {v0 : V} : (fFar v0).lookup ("home" : Str) = none := (lk_tl ne_home_held).trans (rfl)
theorem no_Far_change {v0 : V} : (fFar v0).lookup ("change" : Str) = none := (lk_tl ne_change_held).trans (rfl)
theorem pf_Far_held {v0 z : V} : putF "held" z (fFar v0) = fFar z := by
  unfold fFar
  rw [pf_hd]
theorem lk_Line_block {v0 v1 v2 : V} : (fLine v0 v1 v2).lookup ("block" : Str) = some v0 := lk_hd
theorem lk_Line_numbers {v0 v1 v2 : V} : (fLine v0 v1 v2).lookup ("numbers" : Str) = some v1 := (lk_tl ne_numbers_block).trans lk_hd
theorem lk_Line_is_dirty {v0 v1 v2 : V} : (fLine v0 v1 v2).lookup ("is_dirty" : Str) = some v2 := (lk_tl ne_is_dirty_block).trans ((lk_tl ne_is_dirty_numbers).trans lk_hd)
theorem pf_Line_block {v0 v1 v2 z : V} : putF "block" z (fLine v0 v1 v2) = fLine z v1 v2 := by
  unfold fLine
  rw [pf_hd]
theorem pf_Line_numbers {v0 v1 v2 z : V} : putF "numbers" z (fLine v0 v1 v2) = fLine v0 z v2 := by
  unfold fLine
  rw [pf_tl ne_numbers_block]
  rw [pf_hd]
theorem pf_Line_is_dirty {v0 v1 v2 z : V} : putF "is_dirty" z (fLine v0 v1 v2) = fLine v0 v1 z := by
  unfold fLine
  rw [pf_tl ne_is_dirty_block]
  rw [pf_tl ne_is_dirty_numbers]
  rw [pf_hd]
theorem lk_Room_ways {v0 v1 v2 v3 v4 v5 v6 v7 : V} : (fRoom v0 v1 v2 v3 v4 v5 v6 v7).lookup ("ways" : Str) = some v0 := lk_hd
theorem lk_Room_is_back {v0 v1 v2 v3 v4 v5 v6 v7 : V} : (fRoom v0 v1 v2 v3 v4 v5 v6 v7).lookup ("is_back" : Str) = some v1 := (lk_tl ne_is_back_ways).trans lk_hd
theorem lk_Room_is_in {v0 v1 v2 v3 v4 v5 v6 v7 : V} : (fRoom v0 v1 v2 v3 v4 v5 v6 v7).lookup ("is_in" : Str) = some v2 := (lk_tl ne_is_in_ways).trans ((lk_tl ne_is_in_is_back).trans lk_hd)
theorem lk_Room_is_late {v0 v1 v2 v3 v4 v5 v6 v7 : V} : (fRoom v0 v1 v2 v3 v4 v5 v6 v7).lookup ("is_late" : Str) = some v3 := (lk_tl ne_is_late_ways).trans ((lk_tl ne_is_late_is_back).trans ((lk_tl ne_is_late_is_in).trans lk_hd))
theorem lk_Room_behind {v0 v1 v2 v3 v4 v5 v6 v7 : V} : (fRoom v0 v1 v2 v3 v4 v5 v6 v7).lookup ("behind" : Str) = some v4 := (lk_tl ne_behind_ways).trans ((lk_tl ne_behind_is_back).trans ((lk_tl ne_behind_is_in).trans ((lk_tl ne_behind_is_late).trans lk_hd)))
theorem lk_Room_title {v0 v1 v2 v3 v4 v5 v6 v7 : V} : (fRoom v0 v1 v2 v3 v4 v5 v6 v7).lookup ("title" : Str) = some v5 := (lk_tl ne_title_ways).trans ((lk_tl ne_title_is_back).trans ((lk_tl ne_title_is_in).trans ((lk_tl ne_title_is_late).trans ((lk_tl ne_title_behind).trans lk_hd))))
theorem lk_Room_diary {v0 v1 v2 v3 v4 v5 v6 v7 : V} : (fRoom v0 v1 v2 v3 v4 v5 v6 v7).lookup ("diary" : Str) = some v6 := (lk_tl ne_diary_ways).trans ((lk_tl ne_diary_is_back).trans ((lk_tl ne_diary_is_in).trans ((lk_tl ne_diary_is_late).trans ((lk_tl ne_diary_behind).trans ((lk_tl ne_diary_title).trans lk_hd)))))
theorem lk_Room_sets {v0 v1 v2 v3 v4 v5 v6 v7 : V} : (fRoom v0 v1 v2 v3 v4 v5 v6 v7).lookup ("sets" : Str) = some v7 := (lk_tl ne_sets_ways).trans ((lk_tl ne_sets_is_back).trans ((lk_tl ne_sets_is_in).trans ((lk_tl ne_sets_is_late).trans ((lk_tl ne_sets_behind).trans ((lk_tl ne_sets_title).trans ((lk_tl ne_sets_diary).trans lk_hd))))))
theorem no_Room_lines_of {v0 v1 v2 v3 v4 v5 v6 v7 : V} : (fRoom v0 v1 v2 v3 v4 v5 v6 v7).lookup ("lines_of" : Str) = none := (lk_tl ne_lines_of_ways).trans ((lk_tl ne_lines_of_is_back).trans ((lk_tl ne_lines_of_is_in).trans ((lk_tl ne_lines_of_is_late).trans ((lk_tl ne_lines_of_behind).trans ((lk_tl ne_lines_of_title).trans ((lk_tl ne_lines_of_diary).trans ((lk_tl ne_lines_of_sets).trans (rfl))))))))
theorem no_Room_line_of {v0 v1 v2 v3 v4 v5 v6 v7 : V} : (fRoom v0 v1 v2 v3 v4 v5 v6 v7).lookup ("line_of" : Str) = none := (lk_tl ne_line_of_ways).trans ((lk_tl ne_line_of_is_back).trans ((lk_tl ne_line_of_is_in).trans ((lk_tl ne_line_of_is_late).trans ((lk_tl ne_line_of_behind).trans ((lk_tl ne_line_of_title).trans ((lk_tl ne_line_of_diary).trans ((lk_tl ne_line_of_sets).trans (rfl))))))))
theorem no_Room_note {v0 v1 v2 v3 v4 v5 v6 v7 : V} : (fRoom v0 v1 v2 v3 v4 v5 v6 v7).lookup ("note" : Str) = none := (lk_tl ne_note_ways).trans ((lk_tl ne_note_is_back).trans ((lk_tl ne_note_is_in).trans ((lk_tl ne_note_is_late).trans ((lk_tl ne_note_behind).trans ((lk_tl ne_note_title).trans ((lk_tl ne_note_diary).trans ((lk_tl ne_note_sets).trans (rfl))))))))
theorem no_Room_pass_home {v0 v1 v2 v3 v4 v5 v6 v7 : V} : (fRoom v0 v1 v2 v3 v4 v5 v6 v7).lookup ("pass_home" : Str) = none := (lk_tl ne_pass_home_ways).trans ((lk_tl ne_pass_home_is_back).trans ((lk_tl ne_pass_home_is_in).trans ((lk_tl ne_pass_home_is_late).trans ((lk_tl ne_pass_home_behind).trans ((lk_tl ne_pass_home_title).trans ((lk_tl ne_pass_home_diary).trans ((lk_tl ne_pass_home_sets).trans (rfl))))))))
theorem no_Room_pass_cell {v0 v1 v2 v3 v4 v5 v6 v7 : V} : (fRoom v0 v1 v2 v3 v4 v5 v6 v7).lookup ("pass_cell" : Str) = none := (lk_tl ne_pass_cell_ways).trans ((lk_tl ne_pass_cell_is_back).trans ((lk_tl ne_pass_cell_is_in).trans ((lk_tl ne_pass_cell_is_late).trans ((lk_tl ne_pass_cell_behind).trans ((lk_tl ne_pass_cell_title).trans ((lk_tl ne_pass_cell_diary).trans ((lk_tl ne_pass_cell_sets).trans (rfl))))))))
theorem no_Room_make_way {v0 v1 v2 v3 v4 v5 v6 v7 : V} : (fRoom v0 v1 v2 v3 v4 v5 v6 v7).lookup ("make_way" : Str) = none := (lk_tl ne_make_way_ways).trans ((lk_tl ne_make_way_is_back).trans ((lk_tl ne_make_way_is_in).trans ((lk_tl ne_make_way_is_late).trans ((lk_tl ne_make_way_behind).trans ((lk_tl ne_make_way_title).trans ((lk_tl ne_make_way_diary).trans ((lk_tl ne_make_way_sets).trans (rfl))))))))
theorem no_Room_touch {v0 v1 v2 v3 v4 v5 v6 v7 : V} : (fRoom v0 v1 v2 v3 v4 v5 v6 v7).lookup ("touch" : Str) = none := (lk_tl ne_touch_ways).trans ((lk_tl ne_touch_is_back).trans ((lk_tl ne_touch_is_in).trans ((lk_tl ne_touch_is_late).trans ((lk_tl ne_touch_behind).trans ((lk_tl ne_touch_title).trans ((lk_tl ne_touch_diary).trans ((lk_tl ne_touch_sets).trans (rfl))))))))
theorem no_Room_reach {v0 v1 v2 v3 v4 v5 v6 v7 : V} : (fRoom v0 v1 v2 v3 v4 v5 v6 v7).lookup ("reach" : Str) = none := (lk_tl ne_reach_ways).trans ((lk_tl ne_reach_is_back).trans ((lk_tl ne_reach_is_in).trans ((lk_tl ne_reach_is_late).trans ((lk_tl ne_reach_behind).trans ((lk_tl ne_reach_title).trans ((lk_tl ne_reach_diary).trans ((lk_tl ne_reach_sets).trans (rfl))))))))
theorem no_Room_bring {v0 v1 v2 v3 v4 v5 v6 v7 : V} : (fRoom v0 v1 v2 v3 v4 v5 v6 v7).lookup ("bring" : Str) = none := (lk_tl ne_bring_ways).trans ((lk_tl ne_bring_is_back).trans ((lk_tl ne_bring_is_in).trans ((lk_tl ne_bring_is_late).trans ((lk_tl ne_bring_behind).trans ((lk_tl ne_bring_title).trans ((lk_tl ne_bring_diary).trans ((lk_tl ne_bring_sets).trans (rfl))))))))
theorem no_Room_look {v0 v1 v2 v3 v4 v5 v6 v7 : V} : (fRoom v0 v1 v2 v3 v4 v5 v6 v7).lookup ("look" : Str) = none := (lk_tl ne_look_ways).trans ((lk_tl ne_look_is_back).trans ((lk_tl ne_look_is_in).trans ((lk_tl ne_look_is_late).trans ((lk_tl ne_look_behind).trans ((lk_tl ne_look_title).trans ((lk_tl ne_look_diary).trans ((lk_tl ne_look_sets).trans (rfl))))))))
theorem no_Room_change {v0 v1 v2 v3 v4 v5 v6 v7 : V} : (fRoom v0 v1 v2 v3 v4 v5 v6 v7).lookup ("change" : Str) = none := (lk_tl ne_change_ways).trans ((lk_tl ne_change_is_back).trans ((lk_tl ne_change_is_in).trans ((lk_tl ne_change_is_late).trans ((lk_tl ne_change_behind).trans ((lk_tl ne_change_title).trans ((lk_tl ne_change_diary).trans ((lk_tl ne_change_sets).trans (rfl))))))))
theorem no_Room_home {v0 v1 v2 v3 v4 v5 v6 v7 : V} : (fRoom v0 v1 v2 v3 v4 v5 v6 v7).lookup ("home" : Str) = none := (lk_tl ne_home_ways).trans ((lk_tl ne_home_is_back).trans ((lk_tl ne_home_is_in).trans ((lk_tl ne_home_is_late).trans ((lk_tl ne_home_behind).trans ((lk_tl ne_home_title).trans ((lk_tl ne_home_diary).trans ((lk_tl ne_home_sets).trans (rfl))))))))
theorem no_Room_yield_up {v0 v1 v2 v3 v4 v5 v6 v7 : V} : (fRoom v0 v1 v2 v3 v4 v5 v6 v7).lookup ("yield_up" : Str) = none := (lk_tl ne_yield_up_ways).trans ((lk_tl ne_yield_up_is_back).trans ((lk_tl ne_yield_up_is_in).trans ((lk_tl ne_yield_up_is_late).trans ((lk_tl ne_yield_up_behind).trans ((lk_tl ne_yield_up_title).trans ((lk_tl ne_yield_up_diary).trans ((lk_tl ne_yield_up_sets).trans (rfl))))))))
theorem no_Room_settle {v0 v1 v2 v3 v4 v5 v6 v7 : V} : (fRoom v0 v1 v2 v3 v4 v5 v6 v7).lookup ("settle" : Str) = none := (lk_tl ne_settle_ways).trans ((lk_tl ne_settle_is_back).trans ((lk_tl ne_settle_is_in).trans ((lk_tl ne_settle_is_late).trans ((lk_tl ne_settle_behind).trans ((lk_tl ne_settle_title).trans ((lk_tl ne_settle_diary).trans ((lk_tl ne_settle_sets).trans (rfl))))))))
theorem no_Room_holds {v0 v1 v2 v3 v4 v5 v6 v7 : V} : (fRoom v0 v1 v2 v3 v4 v5 v6 v7).lookup ("holds" : Str) = none := (lk_tl ne_holds_ways).trans ((lk_tl ne_holds_is_back).trans ((lk_tl ne_holds_is_in).trans ((lk_tl ne_holds_is_late).trans ((lk_tl ne_holds_behind).trans ((lk_tl ne_holds_title).trans ((lk_tl ne_holds_diary).trans ((lk_tl ne_holds_sets).trans (rfl))))))))
theorem pf_Room_ways {v0 v1 v2 v3 v4 v5 v6 v7 z : V} : putF "ways" z (fRoom v0 v1 v2 v3 v4 v5 v6 v7) = fRoom z v1 v2 v3 v4 v5 v6 v7 := by
  unfold fRoom
  rw [pf_hd]
theorem pf_Room_is_back {v0 v1 v2 v3 v4 v5 v6 v7 z : V} : putF "is_back" z (fRoom v0 v1 v2 v3 v4 v5 v6 v7) = fRoom v0 z v2 v3 v4 v5 v6 v7 := by
  unfold fRoom
  rw [pf_tl ne_is_back_ways]
  rw [pf_hd]
theorem pf_Room_is_in {v0 v1 v2 v3 v4 v5 v6 v7 z : V} : putF "is_in" z (fRoom v0 v1 v2 v3 v4 v5 v6 v7) = fRoom v0 v1 z v3 v4 v5 v6 v7 := by
  unfold fRoom
  rw [pf_tl ne_is_in_ways]
  rw [pf_tl ne_is_in_is_back]
  rw [pf_hd]
theorem pf_Room_is_late {v0 v1 v2 v3 v4 v5 v6 v7 z : V} : putF "is_late" z (fRoom v0 v1 v2 v3 v4 v5 v6 v7) = fRoom v0 v1 v2 z v4 v5 v6 v7 := by
  unfold fRoom
  rw [pf_tl ne_is_late_ways]
  rw [pf_tl ne_is_late_is_back]
  rw [pf_tl ne_is_late_is_in]
  rw [pf_hd]
theorem pf_Room_behind {v0 v1 v2 v3 v4 v5 v6 v7 z : V} : putF "behind" z (fRoom v0 v1 v2 v3 v4 v5 v6 v7) = fRoom v0 v1 v2 v3 z v5 v6 v7 := by
  unfold fRoom
  rw [pf_tl ne_behind_ways]
  rw [pf_tl ne_behind_is_back]
  rw [pf_tl ne_behind_is_in]
  rw [pf_tl ne_behind_is_late]
  rw [pf_hd]
theorem pf_Room_title {v0 v1 v2 v3 v4 v5 v6 v7 z : V} : putF "title" z (fRoom v0 v1 v2 v3 v4 v5 v6 v7) = fRoom v0 v1 v2 v3 v4 z v6 v7 := by
  unfold fRoom
  rw [pf_tl ne_title_ways]
  rw [pf_tl ne_title_is_back]
  rw [pf_tl ne_title_is_in]
  rw [pf_tl ne_title_is_late]
  rw [pf_tl ne_title_behind]
  rw [pf_hd]
theorem pf_Room_diary {v0 v1 v2 v3 v4 v5 v6 v7 z : V} : putF "diary" z (fRoom v0 v1 v2 v3 v4 v5 v6 v7) = fRoom v0 v1 v2 v3 v4 v5 z v7 := by
  unfold fRoom
  rw [pf_tl ne_diary_ways]
  rw [pf_tl ne_diary_is_back]
  rw [pf_tl ne_diary_is_in]
  rw [pf_tl ne_diary_is_late]
  rw [pf_tl ne_diary_behind]
  rw [pf_tl ne_diary_title]
  rw [pf_hd]
theorem pf_Room_sets {v0 v1 v2 v3 v4 v5 v6 v7 z : V} : putF "sets" z (fRoom v0 v1 v2 v3 v4 v5 v6 v7) = fRoom v0 v1 v2 v3 v4 v5 v6 z := by
  unfold fRoom
  rw [pf_tl ne_sets_ways]
  rw [pf_tl ne_sets_is_back]
  rw [pf_tl ne_sets_is_in]
  rw [pf_tl ne_sets_is_late]
  rw [pf_tl ne_sets_behind]
  rw [pf_tl ne_sets_title]
  rw [pf_tl ne_sets_diary]
  rw [pf_hd]
theorem lk_Hall_diary {v0 v1 v2 v3 : V} : (fHall v0 v1 v2 v3).lookup ("diary" : Str) = some v0 := lk_hd
theorem lk_Hall_last {v0 v1 v2 v3 : V} : (fHall v0 v1 v2 v3).lookup ("last" : Str) = some v1 := (lk_tl ne_last_diary).trans lk_hd
theorem lk_Hall_shared {v0 v1 v2 v3 : V} : (fHall v0 v1 v2 v3).lookup ("shared" : Str) = some v2 := (lk_tl ne_shared_diary).trans ((lk_tl ne_shared_last).trans lk_hd)
theorem lk_Hall_own {v0 v1 v2 v3 : V} : (fHall v0 v1 v2 v3).lookup ("own" : Str) = some v3 := (lk_tl ne_own_diary).trans ((lk_tl ne_own_last).trans ((lk_tl ne_own_shared).trans lk_hd))
theorem no_Hall_need {v0 v1 v2 v3 : V} : (fHall v0 v1 v2 v3).lookup ("need" : Str) = none := (lk_tl ne_need_diary).trans ((lk_tl ne_need_last).trans ((lk_tl ne_need_shared).trans ((lk_tl ne_need_own).trans (rfl))))
theorem no_Hall_ask_others {v0 v1 v2 v3 : V} : (fHall v0 v1 v2 v3).lookup ("ask_others" : Str) = none := (lk_tl ne_ask_others_diary).trans ((lk_tl ne_ask_others_last).trans ((lk_tl ne_ask_others_shared).trans ((lk_tl ne_ask_others_own).trans (rfl))))
theorem no_Hall_look {v0 v1 v2 v3 : V} : (fHall v0 v1 v2 v3).lookup ("look" : Str) = none := (lk_tl ne_look_diary).trans ((lk_tl ne_look_last).trans ((lk_tl ne_look_shared).trans ((lk_tl ne_look_own).trans (rfl))))
theorem no_Hall_change {v0 v1 v2 v3 : V} : (fHall v0 v1 v2 v3).lookup ("change" : Str) = none := (lk_tl ne_change_diary).trans ((lk_tl ne_change_last).trans ((lk_tl ne_change_shared).trans ((lk_tl ne_change_own).trans (rfl))))
theorem no_Hall_settle {v0 v1 v2 v3 : V} : (fHall v0 v1 v2 v3).lookup ("settle" : Str) = none := (lk_tl ne_settle_diary).trans ((lk_tl ne_settle_last).trans ((lk_tl ne_settle_shared).trans ((lk_tl ne_settle_own).trans (rfl))))
theorem no_Hall_far {v0 v1 v2 v3 : V} : (fHall v0 v1 v2 v3).lookup ("far" : Str) = none := (lk_tl ne_far_diary).trans ((lk_tl ne_far_last).trans ((lk_tl ne_far_shared).trans ((lk_tl ne_far_own).trans (rfl))))
theorem no_Hall_near {v0 v1 v2 v3 : V} : (fHall v0 v1 v2 v3).lookup ("near" : Str) = none := (lk_tl ne_near_diary).trans ((lk_tl ne_near_last).trans ((lk_tl ne_near_shared).trans ((lk_tl ne_near_own).trans (rfl))))
theorem no_Hall_log {v0 v1 v2 v3 : V} : (fHall v0 v1 v2 v3).lookup ("log" : Str) = none := (lk_tl ne_log_diary).trans ((lk_tl ne_log_last).trans ((lk_tl ne_log_shared).trans ((lk_tl ne_log_own).trans (rfl))))
theorem no_Hall_moves {v0 v1 v2 v3 : V} : (fHall v0 v1 v2 v3).lookup ("moves" : Str) = none := (lk_tl ne_moves_diary).trans ((lk_tl ne_moves_last).trans ((lk_tl ne_moves_shared).trans ((lk_tl ne_moves_own).trans (rfl))))
theorem pf_Hall_diary {v0 v1 v2 v3 z : V} : putF "diary" z (fHall v0 v1 v2 v3) = fHall z v1 v2 v3 := by
  unfold fHall
  rw [pf_hd]
theorem pf_Hall_last {v0 v1 v2 v3 z : V} : putF "last" z (fHall v0 v1 v2 v3) = fHall v0 z v2 v3 := by
  unfold fHall
  rw [pf_tl ne_last_diary]
  rw [pf_hd]
theorem pf_Hall_shared {v0 v1 v2 v3 z : V} : putF "shared" z (fHall v0 v1 v2 v3) = fHall v0 v1 z v3 := by
  unfold fHall
  rw [pf_tl ne_shared_diary]
  rw [pf_tl ne_shared_last]
  rw [pf_hd]
theorem pf_Hall_own {v0 v1 v2 v3 z : V} : putF "own" z (fHall v0 v1 v2 v3) = fHall v0 v1 v2 z := by
  unfold fHall
  rw [pf_tl ne_own_diary]
  rw [pf_tl ne_own_last]
  rw [pf_tl ne_own_shared]
  rw [pf_hd]
-- WwPure
/-! ### plain facts of the rooms -/
theorem ix_lt {r : Rm} (h : 0 < r.ss.length) (b : Nat) : r.ix b < r.ss.length := Nat.mod_lt _ h
theorem ls_get {r : Rm} (h : 0 < r.ss.length) (b : Nat) : r.ss[r.ix b]? = some (r.ls b) := by
  unfold Rm.ls
  rw [List.getD_eq_getElem?_getD, List.getElem?_eq_getElem (ix_lt h b)]
  rfl
theorem ls_mem {r : Rm} (h : 0 < r.ss.length) (b : Nat) : r.ls b ∈ r.ss := List.mem_of_getElem? (ls_get h b)
theorem put_len (r : Rm) (b : Nat) (ls : List Ln) : (r.put b ls).ss.length = r.ss.length := by unfold Rm.put; simp
theorem put_ru (r : Rm) (b : Nat) (ls : List Ln) : (r.put b ls).ru = r.ru := rfl
theorem put_ix (r : Rm) (b c : Nat) (ls : List Ln) : (r.put b ls).ix c = r.ix c := by unfold Rm.ix; rw [put_len]
theorem ls_put {r : Rm} (h : 0 < r.ss.length) (b : Nat) (ls : List Ln) : (r.put b ls).ls b = ls := by
  unfold Rm.ls
  rw [put_ix]
  unfold Rm.put
  rw [List.getD_eq_getElem?_getD, List.getElem?_set_self (ix_lt h b)]
  rfl
theorem ls_put_ne {r : Rm} {b c : Nat} {ls : List Ln} (h : r.ix c ≠ r.ix b) : (r.put b ls).ls c = r.ls c := by
  unfold Rm.ls
  rw [put_ix]
  unfold Rm.put
  rw [List.getD_eq_getElem?_getD, List.getElem?_set_ne (Ne.symm h), ← List.getD_eq_getElem?_getD]
theorem put_put (r : Rm) (b : Nat) (ls ls' : List Ln) : (r.put b ls).put b ls' = r.put b ls' := by
  unfold Rm.put
  simp only [Rm.ix, List.length_set, List.set_set]
theorem put_self {r : Rm} (h : 0 < r.ss.length) (b : Nat) : r.put b (r.ls b) = r := by
  unfold Rm.put
  have : r.ss.set (r.ix b) (r.ls b) = r.ss := by
    apply List.ext_getElem?
    intro i
    by_cases e : r.ix b = i
    · subst e
      rw [List.getElem?_set_self (ix_lt h b), ls_get h b]
    · rw [List.getElem?_set_ne e]
  rw [this]
theorem put_ok {r : Rm} (h : RmOk r) {b : Nat} {ls : List Ln} (hl : LsOk r.ru ls) : RmOk (r.put b ls) := by
  refine ⟨by rw [put_len]; exact h.s0, by rw [put_len]; exact h.s4, h.ru, fun ls' hm => ?_⟩
  rcases List.mem_or_eq_of_mem_set hm with hm | e
  · exact h.ln _ hm
  · rw [e]
    exact hl
theorem RmOk.ls {r : Rm} (h : RmOk r) (b : Nat) : LsOk r.ru (r.ls b) := h.ln _ (ls_mem h.s0 b)
theorem fnd_some {b : Nat} : ∀ {ls : List Ln} {i : Nat}, fnd b ls = some i → ∃ l, ls[i]? = some l ∧ l.b = b ∧ ∀ (m : Nat) (l' : Ln), m < i → ls[m]? = some l' → l'.b ≠ b
  | [], i, h => by cases h
  | l :: r, i, h => by
    unfold fnd at h
    by_cases e : l.b = b
    · rw [if_pos e] at h
      cases h
      exact ⟨l, rfl, e, fun m l' hm => by omega⟩
    · rw [if_neg e] at h
      cases hr : fnd b r with
      | none =>
        rw [hr] at h
        cases h
      | some j =>
        rw [hr] at h
        have h2 : j + 1 = i := Option.some.inj h
        subst h2
        obtain ⟨l1, h1, h2, h3⟩ := fnd_some hr
        refine ⟨l1, h1, h2, fun m l' hm hl => ?_⟩
        cases m with
        | zero =>
          have : l = l' := Option.some.inj hl
          rw [← this]
          exact e
        | succ m => exact h3 m l' (by omega) hl
theorem fnd_none {b : Nat} : ∀ {ls : List Ln}, fnd b ls = none → ∀ l ∈ ls, l.b ≠ b
  | [], _, l, hl => by cases hl
  | a :: r, h, l, hl => by
    unfold fnd at h
    by_cases e : a.b = b
    · rw [if_pos e] at h
      cases h
    · rw [if_neg e] at h
      rcases List.mem_cons.mp hl with e' | hm
      · rw [e']
        exact e
      · refine fnd_none ?_ l hm
        cases hr : fnd b r with
        | none => rfl
        | some j =>
          rw [hr] at h
          cases h
theorem fnd_lt {b : Nat} {ls : List Ln} {i : Nat} (h : fnd b ls = some i) : i < ls.length := by
  obtain ⟨l, hl, _⟩ := fnd_some h
  exact (List.getElem?_eq_some_iff.mp hl).1
section
variable {α : Type} {lt : Bool} {ls : List α} {i : Nat}
theorem touch_len (h : i < ls.length) : (touchL lt ls i).length = ls.length := by
  unfold touchL
  split
  · rw [List.length_append, List.length_eraseIdx_of_lt h, List.getElem?_eq_getElem h]
    show ls.length - 1 + 1 = ls.length
    omega
  · rfl
theorem touch_mem {l : α} (h : l ∈ touchL lt ls i) : l ∈ ls := by
  unfold touchL at h
  split at h
  · rcases List.mem_append.mp h with h | h
    · exact List.mem_of_mem_eraseIdx h
    · cases e : ls[i]? with
      | none =>
        rw [e] at h
        cases h
      | some x =>
        rw [e] at h
        have : l = x := by simpa using h
        rw [this]
        exact List.mem_of_getElem? e
  · exact h
theorem touchI_lt (h : i < ls.length) : touchI lt ls i < ls.length := by
  unfold touchI
  split <;> omega
theorem touch_get (h : i < ls.length) : (touchL lt ls i)[touchI lt ls i]? = ls[i]? := by
  unfold touchL touchI
  split
  · rw [List.getElem?_append_right (by rw [List.length_eraseIdx_of_lt h]; omega), List.length_eraseIdx_of_lt h, List.getElem?_eq_getElem h, Nat.sub_self]
    rfl
  · rfl
theorem touch_map {β : Type} (f : α → β) (lt : Bool) (ls : List α) (i : Nat) : touchL lt (ls.map f) i = (touchL lt ls i).map f := by
  unfold touchL
  split
  · rw [erase_map, List.map_append, List.getElem?_map]
    cases ls[i]? <;> rfl
  · rfl
theorem touchI_map {β : Type} (f : α → β) (lt : Bool) (ls : List α) (i : Nat) : touchI lt (ls.map f) i = touchI lt ls i := by
  unfold touchI
  rw [List.length_map]
end
theorem lnAt_get {ls : List Ln} {i : Nat} {l : Ln} (h : ls[i]? = some l) : lnAt ls i = l := by
  unfold lnAt
  rw [List.getD_eq_getElem?_getD, h]
  rfl
structure OpsOk (n g : Nat) (o : Ops) : Prop where
  hm : ∀ t b ns, TaOk n t → b < 16 → ns.length = 4 → TaOk n (o.hm t b ns) ∧ (o.hm t b ns).log.length ≤ t.log.length + g
  br : ∀ t b, TaOk n t → b < 16 → (o.br t b).1.length = 4 ∧ TaOk n (o.br t b).2 ∧ (o.br t b).2.log.length ≤ t.log.length + g
  ch : ∀ t p v, TaOk n t → p < 64 → TaOk n (o.ch t p v) ∧ (o.ch t p v).log.length ≤ t.log.length + g
theorem note_ok {n : Nat} {t : Ta} (h : TaOk n t) (tl : List V) (w : Str) (k : Nat) : TaOk n (t.note tl w k) := ⟨h.len, h.rs, h.far⟩
theorem note_len (t : Ta) (tl : List V) (w : Str) (k : Nat) : (t.note tl w k).log.length = t.log.length + 1 := by simp [Ta.note]
section
variable {n g : Nat} {o : Ops} {u : Ru} {ls : List Ln} {t : Ta} {b : Nat} {tl : List V}
theorem passH_ok (O : OpsOk n g o) (h : TaOk n t) (hb : b < 16) {ns : List Int} (hn : ns.length = 4) : TaOk n (passH o tl t b ns) ∧ (passH o tl t b ns).log.length ≤ t.log.length + g + 1 := by
  obtain ⟨h1, h2⟩ := O.hm _ b ns (note_ok h tl "home" b) hb hn
  rw [note_len] at h2
  exact ⟨h1, by unfold passH; omega⟩
theorem passC_ok (O : OpsOk n g o) (h : TaOk n t) {p : Nat} (hp : p < 64) {v : Int} : TaOk n (passC o tl t p v) ∧ (passC o tl t p v).log.length ≤ t.log.length + g + 1 := by
  obtain ⟨h1, h2⟩ := O.ch _ p v (note_ok h tl "cell" p) hp
  rw [note_len] at h2
  exact ⟨h1, by unfold passC; omega⟩
/-- behind make_way there is room -/
theorem mkWay_ok (O : OpsOk n g o) (hu : RuOk u) (hl : LsOk u ls) (h : TaOk n t) :
    LsOk u (mkWay o u ls t).1 ∧ TaOk n (mkWay o u ls t).2 ∧ (mkWay o u ls t).1.length < u.ways ∧ (mkWay o u ls t).2.log.length ≤ t.log.length + g + 1 := by
  have hlen := hl.len
  have h0 := hu.w0
  unfold mkWay
  split
  · rename_i e
    split
    · simp at e
      omega
    · rename_i l rest
      have hlen2 : rest.length + 1 = u.ways := by simpa using e
      have hlo := hl.ok l List.mem_cons_self
      refine ⟨⟨by show rest.length ≤ _; omega, fun l' hm => hl.ok l' (List.mem_cons_of_mem _ hm)⟩, ?_, by show rest.length < _; omega, ?_⟩
      · show TaOk n (if l.d = true then _ else t)
        split
        · exact (passH_ok O h hlo.b hlo.ns).1
        · exact h
      · show (if l.d = true then _ else t).log.length ≤ _
        split
        · exact (passH_ok O h hlo.b hlo.ns).2
        · omega
  · rename_i e
    exact ⟨hl, h, by show ls.length < u.ways; omega, by show t.log.length ≤ _; omega⟩
theorem reachL_ok (O : OpsOk n g o) (hu : RuOk u) (hl : LsOk u ls) (h : TaOk n t) (hb : b < 16) :
    LsOk u (reachL o u ls t b).1 ∧ TaOk n (reachL o u ls t b).2.1 ∧ (∃ l, (reachL o u ls t b).1[(reachL o u ls t b).2.2]? = some l ∧ l.b = b ∧ LnOk l) ∧ (reachL o u ls t b).2.1.log.length ≤ t.log.length + 2 * g + 2 := by
  unfold reachL
  split
  · rename_i i e
    obtain ⟨l, hlg, hlb, _⟩ := fnd_some e
    have hi := fnd_lt e
    exact ⟨⟨by show (touchL u.lt ls i).length ≤ _; rw [touch_len hi]; exact hl.len, fun l' hm => hl.ok l' (touch_mem hm)⟩, h, ⟨l, (touch_get hi).trans hlg, hlb, hl.ok l (List.mem_of_getElem? hlg)⟩, by show t.log.length ≤ _; omega⟩
  · rename_i e
    obtain ⟨m1, m2, m3, m4⟩ := mkWay_ok O hu hl h
    obtain ⟨b1, b2, b3⟩ := O.br _ b (note_ok m2 u.tl "bring" b) hb
    rw [note_len] at b3
    refine ⟨⟨by show ((mkWay o u ls t).1 ++ [_]).length ≤ _; rw [List.length_append, List.length_singleton]; omega, fun l' hm => ?_⟩, b2, ⟨⟨b, (o.br ((mkWay o u ls t).2.note u.tl "bring" b) b).1, false⟩, ?_, rfl, ⟨hb, b1⟩⟩, by show (o.br _ b).2.log.length ≤ _; omega⟩
    · rcases List.mem_append.mp hm with hm | hm
      · exact m1.ok l' hm
      · rw [List.mem_singleton.mp hm]
        exact ⟨hb, b1⟩
    · show ((mkWay o u ls t).1 ++ [_])[(mkWay o u ls t).1.length]? = some _
      rw [List.getElem?_append_right (Nat.le_refl _), Nat.sub_self]
      rfl
theorem set_ok (hl : LsOk u ls) {i : Nat} {l : Ln} (hlo : LnOk l) : LsOk u (ls.set i l) := ⟨by rw [List.length_set]; exact hl.len, fun l' hm => by
  rcases List.mem_or_eq_of_mem_set hm with hm | e
  · exact hl.ok l' hm
  · rw [e]
    exact hlo⟩
theorem app_ok {u : Ru} {ls : List Ln} (hl : LsOk u ls) (hs : ls.length < u.ways) {l : Ln} (hlo : LnOk l) : LsOk u (ls ++ [l]) := ⟨by rw [List.length_append, List.length_singleton]; omega, fun l' hm => by
  rcases List.mem_append.mp hm with hm | hm
  · exact hl.ok l' hm
  · rw [List.mem_singleton.mp hm]
    exact hlo⟩
theorem bringL_ok (O : OpsOk n g o) (hu : RuOk u) (hl : LsOk u ls) (h : TaOk n t) (hb : b < 16) :
    (bringL o u ls t b).1.length = 4 ∧ LsOk u (bringL o u ls t b).2.1 ∧ TaOk n (bringL o u ls t b).2.2 ∧ (bringL o u ls t b).2.2.log.length ≤ t.log.length + 2 * g + 2 := by
  obtain ⟨h1, h2, ⟨l, hlg, _, hlo⟩, h4⟩ := reachL_ok O hu hl h hb
  refine ⟨?_, h1, h2, h4⟩
  show (lnAt _ _).ns.length = 4
  rw [lnAt_get hlg]
  exact hlo.ns
theorem lookL_ok (O : OpsOk n g o) (hu : RuOk u) (hl : LsOk u ls) (h : TaOk n t) {p : Nat} (hp : p < 64) :
    LsOk u (lookL o u ls t p).2.1 ∧ TaOk n (lookL o u ls t p).2.2 ∧ (lookL o u ls t p).2.2.log.length ≤ t.log.length + 2 * g + 2 := by
  obtain ⟨h1, h2, _, h4⟩ := reachL_ok O hu hl h (show p / 4 < 16 by omega)
  exact ⟨h1, h2, h4⟩
theorem changeL_ok (O : OpsOk n g o) (hu : RuOk u) (hl : LsOk u ls) (h : TaOk n t) {p : Nat} (hp : p < 64) {v : Int} :
    LsOk u (changeL o u ls t p v).1 ∧ TaOk n (changeL o u ls t p v).2 ∧ (changeL o u ls t p v).2.log.length ≤ t.log.length + 3 * g + 3 := by
  unfold changeL
  split
  · obtain ⟨c1, c2⟩ := passC_ok (tl := u.tl) (v := v) O h hp
    exact ⟨hl, c1, by show (passC o u.tl t p v).log.length ≤ _; omega⟩
  · obtain ⟨h1, h2, ⟨l, hlg, hlb, hlo⟩, h4⟩ := reachL_ok O hu hl h (show p / 4 < 16 by omega)
    refine ⟨set_ok h1 (by
      rw [lnAt_get hlg]
      exact ⟨hlo.b, by show (l.ns.set _ _).length = 4; rw [List.length_set]; exact hlo.ns⟩), ?_⟩
    obtain ⟨c1, c2⟩ := passC_ok (tl := u.tl) (v := v) O h2 hp
    dsimp only
    split
    · exact ⟨h2, by omega⟩
    · exact ⟨c1, by omega⟩
theorem homeL_ok (O : OpsOk n g o) (hu : RuOk u) (hl : LsOk u ls) (h : TaOk n t) (hb : b < 16) {ns : List Int} (hn : ns.length = 4) :
    LsOk u (homeL o u ls t b ns).1 ∧ TaOk n (homeL o u ls t b ns).2 ∧ (homeL o u ls t b ns).2.log.length ≤ t.log.length + 2 * g + 2 := by
  unfold homeL
  split
  · split
    · obtain ⟨m1, m2, m3, m4⟩ := mkWay_ok O hu hl h
      refine ⟨app_ok m1 m3 ⟨hb, hn⟩, ?_⟩
      obtain ⟨c1, c2⟩ := passH_ok (tl := u.tl) O m2 hb hn
      dsimp only
      split
      · exact ⟨m2, by omega⟩
      · exact ⟨c1, by omega⟩
    · obtain ⟨c1, c2⟩ := passH_ok (tl := u.tl) O h hb hn
      exact ⟨hl, c1, by show (passH o u.tl t b ns).log.length ≤ _; omega⟩
  · rename_i i e
    have hi := fnd_lt e
    refine ⟨set_ok ⟨by rw [touch_len hi]; exact hl.len, fun l' hm => hl.ok l' (touch_mem hm)⟩ ⟨hb, hn⟩, ?_⟩
    obtain ⟨c1, c2⟩ := passH_ok (tl := u.tl) O h hb hn
    dsimp only
    split
    · exact ⟨h, by omega⟩
    · exact ⟨c1, by omega⟩
theorem yieldL_ok (O : OpsOk n g o) (hl : LsOk u ls) (h : TaOk n t) (hb : b < 16) {gone : Bool} :
    LsOk u (yieldL o u ls t b gone).1 ∧ TaOk n (yieldL o u ls t b gone).2 ∧ (yieldL o u ls t b gone).2.log.length ≤ t.log.length + g + 1 := by
  unfold yieldL
  split
  · exact ⟨hl, h, by show t.log.length ≤ _; omega⟩
  · rename_i i e
    obtain ⟨l, hlg, hlb, _⟩ := fnd_some e
    have hlo := hl.ok l (List.mem_of_getElem? hlg)
    obtain ⟨c1, c2⟩ := passH_ok (tl := u.tl) O h hb hlo.ns
    rw [lnAt_get hlg]
    refine ⟨?_, ?_⟩
    · dsimp only
      split
      · exact ⟨Nat.le_trans (List.length_eraseIdx_le ..) hl.len, fun l' hm => hl.ok l' (List.mem_of_mem_eraseIdx hm)⟩
      · exact set_ok hl ⟨hlo.b, hlo.ns⟩
    · dsimp only
      split
      · exact ⟨c1, c2⟩
      · exact ⟨h, by omega⟩
theorem settleL_ok (O : OpsOk n g o) : ∀ {ls : List Ln} {t : Ta}, (∀ l ∈ ls, LnOk l) → TaOk n t →
    (∀ l ∈ (settleL o u ls t).1, LnOk l) ∧ (settleL o u ls t).1.length = ls.length ∧ TaOk n (settleL o u ls t).2 ∧ (settleL o u ls t).2.log.length ≤ t.log.length + ls.length * (g + 1)
  | [], t, _, h => ⟨(fun _ hm => nomatch (show _ ∈ ([] : List Ln) from hm)), rfl, h, (by show t.log.length ≤ _; omega)⟩
  | l :: r, t, hl, h => by
    have hlo := hl l List.mem_cons_self
    obtain ⟨c1, c2⟩ := passH_ok (tl := u.tl) O h hlo.b hlo.ns
    have h1 : TaOk n (if l.d = true then passH o u.tl t l.b l.ns else t) ∧ (if l.d = true then passH o u.tl t l.b l.ns else t).log.length ≤ t.log.length + g + 1 := by
      split
      · exact ⟨c1, c2⟩
      · exact ⟨h, by omega⟩
    obtain ⟨i1, i2, i3, i4⟩ := settleL_ok O (ls := r) (fun l' hm => hl l' (List.mem_cons_of_mem _ hm)) h1.1
    refine ⟨fun l' hm => ?_, by show (settleL o u r _).1.length + 1 = _; rw [i2]; rfl, i3, ?_⟩
    · rcases List.mem_cons.mp hm with e | hm
      · rw [e]
        exact ⟨hlo.b, hlo.ns⟩
      · exact i1 l' hm
    · have e : (l :: r).length * (g + 1) = r.length * (g + 1) + (g + 1) := by rw [List.length_cons, Nat.succ_mul]
      rw [e]
      have h2 := h1.2
      show (settleL o u r _).2.log.length ≤ _
      omega
end
theorem setBlk_len {far : List Int} (h : far.length = 64) {b : Nat} (hb : b < 16) {ns : List Int} (hn : ns.length = 4) : (setBlk far b ns).length = 64 := by
  unfold setBlk
  simp only [List.length_append, List.length_take, List.length_drop]
  omega
theorem getBlk_len {far : List Int} (h : far.length = 64) {b : Nat} (hb : b < 16) : (getBlk far b).length = 4 := by
  unfold getBlk
  simp only [List.length_take, List.length_drop]
  omega
def gOf : Nat → Nat
  | 0 => 0
  | n + 1 => 3 * gOf n + 3
theorem cons_ok {n : Nat} {r : Rm} {t : Ta} (hr : RmOk r) (h : TaOk n t) : TaOk (n + 1) (Ta.cons r t) := ⟨by show t.rs.length + 1 = n + 1; rw [h.len], fun r' hm => by
  rcases List.mem_cons.mp hm with e | hm
  · rw [e]
    exact hr
  · exact h.rs r' hm, h.far⟩
theorem TaOk.uncons {n : Nat} {t : Ta} (h : TaOk (n + 1) t) : ∃ r rs, t.rs = r :: rs ∧ RmOk r ∧ TaOk n { t with rs := rs } := by
  have hl := h.len
  cases e : t.rs with
  | nil =>
    rw [e] at hl
    cases hl
  | cons r rs =>
    rw [e] at hl
    have hrs := h.rs
    rw [e] at hrs
    exact ⟨r, rs, rfl, hrs r List.mem_cons_self, ⟨by simpa using hl, fun r' hm => hrs r' (List.mem_cons_of_mem _ hm), h.far⟩⟩
theorem ops_ok : ∀ n, OpsOk n (gOf n) (ops n)
  | 0 => {
    hm := fun t b ns h hb hn => ⟨⟨h.len, h.rs, setBlk_len h.far hb hn⟩, Nat.le_refl _⟩
    br := fun t b h hb => ⟨getBlk_len h.far hb, h, Nat.le_refl _⟩
    ch := fun t p v h hp => ⟨⟨h.len, h.rs, by show (t.far.set p v).length = 64; rw [List.length_set]; exact h.far⟩, Nat.le_refl _⟩ }
  | n + 1 => {
    hm := fun t b ns h hb hn => by
      obtain ⟨r, rs, e, hr, ht⟩ := h.uncons
      obtain ⟨h1, h2, h3⟩ := homeL_ok (ops_ok n) hr.ru (hr.ls b) ht hb hn
      unfold ops
      dsimp only
      rw [e]
      exact ⟨cons_ok (put_ok hr h1) h2, Nat.le_trans h3 (by show t.log.length + 2 * gOf n + 2 ≤ t.log.length + (3 * gOf n + 3); omega)⟩
    br := fun t b h hb => by
      obtain ⟨r, rs, e, hr, ht⟩ := h.uncons
      obtain ⟨h0, h1, h2, h3⟩ := bringL_ok (ops_ok n) hr.ru (hr.ls b) ht hb
      unfold ops
      dsimp only
      rw [e]
      exact ⟨h0, cons_ok (put_ok hr h1) h2, Nat.le_trans h3 (by show t.log.length + 2 * gOf n + 2 ≤ t.log.length + (3 * gOf n + 3); omega)⟩
    ch := fun t p v h hp => by
      obtain ⟨r, rs, e, hr, ht⟩ := h.uncons
      obtain ⟨h1, h2, h3⟩ := changeL_ok (v := v) (ops_ok n) hr.ru (hr.ls (p / 4)) ht hp
      unfold ops
      dsimp only
      rw [e]
      exact ⟨cons_ok (put_ok hr h1) h2, Nat.le_trans h3 (by show t.log.length + 3 * gOf n + 3 ≤ t.log.length + (3 * gOf n + 3); omega)⟩ }
theorem gOf_le {n : Nat} (h : n ≤ 3) : gOf n ≤ 39 := by
  match n, h with
  | 0, _ => decide
  | 1, _ => decide
  | 2, _ => decide
  | 3, _ => decide
-- WwAu
/-! ### a room's shape, without numbers: what it passes on -/
inductive Ask where
  | look (p : Nat)
  | cell (p : Nat)
  | bring (b : Nat)
  | home (b : Nat)
abbrev ALn := Nat × Bool
abbrev Out := Str × Nat
def abL (ls : List Ln) : List ALn := ls.map fun l => (l.b, l.d)
def afnd (b : Nat) : List ALn → Option Nat
  | [] => none
  | l :: r => if l.1 = b then some 0 else (afnd b r).map (· + 1)
theorem afnd_ab (b : Nat) : ∀ ls : List Ln, afnd b (abL ls) = fnd b ls
  | [] => rfl
  | l :: r => by
    show (if l.b = b then some 0 else (afnd b (abL r)).map (· + 1)) = if l.b = b then some 0 else (fnd b r).map (· + 1)
    rw [afnd_ab b r]
def aWay (u : Ru) (al : List ALn) : List ALn × List Out :=
  if al.length = u.ways then
    match al with
    | [] => ([], [])
    | l :: rest => (rest, if l.2 = true then [("home", l.1)] else [])
  else (al, [])
def aReach (u : Ru) (al : List ALn) (b : Nat) : List ALn × List Out × Nat :=
  match afnd b al with
  | some i => (touchL u.lt al i, [], touchI u.lt al i)
  | none => ((aWay u al).1 ++ [(b, false)], (aWay u al).2 ++ [((("bring" : Str), b) : Out)], (aWay u al).1.length)
def alAt (al : List ALn) (i : Nat) : ALn := al.getD i (0, false)
def aChange (u : Ru) (al : List ALn) (p : Nat) : List ALn × List Out :=
  if u.inn = false ∧ afnd (p / 4) al = none then (al, [("cell", p)])
  else
    ((aReach u al (p / 4)).1.set (aReach u al (p / 4)).2.2 ((alAt (aReach u al (p / 4)).1 (aReach u al (p / 4)).2.2).1, u.bk || (alAt (aReach u al (p / 4)).1 (aReach u al (p / 4)).2.2).2),
      if u.bk = true then (aReach u al (p / 4)).2.1 else (aReach u al (p / 4)).2.1 ++ [((("cell" : Str), p) : Out)])
def aHome (u : Ru) (al : List ALn) (b : Nat) : List ALn × List Out :=
  match afnd b al with
  | none =>
    if u.inn = true then ((aWay u al).1 ++ [(b, u.bk)], if u.bk = true then (aWay u al).2 else (aWay u al).2 ++ [((("home" : Str), b) : Out)])
    else (al, [("home", b)])
  | some i => ((touchL u.lt al i).set (touchI u.lt al i) (b, u.bk), if u.bk = true then [] else [("home", b)])
abbrev ASs := List (List ALn)
def aGet (ss : ASs) (b : Nat) : List ALn := ss.getD (b % ss.length) []
def aPut (ss : ASs) (b : Nat) (al : List ALn) : ASs := ss.set (b % ss.length) al
def aStep (u : Ru) (ss : ASs) : Ask → ASs × List Out
  | .look p => (aPut ss (p / 4) (aReach u (aGet ss (p / 4)) (p / 4)).1, (aReach u (aGet ss (p / 4)) (p / 4)).2.1)
  | .bring b => (aPut ss b (aReach u (aGet ss b) b).1, (aReach u (aGet ss b) b).2.1)
  | .cell p => (aPut ss (p / 4) (aChange u (aGet ss (p / 4)) p).1, (aChange u (aGet ss (p / 4)) p).2)
  | .home b => (aPut ss b (aHome u (aGet ss b) b).1, (aHome u (aGet ss b) b).2)
def aRun (u : Ru) : ASs → List Ask → ASs × List Out
  | ss, [] => (ss, [])
  | ss, a :: as => ((aRun u (aStep u ss a).1 as).1, (aStep u ss a).2 ++ (aRun u (aStep u ss a).1 as).2)
theorem aRun_app (u : Ru) : ∀ (as bs : List Ask) (ss : ASs), aRun u ss (as ++ bs) = ((aRun u (aRun u ss as).1 bs).1, (aRun u ss as).2 ++ (aRun u (aRun u ss as).1 bs).2)
  | [], bs, ss => by
    show aRun u ss bs = ((aRun u ss bs).1, [] ++ (aRun u ss bs).2)
    rw [List.nil_append]
  | a :: as, bs, ss => by
    have ih := aRun_app u as bs (aStep u ss a).1
    show ((aRun u (aStep u ss a).1 (as ++ bs)).1, (aStep u ss a).2 ++ (aRun u (aStep u ss a).1 (as ++ bs)).2) = ((aRun u (aRun u (aStep u ss a).1 as).1 bs).1, ((aStep u ss a).2 ++ (aRun u (aStep u ss a).1 as).2) ++ (aRun u (aRun u (aStep u ss a).1 as).1 bs).2)
    rw [ih, List.append_assoc]
theorem aRun_one (u : Ru) (ss : ASs) (a : Ask) : aRun u ss [a] = aStep u ss a := by
  show ((aStep u ss a).1, (aStep u ss a).2 ++ []) = _
  rw [List.append_nil]
def absS (r : Rm) : ASs := r.ss.map abL
theorem absS_len (r : Rm) : (absS r).length = r.ss.length := List.length_map _
theorem absS_get (r : Rm) (b : Nat) : aGet (absS r) b = abL (r.ls b) := by
  unfold aGet Rm.ls Rm.ix
  rw [absS_len, List.getD_eq_getElem?_getD, List.getD_eq_getElem?_getD]
  show ((r.ss.map abL)[b % r.ss.length]?).getD [] = _
  rw [List.getElem?_map]
  cases r.ss[b % r.ss.length]? <;> rfl
theorem absS_put (r : Rm) (b : Nat) (ls : List Ln) : absS (r.put b ls) = aPut (absS r) b (abL ls) := by
  unfold aPut
  rw [absS_len]
  show (r.ss.set (r.ix b) ls).map abL = (r.ss.map abL).set (b % r.ss.length) (abL ls)
  rw [List.map_set]
  rfl
/-- what is told of going on -/
structure Tr (o : Ops) (tl : List V) (I : Ta → Prop) (S : Ta → Ta → List Out → Prop) : Prop where
  refl : ∀ t, I t → S t t []
  trans : ∀ {t t' t'' a b}, S t t' a → S t' t'' b → S t t'' (a ++ b)
  keep : ∀ {t t' a}, S t t' a → I t → I t'
  hm : ∀ t b ns, I t → S t (passH o tl t b ns) [("home", b)]
  ch : ∀ t p v, I t → S t (passC o tl t p v) [("cell", p)]
  br : ∀ t b, I t → S t (o.br (t.note tl "bring" b) b).2 [("bring", b)]
section
variable {o : Ops} {u : Ru} {I : Ta → Prop} {S : Ta → Ta → List Out → Prop} {ls : List Ln} {t : Ta}
theorem mkWay_tr (T : Tr o u.tl I S) (h : I t) : S t (mkWay o u ls t).2 (aWay u (abL ls)).2 ∧ abL (mkWay o u ls t).1 = (aWay u (abL ls)).1 := by
  have hl : (abL ls).length = ls.length := List.length_map _
  unfold mkWay aWay
  rw [hl]
  split
  · cases ls with
    | nil => exact ⟨T.refl t h, rfl⟩
    | cons l rest =>
      refine ⟨?_, rfl⟩
      show S t (if l.d = true then passH o u.tl t l.b l.ns else t) (if l.d = true then [("home", l.b)] else [])
      split
      · exact T.hm t _ _ h
      · exact T.refl t h
  · exact ⟨T.refl t h, rfl⟩
theorem abL_touch (lt : Bool) (ls : List Ln) (i : Nat) : abL (touchL lt ls i) = touchL lt (abL ls) i := (touch_map _ lt ls i).symm
theorem abL_touchI (lt : Bool) (ls : List Ln) (i : Nat) : touchI lt (abL ls) i = touchI lt ls i := touchI_map _ lt ls i
theorem reach_tr (T : Tr o u.tl I S) (h : I t) (b : Nat) : S t (reachL o u ls t b).2.1 (aReach u (abL ls) b).2.1 ∧ abL (reachL o u ls t b).1 = (aReach u (abL ls) b).1 ∧ (reachL o u ls t b).2.2 = (aReach u (abL ls) b).2.2 := by
  unfold reachL aReach
  rw [afnd_ab]
  cases fnd b ls with
  | some i => exact ⟨T.refl t h, abL_touch .., (abL_touchI ..).symm⟩
  | none =>
    obtain ⟨h1, h2⟩ := mkWay_tr (ls := ls) T h
    refine ⟨T.trans h1 (T.br _ b (T.keep h1 h)), ?_, ?_⟩
    · show abL ((mkWay o u ls t).1 ++ [_]) = _
      rw [← h2]
      exact List.map_append
    · show (mkWay o u ls t).1.length = (aWay u (abL ls)).1.length
      rw [← h2]
      exact (List.length_map _).symm
theorem alAt_ab (ls : List Ln) (i : Nat) : alAt (abL ls) i = ((lnAt ls i).b, (lnAt ls i).d) := by
  unfold alAt lnAt
  rw [List.getD_eq_getElem?_getD, List.getD_eq_getElem?_getD]
  show ((ls.map _)[i]?).getD _ = _
  rw [List.getElem?_map]
  cases ls[i]? <;> rfl
theorem change_tr (T : Tr o u.tl I S) (h : I t) (p : Nat) (v : Int) : S t (changeL o u ls t p v).2 (aChange u (abL ls) p).2 ∧ abL (changeL o u ls t p v).1 = (aChange u (abL ls) p).1 := by
  unfold changeL aChange
  rw [afnd_ab]
  split
  · exact ⟨T.ch t _ _ h, rfl⟩
  · obtain ⟨h1, h2, h3⟩ := reach_tr (ls := ls) T h (p / 4)
    refine ⟨?_, ?_⟩
    · show S t (if u.bk = true then (reachL o u ls t (p / 4)).2.1 else passC o u.tl (reachL o u ls t (p / 4)).2.1 p v) (if u.bk = true then (aReach u (abL ls) (p / 4)).2.1 else (aReach u (abL ls) (p / 4)).2.1 ++ [((("cell" : Str), p) : Out)])
      split
      · exact h1
      · exact T.trans h1 (T.ch _ _ _ (T.keep h1 h))
    · show abL ((reachL o u ls t (p / 4)).1.set (reachL o u ls t (p / 4)).2.2 (setCell u.bk (lnAt (reachL o u ls t (p / 4)).1 (reachL o u ls t (p / 4)).2.2) p v)) = _
      rw [← h2, ← h3, alAt_ab]
      exact List.map_set
theorem home_tr (T : Tr o u.tl I S) (h : I t) (b : Nat) (ns : List Int) : S t (homeL o u ls t b ns).2 (aHome u (abL ls) b).2 ∧ abL (homeL o u ls t b ns).1 = (aHome u (abL ls) b).1 := by
  unfold homeL aHome
  rw [afnd_ab]
  cases fnd b ls with
  | none =>
    dsimp only
    split
    · obtain ⟨h1, h2⟩ := mkWay_tr (ls := ls) T h
      refine ⟨?_, ?_⟩
      · show S t (if u.bk = true then (mkWay o u ls t).2 else passH o u.tl (mkWay o u ls t).2 b ns) (if u.bk = true then (aWay u (abL ls)).2 else (aWay u (abL ls)).2 ++ [((("home" : Str), b) : Out)])
        split
        · exact h1
        · exact T.trans h1 (T.hm _ _ _ (T.keep h1 h))
      · show abL ((mkWay o u ls t).1 ++ [_]) = _
        rw [← h2]
        exact List.map_append
    · exact ⟨T.hm t _ _ h, rfl⟩
  | some i =>
    refine ⟨?_, ?_⟩
    · show S t (if u.bk = true then t else passH o u.tl t b ns) (if u.bk = true then [] else [("home", b)])
      split
      · exact T.refl t h
      · exact T.hm t _ _ h
    · show abL ((touchL u.lt ls i).set (touchI u.lt ls i) ⟨b, ns, u.bk⟩) = (touchL u.lt (abL ls) i).set (touchI u.lt (abL ls) i) (b, u.bk)
      rw [abL_touchI, ← abL_touch]
      exact List.map_set
end
/-! ### a room before the far one -/
def ents (tl : List V) (os : List Out) : List Ent := os.map fun x => ⟨tl, x.1, x.2⟩
theorem far_tr (tl : List V) : Tr (ops 0) tl (fun _ => True) (fun t t' os => t'.log = t.log ++ ents tl os) where
  refl := fun t _ => by
    show t.log = t.log ++ []
    rw [List.append_nil]
  trans := fun {t t' t'' a b} h1 h2 => by
    rw [h2, h1, List.append_assoc]
    unfold ents
    rw [List.map_append]
  keep := fun _ _ => trivial
  hm := fun t b ns _ => rfl
  ch := fun t p v _ => rfl
  br := fun t b _ => rfl
/-! ### rooms in a row -/
def atLev (lev : Nat) (e : Ent) : Bool := decide (e.tl.head? = some (V.int lev))
def outsAt (lev : Nat) (E : List Ent) : List Out := (E.filter (atLev lev)).map fun e => (e.w, e.n)
theorem outsAt_app (lev : Nat) (E F : List Ent) : outsAt lev (E ++ F) = outsAt lev E ++ outsAt lev F := by
  unfold outsAt
  rw [List.filter_append, List.map_append]
def toAsk (o : Out) : Ask := if o.1 = ("bring" : Str) then .bring o.2 else if o.1 = ("home" : Str) then .home o.2 else .cell o.2
def asksOf (os : List Out) : List Ask := os.map toAsk
def ChOk : Nat → List Rm → List Rm → List Ask → List Ent → Prop
  | _, [], [], _, _ => True
  | lev, r :: rs, r' :: rs', as, E => r'.ru = r.ru ∧ aRun r.ru (absS r) as = (absS r', outsAt lev E) ∧ ChOk (lev + 1) rs rs' (asksOf (outsAt lev E)) E
  | _, _, _, _, _ => False
def Ge (lev : Nat) (E : List Ent) : Prop := ∀ e ∈ E, ∃ l, lev ≤ l ∧ e.tl = [.int (l : Nat), .int ((0 : Nat) : Int)]
theorem Ge.app {lev : Nat} {E F : List Ent} (h1 : Ge lev E) (h2 : Ge lev F) : Ge lev (E ++ F) := fun e he => by
  rcases List.mem_append.mp he with he | he
  · exact h1 e he
  · exact h2 e he
theorem Ge.le {lev lev' : Nat} {E : List Ent} (h : Ge lev E) (hl : lev' ≤ lev) : Ge lev' E := fun e he => by
  obtain ⟨l, h1, h2⟩ := h e he
  exact ⟨l, by omega, h2⟩
theorem Ge.outs {lev l : Nat} {E : List Ent} (h : Ge lev E) (hl : l < lev) : outsAt l E = [] := by
  unfold outsAt
  have : E.filter (atLev l) = [] := List.filter_eq_nil_iff.mpr fun e he q => by
    obtain ⟨l', h1, h2⟩ := h e he
    have q := of_decide_eq_true q
    rw [h2] at q
    have q : some (V.int (l' : Nat)) = some (V.int (l : Nat)) := q
    injection q with q
    injection q with q
    omega
  rw [this]
  rfl
theorem ChOk.refl : ∀ {rs : List Rm} {lev : Nat}, ChOk lev rs rs [] []
  | [], _ => trivial
  | _ :: rs, lev => ⟨rfl, rfl, ChOk.refl (rs := rs)⟩
theorem ChOk.trans : ∀ {rs rs' rs'' : List Rm} {lev : Nat} {a b : List Ask} {E F : List Ent}, ChOk lev rs rs' a E → ChOk lev rs' rs'' b F → ChOk lev rs rs'' (a ++ b) (E ++ F)
  | [], [], [], _, _, _, _, _, _, _ => trivial
  | [], [], _ :: _, _, _, _, _, _, _, h => h.elim
  | [], _ :: _, _, _, _, _, _, _, h, _ => h.elim
  | _ :: _, [], _, _, _, _, _, _, h, _ => h.elim
  | _ :: _, _ :: _, [], _, _, _, _, _, _, h => h.elim
  | r :: rs, r' :: rs', r'' :: rs'', lev, a, b, E, F, ⟨h1, h2, h3⟩, ⟨g1, g2, g3⟩ => by
    refine ⟨g1.trans h1, ?_, ?_⟩
    · rw [h1] at g2
      rw [aRun_app, h2]
      dsimp only
      rw [g2, outsAt_app]
    · rw [outsAt_app]
      unfold asksOf
      rw [List.map_append]
      exact ChOk.trans h3 g3
/-- other levels' entries don't matter -/
theorem ChOk.front : ∀ {rs rs' : List Rm} {lev : Nat} {a : List Ask} {E F : List Ent}, (∀ l, lev ≤ l → outsAt l F = []) → ChOk lev rs rs' a E → ChOk lev rs rs' a (F ++ E)
  | [], [], _, _, _, _, _, _ => trivial
  | [], _ :: _, _, _, _, _, _, h => h.elim
  | _ :: _, [], _, _, _, _, _, h => h.elim
  | r :: rs, r' :: rs', lev, a, E, F, hF, ⟨h1, h2, h3⟩ => by
    have e : outsAt lev (F ++ E) = outsAt lev E := by
      rw [outsAt_app, hF lev (Nat.le_refl _)]
      rfl
    refine ⟨h1, by rw [e]; exact h2, ?_⟩
    rw [e]
    exact ChOk.front (fun l hl => hF l (by omega)) h3
def Lv : Nat → List Rm → Prop
  | _, [] => True
  | lev, r :: rs => r.ru.tl = [.int (lev : Nat), .int ((0 : Nat) : Int)] ∧ Lv (lev + 1) rs
theorem ChOk.lv : ∀ {rs rs' : List Rm} {lev : Nat} {a : List Ask} {E : List Ent}, ChOk lev rs rs' a E → Lv lev rs → Lv lev rs' ∧ rs'.length = rs.length
  | [], [], _, _, _, _, _ => ⟨trivial, rfl⟩
  | [], _ :: _, _, _, _, h, _ => h.elim
  | _ :: _, [], _, _, _, h, _ => h.elim
  | r :: rs, r' :: rs', lev, a, E, ⟨h1, _, h3⟩, ⟨k1, k2⟩ => by
    obtain ⟨i1, i2⟩ := ChOk.lv h3 k2
    refine ⟨⟨by rw [h1]; exact k1, i1⟩, ?_⟩
    rw [List.length_cons, List.length_cons, i2]
structure OpsA (n lev : Nat) (o : Ops) : Prop where
  hm : ∀ t b ns, Lv lev t.rs → t.rs.length = n → ∃ E, (o.hm t b ns).log = t.log ++ E ∧ ChOk lev t.rs (o.hm t b ns).rs [.home b] E ∧ Ge lev E
  br : ∀ t b, Lv lev t.rs → t.rs.length = n → ∃ E, (o.br t b).2.log = t.log ++ E ∧ ChOk lev t.rs (o.br t b).2.rs [.bring b] E ∧ Ge lev E
  ch : ∀ t p v, Lv lev t.rs → t.rs.length = n → ∃ E, (o.ch t p v).log = t.log ++ E ∧ ChOk lev t.rs (o.ch t p v).rs [.cell p] E ∧ Ge lev E
theorem nhb : ¬ ("home" : Str) = "bring" := by decide +kernel
theorem ncb : ¬ ("cell" : Str) = "bring" := by decide +kernel
theorem nch : ¬ ("cell" : Str) = "home" := by decide +kernel
theorem ask_home (b : Nat) : asksOf [(("home" : Str), b)] = [.home b] := by
  show [toAsk ("home", b)] = _
  unfold toAsk
  rw [if_neg nhb, if_pos rfl]
theorem ask_cell (p : Nat) : asksOf [(("cell" : Str), p)] = [.cell p] := by
  show [toAsk ("cell", p)] = _
  unfold toAsk
  rw [if_neg ncb, if_neg nch]
theorem ask_bring (b : Nat) : asksOf [(("bring" : Str), b)] = [.bring b] := by
  show [toAsk ("bring", b)] = _
  unfold toAsk
  rw [if_pos rfl]
def StA (lev n : Nat) (t t' : Ta) (os : List Out) : Prop := ∃ E, t'.log = t.log ++ E ∧ outsAt lev E = os ∧ ChOk (lev + 1) t.rs t'.rs (asksOf os) E ∧ Ge lev E
theorem outs_one (lev : Nat) (w : Str) (k : Nat) : outsAt lev [⟨[.int (lev : Nat), .int ((0 : Nat) : Int)], w, k⟩] = [(w, k)] := by
  unfold outsAt
  rw [List.filter_cons_of_pos (show atLev lev _ = true from decide_eq_true rfl)]
  rfl
theorem outs_one_ne {lev l : Nat} (h : l ≠ lev) (w : Str) (k : Nat) : outsAt l [⟨[.int (lev : Nat), .int ((0 : Nat) : Int)], w, k⟩] = [] := by
  unfold outsAt
  rw [List.filter_cons_of_neg]
  · rfl
  · intro q
    have q := of_decide_eq_true (show decide (_ = _) = true from q)
    have q : some (V.int (lev : Nat)) = some (V.int (l : Nat)) := q
    injection q with q
    injection q with q
    omega
theorem row_tr {n lev : Nat} {o : Ops} (O : OpsA n (lev + 1) o) : Tr o [.int (lev : Nat), .int ((0 : Nat) : Int)] (fun t => Lv (lev + 1) t.rs ∧ t.rs.length = n) (StA lev n) where
  refl := fun t _ => ⟨[], (List.append_nil _).symm, rfl, ChOk.refl, fun e he => by cases he⟩
  trans := fun {t t' t'' a b} ⟨E, e1, e2, e3, e4⟩ ⟨F, f1, f2, f3, f4⟩ => by
    refine ⟨E ++ F, by rw [f1, e1, List.append_assoc], by rw [outsAt_app, e2, f2], ?_, e4.app f4⟩
    unfold asksOf at e3 f3 ⊢
    rw [List.map_append]
    exact ChOk.trans e3 f3
  keep := fun {t t' a} ⟨E, e1, e2, e3, e4⟩ ⟨h1, h2⟩ => by
    obtain ⟨i1, i2⟩ := e3.lv h1
    exact ⟨i1, i2.trans h2⟩
  hm := fun t b ns ⟨h1, h2⟩ => by
    obtain ⟨E, e1, e2, e3⟩ := O.hm (t.note [.int (lev : Nat), .int ((0 : Nat) : Int)] "home" b) b ns h1 h2
    refine ⟨[⟨[.int (lev : Nat), .int ((0 : Nat) : Int)], "home", b⟩] ++ E, ?_, ?_, ?_, ?_⟩
    · show (o.hm (t.note _ "home" b) b ns).log = _
      rw [e1, ← List.append_assoc]
      rfl
    · rw [outsAt_app, outs_one, e3.outs (Nat.lt_succ_self lev)]
      rfl
    · rw [ask_home]
      exact ChOk.front (fun l hl => outs_one_ne (by omega) _ _) e2
    · exact Ge.app (fun e he => ⟨lev, Nat.le_refl _, by rw [List.mem_singleton.mp he]⟩) (e3.le (Nat.le_succ _))
  ch := fun t p v ⟨h1, h2⟩ => by
    obtain ⟨E, e1, e2, e3⟩ := O.ch (t.note [.int (lev : Nat), .int ((0 : Nat) : Int)] "cell" p) p v h1 h2
    refine ⟨[⟨[.int (lev : Nat), .int ((0 : Nat) : Int)], "cell", p⟩] ++ E, ?_, ?_, ?_, ?_⟩
    · show (o.ch (t.note _ "cell" p) p v).log = _
      rw [e1, ← List.append_assoc]
      rfl
    · rw [outsAt_app, outs_one, e3.outs (Nat.lt_succ_self lev)]
      rfl
    · rw [ask_cell]
      exact ChOk.front (fun l hl => outs_one_ne (by omega) _ _) e2
    · exact Ge.app (fun e he => ⟨lev, Nat.le_refl _, by rw [List.mem_singleton.mp he]⟩) (e3.le (Nat.le_succ _))
  br := fun t b ⟨h1, h2⟩ => by
    obtain ⟨E, e1, e2, e3⟩ := O.br (t.note [.int (lev : Nat), .int ((0 : Nat) : Int)] "bring" b) b h1 h2
    refine ⟨[⟨[.int (lev : Nat), .int ((0 : Nat) : Int)], "bring", b⟩] ++ E, ?_, ?_, ?_, ?_⟩
    · rw [e1, ← List.append_assoc]
      rfl
    · rw [outsAt_app, outs_one, e3.outs (Nat.lt_succ_self lev)]
      rfl
    · rw [ask_bring]
      exact ChOk.front (fun l hl => outs_one_ne (by omega) _ _) e2
    · exact Ge.app (fun e he => ⟨lev, Nat.le_refl _, by rw [List.mem_singleton.mp he]⟩) (e3.le (Nat.le_succ _))
theorem ops_a : ∀ n lev, OpsA n lev (ops n)
  | 0, lev => by
    refine ⟨fun t b ns h1 h2 => ⟨[], (List.append_nil _).symm, ?_, fun e he => by cases he⟩, fun t b h1 h2 => ⟨[], (List.append_nil _).symm, ?_, fun e he => by cases he⟩, fun t p v h1 h2 => ⟨[], (List.append_nil _).symm, ?_, fun e he => by cases he⟩⟩
    all_goals
      have e : t.rs = [] := List.length_eq_zero_iff.mp h2
      show ChOk lev t.rs t.rs _ _
      rw [e]
      trivial
  | n + 1, lev => by
    have O := ops_a n (lev + 1)
    refine ⟨fun t b ns h1 h2 => ?_, fun t b h1 h2 => ?_, fun t p v h1 h2 => ?_⟩
    all_goals
      obtain ⟨r, rs, e⟩ : ∃ r rs, t.rs = r :: rs := by
        cases ht : t.rs with
        | nil =>
          rw [ht] at h2
          cases h2
        | cons r rs => exact ⟨r, rs, rfl⟩
      rw [e] at h1 h2 ⊢
      obtain ⟨k1, k2⟩ := h1
      have T := row_tr O
      rw [← k1] at T
      have hI : Lv (lev + 1) ({ t with rs := rs } : Ta).rs ∧ ({ t with rs := rs } : Ta).rs.length = n := ⟨k2, by simpa using h2⟩
    · obtain ⟨⟨E, e1, e2, e3, e4⟩, g2⟩ := home_tr (ls := r.ls b) T hI b ns
      have eo : (ops (n + 1)).hm t b ns = Ta.cons (r.put b (homeL (ops n) r.ru (r.ls b) { t with rs := rs } b ns).1) (homeL (ops n) r.ru (r.ls b) { t with rs := rs } b ns).2 := by
        show (match t.rs with | [] => t | r :: rs => Ta.cons (r.put b (homeL (ops n) r.ru (r.ls b) { t with rs := rs } b ns).1) (homeL (ops n) r.ru (r.ls b) { t with rs := rs } b ns).2) = _
        rw [e]
      rw [eo]
      refine ⟨E, e1, ⟨rfl, ?_, by rw [e2]; exact e3⟩, e4⟩
      rw [aRun_one, e2, absS_put, g2, ← absS_get]
      rfl
    · obtain ⟨⟨E, e1, e2, e3, e4⟩, g2, _⟩ := reach_tr (ls := r.ls b) T hI b
      have eo : (ops (n + 1)).br t b = ((bringL (ops n) r.ru (r.ls b) { t with rs := rs } b).1, Ta.cons (r.put b (bringL (ops n) r.ru (r.ls b) { t with rs := rs } b).2.1) (bringL (ops n) r.ru (r.ls b) { t with rs := rs } b).2.2) := by
        show (match t.rs with | [] => (([] : List Int), t) | r :: rs => ((bringL (ops n) r.ru (r.ls b) { t with rs := rs } b).1, Ta.cons (r.put b (bringL (ops n) r.ru (r.ls b) { t with rs := rs } b).2.1) (bringL (ops n) r.ru (r.ls b) { t with rs := rs } b).2.2)) = _
        rw [e]
      rw [eo]
      refine ⟨E, e1, ⟨rfl, ?_, by rw [e2]; exact e3⟩, e4⟩
      rw [aRun_one, e2]
      show _ = (absS (r.put b (reachL (ops n) r.ru (r.ls b) { t with rs := rs } b).1), _)
      rw [absS_put, g2, ← absS_get]
      rfl
    · obtain ⟨⟨E, e1, e2, e3, e4⟩, g2⟩ := change_tr (ls := r.ls (p / 4)) T hI p v
      have eo : (ops (n + 1)).ch t p v = Ta.cons (r.put (p / 4) (changeL (ops n) r.ru (r.ls (p / 4)) { t with rs := rs } p v).1) (changeL (ops n) r.ru (r.ls (p / 4)) { t with rs := rs } p v).2 := by
        show (match t.rs with | [] => t | r :: rs => Ta.cons (r.put (p / 4) (changeL (ops n) r.ru (r.ls (p / 4)) { t with rs := rs } p v).1) (changeL (ops n) r.ru (r.ls (p / 4)) { t with rs := rs } p v).2) = _
        rw [e]
      rw [eo]
      refine ⟨E, e1, ⟨rfl, ?_, by rw [e2]; exact e3⟩, e4⟩
      rw [aRun_one, e2, absS_put, g2, ← absS_get]
      rfl
-- WwLr
/-! ### the order of blocks, the latest first -/
def neB (b : Nat) (x : Nat) : Bool := !decide (x = b)
def psh (o : List Nat) (b : Nat) : List Nat := b :: o.filter (neB b)
def ordOf (bs : List Nat) : List Nat := bs.foldl psh []
def fxN (b : Nat) : List Nat → Option Nat
  | [] => none
  | x :: r => if x = b then some 0 else (fxN b r).map (· + 1)
def dptsFrom : List Nat → List Nat → List (Option Nat)
  | _, [] => []
  | o, b :: bs => fxN b o :: dptsFrom (psh o b) bs
def dptsOf (bs : List Nat) : List (Option Nat) := dptsFrom [] bs
def missB (w : Nat) : Option Nat → Bool
  | none => true
  | some k => decide (w ≤ k)
def cntW (w : Nat) (bs : List Nat) : Nat := (dptsOf bs).countP (missB w)
theorem ordOf_snoc (bs : List Nat) (b : Nat) : ordOf (bs ++ [b]) = psh (ordOf bs) b := by
  unfold ordOf
  rw [List.foldl_append]
  rfl
theorem dptsFrom_snoc : ∀ (bs : List Nat) (o : List Nat) (b : Nat), dptsFrom o (bs ++ [b]) = dptsFrom o bs ++ [fxN b (bs.foldl psh o)]
  | [], o, b => rfl
  | c :: bs, o, b => by
    show fxN c o :: dptsFrom (psh o c) (bs ++ [b]) = fxN c o :: (dptsFrom (psh o c) bs ++ [fxN b (bs.foldl psh (psh o c))])
    rw [dptsFrom_snoc bs]
theorem dptsOf_snoc (bs : List Nat) (b : Nat) : dptsOf (bs ++ [b]) = dptsOf bs ++ [fxN b (ordOf bs)] := dptsFrom_snoc bs [] b
theorem dptsFrom_len : ∀ (bs : List Nat) (o : List Nat), (dptsFrom o bs).length = bs.length
  | [], _ => rfl
  | b :: bs, o => congrArg (· + 1) (dptsFrom_len bs _)
theorem dptsOf_len (bs : List Nat) : (dptsOf bs).length = bs.length := dptsFrom_len bs []
theorem neB_true {b x : Nat} : neB b x = true ↔ x ≠ b := by
  unfold neB
  simp
theorem mem_psh {o : List Nat} {b x : Nat} : x ∈ psh o b ↔ x = b ∨ x ∈ o := by
  unfold psh
  rw [List.mem_cons, List.mem_filter, neB_true]
  constructor
  · rintro (h | h)
    · exact .inl h
    · exact .inr h.1
  · rintro (h | h)
    · exact .inl h
    · by_cases e : x = b
      · exact .inl e
      · exact .inr ⟨h, e⟩
theorem psh_nodup {o : List Nat} (h : o.Nodup) (b : Nat) : (psh o b).Nodup := by
  unfold psh
  refine List.nodup_cons.mpr ⟨fun q => ?_, h.filter _⟩
  exact neB_true.mp (List.mem_filter.mp q).2 rfl
theorem foldl_ord : ∀ (bs : List Nat) (o : List Nat), o.Nodup → (bs.foldl psh o).Nodup ∧ ∀ x, x ∈ bs.foldl psh o ↔ x ∈ o ∨ x ∈ bs
  | [], o, h => ⟨h, fun x => by simp⟩
  | b :: bs, o, h => by
    obtain ⟨h1, h2⟩ := foldl_ord bs (psh o b) (psh_nodup h b)
    refine ⟨h1, fun x => ?_⟩
    rw [List.foldl_cons, h2, mem_psh, List.mem_cons]
    constructor
    · rintro ((h | h) | h)
      · exact .inr (.inl h)
      · exact .inl h
      · exact .inr (.inr h)
    · rintro (h | h | h)
      · exact .inl (.inr h)
      · exact .inl (.inl h)
      · exact .inr h
theorem ord_nodup (bs : List Nat) : (ordOf bs).Nodup := (foldl_ord bs [] List.nodup_nil).1
theorem ord_mem (bs : List Nat) (x : Nat) : x ∈ ordOf bs ↔ x ∈ bs := by
  have := (foldl_ord bs [] List.nodup_nil).2 x
  show x ∈ bs.foldl psh [] ↔ _
  simpa using this
theorem fxN_take : ∀ {o : List Nat} {b w : Nat}, b ∈ o.take w ↔ ∃ k, fxN b o = some k ∧ k < w
  | [], b, w => by simp [fxN]
  | x :: o, b, 0 => by simp
  | x :: o, b, w + 1 => by
    rw [List.take_succ_cons, List.mem_cons]
    unfold fxN
    by_cases e : x = b
    · rw [if_pos e]
      exact ⟨fun _ => ⟨0, rfl, Nat.succ_pos _⟩, fun _ => .inl e.symm⟩
    · rw [if_neg e, fxN_take (o := o)]
      constructor
      · rintro (h | ⟨k, h1, h2⟩)
        · exact absurd h.symm e
        · exact ⟨k + 1, by rw [h1]; rfl, by omega⟩
      · rintro ⟨k, h1, h2⟩
        cases q : fxN b o with
        | none =>
          rw [q] at h1
          cases h1
        | some j =>
          rw [q] at h1
          have : j + 1 = k := Option.some.inj h1
          exact .inr ⟨j, rfl, by omega⟩
theorem miss_take {o : List Nat} {b w : Nat} : missB w (fxN b o) = !decide (b ∈ o.take w) := by
  have h := fxN_take (o := o) (b := b) (w := w)
  cases q : fxN b o with
  | none =>
    rw [q] at h
    rw [decide_eq_false (fun z => by obtain ⟨k, e, _⟩ := h.mp z; cases e)]
    rfl
  | some j =>
    rw [q] at h
    show decide (w ≤ j) = _
    by_cases z : w ≤ j
    · rw [decide_eq_true z, decide_eq_false (fun y => by obtain ⟨k, e, _⟩ := h.mp y; have := Option.some.inj e; omega)]
      rfl
    · rw [decide_eq_false z, decide_eq_true (h.mpr ⟨j, rfl, by omega⟩)]
      rfl
/-! ### lines of one set: the last of the order -/
theorem filter_out {L : List Nat} {b : Nat} (h : b ∉ L) : L.filter (neB b) = L := List.filter_eq_self.mpr fun x hx => neB_true.mpr fun e => h (e ▸ hx)
theorem take_in : ∀ {L : List Nat} {b w : Nat}, L.Nodup → b ∈ L.take w → (L.take w).filter (neB b) = (L.filter (neB b)).take (w - 1)
  | [], b, w, _, h => by simp at h
  | x :: L, b, 0, _, h => by simp at h
  | x :: L, b, w + 1, nd, h => by
    obtain ⟨n1, n2⟩ := List.nodup_cons.mp nd
    rw [List.take_succ_cons] at h ⊢
    by_cases e : x = b
    · subst e
      have hx : neB x x = false := by unfold neB; simp
      rw [List.filter_cons_of_neg (by rw [hx]; decide), List.filter_cons_of_neg (by rw [hx]; decide), filter_out n1, filter_out (fun q => n1 (List.mem_of_mem_take q))]
      rfl
    · have hx : neB b x = true := neB_true.mpr e
      have hb : b ∈ L.take w := by
        rcases List.mem_cons.mp h with h | h
        · exact absurd h.symm e
        · exact h
      rw [List.filter_cons_of_pos hx, List.filter_cons_of_pos hx, take_in n2 hb]
      cases w with
      | zero => simp at hb
      | succ w => rfl
theorem take_out : ∀ {L : List Nat} {b w : Nat}, b ∉ L.take w → (L.filter (neB b)).take w = L.take w
  | [], b, w, _ => by simp
  | x :: L, b, 0, _ => by simp
  | x :: L, b, w + 1, h => by
    rw [List.take_succ_cons] at h ⊢
    have e : x ≠ b := fun e => h (by rw [e]; exact List.mem_cons_self)
    rw [List.filter_cons_of_pos (neB_true.mpr e), List.take_succ_cons, take_out fun q => h (List.mem_cons_of_mem _ q)]
theorem map_erIx {α β : Type} (f : α → β) : ∀ (l : List α) (i : Nat), (l.eraseIdx i).map f = (l.map f).eraseIdx i
  | [], i => by simp
  | a :: l, 0 => by simp
  | a :: l, i + 1 => by
    show f a :: (l.eraseIdx i).map f = f a :: (l.map f).eraseIdx i
    rw [map_erIx f l i]
def Bl (al : List ALn) : List Nat := al.map (·.1)
theorem afnd_none {b : Nat} : ∀ {al : List ALn}, afnd b al = none → b ∉ Bl al
  | [], _ => by simp [Bl]
  | l :: al, h => by
    unfold afnd at h
    split at h
    · cases h
    · rename_i e
      intro q
      rcases List.mem_cons.mp q with q | q
      · exact e q.symm
      · refine afnd_none (al := al) ?_ q
        cases z : afnd b al with
        | none => rfl
        | some i =>
          rw [z] at h
          cases h
theorem afnd_some {b : Nat} : ∀ {al : List ALn} {i : Nat}, afnd b al = some i → ∃ l, al[i]? = some l ∧ l.1 = b
  | [], i, h => by cases h
  | l :: al, i, h => by
    unfold afnd at h
    split at h
    · rename_i e
      have : 0 = i := Option.some.inj h
      subst this
      exact ⟨l, rfl, e⟩
    · cases z : afnd b al with
      | none =>
        rw [z] at h
        cases h
      | some j =>
        rw [z] at h
        have : j + 1 = i := Option.some.inj h
        subst this
        obtain ⟨q, h1, h2⟩ := afnd_some z
        exact ⟨q, by simpa using h1, h2⟩
theorem erase_filter : ∀ {L : List Nat} {i b : Nat}, L.Nodup → L[i]? = some b → L.eraseIdx i = L.filter (neB b)
  | [], i, b, _, h => by simp at h
  | x :: L, 0, b, nd, h => by
    have e : x = b := by simpa using h
    subst e
    obtain ⟨n1, n2⟩ := List.nodup_cons.mp nd
    have hx : neB x x = false := by unfold neB; simp
    rw [List.filter_cons_of_neg (by rw [hx]; decide), filter_out n1]
    rfl
  | x :: L, i + 1, b, nd, h => by
    obtain ⟨n1, n2⟩ := List.nodup_cons.mp nd
    have h2 : L[i]? = some b := by simpa using h
    have e : x ≠ b := fun e => n1 (e ▸ List.mem_of_getElem? h2)
    rw [List.filter_cons_of_pos (neB_true.mpr e), ← erase_filter n2 h2]
    rfl
def brg (os : List Out) : Nat := os.countP fun o => o.1 == ("bring" : Str)
theorem brg_app (a b : List Out) : brg (a ++ b) = brg a + brg b := List.countP_append
theorem brg_home (b : Nat) : brg [(("home" : Str), b)] = 0 := by
  unfold brg
  rw [List.countP_cons_of_neg]
  · rfl
  · intro q
    exact nhb (eq_of_beq q)
theorem brg_cell (b : Nat) : brg [(("cell" : Str), b)] = 0 := by
  unfold brg
  rw [List.countP_cons_of_neg]
  · rfl
  · intro q
    exact ncb (eq_of_beq q)
theorem brg_bring (b : Nat) : brg [(("bring" : Str), b)] = 1 := by
  unfold brg
  rw [List.countP_cons_of_pos]
  · rfl
  · exact beq_self_eq_true _
section
variable {u : Ru} {al : List ALn} {L : List Nat}
theorem way_lr (h1 : 1 ≤ u.ways) (h : Bl al = (L.take u.ways).reverse) : Bl (aWay u al).1 = (L.take (u.ways - 1)).reverse ∧ brg (aWay u al).2 = 0 := by
  have hl : al.length = (L.take u.ways).length := by
    have := congrArg List.length h
    rwa [List.length_reverse, show (Bl al).length = al.length from List.length_map _] at this
  rw [List.length_take] at hl
  unfold aWay
  by_cases e : al.length = u.ways
  · rw [if_pos e]
    cases al with
    | nil =>
      have : (0 : Nat) = u.ways := e
      omega
    | cons l rest =>
      refine ⟨?_, ?_⟩
      · show Bl rest = _
        have hw : u.ways - 1 < L.length := by omega
        have ht : L.take u.ways = L.take (u.ways - 1) ++ [L[u.ways - 1]] := by
          rw [List.take_append_getElem hw]
          congr 1
          omega
        rw [ht, List.reverse_append] at h
        exact (List.cons.inj h).2
      · show brg (if l.2 = true then [("home", l.1)] else []) = 0
        split
        · exact brg_home _
        · rfl
  · rw [if_neg e]
    refine ⟨?_, rfl⟩
    rw [h, List.take_of_length_le (by omega), List.take_of_length_le (by omega)]
theorem reach_lr (h1 : 1 ≤ u.ways) (hlt : u.lt = true) (nd : L.Nodup) (h : Bl al = (L.take u.ways).reverse) (b : Nat) :
    Bl (aReach u al b).1 = ((psh L b).take u.ways).reverse ∧ brg (aReach u al b).2.1 = (if b ∈ L.take u.ways then 0 else 1) := by
  have hps : (psh L b).take u.ways = b :: (L.filter (neB b)).take (u.ways - 1) := by
    unfold psh
    obtain ⟨v, hv⟩ : ∃ v, u.ways = v + 1 := ⟨u.ways - 1, by omega⟩
    rw [hv]
    rfl
  rw [hps]
  have ndt : (L.take u.ways).Nodup := (List.take_sublist _ _).nodup nd
  unfold aReach
  cases e : afnd b al with
  | some i =>
    obtain ⟨l, hl, hb⟩ := afnd_some e
    have hbl : (Bl al)[i]? = some b := by
      unfold Bl
      rw [List.getElem?_map, hl, ← hb]
      rfl
    have hmem : b ∈ L.take u.ways := by
      have := List.mem_of_getElem? hbl
      rw [h] at this
      exact List.mem_reverse.mp this
    refine ⟨?_, by rw [if_pos hmem]; rfl⟩
    show Bl (touchL u.lt al i) = _
    unfold touchL
    rw [hlt, if_pos rfl, hl]
    show (al.eraseIdx i ++ [l]).map (·.1) = _
    rw [List.map_append, map_erIx]
    show (Bl al).eraseIdx i ++ [l.1] = _
    have nb : (Bl al).Nodup := by rw [h]; exact (List.reverse_perm _).symm.nodup ndt
    rw [erase_filter nb hbl, h, hb, List.filter_reverse, take_in nd hmem, List.reverse_cons]
  | none =>
    have hmem : b ∉ L.take u.ways := fun q => afnd_none e (by rw [h]; exact List.mem_reverse.mpr q)
    obtain ⟨g1, g2⟩ := way_lr h1 h
    refine ⟨?_, ?_⟩
    · show ((aWay u al).1 ++ [(b, false)]).map (·.1) = _
      rw [List.map_append]
      show Bl (aWay u al).1 ++ [b] = _
      rw [g1, List.reverse_cons, take_out]
      exact fun q => hmem ((List.take_sublist_take_left (by omega)).mem q)
    · rw [if_neg hmem]
      show brg ((aWay u al).2 ++ [_]) = 1
      rw [brg_app, g2, brg_bring]
theorem set_bl {al : List ALn} {i : Nat} {x : ALn} (h : x.1 = (alAt al i).1) : Bl (al.set i x) = Bl al := by
  unfold Bl
  rw [List.map_set]
  by_cases hi : i < al.length
  · refine List.ext_getElem? fun j => ?_
    rw [List.getElem?_set]
    split
    · rename_i e
      subst e
      rw [List.length_map, if_pos hi, List.getElem?_map, List.getElem?_eq_getElem hi, h]
      unfold alAt
      rw [List.getD_eq_getElem?_getD, List.getElem?_eq_getElem hi]
      rfl
    · rfl
  · rw [List.set_eq_of_length_le (by rw [List.length_map]; omega)]
theorem change_lr (h1 : 1 ≤ u.ways) (hlt : u.lt = true) (hin : u.inn = true) (nd : L.Nodup) (h : Bl al = (L.take u.ways).reverse) (p : Nat) :
    Bl (aChange u al p).1 = ((psh L (p / 4)).take u.ways).reverse ∧ brg (aChange u al p).2 = (if p / 4 ∈ L.take u.ways then 0 else 1) := by
  obtain ⟨g1, g2⟩ := reach_lr h1 hlt nd h (p / 4)
  unfold aChange
  rw [if_neg (fun q => by rw [hin] at q; cases q.1)]
  refine ⟨?_, ?_⟩
  · exact (set_bl (al := (aReach u al (p / 4)).1) (i := (aReach u al (p / 4)).2.2) (x := ((alAt (aReach u al (p / 4)).1 (aReach u al (p / 4)).2.2).1, u.bk || (alAt (aReach u al (p / 4)).1 (aReach u al (p / 4)).2.2).2)) rfl).trans g1
  · show brg (if u.bk = true then (aReach u al (p / 4)).2.1 else (aReach u al (p / 4)).2.1 ++ [((("cell" : Str), p) : Out)]) = _
    split
    · exact g2
    · rw [brg_app, brg_cell, Nat.add_zero]
      exact g2
end
/-! ### the sets of a room -/
def inS (s j : Nat) (x : Nat) : Bool := decide (x % s = j)
structure Lru (s w : Nat) (o : List Nat) (ss : ASs) : Prop where
  len : ss.length = s
  at' : ∀ j, j < s → Bl (ss.getD j []) = ((o.filter (inS s j)).take w).reverse
theorem filter_psh_in {s j b : Nat} (h : b % s = j) (o : List Nat) : (psh o b).filter (inS s j) = psh (o.filter (inS s j)) b := by
  unfold psh
  rw [List.filter_cons_of_pos (show inS s j b = true from decide_eq_true h), List.filter_filter, List.filter_filter]
  congr 1
  exact List.filter_congr fun x _ => Bool.and_comm _ _
theorem filter_psh_out {s j b : Nat} (h : ¬ b % s = j) (o : List Nat) : (psh o b).filter (inS s j) = o.filter (inS s j) := by
  unfold psh
  rw [List.filter_cons_of_neg (show ¬ inS s j b = true from fun q => h (of_decide_eq_true q)), List.filter_filter]
  refine List.filter_congr fun x _ => ?_
  by_cases e : x % s = j
  · have : neB b x = true := neB_true.mpr fun q => h (by rw [← q]; exact e)
    rw [this, Bool.and_true]
  · rw [show inS s j x = false from decide_eq_false e]
    rfl
theorem getD_set_eq {α : Type} {l : List α} {i : Nat} {x d : α} (h : i < l.length) : (l.set i x).getD i d = x := by
  rw [List.getD_eq_getElem?_getD, List.getElem?_set_self h]
  rfl
theorem getD_set_ne {α : Type} {l : List α} {i j : Nat} {x d : α} (h : i ≠ j) : (l.set i x).getD j d = l.getD j d := by
  rw [List.getD_eq_getElem?_getD, List.getElem?_set_ne h, List.getD_eq_getElem?_getD]
theorem Lru.put {s w : Nat} {o : List Nat} {ss : ASs} (hs : 0 < s) (h : Lru s w o ss) {b : Nat} {al : List ALn} (ha : Bl al = ((psh (o.filter (inS s (b % s))) b).take w).reverse) : Lru s w (psh o b) (aPut ss b al) := by
  have hb : b % s < s := Nat.mod_lt _ hs
  refine ⟨by unfold aPut; rw [List.length_set]; exact h.len, fun j hj => ?_⟩
  unfold aPut
  rw [h.len]
  by_cases e : b % s = j
  · subst e
    rw [getD_set_eq (by rw [h.len]; exact hb), ha, filter_psh_in rfl]
  · rw [getD_set_ne e, filter_psh_out e]
    exact h.at' j hj
theorem Lru.get {s w : Nat} {o : List Nat} {ss : ASs} (hs : 0 < s) (h : Lru s w o ss) (b : Nat) : Bl (aGet ss b) = ((o.filter (inS s (b % s))).take w).reverse := by
  unfold aGet
  rw [h.len]
  exact h.at' _ (Nat.mod_lt _ hs)
def hitB (s w : Nat) (o : List Nat) (b : Nat) : Bool := decide (b ∈ (o.filter (inS s (b % s))).take w)
def askB : Ask → Nat
  | .look p => p / 4
  | .cell p => p / 4
  | .bring b => b
  | .home b => b
theorem step_lr {u : Ru} {s : Nat} {o : List Nat} {ss : ASs} (hs : 0 < s) (h1 : 1 ≤ u.ways) (hlt : u.lt = true) (hin : u.inn = true) (nd : o.Nodup) (h : Lru s u.ways o ss) {a : Ask} (ha : ∀ b, a ≠ .home b) :
    Lru s u.ways (psh o (askB a)) (aStep u ss a).1 ∧ brg (aStep u ss a).2 = (if hitB s u.ways o (askB a) = true then 0 else 1) := by
  have nf : ∀ j, (o.filter (inS s j)).Nodup := fun j => nd.filter _
  unfold hitB
  simp only [decide_eq_true_eq]
  cases a with
  | look p =>
    obtain ⟨g1, g2⟩ := reach_lr h1 hlt (nf _) (h.get hs (p / 4)) (p / 4)
    exact ⟨h.put hs g1, g2⟩
  | bring b =>
    obtain ⟨g1, g2⟩ := reach_lr h1 hlt (nf _) (h.get hs b) b
    exact ⟨h.put hs g1, g2⟩
  | cell p =>
    obtain ⟨g1, g2⟩ := change_lr h1 hlt hin (nf _) (h.get hs (p / 4)) p
    exact ⟨h.put hs g1, g2⟩
  | home b => exact absurd rfl (ha b)
/-! ### counts -/
theorem hit_mono {s w w' : Nat} (hw : w ≤ w') {o : List Nat} {b : Nat} (h : hitB s w o b = true) : hitB s w' o b = true := by
  unfold hitB at h ⊢
  exact decide_eq_true ((List.take_sublist_take_left hw).mem (of_decide_eq_true h))
theorem hit_one {w : Nat} {o : List Nat} {b : Nat} : missB w (fxN b o) = !hitB 1 w o b := by
  rw [miss_take]
  unfold hitB
  have : o.filter (inS 1 (b % 1)) = o := List.filter_eq_self.mpr fun x _ => decide_eq_true (by omega)
  rw [this]
/-- what a room of so many sets and ways brings -/
def brFrom (s w : Nat) : List Nat → List Nat → Nat
  | _, [] => 0
  | o, b :: bs => (if hitB s w o b = true then 0 else 1) + brFrom s w (psh o b) bs
def brOf (s w : Nat) (bs : List Nat) : Nat := brFrom s w [] bs
theorem brFrom_snoc (s w : Nat) : ∀ (bs : List Nat) (o : List Nat) (b : Nat), brFrom s w o (bs ++ [b]) = brFrom s w o bs + (if hitB s w (bs.foldl psh o) b = true then 0 else 1)
  | [], o, b => by
    show (if hitB s w o b = true then 0 else 1) + 0 = 0 + (if hitB s w o b = true then 0 else 1)
    omega
  | c :: bs, o, b => by
    show _ + brFrom s w (psh o c) (bs ++ [b]) = (_ + brFrom s w (psh o c) bs) + _
    rw [brFrom_snoc s w bs]
    show _ + (_ + (if hitB s w (bs.foldl psh (psh o c)) b = true then 0 else 1)) = _ + _ + (if hitB s w (bs.foldl psh (psh o c)) b = true then 0 else 1)
    omega
theorem brOf_snoc (s w : Nat) (bs : List Nat) (b : Nat) : brOf s w (bs ++ [b]) = brOf s w bs + (if hitB s w (ordOf bs) b = true then 0 else 1) := brFrom_snoc s w bs [] b
theorem brFrom_mono {s w w' : Nat} (hw : w ≤ w') : ∀ (bs : List Nat) (o : List Nat), brFrom s w' o bs ≤ brFrom s w o bs
  | [], _ => Nat.le_refl _
  | b :: bs, o => by
    have ih := brFrom_mono (s := s) hw bs (psh o b)
    show (if hitB s w' o b = true then 0 else 1) + _ ≤ (if hitB s w o b = true then 0 else 1) + _
    by_cases h : hitB s w o b = true
    · rw [if_pos h, if_pos (hit_mono hw h)]
      omega
    · rw [if_neg h]
      split <;> omega
theorem br_one (w : Nat) : ∀ (bs : List Nat) (o : List Nat), brFrom 1 w o bs = (dptsFrom o bs).countP (missB w)
  | [], _ => rfl
  | b :: bs, o => by
    show (if hitB 1 w o b = true then 0 else 1) + brFrom 1 w (psh o b) bs = (fxN b o :: dptsFrom (psh o b) bs).countP (missB w)
    rw [br_one w bs, List.countP_cons, hit_one]
    cases hitB 1 w o b
    · show 1 + _ = _ + 1
      omega
    · show 0 + _ = _ + 0
      omega
theorem brOf_one (w : Nat) (bs : List Nat) : brOf 1 w bs = cntW w bs := br_one w bs []
theorem cntW_mono {w w' : Nat} (hw : w ≤ w') (bs : List Nat) : cntW w' bs ≤ cntW w bs := by
  unfold cntW
  refine List.countP_mono_left fun d _ h => ?_
  cases d with
  | none => rfl
  | some k =>
    have h : decide (w' ≤ k) = true := h
    have := of_decide_eq_true h
    exact decide_eq_true (by omega)
/-! ### as many as unlike ones -/
def isNo : Option Nat → Bool
  | none => true
  | some _ => false
theorem fx_none {b : Nat} : ∀ {o : List Nat}, fxN b o = none ↔ b ∉ o
  | [] => by simp [fxN]
  | x :: o => by
    unfold fxN
    by_cases e : x = b
    · rw [if_pos e]
      simp [e]
    · rw [if_neg e]
      have ih := fx_none (b := b) (o := o)
      have e' : ¬ b = x := fun q => e q.symm
      simp [ih, e']
theorem fx_lt {b k : Nat} : ∀ {o : List Nat}, fxN b o = some k → k < o.length
  | [], h => by cases h
  | x :: o, h => by
    unfold fxN at h
    split at h
    · have : 0 = k := Option.some.inj h
      rw [List.length_cons]
      omega
    · cases q : fxN b o with
      | none =>
        rw [q] at h
        cases h
      | some j =>
        rw [q] at h
        have : j + 1 = k := Option.some.inj h
        have := fx_lt q
        rw [List.length_cons]
        omega
theorem psh_len {o : List Nat} (nd : o.Nodup) (b : Nat) : (psh o b).length = o.length + (if isNo (fxN b o) = true then 1 else 0) := by
  unfold psh
  rw [List.length_cons]
  by_cases h : b ∈ o
  · have hn : fxN b o ≠ none := fun q => fx_none.mp q h
    have e1 : o.filter (neB b) = o.erase b := by
      rw [nd.erase_eq_filter]
      exact List.filter_congr fun x _ => by
        unfold neB
        by_cases e : x = b
        · simp [e]
        · simp [e]
    rw [e1, List.length_erase_of_mem h]
    have : 0 < o.length := List.length_pos_of_mem h
    cases q : fxN b o with
    | none => exact absurd q hn
    | some k =>
      show o.length - 1 + 1 = o.length + 0
      omega
  · rw [filter_out h, fx_none.mpr h]
    rfl
theorem no_count : ∀ (bs : List Nat) (o : List Nat), o.Nodup → (bs.foldl psh o).length = o.length + (dptsFrom o bs).countP isNo
  | [], o, _ => rfl
  | b :: bs, o, nd => by
    have ih := no_count bs (psh o b) (psh_nodup nd b)
    rw [List.foldl_cons, ih, psh_len nd]
    show _ = o.length + (fxN b o :: dptsFrom (psh o b) bs).countP isNo
    rw [List.countP_cons]
    omega
theorem ord_len (bs : List Nat) : (ordOf bs).length = (dptsOf bs).countP isNo := by
  have := no_count bs [] List.nodup_nil
  rw [List.length_nil, Nat.zero_add] at this
  exact this
theorem len_of_bound : ∀ {n : Nat} {o : List Nat}, o.Nodup → (∀ x ∈ o, x < n) → o.length ≤ n
  | 0, o, _, h => by
    cases o with
    | nil => exact Nat.le_refl _
    | cons x o => exact absurd (h x List.mem_cons_self) (Nat.not_lt_zero _)
  | n + 1, o, nd, h => by
    by_cases hn : n ∈ o
    · have ih := len_of_bound (n := n) (o := o.erase n) (nd.erase n) fun x hx => by
        have h1 := h x (List.mem_of_mem_erase hx)
        have h2 : x ≠ n := fun e => by
          rw [e] at hx
          exact (nd.not_mem_erase) hx
        omega
      rw [List.length_erase_of_mem hn] at ih
      omega
    · have ih := len_of_bound (n := n) (o := o) nd fun x hx => by
        have h1 := h x hx
        have h2 : x ≠ n := fun e => hn (e ▸ hx)
        omega
      omega
theorem dpts_no : ∀ {n : Nat} (bs : List Nat) (o : List Nat), o.Nodup → (∀ x ∈ o, x < n) → (∀ b ∈ bs, b < n) → (dptsFrom o bs).countP (missB n) = (dptsFrom o bs).countP isNo
  | n, [], o, _, _, _ => rfl
  | n, b :: bs, o, nd, ho, hb => by
    have ho2 : ∀ x ∈ psh o b, x < n := fun x hx => by
      rcases mem_psh.mp hx with e | e
      · rw [e]
        exact hb b List.mem_cons_self
      · exact ho x e
    have ih := dpts_no bs (psh o b) (psh_nodup nd b) ho2 fun x hx => hb x (List.mem_cons_of_mem _ hx)
    show (fxN b o :: dptsFrom (psh o b) bs).countP (missB n) = (fxN b o :: dptsFrom (psh o b) bs).countP isNo
    rw [List.countP_cons, List.countP_cons, ih]
    congr 1
    cases q : fxN b o with
    | none => rfl
    | some k =>
      have h1 := fx_lt q
      have h2 := len_of_bound nd ho
      have : missB n (some k) = false := decide_eq_false (by omega)
      rw [this]
      rfl
theorem cnt_all {bs : List Nat} (hb : ∀ b ∈ bs, b < 16) : cntW 16 bs = (dptsOf bs).countP isNo := dpts_no bs [] List.nodup_nil (fun x hx => by cases hx) hb
-- WwText
def top (i : Nat) : Stmt := PySem.Challenge.pw_writeways_k10_depths.main.body.getD i (.Pass ⟨0, 0, 0, 0⟩)
abbrev s_BadRule___init__ : Stmt := inClass (top 2) 0
abbrev s_BadDeed___init__ : Stmt := inClass (top 7) 0
abbrev s_BadLeavings___init__ : Stmt := inClass (top 10) 0
abbrev s_BadText___init__ : Stmt := inClass (top 11) 0
abbrev s_is_number : Stmt := top 16
abbrev s_need_blocks : Stmt := top 19
abbrev s_depths_of : Stmt := top 20
abbrev s_depths : Stmt := top 21
abbrev s_late_brings : Stmt := top 22
abbrev s_need_ways : Stmt := top 25
abbrev s_wait_of : Stmt := top 26
abbrev s_fewest : Stmt := top 27
abbrev s_judged : Stmt := top 28
abbrev s__law_taken : Stmt := top 30
abbrev s__law_alike : Stmt := top 31
abbrev s__law_word : Stmt := top 32
abbrev s__law_blocks : Stmt := top 33
abbrev s_law : Stmt := top 34
theorem sc_BadRule___init__ : FnScope ["self", "number"] ["self", "number"] (defScope s_BadRule___init__) := ⟨rfl, rfl, rfl, by decide +kernel, rfl, by decide +kernel, by decide +kernel⟩
theorem sc_BadDeed___init__ : FnScope ["self", "number"] ["self", "number"] (defScope s_BadDeed___init__) := ⟨rfl, rfl, rfl, by decide +kernel, rfl, by decide +kernel, by decide +kernel⟩
theorem sc_BadLeavings___init__ : FnScope ["self", "number"] ["self", "number"] (defScope s_BadLeavings___init__) := ⟨rfl, rfl, rfl, by decide +kernel, rfl, by decide +kernel, by decide +kernel⟩
theorem sc_BadText___init__ : FnScope ["self", "row"] ["self", "row"] (defScope s_BadText___init__) := ⟨rfl, rfl, rfl, by decide +kernel, rfl, by decide +kernel, by decide +kernel⟩
theorem sc_is_number : FnScope ["part", "low", "high"] ["part", "low", "high"] (defScope s_is_number) := ⟨rfl, rfl, rfl, by decide +kernel, rfl, by decide +kernel, by decide +kernel⟩
theorem sc_need_blocks : FnScope ["blocks", "number", "block"] ["blocks"] (defScope s_need_blocks) := ⟨rfl, rfl, rfl, by decide +kernel, rfl, by decide +kernel, by decide +kernel⟩
theorem sc_depths_of : FnScope ["blocks", "found", "order", "block", "one"] ["blocks"] (defScope s_depths_of) := ⟨rfl, rfl, rfl, by decide +kernel, rfl, by decide +kernel, by decide +kernel⟩
theorem sc_depths : FnScope ["blocks"] ["blocks"] (defScope s_depths) := ⟨rfl, rfl, rfl, by decide +kernel, rfl, by decide +kernel, by decide +kernel⟩
theorem sc_late_brings : FnScope ["blocks", "some", "ways", "depth"] ["blocks"] (defScope s_late_brings) := ⟨rfl, rfl, rfl, by decide +kernel, rfl, by decide +kernel, by decide +kernel⟩
theorem sc_need_ways : FnScope ["ways"] ["ways"] (defScope s_need_ways) := ⟨rfl, rfl, rfl, by decide +kernel, rfl, by decide +kernel, by decide +kernel⟩
theorem sc_wait_of : FnScope ["blocks", "place", "block", "k"] ["blocks", "place", "block"] (defScope s_wait_of) := ⟨rfl, rfl, rfl, by decide +kernel, rfl, by decide +kernel, by decide +kernel⟩
theorem sc_fewest : FnScope ["blocks", "ways", "there", "brings", "leavings", "place", "block", "waits", "one"] ["blocks", "ways"] (defScope s_fewest) := ⟨rfl, rfl, rfl, by decide +kernel, rfl, by decide +kernel, by decide +kernel⟩
theorem sc_judged : FnScope ["blocks", "ways", "leavings", "there", "brings", "many", "block"] ["blocks", "ways", "leavings"] (defScope s_judged) := ⟨rfl, rfl, rfl, by decide +kernel, rfl, by decide +kernel, by decide +kernel⟩
theorem sc__law_taken : FnScope ["_law_row", "_law_many", "_law_cell"] ["_law_row", "_law_many"] (defScope s__law_taken) := ⟨rfl, rfl, rfl, by decide +kernel, rfl, by decide +kernel, by decide +kernel⟩
theorem sc__law_alike : FnScope ["_law_found", "_law_due", "_law_k"] ["_law_found", "_law_due"] (defScope s__law_alike) := ⟨rfl, rfl, rfl, by decide +kernel, rfl, by decide +kernel, by decide +kernel⟩
theorem sc__law_word : FnScope ["_law_work", "_law_kinds", "e", "_law_word_here"] ["_law_work"] (defScope s__law_word) := ⟨rfl, rfl, rfl, by decide +kernel, rfl, by decide +kernel, by decide +kernel⟩
theorem sc__law_blocks : FnScope ["_law_row", "_law_most", "_law_few", "_law_k"] ["_law_row", "_law_most"] (defScope s__law_blocks) := ⟨rfl, rfl, rfl, by decide +kernel, rfl, by decide +kernel, by decide +kernel⟩
theorem sc_law : FnScope ["_law_script", "_law_row", "_law_turn", "_law_blocks_here", "_law_due", "_law_k", "_law_some", "_law_counts", "_law_handed", "_law_again", "_law_found", "_law_numbers", "_law_odd", "_law_at", "_law_spoilt", "_law_works", "_law_many", "_law_ways", "_law_j", "_law_one", "_law_work"] ["_law_script"] (defScope s_law) := ⟨rfl, rfl, rfl, by decide +kernel, rfl, by decide +kernel, by decide +kernel⟩
structure Txt (K : PySem.W.Frag) (mg : Str → Option Value) where
  g_is_number : mg "is_number" = some (.ref (He.ga K "is_number"))
  g_need_blocks : mg "need_blocks" = some (.ref (He.ga K "need_blocks"))
  g_depths_of : mg "depths_of" = some (.ref (He.ga K "depths_of"))
  g_depths : mg "depths" = some (.ref (He.ga K "depths"))
  g_late_brings : mg "late_brings" = some (.ref (He.ga K "late_brings"))
  g_need_ways : mg "need_ways" = some (.ref (He.ga K "need_ways"))
  g_wait_of : mg "wait_of" = some (.ref (He.ga K "wait_of"))
  g_fewest : mg "fewest" = some (.ref (He.ga K "fewest"))
  g_judged : mg "judged" = some (.ref (He.ga K "judged"))
  g__law_taken : mg "_law_taken" = some (.ref (He.ga K "_law_taken"))
  g__law_alike : mg "_law_alike" = some (.ref (He.ga K "_law_alike"))
  g__law_word : mg "_law_word" = some (.ref (He.ga K "_law_word"))
  g__law_blocks : mg "_law_blocks" = some (.ref (He.ga K "_law_blocks"))
  g_law : mg "law" = some (.ref (He.ga K "law"))
  g_WayError : mg "WayError" = some (.ref (He.ga K "WayError"))
  g_BadRule : mg "BadRule" = some (.ref (He.ga K "BadRule"))
  g_BadHands : mg "BadHands" = some (.ref (He.ga K "BadHands"))
  g_BadHand : mg "BadHand" = some (.ref (He.ga K "BadHand"))
  g_BadPlace : mg "BadPlace" = some (.ref (He.ga K "BadPlace"))
  g_BadNumber : mg "BadNumber" = some (.ref (He.ga K "BadNumber"))
  g_BadDeed : mg "BadDeed" = some (.ref (He.ga K "BadDeed"))
  g_BadRoom : mg "BadRoom" = some (.ref (He.ga K "BadRoom"))
  g_BadWays : mg "BadWays" = some (.ref (He.ga K "BadWays"))
  g_BadLeavings : mg "BadLeavings" = some (.ref (He.ga K "BadLeavings"))
  g_BadText : mg "BadText" = some (.ref (He.ga K "BadText"))
  g_CELLS : ∃ t, mg "CELLS" = some (.int 64 t)
  g_BLOCK : ∃ t, mg "BLOCK" = some (.int 4 t)
  g_MOST_DEEDS : ∃ t, mg "MOST_DEEDS" = some (.int 200 t)
  g_BLOCKS : ∃ t, mg "BLOCKS" = some (.int 16 t)
  g_MOST_WAYS : ∃ t, mg "MOST_WAYS" = some (.int 8 t)
  n_ValueError : mg "ValueError" = none
  n_len : mg "len" = none
  n_isinstance : mg "isinstance" = none
  n_range : mg "range" = none
  n_list : mg "list" = none
  n_tuple : mg "tuple" = none
  n_enumerate : mg "enumerate" = none
  n_int : mg "int" = none
  n_bool : mg "bool" = none
  n_set : mg "set" = none
  n_max : mg "max" = none
  n_str : mg "str" = none
  m_BadRule___init__ : Meth K (He.ga K "BadRule") "__init__" (He.ma K (He.ga K "BadRule") "__init__")
  na_BadRule_number : NoAttr K (He.ga K "BadRule") "number"
  xe_BadHands : PySem.W.excIn K (He.ga K "BadHands") He.veBase "ValueError.__new__" = true ∧ PySem.W.keepIn K (.ref (He.ga K "BadHands")) = true ∧ PySem.W.subIn K (.ref (He.ga K "BadHands")) (.type "BaseException") = some true ∧ PySem.W.typeIn K (.ref (He.ga K "BadHands")) = some (.type "type")
  xe_BadHand : PySem.W.excIn K (He.ga K "BadHand") He.veBase "ValueError.__new__" = true ∧ PySem.W.keepIn K (.ref (He.ga K "BadHand")) = true ∧ PySem.W.subIn K (.ref (He.ga K "BadHand")) (.type "BaseException") = some true ∧ PySem.W.typeIn K (.ref (He.ga K "BadHand")) = some (.type "type")
  xe_BadPlace : PySem.W.excIn K (He.ga K "BadPlace") He.veBase "ValueError.__new__" = true ∧ PySem.W.keepIn K (.ref (He.ga K "BadPlace")) = true ∧ PySem.W.subIn K (.ref (He.ga K "BadPlace")) (.type "BaseException") = some true ∧ PySem.W.typeIn K (.ref (He.ga K "BadPlace")) = some (.type "type")
  xe_BadNumber : PySem.W.excIn K (He.ga K "BadNumber") He.veBase "ValueError.__new__" = true ∧ PySem.W.keepIn K (.ref (He.ga K "BadNumber")) = true ∧ PySem.W.subIn K (.ref (He.ga K "BadNumber")) (.type "BaseException") = some true ∧ PySem.W.typeIn K (.ref (He.ga K "BadNumber")) = some (.type "type")
  m_BadDeed___init__ : Meth K (He.ga K "BadDeed") "__init__" (He.ma K (He.ga K "BadDeed") "__init__")
  na_BadDeed_number : NoAttr K (He.ga K "BadDeed") "number"
  xe_BadRoom : PySem.W.excIn K (He.ga K "BadRoom") He.veBase "ValueError.__new__" = true ∧ PySem.W.keepIn K (.ref (He.ga K "BadRoom")) = true ∧ PySem.W.subIn K (.ref (He.ga K "BadRoom")) (.type "BaseException") = some true ∧ PySem.W.typeIn K (.ref (He.ga K "BadRoom")) = some (.type "type")
  xe_BadWays : PySem.W.excIn K (He.ga K "BadWays") He.veBase "ValueError.__new__" = true ∧ PySem.W.keepIn K (.ref (He.ga K "BadWays")) = true ∧ PySem.W.subIn K (.ref (He.ga K "BadWays")) (.type "BaseException") = some true ∧ PySem.W.typeIn K (.ref (He.ga K "BadWays")) = some (.type "type")
  m_BadLeavings___init__ : Meth K (He.ga K "BadLeavings") "__init__" (He.ma K (He.ga K "BadLeavings") "__init__")
  na_BadLeavings_number : NoAttr K (He.ga K "BadLeavings") "number"
  m_BadText___init__ : Meth K (He.ga K "BadText") "__init__" (He.ma K (He.ga K "BadText") "__init__")
  na_BadText_row : NoAttr K (He.ga K "BadText") "row"
  xt : ExcT K bads
  ox_BadRule : oexB K (He.ga K "BadRule") = true
  ox_BadDeed : oexB K (He.ga K "BadDeed") = true
  ox_BadLeavings : oexB K (He.ga K "BadLeavings") = true
  ox_BadText : oexB K (He.ga K "BadText") = true
  fd_BadRule___init__ : FuncData
  F_BadRule___init__ : FunD K "__init__" "BadRule.__init__" (defArgs s_BadRule___init__) (defBody s_BadRule___init__) (defScope s_BadRule___init__) [] [] (He.fAd K ("BadRule", some "__init__")) fd_BadRule___init__
  b_BadRule___init__ : Binds K fd_BadRule___init__ ["self", "number"] []
  k_BadRule___init__ : PySem.W.keepIn K (.ref (He.fAd K ("BadRule", some "__init__"))) = true
  fd_BadDeed___init__ : FuncData
  F_BadDeed___init__ : FunD K "__init__" "BadDeed.__init__" (defArgs s_BadDeed___init__) (defBody s_BadDeed___init__) (defScope s_BadDeed___init__) [] [] (He.fAd K ("BadDeed", some "__init__")) fd_BadDeed___init__
  b_BadDeed___init__ : Binds K fd_BadDeed___init__ ["self", "number"] []
  k_BadDeed___init__ : PySem.W.keepIn K (.ref (He.fAd K ("BadDeed", some "__init__"))) = true
  fd_BadLeavings___init__ : FuncData
  F_BadLeavings___init__ : FunD K "__init__" "BadLeavings.__init__" (defArgs s_BadLeavings___init__) (defBody s_BadLeavings___init__) (defScope s_BadLeavings___init__) [] [] (He.fAd K ("BadLeavings", some "__init__")) fd_BadLeavings___init__
  b_BadLeavings___init__ : Binds K fd_BadLeavings___init__ ["self", "number"] []
  k_BadLeavings___init__ : PySem.W.keepIn K (.ref (He.fAd K ("BadLeavings", some "__init__"))) = true
  fd_BadText___init__ : FuncData
  F_BadText___init__ : FunD K "__init__" "BadText.__init__" (defArgs s_BadText___init__) (defBody s_BadText___init__) (defScope s_BadText___init__) [] [] (He.fAd K ("BadText", some "__init__")) fd_BadText___init__
  b_BadText___init__ : Binds K fd_BadText___init__ ["self", "row"] []
  k_BadText___init__ : PySem.W.keepIn K (.ref (He.fAd K ("BadText", some "__init__"))) = true
  fd_is_number : FuncData
  F_is_number : FunD K "is_number" "is_number" (defArgs s_is_number) (defBody s_is_number) (defScope s_is_number) [] [] (He.fAd K ("is_number", none)) fd_is_number
  b_is_number : Binds K fd_is_number ["part", "low", "high"] []
  k_is_number : PySem.W.keepIn K (.ref (He.fAd K ("is_number", none))) = true
  fd_need_blocks : FuncData
  F_need_blocks : FunD K "need_blocks" "need_blocks" (defArgs s_need_blocks) (defBody s_need_blocks) (defScope s_need_blocks) [] [] (He.fAd K ("need_blocks", none)) fd_need_blocks
  b_need_blocks : Binds K fd_need_blocks ["blocks"] []
  k_need_blocks : PySem.W.keepIn K (.ref (He.fAd K ("need_blocks", none))) = true
  fd_depths_of : FuncData
  F_depths_of : FunD K "depths_of" "depths_of" (defArgs s_depths_of) (defBody s_depths_of) (defScope s_depths_of) [] [] (He.fAd K ("depths_of", none)) fd_depths_of
  b_depths_of : Binds K fd_depths_of ["blocks"] []
  k_depths_of : PySem.W.keepIn K (.ref (He.fAd K ("depths_of", none))) = true
  fd_depths : FuncData
  F_depths : FunD K "depths" "depths" (defArgs s_depths) (defBody s_depths) (defScope s_depths) [] [] (He.fAd K ("depths", none)) fd_depths
  b_depths : Binds K fd_depths ["blocks"] []
  k_depths : PySem.W.keepIn K (.ref (He.fAd K ("depths", none))) = true
  fd_late_brings : FuncData
  F_late_brings : FunD K "late_brings" "late_brings" (defArgs s_late_brings) (defBody s_late_brings) (defScope s_late_brings) [] [] (He.fAd K ("late_brings", none)) fd_late_brings
  b_late_brings : Binds K fd_late_brings ["blocks"] []
  k_late_brings : PySem.W.keepIn K (.ref (He.fAd K ("late_brings", none))) = true
  fd_need_ways : FuncData
  F_need_ways : FunD K "need_ways" "need_ways" (defArgs s_need_ways) (defBody s_need_ways) (defScope s_need_ways) [] [] (He.fAd K ("need_ways", none)) fd_need_ways
  b_need_ways : Binds K fd_need_ways ["ways"] []
  k_need_ways : PySem.W.keepIn K (.ref (He.fAd K ("need_ways", none))) = true
  fd_wait_of : FuncData
  F_wait_of : FunD K "wait_of" "wait_of" (defArgs s_wait_of) (defBody s_wait_of) (defScope s_wait_of) [] [] (He.fAd K ("wait_of", none)) fd_wait_of
  b_wait_of : Binds K fd_wait_of ["blocks", "place", "block"] []
  k_wait_of : PySem.W.keepIn K (.ref (He.fAd K ("wait_of", none))) = true
  fd_fewest : FuncData
  F_fewest : FunD K "fewest" "fewest" (defArgs s_fewest) (defBody s_fewest) (defScope s_fewest) [] [] (He.fAd K ("fewest", none)) fd_fewest
  b_fewest : Binds K fd_fewest ["blocks", "ways"] []
  k_fewest : PySem.W.keepIn K (.ref (He.fAd K ("fewest", none))) = true
  fd_judged : FuncData
  F_judged : FunD K "judged" "judged" (defArgs s_judged) (defBody s_judged) (defScope s_judged) [] [] (He.fAd K ("judged", none)) fd_judged
  b_judged : Binds K fd_judged ["blocks", "ways", "leavings"] []
  k_judged : PySem.W.keepIn K (.ref (He.fAd K ("judged", none))) = true
  fd__law_taken : FuncData
  F__law_taken : FunD K "_law_taken" "_law_taken" (defArgs s__law_taken) (defBody s__law_taken) (defScope s__law_taken) [] [] (He.fAd K ("_law_taken", none)) fd__law_taken
  b__law_taken : Binds K fd__law_taken ["_law_row", "_law_many"] []
  k__law_taken : PySem.W.keepIn K (.ref (He.fAd K ("_law_taken", none))) = true
  fd__law_alike : FuncData
  F__law_alike : FunD K "_law_alike" "_law_alike" (defArgs s__law_alike) (defBody s__law_alike) (defScope s__law_alike) [] [] (He.fAd K ("_law_alike", none)) fd__law_alike
  b__law_alike : Binds K fd__law_alike ["_law_found", "_law_due"] []
  k__law_alike : PySem.W.keepIn K (.ref (He.fAd K ("_law_alike", none))) = true
  fd__law_word : FuncData
  F__law_word : FunD K "_law_word" "_law_word" (defArgs s__law_word) (defBody s__law_word) (defScope s__law_word) [] [] (He.fAd K ("_law_word", none)) fd__law_word
  b__law_word : Binds K fd__law_word ["_law_work"] []
  k__law_word : PySem.W.keepIn K (.ref (He.fAd K ("_law_word", none))) = true
  fd__law_blocks : FuncData
  F__law_blocks : FunD K "_law_blocks" "_law_blocks" (defArgs s__law_blocks) (defBody s__law_blocks) (defScope s__law_blocks) [] [] (He.fAd K ("_law_blocks", none)) fd__law_blocks
  b__law_blocks : Binds K fd__law_blocks ["_law_row", "_law_most"] []
  k__law_blocks : PySem.W.keepIn K (.ref (He.fAd K ("_law_blocks", none))) = true
  fd_law : FuncData
  F_law : FunD K "law" "law" (defArgs s_law) (defBody s_law) (defScope s_law) [] [] (He.fAd K ("law", none)) fd_law
  b_law : Binds K fd_law ["_law_script"] []
  k_law : PySem.W.keepIn K (.ref (He.fAd K ("law", none))) = true
-- WwDa
theorem size1 {n : Nat} (h : n ≤ 1000000) : n < sizeLine := Nat.lt_of_le_of_lt h (by decide)
theorem tYes_go {σ : L2.St} {H : Hp} {Q : Bool → Hp → Prop} (h : Q true H) : tYes σ H Q := h
theorem iteTo {b : Bool} {p q : Prop} (e : b = true) (h : p) : if b = true then p else q := by
  rw [if_pos e]
  exact h
theorem iteFo {b : Bool} {p q : Prop} (e : b = false) (h : q) : if b = true then p else q := by
  rw [if_neg (by rw [e]; decide)]
  exact h
/-! ### data by cells -/
mutual
inductive DpL (L : List Cell) : V → PyData → Prop
  | non : DpL L .non .none
  | bl (b : Bool) : DpL L (.bl b) (.bool b)
  | int (i : Int) : DpL L (.int i) (.int i)
  | str (x : Str) : DpL L (.str x) (.str x)
  | lst {a : Addr} {xs : List V} {ds : List PyData} : (a, HO.lst xs) ∈ L → DpsL L xs ds → DpL L (.ref a) (.list ds)
  | tup {a : Addr} {xs : List V} {ds : List PyData} : (a, HO.tup xs) ∈ L → DpsL L xs ds → DpL L (.ref a) (.tuple ds)
inductive DpsL (L : List Cell) : List V → List PyData → Prop
  | nil : DpsL L [] []
  | cons {v : V} {vs : List V} {d : PyData} {ds : List PyData} : DpL L v d → DpsL L vs ds → DpsL L (v :: vs) (d :: ds)
end
mutual
theorem DpL.mono {L L' : List Cell} (hs : ∀ c ∈ L, c ∈ L') : ∀ {v : V} {d : PyData}, DpL L v d → DpL L' v d
  | _, _, .non => .non
  | _, _, .bl b => .bl b
  | _, _, .int i => .int i
  | _, _, .str x => .str x
  | _, _, .lst h r => .lst (hs _ h) (DpsL.mono hs r)
  | _, _, .tup h r => .tup (hs _ h) (DpsL.mono hs r)
theorem DpsL.mono {L L' : List Cell} (hs : ∀ c ∈ L, c ∈ L') : ∀ {vs : List V} {ds : List PyData}, DpsL L vs ds → DpsL L' vs ds
  | _, _, .nil => .nil
  | _, _, .cons h r => .cons (DpL.mono hs h) (DpsL.mono hs r)
end
mutual
theorem DpL.dp {K : PySem.W.Frag} {H : Hp} {L : List Cell} (O : ∀ c ∈ L, H c.1 = some c.2) : ∀ {v : V} {d : PyData}, DpL L v d → Dp K H v d
  | _, _, .non => .non
  | _, _, .bl b => .bl b
  | _, _, .int i => .int i
  | _, _, .str x => .str x
  | _, _, .lst h r => .lst (SqL.of (O _ h)) (DpsL.dps O r)
  | _, _, .tup h r => .tup (SqT.of (O _ h)) (DpsL.dps O r)
theorem DpsL.dps {K : PySem.W.Frag} {H : Hp} {L : List Cell} (O : ∀ c ∈ L, H c.1 = some c.2) : ∀ {vs : List V} {ds : List PyData}, DpsL L vs ds → DpAll K H vs ds
  | _, _, .nil => .nil
  | _, _, .cons h r => .cons (DpL.dp O h) (DpsL.dps O r)
end
theorem DpsL.app {L : List Cell} : ∀ {vs ws : List V} {ds es : List PyData}, DpsL L vs ds → DpsL L ws es → DpsL L (vs ++ ws) (ds ++ es)
  | _, _, _, _, .nil, k => k
  | _, _, _, _, .cons h r, k => .cons h (DpsL.app r k)
theorem DpsL.ints {L : List Cell} : ∀ ns : List Int, DpsL L (ns.map V.int) (ns.map PyData.int)
  | [] => .nil
  | n :: ns => .cons (.int n) (DpsL.ints ns)
theorem DpsL.len {L : List Cell} : ∀ {vs : List V} {ds : List PyData}, DpsL L vs ds → vs.length = ds.length
  | _, _, .nil => rfl
  | _, _, .cons _ r => congrArg (· + 1) r.len
theorem DpsL.get {L : List Cell} : ∀ {vs : List V} {ds : List PyData} {i : Nat} {v : V}, DpsL L vs ds → vs[i]? = some v → ∃ d, ds[i]? = some d ∧ DpL L v d
  | _, _, i, v, .nil, e => by simp at e
  | _, _, 0, v, .cons h _, e => by
    simp at e
    subst e
    exact ⟨_, rfl, h⟩
  | _, _, i + 1, v, .cons _ r, e => by
    obtain ⟨d, h1, h2⟩ := DpsL.get (i := i) (v := v) r (by simpa using e)
    exact ⟨d, by simpa using h1, h2⟩
theorem DpsL.get' {L : List Cell} : ∀ {vs : List V} {ds : List PyData} {i : Nat} {d : PyData}, DpsL L vs ds → ds[i]? = some d → ∃ v, vs[i]? = some v ∧ DpL L v d
  | _, _, i, v, .nil, e => by simp at e
  | _, _, 0, v, .cons h _, e => by
    simp at e
    subst e
    exact ⟨_, rfl, h⟩
  | _, _, i + 1, v, .cons _ r, e => by
    obtain ⟨d, h1, h2⟩ := DpsL.get' (i := i) (d := v) r (by simpa using e)
    exact ⟨d, by simpa using h1, h2⟩

theorem noPart {σ : L2.St} {H : Hp} {Q : Option Int → Hp → Prop} (h : Q none H) : tNoPart σ H Q := h
theorem take_snoc {α : Type} {xs : List α} {i : Nat} {x : α} (h : xs[i]? = some x) : xs.take (i + 1) = xs.take i ++ [x] := by
  rw [List.take_succ, h]
  rfl
theorem DpL.lstI {N : List Cell} {v : V} {ds : List PyData} (h : DpL N v (.list ds)) : ∃ p vs, v = .ref p ∧ (p, HO.lst vs) ∈ N ∧ DpsL N vs ds := by
  cases h with
  | lst h r => exact ⟨_, _, rfl, h, r⟩
theorem DpL.tupI {N : List Cell} {v : V} {ds : List PyData} (h : DpL N v (.tuple ds)) : ∃ p vs, v = .ref p ∧ (p, HO.tup vs) ∈ N ∧ DpsL N vs ds := by
  cases h with
  | tup h r => exact ⟨_, _, rfl, h, r⟩
theorem DpsL.intsI {N : List Cell} : ∀ {ns : List Int} {vs : List V}, DpsL N vs (ns.map PyData.int) → vs = ns.map V.int
  | [], _, .nil => rfl
  | n :: ns, _, .cons h r => by
    cases h with
    | int => rw [DpsL.intsI r]; rfl
theorem not_eqv_nil : (!PyData.eqv (.list []) (.list [])) = false := by decide +kernel
theorem eqv_self (d : PyData) (h : SeqAt.shaped d = true) : (!PyData.eqv d d) = false := by rw [SeqAt.eqv_refl d (SeqAt.canLay_of_shaped h)]; rfl
theorem dpInts {K : PySem.W.Frag} {H : Hp} (ns : List Int) : DpAll K H (ns.map V.int) (ns.map PyData.int) := (DpsL.ints (L := []) ns).dps fun c hc => absurd hc List.not_mem_nil
theorem shaped_of {d : PyData} (h1 : d.canLay0 = true) (h2 : d.depth ≤ 64) : SeqAt.shaped d = true := by
  unfold SeqAt.shaped
  rw [h1, decide_eq_true h2]
  rfl
theorem layAll {α : Type} {f : α → PyData} {k : Nat} : ∀ {xs : List α}, (∀ a ∈ xs, (f a).canLay0 = true ∧ (f a).depth ≤ k) → PyData.canLayAll0 (xs.map f) = true ∧ PyData.depthAll (xs.map f) ≤ k
  | [], _ => ⟨rfl, Nat.zero_le _⟩
  | a :: xs, h => by
    obtain ⟨a1, a2⟩ := h a List.mem_cons_self
    obtain ⟨b1, b2⟩ := layAll (xs := xs) fun b hb => h b (List.mem_cons_of_mem _ hb)
    refine ⟨?_, ?_⟩
    · show (PyData.canLay0 (f a) && PyData.canLayAll0 (xs.map f)) = true
      rw [a1, b1]
      rfl
    · show max (PyData.depth (f a)) (PyData.depthAll (xs.map f)) ≤ k
      omega
theorem layL {α : Type} {f : α → PyData} {k : Nat} {xs : List α} (h : ∀ a ∈ xs, (f a).canLay0 = true ∧ (f a).depth ≤ k) : (PyData.list (xs.map f)).canLay0 = true ∧ (PyData.list (xs.map f)).depth ≤ k + 1 := by
  obtain ⟨h1, h2⟩ := layAll h
  refine ⟨h1, ?_⟩
  show PyData.depthAll (xs.map f) + 1 ≤ k + 1
  omega
theorem layT {α : Type} {f : α → PyData} {k : Nat} {xs : List α} (h : ∀ a ∈ xs, (f a).canLay0 = true ∧ (f a).depth ≤ k) : (PyData.tuple (xs.map f)).canLay0 = true ∧ (PyData.tuple (xs.map f)).depth ≤ k + 1 := by
  obtain ⟨h1, h2⟩ := layAll h
  refine ⟨h1, ?_⟩
  show PyData.depthAll (xs.map f) + 1 ≤ k + 1
  omega
theorem layI (i : Int) : (PyData.int i).canLay0 = true ∧ (PyData.int i).depth ≤ 0 := ⟨rfl, Nat.le_refl _⟩
theorem layIs (ns : List Int) : (PyData.list (ns.map .int)).canLay0 = true ∧ (PyData.list (ns.map .int)).depth ≤ 1 := layL fun i _ => layI i
/-- tuples, by their addresses -/
def TA (R : List Cell) : List Addr → List (List V) → Prop
  | [], [] => True
  | a :: as, u :: us => (a, HO.tup u) ∈ R ∧ TA R as us
  | _, _ => False
theorem TA.len {R : List Cell} : ∀ {as : List Addr} {us : List (List V)}, TA R as us → as.length = us.length
  | [], [], _ => rfl
  | [], _ :: _, h => h.elim
  | _ :: _, [], h => h.elim
  | _ :: _, _ :: _, h => congrArg (· + 1) (TA.len h.2)
theorem TA.get {R : List Cell} : ∀ {as : List Addr} {us : List (List V)} {i : Nat} {a : Addr}, TA R as us → as[i]? = some a → ∃ u, us[i]? = some u ∧ (a, HO.tup u) ∈ R
  | [], _, i, a, _, e => by simp at e
  | _ :: _, [], _, _, h, _ => h.elim
  | b :: as, u :: us, 0, a, h, e => by
    simp at e
    subst e
    exact ⟨u, rfl, h.1⟩
  | b :: as, u :: us, i + 1, a, h, e => by
    obtain ⟨v, h1, h2⟩ := TA.get (i := i) (a := a) h.2 (by simpa using e)
    exact ⟨v, by simpa using h1, h2⟩
theorem TA.mono {R R' : List Cell} (hs : ∀ c ∈ R, c ∈ R') : ∀ {as : List Addr} {us : List (List V)}, TA R as us → TA R' as us
  | [], [], _ => trivial
  | [], _ :: _, h => h.elim
  | _ :: _, [], h => h.elim
  | _ :: _, _ :: _, h => ⟨hs _ h.1, TA.mono hs h.2⟩
theorem TA.app {R : List Cell} : ∀ {as bs : List Addr} {us vs : List (List V)}, TA R as us → TA R bs vs → TA R (as ++ bs) (us ++ vs)
  | [], _, [], _, _, k => k
  | [], _, _ :: _, _, h, _ => h.elim
  | _ :: _, _, [], _, h, _ => h.elim
  | _ :: _, _, _ :: _, _, h, k => ⟨h.1, TA.app h.2 k⟩
theorem pick3 {v : Int} {a b c : V} (h0 : 0 ≤ v) (h3 : v < 3) : ∃ y, atI [a, b, c] v = some y ∧ (y = a ∨ y = b ∨ y = c) := by
  have : v = 0 ∨ v = 1 ∨ v = 2 := by omega
  rcases this with e | e | e <;> subst e
  · exact ⟨a, rfl, .inl rfl⟩
  · exact ⟨b, rfl, .inr (.inl rfl)⟩
  · exact ⟨c, rfl, .inr (.inr rfl)⟩
theorem pick2 {v : Int} {a b : V} (h0 : 0 ≤ v) (h3 : v < 2) : ∃ y, atI [a, b] v = some y ∧ (y = a ∨ y = b) := by
  have : v = 0 ∨ v = 1 := by omega
  rcases this with e | e <;> subst e
  · exact ⟨a, rfl, .inl rfl⟩
  · exact ⟨b, rfl, .inr rfl⟩
theorem pick4 {v : Int} {a b c d : V} (h0 : 0 ≤ v) (h3 : v < 4) : ∃ y, atI [a, b, c, d] v = some y ∧ (y = a ∨ y = b ∨ y = c ∨ y = d) := by
  have : v = 0 ∨ v = 1 ∨ v = 2 ∨ v = 3 := by omega
  rcases this with e | e | e | e <;> subst e
  · exact ⟨a, rfl, .inl rfl⟩
  · exact ⟨b, rfl, .inr (.inl rfl)⟩
  · exact ⟨c, rfl, .inr (.inr (.inl rfl))⟩
  · exact ⟨d, rfl, .inr (.inr (.inr rfl))⟩
theorem ixN_nat {n k : Nat} (h : k < n) : ixN n (k : Int) = some k := by
  unfold ixN
  rw [if_pos (by omega), if_pos (by omega), Int.toNat_natCast]
theorem seqIx {n k : Nat} (h : k < n) : seqIndex? (k : Int) n = some k := (ixN_seq (ixN_nat h)).1
theorem seqIxN {n k : Nat} (h : k < n) : seqIndex? (k : Int) n = some k := seqIx h
/-! ### list.count of truth values -/
def eqBl (k : Bool) (v : Value) : Bool := match v with
  | .bool n => n == k
  | _ => false
inductive BlAre : List Value → List Bool → Prop
  | nil : BlAre [] []
  | cons {us : List Value} {ns : List Bool} (x : Bool) : BlAre us ns → BlAre (.bool x :: us) (x :: ns)
theorem blAre_of : ∀ {ns : List Bool} {us : List Value}, Vals (ns.map V.bl) us → BlAre us ns
  | [], _, .nil => .nil
  | n :: ns, _, .cons r h => by
    cases r
    exact .cons n (blAre_of h)
theorem eqBl_at {A : Around} {s : Shared} {k : Bool} : ∀ {us : List Value} {ns : List Bool}, BlAre us ns → ∀ y ∈ us, SeqAt.EqAt A s y (.bool k) (eqBl k y)
  | _, _, .nil => fun y hy => by cases hy
  | _, _, .cons n h => fun y hy => by
    rcases List.mem_cons.mp hy with e | e
    · rw [e]
      exact SeqAt.EqAt.bool_bool n k
    · exact eqBl_at h y e
theorem eqBl_count {k : Bool} : ∀ {us : List Value} {ns : List Bool}, BlAre us ns → us.countP (eqBl k) = ns.countP (· == k)
  | _, _, .nil => rfl
  | _, _, .cons n h => by
    have ih := eqBl_count (k := k) h
    rw [List.countP_cons, List.countP_cons, ih] <;> rfl
def rCntB (K : PySem.W.Frag) : V → List V → Hp → VK → Prop := fun x xs H Q => ∃ (p : Addr) (ns : List Bool) (k : Bool), x = .ref p ∧ xs = [.bl k] ∧ SqL K H p (ns.map V.bl) ∧ Q (.int (ns.countP (· == k) : Nat)) H
theorem mt_lcountB {X : Cx} : MtR X "list.count" (rCntB X.K) := by
  intro pins s σ H x xs v us Q I rx rxs h
  obtain ⟨p, ns, k, rfl, rfl, hs, q⟩ := h
  cases rx
  obtain ⟨u, rfl, ru⟩ := rxs.one
  cases ru
  obtain ⟨its, rv, ⟨⟨cls, dd, data, sl⟩, n, ho, hc, hdn, hd⟩, hlen⟩ := I.list hs
  simp only at hc hd
  subst hc hd
  have hi := blAre_of rv
  refine call_meets PySem.F.slot_list_count ⟨_, ho, rfl⟩ PySem.F.entry_list_count (PySem.F.args_list_count_2 _ _) (SeqAt.list_countAt p its.toArray n dd sl (.bool k) (eqBl k)) ⟨ho, fun y hy => eqBl_at hi y (by simpa using hy), ?_⟩
  have ec : its.toArray.toList.countP (eqBl k) = ns.countP (· == k) := eqBl_count hi
  refine ⟨.int (ns.countP (· == k) : Nat), H, I.tok _, ⟨s.toks, ?_⟩, q⟩
  show Value.int ((its.toArray.toList.countP (eqBl k) : Nat) : Int) s.toks = _
  rw [ec]
/-! ### len(set(..)) of a list of ints -/
theorem dedup_nodup (val : Nat → Int) : ∀ i, (PyProof.Rows.firstMet val i).Nodup
  | 0 => by
    rw [PyProof.Rows.firstMet_zero]
    exact List.nodup_nil
  | i + 1 => by
    have ih := dedup_nodup val i
    rw [PyProof.Rows.firstMet_succ]
    unfold PyProof.Rows.step_dedup
    split
    · exact ih
    · rename_i h
      refine List.nodup_append.mpr ⟨ih, List.nodup_cons.mpr ⟨(fun q => by cases q), List.nodup_nil⟩, fun a ha b hb e => h ?_⟩
      rw [List.mem_singleton.mp hb] at e
      subst e
      exact List.any_eq_true.mpr ⟨_, ha, beq_self_eq_true _⟩
theorem range_getD (ns : List Int) : (List.range ns.length).map (fun i => ns.getD i 0) = ns := by
  refine List.ext_getElem? fun i => ?_
  rw [List.getElem?_map]
  by_cases h : i < ns.length
  · rw [List.getElem?_range h, List.getElem?_eq_getElem h]
    show some (ns.getD i 0) = _
    rw [List.getD_eq_getElem?_getD, List.getElem?_eq_getElem h]
    rfl
  · rw [List.getElem?_eq_none (by rw [List.length_range]; omega), List.getElem?_eq_none (by omega)]
    rfl
theorem dedup_mem (ns : List Int) (k : Int) : k ∈ PyProof.Rows.firstMet (fun i => ns.getD i 0) ns.length ↔ k ∈ ns := by
  have h := PyProof.Rows.firstMet_any (fun i => ns.getD i 0) ns.length k
  rw [range_getD] at h
  constructor
  · intro q
    have : (PyProof.Rows.firstMet (fun i => ns.getD i 0) ns.length).any (· == k) = true := List.any_eq_true.mpr ⟨k, q, beq_self_eq_true _⟩
    rw [h] at this
    obtain ⟨x, hx, e⟩ := List.any_eq_true.mp this
    rw [← eq_of_beq e]
    exact hx
  · intro q
    have : ns.any (· == k) = true := List.any_eq_true.mpr ⟨k, q, beq_self_eq_true _⟩
    rw [← h] at this
    obtain ⟨x, hx, e⟩ := List.any_eq_true.mp this
    rw [← eq_of_beq e]
    exact hx
def tLenSet (K : PySem.W.Frag) (ta : TE) : TE := fun σ H Q => ta σ H fun x H1 => ∃ (l : Addr) (ns : List Int), x = .ref l ∧ SqL K H1 l (ns.map V.int) ∧ ns.length ≤ 4000 ∧ ∀ us : List Int, us.Nodup → (∀ k, k ∈ us ↔ k ∈ ns) → Q (.int (us.length : Nat)) H1
theorem pe_lenSet {X : Cx} {a : Expr} {ta : TE} {p p2 q pos : Pos} (hg : Gl X "len") (hm : X.mg "len" = none) (hg2 : Gl X "set") (hm2 : X.mg "set" = none) (ha : PE X a ta) (hc : X.calm = true := by rfl)
    (na : starEach [a] X.env = (false, eval a X.env) :: starEach [] X.env := by rfl) : PE X (.Call (.Name "len" p) [.Call (.Name "set" p2) [a] [] q] [] pos) (tLenSet X.K ta) := by
  refine ⟨fun pins s σ H Q I h => ?_⟩
  refine Call_ (ld_blt I hg hm boot_len ?_)
  refine PyProof.Rows.callWith_builtin1 (PyProof.Rows.args_cons ?_ rfl) rfl rfl
  refine Call_ (ld_blt I hg2 hm2 boot_set ?_)
  refine PyProof.Rows.callWith_type1 (PyProof.Rows.args_cons (thn (ha.run pins s σ H _ I h) fun v s1 ⟨x, H1, I1, r1, q1⟩ => PyProof.Rows.args_nil ?_) na) na rfl
  obtain ⟨l, ns, rfl, hq, hl, q1⟩ := q1
  cases r1
  obtain ⟨its, r, pl, hz⟩ := I1.list hq
  have hlen : its.toArray.size = ns.length := by rw [List.size_toArray, ← r.length, List.length_map]
  refine call_set_list (I1.ok.hd hc) pl.isList (by simpa using RZ.intsAre_vals r) (by rw [hlen]; unfold scanBound; omega) fun h' tk hS hk => ?_
  refine PyProof.Rows.args_nil ?_
  rw [hlen] at hS
  have hle := PyProof.Rows.firstMet_length_le (fun i => ns.getD i 0) ns.length
  obtain ⟨o, es, ep, t, ho, hex, hd, _, _, _, hf, hn⟩ := hS
  have I2 : Inv X pins σ H1 { s1 with heap := h', toks := tk } := I1.kept fun b o e => hk b o (Heap.lt_size e) e
  exact call_len_set ho hex hd hf (by rw [hn] <;> omega) ⟨.int (PyProof.Rows.firstMet (fun i => ns.getD i 0) ns.length).length, H1, I2.tok _, ⟨_, by rw [hn]⟩, q1 _ (dedup_nodup _ _) (dedup_mem ns)⟩
abbrev rIsNo : R2 := fun x y H Q => y = .non ∧ Q (.bl (decide (x = .non))) H
/-! ### blocks, their depths -/

def blV (bs : List Nat) : List V := bs.map fun b => V.int (b : Nat)
theorem blV_len (bs : List Nat) : (blV bs).length = bs.length := List.length_map _
theorem blV_flat (bs : List Nat) : (blV bs).all flatV = true := List.all_eq_true.mpr fun x hx => by
  obtain ⟨b, _, rfl⟩ := List.mem_map.mp hx
  rfl
theorem eqV_int (a b : Int) : eqV (.int a) (.int b) = (a == b) := rfl
theorem inV_bl (b : Nat) (bs : List Nat) : inV (.int (b : Nat)) (blV bs) = decide (b ∈ bs) := by
  unfold inV
  by_cases h : b ∈ bs
  · rw [decide_eq_true h]
    exact List.any_eq_true.mpr ⟨.int (b : Nat), List.mem_map.mpr ⟨b, h, rfl⟩, beq_self_eq_true (b : Int)⟩
  · rw [decide_eq_false h]
    refine Bool.eq_false_iff.mpr fun q => h ?_
    obtain ⟨x, hx, e⟩ := List.any_eq_true.mp q
    obtain ⟨c, hc, rfl⟩ := List.mem_map.mp hx
    have e : ((c : Nat) : Int) = ((b : Nat) : Int) := eq_of_beq e
    rw [← Int.ofNat.inj e]
    exact hc
theorem inV_is (b : Int) (bs : List Int) : inV (.int b) (bs.map V.int) = decide (b ∈ bs) := by
  unfold inV
  by_cases h : b ∈ bs
  · rw [decide_eq_true h]
    exact List.any_eq_true.mpr ⟨.int b, List.mem_map.mpr ⟨b, h, rfl⟩, beq_self_eq_true b⟩
  · rw [decide_eq_false h]
    refine Bool.eq_false_iff.mpr fun q => h ?_
    obtain ⟨x, hx, e⟩ := List.any_eq_true.mp q
    obtain ⟨c, hc, rfl⟩ := List.mem_map.mp hx
    have e : (c == b) = true := e
    rw [← eq_of_beq e]
    exact hc
theorem isV_flat (bs : List Int) : (bs.map V.int).all flatV = true := List.all_eq_true.mpr fun x hx => by
  obtain ⟨b, _, rfl⟩ := List.mem_map.mp hx
  rfl
def intsOf (bs : List Nat) : List Int := bs.map fun b => ((b : Nat) : Int)
theorem blV_is (bs : List Nat) : blV bs = (intsOf bs).map V.int := by
  unfold blV intsOf
  rw [List.map_map]
  rfl
theorem sh0 : SeqAt.shaped (.list []) = true := PySem.W.shaped_ints []
theorem cutTake {xs : List V} {k : Nat} (h : k ≤ xs.length) : cutV xs none (some (k : Int)) = xs.take k := by
  unfold cutV
  rw [HT.sIx_none, HT.sIx_nat, Nat.min_eq_left h, List.drop_zero, Nat.sub_zero]
theorem cutDrop {xs : List V} {k : Nat} (h : k ≤ xs.length) : cutV xs (some (k : Int)) none = xs.drop k := by
  unfold cutV
  rw [HT.sIx_none, HT.sIx_nat, Nat.min_eq_left h]
  exact List.take_of_length_le (by rw [List.length_drop]; omega)
/-- a slice of a list of ints -/
def cutI (ns : List Int) (lo hi : Option Int) : List Int := (ns.drop (HT.sIx ns.length 0 lo)).take (HT.sIx ns.length ns.length hi - HT.sIx ns.length 0 lo)
theorem cutI_eq (ns : List Int) (lo hi : Option Int) : cutV (ns.map V.int) lo hi = (cutI ns lo hi).map V.int := by
  unfold cutV cutI
  rw [List.length_map, List.map_take, List.map_drop]
theorem cutI_len (ns : List Int) (lo hi : Option Int) : (cutI ns lo hi).length ≤ ns.length := by
  unfold cutI
  rw [List.length_take, List.length_drop]
  omega
-- WwT0
/-! ### the law's draws -/
/-- the script, as cells S -/
def Scr (K : PySem.W.Frag) (sc : Addr) (ns : List Int) (S : List Cell) : Prop := ∀ H : Hp, (∀ c ∈ S, H c.1 = some c.2) → SqL K H sc (ns.map V.int)
/-- the row of a law: the script, how many cells were taken, what is mixed -/
def RowC (K : PySem.W.Frag) (rw : Addr) (S : List Cell) (c : Cell) : Prop := ∃ (sc : Addr) (ns : List Int) (i : Nat) (z : Int), Scr K sc ns S ∧ 0 ≤ z ∧ z < 2147483647 ∧ c = (rw, .lst [.ref sc, .int i, .int z])
theorem Own.scr {K : PySem.W.Frag} {H : Hp} {sc : Addr} {ns : List Int} {S R : List Cell} {c : Cell} (h : Scr K sc ns S) (O : Own H (c :: (S ++ R))) : SqL K H sc (ns.map V.int) := h H fun d hd => O.2 d (List.mem_cons_of_mem _ (List.mem_append_left _ hd))
def spTaken (K : PySem.W.Frag) : Sp := fun vs H Q _ => ∃ (rw : Addr) (S : List Cell) (c : Cell) (many : Int) (R : List Cell), vs = [.ref rw, .int many] ∧ RowC K rw S c ∧ 0 < many ∧ Own H (c :: (S ++ R)) ∧
  ∀ (v : Int) (c' : Cell) (H' : Hp), 0 ≤ v → v < many → RowC K rw S c' → Own H' (c' :: (S ++ R)) → Q (.int v) H'
def spIsNum : Sp := fun vs H Q _ => ∃ (x lo hi : Int), vs = [.int x, .int lo, .int hi] ∧ Q (.bl (decide (lo ≤ x ∧ x ≤ hi))) H
section
variable {P : Program} {w : World} {K : PySem.W.Frag} {mg : Str → Option Value} {base : Heap} {n lv : Nat}
theorem okOf {x qual : Str} {params : Arguments} {body : List Stmt} {scope : Scope} {f : Addr} {fd : FuncData} {N ps : List Str} {k : Nat} {sp : Sp} (F : FunD K x qual params body scope [] [] f fd) (S : FnScope N ps scope) (len : ∀ vs H Q E, sp vs H Q E → vs.length = ps.length)
    (hbody : ∀ (cdv : Value) (A : Around) (outer : List Env) (s : Shared) (H : Hp) (vs : List V) (Q : VK) (E : XK), Room k (A.deeper (envOfC qual scope s.heap.objs.size f cdv)) → sp vs H Q E →
      ∃ t, PSs (cxOf CX0 P w K mg base N qual scope f cdv A outer s H E).nox body t ∧ t { nx := fun _ H' => Q .non H', rt := Q } (start N vs) H) : FnOk P w K mg base CX0 (k + 1) f fd ps sp :=
  F.ok S len fun cdv A outer s H vs Q E hr h => by
    obtain ⟨t, h1, h2⟩ := hbody cdv A outer s H vs Q E hr h
    exact ⟨t, h1.nox, h2⟩
theorem okX {x qual : Str} {params : Arguments} {body : List Stmt} {scope : Scope} {f : Addr} {fd : FuncData} {N ps : List Str} {k : Nat} {sp : Sp} (F : FunD K x qual params body scope [] [] f fd) (S : FnScope N ps scope) (len : ∀ vs H Q E, sp vs H Q E → vs.length = ps.length)
    (hb : ∀ (cdv : Value) (A : Around) (outer : List Env) (s : Shared) (H : Hp) (vs : List V) (Q : VK) (E : XK), Room k (A.deeper (envOfC qual scope s.heap.objs.size f cdv)) → sp vs H Q E →
      ∃ t, PSs (cxOf (L2.CX P w) P w K mg base N qual scope f cdv A outer s H E) body t ∧ t { nx := fun _ H' => Q .non H', rt := Q } (start N vs) H) : FnOk P w K mg base (L2.CX P w) (k + 1) f fd ps sp := F.ok S len hb
/-- a def whose code object and table are told -/
theorem okTab {p : He.Defn} {x qual : Str} {params : Arguments} {body : List Stmt} {scope : Scope} {fd : FuncData} {N ps : List Str} {k : Nat} {sp : Sp} (F : FunD K x qual params body scope [] [] (He.fAd K p) fd) (S : FnScope N ps scope) (len : ∀ vs H Q E, sp vs H Q E → vs.length = ps.length)
    (hb : ∀ (A : Around) (outer : List Env) (s : Shared) (H : Hp) (vs : List V) (Q : VK) (E : XK), Room k (A.deeper (envOfC qual scope s.heap.objs.size (He.fAd K p) (.ref (He.codeOf K p)))) → sp vs H Q E →
      ∃ t, PSs (cxOf CX0 P w K mg base N qual scope (He.fAd K p) (.ref (He.codeOf K p)) A outer s H E).nox body t ∧ t { nx := fun _ H' => Q .non H', rt := Q } (start N vs) H) : FnOk P w K mg base CX0 (k + 1) (He.fAd K p) fd ps sp := by
  obtain ⟨oc, od, dV, kV, doc, pm, an, cdv, ct, osl, rfl, lk, hcd, _, _⟩ := F.ex
  obtain ⟨c, rfl⟩ := He.codeIn_ref hcd
  have e := He.codeOf_eq lk rfl
  rw [e] at hb
  refine fn_of lk hcd S len fun A outer s H vs Q E hr hsp => ?_
  obtain ⟨t, h1, h2⟩ := hb A outer s H vs Q E hr hsp
  exact ⟨t, h1.nox, h2⟩
theorem ok_taken (T : Txt K mg) : FnOk P w K mg base CX0 1 (He.fAd K ("_law_taken", none)) T.fd__law_taken ["_law_row", "_law_many"] (spTaken K) := by
  refine okOf T.F__law_taken sc__law_taken (fun vs H Q E h => ?_) (fun cdv A outer s H vs Q E hr h => ?_)
  · obtain ⟨_, _, _, _, _, rfl, _⟩ := h
    rfl
  · obtain ⟨rw, S, c, many, R, rfl, ⟨sc, ns, i, z, hsc, hz0, hz1, rfl⟩, hm, O, k⟩ := h
    refine ⟨_, (pss_cons (ps_asg (pe_op op_add (pe_ix ix_list (pv 0) pe_int (fun _ _ => rfl)) pe_int) (pg_sub (pv 0) pe_int set_list)) (pss_cons (ps_if (pt_cmpR op_gt (pe_ix ix_list (pv 0) pe_int (fun _ _ => rfl)) (pe_callB call_len_seq (by rfl) T.n_len PySem.boot_len (pa_cons (pe_ix ix_list (pv 0) pe_int (fun _ _ => rfl)) pa_nil)) (nomark _)) (pss_cons (ps_asg (pe_op op_mod (pe_op op_add (pe_op op_mul (pe_ix ix_list (pv 0) pe_int (fun _ _ => rfl)) pe_int) pe_int) pe_int) (pg_sub (pv 0) pe_int set_list)) (pss_one (ps_ret (pe_op op_mod (pe_op op_fdiv (pe_ix ix_list (pv 0) pe_int (fun _ _ => rfl)) pe_int) (pv 1))))) pss_nil) (pss_cons (ps_set (i := 2) sc__law_taken.nd rfl (Or.inl rfl) (pe_ix ix_list (pe_ix ix_list (pv 0) pe_int (fun _ _ => rfl)) (pe_op op_sub (pe_ix ix_list (pv 0) pe_int (fun _ _ => rfl)) pe_int) (fun _ _ => rfl))) (pss_cons (ps_asg (pe_op op_mod (pe_op op_add (pe_op op_add (pe_op op_mul (pe_ix ix_list (pv 0) pe_int (fun _ _ => rfl)) pe_int) (pv 2)) pe_int) pe_int) (pg_sub (pv 0) pe_int set_list)) (pss_one (ps_ret (pe_op op_mod (pv 2) (pv 1)))))))), ?_⟩
    refine ⟨_, rfl, rw, _, 1, .int i, rfl, rfl, SqL.of O.a0, rfl, _, _, rfl, rfl, _, rfl, rw, _, 1, 1, rfl, rfl, O.a0, rfl, ?_⟩
    have O1 := O.set (o' := .lst [.ref sc, .int ((i : Int) + 1), .int z])
    refine ⟨_, rfl, rw, _, 1, .int ((i : Int) + 1), rfl, rfl, SqL.of O1.a0, rfl, _, rfl, rw, _, 0, .ref sc, rfl, rfl, SqL.of O1.a0, rfl, sc, _, rfl, .inl (O1.scr hsc), _, _, rfl, rfl, _, rfl, ?_⟩
    have hi1 : (i : Int) + 1 = ((i + 1 : Nat) : Int) := by omega
    refine ite2 (fun e => ?_) (fun e => ?_)
    · refine ⟨_, rfl, rw, _, 2, .int z, rfl, rfl, SqL.of O1.a0, rfl, _, _, rfl, rfl, .inr ⟨by decide, by decide⟩, _, _, rfl, rfl, _, _, rfl, rfl, (by show (0 : Int) < 2147483647; decide), _, rfl, rw, _, 2, 2, rfl, rfl, O1.a0, rfl, ?_⟩
      have O2 := O1.set (o' := .lst [.ref sc, .int ((i : Int) + 1), .int ((z * 48271 + 11) % 2147483647)])
      have hz2 := Int.emod_nonneg (z * 48271 + 11) (by decide : (2147483647 : Int) ≠ 0)
      have hz3 := Int.emod_lt_of_pos (z * 48271 + 11) (by decide : (0 : Int) < 2147483647)
      refine ⟨_, rfl, rw, _, 2, .int ((z * 48271 + 11) % 2147483647), rfl, rfl, SqL.of O2.a0, rfl, _, _, rfl, rfl, ⟨by decide, by decide⟩, _, rfl, _, _, rfl, rfl, hm, ?_⟩
      exact k _ _ _ (Int.emod_nonneg _ (by omega)) (Int.emod_lt_of_pos _ hm) ⟨sc, ns, i + 1, _, hsc, hz2, hz3, rfl⟩ O2
    · have hlt : i < ns.length := by
        have e' : ¬ decide ((((ns.map V.int).length : Nat) : Int) < (i : Int) + 1) = true := e
        rw [List.length_map] at e'
        have := of_decide_eq_false (Bool.eq_false_iff.mpr e')
        omega
      refine ⟨_, rfl, rw, _, 0, .ref sc, rfl, rfl, SqL.of O1.a0, rfl, _, rfl, rw, _, 1, .int ((i : Int) + 1), rfl, rfl, SqL.of O1.a0, rfl, _, _, rfl, rfl, sc, _, _, .int ns[i], rfl, rfl, O1.scr hsc, ?_, ?_⟩
      · have e1 : (i : Int) + 1 - 1 = (i : Int) := by omega
        rw [e1]
        refine atI_nat ?_
        rw [List.getElem?_map, List.getElem?_eq_getElem hlt]
        rfl
      · refine ⟨_, rfl, rw, _, 2, .int z, rfl, rfl, SqL.of O1.a0, rfl, _, _, rfl, rfl, .inr ⟨by decide, by decide⟩, _, rfl, _, _, rfl, rfl, _, _, rfl, rfl, _, _, rfl, rfl, (by show (0 : Int) < 2147483647; decide), _, rfl, rw, _, 2, 2, rfl, rfl, O1.a0, rfl, ?_⟩
        have O2 := O1.set (o' := .lst [.ref sc, .int ((i : Int) + 1), .int ((z * 48271 + ns[i] + 11) % 2147483647)])
        have hz2 := Int.emod_nonneg (z * 48271 + ns[i] + 11) (by decide : (2147483647 : Int) ≠ 0)
        have hz3 := Int.emod_lt_of_pos (z * 48271 + ns[i] + 11) (by decide : (0 : Int) < 2147483647)
        refine ⟨_, rfl, _, rfl, _, _, rfl, rfl, hm, ?_⟩
        exact k _ _ _ (Int.emod_nonneg _ (by omega)) (Int.emod_lt_of_pos _ hm) ⟨sc, ns, i + 1, _, hsc, hz2, hz3, rfl⟩ O2
theorem ok_is_number (T : Txt K mg) : FnOk P w K mg base CX0 1 (He.fAd K ("is_number", none)) T.fd_is_number ["part", "low", "high"] spIsNum := by
  refine okOf T.F_is_number sc_is_number (fun vs H Q E h => ?_) (fun cdv A outer s H vs Q E hr h => ?_)
  · obtain ⟨_, _, _, rfl, _⟩ := h
    rfl
  · obtain ⟨x, lo, hi, rfl, k⟩ := h
    refine ⟨_, (pss_one (ps_ret (pe_and (pe_callB call_isi (by rfl) T.n_isinstance (by decide +kernel) (pa_cons (pv 0) (pa_cons (pe_bltn (v := .ty "int") (by rfl) T.n_int (by decide +kernel) rfl) pa_nil))) (pe_and (pe_not (pe_callB call_isi (by rfl) T.n_isinstance (by decide +kernel) (pa_cons (pv 0) (pa_cons (pe_bltn (v := .ty "bool") (by rfl) T.n_bool (by decide +kernel) rfl) pa_nil)))) (pe_one (pe_chain op_le op_le (pv 1) (pv 0) (pv 2))))))), ?_⟩
    refine ⟨_, rfl, _, _, _, _, true, rfl, ClsV.ty _, TyX.base (.int x), kit_ty (by decide +kernel), true, rfl, iteT ?_⟩
    refine ⟨_, rfl, _, _, _, _, false, rfl, ClsV.ty _, TyX.base (.int x), kit_ty (by decide +kernel), false, rfl, true, rfl, iteT ?_⟩
    refine ⟨_, rfl, _, rfl, lo, x, rfl, rfl, _, rfl, ?_⟩
    by_cases h1 : lo ≤ x
    · rw [decide_eq_true h1]
      refine iteT ⟨_, rfl, x, hi, rfl, rfl, ?_⟩
      have e : decide (x ≤ hi) = decide (lo ≤ x ∧ x ≤ hi) := by simp [h1]
      show Q (.bl (decide (x ≤ hi))) H
      rw [e]
      exact k
    · rw [decide_eq_false h1]
      refine iteF ?_
      have e : decide (lo ≤ x ∧ x ≤ hi) = false := by simp [h1]
      rw [e] at k
      exact k
end
-- WwA
/-! ### words for the walk -/
section
variable {P : Program} {w : World} {K : PySem.W.Frag} {mg : Str → Option Value} {base : Heap}
end
abbrev cF (K : PySem.W.Frag) : Addr := He.ga K "Far"
abbrev cL (K : PySem.W.Frag) : Addr := He.ga K "Line"
abbrev cR (K : PySem.W.Frag) : Addr := He.ga K "Room"
abbrev cH (K : PySem.W.Frag) : Addr := He.ga K "Hall"
abbrev RepK (K : PySem.W.Frag) (di : Addr) := Rep (cF K) (cL K) (cR K) di
abbrev RmRepK (K : PySem.W.Frag) (di : Addr) := RmRep (cL K) (cR K) di
def SqO (o : HO) (xs : List V) : Prop := o = .lst xs ∨ o = .tup xs
theorem SqO.seq {K : PySem.W.Frag} {H : Hp} {a : Addr} {o : HO} {xs : List V} (s : SqO o xs) (h : H a = some o) : SqL K H a xs ∨ SqT K H a xs := by
  rcases s with e | e
  · rw [e] at h
    exact .inl (SqL.of h)
  · rw [e] at h
    exact .inr (SqT.of h)
/-- room in the log -/
def LB (n : Nat) (t : Ta) : Prop := n ≤ 3 ∧ t.log.length + 200 * (n + 1) ≤ 1000000
theorem size2 {n : Nat} (h : n ≤ 1000000) : n ≤ sizeLine := Nat.le_of_lt (size1 h)
theorem cutV_nat {xs : List V} {i j : Nat} (hij : i ≤ j) (hj : j ≤ xs.length) : cutV xs (some (i : Int)) (some (j : Int)) = (xs.drop i).take (j - i) := by
  unfold cutV
  rw [HT.sIx_nat, HT.sIx_nat, Nat.min_eq_left (Nat.le_trans hij hj), Nat.min_eq_left hj]
/-! ### promises: the far room, what stands behind -/
def spFarInit (K : PySem.W.Frag) : Sp := fun vs H Q _ => ∃ (x dx : Addr) (R : List Cell), vs = [.ref x] ∧ Own H ((x, .ins (cF K) dx []) :: R) ∧
  ∀ (fl : Addr) (H' : Hp), Own H' ((x, .ins (cF K) dx (fFar (.ref fl))) :: (fl, .lst ((List.replicate 64 (0 : Int)).map V.int)) :: R) → Q .non H'
def spBring (K : PySem.W.Frag) (n : Nat) : Sp := fun vs H Q _ => ∃ (be : Pa) (di : Addr) (b : Nat) (t : Ta) (C D R : List Cell), vs = [.ref be.ad, .int b] ∧ b < 16 ∧ TaOk n t ∧ LB n t ∧ RepK K di be t.rs t.far C ∧ DRep di t.log D ∧ Own H (C ++ (D ++ R)) ∧
  ∀ (p : Addr) (H' : Hp) (C' D' : List Cell), RepK K di be ((ops n).br t b).2.rs ((ops n).br t b).2.far C' → DRep di ((ops n).br t b).2.log D' → Own H' ((p, .tup (((ops n).br t b).1.map V.int)) :: (C' ++ (D' ++ R))) → Q (.ref p) H'
def spHome (K : PySem.W.Frag) (n : Nat) : Sp := fun vs H Q _ => ∃ (be : Pa) (di na : Addr) (no : HO) (b : Nat) (ns : List Int) (t : Ta) (C D R : List Cell), vs = [.ref be.ad, .int b, .ref na] ∧ b < 16 ∧ ns.length = 4 ∧ SqO no (ns.map V.int) ∧ TaOk n t ∧ LB n t ∧ RepK K di be t.rs t.far C ∧ DRep di t.log D ∧ Own H ((na, no) :: (C ++ (D ++ R))) ∧
  ∀ (H' : Hp) (C' D' : List Cell), RepK K di be ((ops n).hm t b ns).rs ((ops n).hm t b ns).far C' → DRep di ((ops n).hm t b ns).log D' → Own H' ((na, no) :: (C' ++ (D' ++ R))) → Q .non H'
def spChange (K : PySem.W.Frag) (n : Nat) : Sp := fun vs H Q _ => ∃ (be : Pa) (di : Addr) (p : Nat) (v : Int) (t : Ta) (C D R : List Cell), vs = [.ref be.ad, .int p, .int v] ∧ p < 64 ∧ TaOk n t ∧ LB n t ∧ RepK K di be t.rs t.far C ∧ DRep di t.log D ∧ Own H (C ++ (D ++ R)) ∧
  ∀ (H' : Hp) (C' D' : List Cell), RepK K di be ((ops n).ch t p v).rs ((ops n).ch t p v).far C' → DRep di ((ops n).ch t p v).log D' → Own H' (C' ++ (D' ++ R)) → Q .non H'
section
variable {P : Program} {w : World} {K : PySem.W.Frag} {mg : Str → Option Value} {base : Heap}
theorem mul4 {b : Nat} (h : b < 64) : CMul (b : Int) 4 := .inr ⟨by decide, by decide⟩
end
-- WwB
/-! ### cells of lines, sets, logs -/
theorem lns_mem {CL : Addr} : ∀ {ls : List LnA} {i : Nat} {l : LnA}, ls[i]? = some l → ∀ c ∈ lnC CL l, c ∈ lnsC CL ls
  | [], i, l, h, c, hc => by simp at h
  | a :: r, 0, l, h, c, hc => by
    have e : a = l := by simpa using h
    rw [e]
    exact List.mem_append_left _ hc
  | a :: r, i + 1, l, h, c, hc => List.mem_append_right _ (lns_mem (by simpa using h) c hc)
theorem lns_app (CL : Addr) : ∀ (ls r : List LnA), lnsC CL (ls ++ r) = lnsC CL ls ++ lnsC CL r
  | [], r => rfl
  | a :: ls, r => by
    show lnC CL a ++ lnsC CL (ls ++ r) = (lnC CL a ++ lnsC CL ls) ++ lnsC CL r
    rw [lns_app CL ls r, List.append_assoc]
theorem lns_focus {CL : Addr} : ∀ {ls : List LnA} {i : Nat} {l : LnA}, ls[i]? = some l → (lnsC CL ls).Perm (lnC CL l ++ lnsC CL (ls.eraseIdx i))
  | [], i, l, h => by simp at h
  | a :: r, 0, l, h => by
    have e : a = l := by simpa using h
    rw [e]
    exact List.Perm.refl _
  | a :: r, i + 1, l, h => by
    have ih := lns_focus (CL := CL) (ls := r) (i := i) (l := l) (by simpa using h)
    show (lnC CL a ++ lnsC CL r).Perm (lnC CL l ++ (lnC CL a ++ lnsC CL (r.eraseIdx i)))
    refine (List.Perm.append_left _ ih).trans ?_
    walk_at "perm"
theorem lns_set {CL : Addr} : ∀ {ls : List LnA} {i : Nat} {l : LnA}, i < ls.length → (lnsC CL (ls.set i l)).Perm (lnC CL l ++ lnsC CL (ls.eraseIdx i))
  | [], i, l, h => by simp at h
  | a :: r, 0, l, h => List.Perm.refl _
  | a :: r, i + 1, l, h => by
    have ih := lns_set (CL := CL) (ls := r) (i := i) (l := l) (by simpa using h)
    show (lnC CL a ++ lnsC CL (r.set i l)).Perm (lnC CL l ++ (lnC CL a ++ lnsC CL (r.eraseIdx i)))
    refine (List.Perm.append_left _ ih).trans ?_
    walk_at "perm"
theorem lns_touch {CL : Addr} {lt : Bool} {ls : List LnA} {i : Nat} (h : i < ls.length) : (lnsC CL (touchL lt ls i)).Perm (lnsC CL ls) := by
  unfold touchL
  split
  · rw [lns_app, List.getElem?_eq_getElem h]
    refine List.Perm.trans ?_ (lns_focus (List.getElem?_eq_getElem h)).symm
    show (lnsC CL (ls.eraseIdx i) ++ (lnC CL ls[i] ++ [])).Perm _
    walk_at "perm"
  · exact List.Perm.refl _
theorem sts_focus {CL : Addr} : ∀ {ss : List (Addr × List LnA)} {i : Nat} {s : Addr × List LnA}, ss[i]? = some s → (stsC CL ss).Perm (stC CL s ++ stsC CL (ss.eraseIdx i))
  | [], i, s, h => by simp at h
  | a :: r, 0, s, h => by
    have e : a = s := by simpa using h
    rw [e]
    exact List.Perm.refl _
  | a :: r, i + 1, s, h => by
    have ih := sts_focus (CL := CL) (ss := r) (i := i) (s := s) (by simpa using h)
    show (stC CL a ++ stsC CL r).Perm (stC CL s ++ (stC CL a ++ stsC CL (r.eraseIdx i)))
    refine (List.Perm.append_left _ ih).trans ?_
    walk_at "perm"
theorem sts_set {CL : Addr} : ∀ {ss : List (Addr × List LnA)} {i : Nat} {s : Addr × List LnA}, i < ss.length → (stsC CL (ss.set i s)).Perm (stC CL s ++ stsC CL (ss.eraseIdx i))
  | [], i, s, h => by simp at h
  | a :: r, 0, s, h => List.Perm.refl _
  | a :: r, i + 1, s, h => by
    have ih := sts_set (CL := CL) (ss := r) (i := i) (s := s) (by simpa using h)
    show (stC CL a ++ stsC CL (r.set i s)).Perm (stC CL s ++ (stC CL a ++ stsC CL (r.eraseIdx i)))
    refine (List.Perm.append_left _ ih).trans ?_
    walk_at "perm"
theorem log_app : ∀ {as : List Addr} {log : List Ent} (p : Addr) (e : Ent), as.length = log.length → logC (as ++ [p]) (log ++ [e]) = logC as log ++ [(p, .tup e.vs)]
  | [], [], p, e, _ => rfl
  | [], _ :: _, p, e, h => by simp at h
  | _ :: _, [], p, e, h => by simp at h
  | a :: as, x :: log, p, e, h => by
    show (a, HO.tup x.vs) :: logC (as ++ [p]) (log ++ [e]) = (a, HO.tup x.vs) :: (logC as log ++ [(p, .tup e.vs)])
    rw [log_app p e (by simpa using h)]
/-- a room seen at one block's set -/
theorem RmRep.at {CL CR di a : Addr} {be : Pa} {r : Rm} {C : List Cell} (h : RmRep CL CR di a be r C) (h0 : 0 < r.ss.length) (b : Nat) :
    ∃ (hd : Hd) (sa : Addr) (ls : List LnA) (Z : List Cell), hd.a = a ∧ hd.be = be ∧ hd.di = di ∧ hd.u = r.ru ∧ hd.sas.length = r.ss.length ∧ hd.sas[b % hd.sas.length]? = some sa ∧ ls.map (·.l) = r.ls b ∧ C.Perm (hdC CR hd ++ (stC CL (sa, ls) ++ Z)) ∧
      ∀ ls' : List LnA, ∃ C', RmRep CL CR di a be (r.put b (ls'.map (·.l))) C' ∧ C'.Perm (hdC CR hd ++ (stC CL (sa, ls') ++ Z)) := by
  obtain ⟨hd, ss, h1, h2, h3, h4, h5, h6, rfl⟩ := h
  have hlen : ss.length = r.ss.length := by rw [h6, List.length_map]
  have hk : b % ss.length < ss.length := Nat.mod_lt _ (by omega)
  have hg := List.getElem?_eq_getElem hk
  have ix : r.ix b = b % ss.length := by unfold Rm.ix; rw [hlen]
  refine ⟨hd, ss[b % ss.length].1, ss[b % ss.length].2, stsC CL (ss.eraseIdx (b % ss.length)), h1, h2, h3, h4, by rw [h5, List.length_map]; exact hlen, ?_, ?_, ?_, fun ls' => ⟨hdC CR hd ++ stsC CL (ss.set (b % ss.length) (ss[b % ss.length].1, ls')), ⟨hd, _, h1, h2, h3, h4, ?_, ?_, rfl⟩, List.Perm.append_left _ (sts_set hk)⟩⟩
  · rw [h5, List.length_map, List.getElem?_map, hg]
    rfl
  · unfold Rm.ls
    rw [ix, h6, List.getD_eq_getElem?_getD, List.getElem?_map, hg]
    rfl
  · exact List.Perm.append_left _ (sts_focus hg)
  · rw [List.map_set, h5]
    apply List.ext_getElem?
    intro i
    by_cases e : b % ss.length = i
    · rw [← e, List.getElem?_set_self (by rw [List.length_map]; exact hk), List.getElem?_map, hg]
      rfl
    · rw [List.getElem?_set_ne e]
  · unfold Rm.put
    dsimp only
    rw [ix, h6, List.map_set]
def LBk (n k : Nat) (t : Ta) : Prop := n ≤ 3 ∧ t.log.length + 200 * (n + 1) + k ≤ 1000000
theorem LBk.lb {n k : Nat} {t : Ta} (h : LBk n k t) : LB n t := ⟨h.1, by have := h.2; omega⟩
theorem LBk.le {n k j : Nat} {t t' : Ta} (h : LBk n k t) (hl : t'.log.length + j ≤ t.log.length + k) : LBk n j t' := ⟨h.1, by have := h.2; omega⟩
/-! ### promises of a room's own steps -/
def spLineInit (K : PySem.W.Frag) : Sp := fun vs H Q _ => ∃ (x dx na : Addr) (no : HO) (b : Nat) (ns : List Int) (R : List Cell), vs = [.ref x, .int b, .ref na] ∧ SqO no (ns.map V.int) ∧ Own H ((x, .ins (cL K) dx []) :: (na, no) :: R) ∧
  ∀ (q : Addr) (H' : Hp), Own H' (lnC (cL K) ⟨x, dx, q, ⟨b, ns, false⟩⟩ ++ ((na, no) :: R)) → Q .non H'
def spLinesOf (K : PySem.W.Frag) : Sp := fun vs H Q _ => ∃ (h : Hd) (b : Nat) (sa : Addr) (R : List Cell), vs = [.ref h.a, .int b] ∧ h.sas[b % h.sas.length]? = some sa ∧ Own H (hdC (cR K) h ++ R) ∧ Q (.ref sa) H
def spLineOf (K : PySem.W.Frag) : Sp := fun vs H Q _ => ∃ (h : Hd) (b : Nat) (sa : Addr) (ls : List LnA) (R : List Cell), vs = [.ref h.a, .int b] ∧ h.sas[b % h.sas.length]? = some sa ∧ Own H (hdC (cR K) h ++ (stC (cL K) (sa, ls) ++ R)) ∧
  (∀ (i : Nat) (l : LnA), fnd b (ls.map (·.l)) = some i → ls[i]? = some l → Q (.ref l.a) H) ∧ (fnd b (ls.map (·.l)) = none → Q .non H)
def spNote (K : PySem.W.Frag) : Sp := fun vs H Q _ => ∃ (h : Hd) (w : Str) (n : Nat) (log : List Ent) (D R : List Cell), vs = [.ref h.a, .str w, .int n] ∧ log.length < 1000000 ∧ h.u.tl.length ≤ 4 ∧ DRep h.di log D ∧ Own H (hdC (cR K) h ++ (D ++ R)) ∧
  ∀ (H' : Hp) (D' : List Cell), DRep h.di (log ++ [⟨h.u.tl, w, n⟩]) D' → Own H' (hdC (cR K) h ++ (D' ++ R)) → Q .non H'
def spPassHome (K : PySem.W.Frag) (n : Nat) : Sp := fun vs H Q _ => ∃ (h : Hd) (l : LnA) (t : Ta) (C D R : List Cell), vs = [.ref h.a, .ref l.a] ∧ LnOk l.l ∧ RuOk h.u ∧ TaOk n t ∧ LBk n 1 t ∧ RepK K h.di h.be t.rs t.far C ∧ DRep h.di t.log D ∧ Own H (hdC (cR K) h ++ (lnC (cL K) l ++ (C ++ (D ++ R)))) ∧
  ∀ (H' : Hp) (C' D' : List Cell), RepK K h.di h.be (passH (ops n) h.u.tl t l.l.b l.l.ns).rs (passH (ops n) h.u.tl t l.l.b l.l.ns).far C' → DRep h.di (passH (ops n) h.u.tl t l.l.b l.l.ns).log D' →
    Own H' (hdC (cR K) h ++ (lnC (cL K) { l with l := { l.l with d := false } } ++ (C' ++ (D' ++ R)))) → Q .non H'
def spPassCell (K : PySem.W.Frag) (n : Nat) : Sp := fun vs H Q _ => ∃ (h : Hd) (p : Nat) (v : Int) (t : Ta) (C D R : List Cell), vs = [.ref h.a, .int p, .int v] ∧ p < 64 ∧ RuOk h.u ∧ TaOk n t ∧ LBk n 1 t ∧ RepK K h.di h.be t.rs t.far C ∧ DRep h.di t.log D ∧ Own H (hdC (cR K) h ++ (C ++ (D ++ R))) ∧
  ∀ (H' : Hp) (C' D' : List Cell), RepK K h.di h.be (passC (ops n) h.u.tl t p v).rs (passC (ops n) h.u.tl t p v).far C' → DRep h.di (passC (ops n) h.u.tl t p v).log D' → Own H' (hdC (cR K) h ++ (C' ++ (D' ++ R))) → Q .non H'
def spMakeWay (K : PySem.W.Frag) (n : Nat) : Sp := fun vs H Q _ => ∃ (h : Hd) (b : Nat) (sa : Addr) (ls : List LnA) (t : Ta) (C D R : List Cell), vs = [.ref h.a, .int b] ∧ h.sas[b % h.sas.length]? = some sa ∧ RuOk h.u ∧ LsOk h.u (ls.map (·.l)) ∧ TaOk n t ∧ LBk n 1 t ∧ RepK K h.di h.be t.rs t.far C ∧ DRep h.di t.log D ∧ Own H (hdC (cR K) h ++ (stC (cL K) (sa, ls) ++ (C ++ (D ++ R)))) ∧
  ∀ (H' : Hp) (ls' : List LnA) (C' D' : List Cell), ls'.map (·.l) = (mkWay (ops n) h.u (ls.map (·.l)) t).1 → RepK K h.di h.be (mkWay (ops n) h.u (ls.map (·.l)) t).2.rs (mkWay (ops n) h.u (ls.map (·.l)) t).2.far C' → DRep h.di (mkWay (ops n) h.u (ls.map (·.l)) t).2.log D' →
    Own H' (hdC (cR K) h ++ (stC (cL K) (sa, ls') ++ (C' ++ (D' ++ R)))) → Q .non H'
def spTouch (K : PySem.W.Frag) : Sp := fun vs H Q _ => ∃ (h : Hd) (sa : Addr) (ls : List LnA) (i : Nat) (l : LnA) (R : List Cell), vs = [.ref h.a, .ref l.a] ∧ ls[i]? = some l ∧ h.sas[l.l.b % h.sas.length]? = some sa ∧ ls.length ≤ 4 ∧ Own H (hdC (cR K) h ++ (stC (cL K) (sa, ls) ++ R)) ∧
  ∀ H' : Hp, Own H' (hdC (cR K) h ++ (stC (cL K) (sa, touchL h.u.lt ls i) ++ R)) → Q .non H'
def spReach (K : PySem.W.Frag) (n : Nat) : Sp := fun vs H Q _ => ∃ (h : Hd) (b : Nat) (sa : Addr) (ls : List LnA) (t : Ta) (C D R : List Cell), vs = [.ref h.a, .int b] ∧ b < 16 ∧ h.sas[b % h.sas.length]? = some sa ∧ RuOk h.u ∧ LsOk h.u (ls.map (·.l)) ∧ TaOk n t ∧ LBk n 60 t ∧ RepK K h.di h.be t.rs t.far C ∧ DRep h.di t.log D ∧ Own H (hdC (cR K) h ++ (stC (cL K) (sa, ls) ++ (C ++ (D ++ R)))) ∧
  ∀ (H' : Hp) (ls' : List LnA) (l : LnA) (C' D' : List Cell), ls'.map (·.l) = (reachL (ops n) h.u (ls.map (·.l)) t b).1 → ls'[(reachL (ops n) h.u (ls.map (·.l)) t b).2.2]? = some l → RepK K h.di h.be (reachL (ops n) h.u (ls.map (·.l)) t b).2.1.rs (reachL (ops n) h.u (ls.map (·.l)) t b).2.1.far C' → DRep h.di (reachL (ops n) h.u (ls.map (·.l)) t b).2.1.log D' →
    Own H' (hdC (cR K) h ++ (stC (cL K) (sa, ls') ++ (C' ++ (D' ++ R)))) → Q (.ref l.a) H'
/-- what stands behind at depth n: its class and its three steps -/
structure Beh (P : Program) (w : World) (K : PySem.W.Frag) (mg : Str → Option Value) (base : Heap) (n lv : Nat) where
  C : Addr
  cl : Cls K C
  fh : Addr
  fb : Addr
  fdh : FuncData
  fdb : FuncData
  m_home : Meth K C "home" fh
  m_bring : Meth K C "bring" fb
  b_home : Binds K fdh ["self", "block", "numbers"] []
  b_bring : Binds K fdb ["self", "block"] []
  G_home : FnOk P w K mg base CX0 lv fh fdh ["self", "block", "numbers"] (spHome K n)
  G_bring : FnOk P w K mg base CX0 lv fb fdb ["self", "block"] (spBring K n)
  at_ : ∀ (di : Addr) (be : Pa) (t : Ta) (Z : List Cell), TaOk n t → RepK K di be t.rs t.far Z → ∃ dx fs, (be.ad, HO.ins C dx fs) ∈ Z ∧ fs.lookup ("home" : Str) = none ∧ fs.lookup ("bring" : Str) = none ∧ fs.lookup ("change" : Str) = none
section
variable {P : Program} {w : World} {K : PySem.W.Frag} {mg : Str → Option Value} {base : Heap} {n lv : Nat}
end
-- WwC
theorem mkWay_full {o : Ops} {u : Ru} {l : Ln} {rest : List Ln} {t : Ta} (h : (l :: rest).length = u.ways) : mkWay o u (l :: rest) t = (rest, if l.d = true then passH o u.tl t l.b l.ns else t) := by
  unfold mkWay
  rw [if_pos h]
theorem mkWay_no {o : Ops} {u : Ru} {ls : List Ln} {t : Ta} (h : ¬ ls.length = u.ways) : mkWay o u ls t = (ls, t) := by
  unfold mkWay
  rw [if_neg h]
theorem lns_keys {CL : Addr} : ∀ ls : List LnA, (ls.map (·.a)).Sublist ((lnsC CL ls).map (·.1))
  | [] => List.Sublist.refl _
  | l :: r => by
    show (l.a :: r.map (·.a)).Sublist (l.a :: l.na :: (lnsC CL r).map (·.1))
    exact List.Sublist.cons_cons _ (List.Sublist.cons _ (lns_keys r))
theorem Own.lnsNd {H : Hp} {CL : Addr} {ls : List LnA} {L : List Cell} (h : Own H (lnsC CL ls ++ L)) : (ls.map (·.a)).Nodup := List.Nodup.sublist (lns_keys ls) h.left.1
theorem isN_ref (a : Addr) : decide (V.ref a = V.non) = false := decide_eq_false (by intro z; cases z)
theorem ite_notN {a : Addr} {A B : Prop} (h : A) : if (!decide (V.ref a = V.non)) = true then A else B := by
  rw [isN_ref]
  exact h
theorem ite_notN0 {A B : Prop} (h : B) : if (!decide (V.non = V.non)) = true then A else B := by
  rw [decide_eq_true rfl]
  exact h
theorem seqIx0 {n : Nat} (h : 0 < n) : seqIndex? 0 n = some 0 := (ixN_seq (by
  unfold ixN
  rw [if_pos (by decide), if_pos (by omega)]
  rfl)).1
section
variable {P : Program} {w : World} {K : PySem.W.Frag} {mg : Str → Option Value} {base : Heap} {n lv : Nat}
theorem reachL_hit {o : Ops} {u : Ru} {ls : List Ln} {t : Ta} {b i : Nat} (e : fnd b ls = some i) : reachL o u ls t b = (touchL u.lt ls i, t, touchI u.lt ls i) := by
  unfold reachL
  rw [e]
theorem reachL_miss {o : Ops} {u : Ru} {ls : List Ln} {t : Ta} {b : Nat} (e : fnd b ls = none) : reachL o u ls t b = ((mkWay o u ls t).1 ++ [⟨b, (o.br ((mkWay o u ls t).2.note u.tl "bring" b) b).1, false⟩], (o.br ((mkWay o u ls t).2.note u.tl "bring" b) b).2, (mkWay o u ls t).1.length) := by
  unfold reachL
  rw [e]
end
-- WwD
/-! ### promises of a room as a whole: C1 the room's cells, C those behind, D the diary's -/
def spBlockOf : Sp := fun vs H Q _ => ∃ p : Nat, vs = [.int p] ∧ Q (.int ((p / 4 : Nat) : Int)) H
def RPre (K : PySem.W.Frag) (n : Nat) (H : Hp) (di a : Addr) (be : Pa) (r : Rm) (t : Ta) (C1 C D R : List Cell) : Prop :=
  RmOk r ∧ TaOk n t ∧ LBk n 200 t ∧ RmRepK K di a be r C1 ∧ RepK K di be t.rs t.far C ∧ DRep di t.log D ∧ Own H (C1 ++ (C ++ (D ++ R)))
def RPost (K : PySem.W.Frag) (di a : Addr) (be : Pa) (R : List Cell) (r : Rm) (t : Ta) (H' : Hp) : Prop :=
  ∃ C1 C D : List Cell, RmRepK K di a be r C1 ∧ RepK K di be t.rs t.far C ∧ DRep di t.log D ∧ Own H' (C1 ++ (C ++ (D ++ R)))
def spRBring (K : PySem.W.Frag) (n : Nat) : Sp := fun vs H Q _ => ∃ (a : Addr) (be : Pa) (di : Addr) (b : Nat) (r : Rm) (t : Ta) (C1 C D R : List Cell), vs = [.ref a, .int b] ∧ b < 16 ∧ RPre K n H di a be r t C1 C D R ∧
  ∀ (p : Addr) (H' : Hp), RPost K di a be ((p, .tup ((bringL (ops n) r.ru (r.ls b) t b).1.map V.int)) :: R) (r.put b (bringL (ops n) r.ru (r.ls b) t b).2.1) (bringL (ops n) r.ru (r.ls b) t b).2.2 H' → Q (.ref p) H'
def spRLook (K : PySem.W.Frag) (n : Nat) : Sp := fun vs H Q _ => ∃ (a : Addr) (be : Pa) (di : Addr) (p : Nat) (r : Rm) (t : Ta) (C1 C D R : List Cell), vs = [.ref a, .int p] ∧ p < 64 ∧ RPre K n H di a be r t C1 C D R ∧
  ∀ H' : Hp, RPost K di a be R (r.put (p / 4) (lookL (ops n) r.ru (r.ls (p / 4)) t p).2.1) (lookL (ops n) r.ru (r.ls (p / 4)) t p).2.2 H' → Q (.int (lookL (ops n) r.ru (r.ls (p / 4)) t p).1) H'
def spRChange (K : PySem.W.Frag) (n : Nat) : Sp := fun vs H Q _ => ∃ (a : Addr) (be : Pa) (di : Addr) (p : Nat) (v : Int) (r : Rm) (t : Ta) (C1 C D R : List Cell), vs = [.ref a, .int p, .int v] ∧ p < 64 ∧ RPre K n H di a be r t C1 C D R ∧
  ∀ H' : Hp, RPost K di a be R (r.put (p / 4) (changeL (ops n) r.ru (r.ls (p / 4)) t p v).1) (changeL (ops n) r.ru (r.ls (p / 4)) t p v).2 H' → Q .non H'
def spRHome (K : PySem.W.Frag) (n : Nat) : Sp := fun vs H Q _ => ∃ (a : Addr) (be : Pa) (di na : Addr) (no : HO) (b : Nat) (ns : List Int) (r : Rm) (t : Ta) (C1 C D R : List Cell), vs = [.ref a, .int b, .ref na] ∧ b < 16 ∧ ns.length = 4 ∧ SqO no (ns.map V.int) ∧ RPre K n H di a be r t C1 C D ((na, no) :: R) ∧
  ∀ H' : Hp, RPost K di a be ((na, no) :: R) (r.put b (homeL (ops n) r.ru (r.ls b) t b ns).1) (homeL (ops n) r.ru (r.ls b) t b ns).2 H' → Q .non H'
def spRYield (K : PySem.W.Frag) (n : Nat) : Sp := fun vs H Q _ => ∃ (a : Addr) (be : Pa) (di : Addr) (b : Nat) (g : Bool) (r : Rm) (t : Ta) (C1 C D R : List Cell), vs = [.ref a, .int b, .bl g] ∧ b < 16 ∧ RPre K n H di a be r t C1 C D R ∧
  ∀ H' : Hp, RPost K di a be R (r.put b (yieldL (ops n) r.ru (r.ls b) t b g).1) (yieldL (ops n) r.ru (r.ls b) t b g).2 H' → Q .non H'
section
variable {P : Program} {w : World} {K : PySem.W.Frag} {mg : Str → Option Value} {base : Heap} {n lv : Nat}
/-- a room opened at a block's set -/
theorem RPre.open {H : Hp} {di a : Addr} {be : Pa} {r : Rm} {t : Ta} {C1 C D R : List Cell} (h : RPre K n H di a be r t C1 C D R) (b : Nat) :
    ∃ (hd : Hd) (sa : Addr) (ls : List LnA) (Z : List Cell), hd.a = a ∧ hd.be = be ∧ hd.di = di ∧ hd.u = r.ru ∧ hd.sas[b % hd.sas.length]? = some sa ∧ ls.map (·.l) = r.ls b ∧ RuOk hd.u ∧ LsOk hd.u (ls.map (·.l)) ∧ TaOk n t ∧ LBk n 200 t ∧ RepK K di be t.rs t.far C ∧ DRep di t.log D ∧
      Own H (hdC (cR K) hd ++ (stC (cL K) (sa, ls) ++ (C ++ (D ++ (Z ++ R))))) ∧
      ∀ (ls' : List LnA) (t' : Ta) (C' D' R' : List Cell) (H' : Hp), RepK K di be t'.rs t'.far C' → DRep di t'.log D' → Own H' (hdC (cR K) hd ++ (stC (cL K) (sa, ls') ++ (C' ++ (D' ++ (Z ++ R'))))) → RPost K di a be R' (r.put b (ls'.map (·.l))) t' H' := by
  obtain ⟨hr, ht, hlb, h1, hC, hD, O⟩ := h
  obtain ⟨hd, sa, ls, Z, e1, e2, e3, e4, e5, hix, els, hp, hback⟩ := h1.at hr.s0 b
  refine ⟨hd, sa, ls, Z, e1, e2, e3, e4, hix, els, by rw [e4]; exact hr.ru, by rw [e4, els]; exact hr.ls b, ht, hlb, hC, hD, O.perm ?_, fun ls' t' C' D' R' H' hC' hD' O' => ?_⟩
  · refine (List.Perm.append_right _ hp).trans ?_
    walk_at "perm"
  · obtain ⟨C1', h1', hp'⟩ := hback ls'
    refine ⟨C1', C', D', h1', hC', hD', O'.perm ?_⟩
    refine List.Perm.trans ?_ (List.Perm.append_right _ hp').symm
    walk_at "perm"
theorem isN_ite {a : Addr} {A B : Prop} (h : B) : if (decide (V.ref a = V.non)) = true then A else B := by
  rw [isN_ref]
  exact h
theorem isN_ite0 {A B : Prop} (h : A) : if (decide (V.non = V.non)) = true then A else B := by
  rw [decide_eq_true rfl]
  exact h
theorem changeL_by {o : Ops} {u : Ru} {ls : List Ln} {t : Ta} {p : Nat} {v : Int} (h1 : u.inn = false) (h2 : fnd (p / 4) ls = none) : changeL o u ls t p v = (ls, passC o u.tl t p v) := by
  unfold changeL
  rw [if_pos ⟨h1, h2⟩]
theorem changeL_in {o : Ops} {u : Ru} {ls : List Ln} {t : Ta} {p : Nat} {v : Int} (h : ¬ (u.inn = false ∧ fnd (p / 4) ls = none)) : changeL o u ls t p v =
    ((reachL o u ls t (p / 4)).1.set (reachL o u ls t (p / 4)).2.2 (setCell u.bk (lnAt (reachL o u ls t (p / 4)).1 (reachL o u ls t (p / 4)).2.2) p v),
      if u.bk = true then (reachL o u ls t (p / 4)).2.1 else passC o u.tl (reachL o u ls t (p / 4)).2.1 p v) := by
  unfold changeL
  rw [if_neg h]
end
-- WwE
theorem homeL_by {o : Ops} {u : Ru} {ls : List Ln} {t : Ta} {b : Nat} {ns : List Int} (h1 : fnd b ls = none) (h2 : u.inn = false) : homeL o u ls t b ns = (ls, passH o u.tl t b ns) := by
  unfold homeL
  rw [h1]
  dsimp only
  rw [h2, if_neg Bool.false_ne_true]
theorem homeL_new {o : Ops} {u : Ru} {ls : List Ln} {t : Ta} {b : Nat} {ns : List Int} (h1 : fnd b ls = none) (h2 : u.inn = true) : homeL o u ls t b ns = ((mkWay o u ls t).1 ++ [⟨b, ns, u.bk⟩], if u.bk = true then (mkWay o u ls t).2 else passH o u.tl (mkWay o u ls t).2 b ns) := by
  unfold homeL
  rw [h1]
  dsimp only
  rw [h2, if_pos rfl]
theorem homeL_hit {o : Ops} {u : Ru} {ls : List Ln} {t : Ta} {b i : Nat} {ns : List Int} (h1 : fnd b ls = some i) : homeL o u ls t b ns = ((touchL u.lt ls i).set (touchI u.lt ls i) ⟨b, ns, u.bk⟩, if u.bk = true then t else passH o u.tl t b ns) := by
  unfold homeL
  rw [h1]
theorem refs_set {ls : List LnA} {i : Nat} {l l' : LnA} (h : ls[i]? = some l) (e : l'.a = l.a) : (ls.set i l').map (fun l => V.ref l.a) = ls.map fun l => V.ref l.a := by
  have hi : i < ls.length := (List.getElem?_eq_some_iff.mp h).1
  rw [List.map_set]
  apply List.ext_getElem?
  intro j
  by_cases ej : i = j
  · subst ej
    rw [List.getElem?_set_self (by rw [List.length_map]; exact hi), List.getElem?_map, h, e]
    rfl
  · rw [List.getElem?_set_ne ej]
/-- a set's cells with one line in front -/
theorem st_focus {CL sa : Addr} {ls : List LnA} {i : Nat} {l : LnA} (h : ls[i]? = some l) : (stC CL (sa, ls)).Perm (lnC CL l ++ ((sa, .lst (ls.map fun l => V.ref l.a)) :: lnsC CL (ls.eraseIdx i))) := by
  unfold stC
  refine (List.Perm.cons _ (lns_focus h)).trans ?_
  walk_at "perm"
theorem st_back {CL sa : Addr} {ls : List LnA} {i : Nat} {l l' : LnA} (h : ls[i]? = some l) (e : l'.a = l.a) : (lnC CL l' ++ ((sa, .lst (ls.map fun l => V.ref l.a)) :: lnsC CL (ls.eraseIdx i))).Perm (stC CL (sa, ls.set i l')) := by
  have hi : i < ls.length := (List.getElem?_eq_some_iff.mp h).1
  unfold stC
  dsimp only
  rw [refs_set h e]
  refine List.Perm.trans ?_ (List.Perm.cons _ (lns_set hi)).symm
  walk_at "perm"
section
variable {P : Program} {w : World} {K : PySem.W.Frag} {mg : Str → Option Value} {base : Heap} {n lv : Nat}
theorem yieldL_no {o : Ops} {u : Ru} {ls : List Ln} {t : Ta} {b : Nat} {g : Bool} (h1 : fnd b ls = none) : yieldL o u ls t b g = (ls, t) := by
  unfold yieldL
  rw [h1]
theorem yieldL_hit {o : Ops} {u : Ru} {ls : List Ln} {t : Ta} {b i : Nat} {g : Bool} {l : Ln} (h1 : fnd b ls = some i) (h2 : ls[i]? = some l) : yieldL o u ls t b g = (if g = true then ls.eraseIdx i else ls.set i { l with d := false }, if l.d = true then passH o u.tl t b l.ns else t) := by
  unfold yieldL
  rw [h1]
  dsimp only
  rw [lnAt_get h2]
end
-- WwF
/-! ### what stands behind, by depth -/
def lvOf (n : Nat) : Nat := 4 * n + 1
section
variable {P : Program} {w : World} {K : PySem.W.Frag} {mg : Str → Option Value} {base : Heap} {n lv : Nat}
theorem pre_of {H : Hp} {di : Addr} {be : Pa} {t : Ta} {C D R : List Cell} (ht : TaOk (n + 1) t) (hlb : LB (n + 1) t) (hC : RepK K di be t.rs t.far C) (hD : DRep di t.log D) (O : Own H (C ++ (D ++ R))) :
    ∃ (r : Rm) (rs : List Rm) (a : Addr) (be' : Pa) (C1 C2 : List Cell), t.rs = r :: rs ∧ be = .room a be' ∧ RPre K n H di a be' r { t with rs := rs } C1 C2 D R := by
  obtain ⟨r, rs, e, hr, ht2⟩ := ht.uncons
  rw [e] at hC
  obtain ⟨a, be', rfl⟩ : ∃ a be', be = .room a be' := by
    cases be with
    | far la => exact hC.elim
    | room a be' => exact ⟨a, be', rfl⟩
  obtain ⟨C1, C2, h1, h2, rfl⟩ := hC
  refine ⟨r, rs, a, be', C1, C2, e, rfl, hr, ht2, ⟨by have := hlb.1; omega, by have := hlb.2; show t.log.length + _ + _ ≤ _; omega⟩, h1, h2, hD, O.perm (by walk_at "perm")⟩
end
def lnD (l : Ln) : PyData := .tuple [.int l.b, .tuple (l.ns.map .int), .bool l.d]
def lsD (ls : List Ln) : PyData := .list (ls.map lnD)
def ssD (ss : List (List Ln)) : PyData := .list (ss.map lsD)
theorem sts_mem {CL : Addr} : ∀ {ss : List (Addr × List LnA)} {i : Nat} {s : Addr × List LnA}, ss[i]? = some s → ∀ c ∈ stC CL s, c ∈ stsC CL ss
  | [], i, s, h, c, hc => by simp at h
  | a :: r, 0, s, h, c, hc => by
    have e : a = s := by simpa using h
    rw [e]
    exact List.mem_append_left _ hc
  | a :: r, i + 1, s, h, c, hc => List.mem_append_right _ (sts_mem (by simpa using h) c hc)
def spHolds (K : PySem.W.Frag) : Sp := fun vs H Q _ => ∃ (a : Addr) (be : Pa) (di : Addr) (r : Rm) (C1 R : List Cell), vs = [.ref a] ∧ RmOk r ∧ RmRepK K di a be r C1 ∧ Own H (C1 ++ R) ∧
  ∀ (p : Addr) (N : List Cell) (H' : Hp), DpL N (.ref p) (ssD r.ss) → Own H' (N ++ (C1 ++ R)) → Q (.ref p) H'
section
variable {P : Program} {w : World} {K : PySem.W.Frag} {mg : Str → Option Value} {base : Heap} {n lv : Nat}
end
-- WwG
/-! ### rules -/
structure Rul where
  s : Nat
  w : Nat
  bk : Bool
  inn : Bool
  lt : Bool
def sBk (b : Bool) : Str := if b = true then "back" else "through"
def sIn (b : Bool) : Str := if b = true then "in" else "by"
def sLt (b : Bool) : Str := if b = true then "late" else "first"
def Rul.vs (u : Rul) : List V := [.int u.s, .int u.w, .str (sBk u.bk), .str (sIn u.inn), .str (sLt u.lt)]
structure RulOk (u : Rul) : Prop where
  s : u.s = 1 ∨ u.s = 2 ∨ u.s = 4
  w0 : 1 ≤ u.w
  w4 : u.w ≤ 4
def mkRm (u : Rul) (tl : List V) : Rm := ⟨⟨u.w, u.bk, u.inn, u.lt, tl⟩, List.replicate u.s []⟩
theorem mkRm_ok {u : Rul} (h : RulOk u) {tl : List V} (ht : tl.length ≤ 4) : RmOk (mkRm u tl) := by
  refine ⟨?_, ?_, ⟨h.w0, h.w4, ht⟩, fun ls hm => ?_⟩
  · show 0 < (List.replicate u.s []).length
    rw [List.length_replicate]
    rcases h.s with e | e | e <;> omega
  · show (List.replicate u.s []).length ≤ 4
    rw [List.length_replicate]
    rcases h.s with e | e | e <;> omega
  · rw [List.eq_of_mem_replicate hm]
    exact ⟨Nat.zero_le _, fun l hm => by cases hm⟩
theorem dec_bk (b : Bool) : decide (V.str (sBk b) = V.str "back") = b := by cases b <;> decide +kernel
theorem dec_in (b : Bool) : decide (V.str (sIn b) = V.str "in") = b := by cases b <;> decide +kernel
theorem dec_lt (b : Bool) : decide (V.str (sLt b) = V.str "late") = b := by cases b <;> decide +kernel
theorem sts_nil (CL : Addr) : ∀ as : List Addr, stsC CL (as.map fun a => (a, ([] : List LnA))) = as.map fun a => (a, HO.lst [])
  | [] => rfl
  | a :: as => by
    show (a, HO.lst []) :: stsC CL (as.map fun a => (a, ([] : List LnA))) = _
    rw [sts_nil CL as]
    rfl
def spRoomInit (K : PySem.W.Frag) : Sp := fun vs H Q _ => ∃ (x dx ra ti di : Addr) (be : Pa) (u : Rul) (tl : List V) (R : List Cell), vs = [.ref x, .ref ra, .ref be.ad, .ref ti, .ref di] ∧ RulOk u ∧ (ra, HO.tup u.vs) ∈ R ∧ Own H ((x, .ins (cR K) dx []) :: (ti, .tup tl) :: R) ∧
  ∀ (C1 : List Cell) (H' : Hp), RmRepK K di x be (mkRm u tl) C1 → Own H' (C1 ++ R) → Q .non H'
def spIsRule : Sp := fun vs H Q _ => ∃ (ra : Addr) (u : Rul), vs = [.ref ra] ∧ RulOk u ∧ H ra = some (.tup u.vs) ∧ Q (.bl true) H
/-- tuples of rules, by their addresses -/
def RA (R : List Cell) : List Addr → List Rul → Prop
  | [], [] => True
  | a :: as, u :: us => (a, HO.tup u.vs) ∈ R ∧ RA R as us
  | _, _ => False
theorem RA.len {R : List Cell} : ∀ {as : List Addr} {us : List Rul}, RA R as us → as.length = us.length
  | [], [], _ => rfl
  | [], _ :: _, h => h.elim
  | _ :: _, [], h => h.elim
  | _ :: _, _ :: _, h => congrArg (· + 1) (RA.len h.2)
theorem RA.get {R : List Cell} : ∀ {as : List Addr} {us : List Rul} {i : Nat} {a : Addr}, RA R as us → as[i]? = some a → ∃ u, us[i]? = some u ∧ (a, HO.tup u.vs) ∈ R
  | [], _, i, a, _, e => by simp at e
  | _ :: _, [], _, _, h, _ => h.elim
  | b :: as, u :: us, 0, a, h, e => by
    simp at e
    subst e
    exact ⟨u, rfl, h.1⟩
  | b :: as, u :: us, i + 1, a, h, e => by
    obtain ⟨v, h1, h2⟩ := RA.get (i := i) (a := a) h.2 (by simpa using e)
    exact ⟨v, by simpa using h1, h2⟩
theorem RA.get' {R : List Cell} : ∀ {as : List Addr} {us : List Rul} {i : Nat} {u : Rul}, RA R as us → us[i]? = some u → ∃ a, as[i]? = some a ∧ (a, HO.tup u.vs) ∈ R
  | [], [], i, a, _, e => by simp at e
  | [], _ :: _, _, _, h, _ => h.elim
  | _ :: _, [], _, _, h, _ => h.elim
  | b :: as, u :: us, 0, v, h, e => by
    simp at e
    subst e
    exact ⟨b, rfl, h.1⟩
  | b :: as, u :: us, i + 1, v, h, e => by
    obtain ⟨a, h1, h2⟩ := RA.get' (i := i) (u := v) h.2 (by simpa using e)
    exact ⟨a, by simpa using h1, h2⟩
theorem RA.mono {R R' : List Cell} (hs : ∀ c ∈ R, c ∈ R') : ∀ {as : List Addr} {us : List Rul}, RA R as us → RA R' as us
  | [], [], _ => trivial
  | [], _ :: _, h => h.elim
  | _ :: _, [], h => h.elim
  | _ :: _, _ :: _, h => ⟨hs _ h.1, RA.mono hs h.2⟩
/-- a list of rules -/
def RulesAt (R : List Cell) (rl : Addr) (us : List Rul) : Prop := ∃ ras : List Addr, (rl, HO.lst (ras.map V.ref)) ∈ R ∧ RA R ras us
structure RulesOk (us : List Rul) : Prop where
  ok : ∀ u ∈ us, RulOk u
  l1 : 1 ≤ us.length
  l3 : us.length ≤ 3
def spNeedRules : Sp := fun vs H Q _ => ∃ (rl : Addr) (us : List Rul) (R : List Cell), vs = [.ref rl] ∧ RulesOk us ∧ RulesAt R rl us ∧ Own H R ∧ ∀ H' : Hp, Own H' R → Q .non H'
def spNeedHands : Sp := fun vs H Q _ => ∃ n : Nat, vs = [.int n] ∧ 1 ≤ n ∧ n ≤ 3 ∧ Q .non H
section
variable {P : Program} {w : World} {K : PySem.W.Frag} {mg : Str → Option Value} {base : Heap} {n lv : Nat}
theorem in3 (u : Rul) (h : RulOk u) : inV (.int u.s) [V.int 1, .int 2, .int 4] = true := by
  rcases h.s with e | e | e <;> rw [e] <;> decide
theorem inBk (b : Bool) : inV (.str (sBk b)) [V.str "through", .str "back"] = true := by cases b <;> decide +kernel
theorem inIn (b : Bool) : inV (.str (sIn b)) [V.str "in", .str "by"] = true := by cases b <;> decide +kernel
theorem inLt (b : Bool) : inV (.str (sLt b)) [V.str "first", .str "late"] = true := by cases b <;> decide +kernel
end
-- WwH
/-! ### halls -/
structure Ha where
  own : List Rm
  t : Ta
def Pa.rooms : Pa → List Addr
  | .far _ => []
  | .room a be => a :: be.rooms
def Pa.last : Pa → Addr
  | .far la => la
  | .room _ be => be.last
structure HaA where
  x : Addr
  dx : Addr
  di : Addr
  sl : Addr
  ol : Addr
  sh : Pa
  owns : List Addr
def hallC (K : PySem.W.Frag) (A : HaA) : List Cell := [(A.x, .ins (cH K) A.dx (fHall (.ref A.di) (.ref A.sh.last) (.ref A.sl) (.ref A.ol))), (A.sl, .lst (A.sh.rooms.map V.ref)), (A.ol, .lst (A.owns.map V.ref))]
def OwnsRep (K : PySem.W.Frag) (di : Addr) (be : Pa) : List Addr → List Rm → List Cell → Prop
  | [], [], C => C = []
  | a :: as, r :: rs, C => ∃ C1 C2 : List Cell, RmRepK K di a be r C1 ∧ OwnsRep K di be as rs C2 ∧ C = C1 ++ C2
  | _, _, _ => False
def HallRepA (K : PySem.W.Frag) (A : HaA) (ha : Ha) (C : List Cell) : Prop := ∃ Co Cb D : List Cell, OwnsRep K A.di A.sh A.owns ha.own Co ∧ RepK K A.di A.sh ha.t.rs ha.t.far Cb ∧ DRep A.di ha.t.log D ∧ C = hallC K A ++ (Co ++ (Cb ++ D))
def HallRep (K : PySem.W.Frag) (x : Addr) (ha : Ha) (C : List Cell) : Prop := ∃ A : HaA, A.x = x ∧ HallRepA K A ha C
structure HaOk (n m : Nat) (ha : Ha) : Prop where
  t : TaOk n ha.t
  len : ha.own.length = m
  own : ∀ r ∈ ha.own, RmOk r
  n2 : n ≤ 2
  m1 : 1 ≤ m
  m3 : m ≤ 3
section
variable {K : PySem.W.Frag} {di : Addr} {be : Pa}
theorem OwnsRep.len : ∀ {as : List Addr} {rs : List Rm} {C : List Cell}, OwnsRep K di be as rs C → as.length = rs.length
  | [], [], _, _ => rfl
  | [], _ :: _, _, h => h.elim
  | _ :: _, [], _, h => h.elim
  | _ :: _, _ :: _, _, ⟨_, _, _, h, _⟩ => congrArg (· + 1) h.len
theorem OwnsRep.app : ∀ {as : List Addr} {rs : List Rm} {C C1 : List Cell} {a : Addr} {r : Rm}, OwnsRep K di be as rs C → RmRepK K di a be r C1 → OwnsRep K di be (as ++ [a]) (rs ++ [r]) (C ++ C1)
  | [], [], _, C1, a, r, h, k => by
    have h : _ = [] := h
    rw [h]
    exact ⟨C1, [], k, rfl, by simp⟩
  | [], _ :: _, _, _, _, _, h, _ => h.elim
  | _ :: _, [], _, _, _, _, h, _ => h.elim
  | b :: as, q :: rs, _, C1, a, r, ⟨D1, D2, h1, h2, e⟩, k => ⟨D1, D2 ++ C1, h1, OwnsRep.app h2 k, by rw [e, List.append_assoc]⟩
theorem OwnsRep.at : ∀ {as : List Addr} {rs : List Rm} {C : List Cell} {i : Nat} {r : Rm}, OwnsRep K di be as rs C → rs[i]? = some r →
    ∃ (a : Addr) (C1 Z : List Cell), as[i]? = some a ∧ RmRepK K di a be r C1 ∧ C.Perm (C1 ++ Z) ∧ ∀ (r' : Rm) (C1' : List Cell), RmRepK K di a be r' C1' → ∃ C', OwnsRep K di be as (rs.set i r') C' ∧ C'.Perm (C1' ++ Z)
  | [], [], _, i, r, _, e => by simp at e
  | [], _ :: _, _, _, _, h, _ => h.elim
  | _ :: _, [], _, _, _, h, _ => h.elim
  | b :: as, q :: rs, _, 0, r, ⟨D1, D2, h1, h2, e⟩, e0 => by
    have eq : q = r := by simpa using e0
    subst eq
    exact ⟨b, D1, D2, rfl, h1, by rw [e], fun r' C1' hr' => ⟨C1' ++ D2, ⟨C1', D2, hr', h2, rfl⟩, List.Perm.refl _⟩⟩
  | b :: as, q :: rs, _, i + 1, r, ⟨D1, D2, h1, h2, e⟩, e0 => by
    obtain ⟨a, C1, Z, g1, g2, g3, g4⟩ := OwnsRep.at (i := i) (r := r) h2 (by simpa using e0)
    refine ⟨a, C1, D1 ++ Z, by simpa using g1, g2, ?_, fun r' C1' hr' => ?_⟩
    · rw [e]
      refine (List.Perm.append_left _ g3).trans ?_
      walk_at "perm"
    · obtain ⟨C', k1, k2⟩ := g4 r' C1' hr'
      refine ⟨D1 ++ C', ⟨D1, C', h1, k1, rfl⟩, ?_⟩
      refine (List.Perm.append_left _ k2).trans ?_
      walk_at "perm"
end
def shRs : Nat → List Rul → List Rm
  | _, [] => []
  | lev, u :: us => mkRm u [.int lev, .int 0] :: shRs (lev + 1) us
def ownRs (u : Rul) (m : Nat) : List Rm := (List.range m).map fun h => mkRm u [.int 0, .int (h : Nat)]
def rul0 (us : List Rul) : Rul := us.getD 0 ⟨1, 1, true, true, true⟩
def hall0 (us : List Rul) (m : Nat) : Ha := ⟨ownRs (rul0 us) m, ⟨shRs 1 (us.drop 1), List.replicate 64 0, []⟩⟩
theorem shRs_len : ∀ (lev : Nat) (us : List Rul), (shRs lev us).length = us.length
  | _, [] => rfl
  | lev, u :: us => congrArg (· + 1) (shRs_len (lev + 1) us)
theorem shRs_ok : ∀ (lev : Nat) {us : List Rul}, (∀ u ∈ us, RulOk u) → ∀ r ∈ shRs lev us, RmOk r
  | _, [], _, r, hr => by cases hr
  | lev, u :: us, h, r, hr => by
    rcases List.mem_cons.mp hr with e | hr
    · rw [e]
      exact mkRm_ok (h u List.mem_cons_self) (by show 2 ≤ 4; omega)
    · exact shRs_ok (lev + 1) (fun v hv => h v (List.mem_cons_of_mem _ hv)) r hr
theorem rul0_ok {us : List Rul} (h : RulesOk us) : RulOk (rul0 us) ∧ us[0]? = some (rul0 us) := by
  cases us with
  | nil =>
    have := h.l1
    simp at this
  | cons u us => exact ⟨h.ok u List.mem_cons_self, rfl⟩
theorem hall0_ok {us : List Rul} (h : RulesOk us) {m : Nat} (h1 : 1 ≤ m) (h3 : m ≤ 3) : HaOk (us.length - 1) m (hall0 us m) := by
  refine ⟨⟨?_, ?_, rfl⟩, ?_, ?_, by have := h.l3; omega, h1, h3⟩
  · show (shRs 1 (us.drop 1)).length = _
    rw [shRs_len, List.length_drop]
  · exact shRs_ok 1 fun u hu => h.ok u (List.mem_of_mem_drop hu)
  · show (ownRs (rul0 us) m).length = m
    unfold ownRs
    rw [List.length_map, List.length_range]
  · intro r hr
    obtain ⟨i, _, rfl⟩ := List.mem_map.mp hr
    exact mkRm_ok (rul0_ok h).1 (by show 2 ≤ 4; omega)
def spHallInit (K : PySem.W.Frag) : Sp := fun vs H Q _ => ∃ (x dx rl : Addr) (us : List Rul) (m : Nat) (R : List Cell), vs = [.ref x, .ref rl, .int m] ∧ RulesOk us ∧ 1 ≤ m ∧ m ≤ 3 ∧ RulesAt R rl us ∧ Own H ((x, .ins (cH K) dx []) :: R) ∧
  ∀ (C : List Cell) (H' : Hp), HallRep K x (hall0 us m) C → Own H' (C ++ R) → Q .non H'
section
variable {P : Program} {w : World} {K : PySem.W.Frag} {mg : Str → Option Value} {base : Heap} {n lv : Nat}
end
-- WwI
/-! ### what a hall does, plainly -/
def yieldAt (n : Nat) (ha : Ha) (b : Nat) (g : Bool) (i : Nat) : Ha := match ha.own[i]? with
  | none => ha
  | some r => ⟨ha.own.set i (r.put b (yieldL (ops n) r.ru (r.ls b) ha.t b g).1), (yieldL (ops n) r.ru (r.ls b) ha.t b g).2⟩
def askN (n hand b : Nat) (g : Bool) : Nat → Ha → Ha
  | 0, ha => ha
  | k + 1, ha => if k = hand then askN n hand b g k ha else yieldAt n (askN n hand b g k ha) b g k
def ask (n : Nat) (ha : Ha) (hand b : Nat) (g : Bool) : Ha := askN n hand b g ha.own.length ha
def lookAt (n : Nat) (ha : Ha) (hand p : Nat) : Int × Ha := match ha.own[hand]? with
  | none => (0, ha)
  | some r => ((lookL (ops n) r.ru (r.ls (p / 4)) ha.t p).1, ⟨ha.own.set hand (r.put (p / 4) (lookL (ops n) r.ru (r.ls (p / 4)) ha.t p).2.1), (lookL (ops n) r.ru (r.ls (p / 4)) ha.t p).2.2⟩)
def changeAt (n : Nat) (ha : Ha) (hand p : Nat) (v : Int) : Ha := match ha.own[hand]? with
  | none => ha
  | some r => ⟨ha.own.set hand (r.put (p / 4) (changeL (ops n) r.ru (r.ls (p / 4)) ha.t p v).1), (changeL (ops n) r.ru (r.ls (p / 4)) ha.t p v).2⟩
def hLook (n : Nat) (ha : Ha) (hand p : Nat) : Int × Ha := lookAt n (ask n ha hand (p / 4) false) hand p
def hChange (n : Nat) (ha : Ha) (hand p : Nat) (v : Int) : Ha := changeAt n (ask n ha hand (p / 4) true) hand p v
section
variable {n m : Nat} {ha : Ha}
theorem HaOk.set (h : HaOk n m ha) {i : Nat} {r : Rm} {t : Ta} (hr : RmOk r) (ht : TaOk n t) : HaOk n m ⟨ha.own.set i r, t⟩ :=
  ⟨ht, by show (ha.own.set i r).length = m; rw [List.length_set]; exact h.len, fun r' hm => by
    rcases List.mem_or_eq_of_mem_set hm with hm | e
    · exact h.own r' hm
    · rw [e]
      exact hr, h.n2, h.m1, h.m3⟩
theorem g12 (h : n ≤ 2) : gOf n ≤ 12 := by
  match n, h with
  | 0, _ => decide
  | 1, _ => decide
  | 2, _ => decide
theorem yieldAt_ok (h : HaOk n m ha) {b : Nat} (hb : b < 16) (g : Bool) (i : Nat) : HaOk n m (yieldAt n ha b g i) ∧ (yieldAt n ha b g i).t.log.length ≤ ha.t.log.length + 13 := by
  unfold yieldAt
  cases e : ha.own[i]? with
  | none => exact ⟨h, by show ha.t.log.length ≤ _; omega⟩
  | some r =>
    have hr := h.own r (List.mem_of_getElem? e)
    obtain ⟨h1, h2, h3⟩ := yieldL_ok (ops_ok n) (hr.ls b) h.t hb (gone := g)
    have := g12 h.n2
    exact ⟨h.set (put_ok hr h1) h2, by show (yieldL (ops n) r.ru (r.ls b) ha.t b g).2.log.length ≤ _; omega⟩
theorem askN_ok (h : HaOk n m ha) {b : Nat} (hb : b < 16) (hand : Nat) (g : Bool) : ∀ k, HaOk n m (askN n hand b g k ha) ∧ (askN n hand b g k ha).t.log.length ≤ ha.t.log.length + 13 * k
  | 0 => ⟨h, Nat.le_refl _⟩
  | k + 1 => by
    obtain ⟨h1, h2⟩ := askN_ok h hb hand g k
    unfold askN
    split
    · exact ⟨h1, by omega⟩
    · obtain ⟨h3, h4⟩ := yieldAt_ok h1 hb g k
      exact ⟨h3, by omega⟩
theorem ask_ok (h : HaOk n m ha) {b : Nat} (hb : b < 16) (hand : Nat) (g : Bool) : HaOk n m (ask n ha hand b g) ∧ (ask n ha hand b g).t.log.length ≤ ha.t.log.length + 39 := by
  obtain ⟨h1, h2⟩ := askN_ok h hb hand g ha.own.length
  have := h.len
  have := h.m3
  exact ⟨h1, by show (askN n hand b g ha.own.length ha).t.log.length ≤ _; omega⟩
theorem lookAt_ok (h : HaOk n m ha) (hand : Nat) {p : Nat} (hp : p < 64) : HaOk n m (lookAt n ha hand p).2 ∧ (lookAt n ha hand p).2.t.log.length ≤ ha.t.log.length + 26 := by
  unfold lookAt
  cases e : ha.own[hand]? with
  | none => exact ⟨h, by show ha.t.log.length ≤ _; omega⟩
  | some r =>
    have hr := h.own r (List.mem_of_getElem? e)
    obtain ⟨h1, h2, h3⟩ := lookL_ok (ops_ok n) hr.ru (hr.ls (p / 4)) h.t hp
    have := g12 h.n2
    exact ⟨h.set (put_ok hr h1) h2, by show (lookL (ops n) r.ru (r.ls (p / 4)) ha.t p).2.2.log.length ≤ _; omega⟩
theorem changeAt_ok (h : HaOk n m ha) (hand : Nat) {p : Nat} (hp : p < 64) (v : Int) : HaOk n m (changeAt n ha hand p v) ∧ (changeAt n ha hand p v).t.log.length ≤ ha.t.log.length + 39 := by
  unfold changeAt
  cases e : ha.own[hand]? with
  | none => exact ⟨h, by show ha.t.log.length ≤ _; omega⟩
  | some r =>
    have hr := h.own r (List.mem_of_getElem? e)
    obtain ⟨h1, h2, h3⟩ := changeL_ok (v := v) (ops_ok n) hr.ru (hr.ls (p / 4)) h.t hp
    have := g12 h.n2
    exact ⟨h.set (put_ok hr h1) h2, by show (changeL (ops n) r.ru (r.ls (p / 4)) ha.t p v).2.log.length ≤ _; omega⟩
theorem hLook_ok (h : HaOk n m ha) (hand : Nat) {p : Nat} (hp : p < 64) : HaOk n m (hLook n ha hand p).2 ∧ (hLook n ha hand p).2.t.log.length ≤ ha.t.log.length + 100 := by
  obtain ⟨h1, h2⟩ := ask_ok h (show p / 4 < 16 by omega) hand false
  obtain ⟨h3, h4⟩ := lookAt_ok h1 hand hp
  exact ⟨h3, by show (lookAt n _ hand p).2.t.log.length ≤ _; omega⟩
theorem hChange_ok (h : HaOk n m ha) (hand : Nat) {p : Nat} (hp : p < 64) (v : Int) : HaOk n m (hChange n ha hand p v) ∧ (hChange n ha hand p v).t.log.length ≤ ha.t.log.length + 100 := by
  obtain ⟨h1, h2⟩ := ask_ok h (show p / 4 < 16 by omega) hand true
  obtain ⟨h3, h4⟩ := changeAt_ok h1 hand hp v
  exact ⟨h3, by show (changeAt n _ hand p v).t.log.length ≤ _; omega⟩
end
/-! ### promises of a hall -/
def LH (ha : Ha) : Prop := ha.t.log.length ≤ 900000
def spHNeed (K : PySem.W.Frag) : Sp := fun vs H Q _ => ∃ (A : HaA) (hand p : Nat) (R : List Cell), vs = [.ref A.x, .int hand, .int p] ∧ hand < A.owns.length ∧ p < 64 ∧ Own H (hallC K A ++ R) ∧ Q .non H
def spHAsk (K : PySem.W.Frag) : Sp := fun vs H Q _ => ∃ (A : HaA) (n m hand p : Nat) (g : Bool) (ha : Ha) (C R : List Cell), vs = [.ref A.x, .int hand, .int p, .bl g] ∧ p < 64 ∧ HaOk n m ha ∧ LH ha ∧ HallRepA K A ha C ∧ Own H (C ++ R) ∧
  ∀ (C' : List Cell) (H' : Hp), HallRepA K A (ask n ha hand (p / 4) g) C' → Own H' (C' ++ R) → Q .non H'
def spHLook (K : PySem.W.Frag) : Sp := fun vs H Q _ => ∃ (x : Addr) (n m hand p : Nat) (ha : Ha) (C R : List Cell), vs = [.ref x, .int hand, .int p] ∧ hand < m ∧ p < 64 ∧ HaOk n m ha ∧ LH ha ∧ HallRep K x ha C ∧ Own H (C ++ R) ∧
  ∀ (C' : List Cell) (H' : Hp), HallRep K x (hLook n ha hand p).2 C' → Own H' (C' ++ R) → Q (.int (hLook n ha hand p).1) H'
def spHChange (K : PySem.W.Frag) : Sp := fun vs H Q _ => ∃ (x : Addr) (n m hand p : Nat) (v : Int) (ha : Ha) (C R : List Cell), vs = [.ref x, .int hand, .int p, .int v] ∧ hand < m ∧ p < 64 ∧ 0 ≤ v ∧ v ≤ 999 ∧ HaOk n m ha ∧ LH ha ∧ HallRep K x ha C ∧ Own H (C ++ R) ∧
  ∀ (C' : List Cell) (H' : Hp), HallRep K x (hChange n ha hand p v) C' → Own H' (C' ++ R) → Q .non H'
def spHFar (K : PySem.W.Frag) : Sp := fun vs H Q _ => ∃ (x : Addr) (n m : Nat) (ha : Ha) (C R : List Cell), vs = [.ref x] ∧ HaOk n m ha ∧ HallRep K x ha C ∧ Own H (C ++ R) ∧
  ∀ (p : Addr) (H' : Hp), Own H' ((p, .lst (ha.t.far.map V.int)) :: (C ++ R)) → Q (.ref p) H'
/-- the room of a level, as a hand sees it -/
def roomAt (ha : Ha) (level hand : Nat) : Option Rm := if level = 0 then ha.own[hand]? else ha.t.rs[level - 1]?
def spHNear (K : PySem.W.Frag) : Sp := fun vs H Q _ => ∃ (x : Addr) (n m level hand : Nat) (ha : Ha) (r : Rm) (C R : List Cell), vs = [.ref x, .int level, .int hand] ∧ level ≤ n ∧ hand < m ∧ HaOk n m ha ∧ HallRep K x ha C ∧ roomAt ha level hand = some r ∧ Own H (C ++ R) ∧
  ∀ (p : Addr) (N : List Cell) (H' : Hp), DpL N (.ref p) (ssD r.ss) → Own H' (N ++ (C ++ R)) → Q (.ref p) H'
theorem Rep.rooms {CF CL CR di : Addr} : ∀ {be : Pa} {rs : List Rm} {far : List Int} {C : List Cell}, Rep CF CL CR di be rs far C → be.rooms.length = rs.length
  | .far _, [], _, _, _ => rfl
  | .far _, _ :: _, _, _, h => h.elim
  | .room _ _, [], _, _, h => h.elim
  | .room _ be, _ :: _, _, _, ⟨_, _, _, h, _⟩ => congrArg (· + 1) (Rep.rooms h)
theorem Rep.at {CF CL CR di : Addr} : ∀ {be : Pa} {rs : List Rm} {far : List Int} {C : List Cell} {j : Nat} {r : Rm}, Rep CF CL CR di be rs far C → rs[j]? = some r → ∃ (a : Addr) (be' : Pa) (C1 Z : List Cell), be.rooms[j]? = some a ∧ RmRep CL CR di a be' r C1 ∧ C.Perm (C1 ++ Z)
  | .far _, [], _, _, j, r, _, e => by simp at e
  | .far _, _ :: _, _, _, _, _, h, _ => h.elim
  | .room _ _, [], _, _, _, _, h, _ => h.elim
  | .room a be, q :: rs, _, _, 0, r, ⟨C1, C2, h1, h2, e⟩, e0 => by
    have eq : q = r := by simpa using e0
    subst eq
    exact ⟨a, be, C1, C2, rfl, h1, by rw [e]⟩
  | .room a be, q :: rs, _, _, j + 1, r, ⟨C1, C2, h1, h2, e⟩, e0 => by
    obtain ⟨a', be', D1, Z, g1, g2, g3⟩ := Rep.at (j := j) (r := r) h2 (by simpa using e0)
    refine ⟨a', be', D1, C1 ++ Z, by simpa [Pa.rooms] using g1, g2, ?_⟩
    rw [e]
    refine (List.Perm.append_left _ g3).trans ?_
    walk_at "perm"
theorem Rep.last {CF CL CR di : Addr} : ∀ {be : Pa} {rs : List Rm} {far : List Int} {C : List Cell}, Rep CF CL CR di be rs far C → ∃ (dx fl : Addr) (Z : List Cell), C.Perm ((be.last, .ins CF dx (fFar (.ref fl))) :: (fl, .lst (far.map V.int)) :: Z)
  | .far _, [], _, _, ⟨dx, fl, e⟩ => ⟨dx, fl, [], by rw [e]; exact List.Perm.refl _⟩
  | .far _, _ :: _, _, _, h => h.elim
  | .room _ _, [], _, _, h => h.elim
  | .room _ be, _ :: _, _, _, ⟨C1, C2, _, h, e⟩ => by
    obtain ⟨dx, fl, Z, g⟩ := Rep.last h
    refine ⟨dx, fl, C1 ++ Z, ?_⟩
    rw [e]
    refine (List.Perm.append_left _ g).trans ?_
    show (C1 ++ ((be.last, _) :: _ :: Z)).Perm ((be.last, _) :: _ :: (C1 ++ Z))
    walk_at "perm"
section
variable {P : Program} {w : World} {K : PySem.W.Frag} {mg : Str → Option Value} {base : Heap} {n lv : Nat}
theorem HallRepA.own {A : HaA} {ha : Ha} {C : List Cell} (h : HallRepA K A ha C) : A.owns.length = ha.own.length := by
  obtain ⟨Co, Cb, D, h1, _⟩ := h
  exact h1.len
/-- one own room taken out: what a step of it asks, and what it leaves -/
theorem HallRepA.at {A : HaA} {ha : Ha} {C R : List Cell} {H : Hp} {n m i : Nat} {r : Rm} (h : HallRepA K A ha C) (hk : HaOk n m ha) (hl : ha.t.log.length ≤ 999000) (e : ha.own[i]? = some r) (O : Own H (C ++ R)) :
    ∃ (a : Addr) (C1 Cb D R' : List Cell), A.owns[i]? = some a ∧ RPre K n H A.di a A.sh r ha.t C1 Cb D (hallC K A ++ R') ∧
      ∀ (r' : Rm) (t' : Ta) (H' : Hp), RPost K A.di a A.sh (hallC K A ++ R') r' t' H' → ∃ C', HallRepA K A ⟨ha.own.set i r', t'⟩ C' ∧ Own H' (C' ++ R) := by
  obtain ⟨Co, Cb, D, h1, h2, h3, rfl⟩ := h
  obtain ⟨a, C1, Z, g1, g2, g3, g4⟩ := h1.at e
  refine ⟨a, C1, Cb, D, Z ++ R, g1, ⟨hk.own r (List.mem_of_getElem? e), hk.t, ⟨by have := hk.n2; omega, ?_⟩, g2, h2, h3, O.perm ?_⟩, fun r' t' H' hp => ?_⟩
  · have := hk.n2
    omega
  · refine (List.Perm.append_right R (List.Perm.append_left (hallC K A) (List.Perm.append_right (Cb ++ D) g3))).trans ?_
    walk_at "perm"
  · obtain ⟨C1', Cb', D', k1, k2, k3, O'⟩ := hp
    obtain ⟨C', j1, j2⟩ := g4 r' C1' k1
    refine ⟨hallC K A ++ (C' ++ (Cb' ++ D')), ⟨C', Cb', D', j1, k2, k3, rfl⟩, O'.perm ?_⟩
    refine List.Perm.trans ?_ (List.Perm.append_right R (List.Perm.append_left (hallC K A) (List.Perm.append_right (Cb' ++ D') j2))).symm
    walk_at "perm"
theorem room_obj {A : HaA} {a : Addr} {be : Pa} {r : Rm} {C1 : List Cell} (h : RmRepK K A.di a be r C1) : ∃ (dx : Addr) (w bk inn lt b ti di ss : V), (a, HO.ins (cR K) dx (fRoom w bk inn lt b ti di ss)) ∈ C1 := by
  obtain ⟨hdr, ssr, ea, _, _, _, _, _, eD1⟩ := h
  rw [← ea, eD1]
  exact ⟨_, _, _, _, _, _, _, _, _, List.mem_append_left _ List.mem_cons_self⟩
end
-- WwJ
/-! ### the law's draws -/
def spRule (K : PySem.W.Frag) : Sp := fun vs H Q _ => ∃ (rw : Addr) (S : List Cell) (c : Cell) (R : List Cell), vs = [.ref rw] ∧ RowC K rw S c ∧ Own H (c :: (S ++ R)) ∧
  ∀ (u : Rul) (p : Addr) (c' : Cell) (H' : Hp), RulOk u → RowC K rw S c' → Own H' (c' :: (S ++ ((p, .tup u.vs) :: R))) → Q (.ref p) H'
def spRules (K : PySem.W.Frag) : Sp := fun vs H Q _ => ∃ (rw : Addr) (S : List Cell) (c : Cell) (R : List Cell), vs = [.ref rw] ∧ RowC K rw S c ∧ Own H (c :: (S ++ R)) ∧
  ∀ (us : List Rul) (p : Addr) (N : List Cell) (c' : Cell) (H' : Hp), RulesOk us → RulesAt N p us → RowC K rw S c' → Own H' (c' :: (S ++ (N ++ R))) → Q (.ref p) H'
def spPlace (K : PySem.W.Frag) : Sp := fun vs H Q _ => ∃ (rw : Addr) (S : List Cell) (c : Cell) (most : Int) (R : List Cell), vs = [.ref rw, .int most] ∧ 0 < most ∧ most ≤ 64 ∧ RowC K rw S c ∧ Own H (c :: (S ++ R)) ∧
  ∀ (v : Int) (c' : Cell) (H' : Hp), 0 ≤ v → v < 64 → RowC K rw S c' → Own H' (c' :: (S ++ R)) → Q (.int v) H'
inductive Deed where
  | look (h p : Nat)
  | set (h p : Nat) (v : Int)
def Deed.vs : Deed → List V
  | .look h p => [.str "look", .int h, .int p]
  | .set h p v => [.str "set", .int h, .int p, .int v]
def Deed.ok (m : Nat) : Deed → Prop
  | .look h p => h < m ∧ p < 64
  | .set h p v => h < m ∧ p < 64 ∧ 0 ≤ v ∧ v ≤ 999
def Deed.h : Deed → Nat
  | .look h _ => h
  | .set h _ _ => h
def Deed.p : Deed → Nat
  | .look _ p => p
  | .set _ p _ => p
theorem RA.app {R : List Cell} : ∀ {as bs : List Addr} {us vs : List Rul}, RA R as us → RA R bs vs → RA R (as ++ bs) (us ++ vs)
  | [], _, [], _, _, k => k
  | [], _, _ :: _, _, h, _ => h.elim
  | _ :: _, _, [], _, h, _ => h.elim
  | _ :: _, _, _ :: _, _, h, k => ⟨h.1, RA.app h.2 k⟩
def DeedsAt (N : List Cell) (p : Addr) (ds : List Deed) : Prop := ∃ as : List Addr, (p, HO.lst (as.map V.ref)) ∈ N ∧ TA N as (ds.map Deed.vs)
def spDeeds (K : PySem.W.Frag) : Sp := fun vs H Q _ => ∃ (rw : Addr) (S : List Cell) (c : Cell) (m most : Nat) (R : List Cell), vs = [.ref rw, .int m, .int most] ∧ 1 ≤ m ∧ m ≤ 3 ∧ most ≤ 200 ∧ RowC K rw S c ∧ Own H (c :: (S ++ R)) ∧
  ∀ (ds : List Deed) (p : Addr) (N : List Cell) (c' : Cell) (H' : Hp), (∀ d ∈ ds, d.ok m) → ds.length ≤ most → DeedsAt N p ds → RowC K rw S c' → Own H' (c' :: (S ++ (N ++ R))) → Q (.ref p) H'
def doDeed (n : Nat) (ha : Ha) : Deed → V × Ha
  | .look h p => (.int (hLook n ha h p).1, (hLook n ha h p).2)
  | .set h p v => (.non, hChange n ha h p v)
theorem doDeed_ok {n m : Nat} {ha : Ha} (h : HaOk n m ha) {d : Deed} (hd : d.ok m) : HaOk n m (doDeed n ha d).2 ∧ (doDeed n ha d).2.t.log.length ≤ ha.t.log.length + 100 := by
  cases d with
  | look hh p => exact hLook_ok h hh hd.2
  | set hh p v => exact hChange_ok h hh hd.2.1 v
def spUse (K : PySem.W.Frag) : Sp := fun vs H Q _ => ∃ (x da : Addr) (n m : Nat) (d : Deed) (ha : Ha) (C R : List Cell), vs = [.ref x, .ref da] ∧ d.ok m ∧ (da, HO.tup d.vs) ∈ R ∧ HaOk n m ha ∧ LH ha ∧ HallRep K x ha C ∧ Own H (C ++ R) ∧
  ∀ (C' : List Cell) (H' : Hp), HallRep K x (doDeed n ha d).2 C' → Own H' (C' ++ R) → Q (doDeed n ha d).1 H'
section
variable {P : Program} {w : World} {K : PySem.W.Frag} {mg : Str → Option Value} {base : Heap} {n lv : Nat}
end
-- WwCoh
/-! ### what a room's lines tell -/
def lnOf (c : Nat) : List Ln → Option Ln
  | [] => none
  | l :: r => if l.b = c then some l else lnOf c r
theorem lnOf_mem {c : Nat} : ∀ {ls : List Ln} {l : Ln}, lnOf c ls = some l → l ∈ ls ∧ l.b = c
  | [], l, h => by cases h
  | a :: r, l, h => by
    unfold lnOf at h
    by_cases e : a.b = c
    · rw [if_pos e] at h
      cases h
      exact ⟨List.mem_cons_self, e⟩
    · rw [if_neg e] at h
      obtain ⟨h1, h2⟩ := lnOf_mem h
      exact ⟨List.mem_cons_of_mem _ h1, h2⟩
theorem lnOf_none {c : Nat} : ∀ {ls : List Ln}, lnOf c ls = none → ∀ l ∈ ls, l.b ≠ c
  | [], _, l, hl => by cases hl
  | a :: r, h, l, hl => by
    unfold lnOf at h
    by_cases e : a.b = c
    · rw [if_pos e] at h
      cases h
    · rw [if_neg e] at h
      rcases List.mem_cons.mp hl with e' | hm
      · rw [e']
        exact e
      · exact lnOf_none h l hm
theorem lnOf_iff {c : Nat} : ∀ {ls : List Ln} {l : Ln}, (ls.map (·.b)).Nodup → l ∈ ls → l.b = c → lnOf c ls = some l
  | [], l, _, hl, _ => by cases hl
  | a :: r, l, hn, hl, e => by
    rw [List.map_cons] at hn
    obtain ⟨h1, h2⟩ := List.nodup_cons.mp hn
    unfold lnOf
    rcases List.mem_cons.mp hl with e' | hm
    · rw [← e', if_pos e]
    · have : a.b ≠ c := fun z => h1 (List.mem_map.mpr ⟨l, hm, by rw [e, z]⟩)
      rw [if_neg this]
      exact lnOf_iff h2 hm e
theorem lnOf_no {c : Nat} {ls : List Ln} (h : ∀ l ∈ ls, l.b ≠ c) : lnOf c ls = none := by
  cases e : lnOf c ls with
  | none => rfl
  | some l =>
    obtain ⟨h1, h2⟩ := lnOf_mem e
    exact absurd h2 (h l h1)
theorem fnd_lnOf {c : Nat} {ls : List Ln} {i : Nat} {l : Ln} (h : fnd c ls = some i) (hl : ls[i]? = some l) : lnOf c ls = some l := by
  induction ls generalizing i with
  | nil => simp at hl
  | cons a r ih =>
    unfold fnd at h
    unfold lnOf
    by_cases e : a.b = c
    · rw [if_pos e] at h ⊢
      cases h
      simpa using hl
    · rw [if_neg e] at h ⊢
      cases hr : fnd c r with
      | none =>
        rw [hr] at h
        cases h
      | some j =>
        rw [hr] at h
        have : j + 1 = i := Option.some.inj h
        subst this
        exact ih hr (by simpa using hl)
/-- one set: each block once, and in its own set -/
structure SetW (s k : Nat) (ls : List Ln) : Prop where
  nd : (ls.map (·.b)).Nodup
  ix : ∀ l ∈ ls, l.b % s = k
def effS (ls : List Ln) (e : Nat → List Int) (c : Nat) : List Int := match lnOf c ls with
  | some l => l.ns
  | none => e c
/-- clean lines have what is behind -/
def Cln (ls : List Ln) (e : Nat → List Int) : Prop := ∀ l ∈ ls, l.d = false → l.ns = e l.b
def effC : List Rm → List Int → Nat → List Int
  | [], far, c => getBlk far c
  | r :: rs, far, c => effS (r.ls c) (effC rs far) c
def RmW (r : Rm) : Prop := ∀ k ls, r.ss[k]? = some ls → SetW r.ss.length k ls
def ChW : List Rm → List Int → Prop
  | [], _ => True
  | r :: rs, far => RmW r ∧ (∀ ls ∈ r.ss, Cln ls (effC rs far) ∧ (r.ru.bk = false → ∀ l ∈ ls, l.d = false)) ∧ ChW rs far
abbrev eff (t : Ta) : Nat → List Int := effC t.rs t.far
abbrev TaW (t : Ta) : Prop := ChW t.rs t.far
structure OpsC (n : Nat) (o : Ops) : Prop where
  hm : ∀ t b ns, TaOk n t → TaW t → b < 16 → ns.length = 4 → TaW (o.hm t b ns) ∧ ∀ c, eff (o.hm t b ns) c = if c = b then ns else eff t c
  br : ∀ t b, TaOk n t → TaW t → b < 16 → (o.br t b).1 = eff t b ∧ TaW (o.br t b).2 ∧ ∀ c, eff (o.br t b).2 c = eff t c
  ch : ∀ t p v, TaOk n t → TaW t → p < 64 → TaW (o.ch t p v) ∧ ∀ c, eff (o.ch t p v) c = if c = p / 4 then (eff t c).set (p % 4) v else eff t c
/-- what one step of a set's lines leaves: b the block, f what becomes of its numbers -/
structure Sem (s k : Nat) (ls : List Ln) (t : Ta) (ls' : List Ln) (t' : Ta) (b : Nat) (f : List Int → List Int) : Prop where
  w : SetW s k ls'
  cln : Cln ls' (eff t')
  tw : TaW t'
  out : ∀ c, c % s ≠ k → eff t' c = eff t c
  ef : ∀ c, c % s = k → effS ls' (eff t') c = if c = b then f (effS ls (eff t) b) else effS ls (eff t) c
  dom : ∀ l' ∈ ls', l'.b = b ∨ ∃ l ∈ ls, l.b = l'.b ∧ (l'.d = true → l.d = true)
section
variable {n : Nat} {o : Ops} {u : Ru} {s k : Nat} {ls : List Ln} {t : Ta}
theorem effS_mem (w : SetW s k ls) {l : Ln} (h : l ∈ ls) (e : Nat → List Int) : effS ls e l.b = l.ns := by
  unfold effS
  rw [lnOf_iff w.nd h rfl]
theorem effS_no {c : Nat} (h : ∀ l ∈ ls, l.b ≠ c) (e : Nat → List Int) : effS ls e c = e c := by
  unfold effS
  rw [lnOf_no h]
/-- two sets of lines tell the same of c -/
theorem effS_same {ls' : List Ln} {e e' : Nat → List Int} {c : Nat} (h : lnOf c ls' = lnOf c ls) (he : lnOf c ls = none → e' c = e c) : effS ls' e' c = effS ls e c := by
  unfold effS
  rw [h]
  cases q : lnOf c ls with
  | some l => rfl
  | none => exact he q
theorem SetW.tail {l : Ln} {r : List Ln} (w : SetW s k (l :: r)) : SetW s k r := ⟨(List.nodup_cons.mp (by simpa using w.nd)).2, fun l' hm => w.ix l' (List.mem_cons_of_mem _ hm)⟩
theorem SetW.head {l : Ln} {r : List Ln} (w : SetW s k (l :: r)) : ∀ l' ∈ r, l'.b ≠ l.b := fun l' hm e => by
  have h := w.nd
  rw [List.map_cons] at h
  exact (List.nodup_cons.mp h).1 (List.mem_map.mpr ⟨l', hm, e⟩)
/-- a dirty line goes home, and nothing else changes -/
theorem passH_eff (O : OpsC n o) (h : TaOk n t) (hw : TaW t) {tl : List V} {b : Nat} (hb : b < 16) {ns : List Int} (hn : ns.length = 4) : TaW (passH o tl t b ns) ∧ ∀ c, eff (passH o tl t b ns) c = if c = b then ns else eff t c := O.hm _ b ns (note_ok h tl "home" b) hw hb hn
theorem passC_eff (O : OpsC n o) (h : TaOk n t) (hw : TaW t) {tl : List V} {p : Nat} (hp : p < 64) {v : Int} : TaW (passC o tl t p v) ∧ ∀ c, eff (passC o tl t p v) c = if c = p / 4 then (eff t c).set (p % 4) v else eff t c := O.ch _ p v (note_ok h tl "cell" p) hw hp
/-- make_way: nothing that is told changes -/
theorem mkWay_sem (O : OpsC n o) (w : SetW s k ls) (hl : LsOk u ls) (hc : Cln ls (eff t)) (h : TaOk n t) (hw : TaW t) :
    SetW s k (mkWay o u ls t).1 ∧ Cln (mkWay o u ls t).1 (eff (mkWay o u ls t).2) ∧ TaW (mkWay o u ls t).2 ∧ (∀ c, c % s ≠ k → eff (mkWay o u ls t).2 c = eff t c) ∧ (∀ c, effS (mkWay o u ls t).1 (eff (mkWay o u ls t).2) c = effS ls (eff t) c) ∧ ∀ l ∈ (mkWay o u ls t).1, l ∈ ls := by
  unfold mkWay
  split
  · cases ls with
    | nil => exact ⟨w, hc, hw, fun _ _ => rfl, fun _ => rfl, fun _ h => h⟩
    | cons l rest =>
      have hlo := hl.ok l List.mem_cons_self
      have hd : ∀ l' ∈ rest, l'.b ≠ l.b := w.head
      -- what is behind tells l's numbers then
      have key : ∀ t' : Ta, (∀ c, eff t' c = if c = l.b then l.ns else eff t c) → TaW t' →
          SetW s k rest ∧ Cln rest (eff t') ∧ TaW t' ∧ (∀ c, c % s ≠ k → eff t' c = eff t c) ∧ (∀ c, effS rest (eff t') c = effS (l :: rest) (eff t) c) ∧ ∀ l' ∈ rest, l' ∈ l :: rest := by
        intro t' he hw'
        refine ⟨w.tail, fun l' hm hd' => ?_, hw', fun c hcs => ?_, fun c => ?_, fun l' hm => List.mem_cons_of_mem _ hm⟩
        · rw [he, if_neg (hd l' hm)]
          exact hc l' (List.mem_cons_of_mem _ hm) hd'
        · rw [he, if_neg]
          intro e
          rw [e] at hcs
          exact hcs (w.ix l List.mem_cons_self)
        · by_cases e : c = l.b
          · subst e
            rw [effS_no hd, he, if_pos rfl, effS_mem w List.mem_cons_self]
          · refine effS_same ?_ fun _ => by rw [he, if_neg e]
            show _ = (if l.b = c then some l else lnOf c rest)
            rw [if_neg (Ne.symm e)]
      dsimp only
      split
      · obtain ⟨p1, p2⟩ := passH_eff (tl := u.tl) O h hw hlo.b hlo.ns
        exact key _ p2 p1
      · rename_i hdf
        refine key t (fun c => ?_) hw
        split
        · rename_i e
          rw [e]
          exact (hc l List.mem_cons_self (by simpa using hdf)).symm
        · rfl
  · exact ⟨w, hc, hw, fun _ _ => rfl, fun _ => rfl, fun _ h => h⟩
theorem SetW.perm {ls' : List Ln} (w : SetW s k ls) (p : ls'.Perm ls) : SetW s k ls' := ⟨((p.map _).nodup_iff).mpr w.nd, fun l hm => w.ix l (p.mem_iff.mp hm)⟩
theorem lnOf_perm {ls' : List Ln} (w : SetW s k ls) (p : ls'.Perm ls) (c : Nat) : lnOf c ls' = lnOf c ls := by
  cases e : lnOf c ls with
  | none => exact lnOf_no fun l hm => lnOf_none e l (p.mem_iff.mp hm)
  | some l =>
    obtain ⟨h1, h2⟩ := lnOf_mem e
    exact lnOf_iff (w.perm p).nd (p.mem_iff.mpr h1) h2
theorem perm_erase {α : Type} : ∀ {ls : List α} {i : Nat} (h : i < ls.length), (ls[i] :: ls.eraseIdx i).Perm ls
  | [], i, h => by simp at h
  | a :: r, 0, h => List.Perm.refl _
  | a :: r, i + 1, h => by
    have ih := perm_erase (ls := r) (i := i) (by simpa using h)
    show (r[i]'(by simpa using h) :: a :: r.eraseIdx i).Perm (a :: r)
    exact (List.Perm.swap ..).trans (ih.cons a)
theorem touch_perm {lt : Bool} {i : Nat} (h : i < ls.length) : (touchL lt ls i).Perm ls := by
  unfold touchL
  split
  · rw [List.getElem?_eq_getElem h]
    show (ls.eraseIdx i ++ [ls[i]]).Perm ls
    have := perm_erase h
    exact (List.perm_append_comm (l₁ := ls.eraseIdx i) (l₂ := [ls[i]])).trans this
  · exact List.Perm.refl _
theorem reach_sem (O : OpsC n o) (Ok : OpsOk n (gOf n) o) (hu : RuOk u) (w : SetW s k ls) (hl : LsOk u ls) (hc : Cln ls (eff t)) (h : TaOk n t) (hw : TaW t) {b : Nat} (hb : b < 16) (hbk : b % s = k) :
    Sem s k ls t (reachL o u ls t b).1 (reachL o u ls t b).2.1 b (fun x => x) ∧ (∀ l' ∈ (reachL o u ls t b).1, l'.d = true → ∃ l ∈ ls, l.b = l'.b ∧ l.d = true) ∧
      (∀ l, (reachL o u ls t b).1[(reachL o u ls t b).2.2]? = some l → l.b = b ∧ l.ns = effS ls (eff t) b) := by
  cases e : fnd b ls with
  | some i =>
    have e1 : reachL o u ls t b = (touchL u.lt ls i, t, touchI u.lt ls i) := by
      unfold reachL
      rw [e]
    rw [e1]
    have hi := fnd_lt e
    have p : (touchL u.lt ls i).Perm ls := touch_perm hi
    have hm := fun l (q : l ∈ touchL u.lt ls i) => p.mem_iff.mp q
    refine ⟨⟨w.perm p, fun l hq => hc l (hm l hq), hw, fun _ _ => rfl, fun c _ => ?_, fun l' hq => .inr ⟨l', hm l' hq, rfl, fun z => z⟩⟩, fun l' hq hd => ⟨l', hm l' hq, rfl, hd⟩, fun l hlg => ?_⟩
    · have : effS (touchL u.lt ls i) (eff t) c = effS ls (eff t) c := effS_same (lnOf_perm w p c) fun _ => rfl
      rw [this]
      split
      · rename_i q
        rw [q]
      · rfl
    · have hlg : (touchL u.lt ls i)[touchI u.lt ls i]? = some l := hlg
      rw [touch_get hi] at hlg
      obtain ⟨l2, g1, g2, _⟩ := fnd_some e
      rw [hlg] at g1
      cases g1
      refine ⟨g2, ?_⟩
      rw [← g2]
      exact (effS_mem w (List.mem_of_getElem? hlg) _).symm
  | none =>
    have e1 : reachL o u ls t b = ((mkWay o u ls t).1 ++ [⟨b, (o.br ((mkWay o u ls t).2.note u.tl "bring" b) b).1, false⟩], (o.br ((mkWay o u ls t).2.note u.tl "bring" b) b).2, (mkWay o u ls t).1.length) := by
      unfold reachL
      rw [e]
    rw [e1]
    obtain ⟨m1, m2, m3, m4, m5, m6⟩ := mkWay_sem (u := u) O w hl hc h hw
    obtain ⟨k1, k2, k3, k4⟩ := mkWay_ok Ok hu hl h
    have hno : ∀ l ∈ (mkWay o u ls t).1, l.b ≠ b := fun l hq => fnd_none e l (m6 l hq)
    obtain ⟨b1, b2, b3⟩ := O.br _ b (note_ok k2 u.tl "bring" b) (show TaW ((mkWay o u ls t).2.note u.tl "bring" b) from m3) hb
    have b1 : (o.br ((mkWay o u ls t).2.note u.tl "bring" b) b).1 = eff (mkWay o u ls t).2 b := b1
    have b3 : ∀ c, eff (o.br ((mkWay o u ls t).2.note u.tl "bring" b) b).2 c = eff (mkWay o u ls t).2 c := b3
    generalize o.br ((mkWay o u ls t).2.note u.tl "bring" b) b = br at *
    generalize mkWay o u ls t = mw at *
    have hval : br.1 = effS ls (eff t) b := by rw [b1, ← m5 b, effS_no hno]
    have w' : SetW s k (mw.1 ++ [⟨b, br.1, false⟩]) := by
      refine ⟨?_, fun l hq => ?_⟩
      · rw [List.map_append]
        refine List.nodup_append.mpr ⟨m1.nd, by simp, fun x hx y hy => ?_⟩
        obtain ⟨l, hq, rfl⟩ := List.mem_map.mp hx
        have : y = b := by simpa using hy
        rw [this]
        exact hno l hq
      · rcases List.mem_append.mp hq with hq | hq
        · exact m1.ix l hq
        · rw [List.mem_singleton.mp hq]
          exact hbk
    refine ⟨⟨w', fun l hq hd => ?_, b2, fun c hcs => ?_, fun c hcs => ?_, fun l' hq => ?_⟩, fun l' hq hd => ?_, fun l hlg => ?_⟩
    · rw [b3]
      rcases List.mem_append.mp hq with hq | hq
      · exact m2 l hq hd
      · rw [List.mem_singleton.mp hq]
        exact b1
    · rw [b3]
      exact m4 c hcs
    · by_cases ec : c = b
      · rw [if_pos ec]
        subst ec
        have := effS_mem w' (l := ⟨c, br.1, false⟩) (by simp) (eff br.2)
        rw [← hval]
        exact this
      · rw [if_neg ec, ← m5 c]
        refine effS_same ?_ fun _ => b3 c
        cases q : lnOf c mw.1 with
        | none =>
          refine lnOf_no fun l hq => ?_
          rcases List.mem_append.mp hq with hq | hq
          · exact lnOf_none q l hq
          · rw [List.mem_singleton.mp hq]
            exact Ne.symm ec
        | some l =>
          obtain ⟨g1, g2⟩ := lnOf_mem q
          exact lnOf_iff w'.nd (List.mem_append_left _ g1) g2
    · rcases List.mem_append.mp hq with hq | hq
      · exact .inr ⟨l', m6 l' hq, rfl, fun z => z⟩
      · rw [List.mem_singleton.mp hq]
        exact .inl rfl
    · rcases List.mem_append.mp hq with hq | hq
      · exact ⟨l', m6 l' hq, rfl, hd⟩
      · rw [List.mem_singleton.mp hq] at hd
        cases hd
    · have hlg : (mw.1 ++ [(⟨b, br.1, false⟩ : Ln)])[mw.1.length]? = some l := hlg
      rw [List.getElem?_append_right (Nat.le_refl _), Nat.sub_self] at hlg
      have : l = ⟨b, br.1, false⟩ := by simpa using hlg.symm
      rw [this]
      exact ⟨rfl, hval⟩
/-- one line is changed in its place: x has the same block -/
theorem set_w (w : SetW s k ls) {i : Nat} {l x : Ln} (hi : ls[i]? = some l) (hx : x.b = l.b) : SetW s k (ls.set i x) := by
  have hlt : i < ls.length := (List.getElem?_eq_some_iff.mp hi).1
  have em : (ls.set i x).map (·.b) = ls.map (·.b) := by
    rw [List.map_set]
    apply List.ext_getElem?
    intro j
    by_cases e : i = j
    · subst e
      rw [List.getElem?_set_self (by rw [List.length_map]; exact hlt), List.getElem?_map, hi, hx]
      rfl
    · rw [List.getElem?_set_ne e]
  refine ⟨by rw [em]; exact w.nd, fun l' hm => ?_⟩
  rcases List.mem_or_eq_of_mem_set hm with hm | e
  · exact w.ix l' hm
  · rw [e, hx]
    exact w.ix l (List.mem_of_getElem? hi)
theorem set_mem {i : Nat} {l x l' : Ln} (w : SetW s k ls) (hi : ls[i]? = some l) (hx : x.b = l.b) (h : l' ∈ ls.set i x) : l' = x ∨ (l' ∈ ls ∧ l'.b ≠ l.b) := by
  have hlt : i < ls.length := (List.getElem?_eq_some_iff.mp hi).1
  have w' := set_w w hi hx
  have hxm : x ∈ ls.set i x := List.mem_of_getElem? (List.getElem?_set_self hlt)
  by_cases e : l'.b = l.b
  · left
    have h1 := lnOf_iff w'.nd h e
    have h2 := lnOf_iff w'.nd hxm hx
    rw [h1] at h2
    exact Option.some.inj h2
  · right
    rcases List.mem_or_eq_of_mem_set h with hm | e2
    · exact ⟨hm, e⟩
    · exact absurd (by rw [e2, hx]) e
theorem set_other {i : Nat} {l x : Ln} {c : Nat} (w : SetW s k ls) (hi : ls[i]? = some l) (hx : x.b = l.b) (hc : c ≠ l.b) : lnOf c (ls.set i x) = lnOf c ls := by
  have w' := set_w w hi hx
  cases q : lnOf c ls with
  | none =>
    refine lnOf_no fun l' hm => ?_
    rcases set_mem w hi hx hm with e | ⟨hm, _⟩
    · rw [e, hx]
      exact Ne.symm hc
    · exact lnOf_none q l' hm
  | some l' =>
    obtain ⟨g1, g2⟩ := lnOf_mem q
    refine lnOf_iff w'.nd ?_ g2
    obtain ⟨j, hj, ej⟩ := List.mem_iff_getElem.mp g1
    have : i ≠ j := fun z => by
      subst z
      rw [List.getElem?_eq_getElem hj, ej] at hi
      cases hi
      exact hc g2.symm
    exact List.mem_of_getElem? (i := j) (by rw [List.getElem?_set_ne this, List.getElem?_eq_getElem hj, ej])
/-- a line of block b gets other numbers; what is behind agrees with it unless it is dirty -/
theorem set_sem {i : Nat} {l x : Ln} {t' : Ta} (w : SetW s k ls) (hi : ls[i]? = some l) (hx : x.b = l.b) (hc : Cln ls (eff t)) (hw' : TaW t') (he : ∀ c, c ≠ l.b → eff t' c = eff t c) (hcx : x.d = false → x.ns = eff t' l.b) :
    SetW s k (ls.set i x) ∧ Cln (ls.set i x) (eff t') ∧ (∀ c, effS (ls.set i x) (eff t') c = if c = l.b then x.ns else effS ls (eff t) c) := by
  have w' := set_w w hi hx
  have hlt : i < ls.length := (List.getElem?_eq_some_iff.mp hi).1
  have hxm : x ∈ ls.set i x := List.mem_of_getElem? (List.getElem?_set_self hlt)
  refine ⟨w', fun l' hm hd => ?_, fun c => ?_⟩
  · rcases set_mem w hi hx hm with e | ⟨hm, hne⟩
    · rw [e, hx]
      exact hcx (by rw [← e]; exact hd)
    · rw [he _ hne]
      exact hc l' hm hd
  · by_cases ec : c = l.b
    · rw [if_pos ec, ec, ← hx]
      exact effS_mem w' hxm _
    · rw [if_neg ec]
      exact effS_same (set_other w hi hx ec) fun _ => he c ec
theorem change_sem (O : OpsC n o) (Ok : OpsOk n (gOf n) o) (hu : RuOk u) (w : SetW s k ls) (hl : LsOk u ls) (hc : Cln ls (eff t)) (h : TaOk n t) (hw : TaW t) {p : Nat} (hp : p < 64) (hbk : (p / 4) % s = k) (v : Int) (hdt : u.bk = false → ∀ l ∈ ls, l.d = false) :
    Sem s k ls t (changeL o u ls t p v).1 (changeL o u ls t p v).2 (p / 4) (fun x => x.set (p % 4) v) ∧ (u.bk = false → ∀ l ∈ (changeL o u ls t p v).1, l.d = false) := by
  have hb : p / 4 < 16 := by omega
  unfold changeL
  split
  · rename_i hin
    obtain ⟨q1, q2⟩ := passC_eff (tl := u.tl) (v := v) O h hw hp
    have hno := fnd_none hin.2
    refine ⟨⟨w, fun l hm hd => ?_, q1, fun c hcs => ?_, fun c hcs => ?_, fun l' hm => .inr ⟨l', hm, rfl, fun z => z⟩⟩, hdt⟩
    · rw [q2, if_neg (hno l hm)]
      exact hc l hm hd
    · rw [q2, if_neg]
      intro e
      rw [e] at hcs
      exact hcs hbk
    · by_cases ec : c = p / 4
      · rw [if_pos ec, ec, effS_no hno, effS_no hno, q2, if_pos rfl]
      · rw [if_neg ec]
        exact effS_same rfl fun _ => by rw [q2, if_neg ec]
  · obtain ⟨S, hdirt, hat⟩ := reach_sem O Ok hu w hl hc h hw hb hbk
    obtain ⟨r1, r2, ⟨l, hlg, hlb, hlo⟩, r4⟩ := reachL_ok Ok hu hl h hb
    obtain ⟨_, hlns⟩ := hat l hlg
    rw [lnAt_get hlg]
    generalize reachL o u ls t (p / 4) = rr at *
    have hx : (setCell u.bk l p v).b = l.b := rfl
    have ef0 : ∀ c, c % s = k → effS rr.1 (eff rr.2.1) c = effS ls (eff t) c := fun c hcs => by
      rw [S.ef c hcs]
      split
      · rename_i q
        rw [q]
      · rfl
    have hdl : u.bk = false → l.d = false := fun hb' => by
      cases hd : l.d with
      | false => rfl
      | true =>
        obtain ⟨l0, g1, _, g3⟩ := hdirt l (List.mem_of_getElem? hlg) hd
        rw [hdt hb' l0 g1] at g3
        cases g3
    have fin : ∀ t' : Ta, TaW t' → (∀ c, c ≠ l.b → eff t' c = eff rr.2.1 c) → ((setCell u.bk l p v).d = false → (setCell u.bk l p v).ns = eff t' l.b) →
        Sem s k ls t (rr.1.set rr.2.2 (setCell u.bk l p v)) t' (p / 4) (fun x => x.set (p % 4) v) ∧ (u.bk = false → ∀ l' ∈ rr.1.set rr.2.2 (setCell u.bk l p v), l'.d = false) := by
      intro t' hw' he hcx
      obtain ⟨s1, s2, s3⟩ := set_sem S.w hlg hx S.cln hw' he hcx
      refine ⟨⟨s1, s2, hw', fun c hcs => ?_, fun c hcs => ?_, fun l' hm => ?_⟩, fun hb' l' hm => ?_⟩
      · rw [he c, S.out c hcs]
        intro e
        rw [e, hlb] at hcs
        exact hcs hbk
      · rw [s3 c, hlb]
        by_cases ec : c = p / 4
        · rw [if_pos ec, if_pos ec]
          show l.ns.set (p % 4) v = _
          rw [hlns]
        · rw [if_neg ec, if_neg ec]
          exact ef0 c hcs
      · rcases set_mem S.w hlg hx hm with e | ⟨hm, hne⟩
        · rw [e]
          exact .inl hlb
        · exact S.dom l' hm
      · rcases set_mem S.w hlg hx hm with e | ⟨hm, hne⟩
        · rw [e]
          show (u.bk || l.d) = false
          rw [hb', hdl hb']
          rfl
        · cases hd : l'.d with
          | false => rfl
          | true =>
            obtain ⟨l0, g1, _, g3⟩ := hdirt l' hm hd
            rw [hdt hb' l0 g1] at g3
            cases g3
    dsimp only
    split
    · rename_i hbk1
      refine fin _ S.tw (fun _ _ => rfl) fun hd => ?_
      have hd : (u.bk || l.d) = false := hd
      rw [hbk1] at hd
      cases hd
    · rename_i hbk1
      have hbf : u.bk = false := by simpa using hbk1
      obtain ⟨q1, q2⟩ := passC_eff (tl := u.tl) (v := v) O r2 S.tw hp
      refine fin _ q1 (fun c hne => ?_) fun _ => ?_
      · rw [q2, if_neg (by rw [← hlb]; exact hne)]
      · show l.ns.set (p % 4) v = _
        rw [q2, if_pos hlb]
        congr 1
        exact S.cln l (List.mem_of_getElem? hlg) (hdl hbf)
theorem home_sem (O : OpsC n o) (Ok : OpsOk n (gOf n) o) (hu : RuOk u) (w : SetW s k ls) (hl : LsOk u ls) (hc : Cln ls (eff t)) (h : TaOk n t) (hw : TaW t) {b : Nat} (hb : b < 16) (hbk : b % s = k) {ns : List Int} (hn : ns.length = 4) (hdt : u.bk = false → ∀ l ∈ ls, l.d = false) :
    Sem s k ls t (homeL o u ls t b ns).1 (homeL o u ls t b ns).2 b (fun _ => ns) ∧ (u.bk = false → ∀ l ∈ (homeL o u ls t b ns).1, l.d = false) := by
  unfold homeL
  cases e : fnd b ls with
  | none =>
    have hno := fnd_none e
    dsimp only
    split
    · obtain ⟨m1, m2, m3, m4, m5, m6⟩ := mkWay_sem (u := u) O w hl hc h hw
      obtain ⟨k1, k2, k3, k4⟩ := mkWay_ok Ok hu hl h
      have hno2 : ∀ l ∈ (mkWay o u ls t).1, l.b ≠ b := fun l hq => hno l (m6 l hq)
      generalize mkWay o u ls t = mw at *
      have w' : SetW s k (mw.1 ++ [⟨b, ns, u.bk⟩]) := by
        refine ⟨?_, fun l hq => ?_⟩
        · rw [List.map_append]
          refine List.nodup_append.mpr ⟨m1.nd, by simp, fun x hx y hy => ?_⟩
          obtain ⟨l, hq, rfl⟩ := List.mem_map.mp hx
          have : y = b := by simpa using hy
          rw [this]
          exact hno2 l hq
        · rcases List.mem_append.mp hq with hq | hq
          · exact m1.ix l hq
          · rw [List.mem_singleton.mp hq]
            exact hbk
      have fin : ∀ t' : Ta, TaW t' → (∀ c, c ≠ b → eff t' c = eff mw.2 c) → (u.bk = false → ns = eff t' b) →
          Sem s k ls t (mw.1 ++ [⟨b, ns, u.bk⟩]) t' b (fun _ => ns) ∧ (u.bk = false → ∀ l ∈ mw.1 ++ [⟨b, ns, u.bk⟩], l.d = false) := by
        intro t' hw' he hcx
        refine ⟨⟨w', fun l hq hd => ?_, hw', fun c hcs => ?_, fun c hcs => ?_, fun l' hq => ?_⟩, fun hb' l hq => ?_⟩
        · rcases List.mem_append.mp hq with hq | hq
          · rw [he _ (hno2 l hq)]
            exact m2 l hq hd
          · rw [List.mem_singleton.mp hq] at hd ⊢
            exact hcx hd
        · rw [he c, m4 c hcs]
          intro z
          rw [z] at hcs
          exact hcs hbk
        · by_cases ec : c = b
          · rw [if_pos ec, ec]
            exact effS_mem w' (l := ⟨b, ns, u.bk⟩) (by simp) _
          · rw [if_neg ec, ← m5 c]
            refine effS_same ?_ fun _ => he c ec
            cases q : lnOf c mw.1 with
            | none =>
              refine lnOf_no fun l hq => ?_
              rcases List.mem_append.mp hq with hq | hq
              · exact lnOf_none q l hq
              · rw [List.mem_singleton.mp hq]
                exact Ne.symm ec
            | some l =>
              obtain ⟨g1, g2⟩ := lnOf_mem q
              exact lnOf_iff w'.nd (List.mem_append_left _ g1) g2
        · rcases List.mem_append.mp hq with hq | hq
          · exact .inr ⟨l', m6 l' hq, rfl, fun z => z⟩
          · rw [List.mem_singleton.mp hq]
            exact .inl rfl
        · rcases List.mem_append.mp hq with hq | hq
          · exact hdt hb' l (m6 l hq)
          · rw [List.mem_singleton.mp hq]
            exact hb'
      split
      · rename_i hbk1
        exact fin _ m3 (fun _ _ => rfl) fun z => by rw [hbk1] at z; cases z
      · obtain ⟨q1, q2⟩ := passH_eff (tl := u.tl) O k2 m3 hb hn
        exact fin _ q1 (fun c hne => by rw [q2, if_neg hne]) fun _ => by rw [q2, if_pos rfl]
    · obtain ⟨q1, q2⟩ := passH_eff (tl := u.tl) O h hw hb hn
      refine ⟨⟨w, fun l hm hd => ?_, q1, fun c hcs => ?_, fun c hcs => ?_, fun l' hm => .inr ⟨l', hm, rfl, fun z => z⟩⟩, hdt⟩
      · rw [q2, if_neg (hno l hm)]
        exact hc l hm hd
      · rw [q2, if_neg]
        intro z
        rw [z] at hcs
        exact hcs hbk
      · by_cases ec : c = b
        · rw [if_pos ec, ec, effS_no hno, q2, if_pos rfl]
        · rw [if_neg ec]
          exact effS_same rfl fun _ => by rw [q2, if_neg ec]
  | some i =>
    have hi := fnd_lt e
    obtain ⟨l, g1, g2, _⟩ := fnd_some e
    have p : (touchL u.lt ls i).Perm ls := touch_perm hi
    have hm := fun l (q : l ∈ touchL u.lt ls i) => p.mem_iff.mp q
    have w1 := w.perm p
    have hlg : (touchL u.lt ls i)[touchI u.lt ls i]? = some l := (touch_get hi).trans g1
    have hc1 : Cln (touchL u.lt ls i) (eff t) := fun l' q => hc l' (hm l' q)
    have hx : (⟨b, ns, u.bk⟩ : Ln).b = l.b := g2.symm
    dsimp only
    have fin : ∀ t' : Ta, TaW t' → (∀ c, c ≠ b → eff t' c = eff t c) → (u.bk = false → ns = eff t' b) →
        Sem s k ls t ((touchL u.lt ls i).set (touchI u.lt ls i) ⟨b, ns, u.bk⟩) t' b (fun _ => ns) ∧ (u.bk = false → ∀ l' ∈ (touchL u.lt ls i).set (touchI u.lt ls i) ⟨b, ns, u.bk⟩, l'.d = false) := by
      intro t' hw' he hcx
      obtain ⟨s1, s2, s3⟩ := set_sem (x := ⟨b, ns, u.bk⟩) w1 hlg hx hc1 hw' (fun c hne => he c (by rw [← g2]; exact hne)) (fun hd => by rw [g2]; exact hcx hd)
      refine ⟨⟨s1, s2, hw', fun c hcs => he c ?_, fun c hcs => ?_, fun l' hq => ?_⟩, fun hb' l' hq => ?_⟩
      · intro z
        rw [z] at hcs
        exact hcs hbk
      · rw [s3 c, g2]
        by_cases ec : c = b
        · rw [if_pos ec, if_pos ec]
        · rw [if_neg ec, if_neg ec]
          exact effS_same (lnOf_perm w p c) fun _ => rfl
      · rcases set_mem w1 hlg hx hq with z | ⟨hq, hne⟩
        · rw [z]
          exact .inl rfl
        · exact .inr ⟨l', hm l' hq, rfl, fun z => z⟩
      · rcases set_mem w1 hlg hx hq with z | ⟨hq, hne⟩
        · rw [z]
          exact hb'
        · exact hdt hb' l' (hm l' hq)
    split
    · rename_i hbk1
      exact fin _ hw (fun _ _ => rfl) fun z => by rw [hbk1] at z; cases z
    · obtain ⟨q1, q2⟩ := passH_eff (tl := u.tl) O h hw hb hn
      exact fin _ q1 (fun c hne => by rw [q2, if_neg hne]) fun _ => by rw [q2, if_pos rfl]
end
-- WwCoh2
/-! ### from one set to the room and what is behind -/
/-- a room over what is behind it -/
structure RW (r : Rm) (t : Ta) : Prop where
  w : RmW r
  c : ∀ ls ∈ r.ss, Cln ls (eff t) ∧ (r.ru.bk = false → ∀ l ∈ ls, l.d = false)
  t : TaW t
abbrev effR (r : Rm) (t : Ta) (c : Nat) : List Int := effS (r.ls c) (eff t) c
abbrev lookR (r : Rm) (c : Nat) : Option Ln := lnOf c (r.ls c)
theorem ls_put_if {r : Rm} (h : 0 < r.ss.length) (b c : Nat) (ls : List Ln) : (r.put b ls).ls c = if r.ix c = r.ix b then ls else r.ls c := by
  split
  · rename_i e
    have : (r.put b ls).ls c = (r.put b ls).ls b := by
      unfold Rm.ls
      rw [put_ix, put_ix, e]
    rw [this, ls_put h]
  · rename_i e
    exact ls_put_ne e
theorem ls_same {r : Rm} {b c : Nat} (h : r.ix c = r.ix b) : r.ls c = r.ls b := by
  unfold Rm.ls
  rw [h]
theorem RW.set {r : Rm} {t : Ta} (h : RW r t) (h0 : 0 < r.ss.length) (b : Nat) : SetW r.ss.length (r.ix b) (r.ls b) ∧ Cln (r.ls b) (eff t) ∧ (r.ru.bk = false → ∀ l ∈ r.ls b, l.d = false) :=
  ⟨h.w _ _ (ls_get h0 b), (h.c _ (ls_mem h0 b)).1, (h.c _ (ls_mem h0 b)).2⟩
theorem RW.step {r : Rm} {t t' : Ta} {ls' : List Ln} {b : Nat} {f : List Int → List Int} (h : RW r t) (h0 : 0 < r.ss.length) (S : Sem r.ss.length (r.ix b) (r.ls b) t ls' t' b f) (hd : r.ru.bk = false → ∀ l ∈ ls', l.d = false) :
    RW (r.put b ls') t' ∧ ∀ c, effR (r.put b ls') t' c = if c = b then f (effR r t b) else effR r t c := by
  refine ⟨⟨fun k ls hk => ?_, fun ls hm => ?_, S.tw⟩, fun c => ?_⟩
  · rw [put_len]
    by_cases e : r.ix b = k
    · subst e
      have hk : (r.ss.set (r.ix b) ls')[r.ix b]? = some ls := hk
      rw [List.getElem?_set_self (ix_lt h0 b)] at hk
      cases hk
      exact S.w
    · have hk : (r.ss.set (r.ix b) ls')[k]? = some ls := hk
      rw [List.getElem?_set_ne e] at hk
      exact h.w k ls hk
  · obtain ⟨k, hk, ek⟩ := List.mem_iff_getElem.mp hm
    have hg : (r.ss.set (r.ix b) ls')[k]? = some ls := by
      show (r.put b ls').ss[k]? = some ls
      rw [List.getElem?_eq_getElem hk, ek]
    by_cases e : r.ix b = k
    · subst e
      rw [List.getElem?_set_self (ix_lt h0 b)] at hg
      cases hg
      exact ⟨S.cln, hd⟩
    · rw [List.getElem?_set_ne e] at hg
      have hmo := List.mem_of_getElem? hg
      obtain ⟨c1, c2⟩ := h.c ls hmo
      refine ⟨fun l hl hdl => ?_, c2⟩
      rw [S.out l.b]
      · exact c1 l hl hdl
      · rw [(h.w k ls hg).ix l hl]
        exact Ne.symm e
  · show effS ((r.put b ls').ls c) (eff t') c = _
    rw [ls_put_if h0]
    by_cases e : r.ix c = r.ix b
    · rw [if_pos e, S.ef c e]
      show _ = if c = b then f (effS (r.ls b) (eff t) b) else effS (r.ls c) (eff t) c
      rw [ls_same e]
    · rw [if_neg e]
      have ec : c ≠ b := fun z => e (by rw [z])
      rw [if_neg ec]
      exact effS_same rfl fun _ => S.out c e
theorem RW.cons {r : Rm} {t : Ta} (h : RW r t) : TaW (Ta.cons r t) := ⟨h.w, h.c, h.t⟩
theorem eff_cons (r : Rm) (t : Ta) (c : Nat) : eff (Ta.cons r t) c = effR r t c := rfl
theorem blk_get {far : List Int} (hf : far.length = 64) {b : Nat} (hb : b < 16) {ns : List Int} (hn : ns.length = 4) (c : Nat) : getBlk (setBlk far b ns) c = if c = b then ns else getBlk far c := by
  unfold getBlk setBlk
  have h1 : (far.take (b * 4)).length = b * 4 := by rw [List.length_take]; omega
  apply List.ext_getElem?
  intro i
  by_cases hi : i < 4
  · rw [List.getElem?_take_of_lt hi, List.getElem?_drop]
    by_cases ec : c = b
    · subst ec
      rw [if_pos rfl, List.append_assoc, List.getElem?_append_right (by omega), h1, List.getElem?_append_left (by omega)]
      congr 1
      omega
    · rw [if_neg ec, List.getElem?_take_of_lt hi, List.getElem?_drop]
      by_cases hl : c < b
      · rw [List.append_assoc, List.getElem?_append_left (by omega), List.getElem?_take_of_lt (by omega)]
      · rw [List.getElem?_append_right (by rw [List.length_append]; omega), List.length_append, h1, hn, List.getElem?_drop]
        congr 1
        omega
  · rw [List.getElem?_eq_none (by rw [List.length_take]; omega)]
    split
    · rw [List.getElem?_eq_none (by omega)]
    · rw [List.getElem?_eq_none (by rw [List.length_take]; omega)]
theorem cell_get {far : List Int} (hf : far.length = 64) {p : Nat} (hp : p < 64) (v : Int) (c : Nat) : getBlk (far.set p v) c = if c = p / 4 then (getBlk far c).set (p % 4) v else getBlk far c := by
  unfold getBlk
  apply List.ext_getElem?
  intro i
  by_cases hi : i < 4
  · rw [List.getElem?_take_of_lt hi, List.getElem?_drop]
    by_cases ec : c = p / 4
    · rw [if_pos ec]
      by_cases ei : p % 4 = i
      · have e1 : c * 4 + i = p := by omega
        rw [e1, List.getElem?_set_self (by omega), ei, List.getElem?_set_self]
        rw [List.length_take, List.length_drop]
        omega
      · rw [List.getElem?_set_ne (by omega), List.getElem?_set_ne ei, List.getElem?_take_of_lt hi, List.getElem?_drop]
    · rw [if_neg ec, List.getElem?_take_of_lt hi, List.getElem?_drop, List.getElem?_set_ne (by omega)]
  · rw [List.getElem?_eq_none (by rw [List.length_take]; omega)]
    split
    · rw [List.getElem?_eq_none (by rw [List.length_set, List.length_take]; omega)]
    · rw [List.getElem?_eq_none (by rw [List.length_take]; omega)]
theorem TaW.uncons {t : Ta} {r : Rm} {rs : List Rm} (h : TaW t) (e : t.rs = r :: rs) : RW r { t with rs := rs } := by
  have h : ChW t.rs t.far := h
  rw [e] at h
  exact ⟨h.1, h.2.1, h.2.2⟩
theorem eff_uncons {t : Ta} {r : Rm} {rs : List Rm} (e : t.rs = r :: rs) (c : Nat) : eff t c = effR r { t with rs := rs } c := by
  show effC t.rs t.far c = _
  rw [e]
  rfl
theorem ops_c : ∀ n, OpsC n (ops n)
  | 0 => {
    hm := fun t b ns h hw hb hn => by
      have ers : t.rs = [] := List.length_eq_zero_iff.mp h.len
      refine ⟨?_, fun c => ?_⟩
      · show ChW t.rs _
        rw [ers]
        trivial
      · show effC t.rs (setBlk t.far b ns) c = if c = b then ns else effC t.rs t.far c
        rw [ers]
        exact blk_get h.far hb hn c
    br := fun t b h hw hb => by
      have ers : t.rs = [] := List.length_eq_zero_iff.mp h.len
      refine ⟨?_, hw, fun c => rfl⟩
      show getBlk t.far b = effC t.rs t.far b
      rw [ers]
      rfl
    ch := fun t p v h hw hp => by
      have ers : t.rs = [] := List.length_eq_zero_iff.mp h.len
      refine ⟨?_, fun c => ?_⟩
      · show ChW t.rs _
        rw [ers]
        trivial
      · show effC t.rs (t.far.set p v) c = if c = p / 4 then (effC t.rs t.far c).set (p % 4) v else effC t.rs t.far c
        rw [ers]
        exact cell_get h.far hp v c }
  | n + 1 => {
    hm := fun t b ns h hw hb hn => by
      obtain ⟨r, rs, e, hr, ht⟩ := h.uncons
      have R := hw.uncons e
      obtain ⟨s1, s2, s3⟩ := R.set hr.s0 b
      obtain ⟨S, sd⟩ := home_sem (ops_c n) (ops_ok n) hr.ru s1 (hr.ls b) s2 ht R.t hb rfl hn s3
      obtain ⟨R', he⟩ := R.step hr.s0 S sd
      have eo : (ops (n + 1)).hm t b ns = Ta.cons (r.put b (homeL (ops n) r.ru (r.ls b) { t with rs := rs } b ns).1) (homeL (ops n) r.ru (r.ls b) { t with rs := rs } b ns).2 := by
        show (match t.rs with | [] => t | r :: rs => _) = _
        rw [e]
      rw [eo]
      refine ⟨R'.cons, fun c => ?_⟩
      rw [eff_cons, he c, eff_uncons e c]
    br := fun t b h hw hb => by
      obtain ⟨r, rs, e, hr, ht⟩ := h.uncons
      have R := hw.uncons e
      obtain ⟨s1, s2, s3⟩ := R.set hr.s0 b
      obtain ⟨S, hdirt, hat⟩ := reach_sem (ops_c n) (ops_ok n) hr.ru s1 (hr.ls b) s2 ht R.t hb rfl
      obtain ⟨_, _, ⟨l, hlg, hlb, hlo⟩, _⟩ := reachL_ok (ops_ok n) hr.ru (hr.ls b) ht hb
      obtain ⟨_, hns⟩ := hat l hlg
      obtain ⟨R', he⟩ := R.step hr.s0 S fun hbk l' hm => by
        cases hd : l'.d with
        | false => rfl
        | true =>
          obtain ⟨l0, g1, _, g3⟩ := hdirt l' hm hd
          rw [s3 hbk l0 g1] at g3
          cases g3
      have eo : (ops (n + 1)).br t b = ((bringL (ops n) r.ru (r.ls b) { t with rs := rs } b).1, Ta.cons (r.put b (bringL (ops n) r.ru (r.ls b) { t with rs := rs } b).2.1) (bringL (ops n) r.ru (r.ls b) { t with rs := rs } b).2.2) := by
        show (match t.rs with | [] => ([], t) | r :: rs => _) = _
        rw [e]
      rw [eo]
      refine ⟨?_, R'.cons, fun c => ?_⟩
      · rw [eff_uncons e b]
        show (lnAt _ _).ns = _
        rw [lnAt_get hlg]
        exact hns
      · rw [eff_uncons e c]
        refine (he c).trans ?_
        split
        · rename_i z
          rw [z]
        · rfl
    ch := fun t p v h hw hp => by
      obtain ⟨r, rs, e, hr, ht⟩ := h.uncons
      have R := hw.uncons e
      obtain ⟨s1, s2, s3⟩ := R.set hr.s0 (p / 4)
      obtain ⟨S, sd⟩ := change_sem (ops_c n) (ops_ok n) hr.ru s1 (hr.ls (p / 4)) s2 ht R.t hp rfl v s3
      obtain ⟨R', he⟩ := R.step hr.s0 S sd
      have eo : (ops (n + 1)).ch t p v = Ta.cons (r.put (p / 4) (changeL (ops n) r.ru (r.ls (p / 4)) { t with rs := rs } p v).1) (changeL (ops n) r.ru (r.ls (p / 4)) { t with rs := rs } p v).2 := by
        show (match t.rs with | [] => t | r :: rs => _) = _
        rw [e]
      rw [eo]
      refine ⟨R'.cons, fun c => ?_⟩
      rw [eff_cons, he c, eff_uncons e c]
      split
      · rename_i z
        rw [z]
      · rfl }
-- WwCoh3
/-! ### halls: what the hands' rooms tell -/
section
variable {n : Nat} {o : Ops} {u : Ru} {s k : Nat} {ls : List Ln} {t : Ta}
theorem lnOf_erase (w : SetW s k ls) {i : Nat} {l : Ln} (hl : ls[i]? = some l) (c : Nat) : lnOf c (ls.eraseIdx i) = if c = l.b then none else lnOf c ls := by
  obtain ⟨hi, e⟩ := List.getElem?_eq_some_iff.mp hl
  have p := perm_erase hi
  rw [e] at p
  have w2 := w.perm p
  split
  · rename_i z
    subst z
    exact lnOf_no w2.head
  · rename_i z
    rw [← lnOf_perm w p c]
    show _ = if l.b = c then some l else lnOf c (ls.eraseIdx i)
    rw [if_neg (Ne.symm z)]
theorem lnOf_set : ∀ {ls : List Ln} {i : Nat} {l l2 : Ln}, ls[i]? = some l → l2.b = l.b → (ls.map (·.b)).Nodup → ∀ c, lnOf c (ls.set i l2) = if c = l.b then some l2 else lnOf c ls
  | [], i, l, l2, h, _, _, c => by simp at h
  | a :: r, 0, l, l2, h, e, hn, c => by
    have : a = l := by simpa using h
    subst this
    show (if l2.b = c then some l2 else lnOf c r) = if c = a.b then some l2 else if a.b = c then some a else lnOf c r
    rw [e]
    by_cases z : a.b = c
    · rw [if_pos z, if_pos z.symm]
    · rw [if_neg z, if_neg (Ne.symm z), if_neg z]
  | a :: r, i + 1, l, l2, h, e, hn, c => by
    rw [List.map_cons] at hn
    obtain ⟨h1, h2⟩ := List.nodup_cons.mp hn
    have hl : r[i]? = some l := by simpa using h
    have ih := lnOf_set hl e h2 c
    show (if a.b = c then some a else lnOf c (r.set i l2)) = if c = l.b then some l2 else if a.b = c then some a else lnOf c r
    rw [ih]
    by_cases z : a.b = c
    · have : c ≠ l.b := fun q => h1 (List.mem_map.mpr ⟨l, List.mem_of_getElem? hl, by rw [← q, z]⟩)
      rw [if_pos z, if_neg this, if_pos z]
    · rw [if_neg z, if_neg z]
theorem set_map_b {ls : List Ln} {i : Nat} {l l2 : Ln} (h : ls[i]? = some l) (e : l2.b = l.b) : (ls.set i l2).map (·.b) = ls.map (·.b) := by
  rw [List.map_set]
  apply List.ext_getElem?
  intro j
  by_cases z : i = j
  · subst z
    have hi := (List.getElem?_eq_some_iff.mp h).1
    rw [List.getElem?_set_self (by simpa using hi), List.getElem?_map, h, e]
    rfl
  · rw [List.getElem?_set_ne z]
theorem yield_sem (O : OpsC n o) (w : SetW s k ls) (hl : LsOk u ls) (hc : Cln ls (eff t)) (h : TaOk n t) (hw : TaW t) {b : Nat} (hb : b < 16) (gone : Bool) :
    Sem s k ls t (yieldL o u ls t b gone).1 (yieldL o u ls t b gone).2 b (fun x => x) ∧ (∀ l' ∈ (yieldL o u ls t b gone).1, l'.d = true → l'.b ≠ b ∧ l' ∈ ls) ∧ (gone = true → ∀ l' ∈ (yieldL o u ls t b gone).1, l'.b ≠ b) := by
  unfold yieldL
  cases e : fnd b ls with
  | none =>
    have hno := fnd_none e
    refine ⟨⟨w, hc, hw, fun _ _ => rfl, fun c _ => ?_, fun l hm => .inr ⟨l, hm, rfl, fun z => z⟩⟩, fun l hm _ => ⟨hno l hm, hm⟩, fun _ l hm => hno l hm⟩
    show effS ls (eff t) c = _
    split
    · rename_i z
      rw [z]
    · rfl
  | some i =>
    obtain ⟨l, hlg, hlb, _⟩ := fnd_some e
    have hlm := List.mem_of_getElem? hlg
    have hlo := hl.ok l hlm
    dsimp only
    rw [lnAt_get hlg]
    -- what is behind afterwards
    have hef : TaW (if l.d = true then passH o u.tl t b l.ns else t) ∧ ∀ c, eff (if l.d = true then passH o u.tl t b l.ns else t) c = if c = b then l.ns else eff t c := by
      split
      · exact passH_eff (tl := u.tl) O h hw hb hlo.ns
      · rename_i hd
        refine ⟨hw, fun c => ?_⟩
        split
        · rename_i z
          rw [z, ← hlb]
          exact (hc l hlm (by simpa using hd)).symm
        · rfl
    generalize (if l.d = true then passH o u.tl t b l.ns else t) = t' at hef ⊢
    obtain ⟨hw', he⟩ := hef
    have hout : ∀ c, c % s ≠ k → eff t' c = eff t c := fun c hcs => by
      rw [he, if_neg]
      intro z
      apply hcs
      rw [z, ← hlb]
      exact w.ix l hlm
    have heb : effS ls (eff t) b = l.ns := by
      rw [← hlb]
      exact effS_mem w hlm _
    cases gone with
    | true =>
      have hmem : ∀ l' ∈ ls.eraseIdx i, l' ∈ ls ∧ l'.b ≠ b := fun l' hm => by
        have hi := (List.getElem?_eq_some_iff.mp hlg)
        obtain ⟨hi, ei⟩ := hi
        have p := perm_erase hi
        rw [ei] at p
        exact ⟨p.mem_iff.mp (List.mem_cons_of_mem _ hm), by rw [← hlb]; exact (w.perm p).head l' hm⟩
      refine ⟨⟨⟨?_, fun l' hm => w.ix l' (hmem l' hm).1⟩, fun l' hm hd => ?_, hw', hout, fun c hcs => ?_, fun l' hm => .inr ⟨l', (hmem l' hm).1, rfl, fun z => z⟩⟩, fun l' hm _ => ⟨(hmem l' hm).2, (hmem l' hm).1⟩, fun _ l' hm => (hmem l' hm).2⟩
      · have hi := (List.getElem?_eq_some_iff.mp hlg)
        obtain ⟨hi, ei⟩ := hi
        have p := perm_erase hi
        rw [ei] at p
        exact (w.perm p).tail.nd
      · show l'.ns = eff t' l'.b
        rw [he, if_neg (hmem l' hm).2]
        exact hc l' (hmem l' hm).1 hd
      · show effS (ls.eraseIdx i) (eff t') c = _
        unfold effS
        rw [lnOf_erase w hlg c, hlb]
        by_cases z : c = b
        · rw [if_pos z, if_pos z]
          show eff t' c = _
          rw [he, if_pos z]
          exact heb.symm
        · rw [if_neg z, if_neg z, he, if_neg z]
    | false =>
      have hmem : ∀ l' ∈ ls.set i { l with d := false }, l' ∈ ls ∧ l'.b ≠ b ∨ l' = { l with d := false } := fun l' hm => by
        by_cases z : l'.b = b
        · right
          have w2 : SetW s k (ls.set i { l with d := false }) := ⟨by rw [set_map_b (l2 := { l with d := false }) hlg rfl]; exact w.nd, fun q hq => by
            rcases List.mem_or_eq_of_mem_set hq with hq | eq
            · exact w.ix q hq
            · rw [eq]
              exact w.ix l hlm⟩
          have h1 := lnOf_iff w2.nd hm z
          rw [lnOf_set (l2 := { l with d := false }) hlg rfl w.nd, if_pos hlb.symm] at h1
          exact (Option.some.inj h1).symm
        · rcases List.mem_or_eq_of_mem_set hm with hm | eq
          · exact .inl ⟨hm, z⟩
          · exact .inr eq
      refine ⟨⟨⟨?_, fun l' hm => ?_⟩, fun l' hm hd => ?_, hw', hout, fun c hcs => ?_, fun l' hm => ?_⟩, fun l' hm hd => ?_, fun z => by cases z⟩
      · show ((ls.set i { l with d := false }).map (·.b)).Nodup
        rw [set_map_b (l2 := { l with d := false }) hlg rfl]
        exact w.nd
      · rcases hmem l' hm with ⟨hm, _⟩ | eq
        · exact w.ix l' hm
        · rw [eq]
          exact w.ix l hlm
      · show l'.ns = eff t' l'.b
        rcases hmem l' hm with ⟨hm, hne⟩ | eq
        · rw [he, if_neg hne]
          exact hc l' hm hd
        · rw [eq, he, if_pos hlb]
      · show effS (ls.set i { l with d := false }) (eff t') c = _
        unfold effS
        rw [lnOf_set (l2 := { l with d := false }) hlg rfl w.nd c, hlb]
        by_cases z : c = b
        · rw [if_pos z, if_pos z]
          exact heb.symm
        · rw [if_neg z, if_neg z, he, if_neg z]
      · rcases hmem l' hm with ⟨hm, hne⟩ | eq
        · exact .inr ⟨l', hm, rfl, fun z => z⟩
        · left
          rw [eq]
          exact hlb
      · rcases hmem l' hm with ⟨hm, hne⟩ | eq
        · exact ⟨hne, hm⟩
        · rw [eq] at hd
          cases hd
end
def InR (l : Ln) (r : Rm) : Prop := ∃ ls ∈ r.ss, l ∈ ls
structure HCoh (ha : Ha) (pl : Nat → List Int) : Prop where
  w : ∀ r ∈ ha.own, RmW r
  th : ∀ r ∈ ha.own, r.ru.bk = false → ∀ l, InR l r → l.d = false
  t : TaW ha.t
  pn : ∀ r ∈ ha.own, ∀ l, InR l r → l.ns = pl l.b
  one : ∀ (i j : Nat) (r q : Rm), i ≠ j → ha.own[i]? = some r → ha.own[j]? = some q → ∀ l m, InR l r → InR m q → l.d = true → l.b ≠ m.b
  ef : ∀ c, (∀ r ∈ ha.own, ∀ l, InR l r → l.b = c → l.d = false) → eff ha.t c = pl c
theorem InR.ls {l : Ln} {r : Rm} (h : InR l r) (w : RmW r) : l ∈ r.ls l.b := by
  obtain ⟨ls, hm, hl⟩ := h
  obtain ⟨k, hk, e⟩ := List.mem_iff_getElem.mp hm
  have hg : r.ss[k]? = some ls := by rw [List.getElem?_eq_getElem hk, e]
  have := (w k ls hg).ix l hl
  unfold Rm.ls Rm.ix
  rw [this, List.getD_eq_getElem?_getD, hg]
  exact hl
theorem InR.of {l : Ln} {r : Rm} {b : Nat} (h0 : 0 < r.ss.length) (h : l ∈ r.ls b) : InR l r := ⟨_, ls_mem h0 b, h⟩
theorem InR.uniq {l m : Ln} {r : Rm} (h0 : 0 < r.ss.length) (w : RmW r) (hl : InR l r) (hm : InR m r) (e : l.b = m.b) : l = m := by
  have h1 := hl.ls w
  have h2 := hm.ls w
  rw [← e] at h2
  have W := w _ _ (ls_get h0 l.b)
  have e1 := lnOf_iff W.nd h1 rfl
  have e2 := lnOf_iff W.nd h2 e.symm
  rw [e1] at e2
  exact Option.some.inj e2
theorem InR.put {l : Ln} {r : Rm} {b : Nat} {ls : List Ln} (h : InR l (r.put b ls)) : l ∈ ls ∨ InR l r := by
  obtain ⟨ls', hm, hl⟩ := h
  rcases List.mem_or_eq_of_mem_set hm with hm | e
  · exact .inr ⟨ls', hm, hl⟩
  · rw [e] at hl
    exact .inl hl
theorem InR.put_of {l : Ln} {r : Rm} {b : Nat} {ls : List Ln} (h0 : 0 < r.ss.length) (h : l ∈ ls) : InR l (r.put b ls) := ⟨_, List.mem_set (ix_lt h0 b) _, h⟩
section
variable {ha : Ha} {pl : Nat → List Int} {n m : Nat} {i : Nat} {r : Rm}
theorem HCoh.eff_of (h : HCoh ha pl) (e : ha.own[i]? = some r) (h0 : 0 < r.ss.length) {c : Nat} (A : ∀ (j : Nat) (q : Rm), j ≠ i → ha.own[j]? = some q → ∀ l, InR l q → l.b = c → l.d = false) : effR r ha.t c = pl c := by
  have hr := List.mem_of_getElem? e
  show effS (r.ls c) (eff ha.t) c = pl c
  cases q : lnOf c (r.ls c) with
  | some l =>
    obtain ⟨h1, h2⟩ := lnOf_mem q
    unfold effS
    rw [q, ← h2]
    exact h.pn r hr l (.of h0 h1)
  | none =>
    unfold effS
    rw [q]
    refine h.ef c fun q' hq' l hl hc => ?_
    obtain ⟨j, hj, ej⟩ := List.mem_iff_getElem.mp hq'
    have hg : ha.own[j]? = some q' := by rw [List.getElem?_eq_getElem hj, ej]
    by_cases z : j = i
    · subst z
      rw [e] at hg
      cases hg
      have := hl.ls (h.w r hr)
      rw [hc] at this
      exact absurd hc (lnOf_none q l this)
    · exact A j q' z hg l hl hc
theorem HCoh.rw (h : HCoh ha pl) (e : ha.own[i]? = some r) (h0 : 0 < r.ss.length) : RW r ha.t := by
  have hr := List.mem_of_getElem? e
  refine ⟨h.w r hr, fun ls hm => ⟨fun l hl hd => ?_, fun hb l hl => h.th r hr hb l ⟨ls, hm, hl⟩⟩, h.t⟩
  have hi : InR l r := ⟨ls, hm, hl⟩
  rw [h.pn r hr l hi]
  refine (h.ef l.b fun q' hq' l2 hl2 hc => ?_).symm
  obtain ⟨j, hj, ej⟩ := List.mem_iff_getElem.mp hq'
  have hg : ha.own[j]? = some q' := by rw [List.getElem?_eq_getElem hj, ej]
  by_cases z : j = i
  · subst z
    rw [e] at hg
    cases hg
    rw [hl2.uniq h0 (h.w r hr) hi hc]
    exact hd
  · cases q : l2.d with
    | false => rfl
    | true => exact absurd hc (h.one j i q' r z hg e l2 l hl2 hi q)
theorem HCoh.step (h : HCoh ha pl) (e : ha.own[i]? = some r) (h0 : 0 < r.ss.length) {b : Nat} {ls' : List Ln} {t' : Ta} {f : List Int → List Int}
    (S : Sem r.ss.length (r.ix b) (r.ls b) ha.t ls' t' b f) (hd : r.ru.bk = false → ∀ l ∈ ls', l.d = false)
    (A : ∀ (j : Nat) (q : Rm), j ≠ i → ha.own[j]? = some q → ∀ l, InR l q → l.b = b → l.d = false)
    (B : ((∀ x, f x = x) ∧ ∀ l' ∈ ls', l'.d = true → ∃ l ∈ r.ls b, l.b = l'.b ∧ l.d = true) ∨ ∀ (j : Nat) (q : Rm), j ≠ i → ha.own[j]? = some q → ∀ l, InR l q → l.b ≠ b) :
    HCoh ⟨ha.own.set i (r.put b ls'), t'⟩ (fun c => if c = b then f (pl b) else pl c) := by
  have hr := List.mem_of_getElem? e
  have hi := (List.getElem?_eq_some_iff.mp e).1
  obtain ⟨R', he⟩ := (h.rw e h0).step h0 S hd
  have h0' : 0 < (r.put b ls').ss.length := by
    rw [put_len]
    exact h0
  -- a line of the new room stood there before, or is b's
  have dom : ∀ l', InR l' (r.put b ls') → l'.b = b ∨ ∃ l, InR l r ∧ l.b = l'.b ∧ (l'.d = true → l.d = true) := fun l' hl' => by
    rcases hl'.put with hl' | hl'
    · rcases S.dom l' hl' with z | ⟨l, hl, h1, h2⟩
      · exact .inl z
      · exact .inr ⟨l, .of h0 hl, h1, h2⟩
    · exact .inr ⟨l', hl', rfl, fun z => z⟩
  have oth : ∀ j, j ≠ i → (ha.own.set i (r.put b ls'))[j]? = ha.own[j]? := fun j z => List.getElem?_set_ne (Ne.symm z)
  have mine : (ha.own.set i (r.put b ls'))[i]? = some (r.put b ls') := List.getElem?_set_self hi
  have memC : ∀ q ∈ ha.own.set i (r.put b ls'), q = r.put b ls' ∨ ∃ j, j ≠ i ∧ ha.own[j]? = some q := fun q hq => by
    obtain ⟨j, hj, ej⟩ := List.mem_iff_getElem.mp hq
    have hg : (ha.own.set i (r.put b ls'))[j]? = some q := by rw [List.getElem?_eq_getElem hj, ej]
    by_cases z : j = i
    · subst z
      rw [mine] at hg
      exact .inl (Option.some.inj hg).symm
    · rw [oth j z] at hg
      exact .inr ⟨j, z, hg⟩
  have eb : effR r ha.t b = pl b := h.eff_of e h0 A
  have pl' : ∀ l, InR l (r.put b ls') → l.ns = if l.b = b then f (pl b) else pl l.b := fun l hl => by
    have h1 : effR (r.put b ls') t' l.b = l.ns := effS_mem (R'.w _ _ (ls_get h0' l.b)) (hl.ls R'.w) _
    rw [he, eb] at h1
    rw [← h1]
    by_cases z : l.b = b
    · rw [if_pos z, if_pos z]
    · rw [if_neg z, if_neg z]
      refine h.eff_of e h0 fun j q zj hg l2 hl2 hc => ?_
      rcases dom l hl with z2 | ⟨l0, h3, h4, _⟩
      · exact absurd z2 z
      · cases q2 : l2.d with
        | false => rfl
        | true => exact absurd (hc.trans h4.symm) (h.one j i q r zj hg e l2 l0 hl2 h3 q2)
  refine ⟨fun q hq => ?_, fun q hq hb l hl => ?_, R'.t, fun q hq l hl => ?_, fun j1 j2 q1 q2 hne g1 g2 l l2 hl hl2 hdl => ?_, fun c hc => ?_⟩
  · rcases memC q hq with z | ⟨j, _, hg⟩
    · rw [z]
      exact R'.w
    · exact h.w q (List.mem_of_getElem? hg)
  · rcases memC q hq with z | ⟨j, _, hg⟩
    · rw [z] at hl hb
      obtain ⟨lsx, hm, hl⟩ := hl
      exact (R'.c lsx hm).2 hb l hl
    · exact h.th q (List.mem_of_getElem? hg) hb l hl
  · rcases memC q hq with z | ⟨j, zj, hg⟩
    · rw [z] at hl
      exact pl' l hl
    · show l.ns = if l.b = b then f (pl b) else pl l.b
      rw [h.pn q (List.mem_of_getElem? hg) l hl]
      split
      · rename_i z
        rcases B with ⟨hf, _⟩ | B
        · rw [hf, z]
        · exact absurd z (B j q zj hg l hl)
      · rfl
  · have g1 : (ha.own.set i (r.put b ls'))[j1]? = some q1 := g1
    have g2 : (ha.own.set i (r.put b ls'))[j2]? = some q2 := g2
    intro hbb
    by_cases z1 : j1 = i
    · have z2 : j2 ≠ i := fun z => hne (z1.trans z.symm)
      rw [z1, mine] at g1
      rw [oth j2 z2] at g2
      cases g1
      rcases hl.put with hl' | hl'
      · rcases B with ⟨_, hdirt⟩ | B
        · obtain ⟨l0, h3, h4, h5⟩ := hdirt l hl' hdl
          exact h.one i j2 r q2 (Ne.symm z2) e g2 l0 l2 (.of h0 h3) hl2 h5 (h4.trans hbb)
        · rcases S.dom l hl' with z | ⟨l0, h3, h4, h5⟩
          · exact B j2 q2 z2 g2 l2 hl2 (hbb.symm.trans z)
          · exact h.one i j2 r q2 (Ne.symm z2) e g2 l0 l2 (.of h0 h3) hl2 (h5 hdl) (h4.trans hbb)
      · exact h.one i j2 r q2 (Ne.symm z2) e g2 l l2 hl' hl2 hdl hbb
    · rw [oth j1 z1] at g1
      by_cases z2 : j2 = i
      · rw [z2, mine] at g2
        cases g2
        rcases dom l2 hl2 with z | ⟨l0, h3, h4, _⟩
        · have := A j1 q1 z1 g1 l hl (hbb.trans z)
          rw [this] at hdl
          cases hdl
        · exact h.one j1 i q1 r z1 g1 e l l0 hl h3 hdl (hbb.trans h4.symm)
      · rw [oth j2 z2] at g2
        exact h.one j1 j2 q1 q2 hne g1 g2 l l2 hl hl2 hdl hbb
  · show eff t' c = if c = b then f (pl b) else pl c
    have hc : ∀ q ∈ ha.own.set i (r.put b ls'), ∀ l, InR l q → l.b = c → l.d = false := hc
    cases q : lnOf c ((r.put b ls').ls c) with
    | some l =>
      obtain ⟨h1, h2⟩ := lnOf_mem q
      have hin : InR l (r.put b ls') := .of h0' h1
      have h3 := (R'.c _ (ls_mem h0' c)).1 l h1 (hc _ (List.mem_of_getElem? mine) l hin h2)
      rw [← h2, ← h3]
      exact pl' l hin
    | none =>
      have h1 : effR (r.put b ls') t' c = eff t' c := by
        show effS _ _ c = _
        unfold effS
        rw [q]
      rw [← h1, he, eb]
      split
      · rfl
      · refine h.eff_of e h0 fun j q' zj hg l hl hcl => ?_
        refine hc q' ?_ l hl hcl
        have : (ha.own.set i (r.put b ls'))[j]? = some q' := by
          rw [oth j zj]
          exact hg
        exact List.mem_of_getElem? this
theorem HCoh.id (h : HCoh ha (fun c => if c = i then pl i else pl c)) : HCoh ha pl := by
  have : (fun c => if c = i then pl i else pl c) = pl := by
    funext c
    split
    · rename_i z
      rw [z]
    · rfl
  rw [this] at h
  exact h
/-- a hand that is asked yields -/
theorem HCoh.yieldAt (h : HCoh ha pl) (hk : HaOk n m ha) {b : Nat} (hb : b < 16) (g : Bool) (i : Nat) : HCoh (yieldAt n ha b g i) pl ∧ (∀ j, j ≠ i → (Ww.yieldAt n ha b g i).own[j]? = ha.own[j]?) ∧ (∀ q, (Ww.yieldAt n ha b g i).own[i]? = some q → ∃ r, ha.own[i]? = some r ∧ (∀ l, InR l q → (l.b = b → l.d = false) ∧ (g = true → l.b ≠ b) ∧ ∃ l0, InR l0 r ∧ l0.b = l.b)) := by
  unfold Ww.yieldAt
  cases e : ha.own[i]? with
  | none => exact ⟨h, fun _ _ => rfl, fun q hq => by rw [show ha.own[i]? = none from e] at hq; cases hq⟩
  | some r =>
    have hr := hk.own r (List.mem_of_getElem? e)
    have R := h.rw e hr.s0
    obtain ⟨s1, s2, s3⟩ := R.set hr.s0 b
    obtain ⟨S, sd, sg⟩ := yield_sem (ops_c n) s1 (hr.ls b) s2 hk.t R.t hb g
    have hold : (∃ l, InR l r ∧ l.b = b) ∨ (yieldL (ops n) r.ru (r.ls b) ha.t b g) = (r.ls b, ha.t) := by
      cases q : fnd b (r.ls b) with
      | none =>
        right
        unfold yieldL
        rw [q]
      | some j =>
        obtain ⟨l, hl, hlb, _⟩ := fnd_some q
        exact .inl ⟨l, .of hr.s0 (List.mem_of_getElem? hl), hlb⟩
    have hi := (List.getElem?_eq_some_iff.mp e).1
    refine ⟨?_, fun j z => List.getElem?_set_ne (Ne.symm z), fun q hq => ?_⟩
    · rcases hold with ⟨l, hl, hlb⟩ | hid
      · refine HCoh.id (i := b) (h.step e hr.s0 S (fun hbk l' hl' => ?_) (fun j q z hg l2 hl2 hb2 => ?_) (.inl ⟨fun _ => rfl, fun l' hl' hd' => ⟨l', (sd l' hl' hd').2, rfl, hd'⟩⟩))
        · cases q : l'.d with
          | false => rfl
          | true =>
            have := s3 hbk l' (sd l' hl' q).2
            rw [this] at q
            cases q
        · cases q2 : l2.d with
          | false => rfl
          | true => exact absurd (hb2.trans hlb.symm) (h.one j i q r z hg e l2 l hl2 hl q2)
      · show HCoh ⟨ha.own.set i (r.put b (yieldL (ops n) r.ru (r.ls b) ha.t b g).1), (yieldL (ops n) r.ru (r.ls b) ha.t b g).2⟩ pl
        rw [hid]
        show HCoh ⟨ha.own.set i (r.put b (r.ls b)), ha.t⟩ pl
        rw [put_self hr.s0]
        have : ha.own.set i r = ha.own := by
          apply List.ext_getElem?
          intro j
          by_cases z : i = j
          · subst z
            rw [List.getElem?_set_self hi, e]
          · rw [List.getElem?_set_ne z]
        rw [this]
        exact h
    · have hq : (ha.own.set i (r.put b (yieldL (ops n) r.ru (r.ls b) ha.t b g).1))[i]? = some q := hq
      rw [List.getElem?_set_self hi] at hq
      cases hq
      refine ⟨r, rfl, fun l hl => ?_⟩
      have S' := R.step hr.s0 S (fun hbk l' hl' => by
        cases q : l'.d with
        | false => rfl
        | true =>
          have := s3 hbk l' (sd l' hl' q).2
          rw [this] at q
          cases q)
      have hin : l.b = b → l ∈ (yieldL (ops n) r.ru (r.ls b) ha.t b g).1 := fun z => by
        have := hl.ls S'.1.w
        rw [z, ls_put hr.s0] at this
        exact this
      refine ⟨fun z => ?_, fun hg z => sg hg l (hin z) z, ?_⟩
      · cases q : l.d with
        | false => rfl
        | true => exact absurd z (sd l (hin z) q).1
      · rcases hl.put with hl | hl
        · rcases S.dom l hl with z | ⟨l0, h3, h4, _⟩
          · rcases hold with ⟨l0, h3, h4⟩ | hid
            · exact ⟨l0, h3, h4.trans z.symm⟩
            · rw [hid] at hl
              exact ⟨l, .of hr.s0 hl, rfl⟩
          · exact ⟨l0, .of hr.s0 h3, h4⟩
        · exact ⟨l, hl, rfl⟩
/-- all others asked -/
theorem HCoh.askN (h : HCoh ha pl) (hk : HaOk n m ha) {b : Nat} (hb : b < 16) (hand : Nat) (g : Bool) : ∀ k, HCoh (askN n hand b g k ha) pl ∧ HaOk n m (Ww.askN n hand b g k ha) ∧ (∀ j, k ≤ j ∨ j = hand → (Ww.askN n hand b g k ha).own[j]? = ha.own[j]?) ∧
    ∀ j, j < k → j ≠ hand → ∀ q, (Ww.askN n hand b g k ha).own[j]? = some q → ∃ r, ha.own[j]? = some r ∧ (∀ l, InR l q → (l.b = b → l.d = false) ∧ (g = true → l.b ≠ b) ∧ ∃ l0, InR l0 r ∧ l0.b = l.b)
  | 0 => ⟨h, hk, fun _ _ => rfl, fun j hj => absurd hj (Nat.not_lt_zero _)⟩
  | k + 1 => by
    obtain ⟨h1, h2, h3, h4⟩ := HCoh.askN h hk hb hand g k
    unfold Ww.askN
    split
    · rename_i z
      refine ⟨h1, h2, fun j hj => h3 j (by omega), fun j hj hne => h4 j (by omega) hne⟩
    · rename_i z
      obtain ⟨y1, y2, y3⟩ := h1.yieldAt h2 hb g k
      refine ⟨y1, (yieldAt_ok h2 hb g k).1, fun j hj => ?_, fun j hj hne q hq => ?_⟩
      · rw [y2 j (by omega)]
        exact h3 j (by omega)
      · by_cases ek : j = k
        · subst ek
          obtain ⟨r, g1, g2⟩ := y3 q hq
          rw [h3 j (by omega)] at g1
          exact ⟨r, g1, g2⟩
        · rw [y2 j ek] at hq
          exact h4 j (by omega) hne q hq
theorem HCoh.ask (h : HCoh ha pl) (hk : HaOk n m ha) {b : Nat} (hb : b < 16) (hand : Nat) (g : Bool) : HCoh (ask n ha hand b g) pl ∧ HaOk n m (Ww.ask n ha hand b g) ∧ (Ww.ask n ha hand b g).own[hand]? = ha.own[hand]? ∧
    ∀ j, j ≠ hand → ∀ q, (Ww.ask n ha hand b g).own[j]? = some q → ∃ r, ha.own[j]? = some r ∧ (∀ l, InR l q → (l.b = b → l.d = false) ∧ (g = true → l.b ≠ b) ∧ ∃ l0, InR l0 r ∧ l0.b = l.b) := by
  obtain ⟨h1, h2, h3, h4⟩ := h.askN hk hb hand g ha.own.length
  refine ⟨h1, h2, h3 hand (.inr rfl), fun j hne q hq => ?_⟩
  have hj : j < ha.own.length := by
    have := (List.getElem?_eq_some_iff.mp hq).1
    have e : (Ww.ask n ha hand b g).own.length = m := h2.len
    have e2 := hk.len
    omega
  exact h4 j hj hne q hq
def empty (ha : Ha) (i : Nat) : Prop := ∀ r, ha.own[i]? = some r → ∀ l, ¬ InR l r
/-- a look -/
theorem HCoh.look (h : HCoh ha pl) (hk : HaOk n m ha) {hand p : Nat} (hh : hand < m) (hp : p < 64) :
    HCoh (hLook n ha hand p).2 pl ∧ (hLook n ha hand p).1 = (pl (p / 4)).getD (p % 4) 0 ∧ (∀ i, i ≠ hand → empty ha i → empty (hLook n ha hand p).2 i) ∧ ∀ j, j ≠ hand → ∀ q, (hLook n ha hand p).2.own[j]? = some q → ∀ l, InR l q → l.b = p / 4 → l.d = false := by
  have hb : p / 4 < 16 := by omega
  obtain ⟨a1, a2, a3, a4⟩ := h.ask hk hb hand false
  unfold hLook
  have hlt : hand < ha.own.length := by rw [hk.len]; exact hh
  generalize Ww.ask n ha hand (p / 4) false = hb' at a1 a2 a3 a4 ⊢
  unfold lookAt
  have e : hb'.own[hand]? = some ha.own[hand] := by rw [a3, List.getElem?_eq_getElem hlt]
  rw [e]
  generalize ha.own[hand] = r at e ⊢
  have hr := a2.own r (List.mem_of_getElem? e)
  have R := a1.rw e hr.s0
  obtain ⟨s1, s2, s3⟩ := R.set hr.s0 (p / 4)
  obtain ⟨S, hdirt, hat⟩ := reach_sem (ops_c n) (ops_ok n) hr.ru s1 (hr.ls (p / 4)) s2 a2.t R.t hb rfl
  obtain ⟨_, _, ⟨l, hlg, hlb, hlo⟩, _⟩ := reachL_ok (ops_ok n) hr.ru (hr.ls (p / 4)) a2.t hb
  obtain ⟨_, hns⟩ := hat l hlg
  have A : ∀ (j : Nat) (q : Rm), j ≠ hand → hb'.own[j]? = some q → ∀ l, InR l q → l.b = p / 4 → l.d = false := fun j q z hg l hl hlb => by
    obtain ⟨_, _, g⟩ := a4 j z q hg
    exact (g l hl).1 hlb
  refine ⟨HCoh.id (i := p / 4) (a1.step e hr.s0 S (fun hbk l' hl' => ?_) A (.inl ⟨fun _ => rfl, fun l' hl' hd' => hdirt l' hl' hd'⟩)), ?_, fun i hne hem q hq l' hl' => ?_, fun j hne q hq => ?_⟩
  · cases q : l'.d with
    | false => rfl
    | true =>
      obtain ⟨l0, g1, _, g3⟩ := hdirt l' hl' q
      rw [s3 hbk l0 g1] at g3
      cases g3
  · show (lnAt _ _).ns.getD (p % 4) 0 = _
    rw [lnAt_get hlg, hns]
    have := a1.eff_of e hr.s0 (c := p / 4) fun j q z hg => A j q z hg
    rw [← this]
  · have hq : (hb'.own.set hand _)[i]? = some q := hq
    rw [List.getElem?_set_ne (Ne.symm hne)] at hq
    obtain ⟨r0, g1, g2⟩ := a4 i hne q hq
    obtain ⟨_, _, l0, g3, _⟩ := g2 l' hl'
    exact hem r0 g1 l0 g3
  · have hq : (hb'.own.set hand _)[j]? = some q := hq
    rw [List.getElem?_set_ne (Ne.symm hne)] at hq
    exact A j q hne hq
theorem HCoh.change (h : HCoh ha pl) (hk : HaOk n m ha) {hand p : Nat} (hh : hand < m) (hp : p < 64) (v : Int) :
    HCoh (hChange n ha hand p v) (fun c => if c = p / 4 then (pl (p / 4)).set (p % 4) v else pl c) ∧ (∀ i, i ≠ hand → empty ha i → empty (hChange n ha hand p v) i) ∧ ∀ j, j ≠ hand → ∀ q, (hChange n ha hand p v).own[j]? = some q → ∀ l, InR l q → l.b ≠ p / 4 := by
  have hb : p / 4 < 16 := by omega
  obtain ⟨a1, a2, a3, a4⟩ := h.ask hk hb hand true
  unfold hChange
  have hlt : hand < ha.own.length := by rw [hk.len]; exact hh
  generalize Ww.ask n ha hand (p / 4) true = hb' at a1 a2 a3 a4 ⊢
  unfold changeAt
  have e : hb'.own[hand]? = some ha.own[hand] := by rw [a3, List.getElem?_eq_getElem hlt]
  rw [e]
  generalize ha.own[hand] = r at e ⊢
  have hr := a2.own r (List.mem_of_getElem? e)
  have R := a1.rw e hr.s0
  obtain ⟨s1, s2, s3⟩ := R.set hr.s0 (p / 4)
  obtain ⟨S, sd⟩ := change_sem (ops_c n) (ops_ok n) hr.ru s1 (hr.ls (p / 4)) s2 a2.t R.t hp rfl v s3
  have A : ∀ (j : Nat) (q : Rm), j ≠ hand → hb'.own[j]? = some q → ∀ l, InR l q → l.b ≠ p / 4 := fun j q z hg l hl => by
    obtain ⟨_, _, g⟩ := a4 j z q hg
    exact (g l hl).2.1 rfl
  refine ⟨a1.step e hr.s0 S sd (fun j q z hg l hl hlb => absurd hlb (A j q z hg l hl)) (.inr A), fun i hne hem q hq l' hl' => ?_, fun j hne q hq => ?_⟩
  · have hq : (hb'.own.set hand _)[i]? = some q := hq
    rw [List.getElem?_set_ne (Ne.symm hne)] at hq
    obtain ⟨r0, g1, g2⟩ := a4 i hne q hq
    obtain ⟨_, _, l0, g3, _⟩ := g2 l' hl'
    exact hem r0 g1 l0 g3
  · have hq : (hb'.own.set hand _)[j]? = some q := hq
    rw [List.getElem?_set_ne (Ne.symm hne)] at hq
    exact A j q hne hq
end
/-! ### a new hall -/
theorem mkRm_none {u : Rul} {tl : List V} {l : Ln} : ¬ InR l (mkRm u tl) := by
  rintro ⟨ls, hm, hl⟩
  have : ls = [] := (List.mem_replicate.mp hm).2
  rw [this] at hl
  cases hl
theorem mkRm_w (u : Rul) (tl : List V) : RmW (mkRm u tl) := fun k ls hk => by
  have := (List.mem_replicate.mp (List.mem_of_getElem? hk)).2
  rw [this]
  exact ⟨List.nodup_nil, fun l hl => by cases hl⟩
theorem shRs_w : ∀ (lev : Nat) (us : List Rul) (far : List Int), ChW (shRs lev us) far ∧ ∀ c, effC (shRs lev us) far c = getBlk far c
  | _, [], far => ⟨trivial, fun _ => rfl⟩
  | lev, u :: us, far => by
    obtain ⟨h1, h2⟩ := shRs_w (lev + 1) us far
    refine ⟨⟨mkRm_w u _, fun ls hm => ⟨fun l hl => absurd ⟨ls, hm, hl⟩ mkRm_none, fun _ l hl => absurd ⟨ls, hm, hl⟩ mkRm_none⟩, h1⟩, fun c => ?_⟩
    show effS ((mkRm u [.int lev, .int 0]).ls c) (effC (shRs (lev + 1) us) far) c = _
    have : (mkRm u [.int lev, .int 0]).ls c = [] := by
      unfold Rm.ls
      rw [List.getD_eq_getElem?_getD]
      cases q : (mkRm u [.int lev, .int 0]).ss[(mkRm u [.int lev, .int 0]).ix c]? with
      | none => rfl
      | some x => exact (List.mem_replicate.mp (List.mem_of_getElem? q)).2
    rw [this]
    exact h2 c
theorem hall0_coh (us : List Rul) (m : Nat) : HCoh (hall0 us m) (getBlk (List.replicate 64 0)) ∧ ∀ i, empty (hall0 us m) i := by
  have hno : ∀ r ∈ (hall0 us m).own, ∀ l, ¬ InR l r := fun r hr l => by
    obtain ⟨i, _, rfl⟩ := List.mem_map.mp hr
    exact mkRm_none
  obtain ⟨h1, h2⟩ := shRs_w 1 (us.drop 1) (List.replicate 64 0)
  refine ⟨⟨fun r hr => ?_, fun r hr _ l hl => absurd hl (hno r hr l), h1, fun r hr l hl => absurd hl (hno r hr l), fun i j r q _ hr _ l _ hl => absurd hl (hno r (List.mem_of_getElem? hr) l), fun c _ => h2 c⟩, fun i r hr l => hno r (List.mem_of_getElem? hr) l⟩
  obtain ⟨i, _, rfl⟩ := List.mem_map.mp hr
  exact mkRm_w _ _
-- WwP
/-! ### the hands' lines, one behind the other -/
def linesOf (own : List Rm) : Nat → List (Nat × Ln)
  | 0 => []
  | i + 1 => linesOf own i ++ (match own[i]? with
    | none => []
    | some r => r.ss.flatten.map (Prod.mk i))
theorem linesOf_succ {own : List Rm} {i : Nat} {r : Rm} (e : own[i]? = some r) : linesOf own (i + 1) = linesOf own i ++ r.ss.flatten.map (Prod.mk i) := by
  show linesOf own i ++ _ = _
  rw [e]
theorem linesOf_mem {own : List Rm} : ∀ {i : Nat} {x : Nat × Ln}, x ∈ linesOf own i → ∃ r, own[x.1]? = some r ∧ InR x.2 r ∧ x.1 < i
  | 0, x, h => by cases h
  | i + 1, x, h => by
    rcases List.mem_append.mp h with h | h
    · obtain ⟨r, h1, h2, h3⟩ := linesOf_mem h
      exact ⟨r, h1, h2, by omega⟩
    · cases e : own[i]? with
      | none =>
        rw [e] at h
        cases h
      | some r =>
        rw [e] at h
        obtain ⟨l, hl, rfl⟩ := List.mem_map.mp h
        obtain ⟨ls, hm, hl⟩ := List.mem_flatten.mp hl
        exact ⟨r, e, ⟨ls, hm, hl⟩, by show i < i + 1; omega⟩
theorem flat_le : ∀ {ss : List (List Ln)}, (∀ ls ∈ ss, ls.length ≤ 4) → ss.flatten.length ≤ 4 * ss.length
  | [], _ => by simp
  | ls :: ss, h => by
    have := flat_le (ss := ss) fun l hl => h l (List.mem_cons_of_mem _ hl)
    have := h ls List.mem_cons_self
    simp only [List.flatten_cons, List.length_append, List.length_cons]
    omega
theorem rm_flat {r : Rm} (h : RmOk r) : r.ss.flatten.length ≤ 16 := by
  have := flat_le (ss := r.ss) fun ls hl => by
    have := (h.ln ls hl).len
    have := h.ru.w4
    omega
  have := h.s4
  omega
theorem linesOf_len {own : List Rm} (h : ∀ r ∈ own, RmOk r) : ∀ i, (linesOf own i).length ≤ 16 * i
  | 0 => by simp [linesOf]
  | i + 1 => by
    have ih := linesOf_len h i
    cases e : own[i]? with
    | none =>
      show (linesOf own i ++ _).length ≤ _
      rw [e, List.append_nil]
      omega
    | some r =>
      have := rm_flat (h r (List.mem_of_getElem? e))
      rw [linesOf_succ e, List.length_append, List.length_map]
      omega
theorem flat_nodup {s : Nat} : ∀ (off : Nat) {ss : List (List Ln)}, (∀ k ls, ss[k]? = some ls → SetW s (off + k) ls) → (ss.flatten.map (·.b)).Nodup
  | _, [], _ => List.nodup_nil
  | off, ls :: ss, h => by
    have h0 := h 0 ls rfl
    have ht := flat_nodup (off + 1) (ss := ss) fun k l hl => by
      have := h (k + 1) l (by simpa using hl)
      rwa [show off + 1 + k = off + (k + 1) by omega]
    rw [List.flatten_cons, List.map_append]
    refine List.nodup_append.mpr ⟨h0.nd, ht, fun a ha b hb e => ?_⟩
    obtain ⟨l, hl, rfl⟩ := List.mem_map.mp ha
    obtain ⟨l2, hl2, rfl⟩ := List.mem_map.mp hb
    obtain ⟨ls2, hm2, hl2⟩ := List.mem_flatten.mp hl2
    obtain ⟨k, hk, ek⟩ := List.mem_iff_getElem.mp hm2
    have g : ss[k]? = some ls2 := by rw [List.getElem?_eq_getElem hk, ek]
    have a1 := h0.ix l hl
    have a2 := (h (k + 1) ls2 (by simpa using g)).ix l2 hl2
    have e : l.b = l2.b := e
    rw [e] at a1
    omega
theorem rm_nodup {r : Rm} (w : RmW r) : (r.ss.flatten.map (·.b)).Nodup := flat_nodup (s := r.ss.length) 0 fun k ls hk => by
  rw [Nat.zero_add]
  exact w k ls hk
def dirtyB (L : List (Nat × Ln)) : List Int := (L.filter (·.2.d)).map fun x => (x.2.b : Int)
theorem dirtyB_nodup {ha : Ha} {pl : Nat → List Int} (h : HCoh ha pl) : ∀ i, (dirtyB (linesOf ha.own i)).Nodup
  | 0 => List.nodup_nil
  | i + 1 => by
    have ih := dirtyB_nodup h i
    cases e : ha.own[i]? with
    | none =>
      have : linesOf ha.own (i + 1) = linesOf ha.own i := by
        show linesOf ha.own i ++ _ = _
        rw [e, List.append_nil]
      rw [this]
      exact ih
    | some r =>
      rw [linesOf_succ e]
      unfold dirtyB
      rw [List.filter_append, List.map_append]
      refine List.nodup_append.mpr ⟨ih, ?_, fun a ha b hb eq => ?_⟩
      · rw [List.filter_map, List.map_map]
        have : ((fun x : Nat × Ln => (x.2.b : Int)) ∘ Prod.mk i) = ((fun n : Nat => (n : Int)) ∘ fun l : Ln => l.b) := rfl
        rw [this, ← List.map_map]
        refine List.Pairwise.map _ (S := fun a b : Int => a ≠ b) (R := fun a b : Nat => a ≠ b) (fun a b hab z => hab (Int.ofNat.inj z)) ?_
        exact List.Nodup.sublist (List.filter_sublist.map _) (rm_nodup (h.w r (List.mem_of_getElem? e)))
      · obtain ⟨x, hx, rfl⟩ := List.mem_map.mp ha
        obtain ⟨y, hy, rfl⟩ := List.mem_map.mp hb
        obtain ⟨hx1, hx2⟩ := List.mem_filter.mp hx
        obtain ⟨hy1, hy2⟩ := List.mem_filter.mp hy
        obtain ⟨l, hl, rfl⟩ := List.mem_map.mp hy1
        obtain ⟨ls, hm, hl⟩ := List.mem_flatten.mp hl
        obtain ⟨q, g1, g2, g3⟩ := linesOf_mem hx1
        have eq : (x.2.b : Int) = (l.b : Int) := eq
        exact h.one x.1 i q r (by omega) g1 e x.2 l g2 ⟨ls, hm, hl⟩ hx2 (by omega)
def LnsAt (N : List Cell) : List Addr → List (Nat × Ln) → Prop
  | [], [] => True
  | a :: as, x :: xs => (∃ na, (a, HO.tup [.int x.1, .int x.2.b, .ref na, .bl x.2.d]) ∈ N ∧ (na, HO.tup (x.2.ns.map V.int)) ∈ N) ∧ LnsAt N as xs
  | _, _ => False
theorem LnsAt.len {N : List Cell} : ∀ {as : List Addr} {xs : List (Nat × Ln)}, LnsAt N as xs → as.length = xs.length
  | [], [], _ => rfl
  | [], _ :: _, h => h.elim
  | _ :: _, [], h => h.elim
  | _ :: _, _ :: _, h => congrArg (· + 1) (LnsAt.len h.2)
theorem LnsAt.get {N : List Cell} : ∀ {as : List Addr} {xs : List (Nat × Ln)} {i : Nat} {a : Addr}, LnsAt N as xs → as[i]? = some a → ∃ x, xs[i]? = some x ∧ ∃ na, (a, HO.tup [.int x.1, .int x.2.b, .ref na, .bl x.2.d]) ∈ N ∧ (na, HO.tup (x.2.ns.map V.int)) ∈ N
  | [], _, i, a, _, e => by simp at e
  | _ :: _, [], _, _, h, _ => h.elim
  | b :: as, u :: us, 0, a, h, e => by
    simp at e
    subst e
    exact ⟨u, rfl, h.1⟩
  | b :: as, u :: us, i + 1, a, h, e => by
    obtain ⟨v, h1, h2⟩ := LnsAt.get (i := i) (a := a) h.2 (by simpa using e)
    exact ⟨v, by simpa using h1, h2⟩
theorem LnsAt.mono {N N' : List Cell} (hs : ∀ c ∈ N, c ∈ N') : ∀ {as : List Addr} {xs : List (Nat × Ln)}, LnsAt N as xs → LnsAt N' as xs
  | [], [], _ => trivial
  | [], _ :: _, h => h.elim
  | _ :: _, [], h => h.elim
  | _ :: _, _ :: _, h => ⟨let ⟨na, h1, h2⟩ := h.1; ⟨na, hs _ h1, hs _ h2⟩, LnsAt.mono hs h.2⟩
theorem LnsAt.app {N : List Cell} : ∀ {as bs : List Addr} {xs ys : List (Nat × Ln)}, LnsAt N as xs → LnsAt N bs ys → LnsAt N (as ++ bs) (xs ++ ys)
  | [], _, [], _, _, k => k
  | [], _, _ :: _, _, h, _ => h.elim
  | _ :: _, _, [], _, h, _ => h.elim
  | _ :: _, _, _ :: _, _, h, k => ⟨h.1, LnsAt.app h.2 k⟩
theorem DpL.lnI {N : List Cell} {v : V} {l : Ln} (h : DpL N v (lnD l)) : ∃ p na, v = .ref p ∧ (p, HO.tup [.int l.b, .ref na, .bl l.d]) ∈ N ∧ (na, HO.tup (l.ns.map V.int)) ∈ N := by
  obtain ⟨p, vs, rfl, h1, h2⟩ := h.tupI
  cases h2 with
  | cons a h2 =>
    cases h2 with
    | cons b h2 =>
      cases h2 with
      | cons c h2 =>
        cases h2
        cases a
        cases c
        obtain ⟨na, ws, rfl, h3, h4⟩ := b.tupI
        rw [h4.intsI] at h3
        exact ⟨p, na, rfl, h1, h3⟩
def dCells (cs : List Int) : Deed → List Int
  | .look _ _ => cs
  | .set _ p v => cs.set p v
theorem dCells_len {cs : List Int} {d : Deed} : (dCells cs d).length = cs.length := by
  cases d with
  | look => rfl
  | set h p v => exact List.length_set
theorem deed_coh {n m : Nat} {ha : Ha} {cs : List Int} {d : Deed} (h : HCoh ha (getBlk cs)) (hk : HaOk n m ha) (hcs : cs.length = 64) (hd : d.ok m) :
    HCoh (doDeed n ha d).2 (getBlk (dCells cs d)) ∧ (∀ i, i ≠ d.h → empty ha i → empty (doDeed n ha d).2 i) ∧
      ∀ j, j ≠ d.h → ∀ q, (doDeed n ha d).2.own[j]? = some q → ∀ l, InR l q → l.b = d.p / 4 → l.d = false ∧ ∃ h p, d = .look h p := by
  cases d with
  | look hh p =>
    obtain ⟨h1, _, h3, h4⟩ := h.look hk hd.1 hd.2
    exact ⟨h1, h3, fun j hj q hq l hl hb => ⟨h4 j hj q hq l hl hb, hh, p, rfl⟩⟩
  | set hh p v =>
    obtain ⟨h1, h3, h4⟩ := h.change hk hd.1 hd.2.1 v
    refine ⟨?_, h3, fun j hj q hq l hl hb => absurd hb (h4 j hj q hq l hl)⟩
    have : (fun c => if c = p / 4 then (getBlk cs (p / 4)).set (p % 4) v else getBlk cs c) = getBlk (cs.set p v) := by
      funext c
      rw [cell_get hcs hd.2.1 v c]
      split
      · rename_i z
        rw [z]
      · rfl
    rw [this] at h1
    exact h1
theorem cut_blk {cs : List Int} (h : cs.length = 64) {b : Nat} (hb : b < 16) : cutV (cs.map V.int) (some ((4 : Int) * (b : Int))) (some ((4 : Int) * (b : Int) + 4)) = (getBlk cs b).map V.int := by
  have e1 : (4 : Int) * (b : Int) = ((b * 4 : Nat) : Int) := by omega
  have e2 : (4 : Int) * (b : Int) + 4 = ((b * 4 + 4 : Nat) : Int) := by omega
  rw [e2, e1, cutV_nat (by omega) (by rw [List.length_map]; omega)]
  unfold getBlk
  rw [List.map_take, List.map_drop]
  congr 1
  omega
theorem fnOr {P : Program} {w : World} {K : PySem.W.Frag} {mg : Str → Option Value} {base : Heap} {CX : CXT} {k : Nat} {f : Addr} {fd : FuncData} {ps : List Str} {sp sp' : Sp} (F : FnOk P w K mg base CX k f fd ps sp) (G : FnOk P w K mg base CX k f fd ps sp') :
    FnOk P w K mg base CX k f fd ps (fun vs H Q E => sp vs H Q E ∨ sp' vs H Q E) :=
  ⟨fun vs H Q E h => h.elim (F.len vs H Q E) (G.len vs H Q E), fun A outer s H args us vs Q E hr he hb hv hs => hs.elim (F.run A outer s H args us vs Q E hr he hb hv) (G.run A outer s H args us vs Q E hr he hb hv)⟩
theorem Deed.at1 (d : Deed) : atI d.vs 1 = some (.int d.h) := by cases d <;> rfl
theorem Deed.at2 (d : Deed) : atI d.vs 2 = some (.int d.p) := by cases d <;> rfl
theorem DeedsAt.mono {R R' : List Cell} {p : Addr} {ds : List Deed} (h : DeedsAt R p ds) (hs : ∀ c ∈ R, c ∈ R') : DeedsAt R' p ds := by
  obtain ⟨as, h1, h2⟩ := h
  exact ⟨as, hs _ h1, h2.mono hs⟩
theorem DeedsAt.get {R : List Cell} {p : Addr} {ds : List Deed} (h : DeedsAt R p ds) : ∃ as : List Addr, as.length = ds.length ∧ (p, HO.lst (as.map V.ref)) ∈ R ∧ ∀ {i : Nat} {x : V}, (as.map V.ref)[i]? = some x → ∃ (a : Addr) (d : Deed), x = .ref a ∧ as[i]? = some a ∧ ds[i]? = some d ∧ (a, HO.tup d.vs) ∈ R := by
  obtain ⟨as, h1, h2⟩ := h
  refine ⟨as, by have := h2.len; rwa [List.length_map] at this, h1, fun {i x} hi => ?_⟩
  rw [List.getElem?_map] at hi
  cases e : as[i]? with
  | none =>
    rw [e] at hi
    cases hi
  | some a =>
    rw [e] at hi
    obtain ⟨u, hu1, hu2⟩ := h2.get e
    rw [List.getElem?_map] at hu1
    cases e2 : ds[i]? with
    | none =>
      rw [e2] at hu1
      cases hu1
    | some d =>
      rw [e2] at hu1
      have : d.vs = u := Option.some.inj hu1
      subst this
      exact ⟨a, d, (Option.some.inj hi).symm, rfl, rfl, hu2⟩
-- WwS
/-! ### settling -/
section
variable {o : Ops} {u : Ru}
theorem settleL_app : ∀ (a b : List Ln) (t : Ta), settleL o u (a ++ b) t = ((settleL o u a t).1 ++ (settleL o u b (settleL o u a t).2).1, (settleL o u b (settleL o u a t).2).2)
  | [], b, t => rfl
  | l :: a, b, t => by
    have ih := settleL_app a b (if l.d = true then passH o u.tl t l.b l.ns else t)
    show (_ :: (settleL o u (a ++ b) _).1, (settleL o u (a ++ b) _).2) = _
    rw [ih]
    rfl
theorem settleS_app : ∀ (a b : List (List Ln)) (t : Ta), settleS o u (a ++ b) t = ((settleS o u a t).1 ++ (settleS o u b (settleS o u a t).2).1, (settleS o u b (settleS o u a t).2).2)
  | [], b, t => rfl
  | l :: a, b, t => by
    have ih := settleS_app a b (settleL o u l t).2
    show (_ :: (settleS o u (a ++ b) _).1, (settleS o u (a ++ b) _).2) = _
    rw [ih]
    rfl
theorem settleL_fst : ∀ (ls : List Ln) (t : Ta), (settleL o u ls t).1 = ls.map fun l => { l with d := false }
  | [], t => rfl
  | l :: r, t => by
    show _ :: (settleL o u r _).1 = _
    rw [settleL_fst r]
    rfl
theorem settleS_fst : ∀ (ss : List (List Ln)) (t : Ta), (settleS o u ss t).1 = ss.map fun ls => ls.map fun l => { l with d := false }
  | [], t => rfl
  | ls :: r, t => by
    show (settleL o u ls t).1 :: (settleS o u r _).1 = _
    rw [settleS_fst r, settleL_fst]
    rfl
end
def cleanR (r : Rm) : Rm := { r with ss := r.ss.map fun ls => ls.map fun l => { l with d := false } }
def settleR (n : Nat) (r : Rm) (t : Ta) : Rm × Ta := (cleanR r, (settleS (ops n) r.ru r.ss t).2)
theorem settleS_ok {n g : Nat} {o : Ops} {u : Ru} (O : OpsOk n g o) : ∀ {ss : List (List Ln)} {t : Ta}, (∀ ls ∈ ss, ls.length ≤ 4 ∧ ∀ l ∈ ls, LnOk l) → TaOk n t → TaOk n (settleS o u ss t).2 ∧ (settleS o u ss t).2.log.length ≤ t.log.length + 4 * ss.length * (g + 1)
  | [], t, _, h => ⟨h, by show t.log.length ≤ _; omega⟩
  | ls :: r, t, hs, h => by
    obtain ⟨h1, h2⟩ := hs ls List.mem_cons_self
    obtain ⟨_, _, s3, s4⟩ := settleL_ok (u := u) O h2 h
    obtain ⟨i1, i2⟩ := settleS_ok (u := u) O (ss := r) (fun l hl => hs l (List.mem_cons_of_mem _ hl)) s3
    refine ⟨i1, ?_⟩
    show (settleS o u r (settleL o u ls t).2).2.log.length ≤ _
    have e : ls.length * (g + 1) ≤ 4 * (g + 1) := Nat.mul_le_mul_right _ h1
    have e2 : 4 * (ls :: r).length * (g + 1) = 4 * r.length * (g + 1) + 4 * (g + 1) := by
      rw [List.length_cons, show 4 * (r.length + 1) = 4 * r.length + 4 by omega, Nat.add_mul]
    omega
theorem settleR_ok {n : Nat} {r : Rm} {t : Ta} (hr : RmOk r) (h : TaOk n t) (hn : n ≤ 2) : RmOk (settleR n r t).1 ∧ TaOk n (settleR n r t).2 ∧ (settleR n r t).2.log.length ≤ t.log.length + 208 := by
  obtain ⟨h1, h2⟩ := settleS_ok (u := r.ru) (ops_ok n) (ss := r.ss) (fun ls hl => ⟨by have := (hr.ln ls hl).len; have := hr.ru.w4; omega, (hr.ln ls hl).ok⟩) h
  refine ⟨⟨?_, ?_, hr.ru, fun ls hl => ?_⟩, h1, ?_⟩
  · show 0 < (r.ss.map _).length
    rw [List.length_map]
    exact hr.s0
  · show (r.ss.map _).length ≤ 4
    rw [List.length_map]
    exact hr.s4
  · obtain ⟨ls0, h0, rfl⟩ := List.mem_map.mp hl
    refine ⟨by rw [List.length_map]; exact (hr.ln ls0 h0).len, fun l hl => ?_⟩
    obtain ⟨l0, hl0, rfl⟩ := List.mem_map.mp hl
    have := (hr.ln ls0 h0).ok l0 hl0
    exact ⟨this.b, this.ns⟩
  · show (settleS (ops n) r.ru r.ss t).2.log.length ≤ _
    have := g12 hn
    have := hr.s4
    have e : 4 * r.ss.length * (gOf n + 1) ≤ 16 * 13 := Nat.mul_le_mul (by omega) (by omega)
    omega
def spRSettle (K : PySem.W.Frag) : Sp := fun vs H Q _ => ∃ (n : Nat) (a : Addr) (be : Pa) (di : Addr) (r : Rm) (t : Ta) (C1 C D R : List Cell), vs = [.ref a] ∧ n ≤ 2 ∧ RmOk r ∧ TaOk n t ∧ t.log.length ≤ 990000 ∧ RmRepK K di a be r C1 ∧ RepK K di be t.rs t.far C ∧ DRep di t.log D ∧ Own H (C1 ++ (C ++ (D ++ R))) ∧
  ∀ H' : Hp, RPost K di a be R (settleR n r t).1 (settleR n r t).2 H' → Q .non H'
section
variable {P : Program} {w : World} {K : PySem.W.Frag} {mg : Str → Option Value} {base : Heap} {n lv : Nat}
theorem get_mid {α : Type} {a b : List α} {i : Nat} (h : a.length = i) : (a ++ b)[i]? = b[0]? := by
  rw [List.getElem?_append_right (by omega), h, Nat.sub_self]
end
-- WwS2
/-! ### a hall settles -/
def ownT (n : Nat) : List Rm → Ta → Ta
  | [], t => t
  | r :: rs, t => ownT n rs (settleR n r t).2
def shT : Nat → Ta → Ta
  | 0, t => t
  | n + 1, t => match t.rs with
    | [] => t
    | r :: rs => Ta.cons (cleanR r) (shT n (settleR n r { t with rs := rs }).2)
def hSettle (n : Nat) (ha : Ha) : Ha := ⟨ha.own.map cleanR, shT n (ownT n ha.own ha.t)⟩
theorem shT_cons {n : Nat} {t : Ta} {r : Rm} {rs : List Rm} (e : t.rs = r :: rs) : shT (n + 1) t = Ta.cons (cleanR r) (shT n (settleR n r { t with rs := rs }).2) := by
  show (match t.rs with | [] => t | r :: rs => _) = _
  rw [e]
theorem ownT_snoc {n : Nat} : ∀ (a : List Rm) (r : Rm) (t : Ta), ownT n (a ++ [r]) t = (settleR n r (ownT n a t)).2
  | [], r, t => rfl
  | b :: a, r, t => ownT_snoc a r _
theorem ownT_ok {n : Nat} (hn : n ≤ 2) : ∀ {rs : List Rm} {t : Ta}, (∀ r ∈ rs, RmOk r) → TaOk n t → TaOk n (ownT n rs t) ∧ (ownT n rs t).log.length ≤ t.log.length + 208 * rs.length
  | [], t, _, h => ⟨h, by show t.log.length ≤ _; omega⟩
  | r :: rs, t, hr, h => by
    obtain ⟨_, h2, h3⟩ := settleR_ok (hr r List.mem_cons_self) h hn
    obtain ⟨i1, i2⟩ := ownT_ok hn (rs := rs) (fun q hq => hr q (List.mem_cons_of_mem _ hq)) h2
    refine ⟨i1, ?_⟩
    show (ownT n rs (settleR n r t).2).log.length ≤ _
    rw [List.length_cons]
    omega
theorem cleanR_ok {r : Rm} (hr : RmOk r) : RmOk (cleanR r) := by
  refine ⟨?_, ?_, hr.ru, fun ls hl => ?_⟩
  · show 0 < (r.ss.map _).length
    rw [List.length_map]
    exact hr.s0
  · show (r.ss.map _).length ≤ 4
    rw [List.length_map]
    exact hr.s4
  · obtain ⟨ls0, h0, rfl⟩ := List.mem_map.mp hl
    refine ⟨by rw [List.length_map]; exact (hr.ln ls0 h0).len, fun l hl => ?_⟩
    obtain ⟨l0, hl0, rfl⟩ := List.mem_map.mp hl
    have := (hr.ln ls0 h0).ok l0 hl0
    exact ⟨this.b, this.ns⟩
theorem shT_ok : ∀ {n : Nat} {t : Ta}, n ≤ 2 → TaOk n t → TaOk n (shT n t) ∧ (shT n t).log.length ≤ t.log.length + 208 * n
  | 0, t, _, h => ⟨h, by show t.log.length ≤ _; omega⟩
  | n + 1, t, hn, h => by
    obtain ⟨r, rs, e, hr, ht⟩ := h.uncons
    obtain ⟨_, h2, h3⟩ := settleR_ok hr ht (by omega)
    obtain ⟨i1, i2⟩ := shT_ok (n := n) (by omega) h2
    rw [shT_cons e]
    refine ⟨cons_ok (cleanR_ok hr) i1, ?_⟩
    show (shT n _).log.length ≤ _
    have : ({ t with rs := rs } : Ta).log.length = t.log.length := rfl
    omega
theorem hSettle_ok {n m : Nat} {ha : Ha} (h : HaOk n m ha) : HaOk n m (hSettle n ha) ∧ (hSettle n ha).t.log.length ≤ ha.t.log.length + 1100 := by
  obtain ⟨h1, h2⟩ := ownT_ok h.n2 h.own h.t
  obtain ⟨h3, h4⟩ := shT_ok h.n2 h1
  have e1 := h.len
  have e2 := h.n2
  have e3 := h.m3
  refine ⟨⟨h3, by show (ha.own.map _).length = m; rw [List.length_map]; exact h.len, fun r hr => ?_, h.n2, h.m1, h.m3⟩, ?_⟩
  · obtain ⟨q, hq, rfl⟩ := List.mem_map.mp hr
    exact cleanR_ok (h.own q hq)
  · show (shT n (ownT n ha.own ha.t)).log.length ≤ _
    omega
def spHSettle (K : PySem.W.Frag) : Sp := fun vs H Q _ => ∃ (x : Addr) (n m : Nat) (ha : Ha) (C R : List Cell), vs = [.ref x] ∧ HaOk n m ha ∧ LH ha ∧ HallRep K x ha C ∧ Own H (C ++ R) ∧
  ∀ (C' : List Cell) (H' : Hp), HallRep K x (hSettle n ha) C' → Own H' (C' ++ R) → Q .non H'
def spHLog (K : PySem.W.Frag) : Sp := fun vs H Q _ => ∃ (x : Addr) (n m : Nat) (ha : Ha) (C R : List Cell), vs = [.ref x] ∧ HaOk n m ha ∧ LH ha ∧ HallRep K x ha C ∧ Own H (C ++ R) ∧
  ∀ (p : Addr) (as : List Addr) (H' : Hp), TA C as (ha.t.log.map Ent.vs) → Own H' ((p, .lst (as.map V.ref)) :: (C ++ R)) → Q (.ref p) H'
theorem logC_TA : ∀ {as : List Addr} {es : List Ent}, as.length = es.length → TA (logC as es) as (es.map Ent.vs)
  | [], [], _ => trivial
  | [], _ :: _, h => by cases h
  | _ :: _, [], h => by cases h
  | a :: as, e :: es, h => ⟨List.mem_cons_self, (logC_TA (as := as) (es := es) (by simpa using h)).mono fun c hc => List.mem_cons_of_mem _ hc⟩
section
variable {P : Program} {w : World} {K : PySem.W.Frag} {mg : Str → Option Value} {base : Heap} {n lv : Nat}
end
-- WwCoh4
/-! ### what settling means -/
section
variable {n : Nat} {o : Ops} {u : Ru} {s : Nat}
theorem settleL_sem (O : OpsC n o) (Ok : OpsOk n (gOf n) o) : ∀ {k : Nat} {ls : List Ln} {t : Ta}, SetW s k ls → (∀ l ∈ ls, LnOk l) → Cln ls (eff t) → TaOk n t → TaW t → TaW (settleL o u ls t).2 ∧ ∀ c, eff (settleL o u ls t).2 c = effS ls (eff t) c
  | k, [], t, w, hl, hc, h, hw => ⟨hw, fun c => rfl⟩
  | k, l :: r, t, w, hl, hc, h, hw => by
    have hlo := hl l List.mem_cons_self
    have key : TaOk n (if l.d = true then passH o u.tl t l.b l.ns else t) ∧ TaW (if l.d = true then passH o u.tl t l.b l.ns else t) ∧ ∀ c, eff (if l.d = true then passH o u.tl t l.b l.ns else t) c = if c = l.b then l.ns else eff t c := by
      split
      · obtain ⟨h1, h2⟩ := passH_eff (tl := u.tl) O h hw hlo.b hlo.ns
        exact ⟨(passH_ok Ok h hlo.b hlo.ns).1, h1, h2⟩
      · rename_i hd
        refine ⟨h, hw, fun c => ?_⟩
        split
        · rename_i e
          rw [e]
          exact (hc l List.mem_cons_self (by simpa using hd)).symm
        · rfl
    show TaW (settleL o u r _).2 ∧ ∀ c, eff (settleL o u r _).2 c = _
    generalize (if l.d = true then passH o u.tl t l.b l.ns else t) = t1 at key ⊢
    obtain ⟨h1, h2, h3⟩ := key
    have hne : ∀ l' ∈ r, l'.b ≠ l.b := w.head
    obtain ⟨i1, i2⟩ := settleL_sem O Ok w.tail (fun l' hm => hl l' (List.mem_cons_of_mem _ hm)) (fun l' hm hd => by
      rw [h3, if_neg (hne l' hm)]
      exact hc l' (List.mem_cons_of_mem _ hm) hd) h1 h2
    refine ⟨i1, fun c => ?_⟩
    rw [i2]
    by_cases e : c = l.b
    · subst e
      rw [effS_no hne, h3, if_pos rfl, effS_mem w List.mem_cons_self]
    · refine effS_same ?_ fun _ => by rw [h3, if_neg e]
      show _ = (if l.b = c then some l else lnOf c r)
      rw [if_neg (Ne.symm e)]
theorem effS_out {k : Nat} {ls : List Ln} (w : SetW s k ls) {c : Nat} (h : c % s ≠ k) (e : Nat → List Int) : effS ls e c = e c := effS_no (fun l hl z => h (by rw [← z]; exact w.ix l hl)) e
theorem settleS_sem (O : OpsC n o) (Ok : OpsOk n (gOf n) o) : ∀ {off : Nat} {ss : List (List Ln)} {t : Ta}, (∀ k ls, ss[k]? = some ls → SetW s (off + k) ls) → (∀ ls ∈ ss, (∀ l ∈ ls, LnOk l) ∧ Cln ls (eff t)) → TaOk n t → TaW t →
    TaW (settleS o u ss t).2 ∧ ∀ c, (∀ k ls, ss[k]? = some ls → c % s = off + k → eff (settleS o u ss t).2 c = effS ls (eff t) c) ∧ ((∀ k, k < ss.length → c % s ≠ off + k) → eff (settleS o u ss t).2 c = eff t c)
  | off, [], t, w, hl, h, hw => ⟨hw, fun c => ⟨fun k ls hk => by simp at hk, fun _ => rfl⟩⟩
  | off, ls :: r, t, w, hl, h, hw => by
    have w0 : SetW s off ls := w 0 ls rfl
    obtain ⟨l1, l2⟩ := hl ls List.mem_cons_self
    obtain ⟨a1, a2⟩ := settleL_sem O Ok (u := u) w0 l1 l2 h hw
    obtain ⟨_, _, a3, _⟩ := settleL_ok (u := u) Ok l1 h
    have wr : ∀ k l, r[k]? = some l → SetW s (off + 1 + k) l := fun k l hk => by
      have := w (k + 1) l (by simpa using hk)
      rwa [show off + 1 + k = off + (k + 1) by omega]
    show TaW (settleS o u r (settleL o u ls t).2).2 ∧ _
    generalize ht1 : (settleL o u ls t).2 = t1 at a1 a2 a3
    obtain ⟨i1, i2⟩ := settleS_sem O Ok (off := off + 1) (ss := r) (t := t1) wr (fun l' hm => ⟨(hl l' (List.mem_cons_of_mem _ hm)).1, fun q hq hd => by
      obtain ⟨k, hk, ek⟩ := List.mem_iff_getElem.mp hm
      have hg : r[k]? = some l' := by rw [List.getElem?_eq_getElem hk, ek]
      have := (wr k l' hg).ix q hq
      rw [a2, effS_out w0 (by omega)]
      exact (hl l' (List.mem_cons_of_mem _ hm)).2 q hq hd⟩) a3 a1
    have es : settleS o u (ls :: r) t = ((settleL o u ls t).1 :: (settleS o u r t1).1, (settleS o u r t1).2) := by
      rw [← ht1]
      rfl
    rw [es]
    refine ⟨i1, fun c => ⟨fun k l hk hc => ?_, fun hc => ?_⟩⟩
    · show eff (settleS o u r t1).2 c = _
      cases k with
      | zero =>
        have : ls = l := by simpa using hk
        subst this
        rw [(i2 c).2 (fun k _ => by omega), a2]
      | succ k =>
        have hk : r[k]? = some l := by simpa using hk
        rw [(i2 c).1 k l hk (by omega)]
        exact effS_same rfl fun _ => by rw [a2, effS_out w0 (by omega)]
    · show eff (settleS o u r t1).2 c = _
      have h0 : c % s ≠ off := by
        have := hc 0 (by simp)
        omega
      rw [(i2 c).2 (fun k hk => by have := hc (k + 1) (by simp; omega); omega), a2, effS_out w0 h0]
end
section
variable {n m : Nat} {r : Rm} {t : Ta}
theorem settleR_sem (R : RW r t) (hr : RmOk r) (h : TaOk n t) : TaW (settleR n r t).2 ∧ ∀ c, eff (settleR n r t).2 c = effR r t c := by
  obtain ⟨h1, h2⟩ := settleS_sem (s := r.ss.length) (ops_c n) (ops_ok n) (u := r.ru) (off := 0) (ss := r.ss) (t := t) (fun k ls hk => by rw [Nat.zero_add]; exact R.w k ls hk) (fun ls hm => ⟨(hr.ln ls hm).ok, (R.c ls hm).1⟩) h R.t
  refine ⟨h1, fun c => ?_⟩
  refine (h2 c).1 (r.ix c) (r.ls c) (ls_get hr.s0 c) ?_
  rw [Nat.zero_add]
  rfl
theorem clean_len (r : Rm) : (cleanR r).ss.length = r.ss.length := by
  show (r.ss.map _).length = _
  rw [List.length_map]
theorem InR.unclean {l : Ln} (h : InR l (cleanR r)) : l.d = false ∧ ∃ l0, InR l0 r ∧ l0.b = l.b ∧ l0.ns = l.ns := by
  obtain ⟨ls, hm, hl⟩ := h
  obtain ⟨ls0, h0, rfl⟩ := List.mem_map.mp hm
  obtain ⟨l0, hl0, rfl⟩ := List.mem_map.mp hl
  exact ⟨rfl, l0, ⟨ls0, h0, hl0⟩, rfl, rfl⟩
theorem InR.clean {l : Ln} (h : InR l r) : InR { l with d := false } (cleanR r) := by
  obtain ⟨ls, hm, hl⟩ := h
  exact ⟨_, List.mem_map.mpr ⟨ls, hm, rfl⟩, List.mem_map.mpr ⟨l, hl, rfl⟩⟩
theorem clean_w (w : RmW r) : RmW (cleanR r) := fun k ls hk => by
  have hk : (r.ss.map fun ls => ls.map fun l => { l with d := false })[k]? = some ls := hk
  rw [List.getElem?_map] at hk
  cases e : r.ss[k]? with
  | none =>
    rw [e] at hk
    cases hk
  | some ls0 =>
    rw [e] at hk
    have := w k ls0 e
    rw [← Option.some.inj hk, clean_len]
    refine ⟨?_, fun l hl => ?_⟩
    · rw [List.map_map]
      exact this.nd
    · obtain ⟨l0, hl0, rfl⟩ := List.mem_map.mp hl
      exact this.ix l0 hl0
theorem clean_eff (R : RW r t) (hr : RmOk r) {t' : Ta} (he : ∀ c, eff t' c = effR r t c) : (∀ l, InR l (cleanR r) → l.ns = eff t' l.b) ∧ ∀ c, effR (cleanR r) t' c = effR r t c := by
  have h1 : ∀ l, InR l (cleanR r) → l.ns = eff t' l.b := fun l hl => by
    obtain ⟨_, l0, h0, e1, e2⟩ := hl.unclean
    rw [he, ← e1, ← e2]
    exact (effS_mem (R.w _ _ (ls_get hr.s0 l0.b)) (h0.ls R.w) _).symm
  refine ⟨h1, fun c => ?_⟩
  show effS ((cleanR r).ls c) (eff t') c = _
  cases q : lnOf c ((cleanR r).ls c) with
  | some l =>
    obtain ⟨g1, g2⟩ := lnOf_mem q
    unfold effS
    rw [q]
    show l.ns = _
    have h0 : 0 < (cleanR r).ss.length := by rw [clean_len]; exact hr.s0
    rw [h1 l (.of h0 g1), g2]
    exact he c
  | none =>
    unfold effS
    rw [q]
    exact he c
end
section
variable {n m : Nat} {ha : Ha} {pl : Nat → List Int}
theorem HCoh.settle1 (h : HCoh ha pl) (hk : HaOk n m ha) {i : Nat} {r : Rm} (e : ha.own[i]? = some r) : HCoh ⟨ha.own.set i (cleanR r), (settleR n r ha.t).2⟩ pl := by
  have hr := hk.own r (List.mem_of_getElem? e)
  have R := h.rw e hr.s0
  obtain ⟨s1, s2⟩ := settleR_sem R hr hk.t
  have hi := (List.getElem?_eq_some_iff.mp e).1
  have hrm := List.mem_of_getElem? e
  have oth : ∀ j, j ≠ i → (ha.own.set i (cleanR r))[j]? = ha.own[j]? := fun j z => List.getElem?_set_ne (Ne.symm z)
  have mine : (ha.own.set i (cleanR r))[i]? = some (cleanR r) := List.getElem?_set_self hi
  have memC : ∀ q ∈ ha.own.set i (cleanR r), q = cleanR r ∨ ∃ j, j ≠ i ∧ ha.own[j]? = some q := fun q hq => by
    obtain ⟨j, hj, ej⟩ := List.mem_iff_getElem.mp hq
    have hg : (ha.own.set i (cleanR r))[j]? = some q := by rw [List.getElem?_eq_getElem hj, ej]
    by_cases z : j = i
    · subst z
      rw [mine] at hg
      exact .inl (Option.some.inj hg).symm
    · rw [oth j z] at hg
      exact .inr ⟨j, z, hg⟩
  refine ⟨fun q hq => ?_, fun q hq hb l hl => ?_, s1, fun q hq l hl => ?_, fun j1 j2 q1 q2 hne g1 g2 l l2 hl hl2 hdl => ?_, fun c hc => ?_⟩
  · rcases memC q hq with z | ⟨j, _, hg⟩
    · rw [z]
      exact clean_w (h.w r hrm)
    · exact h.w q (List.mem_of_getElem? hg)
  · rcases memC q hq with z | ⟨j, _, hg⟩
    · rw [z] at hl
      exact hl.unclean.1
    · exact h.th q (List.mem_of_getElem? hg) hb l hl
  · rcases memC q hq with z | ⟨j, _, hg⟩
    · rw [z] at hl
      obtain ⟨_, l0, h0, e1, e2⟩ := hl.unclean
      rw [← e1, ← e2]
      exact h.pn r hrm l0 h0
    · exact h.pn q (List.mem_of_getElem? hg) l hl
  · have g1 : (ha.own.set i (cleanR r))[j1]? = some q1 := g1
    have g2 : (ha.own.set i (cleanR r))[j2]? = some q2 := g2
    by_cases z1 : j1 = i
    · rw [z1, mine] at g1
      cases g1
      rw [hl.unclean.1] at hdl
      cases hdl
    · rw [oth j1 z1] at g1
      by_cases z2 : j2 = i
      · rw [z2, mine] at g2
        cases g2
        obtain ⟨_, l0, h0, e1, _⟩ := hl2.unclean
        rw [← e1]
        exact h.one j1 i q1 r z1 g1 e l l0 hl h0 hdl
      · rw [oth j2 z2] at g2
        exact h.one j1 j2 q1 q2 hne g1 g2 l l2 hl hl2 hdl
  · show eff (settleR n r ha.t).2 c = pl c
    rw [s2]
    refine h.eff_of e hr.s0 fun j q zj hg l hl hcl => ?_
    refine hc q ?_ l hl hcl
    have : (ha.own.set i (cleanR r))[j]? = some q := by
      rw [oth j zj]
      exact hg
    exact List.mem_of_getElem? this
theorem own_ok {i : Nat} (hk : HaOk n m ha) (hi : i ≤ m) : HaOk n m ⟨(ha.own.take i).map cleanR ++ ha.own.drop i, ownT n (ha.own.take i) ha.t⟩ := by
  obtain ⟨g1, g2⟩ := ownT_ok hk.n2 (rs := ha.own.take i) (fun r hr => hk.own r (List.mem_of_mem_take hr)) hk.t
  have := hk.len
  refine ⟨g1, ?_, fun r hr => ?_, hk.n2, hk.m1, hk.m3⟩
  · show ((ha.own.take i).map cleanR ++ ha.own.drop i).length = m
    rw [List.length_append, List.length_map, List.length_take, List.length_drop]
    omega
  · rcases List.mem_append.mp hr with hr | hr
    · obtain ⟨r0, h0, rfl⟩ := List.mem_map.mp hr
      exact cleanR_ok (hk.own r0 (List.mem_of_mem_take h0))
    · exact hk.own r (List.mem_of_mem_drop hr)
theorem HCoh.settleN (h : HCoh ha pl) (hk : HaOk n m ha) : ∀ i, i ≤ m → HCoh ⟨(ha.own.take i).map cleanR ++ ha.own.drop i, ownT n (ha.own.take i) ha.t⟩ pl
  | 0, _ => h
  | i + 1, hi => by
    have ih := HCoh.settleN h hk i (by omega)
    have hio : i < ha.own.length := by rw [hk.len]; omega
    obtain ⟨r, er0⟩ : ∃ r, ha.own[i]? = some r := ⟨_, List.getElem?_eq_getElem hio⟩
    have hpl : ((ha.own.take i).map cleanR).length = i := by
      rw [List.length_map, List.length_take]
      omega
    have er : ((ha.own.take i).map cleanR ++ ha.own.drop i)[i]? = some r := by
      rw [get_mid hpl, List.getElem?_drop, Nat.add_zero, er0]
    have := ih.settle1 (own_ok hk (by omega)) er
    have et : ha.own.take (i + 1) = ha.own.take i ++ [r] := take_snoc er0
    have eo : ((ha.own.take i).map cleanR ++ ha.own.drop i).set i (cleanR r) = (ha.own.take (i + 1)).map cleanR ++ ha.own.drop (i + 1) := by
      rw [List.set_append_right _ _ (by omega), hpl, Nat.sub_self, et, List.map_append, List.append_assoc]
      have hdr : ha.own.drop i = r :: ha.own.drop (i + 1) := by
        rw [List.drop_eq_getElem_cons hio]
        congr 1
        rw [List.getElem?_eq_getElem hio] at er0
        exact Option.some.inj er0
      rw [hdr]
      rfl
    have et2 : ownT n (ha.own.take (i + 1)) ha.t = (settleR n r (ownT n (ha.own.take i) ha.t)).2 := by
      rw [et, ownT_snoc]
    have this : HCoh ⟨((ha.own.take i).map cleanR ++ ha.own.drop i).set i (cleanR r), (settleR n r (ownT n (ha.own.take i) ha.t)).2⟩ pl := this
    rw [eo, ← et2] at this
    exact this
/-- the shared rooms settle -/
theorem shT_sem : ∀ {n : Nat} {t : Ta}, n ≤ 2 → TaOk n t → TaW t → TaW (shT n t) ∧ (∀ c, eff (shT n t) c = eff t c) ∧ (∀ c, getBlk (shT n t).far c = eff t c) ∧ ∀ r ∈ (shT n t).rs, ∀ l, InR l r → l.d = false ∧ l.ns = getBlk (shT n t).far l.b
  | 0, t, _, h, hw => by
    have ers : t.rs = [] := List.length_eq_zero_iff.mp h.len
    refine ⟨hw, fun _ => rfl, fun c => ?_, fun r hr => ?_⟩
    · show getBlk t.far c = effC t.rs t.far c
      rw [ers]
      rfl
    · have hr : r ∈ t.rs := hr
      rw [ers] at hr
      cases hr
  | n + 1, t, hn, h, hw => by
    obtain ⟨r, rs, e, hr, ht⟩ := h.uncons
    have R := hw.uncons e
    obtain ⟨s1, s2⟩ := settleR_sem R hr ht
    obtain ⟨_, s3, _⟩ := settleR_ok hr ht (by omega)
    obtain ⟨i1, i2, i3, i4⟩ := shT_sem (n := n) (by omega) s3 s1
    rw [shT_cons e]
    have he : ∀ c, eff (shT n (settleR n r { t with rs := rs }).2) c = effR r { t with rs := rs } c := fun c => by rw [i2, s2]
    obtain ⟨c1, c2⟩ := clean_eff R hr he
    have hfar : ∀ c, getBlk (shT n (settleR n r { t with rs := rs }).2).far c = effR r { t with rs := rs } c := fun c => by rw [i3, s2]
    refine ⟨RW.cons ⟨clean_w R.w, fun ls hm => ⟨fun l hl _ => c1 l ⟨ls, hm, hl⟩, fun _ l hl => (InR.unclean ⟨ls, hm, hl⟩).1⟩, i1⟩, fun c => ?_, fun c => ?_, fun q hq l hl => ?_⟩
    · rw [eff_cons, c2, eff_uncons e]
    · rw [eff_uncons e]
      exact hfar c
    · show l.d = false ∧ l.ns = getBlk (shT n (settleR n r { t with rs := rs }).2).far l.b
      rcases List.mem_cons.mp hq with z | hq
      · rw [z] at hl
        refine ⟨hl.unclean.1, ?_⟩
        rw [c1 l hl, he, hfar]
      · exact i4 q hq l hl
theorem blk_ext {a b : List Int} (ha : a.length = 64) (hb : b.length = 64) (h : ∀ c, c < 16 → getBlk a c = getBlk b c) : a = b := by
  apply List.ext_getElem?
  intro i
  by_cases hi : i < 64
  · have := congrArg (fun z : List Int => z[i % 4]?) (h (i / 4) (by omega))
    unfold getBlk at this
    rw [List.getElem?_take_of_lt (by omega), List.getElem?_take_of_lt (by omega), List.getElem?_drop, List.getElem?_drop] at this
    have e : i / 4 * 4 + i % 4 = i := by omega
    rw [e] at this
    exact this
  · rw [List.getElem?_eq_none (by omega), List.getElem?_eq_none (by omega)]
/-- all settled: the far room is as plainly, each line has what it has, none is dirty -/
theorem HCoh.settled {cs : List Int} (h : HCoh ha (getBlk cs)) (hk : HaOk n m ha) (hcs : cs.length = 64) : HCoh (hSettle n ha) (getBlk cs) ∧ (hSettle n ha).t.far = cs ∧ (∀ r ∈ (hSettle n ha).own ++ (hSettle n ha).t.rs, RmW r ∧ ∀ l, InR l r → l.d = false ∧ l.ns = getBlk cs l.b) := by
  have h1 := h.settleN hk m (Nat.le_refl _)
  rw [List.take_of_length_le (by rw [hk.len]; exact Nat.le_refl _), List.drop_of_length_le (by rw [hk.len]; exact Nat.le_refl _), List.append_nil] at h1
  obtain ⟨g1, g2⟩ := ownT_ok hk.n2 hk.own hk.t
  obtain ⟨s1, s2, s3, s4⟩ := shT_sem hk.n2 g1 h1.t
  have hcl : ∀ r ∈ ha.own.map cleanR, ∀ l, InR l r → l.d = false := fun r hr l hl => by
    obtain ⟨r0, _, rfl⟩ := List.mem_map.mp hr
    exact hl.unclean.1
  have hef : ∀ c, eff (ownT n ha.own ha.t) c = getBlk cs c := fun c => h1.ef c fun r hr l hl _ => hcl r hr l hl
  obtain ⟨ok1, _⟩ := shT_ok hk.n2 g1
  have hfar : (hSettle n ha).t.far = cs := blk_ext ok1.far hcs fun c _ => (s3 c).trans (hef c)
  refine ⟨⟨h1.w, h1.th, s1, h1.pn, h1.one, fun c hc => (s2 c).trans (hef c)⟩, hfar, fun r hr => ?_⟩
  rcases List.mem_append.mp hr with hr | hr
  · exact ⟨h1.w r hr, fun l hl => ⟨hcl r hr l hl, h1.pn r hr l hl⟩⟩
  · have hw : ∀ (rs : List Rm) (far : List Int), ChW rs far → ∀ r ∈ rs, RmW r := by
      intro rs
      induction rs with
      | nil => intro far _ r hr; cases hr
      | cons a rs ih =>
        intro far hw r hr
        rcases List.mem_cons.mp hr with e | hr
        · rw [e]
          exact hw.1
        · exact ih far hw.2.2 r hr
    refine ⟨hw _ _ s1 r hr, fun l hl => ?_⟩
    obtain ⟨d1, d2⟩ := s4 r hr l hl
    refine ⟨d1, d2.trans ?_⟩
    have : (shT n (ownT n ha.own ha.t)).far = cs := hfar
    rw [this]
end
-- WwLog
/-! ### what stands in the log -/
def WdOk (w : Str) : Prop := w = "home" ∨ w = "bring" ∨ w = "cell"
def RuP (P : Ent → Prop) (u : Ru) : Prop := ∀ w k, WdOk w → P ⟨u.tl, w, k⟩
structure LogP (P : Ent → Prop) (t : Ta) : Prop where
  rs : ∀ r ∈ t.rs, RuP P r.ru
  log : ∀ e ∈ t.log, P e
structure OpsP (P : Ent → Prop) (o : Ops) : Prop where
  hm : ∀ t b ns, LogP P t → LogP P (o.hm t b ns)
  br : ∀ t b, LogP P t → LogP P (o.br t b).2
  ch : ∀ t p v, LogP P t → LogP P (o.ch t p v)
section
variable {P : Ent → Prop} {o : Ops} {u : Ru} {ls : List Ln} {t : Ta}
theorem note_p (h : LogP P t) (hu : RuP P u) (w : Str) (k : Nat) (hw : WdOk w) : LogP P (t.note u.tl w k) := ⟨h.rs, fun e he => by
  rcases List.mem_append.mp he with he | he
  · exact h.log e he
  · rw [List.mem_singleton.mp he]
    exact hu w k hw⟩
theorem passH_p (O : OpsP P o) (h : LogP P t) (hu : RuP P u) (b : Nat) (ns : List Int) : LogP P (passH o u.tl t b ns) := O.hm _ b ns (note_p h hu "home" b (.inl rfl))
theorem passC_p (O : OpsP P o) (h : LogP P t) (hu : RuP P u) (p : Nat) (v : Int) : LogP P (passC o u.tl t p v) := O.ch _ p v (note_p h hu "cell" p (.inr (.inr rfl)))
theorem mkWay_p (O : OpsP P o) (h : LogP P t) (hu : RuP P u) : LogP P (mkWay o u ls t).2 := by
  unfold mkWay
  split
  · cases ls with
    | nil => exact h
    | cons l rest =>
      dsimp only
      split
      · exact passH_p O h hu _ _
      · exact h
  · exact h
theorem reach_p (O : OpsP P o) (h : LogP P t) (hu : RuP P u) (b : Nat) : LogP P (reachL o u ls t b).2.1 := by
  unfold reachL
  split
  · exact h
  · exact O.br _ b (note_p (mkWay_p O h hu) hu "bring" b (.inr (.inl rfl)))
theorem change_p (O : OpsP P o) (h : LogP P t) (hu : RuP P u) (p : Nat) (v : Int) : LogP P (changeL o u ls t p v).2 := by
  unfold changeL
  split
  · exact passC_p O h hu p v
  · dsimp only
    split
    · exact reach_p O h hu _
    · exact passC_p O (reach_p O h hu _) hu p v
theorem home_p (O : OpsP P o) (h : LogP P t) (hu : RuP P u) (b : Nat) (ns : List Int) : LogP P (homeL o u ls t b ns).2 := by
  unfold homeL
  split
  · split
    · dsimp only
      split
      · exact mkWay_p O h hu
      · exact passH_p O (mkWay_p O h hu) hu b ns
    · exact passH_p O h hu b ns
  · dsimp only
    split
    · exact h
    · exact passH_p O h hu b ns
theorem yield_p (O : OpsP P o) (h : LogP P t) (hu : RuP P u) (b : Nat) (g : Bool) : LogP P (yieldL o u ls t b g).2 := by
  unfold yieldL
  split
  · exact h
  · dsimp only
    split
    · exact passH_p O h hu b _
    · exact h
theorem settleL_p (O : OpsP P o) (hu : RuP P u) : ∀ {ls : List Ln} {t : Ta}, LogP P t → LogP P (settleL o u ls t).2
  | [], t, h => h
  | l :: r, t, h => by
    refine settleL_p O hu (ls := r) ?_
    split
    · exact passH_p O h hu _ _
    · exact h
theorem settleS_p (O : OpsP P o) (hu : RuP P u) : ∀ {ss : List (List Ln)} {t : Ta}, LogP P t → LogP P (settleS o u ss t).2
  | [], t, h => h
  | ls :: r, t, h => settleS_p O hu (ss := r) (settleL_p O hu h)
theorem LogP.tail {r : Rm} {rs : List Rm} (h : LogP P t) (e : t.rs = r :: rs) : RuP P r.ru ∧ LogP P { t with rs := rs } := ⟨h.rs r (by rw [e]; exact List.mem_cons_self), fun q hq => h.rs q (by rw [e]; exact List.mem_cons_of_mem _ hq), h.log⟩
theorem LogP.cons {r : Rm} (h : LogP P t) (hr : RuP P r.ru) : LogP P (Ta.cons r t) := ⟨fun q hq => by
  rcases List.mem_cons.mp hq with e | hq
  · rw [e]
    exact hr
  · exact h.rs q hq, h.log⟩
end
theorem ops_p {P : Ent → Prop} : ∀ n, OpsP P (ops n)
  | 0 => ⟨fun t b ns h => ⟨h.rs, h.log⟩, fun t b h => h, fun t p v h => ⟨h.rs, h.log⟩⟩
  | n + 1 => {
    hm := fun t b ns h => by
      show LogP P (match t.rs with | [] => t | r :: rs => _)
      cases e : t.rs with
      | nil => exact h
      | cons r rs =>
        obtain ⟨h1, h2⟩ := h.tail e
        exact LogP.cons (home_p (ops_p n) h2 h1 b ns) h1
    br := fun t b h => by
      show LogP P (match t.rs with | [] => ([], t) | r :: rs => _ : List Int × Ta).2
      cases e : t.rs with
      | nil => exact h
      | cons r rs =>
        obtain ⟨h1, h2⟩ := h.tail e
        exact LogP.cons (reach_p (ops_p n) h2 h1 b) h1
    ch := fun t p v h => by
      show LogP P (match t.rs with | [] => t | r :: rs => _)
      cases e : t.rs with
      | nil => exact h
      | cons r rs =>
        obtain ⟨h1, h2⟩ := h.tail e
        exact LogP.cons (change_p (ops_p n) h2 h1 p v) h1 }
-- WwS3
/-! ### a hall's log -/
structure HaP (P : Ent → Prop) (ha : Ha) : Prop where
  own : ∀ r ∈ ha.own, RuP P r.ru
  t : LogP P ha.t
section
variable {P : Ent → Prop} {ha : Ha} {n : Nat}
theorem HaP.set (h : HaP P ha) {i : Nat} {r : Rm} {t : Ta} (hr : RuP P r.ru) (ht : LogP P t) : HaP P ⟨ha.own.set i r, t⟩ := ⟨fun q hq => by
  rcases List.mem_or_eq_of_mem_set hq with hq | e
  · exact h.own q hq
  · rw [e]
    exact hr, ht⟩
theorem HaP.yieldAt (h : HaP P ha) (b : Nat) (g : Bool) (i : Nat) : HaP P (yieldAt n ha b g i) := by
  unfold Ww.yieldAt
  cases e : ha.own[i]? with
  | none => exact h
  | some r =>
    have hr := h.own r (List.mem_of_getElem? e)
    exact h.set hr (yield_p (ops_p n) h.t hr b g)
theorem HaP.askN (h : HaP P ha) (b hand : Nat) (g : Bool) : ∀ k, HaP P (askN n hand b g k ha)
  | 0 => h
  | k + 1 => by
    unfold Ww.askN
    split
    · exact HaP.askN h b hand g k
    · exact (HaP.askN h b hand g k).yieldAt b g k
theorem HaP.deed (h : HaP P ha) (d : Deed) : HaP P (doDeed n ha d).2 := by
  cases d with
  | look hh p =>
    show HaP P (lookAt n (ask n ha hh (p / 4) false) hh p).2
    have h1 : HaP P (ask n ha hh (p / 4) false) := h.askN (p / 4) hh false _
    unfold lookAt
    cases e : (ask n ha hh (p / 4) false).own[hh]? with
    | none => exact h1
    | some r =>
      have hr := h1.own r (List.mem_of_getElem? e)
      exact h1.set hr (reach_p (ops_p n) h1.t hr _)
  | set hh p v =>
    show HaP P (changeAt n (ask n ha hh (p / 4) true) hh p v)
    have h1 : HaP P (ask n ha hh (p / 4) true) := h.askN (p / 4) hh true _
    unfold changeAt
    cases e : (ask n ha hh (p / 4) true).own[hh]? with
    | none => exact h1
    | some r =>
      have hr := h1.own r (List.mem_of_getElem? e)
      exact h1.set hr (change_p (ops_p n) h1.t hr p v)
theorem ownT_p : ∀ {rs : List Rm} {t : Ta}, (∀ r ∈ rs, RuP P r.ru) → LogP P t → LogP P (ownT n rs t)
  | [], t, _, h => h
  | r :: rs, t, hr, h => ownT_p (rs := rs) (fun q hq => hr q (List.mem_cons_of_mem _ hq)) (settleS_p (ops_p n) (hr r List.mem_cons_self) h)
theorem shT_p : ∀ {n : Nat} {t : Ta}, LogP P t → LogP P (shT n t)
  | 0, t, h => h
  | n + 1, t, h => by
    show LogP P (match t.rs with | [] => t | r :: rs => _)
    cases e : t.rs with
    | nil => exact h
    | cons r rs =>
      obtain ⟨h1, h2⟩ := h.tail e
      exact LogP.cons (shT_p (n := n) (settleS_p (ops_p n) h1 h2)) h1
theorem HaP.settle (h : HaP P ha) : HaP P (hSettle n ha) := ⟨fun r hr => by
  obtain ⟨q, hq, rfl⟩ := List.mem_map.mp hr
  exact h.own q hq, shT_p (ownT_p h.own h.t)⟩
end
def EntI (e : Ent) : Prop := (∃ a b : Nat, e.tl = [.int a, .int b]) ∧ WdOk e.w
theorem hall0_p (us : List Rul) (m : Nat) : HaP EntI (hall0 us m) := by
  refine ⟨fun r hr => ?_, ⟨?_, fun e he => by cases he⟩⟩
  · obtain ⟨h, _, rfl⟩ := List.mem_map.mp hr
    exact fun w k hw => ⟨⟨0, h, rfl⟩, hw⟩
  · have : ∀ (us : List Rul) (lev : Nat), ∀ r ∈ shRs lev us, RuP EntI r.ru := by
      intro us
      induction us with
      | nil => intro lev r hr; cases hr
      | cons u us ih =>
        intro lev r hr
        rcases List.mem_cons.mp hr with e | hr
        · rw [e]
          exact fun w k hw => ⟨⟨lev, 0, rfl⟩, hw⟩
        · exact ih (lev + 1) r hr
    exact this _ _
def vD : V → PyData
  | .int i => .int i
  | _ => .none
def entD (e : Ent) : PyData := .tuple (e.tl.map vD ++ [.str e.w, .int e.n])
theorem entD_dp {C : List Cell} {a : Addr} {e : Ent} (h : (a, HO.tup e.vs) ∈ C) (he : EntI e) : DpL C (.ref a) (entD e) := by
  obtain ⟨⟨x, y, e1⟩, _⟩ := he
  unfold Ent.vs at h
  unfold entD
  rw [e1] at h ⊢
  exact .tup h (.cons (.int _) (.cons (.int _) (.cons (.str _) (.cons (.int _) .nil))))
theorem logD {C : List Cell} : ∀ {as : List Addr} {es : List Ent}, TA C as (es.map Ent.vs) → (∀ e ∈ es, EntI e) → DpsL C (as.map V.ref) (es.map entD)
  | [], [], _, _ => .nil
  | [], _ :: _, h, _ => h.elim
  | _ :: _, [], h, _ => h.elim
  | a :: as, e :: es, h, he => .cons (entD_dp h.1 (he e List.mem_cons_self)) (logD h.2 fun q hq => he q (List.mem_cons_of_mem _ hq))
theorem wd_ok {w : Str} (h : WdOk w) : PyData.canLay0 (.str w) = true := by
  rcases h with e | e | e <;> subst e <;> decide +kernel
theorem entD_lay {e : Ent} (h : EntI e) : (entD e).canLay0 = true ∧ (entD e).depth ≤ 1 := by
  obtain ⟨⟨x, y, e1⟩, hw⟩ := h
  unfold entD
  rw [e1]
  refine ⟨?_, ?_⟩
  · show (PyData.canLay0 (.int x) && (PyData.canLay0 (.int y) && (PyData.canLay0 (.str e.w) && (PyData.canLay0 (.int e.n) && true)))) = true
    rw [wd_ok hw]
    rfl
  · show PyData.depthAll [.int x, .int y, .str e.w, .int e.n] + 1 ≤ 1
    simp [PyData.depthAll, PyData.depth]
theorem logs_shaped {es : List Ent} (h : ∀ e ∈ es, EntI e) : SeqAt.shaped (.list (es.map entD)) = true := by
  have key : ∀ es : List Ent, (∀ e ∈ es, EntI e) → PyData.canLayAll0 (es.map entD) = true ∧ PyData.depthAll (es.map entD) ≤ 1 := by
    intro es
    induction es with
    | nil => intro _; exact ⟨rfl, by show 0 ≤ 1; omega⟩
    | cons e es ih =>
      intro h
      obtain ⟨i1, i2⟩ := ih fun q hq => h q (List.mem_cons_of_mem _ hq)
      obtain ⟨a1, a2⟩ := entD_lay (h e List.mem_cons_self)
      refine ⟨?_, ?_⟩
      · show (PyData.canLay0 (entD e) && PyData.canLayAll0 (es.map entD)) = true
        rw [a1, i1]
        rfl
      · show max (PyData.depth (entD e)) (PyData.depthAll (es.map entD)) ≤ 1
        omega
  obtain ⟨h1, h2⟩ := key es h
  refine shaped_of h1 ?_
  show PyData.depthAll (es.map entD) + 1 ≤ 64
  omega
/-! ### nothing to settle -/
def Clean (r : Rm) : Prop := ∀ l, InR l r → l.d = false
theorem cleanR_self {r : Rm} (h : Clean r) : cleanR r = r := by
  have : (r.ss.map fun ls => ls.map fun l => ({ l with d := false } : Ln)) = r.ss := by
    have h2 : ∀ ls ∈ r.ss, (ls.map fun l => ({ l with d := false } : Ln)) = ls := fun ls hm => by
      have : ∀ l ∈ ls, ({ l with d := false } : Ln) = l := fun l hl => by
        have hd := h l ⟨ls, hm, hl⟩
        cases l with
        | mk b ns d =>
          have hd : d = false := hd
          rw [hd]
      exact List.map_congr_left this |>.trans (List.map_id' ls)
    exact List.map_congr_left h2 |>.trans (List.map_id' r.ss)
  unfold cleanR
  rw [this]
theorem settleL_clean {o : Ops} {u : Ru} : ∀ {ls : List Ln} {t : Ta}, (∀ l ∈ ls, l.d = false) → (settleL o u ls t).2 = t
  | [], t, _ => rfl
  | l :: r, t, h => by
    show (settleL o u r (if l.d = true then _ else t)).2 = t
    rw [h l List.mem_cons_self, if_neg Bool.false_ne_true]
    exact settleL_clean fun q hq => h q (List.mem_cons_of_mem _ hq)
theorem settleS_clean {o : Ops} {u : Ru} : ∀ {ss : List (List Ln)} {t : Ta}, (∀ ls ∈ ss, ∀ l ∈ ls, l.d = false) → (settleS o u ss t).2 = t
  | [], t, _ => rfl
  | ls :: r, t, h => by
    show (settleS o u r (settleL o u ls t).2).2 = t
    rw [settleL_clean (h ls List.mem_cons_self)]
    exact settleS_clean fun q hq => h q (List.mem_cons_of_mem _ hq)
theorem settleR_clean {n : Nat} {r : Rm} {t : Ta} (h : Clean r) : (settleR n r t).2 = t := settleS_clean fun ls hm l hl => h l ⟨ls, hm, hl⟩
def spRSettle0 (K : PySem.W.Frag) : Sp := fun vs H Q _ => ∃ (a : Addr) (be : Pa) (di : Addr) (r : Rm) (C1 R : List Cell), vs = [.ref a] ∧ RmRepK K di a be r C1 ∧ Clean r ∧ Own H (C1 ++ R) ∧ Q .non H
def spHSettle0 (K : PySem.W.Frag) : Sp := fun vs H Q _ => ∃ (x : Addr) (n m : Nat) (ha : Ha) (C R : List Cell), vs = [.ref x] ∧ HaOk n m ha ∧ HallRep K x ha C ∧ (∀ r ∈ ha.own ++ ha.t.rs, Clean r) ∧ Own H (C ++ R) ∧ ∀ H' : Hp, Own H' (C ++ R) → Q .non H'
section
variable {P : Program} {w : World} {K : PySem.W.Frag} {mg : Str → Option Value} {base : Heap} {n lv : Nat}
end
-- WwM
/-! ### list.count of texts -/
def eqTx (k : Str) (v : Value) : Bool := match v with
  | .str n _ => n == k
  | _ => false
inductive TxAre : List Value → List Str → Prop
  | nil : TxAre [] []
  | cons {us : List Value} {ns : List Str} (x : Str) (t : Tok) : TxAre us ns → TxAre (.str x t :: us) (x :: ns)
theorem txAre_of : ∀ {ns : List Str} {us : List Value}, Vals (ns.map V.str) us → TxAre us ns
  | [], _, .nil => .nil
  | n :: ns, _, .cons r h => by
    obtain ⟨t, rfl⟩ := r
    exact .cons n t (txAre_of h)
theorem eqTx_at {A : Around} {s : Shared} {k : Str} {t : Tok} : ∀ {us : List Value} {ns : List Str}, TxAre us ns → ∀ y ∈ us, SeqAt.EqAt A s y (.str k t) (eqTx k y)
  | _, _, .nil => fun y hy => by cases hy
  | _, _, .cons n t' h => fun y hy => by
    rcases List.mem_cons.mp hy with e | e
    · rw [e]
      exact SeqAt.EqAt.str_str n t' k t
    · exact eqTx_at h y e
theorem eqTx_count {k : Str} : ∀ {us : List Value} {ns : List Str}, TxAre us ns → us.countP (eqTx k) = ns.countP (· == k)
  | _, _, .nil => rfl
  | _, _, .cons n t h => by
    have ih := eqTx_count (k := k) h
    rw [List.countP_cons, List.countP_cons, ih] <;> rfl
def rCntS (K : PySem.W.Frag) : V → List V → Hp → VK → Prop := fun x xs H Q => ∃ (p : Addr) (ns : List Str) (k : Str), x = .ref p ∧ xs = [.str k] ∧ SqL K H p (ns.map V.str) ∧ Q (.int (ns.countP (· == k) : Nat)) H
theorem mt_lcountS {X : Cx} : MtR X "list.count" (rCntS X.K) := by
  intro pins s σ H x xs v us Q I rx rxs h
  obtain ⟨p, ns, k, rfl, rfl, hs, q⟩ := h
  cases rx
  obtain ⟨u, rfl, ru⟩ := rxs.one
  obtain ⟨t, rfl⟩ := ru
  obtain ⟨its, rv, ⟨⟨cls, dd, data, sl⟩, n, ho, hc, hdn, hd⟩, hlen⟩ := I.list hs
  simp only at hc hd
  subst hc hd
  have hi := txAre_of rv
  refine call_meets PySem.F.slot_list_count ⟨_, ho, rfl⟩ PySem.F.entry_list_count (PySem.F.args_list_count_2 _ _) (SeqAt.list_countAt p its.toArray n dd sl (.str k t) (eqTx k)) ⟨ho, fun y hy => eqTx_at hi y (by simpa using hy), ?_⟩
  have ec : its.toArray.toList.countP (eqTx k) = ns.countP (· == k) := eqTx_count hi
  refine ⟨.int (ns.countP (· == k) : Nat), H, I.tok _, ⟨s.toks, ?_⟩, q⟩
  show Value.int ((its.toArray.toList.countP (eqTx k) : Nat) : Int) s.toks = _
  rw [ec]
/-! ### moves -/
def lvW (log : List Ent) (lev : Nat) : List Str := (log.filter fun e => decide (e.tl.head? = some (V.int lev))).map (·.w)
def mvOf (log : List Ent) (lev : Nat) : List Int := [((lvW log lev).countP (· == ("bring" : Str)) : Nat), ((lvW log lev).countP (· == ("home" : Str)) : Nat), ((lvW log lev).countP (· == ("cell" : Str)) : Nat)]
def spMoves (K : PySem.W.Frag) : Sp := fun vs H Q _ => ∃ (x : Addr) (n m : Nat) (ha : Ha) (C R : List Cell), vs = [.ref x] ∧ HaOk n m ha ∧ ha.t.log.length ≤ 990000 ∧ HaP EntI ha ∧ HallRep K x ha C ∧ Own H (C ++ R) ∧
  ∀ (p : Addr) (as : List Addr) (N : List Cell) (H' : Hp), TA N as ((List.range (n + 1)).map fun lev => (mvOf ha.t.log lev).map V.int) → Own H' ((p, .lst (as.map V.ref)) :: (N ++ (C ++ R))) → Q (.ref p) H'
section
variable {P : Program} {w : World} {K : PySem.W.Frag} {mg : Str → Option Value} {base : Heap} {n lv : Nat}
end
-- WwDp
def dV : Option Nat → V
  | none => .non
  | some k => .int (k : Nat)
theorem fx_at {b k : Nat} : ∀ {o : List Nat}, fxN b o = some k → o[k]? = some b ∧ ∀ (m : Nat) (z : Nat), m < k → o[m]? = some z → z ≠ b
  | [], h => by cases h
  | x :: o, h => by
    unfold fxN at h
    split at h
    · rename_i e
      have : 0 = k := Option.some.inj h
      subst this
      exact ⟨by rw [e]; rfl, fun m z hm => absurd hm (Nat.not_lt_zero _)⟩
    · rename_i e
      cases q : fxN b o with
      | none =>
        rw [q] at h
        cases h
      | some j =>
        rw [q] at h
        have : j + 1 = k := Option.some.inj h
        subst this
        obtain ⟨h1, h2⟩ := fx_at q
        refine ⟨by simpa using h1, fun m z hm hz => ?_⟩
        cases m with
        | zero =>
          have : x = z := by simpa using hz
          rw [← this]
          exact e
        | succ m => exact h2 m z (by omega) (by simpa using hz)
theorem ord_le (bs : List Nat) : (ordOf bs).length ≤ bs.length := by
  rw [ord_len]
  exact Nat.le_trans List.countP_le_length (by rw [dptsOf_len]; exact Nat.le_refl _)
def spNeedBlocks : Sp := fun vs H Q _ => ∃ (pa : Addr) (bs : List Nat) (R : List Cell), vs = [.ref pa] ∧ (∀ b ∈ bs, b < 16) ∧ bs.length ≤ 200 ∧ (pa, HO.lst (blV bs)) ∈ R ∧ Own H R ∧ ∀ H' : Hp, Own H' R → Q .non H'
def spDepths : Sp := fun vs H Q _ => ∃ (pa : Addr) (bs : List Nat) (R : List Cell), vs = [.ref pa] ∧ (∀ b ∈ bs, b < 16) ∧ bs.length ≤ 200 ∧ (pa, HO.lst (blV bs)) ∈ R ∧ Own H R ∧
  ∀ (p : Addr) (H' : Hp), Own H' ((p, .lst ((dptsOf bs).map dV)) :: R) → Q (.ref p) H'
def cntsOf (bs : List Nat) : List Int := (List.range 16).map fun w => ((cntW (w + 1) bs : Nat) : Int)
def spBrings : Sp := fun vs H Q _ => ∃ (pa : Addr) (bs : List Nat) (R : List Cell), vs = [.ref pa] ∧ (∀ b ∈ bs, b < 16) ∧ bs.length ≤ 200 ∧ (pa, HO.lst (blV bs)) ∈ R ∧ Own H R ∧
  ∀ (p : Addr) (H' : Hp), Own H' ((p, .lst ((cntsOf bs).map V.int)) :: R) → Q (.ref p) H'
section
variable {P : Program} {w : World} {K : PySem.W.Frag} {mg : Str → Option Value} {base : Heap} {n lv : Nat}
theorem ok_need_blocks (T : Txt K mg) : FnOk P w K mg base CX0 2 (He.fAd K ("need_blocks", none)) T.fd_need_blocks ["blocks"] spNeedBlocks := by
  have G_is_number := ok_is_number (P := P) (w := w) (base := base) T
  refine okOf T.F_need_blocks sc_need_blocks (fun vs H Q E h => ?_) (fun cdv A outer s H vs Q E hr h => ?_)
  · obtain ⟨_, _, _, rfl, _⟩ := h
    rfl
  · obtain ⟨pa, bs, R, rfl, hb, hl, hpa, O, k⟩ := h
    refine ⟨_, (pss_one (ps_for PassesOwn.never rfl (pi_enum (by rfl) T.n_enumerate (pa_cons (pv 0) pa_nil)) (pg_tup (by rfl) (pgs_cons (pg_name (i := 1) sc_need_blocks.nd rfl (Or.inl rfl)) (pgs_cons (pg_name (i := 2) sc_need_blocks.nd rfl (Or.inl rfl)) pgs_nil))) (pss_one (ps_if (PW.pt (pw_or (pt_cmpR op_ge (pv 1) (pe_globI rfl T.g_MOST_DEEDS) (nomark _)) (pw_or1 (pt_not (pt_val (pe_call G_is_number (hr.mono (by omega)) rfl T.g_is_number T.k_is_number T.b_is_number .nil pass0 (pa_cons (pv 2) (pa_cons pe_int (pa_cons (pe_op op_sub (pe_globI rfl T.g_BLOCKS) pe_int) pa_nil))))))))) (pss_one ps_never) pss_nil)))), ?_⟩
    refine ⟨_, rfl, pa, _, rfl, SqL.of (O.mem hpa), ?_⟩
    refine for_enum (K := K) (a := pa) (xs := blV bs) (fun i σ H' => (∃ v1 v2, σ = [some (.ref pa), v1, v2]) ∧ Own H' R) ⟨⟨none, none, rfl⟩, O⟩ (fun i σ H' _ ⟨_, O'⟩ => SqL.of (O'.mem hpa)) ?_ ?_
    · rintro i x σ H1 p hi ⟨⟨v1, v2, rfl⟩, O1⟩ hp
      unfold blV at hi
      rw [List.getElem?_map] at hi
      cases ha : bs[i]? with
      | none =>
        rw [ha] at hi
        cases hi
      | some b =>
        rw [ha] at hi
        have ex : V.int (b : Nat) = x := Option.some.inj hi
        subst ex
        have hil : i < bs.length := (List.getElem?_eq_some_iff.mp ha).1
        have hb16 := hb b (List.mem_of_getElem? ha)
        have O2 := O1.new (o := .tup [.int (i : Nat), .int (b : Nat)]) hp
        refine ⟨p, _, rfl, SqT.of O2.a0, rfl, _, _, rfl, _, _, rfl, rfl, ?_⟩
        refine ⟨_, rfl, i, 200, rfl, rfl, false, ?_, iteF ?_⟩
        · show V.bl (decide ((200 : Int) ≤ (i : Int))) = V.bl false
          rw [decide_eq_false (by omega)]
        · refine ⟨_, rfl, _, _, rfl, rfl, b, 0, 15, rfl, true, ?_, iteF ⟨⟨_, _, rfl⟩, O2.tail⟩⟩
          rw [decide_eq_true]
          omega
    · rintro σ H1 ⟨⟨v1, v2, rfl⟩, O1⟩
      exact k H1 O1
theorem ok_depths_of (T : Txt K mg) : FnOk P w K mg base CX0 1 (He.fAd K ("depths_of", none)) T.fd_depths_of ["blocks"] spDepths := by
  refine okOf T.F_depths_of sc_depths_of (fun vs H Q E h => ?_) (fun cdv A outer s H vs Q E hr h => ?_)
  · obtain ⟨_, _, _, rfl, _⟩ := h
    rfl
  · obtain ⟨pa, bs, R, rfl, hb, hl, hpa, O, k⟩ := h
    refine ⟨_, (pss_cons (ps_set (i := 1) sc_depths_of.nd rfl (Or.inl rfl) (pe_lst pa_nil)) (pss_cons (ps_set (i := 2) sc_depths_of.nd rfl (Or.inl rfl) (pe_lst pa_nil)) (pss_cons (ps_for PassesOwn.never rfl (pi_list (pv 0)) (pg_name (i := 3) sc_depths_of.nd rfl (Or.inr rfl)) (pss_cons (ps_expr (pe_bm PySem.F.plainAttrs_list PySem.F.slot_list_append PySem.F.type_list_append mt_append (pv 1) (pa_cons (pe_ifExp (pt_cmpR op_in_seq (pv 3) (pv 2) (by rfl)) (pe_bm PySem.F.plainAttrs_list PySem.F.slot_list_index PySem.F.type_list_index mt_index (pv 2) (pa_cons (pv 3) pa_nil)) pe_non) pa_nil))) (pss_one (ps_set (i := 2) sc_depths_of.nd rfl (Or.inl rfl) (pe_op op_cat (pe_lst (pa_cons (pv 3) pa_nil)) (pe_lc (tt := (tTest (tOp rNe (tVar 4) (tVar 3)))) (own := [("one", 4)]) (by rfl) sc_depths_of.nd (pi_list (pv 2)) (blkOk_by (own := [("one", 4)]) (by kernel_rfl)) (fun _ _ _ _ _ => (pg_name (i := 4) sc_depths_of.nd rfl (Or.inl rfl))) (fun _ _ _ _ _ => (pts_one (pt_cmpR op_ne (pv 4) (pv 3) (nomark _)))) (fun _ _ _ _ _ => (pv 4)))))))) (pss_one (ps_ret (pv 1)))))), ?_⟩
    refine ⟨by show 0 ≤ sizeLine; decide, fun fa hfa => ?_⟩
    have O1 := O.new (o := .lst []) hfa
    refine ⟨by show 0 ≤ sizeLine; decide, fun oa hoa => ?_⟩
    have O2 := O1.new (o := .lst []) hoa
    have hsq : ∀ {H : Hp} {c c' : Cell}, Own H (c :: c' :: R) → SqL K H pa (blV bs) := fun O => SqL.of (O.mem (by simp [hpa]))
    refine ⟨_, rfl, pa, rfl, ⟨_, hsq O2⟩, ?_⟩
    refine for_list (K := K) (a := pa) (xs := blV bs) (fun i σ H' => ∃ (oa : Addr) (v3 v4 : Option V), σ = [some (.ref pa), some (.ref fa), some (.ref oa), v3, v4] ∧ Own H' ((oa, .lst (blV (ordOf (bs.take i)))) :: (fa, .lst ((dptsOf (bs.take i)).map dV)) :: R))
      ⟨oa, _, _, rfl, O2⟩ (fun i σ H' _ ⟨_, _, _, _, O'⟩ => hsq O') ?_ ?_
    · rintro i y σ H3 hi ⟨oa, v3, v4, rfl, O3⟩
      unfold blV at hi
      rw [List.getElem?_map] at hi
      cases ha : bs[i]? with
      | none =>
        rw [ha] at hi
        cases hi
      | some b =>
        rw [ha] at hi
        have ex : V.int (b : Nat) = y := Option.some.inj hi
        subst ex
        have hil : i < bs.length := (List.getElem?_eq_some_iff.mp ha).1
        have hol := ord_le (bs.take i)
        rw [List.length_take] at hol
        rw [take_snoc ha, ordOf_snoc, dptsOf_snoc, List.map_append]
        have hdl : ((dptsOf (bs.take i)).map dV).length < sizeLine := by
          rw [List.length_map, dptsOf_len, List.length_take]
          exact size1 (by omega)
        refine ⟨_, rfl, .inl ⟨rfl, _, SqL.of O3.a1⟩, ?_⟩
        refine (show ∀ Q' : VK, Q' (dV (fxN b (ordOf (bs.take i)))) H3 → tIf _ _ _ _ H3 Q' from fun Q' hQ => ?_) _ ?_
        · refine ⟨_, rfl, _, rfl, oa, _, rfl, .inl (SqL.of O3.a0), rfl, blV_flat _, ?_⟩
          rw [show (if false = true then !inV (V.int (b : Nat)) (blV (ordOf (bs.take i))) else inV (V.int (b : Nat)) (blV (ordOf (bs.take i)))) = decide (b ∈ ordOf (bs.take i)) from inV_bl _ _]
          by_cases hm : b ∈ ordOf (bs.take i)
          · cases q : fxN b (ordOf (bs.take i)) with
            | none => exact absurd hm (fx_none.mp q)
            | some j =>
              obtain ⟨g1, g2⟩ := fx_at q
              rw [q] at hQ
              refine ⟨_, by rw [decide_eq_true hm], iteT ⟨_, rfl, .inl ⟨rfl, _, SqL.of O3.a0⟩, _, rfl, oa, blV (ordOf (bs.take i)), _, j, .int (b : Nat), rfl, rfl, SqL.of O3.a0, rfl, blV_flat _, ?_, beq_self_eq_true ((b : Nat) : Int), ?_, hQ⟩⟩
              · unfold blV
                rw [List.getElem?_map, g1]
                rfl
              · intro m z hm' hz
                unfold blV at hz
                rw [List.getElem?_map] at hz
                cases q2 : (ordOf (bs.take i))[m]? with
                | none =>
                  rw [q2] at hz
                  cases hz
                | some c =>
                  rw [q2] at hz
                  have e : V.int (c : Nat) = z := Option.some.inj hz
                  subst e
                  refine beq_eq_false_iff_ne.mpr fun e2 => g2 m c hm' q2 ?_
                  exact Int.ofNat.inj e2
          · refine ⟨_, by rw [decide_eq_false hm], iteF ?_⟩
            rw [fx_none.mpr hm] at hQ
            exact hQ
        refine ⟨fa, _, _, rfl, rfl, O3.a1, hdl, ?_⟩
        have O4 := (O3.perm (L' := (fa, .lst ((dptsOf (bs.take i)).map dV)) :: (oa, .lst (blV (ordOf (bs.take i)))) :: R) (by walk_at "perm")).set (o' := .lst ((dptsOf (bs.take i)).map dV ++ [dV (fxN b (ordOf (bs.take i)))]))
        generalize upd H3 fa _ = H4 at O4 ⊢
        refine ⟨_, rfl, by show 1 ≤ sizeLine; decide, fun p1 hp1 => ?_⟩
        have O5 := O4.new (o := .lst [.int (b : Nat)]) hp1
        refine ⟨_, rfl, oa, rfl, ⟨_, SqL.of O5.a2⟩, fun D hD => ?_⟩
        refine lc_list (K := K) (a := oa) (xs := blV (ordOf (bs.take i))) (fun t H' => Own H' ((D, .lst (blV (((ordOf (bs.take i)).take t).filter (neB b)))) :: (p1, .lst [.int (b : Nat)]) :: (fa, .lst ((dptsOf (bs.take i)).map dV ++ [dV (fxN b (ordOf (bs.take i)))])) :: (oa, .lst (blV (ordOf (bs.take i)))) :: R)) (O5.new hD) (fun t H' _ O' => SqL.of O'.a3) ?_ ?_
        · rintro t y H6 ht O6
          unfold blV at ht
          rw [List.getElem?_map] at ht
          cases q2 : (ordOf (bs.take i))[t]? with
          | none =>
            rw [q2] at ht
            cases ht
          | some c =>
            rw [q2] at ht
            have e : V.int (c : Nat) = y := Option.some.inj ht
            subst e
            have htl : t < (ordOf (bs.take i)).length := (List.getElem?_eq_some_iff.mp q2).1
            rw [take_snoc q2, List.filter_append]
            have hdec : (!decide (V.int (c : Nat) = V.int (b : Nat))) = neB b c := by
              unfold neB
              congr 1
              exact decide_eq_decide.mpr ⟨fun e => Int.ofNat.inj (V.int.inj e), fun e => by rw [e]⟩
            refine ⟨rfl, _, rfl, _, rfl, rfl, neB b c, by rw [hdec], ?_⟩
            cases hn : neB b c
            · rw [List.filter_cons_of_neg (by rw [hn]; decide)]
              show ite _ _ _
              refine iteF ?_
              rw [List.filter_nil, List.append_nil]
              exact O6
            · rw [List.filter_cons_of_pos hn]
              refine iteT ⟨_, rfl, _, O6.a0, ?_, ?_⟩
              · rw [blV_len]
                have h1 := List.length_filter_le (neB b) ((ordOf (bs.take i)).take t)
                rw [List.length_take] at h1
                exact size1 (by omega)
              · show Own _ ((D, .lst (blV (_ ++ [c]))) :: _)
                unfold blV
                rw [List.map_append]
                exact O6.set
        intro H6 O6
        rw [blV_len, List.take_length] at O6
        refine ⟨p1, D, [.int (b : Nat)], _, rfl, rfl, O6.a1, O6.a0, ?_, fun q hq => ?_⟩
        · have h1 := List.length_filter_le (neB b) (ordOf (bs.take i))
          rw [blV_len]
          exact Nat.le_of_lt (size1 (by rw [List.length_singleton]; omega))
        · have O7 := O6.new (o := .lst (blV (psh (ordOf (bs.take i)) b))) hq
          refine ⟨q, _, _, rfl, ?_⟩
          show Own _ ((q, .lst (blV (psh (ordOf (bs.take i)) b))) :: (fa, .lst ((dptsOf (bs.take i)).map dV ++ [dV (fxN b (ordOf (bs.take i)))])) :: R)
          exact Own.right (L' := [(D, HO.lst (blV ((ordOf (bs.take i)).filter (neB b)))), (p1, .lst [.int (b : Nat)]), (oa, .lst (blV (ordOf (bs.take i))))]) (O7.perm (by walk_at "perm"))
    · rintro σ H3 ⟨oa, v3, v4, rfl, O3⟩
      rw [blV_len, List.take_length] at O3
      exact ⟨_, rfl, k fa H3 O3.tail⟩
theorem ok_depths (T : Txt K mg) : FnOk P w K mg base CX0 3 (He.fAd K ("depths", none)) T.fd_depths ["blocks"] spDepths := by
  have G_need_blocks := ok_need_blocks (P := P) (w := w) (base := base) T
  have G_depths_of := ok_depths_of (P := P) (w := w) (base := base) T
  refine okOf T.F_depths sc_depths (fun vs H Q E h => ?_) (fun cdv A outer s H vs Q E hr h => ?_)
  · obtain ⟨_, _, _, rfl, _⟩ := h
    rfl
  · obtain ⟨pa, bs, R, rfl, hb, hl, hpa, O, k⟩ := h
    refine ⟨_, (pss_cons (ps_expr (pe_call G_need_blocks (hr.mono (by omega)) rfl T.g_need_blocks T.k_need_blocks T.b_need_blocks .nil pass0 (pa_cons (pv 0) pa_nil))) (pss_one (ps_ret (pe_call G_depths_of (hr.mono (by omega)) rfl T.g_depths_of T.k_depths_of T.b_depths_of .nil pass0 (pa_cons (pv 0) pa_nil))))), ?_⟩
    exact ⟨_, rfl, pa, bs, R, rfl, hb, hl, hpa, O, fun H1 O1 => ⟨_, rfl, pa, bs, R, rfl, hb, hl, hpa, O1, fun p H2 O2 => k p H2 O2⟩⟩
theorem ok_late_brings (T : Txt K mg) : FnOk P w K mg base CX0 3 (He.fAd K ("late_brings", none)) T.fd_late_brings ["blocks"] spBrings := by
  have G_need_blocks := ok_need_blocks (P := P) (w := w) (base := base) T
  have G_depths_of := ok_depths_of (P := P) (w := w) (base := base) T
  refine okOf T.F_late_brings sc_late_brings (fun vs H Q E h => ?_) (fun cdv A outer s H vs Q E hr h => ?_)
  · obtain ⟨_, _, _, rfl, _⟩ := h
    rfl
  · obtain ⟨pa, bs, R, rfl, hb, hl, hpa, O, k⟩ := h
    refine ⟨_, (pss_cons (ps_expr (pe_call G_need_blocks (hr.mono (by omega)) rfl T.g_need_blocks T.k_need_blocks T.b_need_blocks .nil pass0 (pa_cons (pv 0) pa_nil))) (pss_cons (ps_set (i := 1) sc_late_brings.nd rfl (Or.inr rfl) (pe_call G_depths_of (hr.mono (by omega)) rfl T.g_depths_of T.k_depths_of T.b_depths_of .nil pass0 (pa_cons (pv 0) pa_nil))) (pss_one (ps_ret (pe_lc (te := (tCB (rLenQ K) (tCons (tLc (iList K (tVar 1)) (gName 3) (tOr (tTest (tOp rIsNo (tVar 3) (tC .non))) (tTest (tOp rGeI (tVar 3) (tVar 2)))) (tVar 3) [3]) tNil))) (own := [("ways", 2)]) (by rfl) sc_late_brings.nd (pi_range2 (by rfl) T.n_range (pa_cons pe_int (pa_cons (pe_op op_add (pe_globI rfl T.g_BLOCKS) pe_int) pa_nil))) (blkOk_by (own := [("ways", 2)]) (by kernel_rfl)) (fun _ _ _ _ _ => (pg_name (i := 2) sc_late_brings.nd rfl (Or.inr rfl))) (fun _ _ _ _ _ => pts_nil) (fun _ _ _ _ _ => (pe_callB call_len_seq (by rfl) T.n_len PySem.boot_len (pa_cons (pe_lc (tt := (tOr (tTest (tOp rIsNo (tVar 3) (tC .non))) (tTest (tOp rGeI (tVar 3) (tVar 2))))) (own := [("depth", 3)]) (by rfl) sc_late_brings.nd (pi_list (pv 1)) (blkOk_by (own := [("depth", 3)]) (by kernel_rfl)) (fun _ _ _ _ _ => (pg_name (i := 3) sc_late_brings.nd rfl (Or.inl rfl))) (fun _ _ _ _ _ => (pts_one (PW.pt (pw_or (pt_cmpR op_isN (pv 3) pe_non (nomark _)) (pw_or1 (pt_cmpR op_ge (pv 3) (pv 2) (nomark _))))))) (fun _ _ _ _ _ => (pv 3))) pa_nil)))))))), ?_⟩
    refine ⟨_, rfl, pa, bs, R, rfl, hb, hl, hpa, O, fun H1 O1 => ?_⟩
    refine ⟨_, rfl, pa, bs, R, rfl, hb, hl, hpa, O1, fun p H2 O2 => ?_⟩
    refine ⟨_, _, rfl, rfl, 1, 17, rfl, by omega, fun D hD => ?_⟩
    refine lc_range (lo := 1) (n := 16) (fun i H' => Own H' ((D, .lst (((cntsOf bs).take i).map V.int)) :: (p, .lst ((dptsOf bs).map dV)) :: R)) (O2.new hD) ?_ ?_
    · rintro i H3 hi O3
      have hci : (cntsOf bs)[i]? = some ((cntW (i + 1) bs : Nat) : Int) := by
        unfold cntsOf
        rw [List.getElem?_map, List.getElem?_range hi]
        rfl
      rw [take_snoc hci, List.map_append]
      refine ⟨rfl, tYes_go (iteT ?_)⟩
      refine ⟨_, rfl, p, rfl, ⟨_, SqL.of O3.a1⟩, fun D2 hD2 => ?_⟩
      refine lc_list (K := K) (a := p) (xs := (dptsOf bs).map dV) (fun t H' => Own H' ((D2, .lst ((((dptsOf bs).take t).filter (missB (i + 1))).map dV)) :: (D, .lst (((cntsOf bs).take i).map V.int)) :: (p, .lst ((dptsOf bs).map dV)) :: R)) (O3.new hD2) (fun t H' _ O' => SqL.of O'.a2) ?_ ?_
      · rintro t y H4 ht O4
        rw [List.getElem?_map] at ht
        cases q2 : (dptsOf bs)[t]? with
        | none =>
          rw [q2] at ht
          cases ht
        | some d =>
          rw [q2] at ht
          have e : dV d = y := Option.some.inj ht
          subst e
          have htl : t < (dptsOf bs).length := (List.getElem?_eq_some_iff.mp q2).1
          have hdl := dptsOf_len bs
          rw [take_snoc q2, List.filter_append]
          have yes : missB (i + 1) d = true → Own (upd H4 D2 (.lst ((((dptsOf bs).take t).filter (missB (i + 1))).map dV ++ [dV d]))) ((D2, .lst ((((dptsOf bs).take t).filter (missB (i + 1)) ++ [d].filter (missB (i + 1))).map dV)) :: (D, .lst (((cntsOf bs).take i).map V.int)) :: (p, .lst ((dptsOf bs).map dV)) :: R) := fun hn => by
            rw [List.filter_cons_of_pos hn, List.map_append]
            exact O4.set
          have hlen : ((((dptsOf bs).take t).filter (missB (i + 1))).map dV).length < sizeLine := by
            have h1 := List.length_filter_le (missB (i + 1)) ((dptsOf bs).take t)
            rw [List.length_take] at h1
            rw [List.length_map]
            exact size1 (by omega)
          cases d with
          | none => exact ⟨rfl, _, rfl, rfl, true, congrArg V.bl (decide_eq_true rfl), iteT ⟨_, rfl, _, O4.a0, hlen, yes rfl⟩⟩
          | some k =>
            refine ⟨rfl, _, rfl, rfl, false, congrArg V.bl (decide_eq_false (fun z => by cases z)), iteF ⟨_, rfl, _, rfl, k, 1 + i, rfl, rfl, decide (i + 1 ≤ k), ?_, ?_⟩⟩
            · show V.bl (decide ((1 : Int) + (i : Int) ≤ (k : Int))) = _
              congr 1
              exact decide_eq_decide.mpr ⟨fun _ => by omega, fun _ => by omega⟩
            · by_cases hk : i + 1 ≤ k
              · rw [decide_eq_true hk]
                exact iteT ⟨_, rfl, _, O4.a0, hlen, yes (decide_eq_true hk)⟩
              · rw [decide_eq_false hk, List.filter_cons_of_neg (show ¬ missB (i + 1) (some k) = true from fun z => hk (of_decide_eq_true z)), List.filter_nil, List.append_nil]
                exact iteF O4
      intro H4 O4
      rw [List.length_map, List.take_length] at O4
      refine ⟨D2, _, rfl, .inl (SqL.of O4.a0), ?_⟩
      rw [List.length_map, ← List.countP_eq_length_filter]
      refine ⟨_, O4.a1, by rw [List.length_map, List.length_take]; exact size1 (by omega), ?_⟩
      have O5 := (O4.tail).set (o' := .lst (((cntsOf bs).take i).map V.int ++ [.int ((cntW (i + 1) bs : Nat) : Int)]))
      exact O5
    · intro H3 O3
      rw [show (cntsOf bs).take 16 = cntsOf bs from rfl] at O3
      exact k D H3 (Own.right (L' := [(p, .lst ((dptsOf bs).map dV))]) (O3.perm (by walk_at "perm")))
end
-- WwWd
/-! ### rules whose reading names the written part by itself -/
theorem mt_cntK (K : PySem.W.Frag) {X : Cx} (hK : X.K = K) : MtR X "list.count" (rCntB K) := by
  subst hK
  exact mt_lcountB
theorem mt_idxK (K : PySem.W.Frag) {X : Cx} (hK : X.K = K) : MtR X "list.index" (rIndex K) := by
  subst hK
  exact mt_index
theorem ix_listK (K : PySem.W.Frag) {X : Cx} (hK : X.K = K) : IxR X (rIxL K) := by
  subst hK
  exact ix_list
theorem op_inK (K : PySem.W.Frag) {X : Cx} (hK : X.K = K) : OpR X (compareOp .In) (rIn K false) := by
  subst hK
  exact op_in_seq
theorem pe_bmK (K : PySem.W.Frag) {X : Cx} (hK : X.K = K) {o e : Expr} {es : List Expr} {to : TE} {t : L2.TA} {name : Str} {apos cpos : Pos} {T id : String} {r : V → List V → Hp → VK → Prop} (pa : PlainAttrs T) (slot : Slot T name id) (hty : typeOf (.builtin id) = pure (.type "method_descriptor")) (hm : MtR X id r) (ho : PE X o to) (ha : PA X (e :: es) t)
    (h1 : attributeBase o name X.env (eval o X.env) = eval o X.env := by rfl)
    (h2 : ((backTo cpos (starEach (e :: es) X.env)).all (fun x => !x.1) && (backToKw cpos (keywordEach [] X.env)).all (fun x => x.1.isSome) && decide ((e :: es).length + ([] : List Keyword).length + (if ([] : List Keyword).isEmpty then 0 else 1) < 30)) = true := by rfl)
    (h3 : (apos.endLine == cpos.line) = true := by rfl) (h4 : starEach (e :: es) X.env = (false, eval e X.env) :: starEach es X.env := by rfl) (h5 : (backTo cpos (starEach es X.env)).any (·.1) = false := by rfl) :
    PE X (.Call (.Attribute o name apos) (e :: es) [] cpos) (tBM K T r to t) := by
  subst hK
  exact pe_bm pa slot hty hm ho ha h1 h2 h3 h4 h5
/-! ### refusals, and the word of a refusal -/
section
variable {P : Program} {w : World} {K : PySem.W.Frag} {mg : Str → Option Value} {base : Heap} {n lv : Nat}
theorem ok_BadRule (T : Txt K mg) : FnOk P w K mg base CX0 1 (He.ma K (He.ga K "BadRule") "__init__") T.fd_BadRule___init__ ["self", "number"] (spExI K (He.ga K "BadRule") "number") := by
  refine okOf T.F_BadRule___init__ sc_BadRule___init__ (fun vs H Q E h => ?_) (fun cdv A outer s H vs Q E hr h => ?_)
  · obtain ⟨_, _, rfl, _⟩ := h
    rfl
  · obtain ⟨a, n, rfl, hn, ha, k⟩ := h
    have T1 := (T.xt.xc "BadRule" (by decide)).oex T.ox_BadRule
    refine ⟨_, (pss_cons (ps_expr (pe_weinit (by rfl) T.g_WayError T.xt.sg T.xt.rd T.xt.fc (pa_cons (pv 0) (pa_cons (pe_joined (.cons pe_str (.cons (pe_fmt (pv 1)) .nil))) pa_nil)))) (pss_one (ps_ost (pv 0) (pv 1)))), ?_⟩
    refine ⟨_, rfl, ⟨"rule ", rfl, by decide, _, rfl, .inr ⟨n, rfl, log60 hn, _, rfl, int_fits60 hn (by decide), ?_⟩⟩⟩
    refine ⟨a, _, _, rfl, by show 1 ≤ 1000; decide, T1, ha, ?_⟩
    exact ⟨_, rfl, _, rfl, a, _, rfl, T1, T.na_BadRule_number, .inl ⟨ha, fun dx h1 h2 => k dx h1 h2⟩⟩
theorem ok_BadDeed (T : Txt K mg) : FnOk P w K mg base CX0 1 (He.ma K (He.ga K "BadDeed") "__init__") T.fd_BadDeed___init__ ["self", "number"] (spExI K (He.ga K "BadDeed") "number") := by
  refine okOf T.F_BadDeed___init__ sc_BadDeed___init__ (fun vs H Q E h => ?_) (fun cdv A outer s H vs Q E hr h => ?_)
  · obtain ⟨_, _, rfl, _⟩ := h
    rfl
  · obtain ⟨a, n, rfl, hn, ha, k⟩ := h
    have T1 := (T.xt.xc "BadDeed" (by decide)).oex T.ox_BadDeed
    refine ⟨_, (pss_cons (ps_expr (pe_weinit (by rfl) T.g_WayError T.xt.sg T.xt.rd T.xt.fc (pa_cons (pv 0) (pa_cons (pe_joined (.cons pe_str (.cons (pe_fmt (pv 1)) .nil))) pa_nil)))) (pss_one (ps_ost (pv 0) (pv 1)))), ?_⟩
    refine ⟨_, rfl, ⟨"deed ", rfl, by decide, _, rfl, .inr ⟨n, rfl, log60 hn, _, rfl, int_fits60 hn (by decide), ?_⟩⟩⟩
    refine ⟨a, _, _, rfl, by show 1 ≤ 1000; decide, T1, ha, ?_⟩
    exact ⟨_, rfl, _, rfl, a, _, rfl, T1, T.na_BadDeed_number, .inl ⟨ha, fun dx h1 h2 => k dx h1 h2⟩⟩
theorem ok_BadLeavings (T : Txt K mg) : FnOk P w K mg base CX0 1 (He.ma K (He.ga K "BadLeavings") "__init__") T.fd_BadLeavings___init__ ["self", "number"] (spExI K (He.ga K "BadLeavings") "number") := by
  refine okOf T.F_BadLeavings___init__ sc_BadLeavings___init__ (fun vs H Q E h => ?_) (fun cdv A outer s H vs Q E hr h => ?_)
  · obtain ⟨_, _, rfl, _⟩ := h
    rfl
  · obtain ⟨a, n, rfl, hn, ha, k⟩ := h
    have T1 := (T.xt.xc "BadLeavings" (by decide)).oex T.ox_BadLeavings
    refine ⟨_, (pss_cons (ps_expr (pe_weinit (by rfl) T.g_WayError T.xt.sg T.xt.rd T.xt.fc (pa_cons (pv 0) (pa_cons (pe_joined (.cons pe_str (.cons (pe_fmt (pv 1)) .nil))) pa_nil)))) (pss_one (ps_ost (pv 0) (pv 1)))), ?_⟩
    refine ⟨_, rfl, ⟨"leaving ", rfl, by decide, _, rfl, .inr ⟨n, rfl, log60 hn, _, rfl, int_fits60 hn (by decide), ?_⟩⟩⟩
    refine ⟨a, _, _, rfl, by show 1 ≤ 1000; decide, T1, ha, ?_⟩
    exact ⟨_, rfl, _, rfl, a, _, rfl, T1, T.na_BadLeavings_number, .inl ⟨ha, fun dx h1 h2 => k dx h1 h2⟩⟩
theorem ok_BadText (T : Txt K mg) : FnOk P w K mg base CX0 1 (He.ma K (He.ga K "BadText") "__init__") T.fd_BadText___init__ ["self", "row"] (spExI K (He.ga K "BadText") "row") := by
  refine okOf T.F_BadText___init__ sc_BadText___init__ (fun vs H Q E h => ?_) (fun cdv A outer s H vs Q E hr h => ?_)
  · obtain ⟨_, _, rfl, _⟩ := h
    rfl
  · obtain ⟨a, n, rfl, hn, ha, k⟩ := h
    have T1 := (T.xt.xc "BadText" (by decide)).oex T.ox_BadText
    refine ⟨_, (pss_cons (ps_expr (pe_weinit (by rfl) T.g_WayError T.xt.sg T.xt.rd T.xt.fc (pa_cons (pv 0) (pa_cons (pe_joined (.cons pe_str (.cons (pe_fmt (pv 1)) .nil))) pa_nil)))) (pss_one (ps_ost (pv 0) (pv 1)))), ?_⟩
    refine ⟨_, rfl, ⟨"row ", rfl, by decide, _, rfl, .inr ⟨n, rfl, log60 hn, _, rfl, int_fits60 hn (by decide), ?_⟩⟩⟩
    refine ⟨a, _, _, rfl, by show 1 ≤ 1000; decide, T1, ha, ?_⟩
    exact ⟨_, rfl, _, rfl, a, _, rfl, T1, T.na_BadText_row, .inl ⟨ha, fun dx h1 h2 => k dx h1 h2⟩⟩
end
def wordsL : List Str := ["rule", "hands", "hand", "place", "number", "deed", "room", "ways", "leavings", "text"]
def fldOf (i : Nat) : Option Str := if i = 0 ∨ i = 5 ∨ i = 8 then some "number" else if i = 9 then some "row" else none
/-- what the word of a refusal asks of the exception -/
def wishW (K : PySem.W.Frag) (Q : VK) : XK := fun cls d H => ∃ (i : Nat) (c wd : Str) (L : List Cell), bads[i]? = some c ∧ wordsL[i]? = some wd ∧ cls = .ref (He.ga K c) ∧ Own H L ∧
  ((d = none ∧ fldOf i = none ∧ ∀ H', Own H' L → Q (.str wd) H') ∨
    ∃ (dd : Addr) (f : Str) (n : Int), d = some dd ∧ fldOf i = some f ∧ (dd, HO.xd [(f, .int n)]) ∈ L ∧ ∀ (t : Addr) (H' : Hp), Own H' ((t, .tup [.str wd, .int n]) :: L) → Q (.ref t) H')
def TTword (K : PySem.W.Frag) : (XK → Hp → VK → Prop) → Hp → VK → Prop := fun tl H Q => tl (wishW K Q) H fun _ H' => Q (.str "") H'
def kindsL (c : Str) : List Bool := bads.map fun d => decide (c = d)
theorem kinds_of {i : Nat} {c : Str} (h : bads[i]? = some c) : (kindsL c).countP (· == true) = 1 ∧ (kindsL c)[i]? = some true ∧ (∀ m z, m < i → (kindsL c)[m]? = some z → z = false) ∧ i < 10 := by
  have hi : i < 10 := (List.getElem?_eq_some_iff.mp h).1
  have : i = 0 ∨ i = 1 ∨ i = 2 ∨ i = 3 ∨ i = 4 ∨ i = 5 ∨ i = 6 ∨ i = 7 ∨ i = 8 ∨ i = 9 := by omega
  have key : ∀ (j : Nat), j < 10 → ∀ c, bads[j]? = some c → (kindsL c).countP (· == true) = 1 ∧ (kindsL c)[j]? = some true ∧ ∀ m, m < j → (kindsL c)[m]? = some false := by
    intro j hj c hc
    rcases (show j = 0 ∨ j = 1 ∨ j = 2 ∨ j = 3 ∨ j = 4 ∨ j = 5 ∨ j = 6 ∨ j = 7 ∨ j = 8 ∨ j = 9 by omega) with e | e | e | e | e | e | e | e | e | e <;> subst e <;> obtain rfl := Option.some.inj hc <;> decide +kernel
  obtain ⟨h1, h2, h3⟩ := key i hi c h
  refine ⟨h1, h2, fun m z hm hz => ?_, hi⟩
  rw [h3 m hm] at hz
  exact (Option.some.inj hz).symm
theorem wordIn {i : Nat} {wd : Str} (h : wordsL[i]? = some wd) : inV (.str wd) [.str "rule", .str "deed", .str "leavings"] = decide (i = 0 ∨ i = 5 ∨ i = 8) ∧ decide (V.str wd = V.str "text") = decide (i = 9) := by
  have hi : i < 10 := (List.getElem?_eq_some_iff.mp h).1
  rcases (show i = 0 ∨ i = 1 ∨ i = 2 ∨ i = 3 ∨ i = 4 ∨ i = 5 ∨ i = 6 ∨ i = 7 ∨ i = 8 ∨ i = 9 by omega) with e | e | e | e | e | e | e | e | e | e <;> subst e <;> obtain rfl := Option.some.inj h <;> decide +kernel
theorem len4 {σ : L2.St} (h : σ.length = 4) : ∃ a b c d, σ = [a, b, c, d] := by
  match σ, h with
  | [a, b, c, d], _ => exact ⟨a, b, c, d, rfl⟩
theorem shapedWI {x : Str} {n : Int} (h : PyData.canLay0 (.str x) = true) : SeqAt.shaped (.tuple [.str x, .int n]) = true := by
  refine shaped_of ?_ ?_
  · show (PyData.canLay0 (.str x) && (true && true)) = true
    rw [h]
    rfl
  · show max 0 (max 0 0) + 1 ≤ 64
    decide
theorem pss_ex {X : Cx} {α : Type _} {c : α → Prop} {t : α → TS} {body : List Stmt} (h : ∀ x, c x → PSs X body (t x)) : PSs X body (fun D σ H => ∃ x, c x ∧ t x D σ H) :=
  ⟨fun pins s σ H D I ⟨x, hc, ht⟩ => (h x hc).run pins s σ H D I ht⟩
theorem word_gives {X : Cx} (T : Txt X.K X.mg) {cdg : Value} {q : Str} : LamX.GivesTo X ["_law_work", "_law_kinds", "e", "_law_word_here"] "_law_word" (defScope s__law_word) (He.fAd X.K ("_law_word", none)) cdg (defBody s__law_word) "_law_work" q (TTword X.K) := by
  intro f c' s H Q tl act hc h
  refine ⟨_, pss_cons (ps_try_as (X := (cxOf C8.CX0 X.prog X.w X.K X.mg X.base ["_law_work", "_law_kinds", "e", "_law_word_here"] "_law_word" (defScope s__law_word) (He.fAd X.K ("_law_word", none)) cdg X.A X.stack s H C8.E0).nox) (c := .ref (He.ga X.K "WayError")) (i := 2)
      (tb := fun W D σ H => ∃ Ech : XK, (∀ cls d σ' H', σ'.length = 4 → Ech cls d H' → W cls d σ' H') ∧ σ[0]? = some (some (.ref f)) ∧ H c' = some (LamX.CodeO c' q) ∧ tl Ech H fun _ H' => D.nx σ H')
      rfl rfl sc__law_word.nd rfl rfl ⟨rfl, by decide, .inl T.g_WayError⟩ LamX.takes0 (fun W pn xe tk _ => ?_) (fun a oe cls d pn hz hf => (pss_cons (ps_set (i := 1) sc__law_word.nd rfl (Or.inl rfl) (pe_lst (pa_cons (pe_callB (call_isX hz hf) (by rfl) T.n_isinstance (by decide +kernel) (pa_cons (pv 2) (pa_cons (pe_globR rfl T.g_BadRule) pa_nil))) (pa_cons (pe_callB (call_isX hz hf) (by rfl) T.n_isinstance (by decide +kernel) (pa_cons (pv 2) (pa_cons (pe_globR rfl T.g_BadHands) pa_nil))) (pa_cons (pe_callB (call_isX hz hf) (by rfl) T.n_isinstance (by decide +kernel) (pa_cons (pv 2) (pa_cons (pe_globR rfl T.g_BadHand) pa_nil))) (pa_cons (pe_callB (call_isX hz hf) (by rfl) T.n_isinstance (by decide +kernel) (pa_cons (pv 2) (pa_cons (pe_globR rfl T.g_BadPlace) pa_nil))) pa_nil)))))) (pss_cons (ps_set (i := 1) sc__law_word.nd rfl (Or.inl rfl) (pe_op op_cat (pv 1) (pe_lst (pa_cons (pe_callB (call_isX hz hf) (by rfl) T.n_isinstance (by decide +kernel) (pa_cons (pv 2) (pa_cons (pe_globR rfl T.g_BadNumber) pa_nil))) (pa_cons (pe_callB (call_isX hz hf) (by rfl) T.n_isinstance (by decide +kernel) (pa_cons (pv 2) (pa_cons (pe_globR rfl T.g_BadDeed) pa_nil))) (pa_cons (pe_callB (call_isX hz hf) (by rfl) T.n_isinstance (by decide +kernel) (pa_cons (pv 2) (pa_cons (pe_globR rfl T.g_BadRoom) pa_nil))) pa_nil)))))) (pss_cons (ps_set (i := 1) sc__law_word.nd rfl (Or.inl rfl) (pe_op op_cat (pv 1) (pe_lst (pa_cons (pe_callB (call_isX hz hf) (by rfl) T.n_isinstance (by decide +kernel) (pa_cons (pv 2) (pa_cons (pe_globR rfl T.g_BadWays) pa_nil))) (pa_cons (pe_callB (call_isX hz hf) (by rfl) T.n_isinstance (by decide +kernel) (pa_cons (pv 2) (pa_cons (pe_globR rfl T.g_BadLeavings) pa_nil))) (pa_cons (pe_callB (call_isX hz hf) (by rfl) T.n_isinstance (by decide +kernel) (pa_cons (pv 2) (pa_cons (pe_globR rfl T.g_BadText) pa_nil))) pa_nil)))))) (pss_cons (ps_if (PW.pt (pw_or (pt_cmpR op_ne (pe_bmK X.K (by rfl) PySem.F.plainAttrs_list PySem.F.slot_list_count PySem.F.type_list_count (mt_cntK X.K (by rfl)) (pv 1) (pa_cons pe_bl pa_nil)) pe_int (nomark _)) (pw_or1 (pt_not (pt_val (pe_callB (call_isX hz hf) (by rfl) T.n_isinstance (by decide +kernel) (pa_cons (pv 2) (pa_cons (pe_bltn (v := .ty "ValueError") (by rfl) T.n_ValueError (by decide +kernel) rfl) pa_nil)))))))) (pss_one (ps_ret pe_str)) pss_nil) (pss_cons (ps_set (i := 3) sc__law_word.nd rfl (Or.inl rfl) (pe_lst (pa_cons pe_str (pa_cons pe_str (pa_cons pe_str (pa_cons pe_str (pa_cons pe_str (pa_cons pe_str (pa_cons pe_str (pa_cons pe_str (pa_cons pe_str (pa_cons pe_str pa_nil)))))))))))) (pss_cons (ps_set (i := 3) sc__law_word.nd rfl (Or.inl rfl) (pe_ix (ix_listK X.K (by rfl)) (pv 3) (pe_bmK X.K (by rfl) PySem.F.plainAttrs_list PySem.F.slot_list_index PySem.F.type_list_index (mt_idxK X.K (by rfl)) (pv 1) (pa_cons pe_bl pa_nil)) (fun _ _ => rfl))) (pss_cons (ps_if (pt_cmpR (op_inK X.K (by rfl)) (pv 3) (pe_tup (pa_cons pe_str (pa_cons pe_str (pa_cons pe_str pa_nil)))) (by rfl)) (pss_one (ps_ret (pe_tup (pa_cons (pv 3) (pa_cons (pe_xg hz hf (pv 2)) pa_nil))))) pss_nil) (pss_one (ps_ret (pe_ifExp (pt_cmpR op_eq (pv 3) pe_str (nomark _)) (pe_tup (pa_cons (pv 3) (pa_cons (pe_xg hz hf (pv 2)) pa_nil))) (pv 3))))))))))))) (pss_one (ps_ret pe_str)), ?_⟩
  · refine pss_ex (c := fun Ech : XK => ∀ cls d (σ' : L2.St) H', σ'.length = 4 → Ech cls d H' → W cls d σ' H') fun Ech hW => pss_one (ps_expr (act _ pn xe Ech _ _ (takesLen tk) fun cls d σ' H' e l => hW cls d σ' H' l e))
  · refine ⟨wishW X.K Q, fun cls d σ' H' hl hw => ?_, rfl, hc, h⟩
    obtain ⟨b0, b1, b2, b3, rfl⟩ := len4 hl
    obtain ⟨i, c, wd, L, hi, hwd, rfl, O, hk⟩ := hw
    have hcm : c ∈ bads := List.mem_of_getElem? hi
    have hdd : ∀ dd, d = some dd → ∃ fs, (dd, HO.xd fs) ∈ L := fun dd e => by
      rcases hk with ⟨e2, _⟩ | ⟨d2, f2, n2, e2, _, hm, _⟩
      · rw [e2] at e
        cases e
      · rw [e2] at e
        cases e
        exact ⟨_, hm⟩
    refine ⟨true, T.xt.ex c hcm, fun _ a ha => ?_, fun z => nomatch z⟩
    have hx := T.xt.xc c hcm
    have hd0 : ∀ {HH : Hp} {LL : List Cell}, Own HH (LL ++ L) → ∀ dd, d = some dd → ∃ fs, HH dd = some (.xd fs) := fun O dd e => by
      obtain ⟨fs, hm⟩ := hdd dd e
      exact ⟨fs, O.mem (List.mem_append_right _ hm)⟩
    have hd1 := hd0 (LL := []) O
    refine ⟨_, rfl, _, _, _, _, rfl, hx, hd1, rfl, fun u r => r, T.xt.kit c hcm "BadRule" (by decide), ?_⟩
    refine ⟨_, rfl, _, _, _, _, rfl, hx, hd1, rfl, fun u r => r, T.xt.kit c hcm "BadHands" (by decide), ?_⟩
    refine ⟨_, rfl, _, _, _, _, rfl, hx, hd1, rfl, fun u r => r, T.xt.kit c hcm "BadHand" (by decide), ?_⟩
    refine ⟨_, rfl, _, _, _, _, rfl, hx, hd1, rfl, fun u r => r, T.xt.kit c hcm "BadPlace" (by decide), ?_⟩
    refine ⟨by show 4 ≤ sizeLine; decide, fun p1 hp1 => ?_⟩
    have O1 := O.new (o := .lst ([decide (c = "BadRule"), decide (c = "BadHands"), decide (c = "BadHand"), decide (c = "BadPlace")].map V.bl)) hp1
    have hd2 := hd0 (LL := [_]) O1
    refine ⟨_, rfl, ?_⟩
    refine ⟨_, rfl, _, _, _, _, rfl, hx, hd2, rfl, fun u r => r, T.xt.kit c hcm "BadNumber" (by decide), ?_⟩
    refine ⟨_, rfl, _, _, _, _, rfl, hx, hd2, rfl, fun u r => r, T.xt.kit c hcm "BadDeed" (by decide), ?_⟩
    refine ⟨_, rfl, _, _, _, _, rfl, hx, hd2, rfl, fun u r => r, T.xt.kit c hcm "BadRoom" (by decide), ?_⟩
    refine ⟨by show 3 ≤ sizeLine; decide, fun p2 hp2 => ?_⟩
    have O2 := O1.new (o := .lst ([decide (c = "BadNumber"), decide (c = "BadDeed"), decide (c = "BadRoom")].map V.bl)) hp2
    refine ⟨p1, p2, _, _, rfl, rfl, O2.a1, O2.a0, by show 4 + 3 ≤ sizeLine; decide, fun p3 hp3 => ?_⟩
    have O3 := O2.new (o := .lst ([decide (c = "BadRule"), decide (c = "BadHands"), decide (c = "BadHand"), decide (c = "BadPlace"), decide (c = "BadNumber"), decide (c = "BadDeed"), decide (c = "BadRoom")].map V.bl)) hp3
    have hd3 := hd0 (LL := [_, _, _]) O3
    refine ⟨_, rfl, ?_⟩
    refine ⟨_, rfl, _, _, _, _, rfl, hx, hd3, rfl, fun u r => r, T.xt.kit c hcm "BadWays" (by decide), ?_⟩
    refine ⟨_, rfl, _, _, _, _, rfl, hx, hd3, rfl, fun u r => r, T.xt.kit c hcm "BadLeavings" (by decide), ?_⟩
    refine ⟨_, rfl, _, _, _, _, rfl, hx, hd3, rfl, fun u r => r, T.xt.kit c hcm "BadText" (by decide), ?_⟩
    refine ⟨by show 3 ≤ sizeLine; decide, fun p4 hp4 => ?_⟩
    have O4 := O3.new (o := .lst ([decide (c = "BadWays"), decide (c = "BadLeavings"), decide (c = "BadText")].map V.bl)) hp4
    refine ⟨p3, p4, _, _, rfl, rfl, O4.a1, O4.a0, by show 7 + 3 ≤ sizeLine; decide, fun p5 hp5 => ?_⟩
    have O5 := O4.new (o := .lst ((kindsL c).map V.bl)) hp5
    have hd5 := hd0 (LL := [_, _, _, _, _]) O5
    obtain ⟨k1, k2, k3, hi10⟩ := kinds_of hi
    refine ⟨_, rfl, .inl ⟨rfl, _, SqL.of O5.a0⟩, p5, kindsL c, true, rfl, rfl, SqL.of O5.a0, ?_⟩
    rw [k1]
    refine ⟨rfl, false, rfl, iteF ?_⟩
    refine ⟨_, rfl, _, _, _, _, rfl, hx, hd5, rfl, fun u r => r, T.xt.kv c hcm, _, rfl, iteF ?_⟩
    refine ⟨by show 10 ≤ sizeLine; decide, fun p6 hp6 => ?_⟩
    have O6 := O5.new (o := .lst (wordsL.map V.str)) hp6
    refine ⟨_, rfl, _, rfl, .inl ⟨rfl, _, SqL.of O6.a1⟩, p5, _, _, i, .bl true, rfl, rfl, SqL.of O6.a1, rfl, ?_, by rw [List.getElem?_map, k2]; rfl, rfl, fun m z hm hz => ?_, ?_⟩
    · rw [List.all_eq_true]
      intro x hx2
      obtain ⟨b, _, rfl⟩ := List.mem_map.mp hx2
      rfl
    · rw [List.getElem?_map] at hz
      cases e : (kindsL c)[m]? with
      | none =>
        rw [e] at hz
        cases hz
      | some b =>
        rw [e] at hz
        have ez : V.bl b = z := Option.some.inj hz
        rw [← ez, k3 m b hm e]
        rfl
    refine ⟨p6, _, _, .str wd, rfl, rfl, SqL.of O6.a0, atI_nat (by rw [List.getElem?_map, hwd]; rfl), ?_⟩
    obtain ⟨w1, w2⟩ := wordIn hwd
    have hpar : ∀ {f : Str}, fldOf i = some f → PySem.W.findIn X.K (.ref (He.ga X.K c)) f = some none := fun {f} hf => by
      unfold fldOf at hf
      split at hf
      · rename_i h3
        obtain rfl := Option.some.inj hf
        rcases h3 with e | e | e <;> subst e <;> obtain rfl := Option.some.inj hi
        · exact T.na_BadRule_number
        · exact T.na_BadDeed_number
        · exact T.na_BadLeavings_number
      · split at hf
        · rename_i e
          subst e
          obtain rfl := Option.some.inj hf
          obtain rfl := Option.some.inj hi
          exact T.na_BadText_row
        · cases hf
    refine ⟨_, rfl, by show 3 ≤ sizeLine; decide, fun p7 hp7 => ?_⟩
    have O7 := O6.new (o := .tup [.str "rule", .str "deed", .str "leavings"]) hp7
    refine ⟨p7, _, rfl, .inr (SqT.of O7.a0), rfl, rfl, ?_⟩
    rw [w1]
    have OL : ∀ {HH : Hp} {LL : List Cell}, Own HH (LL ++ L) → Own HH L := fun O => Own.right O
    refine ⟨_, rfl, ?_⟩
    by_cases h3 : i = 0 ∨ i = 5 ∨ i = 8
    · refine iteTo (decide_eq_true h3) ?_
      rcases hk with ⟨_, e2, _⟩ | ⟨dd, f2, n2, rfl, e2, hm, k⟩
      · unfold fldOf at e2
        rw [if_pos h3] at e2
        cases e2
      have e3 := e2
      unfold fldOf at e3
      rw [if_pos h3] at e3
      obtain rfl := Option.some.inj e3
      refine ⟨_, rfl, _, rfl, rfl, _, dd, _, .int n2, rfl, hx, hpar e2, rfl, O7.mem (show (dd, HO.xd [("number", V.int n2)]) ∈ _ by simp [hm]), rfl, by show 2 ≤ sizeLine; decide, fun p8 hp8 => ?_⟩
      have O8 := O7.new (o := .tup [.str wd, .int n2]) hp8
      exact k p8 _ (O8.sub (List.Sublist.cons_cons _ (List.sublist_append_right [_, _, _, _, _, _, _] L)))
    · refine iteFo (decide_eq_false h3) ?_
      refine ⟨_, rfl, ?_⟩
      refine ⟨rfl, _, rfl, ?_⟩
      rw [w2]
      by_cases h9 : i = 9
      · refine iteTo (decide_eq_true h9) ?_
        rcases hk with ⟨_, e2, _⟩ | ⟨dd, f2, n2, rfl, e2, hm, k⟩
        · unfold fldOf at e2
          rw [if_neg h3, if_pos h9] at e2
          cases e2
        have e3 := e2
        unfold fldOf at e3
        rw [if_neg h3, if_pos h9] at e3
        obtain rfl := Option.some.inj e3
        refine ⟨_, rfl, _, rfl, rfl, _, dd, _, .int n2, rfl, hx, hpar e2, rfl, O7.mem (show (dd, HO.xd [("row", V.int n2)]) ∈ _ by simp [hm]), rfl, by show 2 ≤ sizeLine; decide, fun p8 hp8 => ?_⟩
        have O8 := O7.new (o := .tup [.str wd, .int n2]) hp8
        exact k p8 _ (O8.sub (List.Sublist.cons_cons _ (List.sublist_append_right [_, _, _, _, _, _, _] L)))
      · refine iteFo (decide_eq_false h9) ⟨_, rfl, ?_⟩
        rcases hk with ⟨rfl, e2, k⟩ | ⟨dd, f2, n2, rfl, e2, hm, k⟩
        · exact k _ (O7.sub (List.sublist_append_right [_, _, _, _, _, _, _] L))
        · unfold fldOf at e2
          rw [if_neg h3, if_neg h9] at e2
          cases e2
-- WwFb
/-! ### blocks that are none, ways that are none -/
abbrev isV (ns : List Int) : List V := ns.map V.int
def BlkAt (ns : List Int) (i : Nat) : Prop := ∃ x, ns[i]? = some x ∧ i < 200 ∧ 0 ≤ x ∧ x ≤ 15
def BlksOk (ns : List Int) : Prop := ∀ i, i < ns.length → BlkAt ns i
/-- the first that can't be -/
def BlkBad (ns : List Int) (i : Nat) : Prop := i < ns.length ∧ ¬ BlkAt ns i ∧ ∀ j, j < i → BlkAt ns j
def spNeedBlksX (K : PySem.W.Frag) : Sp := fun vs H Q E => ∃ (pa : Addr) (ns : List Int) (R : List Cell), vs = [.ref pa] ∧ ns.length ≤ 1000 ∧ (pa, HO.lst (isV ns)) ∈ R ∧ Own H R ∧ (BlksOk ns → ∀ H' : Hp, Own H' R → Q .non H') ∧
  ∀ i, BlkBad ns i → ∀ (d : Addr) (H' : Hp), Own H' ((d, .xd [("number", .int (i : Nat))]) :: R) → E (.ref (He.ga K "BadDeed")) (some d) H'
def spNeedWaysX (K : PySem.W.Frag) : Sp := fun vs H Q E => ∃ (w : Int), vs = [.int w] ∧ (1 ≤ w ∧ w ≤ 8 → Q .non H) ∧ (¬ (1 ≤ w ∧ w ≤ 8) → E (.ref (He.ga K "BadWays")) none H)
section
variable {P : Program} {w : World} {K : PySem.W.Frag} {mg : Str → Option Value} {base : Heap} {n lv : Nat}
theorem ok_need_blksX (T : Txt K mg) : FnOk P w K mg base (L2.CX P w) 3 (He.fAd K ("need_blocks", none)) T.fd_need_blocks ["blocks"] (spNeedBlksX K) := by
  have G_is_number := ok_is_number (P := P) (w := w) (base := base) T
  have G_BadDeed := ok_BadDeed (P := P) (w := w) (base := base) T
  refine okX T.F_need_blocks sc_need_blocks (fun vs H Q E h => ?_) (fun cdv A outer s H vs Q E hr h => ?_)
  · obtain ⟨_, _, _, rfl, _⟩ := h
    rfl
  · obtain ⟨pa, ns, R, rfl, hl, hpa, O, k, ke⟩ := h
    refine ⟨_, (pss_one (ps_for (passes_of rfl) rfl (pi_enum (by rfl) T.n_enumerate (pa_cons (pv 0) pa_nil)) (pg_tup (by rfl) (pgs_cons (pg_name (i := 1) sc_need_blocks.nd rfl (Or.inl rfl)) (pgs_cons (pg_name (i := 2) sc_need_blocks.nd rfl (Or.inl rfl)) pgs_nil))) (pss_one (ps_if (PW.pt (pw_or (pt_cmpR op_ge (pv 1) (pe_globI rfl T.g_MOST_DEEDS) (nomark _)) (pw_or1 (pt_not (pt_val (pe_call G_is_number (hr.mono (by omega)) rfl T.g_is_number T.k_is_number T.b_is_number .nil pass0 (pa_cons (pv 2) (pa_cons pe_int (pa_cons (pe_op op_sub (pe_globI rfl T.g_BLOCKS) pe_int) pa_nil))))))))) (pss_one (ps_raise rfl (takes_of rfl rfl rfl rfl) (pmk_oex ((T.xt.xc "BadDeed" (by decide)).oex T.ox_BadDeed) T.m_BadDeed___init__.at_ (isFn_ty T.m_BadDeed___init__.fn) G_BadDeed (hr.mono (by omega)) T.b_BadDeed___init__ .nil pass0 (by rfl) T.g_BadDeed (pa_cons (pv 1) pa_nil)))) pss_nil)))), ?_⟩
    refine ⟨_, rfl, pa, _, rfl, SqL.of (O.mem hpa), ?_⟩
    refine for_enum (K := K) (a := pa) (xs := isV ns) (fun i σ H' => (∃ v1 v2, σ = [some (.ref pa), v1, v2]) ∧ (∀ j, j < i → BlkAt ns j) ∧ Own H' R) ⟨⟨none, none, rfl⟩, fun j hj => absurd hj (by omega), O⟩ (fun i σ H' _ ⟨_, _, O'⟩ => SqL.of (O'.mem hpa)) ?_ ?_
    · rintro i x σ H1 p hi ⟨⟨v1, v2, rfl⟩, hj, O1⟩ hp
      rw [List.getElem?_map] at hi
      cases ha : ns[i]? with
      | none =>
        rw [ha] at hi
        cases hi
      | some b =>
        rw [ha] at hi
        have ex : V.int b = x := Option.some.inj hi
        subst ex
        have hil : i < ns.length := (List.getElem?_eq_some_iff.mp ha).1
        have O2 := O1.new (o := .tup [.int (i : Nat), .int b]) hp
        have bad : ¬ BlkAt ns i → ∀ d, upd H1 p (HO.tup [.int (i : Nat), .int b]) d = none → E (.ref (He.ga K "BadDeed")) (some d) (upd (upd H1 p (HO.tup [.int (i : Nat), .int b])) d (.xd [("number", .int (i : Nat))])) := fun hb d hd => ke i ⟨hil, hb, hj⟩ d _ ((O2.tail).new hd)
        refine ⟨p, _, rfl, SqT.of O2.a0, rfl, _, _, rfl, _, _, rfl, rfl, ?_⟩
        refine ⟨_, rfl, i, 200, rfl, rfl, _, rfl, ?_⟩
        by_cases h2 : (200 : Int) ≤ (i : Int)
        · refine iteTo (decide_eq_true h2) ?_
          refine ⟨_, rfl, rz_go (by omega) (bad fun ⟨_, _, z, _⟩ => by omega)⟩
        · refine iteFo (decide_eq_false h2) ?_
          refine ⟨_, rfl, _, _, rfl, rfl, b, 0, 15, rfl, _, rfl, ?_⟩
          by_cases h3 : 0 ≤ b ∧ b ≤ 15
          · rw [decide_eq_true h3]
            refine iteF ⟨⟨_, _, rfl⟩, fun j hj2 => ?_, O2.tail⟩
            by_cases e : j = i
            · rw [e]
              exact ⟨b, ha, by omega, h3.1, h3.2⟩
            · exact hj j (by omega)
          · rw [decide_eq_false h3]
            refine iteT ⟨_, rfl, rz_go (by omega) (bad fun ⟨y, hy, _, z⟩ => ?_)⟩
            rw [ha] at hy
            cases hy
            exact h3 z
    · rintro σ H1 ⟨⟨v1, v2, rfl⟩, hj, O1⟩
      rw [List.length_map] at hj
      exact k hj H1 O1
theorem ok_need_waysX (T : Txt K mg) : FnOk P w K mg base (L2.CX P w) 2 (He.fAd K ("need_ways", none)) T.fd_need_ways ["ways"] (spNeedWaysX K) := by
  have G_is_number := ok_is_number (P := P) (w := w) (base := base) T
  refine okX T.F_need_ways sc_need_ways (fun vs H Q E h => ?_) (fun cdv A outer s H vs Q E hr h => ?_)
  · obtain ⟨_, rfl, _⟩ := h
    rfl
  · obtain ⟨w, rfl, k, ke⟩ := h
    refine ⟨_, (pss_one (ps_if (pt_not (pt_val (pe_call G_is_number (hr.mono (by omega)) rfl T.g_is_number T.k_is_number T.b_is_number .nil pass0 (pa_cons (pv 0) (pa_cons pe_int (pa_cons (pe_globI rfl T.g_MOST_WAYS) pa_nil)))))) (pss_one (ps_raise rfl (takes_of rfl rfl rfl rfl) (pmk_own PySem.F.excBase_ValueError T.xe_BadWays.1 T.g_BadWays T.xe_BadWays.2.1 (raises_own T.xe_BadWays.2.2.1 T.xe_BadWays.2.2.2) (by rfl)))) pss_nil)), ?_⟩
    refine ⟨_, rfl, w, 1, 8, rfl, _, rfl, ?_⟩
    by_cases h3 : 1 ≤ w ∧ w ≤ 8
    · rw [decide_eq_true h3]
      exact iteF (k h3)
    · rw [decide_eq_false h3]
      exact iteT (ke h3)
end
-- WwJd
/-! ### leavings judged, plainly -/
def jGo (w : Nat) (ls : List Int) : List Int → List Int → Nat → Nat → Nat ⊕ Nat
  | [], _, br, mn => if mn < ls.length then .inr mn else .inl br
  | b :: bs, th, br, mn => if b ∈ th then jGo w ls bs th br mn else if th.length = w then
      (if ls.length ≤ mn ∨ ls.getD mn 0 ∉ th then .inr mn else jGo w ls bs (th.erase (ls.getD mn 0) ++ [b]) (br + 1) (mn + 1))
    else jGo w ls bs (th ++ [b]) (br + 1) mn
theorem jGo_le {w : Nat} {ls : List Int} : ∀ {bs th : List Int} {br mn k : Nat}, mn ≤ ls.length → jGo w ls bs th br mn = .inr k → k ≤ ls.length
  | [], _, br, mn, k, h, e => by
    unfold jGo at e
    split at e
    · have : mn = k := Sum.inr.inj e
      omega
    · cases e
  | b :: bs, th, br, mn, k, h, e => by
    unfold jGo at e
    split at e
    · exact jGo_le h e
    · split at e
      · split at e
        · have : mn = k := Sum.inr.inj e
          omega
        · rename_i h2
          exact jGo_le (by omega) e
      · exact jGo_le h e
theorem filter_erase {x : Int} : ∀ {l : List Int}, l.Nodup → l.filter (fun y => decide (y ≠ x)) = l.erase x
  | [], _ => rfl
  | a :: l, h => by
    obtain ⟨h1, h2⟩ := List.nodup_cons.mp h
    by_cases e : a = x
    · subst e
      rw [List.erase_cons_head, List.filter_cons_of_neg (by simp)]
      refine List.filter_eq_self.mpr fun y hy => decide_eq_true fun e => ?_
      rw [e] at hy
      exact h1 hy
    · rw [List.erase_cons_tail (by simpa using e), List.filter_cons_of_pos (by simpa using e), filter_erase h2]
-- WwFj
/-! ### judged -/
def spJudged (K : PySem.W.Frag) : Sp := fun vs H Q E => ∃ (pb pl : Addr) (w : Int) (ns ls : List Int) (R : List Cell), vs = [.ref pb, .int w, .ref pl] ∧ ns.length ≤ 1000 ∧ ls.length ≤ 1000 ∧ (pb, HO.lst (isV ns)) ∈ R ∧ (pl, HO.lst (isV ls)) ∈ R ∧ Own H R ∧
  (∀ i, BlkBad ns i → ∀ (d : Addr) (H' : Hp), Own H' ((d, .xd [("number", .int (i : Nat))]) :: R) → E (.ref (He.ga K "BadDeed")) (some d) H') ∧
  (BlksOk ns → ¬ (1 ≤ w ∧ w ≤ 8) → ∀ H', Own H' R → E (.ref (He.ga K "BadWays")) none H') ∧
  (BlksOk ns → 1 ≤ w ∧ w ≤ 8 → (∀ br : Nat, jGo w.toNat ls ns [] 0 0 = .inl br → ∀ H', Own H' R → Q (.int (br : Nat)) H') ∧
    ∀ k : Nat, jGo w.toNat ls ns [] 0 0 = .inr k → ∀ (d : Addr) (H' : Hp), Own H' ((d, .xd [("number", .int (k : Nat))]) :: R) → E (.ref (He.ga K "BadLeavings")) (some d) H')
section
variable {P : Program} {w : World} {K : PySem.W.Frag} {mg : Str → Option Value} {base : Heap} {n lv : Nat}
theorem ok_judged (T : Txt K mg) : FnOk P w K mg base (L2.CX P w) 4 (He.fAd K ("judged", none)) T.fd_judged ["blocks", "ways", "leavings"] (spJudged K) := by
  have G_need_blocks := ok_need_blksX (P := P) (w := w) (base := base) T
  have G_need_ways := ok_need_waysX (P := P) (w := w) (base := base) T
  have G_BadLeavings := ok_BadLeavings (P := P) (w := w) (base := base) T
  refine okX T.F_judged sc_judged (fun vs H Q E h => ?_) (fun cdv A outer s H vs Q E hr h => ?_)
  · obtain ⟨_, _, _, _, _, _, rfl, _⟩ := h
    rfl
  · obtain ⟨pb, pl, w, ns, ls, R, rfl, hnl, hll, hpb, hpl, O, k1, k2, k3⟩ := h
    refine ⟨_, (pss_cons (ps_expr (pe_call G_need_blocks (hr.mono (by omega)) rfl T.g_need_blocks T.k_need_blocks T.b_need_blocks .nil (passes_call (takes_of rfl rfl rfl rfl) fun _ _ _ _ z => z) (pa_cons (pv 0) pa_nil))) (pss_cons (ps_expr (pe_call G_need_ways (hr.mono (by omega)) rfl T.g_need_ways T.k_need_ways T.b_need_ways .nil (passes_call (takes_of rfl rfl rfl rfl) fun _ _ _ _ z => z) (pa_cons (pv 1) pa_nil))) (pss_cons (ps_set (i := 3) sc_judged.nd rfl (Or.inl rfl) (pe_lst pa_nil)) (pss_cons (ps_set (i := 4) sc_judged.nd rfl (Or.inl rfl) pe_int) (pss_cons (ps_set (i := 5) sc_judged.nd rfl (Or.inl rfl) pe_int) (pss_cons (ps_for (passes_of rfl) rfl (pi_list (pv 0)) (pg_name (i := 6) sc_judged.nd rfl (Or.inl rfl)) (pss_one (ps_if (pt_cmpR op_notIn_seq (pv 6) (pv 3) (by rfl)) (pss_cons (ps_set (i := 4) sc_judged.nd rfl (Or.inl rfl) (pe_op op_add (pv 4) pe_int)) (pss_cons (ps_if (pt_cmpR op_eq (pe_callB call_len_seq (by rfl) T.n_len PySem.boot_len (pa_cons (pv 3) pa_nil)) (pv 1) (nomark _)) (pss_cons (ps_if (PW.pt (pw_or (pt_cmpR op_ge (pv 5) (pe_callB call_len_seq (by rfl) T.n_len PySem.boot_len (pa_cons (pv 2) pa_nil)) (nomark _)) (pw_or1 (pt_cmpR op_notIn_seq (pe_ix ix_list (pv 2) (pv 5) (fun _ _ => rfl)) (pv 3) (by rfl))))) (pss_one (ps_raise rfl (takes_of rfl rfl rfl rfl) (pmk_oex ((T.xt.xc "BadLeavings" (by decide)).oex T.ox_BadLeavings) T.m_BadLeavings___init__.at_ (isFn_ty T.m_BadLeavings___init__.fn) G_BadLeavings (hr.mono (by omega)) T.b_BadLeavings___init__ .nil pass0 (by rfl) T.g_BadLeavings (pa_cons (pv 5) pa_nil)))) pss_nil) (pss_cons (ps_expr (pe_bm PySem.F.plainAttrs_list PySem.F.slot_list_remove PySem.F.type_list_remove mt_remove (pv 3) (pa_cons (pe_ix ix_list (pv 2) (pv 5) (fun _ _ => rfl)) pa_nil))) (pss_one (ps_set (i := 5) sc_judged.nd rfl (Or.inl rfl) (pe_op op_add (pv 5) pe_int))))) pss_nil) (pss_one (ps_expr (pe_bm PySem.F.plainAttrs_list PySem.F.slot_list_append PySem.F.type_list_append mt_append (pv 3) (pa_cons (pv 6) pa_nil)))))) pss_nil))) (pss_cons (ps_if (pt_cmpR op_lt (pv 5) (pe_callB call_len_seq (by rfl) T.n_len PySem.boot_len (pa_cons (pv 2) pa_nil)) (nomark _)) (pss_one (ps_raise rfl (takes_of rfl rfl rfl rfl) (pmk_oex ((T.xt.xc "BadLeavings" (by decide)).oex T.ox_BadLeavings) T.m_BadLeavings___init__.at_ (isFn_ty T.m_BadLeavings___init__.fn) G_BadLeavings (hr.mono (by omega)) T.b_BadLeavings___init__ .nil pass0 (by rfl) T.g_BadLeavings (pa_cons (pv 5) pa_nil)))) pss_nil) (pss_one (ps_ret (pv 4)))))))))), ?_⟩
    refine ⟨_, rfl, pb, ns, R, rfl, hnl, hpb, O, fun hok H1 O1 => ?_, k1⟩
    refine ⟨_, rfl, w, rfl, fun hw => ?_, fun hw => k2 hok hw H1 O1⟩
    obtain ⟨k4, k5⟩ := k3 hok hw
    obtain ⟨wn, rfl⟩ : ∃ wn : Nat, w = (wn : Int) := ⟨w.toNat, by omega⟩
    rw [Int.toNat_natCast] at k4 k5
    obtain ⟨J, hJ⟩ : ∃ J, J = jGo wn ls ns [] 0 0 := ⟨_, rfl⟩
    rw [← hJ] at k4 k5
    refine ⟨by show 0 ≤ sizeLine; decide, fun pt hpt => ?_⟩
    have O2 := O1.new (o := .lst (isV [])) hpt
    have hmem : ∀ {H' : Hp} {th : List Int}, Own H' ((pt, .lst (isV th)) :: R) → H' pb = some (.lst (isV ns)) ∧ H' pl = some (.lst (isV ls)) := fun O' => ⟨O'.mem (by simp [hpb]), O'.mem (by simp [hpl])⟩
    refine ⟨_, rfl, pb, rfl, ⟨_, SqL.of (hmem O2).1⟩, ?_⟩
    refine for_list (K := K) (a := pb) (xs := isV ns) (fun i σ H' => ∃ (th : List Int) (br mn : Nat) (v6 : Option V), σ = [some (.ref pb), some (.int (wn : Nat)), some (.ref pl), some (.ref pt), some (.int (br : Nat)), some (.int (mn : Nat)), v6] ∧ th.Nodup ∧ th.length ≤ wn ∧ jGo wn ls (ns.drop i) th br mn = J ∧ br ≤ i ∧ mn ≤ ls.length ∧ Own H' ((pt, .lst (isV th)) :: R))
      ⟨[], 0, 0, none, rfl, List.nodup_nil, Nat.zero_le _, hJ.symm, Nat.le_refl _, Nat.zero_le _, O2⟩ (fun i σ H' _ ⟨_, _, _, _, _, _, _, _, _, _, O'⟩ => SqL.of (hmem O').1) ?_ ?_
    · rintro i x σ H3 hi ⟨th, br, mn, v6, rfl, hnd, hth, hj, hbr, hmn, O3⟩
      rw [List.getElem?_map] at hi
      cases ha : ns[i]? with
      | none =>
        rw [ha] at hi
        cases hi
      | some b =>
        rw [ha] at hi
        have ex : V.int b = x := Option.some.inj hi
        subst ex
        have hil : i < ns.length := (List.getElem?_eq_some_iff.mp ha).1
        have hdrop : ns.drop i = b :: ns.drop (i + 1) := by
          rw [List.drop_eq_getElem_cons hil]
          congr 1
          exact (List.getElem?_eq_some_iff.mp ha).2
        rw [hdrop] at hj
        unfold jGo at hj
        refine ⟨_, rfl, _, rfl, pt, _, rfl, .inl (SqL.of O3.a0), rfl, isV_flat th, _, rfl, ?_⟩
        rw [inV_is]
        by_cases hb : b ∈ th
        · rw [if_pos hb] at hj
          rw [decide_eq_true hb]
          exact iteF ⟨th, br, mn, _, rfl, hnd, hth, hj, by omega, hmn, O3⟩
        · rw [if_neg hb] at hj
          rw [decide_eq_false hb]
          refine iteT ?_
          have O4 := O3
          refine ⟨_, rfl, _, _, rfl, rfl, ?_⟩
          refine ⟨_, rfl, pt, _, rfl, .inl (SqL.of O3.a0), _, rfl, rfl, _, rfl, ?_⟩
          rw [List.length_map]
          by_cases hw2 : th.length = wn
          · rw [if_pos hw2] at hj
            refine iteTo (decide_eq_true (by rw [hw2])) ?_
            refine ⟨_, rfl, _, rfl, pl, _, rfl, .inl (SqL.of (hmem O3).2), _, _, rfl, rfl, _, rfl, ?_⟩
            rw [List.length_map]
            by_cases h5 : ls.length ≤ mn
            · rw [if_pos (.inl h5)] at hj
              refine iteTo (decide_eq_true (show ((ls.length : Nat) : Int) ≤ (mn : Int) by omega)) ?_
              exact ⟨_, rfl, rz_go (by omega) fun d hd => k5 mn hj.symm d _ (O3.tail.new hd)⟩
            · refine iteFo (decide_eq_false (show ¬ ((ls.length : Nat) : Int) ≤ (mn : Int) by omega)) ?_
              have hmnl : mn < ls.length := by omega
              obtain ⟨l, hl⟩ : ∃ l, ls[mn]? = some l := ⟨_, List.getElem?_eq_getElem hmnl⟩
              have hgd : ls.getD mn 0 = l := by rw [List.getD_eq_getElem?_getD, hl]; rfl
              rw [hgd] at hj
              have hat : atI (isV ls) ((mn : Nat) : Int) = some (.int l) := atI_nat (by rw [List.getElem?_map, hl]; rfl)
              refine ⟨_, rfl, _, rfl, pl, _, _, .int l, rfl, rfl, SqL.of (hmem O3).2, hat, _, rfl, pt, _, rfl, .inl (SqL.of O3.a0), rfl, isV_flat th, _, rfl, ?_⟩
              rw [inV_is]
              by_cases h6 : l ∈ th
              · rw [if_neg (fun z => z.elim h5 fun z => z h6)] at hj
                rw [decide_eq_true h6]
                refine iteF ?_
                have hji : th.idxOf l < th.length := List.idxOf_lt_length_of_mem h6
                have hjat : th[th.idxOf l]? = some l := by
                  rw [List.getElem?_eq_getElem hji]
                  exact congrArg some (List.getElem_idxOf hji)
                refine ⟨_, rfl, .inl ⟨rfl, _, SqL.of O3.a0⟩, _, rfl, _, rfl, pl, _, _, .int l, rfl, rfl, SqL.of (hmem O3).2, hat, pt, th, l, th.idxOf l, rfl, rfl, O3.a0, hjat, fun m hm e => ?_, ?_⟩
                · have h7 := List.pairwise_iff_getElem.mp hnd m (th.idxOf l) (by omega) hji hm
                  have e1 := (List.getElem?_eq_some_iff.mp e).2
                  have e2 := (List.getElem?_eq_some_iff.mp hjat).2
                  exact h7 (e1.trans e2.symm)
                rw [← List.erase_eq_eraseIdx_of_idxOf rfl]
                have O5 := O3.set (o' := .lst (isV (th.erase l)))
                have hel : (th.erase l).length = th.length - 1 := List.length_erase_of_mem h6
                have hpos : 0 < th.length := List.length_pos_of_mem h6
                refine ⟨_, rfl, _, _, rfl, rfl, _, rfl, .inl ⟨rfl, _, SqL.of O5.a0⟩, _, rfl, pt, _, _, rfl, rfl, O5.a0, ?_, ?_⟩
                · rw [List.length_map]
                  exact size1 (by omega)
                · refine ⟨th.erase l ++ [b], br + 1, mn + 1, _, rfl, ?_, ?_, hj, by omega, by omega, ?_⟩
                  · refine List.nodup_append.mpr ⟨hnd.erase l, List.pairwise_singleton _ b, fun x hx y hy e => ?_⟩
                    rw [List.mem_singleton.mp hy] at e
                    exact hb (e ▸ List.mem_of_mem_erase hx)
                  · rw [List.length_append, hel]
                    show th.length - 1 + 1 ≤ wn
                    omega
                  · rw [show isV (th.erase l ++ [b]) = isV (th.erase l) ++ [V.int b] by simp [isV]]
                    exact O5.set
              · rw [if_pos (.inr h6)] at hj
                rw [decide_eq_false h6]
                exact iteT ⟨_, rfl, rz_go (by omega) fun d hd => k5 mn hj.symm d _ (O3.tail.new hd)⟩
          · rw [if_neg hw2] at hj
            refine iteFo (decide_eq_false (fun z => hw2 (by have z : ((th.length : Nat) : Int) = (wn : Int) := V.int.inj z; omega))) ?_
            refine ⟨_, rfl, .inl ⟨rfl, _, SqL.of O3.a0⟩, _, rfl, pt, _, _, rfl, rfl, O3.a0, ?_, ?_⟩
            · rw [List.length_map]
              exact size1 (by omega)
            · refine ⟨th ++ [b], br + 1, mn, _, rfl, ?_, ?_, hj, by omega, by omega, ?_⟩
              · refine List.nodup_append.mpr ⟨hnd, List.pairwise_singleton _ b, fun x hx y hy e => ?_⟩
                rw [List.mem_singleton.mp hy] at e
                exact hb (e ▸ hx)
              · rw [List.length_append]
                show th.length + 1 ≤ wn
                omega
              · rw [show isV (th ++ [b]) = isV th ++ [V.int b] by simp [isV]]
                exact O3.set
    · rintro σ H3 ⟨th, br, mn, v6, rfl, hnd, hth, hj, hbr, hmn, O3⟩
      rw [List.length_map, List.drop_length] at hj
      unfold jGo at hj
      refine ⟨_, rfl, _, rfl, pl, _, rfl, .inl (SqL.of (hmem O3).2), _, _, rfl, rfl, _, rfl, ?_⟩
      rw [List.length_map]
      by_cases h5 : mn < ls.length
      · rw [if_pos h5] at hj
        refine iteTo (decide_eq_true (show ((mn : Nat) : Int) < (ls.length : Int) by omega)) ?_
        rw [List.length_map] at hbr
        exact ⟨_, rfl, rz_go (by omega) fun d hd => k5 mn hj.symm d _ (O3.tail.new hd)⟩
      · rw [if_neg h5] at hj
        refine iteFo (decide_eq_false (show ¬ ((mn : Nat) : Int) < (ls.length : Int) by omega)) ?_
        exact ⟨_, rfl, k4 br hj.symm H3 O3.tail⟩
end
-- WwOp
/-! ### the fewest brings, whoever leaves -/
inductive Run (w : Nat) : List Nat → List Nat → Nat → Prop
  | nil (S : List Nat) : Run w S [] 0
  | hit {S bs : List Nat} {b c : Nat} : b ∈ S → Run w S bs c → Run w S (b :: bs) c
  | room {S bs : List Nat} {b c : Nat} : b ∉ S → S.length < w → Run w (b :: S) bs c → Run w S (b :: bs) (c + 1)
  | out {S bs : List Nat} {b c z : Nat} : b ∉ S → S.length = w → z ∈ S → Run w (b :: S.erase z) bs c → Run w S (b :: bs) (c + 1)
theorem Run.perm {w : Nat} {S bs : List Nat} {c : Nat} (h : Run w S bs c) : ∀ {S' : List Nat}, S.Perm S' → Run w S' bs c := by
  induction h with
  | nil S => exact fun _ => .nil _
  | hit hb _ ih => exact fun p => .hit (p.mem_iff.mp hb) (ih p)
  | room hb hl _ ih => exact fun p => .room (fun z => hb (p.mem_iff.mpr z)) (p.length_eq ▸ hl) (ih (p.cons _))
  | out hb hl hz _ ih => exact fun p => .out (fun z => hb (p.mem_iff.mpr z)) (p.length_eq ▸ hl) (p.mem_iff.mp hz) (ih ((p.erase _).cons _))
theorem nd_swap {a b : Nat} {l : List Nat} (h : (a :: b :: l).Nodup) : (b :: a :: l).Nodup := (List.Perm.swap b a l).nodup_iff.mp h
theorem nd_sub {a b : List Nat} (h : b.Nodup) (s : a.Sublist b) : a.Nodup := List.Nodup.sublist s h
theorem er_len {z : Nat} {S : List Nat} (h : z ∈ S) : (S.erase z).length + 1 = S.length := by
  have := List.length_erase_of_mem h
  have : 0 < S.length := List.length_pos_of_mem h
  omega
theorem nd_er {z b : Nat} {S : List Nat} (nd : S.Nodup) (hb : b ∉ S) : (b :: S.erase z).Nodup := List.nodup_cons.mpr ⟨fun h => hb (List.mem_of_mem_erase h), nd.erase z⟩
/-- one block more never brings more -/
theorem run_more {w : Nat} {V bs : List Nat} {c : Nat} (h : Run w V bs c) : ∀ {x : Nat}, (x :: V).Nodup → V.length < w → ∃ c', c' ≤ c ∧ Run w (x :: V) bs c' := by
  induction h with
  | nil S => exact fun _ _ => ⟨0, Nat.le_refl _, .nil _⟩
  | hit hb _ ih =>
    intro x nd hl
    obtain ⟨c', h1, h2⟩ := ih nd hl
    exact ⟨c', h1, .hit (List.mem_cons_of_mem _ hb) h2⟩
  | @room S bs b c hb hl0 hr ih =>
    intro x nd hl
    by_cases e : b = x
    · subst e
      exact ⟨c, Nat.le_succ _, .hit List.mem_cons_self hr⟩
    · have nx := List.nodup_cons.mp nd
      have hbx : b ∉ x :: S := fun z => (List.mem_cons.mp z).elim e hb
      by_cases hf : S.length + 1 < w
      · obtain ⟨c', h1, h2⟩ := ih (x := x) (nd_swap (List.nodup_cons.mpr ⟨hbx, nd⟩)) hf
        exact ⟨c' + 1, Nat.succ_le_succ h1, .room hbx hf (h2.perm (List.Perm.swap b x S))⟩
      · refine ⟨c + 1, Nat.le_refl _, .out (z := x) hbx (by show S.length + 1 = w; omega) List.mem_cons_self ?_⟩
        rw [List.erase_cons_head]
        exact hr
  | out hb hl0 hz hr ih =>
    intro x nd hl
    omega
/-- one block less brings one more at most -/
theorem run_less {w : Nat} : ∀ {bs V : List Nat} {x c : Nat}, Run w (x :: V) bs c → (x :: V).Nodup → V.length < w → ∃ c', c' ≤ c + 1 ∧ Run w V bs c'
  | [], V, x, c, h, nd, hl => ⟨0, Nat.zero_le _, .nil _⟩
  | b :: bs, V, x, c, h, nd, hl => by
    have nx := List.nodup_cons.mp nd
    cases h with
    | hit hb hr =>
      by_cases e : b = x
      · subst e
        exact ⟨c + 1, Nat.le_refl _, .room nx.1 hl hr⟩
      · obtain ⟨c', h1, h2⟩ := run_less hr nd hl
        exact ⟨c', h1, .hit ((List.mem_cons.mp hb).resolve_left e) h2⟩
    | @room _ _ _ c0 hb hl0 hr =>
      have hbV : b ∉ V := fun z => hb (List.mem_cons_of_mem _ z)
      obtain ⟨c', h1, h2⟩ := run_less (V := b :: V) (x := x) (hr.perm (List.Perm.swap x b V)) (nd_swap (List.nodup_cons.mpr ⟨hb, nd⟩)) (by exact hl0)
      exact ⟨c' + 1, by omega, .room hbV hl h2⟩
    | @out _ _ _ c0 z hb hl0 hz hr =>
      have hbV : b ∉ V := fun z => hb (List.mem_cons_of_mem _ z)
      by_cases e : z = x
      · subst e
        rw [List.erase_cons_head] at hr
        exact ⟨c0 + 1, Nat.le_succ _, .room hbV hl hr⟩
      · have hzV : z ∈ V := (List.mem_cons.mp hz).resolve_left e
        rw [List.erase_cons_tail (by simpa using fun q => e q.symm)] at hr
        have hel := er_len hzV
        have n1 : (x :: b :: V.erase z).Nodup := by
          have := nd_er (z := z) nd hb
          rw [List.erase_cons_tail (by simpa using fun q => e q.symm)] at this
          exact nd_swap this
        obtain ⟨c1, h1, h2⟩ := run_less (V := b :: V.erase z) (x := x) (hr.perm (List.Perm.swap x b _)) n1 (by show (V.erase z).length + 1 < w; omega)
        have p : (z :: b :: V.erase z).Perm (b :: V) := (List.Perm.swap b z _).trans ((List.perm_cons_erase hzV).symm.cons b)
        obtain ⟨c2, h3, h4⟩ := run_more h2 (x := z) (p.nodup_iff.mpr (List.nodup_cons.mpr ⟨hbV, nx.2⟩)) (by show (V.erase z).length + 1 < w; omega)
        exact ⟨c2 + 1, by omega, .room hbV hl (h4.perm p)⟩
/-- y is wanted no later than x -/
def Bef : List Nat → Nat → Nat → Prop
  | [], _, _ => True
  | b :: bs, y, x => b = y ∨ (b ≠ x ∧ Bef bs y x)
/-- who has the block that is wanted first brings no more -/
theorem run_swap {w x y : Nat} : ∀ {bs T : List Nat} {c : Nat}, Run w (x :: T) bs c → Bef bs y x → (x :: T).Nodup → y ∉ x :: T → T.length < w → ∃ c', c' ≤ c ∧ Run w (y :: T) bs c'
  | [], T, c, h, hb, nd, ny, hl => ⟨0, Nat.zero_le _, .nil _⟩
  | b :: bs, T, c, h, hb, nd, ny, hl => by
    have nx := List.nodup_cons.mp nd
    have hyx : y ≠ x := fun e => ny (e ▸ List.mem_cons_self)
    have hyT : y ∉ T := fun e => ny (List.mem_cons_of_mem _ e)
    have hb' : b ≠ y → Bef bs y x := fun e => (hb.resolve_left e).2
    cases h with
    | hit hbm hr =>
      by_cases e : b = x
      · exact (hb.elim (fun q => hyx (q.symm.trans e)) fun q => q.1 e).elim
      · have hbT : b ∈ T := (List.mem_cons.mp hbm).resolve_left e
        obtain ⟨c', h1, h2⟩ := run_swap hr (hb' fun q => hyT (q ▸ hbT)) nd ny hl
        exact ⟨c', h1, .hit (List.mem_cons_of_mem _ hbT) h2⟩
    | @room _ _ _ c0 hbm hl0 hr =>
      have hbT : b ∉ T := fun z => hbm (List.mem_cons_of_mem _ z)
      have n1 : (x :: b :: T).Nodup := nd_swap (List.nodup_cons.mpr ⟨hbm, nd⟩)
      by_cases e : b = y
      · subst e
        obtain ⟨c', h1, h2⟩ := run_less (hr.perm (List.Perm.swap x b T)) n1 hl0
        exact ⟨c', h1, .hit List.mem_cons_self h2⟩
      · have hb1 : y ∉ x :: b :: T := fun z => by
          rcases List.mem_cons.mp z with q | q
          · exact hyx q
          · rcases List.mem_cons.mp q with q | q
            · exact e q.symm
            · exact hyT q
        obtain ⟨c', h1, h2⟩ := run_swap (T := b :: T) (hr.perm (List.Perm.swap x b T)) (hb' e) n1 hb1 hl0
        exact ⟨c' + 1, Nat.succ_le_succ h1, .room (fun z => (List.mem_cons.mp z).elim e hbT) hl0 (h2.perm (List.Perm.swap b y T))⟩
    | @out _ _ _ c0 z hbm hl0 hz hr =>
      have hbT : b ∉ T := fun z => hbm (List.mem_cons_of_mem _ z)
      by_cases ez : z = x
      · subst ez
        rw [List.erase_cons_head] at hr
        by_cases e : b = y
        · subst e
          exact ⟨c0, Nat.le_succ _, .hit List.mem_cons_self hr⟩
        · refine ⟨c0 + 1, Nat.le_refl _, .out (z := y) (fun z => (List.mem_cons.mp z).elim e hbT) hl0 List.mem_cons_self ?_⟩
          rw [List.erase_cons_head]
          exact hr
      · have hzT : z ∈ T := (List.mem_cons.mp hz).resolve_left ez
        have hel := er_len hzT
        rw [List.erase_cons_tail (by simpa using fun q => ez q.symm)] at hr
        have n1 : (x :: b :: T.erase z).Nodup := by
          have := nd_er (z := z) nd hbm
          rw [List.erase_cons_tail (by simpa using fun q => ez q.symm)] at this
          exact nd_swap this
        by_cases e : b = y
        · subst e
          obtain ⟨c1, h1, h2⟩ := run_less (V := b :: T.erase z) (x := x) (hr.perm (List.Perm.swap x b _)) n1 (by show (T.erase z).length + 1 < w; omega)
          have p : (z :: b :: T.erase z).Perm (b :: T) := (List.Perm.swap b z _).trans ((List.perm_cons_erase hzT).symm.cons b)
          obtain ⟨c2, h3, h4⟩ := run_more h2 (x := z) (p.nodup_iff.mpr (List.nodup_cons.mpr ⟨hbT, nx.2⟩)) (by show (T.erase z).length + 1 < w; omega)
          exact ⟨c2, by omega, .hit List.mem_cons_self (h4.perm p)⟩
        · have hb1 : y ∉ x :: b :: T.erase z := fun q => by
            rcases List.mem_cons.mp q with q | q
            · exact hyx q
            · rcases List.mem_cons.mp q with q | q
              · exact e q.symm
              · exact hyT (List.mem_of_mem_erase q)
          obtain ⟨c', h1, h2⟩ := run_swap (T := b :: T.erase z) (hr.perm (List.Perm.swap x b _)) (hb' e) n1 hb1 (by show (T.erase z).length + 1 < w; omega)
          refine ⟨c' + 1, Nat.succ_le_succ h1, .out (z := z) (fun q => (List.mem_cons.mp q).elim e hbT) hl0 (List.mem_cons_of_mem _ hzT) ?_⟩
          rw [List.erase_cons_tail (by simpa using fun (q : y = z) => hyT (by rw [q]; exact hzT))]
          exact h2.perm (List.Perm.swap b y _)
/-- the one leaves that is wanted last -/
inductive Gr (w : Nat) : List Nat → List Nat → Nat → Prop
  | nil (S : List Nat) : Gr w S [] 0
  | hit {S bs : List Nat} {b c : Nat} : b ∈ S → Gr w S bs c → Gr w S (b :: bs) c
  | room {S bs : List Nat} {b c : Nat} : b ∉ S → S.length < w → Gr w (b :: S) bs c → Gr w S (b :: bs) (c + 1)
  | out {S bs : List Nat} {b c z : Nat} : b ∉ S → S.length = w → z ∈ S → (∀ y ∈ S, y ≠ z → Bef bs y z) → Gr w (b :: S.erase z) bs c → Gr w S (b :: bs) (c + 1)
theorem Gr.run {w : Nat} {S bs : List Nat} {c : Nat} (h : Gr w S bs c) : Run w S bs c := by
  induction h with
  | nil S => exact .nil _
  | hit hb _ ih => exact .hit hb ih
  | room hb hl _ ih => exact .room hb hl ih
  | out hb hl hz _ _ ih => exact .out hb hl hz ih
theorem Gr.perm {w : Nat} {S bs : List Nat} {c : Nat} (h : Gr w S bs c) : ∀ {S' : List Nat}, S.Perm S' → Gr w S' bs c := by
  induction h with
  | nil S => exact fun _ => .nil _
  | hit hb _ ih => exact fun p => .hit (p.mem_iff.mp hb) (ih p)
  | room hb hl _ ih => exact fun p => .room (fun z => hb (p.mem_iff.mpr z)) (p.length_eq ▸ hl) (ih (p.cons _))
  | out hb hl hz hf _ ih => exact fun p => .out (fun z => hb (p.mem_iff.mpr z)) (p.length_eq ▸ hl) (p.mem_iff.mp hz) (fun y hy => hf y (p.mem_iff.mpr hy)) (ih ((p.erase _).cons _))
theorem gr_le {w : Nat} {S bs : List Nat} {c : Nat} (h : Gr w S bs c) : ∀ {c' : Nat}, S.Nodup → Run w S bs c' → c ≤ c' := by
  induction h with
  | nil S => exact fun _ _ => Nat.zero_le _
  | hit hb _ ih =>
    intro c' nd r
    cases r with
    | hit _ r => exact ih nd r
    | room hb' _ _ => exact (hb' hb).elim
    | out hb' _ _ _ => exact (hb' hb).elim
  | room hb hl _ ih =>
    intro c' nd r
    cases r with
    | hit hb' _ => exact (hb hb').elim
    | room _ _ r => exact Nat.succ_le_succ (ih (List.nodup_cons.mpr ⟨hb, nd⟩) r)
    | out _ hl' _ _ => omega
  | @out S bs b c m hb hl hm hf _ ih =>
    intro c' nd r
    cases r with
    | hit hb' _ => exact (hb hb').elim
    | room _ hl' _ => omega
    | @out _ _ _ c1 z _ _ hz r =>
      by_cases e : z = m
      · subst e
        exact Nat.succ_le_succ (ih (nd_er nd hb) r)
      · have hm' : m ∈ S.erase z := (List.mem_erase_of_ne (fun q => e q.symm)).mpr hm
        have hz' : z ∈ S.erase m := (List.mem_erase_of_ne e).mpr hz
        have p1 : (b :: S.erase z).Perm (m :: b :: (S.erase z).erase m) := ((List.perm_cons_erase hm').cons b).trans (List.Perm.swap m b _)
        have p2 : (z :: b :: (S.erase z).erase m).Perm (b :: S.erase m) := by
          refine (List.Perm.swap b z _).trans (List.Perm.cons b ?_)
          rw [List.erase_comm]
          exact (List.perm_cons_erase hz').symm
        have l1 := er_len hz
        have l2 := er_len hm'
        have n1 := nd_er (z := z) nd hb
        have n2 := nd_er (z := m) nd hb
        have hzn : z ∉ m :: b :: (S.erase z).erase m := fun q => by
          rcases List.mem_cons.mp q with q | q
          · exact e q
          · rcases List.mem_cons.mp q with q | q
            · exact hb (q ▸ hz)
            · exact (nd.mem_erase_iff.mp (List.mem_of_mem_erase q)).1 rfl
        obtain ⟨c2, h1, h2⟩ := run_swap (r.perm p1) (hf z hz e) (p1.nodup_iff.mp n1) hzn (by show ((S.erase z).erase m).length + 1 < w; omega)
        have := ih n2 (h2.perm p2)
        omega
theorem gr_eq {w : Nat} {S bs : List Nat} {c c' : Nat} (nd : S.Nodup) (h : Gr w S bs c) (h' : Gr w S bs c') : c = c' := Nat.le_antisymm (gr_le h nd h'.run) (gr_le h' nd h.run)
/-- more ways never bring more -/
theorem run_ways {w : Nat} {S bs : List Nat} {c : Nat} (h : Run w S bs c) : S.Nodup → S.length ≤ w → ∃ c', c' ≤ c ∧ Run (w + 1) S bs c' := by
  induction h with
  | nil S => exact fun _ _ => ⟨0, Nat.le_refl _, .nil _⟩
  | hit hb _ ih =>
    intro nd hl
    obtain ⟨c', h1, h2⟩ := ih nd hl
    exact ⟨c', h1, .hit hb h2⟩
  | room hb hl0 _ ih =>
    intro nd hl
    obtain ⟨c', h1, h2⟩ := ih (List.nodup_cons.mpr ⟨hb, nd⟩) hl0
    exact ⟨c' + 1, Nat.succ_le_succ h1, .room hb (Nat.lt_succ_of_lt hl0) h2⟩
  | @out S bs b c z hb hl0 hz _ ih =>
    intro nd hl
    have hel := er_len hz
    obtain ⟨c', h1, h2⟩ := ih (nd_er nd hb) (by show (S.erase z).length + 1 ≤ w; omega)
    have p : (z :: b :: S.erase z).Perm (b :: S) := (List.Perm.swap b z _).trans ((List.perm_cons_erase hz).symm.cons b)
    obtain ⟨c2, h3, h4⟩ := run_more h2 (x := z) (p.nodup_iff.mpr (List.nodup_cons.mpr ⟨hb, nd⟩)) (by show (S.erase z).length + 1 < w + 1; omega)
    exact ⟨c2 + 1, by omega, .room hb (by omega) (h4.perm p)⟩
/-- one way: no choice -/
theorem run1_det {S bs : List Nat} {c : Nat} (h : Run 1 S bs c) : ∀ {c' : Nat}, Run 1 S bs c' → c = c' := by
  induction h with
  | nil S =>
    intro c' r
    cases r
    rfl
  | hit hb _ ih =>
    intro c' r
    cases r with
    | hit _ r => exact ih r
    | room hb' _ _ => exact (hb' hb).elim
    | out hb' _ _ _ => exact (hb' hb).elim
  | room hb hl _ ih =>
    intro c' r
    cases r with
    | hit hb' _ => exact (hb hb').elim
    | room _ _ r => exact congrArg (· + 1) (ih r)
    | out _ hl' _ _ => omega
  | @out S bs b c z hb hl hz _ ih =>
    intro c' r
    cases r with
    | hit hb' _ => exact (hb hb').elim
    | room _ hl' _ => omega
    | @out _ _ _ c1 z' _ _ hz' r =>
      obtain ⟨s, rfl⟩ := List.length_eq_one_iff.mp hl
      obtain rfl : z = z' := (List.mem_singleton.mp hz).trans (List.mem_singleton.mp hz').symm
      exact congrArg (· + 1) (ih r)
/-- all that is wanted is brought once at the least -/
theorem run_low {w : Nat} {S bs : List Nat} {c : Nat} (h : Run w S bs c) : ∀ {U : List Nat}, U.Nodup → (∀ x ∈ U, x ∈ S ∨ x ∈ bs) → U.length ≤ S.length + c := by
  induction h with
  | nil S =>
    intro U nd hU
    exact List.Nodup.length_le_of_subset nd fun x hx => (hU x hx).elim id fun q => nomatch q
  | hit hb _ ih =>
    intro U nd hU
    refine ih nd fun x hx => ?_
    rcases hU x hx with q | q
    · exact .inl q
    · rcases List.mem_cons.mp q with q | q
      · exact .inl (q ▸ hb)
      · exact .inr q
  | @room S bs b c hb hl _ ih =>
    intro U nd hU
    have := ih nd fun x hx => by
      rcases hU x hx with q | q
      · exact .inl (List.mem_cons_of_mem _ q)
      · rcases List.mem_cons.mp q with q | q
        · exact .inl (q ▸ List.mem_cons_self)
        · exact .inr q
    rw [List.length_cons] at this
    omega
  | @out S bs b c z hb hl hz _ ih =>
    intro U nd hU
    have hel := er_len hz
    have := ih (nd.erase z) fun x hx => by
      have hxz := nd.mem_erase_iff.mp hx
      rcases hU x hxz.2 with q | q
      · exact .inl (List.mem_cons_of_mem _ ((List.mem_erase_of_ne hxz.1).mpr q))
      · rcases List.mem_cons.mp q with q | q
        · exact .inl (q ▸ List.mem_cons_self)
        · exact .inr q
    rw [List.length_cons] at this
    by_cases e : z ∈ U
    · have := er_len e
      omega
    · rw [List.erase_of_not_mem e] at this
      omega
/-- if all have room, each is brought once -/
theorem run_high {w : Nat} {S bs : List Nat} {c : Nat} (h : Run w S bs c) : ∀ {U : List Nat}, S.Nodup → U.length ≤ w → (∀ x ∈ S, x ∈ U) → (∀ x ∈ bs, x ∈ U) → S.length + c ≤ U.length := by
  induction h with
  | nil S =>
    intro U nd hl h1 _
    exact List.Nodup.length_le_of_subset nd h1
  | hit hb _ ih => exact fun nd hl h1 h2 => ih nd hl h1 fun x hx => h2 x (List.mem_cons_of_mem _ hx)
  | @room S bs b c hb hl0 _ ih =>
    intro U nd hl h1 h2
    have := ih (List.nodup_cons.mpr ⟨hb, nd⟩) hl (fun x hx => (List.mem_cons.mp hx).elim (fun q => q ▸ h2 b List.mem_cons_self) (h1 x)) fun x hx => h2 x (List.mem_cons_of_mem _ hx)
    rw [List.length_cons] at this
    omega
  | @out S bs b c z hb hl0 hz _ ih =>
    intro U nd hl h1 h2
    have : (b :: S).length ≤ U.length := List.Nodup.length_le_of_subset (List.nodup_cons.mpr ⟨hb, nd⟩) fun x hx => (List.mem_cons.mp hx).elim (fun q => q ▸ h2 b List.mem_cons_self) (h1 x)
    rw [List.length_cons] at this
    omega
theorem run_all {w : Nat} {bs U : List Nat} {c : Nat} (h : Run w [] bs c) (nd : U.Nodup) (hU : ∀ x, x ∈ U ↔ x ∈ bs) (hl : U.length ≤ w) : c = U.length := by
  have h1 := run_low h nd fun x hx => .inr ((hU x).mp hx)
  have h2 := run_high h List.nodup_nil hl (fun x hx => nomatch hx) fun x hx => (hU x).mpr hx
  rw [List.length_nil] at h1 h2
  omega
/-! ### the late rule is one of them -/
theorem run_late {w : Nat} (hw : 1 ≤ w) : ∀ (bs o : List Nat), o.Nodup → Run w (o.take w) bs ((dptsFrom o bs).countP (missB w))
  | [], o, _ => .nil _
  | b :: bs, o, nd => by
    have ih := run_late hw bs (psh o b) (psh_nodup nd b)
    show Run w (o.take w) (b :: bs) ((fxN b o :: dptsFrom (psh o b) bs).countP (missB w))
    rw [List.countP_cons, miss_take]
    obtain ⟨w', rfl⟩ : ∃ w', w = w' + 1 := ⟨w - 1, by omega⟩
    have e : (psh o b).take (w' + 1) = b :: (o.filter (neB b)).take w' := rfl
    rw [e] at ih
    have ndt : (o.take (w' + 1)).Nodup := nd_sub nd (List.take_sublist _ _)
    by_cases hb : b ∈ o.take (w' + 1)
    · rw [decide_eq_true hb]
      refine .hit hb (ih.perm ?_)
      have := take_in nd hb
      rw [Nat.add_sub_cancel] at this
      rw [← this, ← filter_erase ndt]
      exact (List.perm_cons_erase hb).symm
    · rw [decide_eq_false hb]
      have t1 := take_out hb
      have t2 : (o.filter (neB b)).take w' = o.take w' := by
        have := congrArg (List.take w') t1
        rw [List.take_take, List.take_take, Nat.min_eq_left (Nat.le_succ _)] at this
        exact this
      rw [t2] at ih
      by_cases hl : o.length ≤ w'
      · refine .room hb (by rw [List.length_take]; omega) ?_
        rw [List.take_of_length_le (by omega)]
        rw [List.take_of_length_le hl] at ih
        exact ih
      · have hlt : w' < o.length := by omega
        have ez : o.take (w' + 1) = o.take w' ++ [o[w']] := by
          rw [List.take_succ, List.getElem?_eq_getElem hlt]
          rfl
        refine .out (z := o[w']) hb (by rw [List.length_take]; omega) (by rw [ez]; exact List.mem_append_right _ (List.mem_singleton.mpr rfl)) (ih.perm (List.Perm.cons b ?_))
        rw [ez] at ndt ⊢
        have hn : o[w'] ∉ o.take w' := fun q => (List.nodup_append.mp ndt).2.2 _ q _ (List.mem_singleton.mpr rfl) rfl
        rw [List.erase_append_right _ hn]
        simp
where
  filter_erase {L : List Nat} {b : Nat} (nd : L.Nodup) : L.erase b = L.filter (neB b) := by
    rw [nd.erase_eq_filter]
    refine List.filter_congr fun x _ => ?_
    by_cases e : x = b
    · subst e
      simp [neB]
    · simp [neB, e]
theorem cnt_run {w : Nat} (hw : 1 ≤ w) (bs : List Nat) : Run w [] bs (cntW w bs) := by
  have := run_late hw bs [] List.nodup_nil
  rw [List.take_nil] at this
  exact this
-- WwFp
/-! ### the fewest by waits, plainly -/
def waitN : List Nat → Nat → Nat → Nat
  | [], p, x => p + x
  | b :: r, p, x => if b = x then p else waitN r (p + 1) x
theorem waitN_le : ∀ (r : List Nat) (p x : Nat), p ≤ waitN r p x
  | [], p, x => Nat.le_add_right _ _
  | b :: r, p, x => by
    unfold waitN
    split
    · exact Nat.le_refl _
    · have := waitN_le r (p + 1) x
      omega
theorem waitN_top : ∀ (r : List Nat) (p x : Nat), waitN r p x ≤ p + r.length + x
  | [], p, x => Nat.le_refl _
  | b :: r, p, x => by
    unfold waitN
    rw [List.length_cons]
    split
    · omega
    · have := waitN_top r (p + 1) x
      omega
theorem bef_wait {y z : Nat} (e : y ≠ z) : ∀ {r : List Nat} {p : Nat}, waitN r p y ≤ waitN r p z → Bef r y z
  | [], _, _ => trivial
  | b :: r, p, h => by
    unfold waitN at h
    by_cases h1 : b = y
    · exact .inl h1
    · rw [if_neg h1] at h
      by_cases h2 : b = z
      · rw [if_pos h2] at h
        have := waitN_le r (p + 1) y
        omega
      · rw [if_neg h2] at h
        exact .inr ⟨h2, bef_wait e h⟩
theorem ints_mem {b : Nat} {T : List Nat} : ((b : Nat) : Int) ∈ intsOf T ↔ b ∈ T := by
  unfold intsOf
  rw [List.mem_map]
  constructor
  · rintro ⟨c, hc, e⟩
    rw [← Int.ofNat.inj e]
    exact hc
  · exact fun h => ⟨b, h, rfl⟩
theorem ints_len (T : List Nat) : (intsOf T).length = T.length := List.length_map _
theorem ints_app (a b : List Nat) : intsOf (a ++ b) = intsOf a ++ intsOf b := List.map_append
theorem ints_erase (z : Nat) : ∀ T : List Nat, intsOf (T.erase z) = (intsOf T).erase ((z : Nat) : Int)
  | [] => rfl
  | a :: T => by
    by_cases e : a = z
    · subst e
      rw [List.erase_cons_head]
      show _ = (((a : Nat) : Int) :: intsOf T).erase _
      rw [List.erase_cons_head]
    · rw [List.erase_cons_tail (by simpa using e)]
      show ((a : Nat) : Int) :: intsOf (T.erase z) = (((a : Nat) : Int) :: intsOf T).erase _
      rw [List.erase_cons_tail (by simpa using fun q => e (Int.ofNat.inj q)), ints_erase z T]
theorem eraseIdx_nd : ∀ {T : List Nat} {j z : Nat}, T.Nodup → T[j]? = some z → T.eraseIdx j = T.erase z
  | [], _, _, _, h => by simp at h
  | a :: T, 0, z, _, h => by
    simp at h
    subst h
    rw [List.erase_cons_head]
    rfl
  | a :: T, j + 1, z, nd, h => by
    have hz : T[j]? = some z := by simpa using h
    obtain ⟨h1, h2⟩ := List.nodup_cons.mp nd
    have e : a ≠ z := fun q => h1 (q ▸ List.mem_of_getElem? hz)
    rw [List.erase_cons_tail (by simpa using e), List.eraseIdx_cons_succ, eraseIdx_nd h2 hz]
/-- the same going, step by step -/
inductive FwDet (w : Nat) (bs : List Nat) : Nat → List Nat → Nat → List Nat → Prop
  | start : FwDet w bs 0 [] 0 []
  | hit {i k b : Nat} {T ls : List Nat} : FwDet w bs i T k ls → bs[i]? = some b → b ∈ T → FwDet w bs (i + 1) T k ls
  | room {i k b : Nat} {T ls : List Nat} : FwDet w bs i T k ls → bs[i]? = some b → b ∉ T → T.length ≠ w → FwDet w bs (i + 1) (T ++ [b]) (k + 1) ls
  | out {i k b z : Nat} {T ls : List Nat} : FwDet w bs i T k ls → bs[i]? = some b → b ∉ T → T.length = w → z ∈ T → (∀ y ∈ T, waitN (bs.drop i) i y ≤ waitN (bs.drop i) i z) → FwDet w bs (i + 1) (T.erase z ++ [b]) (k + 1) (ls ++ [z])
theorem waitN_inj : ∀ (r : List Nat) (p x y : Nat), waitN r p x = waitN r p y → x = y
  | [], p, x, y, h => by
    have h : p + x = p + y := h
    omega
  | b :: r, p, x, y, h => by
    unfold waitN at h
    have h1 := waitN_le r (p + 1) x
    have h2 := waitN_le r (p + 1) y
    by_cases e1 : b = x
    · rw [if_pos e1] at h
      by_cases e2 : b = y
      · rw [← e1, e2]
      · rw [if_neg e2] at h
        omega
    · rw [if_neg e1] at h
      by_cases e2 : b = y
      · rw [if_pos e2] at h
        omega
      · rw [if_neg e2] at h
        exact waitN_inj r (p + 1) x y h
theorem FwDet.uniq {w : Nat} {bs : List Nat} : ∀ {i : Nat} {T T' : List Nat} {k k' : Nat} {ls ls' : List Nat}, FwDet w bs i T k ls → FwDet w bs i T' k' ls' → T = T' ∧ k = k' ∧ ls = ls' := by
  intro i
  induction i with
  | zero =>
    intro T T' k k' ls ls' h g
    cases h
    cases g
    exact ⟨rfl, rfl, rfl⟩
  | succ i ih =>
    intro T T' k k' ls ls' h g
    cases h with
    | hit h1 h2 h3 =>
      cases g with
      | hit g1 g2 g3 => exact ih h1 g1
      | room g1 g2 g3 g4 =>
        obtain ⟨rfl, _, _⟩ := ih h1 g1
        rw [h2] at g2
        cases g2
        exact absurd h3 g3
      | out g1 g2 g3 g4 g5 g6 =>
        obtain ⟨rfl, _, _⟩ := ih h1 g1
        rw [h2] at g2
        cases g2
        exact absurd h3 g3
    | room h1 h2 h3 h4 =>
      cases g with
      | hit g1 g2 g3 =>
        obtain ⟨rfl, _, _⟩ := ih h1 g1
        rw [h2] at g2
        cases g2
        exact absurd g3 h3
      | room g1 g2 g3 g4 =>
        obtain ⟨rfl, rfl, rfl⟩ := ih h1 g1
        rw [h2] at g2
        cases g2
        exact ⟨rfl, rfl, rfl⟩
      | out g1 g2 g3 g4 g5 g6 =>
        obtain ⟨rfl, _, _⟩ := ih h1 g1
        exact absurd g4 h4
    | out h1 h2 h3 h4 h5 h6 =>
      cases g with
      | hit g1 g2 g3 =>
        obtain ⟨rfl, _, _⟩ := ih h1 g1
        rw [h2] at g2
        cases g2
        exact absurd g3 h3
      | room g1 g2 g3 g4 =>
        obtain ⟨rfl, _, _⟩ := ih h1 g1
        exact absurd h4 g4
      | out g1 g2 g3 g4 g5 g6 =>
        obtain ⟨rfl, rfl, rfl⟩ := ih h1 g1
        rw [h2] at g2
        cases g2
        obtain rfl := waitN_inj _ _ _ _ (Nat.le_antisymm (g6 _ h5) (h6 _ g5))
        exact ⟨rfl, rfl, rfl⟩
/-- where fewest stands behind some blocks -/
structure FwSt (w : Nat) (bs : List Nat) (i : Nat) (T : List Nat) (k : Nat) (ls : List Nat) : Prop where
  nd : T.Nodup
  len : T.length ≤ w
  lt : ∀ x ∈ T, x ∈ bs
  gr : ∀ c', Gr w T (bs.drop i) c' → Gr w [] bs (k + c')
  jg : ∀ more : List Int, jGo w (intsOf ls ++ more) (intsOf bs) [] 0 0 = jGo w (intsOf ls ++ more) (intsOf (bs.drop i)) (intsOf T) k ls.length
  kl : k ≤ i
  ll : ls.length ≤ i
  dt : FwDet w bs i T k ls
theorem FwSt.start (w : Nat) (bs : List Nat) : FwSt w bs 0 [] 0 [] := ⟨List.nodup_nil, Nat.zero_le _, (fun x hx => nomatch hx), fun c' h => by rw [Nat.zero_add]; exact h, fun _ => rfl, Nat.le_refl _, Nat.le_refl _, .start⟩
theorem drop_at {bs : List Nat} {i b : Nat} (h : bs[i]? = some b) : bs.drop i = b :: bs.drop (i + 1) := by
  obtain ⟨hl, e⟩ := List.getElem?_eq_some_iff.mp h
  rw [List.drop_eq_getElem_cons hl, e]
theorem jGo_cons (w : Nat) (ls : List Int) (b : Int) (bs th : List Int) (br mn : Nat) : jGo w ls (b :: bs) th br mn = if b ∈ th then jGo w ls bs th br mn else if th.length = w then
      (if ls.length ≤ mn ∨ ls.getD mn 0 ∉ th then .inr mn else jGo w ls bs (th.erase (ls.getD mn 0) ++ [b]) (br + 1) (mn + 1))
    else jGo w ls bs (th ++ [b]) (br + 1) mn := by
  first
    | rfl
    | (rw [jGo])
theorem FwSt.hit {w : Nat} {bs T ls : List Nat} {i k b : Nat} (h : FwSt w bs i T k ls) (hi : bs[i]? = some b) (hb : b ∈ T) : FwSt w bs (i + 1) T k ls := by
  have e := drop_at hi
  refine ⟨h.nd, h.len, h.lt, fun c' g => h.gr c' (by rw [e]; exact .hit hb g), fun more => ?_, Nat.le_succ_of_le h.kl, Nat.le_succ_of_le h.ll, .hit h.dt hi hb⟩
  rw [h.jg more, e]
  show jGo w _ (((b : Nat) : Int) :: intsOf (bs.drop (i + 1))) _ _ _ = _
  rw [jGo_cons, if_pos (ints_mem.mpr hb)]
theorem FwSt.room {w : Nat} {bs T ls : List Nat} {i k b : Nat} (h : FwSt w bs i T k ls) (hi : bs[i]? = some b) (hb : b ∉ T) (hl : T.length ≠ w) : FwSt w bs (i + 1) (T ++ [b]) (k + 1) ls := by
  have e := drop_at hi
  have hlt : T.length < w := Nat.lt_of_le_of_ne h.len hl
  have p : (T ++ [b]).Perm (b :: T) := List.perm_append_singleton b T
  refine ⟨p.nodup_iff.mpr (List.nodup_cons.mpr ⟨hb, h.nd⟩), by rw [List.length_append]; exact hlt, fun x hx => ?_, fun c' g => ?_, fun more => ?_, Nat.succ_le_succ h.kl, Nat.le_succ_of_le h.ll, .room h.dt hi hb hl⟩
  · rcases List.mem_append.mp hx with q | q
    · exact h.lt x q
    · rw [List.mem_singleton.mp q]
      exact List.mem_of_getElem? hi
  · have := h.gr (c' + 1) (by rw [e]; exact .room hb hlt (g.perm p))
    rw [Nat.add_right_comm, Nat.add_assoc]
    exact this
  · rw [h.jg more, e]
    show jGo w _ (((b : Nat) : Int) :: intsOf (bs.drop (i + 1))) _ _ _ = _
    rw [jGo_cons, if_neg (fun q => hb (ints_mem.mp q)), if_neg (by rw [ints_len]; exact hl), ints_app]
    rfl
theorem FwSt.out {w : Nat} {bs T ls : List Nat} {i k b z : Nat} (h : FwSt w bs i T k ls) (hi : bs[i]? = some b) (hb : b ∉ T) (hl : T.length = w) (hz : z ∈ T) (hm : ∀ y ∈ T, waitN (bs.drop i) i y ≤ waitN (bs.drop i) i z) : FwSt w bs (i + 1) (T.erase z ++ [b]) (k + 1) (ls ++ [z]) := by
  have e := drop_at hi
  have p : (T.erase z ++ [b]).Perm (b :: T.erase z) := List.perm_append_singleton b _
  have hel := er_len hz
  refine ⟨p.nodup_iff.mpr (nd_er h.nd hb), by rw [List.length_append]; show (T.erase z).length + 1 ≤ w; omega, fun x hx => ?_, fun c' g => ?_, fun more => ?_, Nat.succ_le_succ h.kl, by rw [List.length_append]; exact Nat.succ_le_succ h.ll, .out h.dt hi hb hl hz hm⟩
  · rcases List.mem_append.mp hx with q | q
    · exact h.lt x (List.mem_of_mem_erase q)
    · rw [List.mem_singleton.mp q]
      exact List.mem_of_getElem? hi
  · have hf : ∀ y ∈ T, y ≠ z → Bef (bs.drop (i + 1)) y z := fun y hy hyz => by
      have := bef_wait hyz (hm y hy)
      rw [e] at this
      exact (this.resolve_left fun q => hb (q ▸ hy)).2
    have := h.gr (c' + 1) (by rw [e]; exact .out hb hl hz hf (g.perm p))
    rw [Nat.add_right_comm, Nat.add_assoc]
    exact this
  · have e1 : intsOf (ls ++ [z]) ++ more = intsOf ls ++ (((z : Nat) : Int) :: more) := by
      rw [ints_app, List.append_assoc]
      rfl
    have e2 : (intsOf ls ++ (((z : Nat) : Int) :: more)).getD ls.length 0 = ((z : Nat) : Int) := by
      rw [List.getD_eq_getElem?_getD, List.getElem?_append_right (by rw [ints_len]; exact Nat.le_refl _), ints_len, Nat.sub_self]
      rfl
    rw [e1, h.jg, e]
    show jGo w _ (((b : Nat) : Int) :: intsOf (bs.drop (i + 1))) _ _ _ = _
    rw [jGo_cons, if_neg (fun q => hb (ints_mem.mp q)), if_pos (by rw [ints_len]; exact hl), e2, if_neg, ints_app, ints_erase, List.length_append]
    · rfl
    · rintro (q | q)
      · rw [List.length_append, ints_len] at q
        simp only [List.length_cons] at q
        omega
      · exact q (ints_mem.mpr hz)
theorem FwSt.stop {w : Nat} {bs T ls : List Nat} {k : Nat} (h : FwSt w bs bs.length T k ls) : Gr w [] bs k ∧ jGo w (intsOf ls) (intsOf bs) [] 0 0 = .inl k := by
  have e : bs.drop bs.length = [] := List.drop_length
  have h1 := h.gr 0 (by rw [e]; exact .nil _)
  have h2 := h.jg []
  rw [e, List.append_nil] at h2
  refine ⟨h1, h2.trans ?_⟩
  show jGo w (intsOf ls) [] (intsOf T) k ls.length = _
  unfold jGo
  rw [ints_len, if_neg (Nat.lt_irrefl _)]
-- WwFwX
/-! ### the fewest, or a refusal -/
def spWait : Sp := fun vs H Q _ => ∃ (pb : Addr) (bs : List Nat) (i x : Nat) (R : List Cell), vs = [.ref pb, .int (i : Nat), .int (x : Nat)] ∧ i ≤ bs.length ∧ bs.length ≤ 200 ∧ (pb, HO.lst (blV bs)) ∈ R ∧ Own H R ∧ ∀ H', Own H' R → Q (.int ((waitN (bs.drop i) i x : Nat) : Int)) H'
def spFewX (K : PySem.W.Frag) : Sp := fun vs H Q E => ∃ (pb : Addr) (w : Int) (ns : List Int) (R : List Cell), vs = [.ref pb, .int w] ∧ ns.length ≤ 1000 ∧ (pb, HO.lst (isV ns)) ∈ R ∧ Own H R ∧
  (∀ i, BlkBad ns i → ∀ (d : Addr) (H' : Hp), Own H' ((d, .xd [("number", .int (i : Nat))]) :: R) → E (.ref (He.ga K "BadDeed")) (some d) H') ∧
  (BlksOk ns → ¬ (1 ≤ w ∧ w ≤ 8) → ∀ H', Own H' R → E (.ref (He.ga K "BadWays")) none H') ∧
  (BlksOk ns → 1 ≤ w ∧ w ≤ 8 → ∀ (bs : List Nat) (p pl : Addr) (g : Nat) (ls : List Nat) (H' : Hp), ns = intsOf bs → (∃ T, FwDet w.toNat bs bs.length T g ls) → Gr w.toNat [] bs g → jGo w.toNat (intsOf ls) (intsOf bs) [] 0 0 = .inl g → ls.length ≤ 200 → g ≤ 200 → Own H' ((p, .tup [.int (g : Nat), .ref pl]) :: (pl, .lst (blV ls)) :: R) → Q (.ref p) H')
theorem blks_nat {ns : List Int} (h : BlksOk ns) : ∃ bs : List Nat, ns = intsOf bs ∧ (∀ b ∈ bs, b < 16) ∧ bs.length ≤ 200 := by
  have h1 : ∀ x ∈ ns, 0 ≤ x ∧ x ≤ 15 := fun x hx => by
    obtain ⟨i, hi⟩ := List.getElem?_of_mem hx
    obtain ⟨y, hy, _, h0, h15⟩ := h i (List.getElem?_eq_some_iff.mp hi).1
    rw [hi] at hy
    cases hy
    exact ⟨h0, h15⟩
  refine ⟨ns.map Int.toNat, ?_, fun b hb => ?_, ?_⟩
  · unfold intsOf
    rw [List.map_map]
    conv => lhs; rw [← List.map_id ns]
    refine List.map_congr_left fun x hx => ?_
    show x = ((x.toNat : Nat) : Int)
    rw [Int.toNat_of_nonneg (h1 x hx).1]
  · obtain ⟨x, hx, rfl⟩ := List.mem_map.mp hb
    have := h1 x hx
    omega
  · rw [List.length_map]
    rcases Nat.lt_or_ge 200 ns.length with g | g
    · obtain ⟨_, _, g2, _⟩ := h 200 g
      omega
    · exact g
section
variable {P : Program} {w : World} {K : PySem.W.Frag} {mg : Str → Option Value} {base : Heap} {n lv : Nat}
theorem ok_wait_of (T : Txt K mg) : FnOk P w K mg base CX0 1 (He.fAd K ("wait_of", none)) T.fd_wait_of ["blocks", "place", "block"] spWait := by
  refine okOf T.F_wait_of sc_wait_of (fun vs H Q E h => ?_) (fun cdv A outer s H vs Q E hr h => ?_)
  · obtain ⟨_, _, _, _, _, rfl, _⟩ := h
    rfl
  · obtain ⟨pb, bs, i, x, R, rfl, hi, hl, hpb, O, k⟩ := h
    refine ⟨_, (pss_cons (ps_for PassesOwn.never rfl (pi_range2 (by rfl) T.n_range (pa_cons (pv 1) (pa_cons (pe_callB call_len_seq (by rfl) T.n_len PySem.boot_len (pa_cons (pv 0) pa_nil)) pa_nil))) (pg_name (i := 3) sc_wait_of.nd rfl (Or.inl rfl)) (pss_one (ps_if (pt_cmpR op_eq (pe_ix ix_list (pv 0) (pv 3) (fun _ _ => rfl)) (pv 2) (nomark _)) (pss_one (ps_ret (pv 3))) pss_nil))) (pss_one (ps_ret (pe_op op_add (pe_callB call_len_seq (by rfl) T.n_len PySem.boot_len (pa_cons (pv 0) pa_nil)) (pv 2))))), ?_⟩
    refine ⟨_, rfl, _, rfl, pb, _, rfl, .inl (SqL.of (O.mem hpb)), _, _, rfl, ?_, ?_⟩
    · rw [blV_len]
      omega
    rw [blV_len, show (((bs.length : Nat) : Int) - ((i : Nat) : Int)).toNat = bs.length - i by omega]
    obtain ⟨W, hW⟩ : ∃ W, W = waitN (bs.drop i) i x := ⟨_, rfl⟩
    rw [← hW] at k
    refine for_range (lo := ((i : Nat) : Int)) (n := bs.length - i) (fun j σ H' => (∃ v3, σ = [some (.ref pb), some (.int (i : Nat)), some (.int (x : Nat)), v3]) ∧ waitN (bs.drop (i + j)) (i + j) x = W ∧ Own H' R)
      ⟨⟨none, rfl⟩, hW.symm, O⟩ ?_ ?_
    · rintro j σ H1 hj ⟨⟨v3, rfl⟩, hw, O1⟩
      have hjl : i + j < bs.length := by omega
      obtain ⟨b, hb⟩ : ∃ b, bs[i + j]? = some b := ⟨_, List.getElem?_eq_getElem hjl⟩
      have ej : ((i : Nat) : Int) + ((j : Nat) : Int) = ((i + j : Nat) : Int) := by omega
      rw [drop_at hb] at hw
      rw [ej]
      refine ⟨_, rfl, _, rfl, pb, _, _, .int (b : Nat), rfl, rfl, SqL.of (O1.mem hpb), atI_nat (by unfold blV; rw [List.getElem?_map, hb]; rfl), _, rfl, rfl, _, rfl, ?_⟩
      by_cases e : b = x
      · refine iteTo (decide_eq_true (by rw [e])) ?_
        refine ⟨_, rfl, ?_⟩
        have : waitN (b :: bs.drop (i + j + 1)) (i + j) x = i + j := by
          unfold waitN
          rw [if_pos e]
        rw [this] at hw
        rw [hw]
        exact k H1 O1
      · refine iteFo (decide_eq_false (fun q => e (Int.ofNat.inj (V.int.inj q)))) ?_
        have : waitN (b :: bs.drop (i + j + 1)) (i + j) x = waitN (bs.drop (i + j + 1)) (i + j + 1) x := by
          conv => lhs; unfold waitN
          rw [if_neg e]
        rw [this] at hw
        exact ⟨⟨_, rfl⟩, hw, O1⟩
    · rintro σ H1 ⟨⟨v3, rfl⟩, hw, O1⟩
      have e : i + (bs.length - i) = bs.length := by omega
      rw [e, List.drop_length] at hw
      refine ⟨_, rfl, pb, _, rfl, .inl (SqL.of (O1.mem hpb)), _, rfl, _, _, rfl, rfl, ?_⟩
      rw [blV_len]
      have hw : bs.length + x = W := hw
      have ee : ((bs.length : Nat) : Int) + ((x : Nat) : Int) = ((W : Nat) : Int) := by omega
      show Q (.int (((bs.length : Nat) : Int) + ((x : Nat) : Int))) H1
      rw [ee]
      exact k H1 O1
theorem ok_fewestX (T : Txt K mg) : FnOk P w K mg base (L2.CX P w) 4 (He.fAd K ("fewest", none)) T.fd_fewest ["blocks", "ways"] (spFewX K) := by
  have G_need_blocks := ok_need_blksX (P := P) (w := w) (base := base) T
  have G_need_ways := ok_need_waysX (P := P) (w := w) (base := base) T
  have G_wait_of := ok_wait_of (P := P) (w := w) (base := base) T
  refine okX T.F_fewest sc_fewest (fun vs H Q E h => ?_) (fun cdv A outer s H vs Q E hr h => ?_)
  · obtain ⟨_, _, _, _, rfl, _⟩ := h
    rfl
  · obtain ⟨pb, wi, ns, R, rfl, hnl, hpb0, O, k1, k2, k3⟩ := h
    refine ⟨_, (pss_cons (ps_expr (pe_call G_need_blocks (hr.mono (by omega)) rfl T.g_need_blocks T.k_need_blocks T.b_need_blocks .nil (passes_call (takes_of rfl rfl rfl rfl) fun _ _ _ _ z => z) (pa_cons (pv 0) pa_nil))) (pss_cons (ps_expr (pe_call G_need_ways (hr.mono (by omega)) rfl T.g_need_ways T.k_need_ways T.b_need_ways .nil (passes_call (takes_of rfl rfl rfl rfl) fun _ _ _ _ z => z) (pa_cons (pv 1) pa_nil))) (pss_cons (ps_set (i := 2) sc_fewest.nd rfl (Or.inl rfl) (pe_lst pa_nil)) (pss_cons (ps_set (i := 3) sc_fewest.nd rfl (Or.inl rfl) pe_int) (pss_cons (ps_set (i := 4) sc_fewest.nd rfl (Or.inl rfl) (pe_lst pa_nil)) (pss_cons (ps_for (passes_of rfl) rfl (pi_enum (by rfl) T.n_enumerate (pa_cons (pv 0) pa_nil)) (pg_tup (by rfl) (pgs_cons (pg_name (i := 5) sc_fewest.nd rfl (Or.inr rfl)) (pgs_cons (pg_name (i := 6) sc_fewest.nd rfl (Or.inl rfl)) pgs_nil))) (pss_one (ps_if (pt_cmpR op_notIn_seq (pv 6) (pv 2) (by rfl)) (pss_cons (ps_set (i := 3) sc_fewest.nd rfl (Or.inl rfl) (pe_op op_add (pv 3) pe_int)) (pss_cons (ps_if (pt_cmpR op_eq (pe_callB call_len_seq (by rfl) T.n_len PySem.boot_len (pa_cons (pv 2) pa_nil)) (pv 1) (nomark _)) (pss_cons (ps_setLc (i := 7) (te := (tCall spWait [] E0 (tCons (tVar 0) (tCons (tVar 5) (tCons (tVar 8) tNil))))) (own := [("one", 8)]) (by rfl) sc_fewest.nd rfl rfl (sw_true rfl rfl rfl (by decide +kernel)) (pi_list (pv 2)) (blkOk_by (own := [("one", 8)]) (by kernel_rfl)) (fun _ _ _ _ _ => (pg_name (i := 8) sc_fewest.nd rfl (Or.inl rfl))) (fun _ _ _ _ _ => pts_nil) (fun _ _ _ _ _ => (pe_call G_wait_of (hr.mono (by omega)) rfl T.g_wait_of T.k_wait_of T.b_wait_of .nil pass0 (pa_cons (pv 0) (pa_cons (pv 5) (pa_cons (pv 8) pa_nil)))))) (pss_one (ps_expr (pe_bm PySem.F.plainAttrs_list PySem.F.slot_list_append PySem.F.type_list_append mt_append (pv 4) (pa_cons (pe_bm PySem.F.plainAttrs_list PySem.F.slot_list_pop PySem.F.type_list_pop mt_popAt (pv 2) (pa_cons (pe_bm PySem.F.plainAttrs_list PySem.F.slot_list_index PySem.F.type_list_index mt_index (pv 7) (pa_cons (pe_callB (cr_max rfl) (by rfl) T.n_max (by decide +kernel) (pa_cons (pv 7) pa_nil)) pa_nil)) pa_nil)) pa_nil))))) pss_nil) (pss_one (ps_expr (pe_bm PySem.F.plainAttrs_list PySem.F.slot_list_append PySem.F.type_list_append mt_append (pv 2) (pa_cons (pv 6) pa_nil)))))) pss_nil))) (pss_one (ps_ret (pe_tup (pa_cons (pv 3) (pa_cons (pv 4) pa_nil))))))))))), ?_⟩
    refine ⟨_, rfl, pb, ns, R, rfl, hnl, hpb0, O, fun hok H0 F0 => ?_, k1⟩
    refine ⟨_, rfl, wi, rfl, fun hw => ?_, fun hw => k2 hok hw H0 F0⟩
    obtain ⟨bs, rfl, hb16, hl⟩ := blks_nat hok
    obtain ⟨w, rfl⟩ : ∃ w : Nat, wi = (w : Int) := ⟨wi.toNat, by omega⟩
    have hw1 : 1 ≤ w := by omega
    have hw8 : w ≤ 8 := by omega
    have hpb : (pb, HO.lst (blV bs)) ∈ R := by
      rw [blV_is]
      exact hpb0
    have kf : ∀ (p pl : Addr) (g : Nat) (ls : List Nat) (H' : Hp), (∃ T, FwDet w bs bs.length T g ls) → Gr w [] bs g → jGo w (intsOf ls) (intsOf bs) [] 0 0 = .inl g → ls.length ≤ 200 → g ≤ 200 → Own H' ((p, .tup [.int (g : Nat), .ref pl]) :: (pl, .lst (blV ls)) :: R) → Q (.ref p) H' := fun p pl g ls H' h0 h1 h2 h3 h4 h5 => k3 hok hw bs p pl g ls H' rfl (by rw [Int.toNat_natCast]; exact h0) (by rw [Int.toNat_natCast]; exact h1) (by rw [Int.toNat_natCast]; exact h2) h3 h4 h5
    refine ⟨by show 0 ≤ sizeLine; decide, fun pt hpt => ?_⟩
    have F1 := F0.new (o := .lst (blV [])) hpt
    refine ⟨by show 0 ≤ sizeLine; decide, fun pl hpl => ?_⟩
    have F2 := (F1.new (o := .lst (blV [])) hpl).perm (L' := (pt, .lst (blV [])) :: (pl, .lst (blV [])) :: R) (by walk_at "perm")
    refine ⟨_, rfl, pb, blV bs, rfl, SqL.of (F2.mem (by simp [hpb])), ?_⟩
    refine for_enum (K := K) (a := pb) (xs := blV bs) (fun i σ H' => ∃ (T ls : List Nat) (k : Nat) (v5 v6 v7 v8 : Option V), σ = [some (.ref pb), some (.int (w : Nat)), some (.ref pt), some (.int (k : Nat)), some (.ref pl), v5, v6, v7, v8] ∧ FwSt w bs i T k ls ∧ Own H' ((pt, .lst (blV T)) :: (pl, .lst (blV ls)) :: R))
      ⟨[], [], 0, none, none, none, none, rfl, FwSt.start w bs, F2⟩ (fun i σ H' _ ⟨_, _, _, _, _, _, _, _, _, O'⟩ => SqL.of (O'.mem (by simp [hpb]))) ?_ ?_
    · rintro i x σ H3 p hi ⟨T, ls, k, v5, v6, v7, v8, rfl, hst, F3⟩ hp
      unfold blV at hi
      rw [List.getElem?_map] at hi
      cases ha : bs[i]? with
      | none =>
        rw [ha] at hi
        cases hi
      | some b =>
        rw [ha] at hi
        obtain rfl : V.int (b : Nat) = x := Option.some.inj hi
        have hil : i < bs.length := (List.getElem?_eq_some_iff.mp ha).1
        have F4 := F3.new (o := .tup [.int (i : Nat), .int (b : Nat)]) hp
        refine ⟨p, _, rfl, SqT.of F4.a0, rfl, _, _, rfl, _, _, rfl, rfl, ?_⟩
        have F5 := F4.tail
        generalize upd H3 p _ = H4 at F5 ⊢
        clear F4 F3
        have hTl := hst.len
        refine ⟨_, rfl, _, rfl, pt, _, rfl, .inl (SqL.of F5.a0), rfl, blV_flat T, _, rfl, ?_⟩
        rw [inV_bl]
        by_cases hb : b ∈ T
        · rw [decide_eq_true hb]
          exact iteF ⟨T, ls, k, _, _, _, _, rfl, hst.hit ha hb, F5⟩
        · rw [decide_eq_false hb]
          refine iteT ?_
          refine ⟨_, rfl, _, _, rfl, rfl, ?_⟩
          refine ⟨_, rfl, pt, _, rfl, .inl (SqL.of F5.a0), _, rfl, rfl, _, rfl, ?_⟩
          rw [blV_len]
          have ek : (k : Int) + 1 = ((k + 1 : Nat) : Int) := by omega
          by_cases hf : T.length = w
          · refine iteTo (decide_eq_true (by rw [hf])) ?_
            obtain ⟨f, hfd⟩ : ∃ f : Nat → Nat, f = waitN (bs.drop i) i := ⟨_, rfl⟩
            refine ⟨_, rfl, pt, rfl, ⟨_, SqL.of F5.a0⟩, fun D hD => ?_⟩
            refine lc_list (K := K) (a := pt) (xs := blV T) (fun j H' => Own H' ((D, .lst (blV ((T.take j).map f))) :: (pt, .lst (blV T)) :: (pl, .lst (blV ls)) :: R)) (F5.new hD) (fun j H' _ O' => SqL.of O'.a1) ?_ ?_
            · rintro j y H5 hj F6
              unfold blV at hj
              rw [List.getElem?_map] at hj
              cases hc : T[j]? with
              | none =>
                rw [hc] at hj
                cases hj
              | some t =>
                rw [hc] at hj
                obtain rfl : V.int (t : Nat) = y := Option.some.inj hj
                have hjl : j < T.length := (List.getElem?_eq_some_iff.mp hc).1
                refine ⟨rfl, tYes_go (iteT ⟨_, rfl, _, rfl, _, rfl, pb, bs, i, t, (D, .lst (blV ((T.take j).map f))) :: (pt, .lst (blV T)) :: (pl, .lst (blV ls)) :: R, rfl, by omega, by omega, by simp [hpb], F6, fun H' F7 => ⟨_, F7.a0, by rw [blV_len, List.length_map, List.length_take]; exact size1 (by omega), ?_⟩⟩)⟩
                rw [take_snoc hc, List.map_append]
                unfold blV
                rw [List.map_append]
                have := F7.set (o' := .lst (blV ((T.take j).map f) ++ [.int ((f t : Nat) : Int)]))
                rw [hfd] at this ⊢
                exact this
            · intro H5 F6
              rw [blV_len, List.take_length] at F6
              have hne : T ≠ [] := fun q => by
                rw [q] at hf
                have : 0 = w := hf
                omega
              refine ⟨_, rfl, .inl ⟨rfl, _, SqL.of F6.a2⟩, _, rfl, .inl ⟨rfl, _, SqL.of F6.a1⟩, _, rfl, .inl ⟨rfl, _, SqL.of F6.a0⟩, _, rfl, D, intsOf (T.map f), rfl, ?_, ?_, fun m hm hmx => ?_⟩
              · rw [← blV_is]
                exact SqL.of F6.a0
              · rw [ints_len, List.length_map]
                exact List.length_pos_iff.mpr hne
              · obtain ⟨mn, hmn, rfl⟩ : ∃ mn ∈ T.map f, ((mn : Nat) : Int) = m := List.mem_map.mp hm
                cases q : fxN mn (T.map f) with
                | none => exact absurd hmn (fx_none.mp q)
                | some j =>
                  obtain ⟨g1, g2⟩ := fx_at q
                  rw [List.getElem?_map] at g1
                  cases hc : T[j]? with
                  | none =>
                    rw [hc] at g1
                    cases g1
                  | some z =>
                    rw [hc] at g1
                    obtain rfl : f z = mn := Option.some.inj g1
                    have hjl : j < T.length := (List.getElem?_eq_some_iff.mp hc).1
                    have hz := List.mem_of_getElem? hc
                    refine ⟨D, blV (T.map f), _, j, .int ((f z : Nat) : Int), rfl, rfl, SqL.of F6.a0, rfl, blV_flat _, ?_, beq_self_eq_true (((f z : Nat)) : Int), ?_, ?_⟩
                    · unfold blV
                      rw [List.getElem?_map, List.getElem?_map, hc]
                      rfl
                    · intro m z' hm' hz'
                      unfold blV at hz'
                      rw [List.getElem?_map] at hz'
                      cases q2 : (T.map f)[m]? with
                      | none =>
                        rw [q2] at hz'
                        cases hz'
                      | some c =>
                        rw [q2] at hz'
                        obtain rfl : V.int (c : Nat) = z' := Option.some.inj hz'
                        exact beq_eq_false_iff_ne.mpr fun e2 => g2 m c hm' q2 (Int.ofNat.inj e2)
                    · have hj8 : j < 10 := by omega
                      refine ⟨pt, blV T, _, j, .int (z : Nat), rfl, rfl, F6.a1, by omega, by omega, by rw [blV_len]; exact seqIx hjl, ?_, ?_⟩
                      · unfold blV
                        rw [List.getElem?_map, hc]
                        rfl
                      · have F7 := (F6.tail).set (o' := .lst ((blV T).eraseIdx j))
                        have ee : (blV T).eraseIdx j = blV (T.erase z) := by
                          unfold blV
                          rw [← map_erIx, eraseIdx_nd hst.nd hc]
                        have F8 := F7.perm (L' := (pl, .lst (blV ls)) :: (pt, .lst ((blV T).eraseIdx j)) :: R) (by walk_at "perm")
                        have hll := hst.ll
                        refine ⟨pl, _, _, rfl, rfl, F8.a0, by rw [blV_len]; exact size1 (by omega), ?_⟩
                        have F9 := F8.set (o' := .lst (blV ls ++ [.int (z : Nat)]))
                        rw [ee] at F9 ⊢
                        have F10 := F9.perm (L' := (pt, .lst (blV (T.erase z))) :: (pl, .lst (blV ls ++ [.int (z : Nat)])) :: R) (by walk_at "perm")
                        have hel := er_len hz
                        refine ⟨_, rfl, .inl ⟨rfl, _, SqL.of F10.a0⟩, _, rfl, pt, _, _, rfl, rfl, F10.a0, by rw [blV_len]; exact size1 (by omega), ?_⟩
                        have F11 := F10.set (o' := .lst (blV (T.erase z) ++ [.int (b : Nat)]))
                        have e1 : blV (T.erase z) ++ [.int (b : Nat)] = blV (T.erase z ++ [b]) := by
                          unfold blV
                          rw [List.map_append]
                          rfl
                        have e2 : blV ls ++ [.int (z : Nat)] = blV (ls ++ [z]) := by
                          unfold blV
                          rw [List.map_append]
                          rfl
                        rw [e1, e2] at F11
                        rw [e1, e2]
                        refine ⟨T.erase z ++ [b], ls ++ [z], k + 1, _, _, _, _, rfl, hst.out ha hb hf hz fun y hy => ?_, F11⟩
                        have hy2 := hmx ((f y : Nat) : Int) (List.mem_map.mpr ⟨f y, List.mem_map.mpr ⟨y, hy, rfl⟩, rfl⟩)
                        rw [hfd] at hy2
                        exact Int.ofNat_le.mp hy2
          · refine iteFo (decide_eq_false (fun q => hf (Int.ofNat.inj (V.int.inj q)))) ?_
            refine ⟨_, rfl, .inl ⟨rfl, _, SqL.of F5.a0⟩, _, rfl, pt, _, _, rfl, rfl, F5.a0, by rw [blV_len]; exact size1 (by omega), ?_⟩
            have F6 := F5.set (o' := .lst (blV T ++ [.int (b : Nat)]))
            have e1 : blV T ++ [.int (b : Nat)] = blV (T ++ [b]) := by
              unfold blV
              rw [List.map_append]
              rfl
            rw [e1] at F6
            rw [e1]
            exact ⟨T ++ [b], ls, k + 1, _, _, _, _, rfl, hst.room ha hb hf, F6⟩
    · rintro σ H3 ⟨T, ls, k, v5, v6, v7, v8, rfl, hst, F3⟩
      rw [blV_len] at hst
      obtain ⟨g1, g2⟩ := hst.stop
      refine ⟨_, rfl, _, rfl, by show 2 ≤ sizeLine; decide, fun p hp => ?_⟩
      have F4 := F3.new (o := .tup [.int (k : Nat), .ref pl]) hp
      exact kf p pl k ls _ ⟨T, hst.dt⟩ g1 g2 (Nat.le_trans hst.ll hl) (Nat.le_trans hst.kl hl) ((F4.perm (L' := (pt, .lst (blV T)) :: (p, .tup [.int (k : Nat), .ref pl]) :: (pl, .lst (blV ls)) :: R) (by walk_at "perm")).tail)
end
-- WwDpX
/-! ### depths and brings, or a refusal -/
def spBlkX (K : PySem.W.Frag) (res : List Nat → List V) : Sp := fun vs H Q E => ∃ (pb : Addr) (ns : List Int) (R : List Cell), vs = [.ref pb] ∧ ns.length ≤ 1000 ∧ (pb, HO.lst (isV ns)) ∈ R ∧ Own H R ∧
  (∀ i, BlkBad ns i → ∀ (d : Addr) (H' : Hp), Own H' ((d, .xd [("number", .int (i : Nat))]) :: R) → E (.ref (He.ga K "BadDeed")) (some d) H') ∧
  (BlksOk ns → ∀ (bs : List Nat) (p : Addr) (H' : Hp), ns = intsOf bs → Own H' ((p, .lst (res bs)) :: R) → Q (.ref p) H')
section
variable {P : Program} {w : World} {K : PySem.W.Frag} {mg : Str → Option Value} {base : Heap} {n lv : Nat}
theorem ok_depthsX (T : Txt K mg) : FnOk P w K mg base (L2.CX P w) 4 (He.fAd K ("depths", none)) T.fd_depths ["blocks"] (spBlkX K fun bs => (dptsOf bs).map dV) := by
  have G_need_blocks := ok_need_blksX (P := P) (w := w) (base := base) T
  have G_depths_of := ok_depths_of (P := P) (w := w) (base := base) T
  refine okX T.F_depths sc_depths (fun vs H Q E h => ?_) (fun cdv A outer s H vs Q E hr h => ?_)
  · obtain ⟨_, _, _, rfl, _⟩ := h
    rfl
  · obtain ⟨pa, ns, R, rfl, hl, hpa, O, hbad, k0⟩ := h
    refine ⟨_, (pss_cons (ps_expr (pe_call G_need_blocks (hr.mono (by omega)) rfl T.g_need_blocks T.k_need_blocks T.b_need_blocks .nil (passes_call (takes_of rfl rfl rfl rfl) fun _ _ _ _ z => z) (pa_cons (pv 0) pa_nil))) (pss_one (ps_ret (pe_call G_depths_of (hr.mono (by omega)) rfl T.g_depths_of T.k_depths_of T.b_depths_of .nil pass0 (pa_cons (pv 0) pa_nil))))), ?_⟩
    refine ⟨_, rfl, pa, ns, R, rfl, hl, hpa, O, fun hok H1 O1 => ?_, hbad⟩
    obtain ⟨bs, rfl, hb, hbl⟩ := blks_nat hok
    have hpb : (pa, HO.lst (blV bs)) ∈ R := by rw [blV_is]; exact hpa
    exact ⟨_, rfl, pa, bs, R, rfl, hb, hbl, hpb, O1, fun p H2 O2 => k0 hok bs p H2 rfl O2⟩
theorem ok_late_bringsX (T : Txt K mg) : FnOk P w K mg base (L2.CX P w) 4 (He.fAd K ("late_brings", none)) T.fd_late_brings ["blocks"] (spBlkX K fun bs => (cntsOf bs).map V.int) := by
  have G_need_blocks := ok_need_blksX (P := P) (w := w) (base := base) T
  have G_depths_of := ok_depths_of (P := P) (w := w) (base := base) T
  refine okX T.F_late_brings sc_late_brings (fun vs H Q E h => ?_) (fun cdv A outer s H vs Q E hr h => ?_)
  · obtain ⟨_, _, _, rfl, _⟩ := h
    rfl
  · obtain ⟨pa, ns, R, rfl, hl0, hpa0, O, hbad, k0⟩ := h
    refine ⟨_, (pss_cons (ps_expr (pe_call G_need_blocks (hr.mono (by omega)) rfl T.g_need_blocks T.k_need_blocks T.b_need_blocks .nil (passes_call (takes_of rfl rfl rfl rfl) fun _ _ _ _ z => z) (pa_cons (pv 0) pa_nil))) (pss_cons (ps_set (i := 1) sc_late_brings.nd rfl (Or.inr rfl) (pe_call G_depths_of (hr.mono (by omega)) rfl T.g_depths_of T.k_depths_of T.b_depths_of .nil pass0 (pa_cons (pv 0) pa_nil))) (pss_one (ps_ret (pe_lc (te := (tCB (rLenQ K) (tCons (tLc (iList K (tVar 1)) (gName 3) (tOr (tTest (tOp rIsNo (tVar 3) (tC .non))) (tTest (tOp rGeI (tVar 3) (tVar 2)))) (tVar 3) [3]) tNil))) (own := [("ways", 2)]) (by rfl) sc_late_brings.nd (pi_range2 (by rfl) T.n_range (pa_cons pe_int (pa_cons (pe_op op_add (pe_globI rfl T.g_BLOCKS) pe_int) pa_nil))) (blkOk_by (own := [("ways", 2)]) (by kernel_rfl)) (fun _ _ _ _ _ => (pg_name (i := 2) sc_late_brings.nd rfl (Or.inr rfl))) (fun _ _ _ _ _ => pts_nil) (fun _ _ _ _ _ => (pe_callB call_len_seq (by rfl) T.n_len PySem.boot_len (pa_cons (pe_lc (tt := (tOr (tTest (tOp rIsNo (tVar 3) (tC .non))) (tTest (tOp rGeI (tVar 3) (tVar 2))))) (own := [("depth", 3)]) (by rfl) sc_late_brings.nd (pi_list (pv 1)) (blkOk_by (own := [("depth", 3)]) (by kernel_rfl)) (fun _ _ _ _ _ => (pg_name (i := 3) sc_late_brings.nd rfl (Or.inl rfl))) (fun _ _ _ _ _ => (pts_one (PW.pt (pw_or (pt_cmpR op_isN (pv 3) pe_non (nomark _)) (pw_or1 (pt_cmpR op_ge (pv 3) (pv 2) (nomark _))))))) (fun _ _ _ _ _ => (pv 3))) pa_nil)))))))), ?_⟩
    refine ⟨_, rfl, pa, ns, R, rfl, hl0, hpa0, O, fun hok H1 O1 => ?_, hbad⟩
    obtain ⟨bs, rfl, hb, hl⟩ := blks_nat hok
    have hpa : (pa, HO.lst (blV bs)) ∈ R := by rw [blV_is]; exact hpa0
    have k : ∀ (p : Addr) (H' : Hp), Own H' ((p, .lst ((cntsOf bs).map V.int)) :: R) → Q (.ref p) H' := fun p H' O' => k0 hok bs p H' rfl O'
    refine ⟨_, rfl, pa, bs, R, rfl, hb, hl, hpa, O1, fun p H2 O2 => ?_⟩
    refine ⟨_, _, rfl, rfl, 1, 17, rfl, by omega, fun D hD => ?_⟩
    refine lc_range (lo := 1) (n := 16) (fun i H' => Own H' ((D, .lst (((cntsOf bs).take i).map V.int)) :: (p, .lst ((dptsOf bs).map dV)) :: R)) (O2.new hD) ?_ ?_
    · rintro i H3 hi O3
      have hci : (cntsOf bs)[i]? = some ((cntW (i + 1) bs : Nat) : Int) := by
        unfold cntsOf
        rw [List.getElem?_map, List.getElem?_range hi]
        rfl
      rw [take_snoc hci, List.map_append]
      refine ⟨rfl, tYes_go (iteT ?_)⟩
      refine ⟨_, rfl, p, rfl, ⟨_, SqL.of O3.a1⟩, fun D2 hD2 => ?_⟩
      refine lc_list (K := K) (a := p) (xs := (dptsOf bs).map dV) (fun t H' => Own H' ((D2, .lst ((((dptsOf bs).take t).filter (missB (i + 1))).map dV)) :: (D, .lst (((cntsOf bs).take i).map V.int)) :: (p, .lst ((dptsOf bs).map dV)) :: R)) (O3.new hD2) (fun t H' _ O' => SqL.of O'.a2) ?_ ?_
      · rintro t y H4 ht O4
        rw [List.getElem?_map] at ht
        cases q2 : (dptsOf bs)[t]? with
        | none =>
          rw [q2] at ht
          cases ht
        | some d =>
          rw [q2] at ht
          have e : dV d = y := Option.some.inj ht
          subst e
          have htl : t < (dptsOf bs).length := (List.getElem?_eq_some_iff.mp q2).1
          have hdl := dptsOf_len bs
          rw [take_snoc q2, List.filter_append]
          have yes : missB (i + 1) d = true → Own (upd H4 D2 (.lst ((((dptsOf bs).take t).filter (missB (i + 1))).map dV ++ [dV d]))) ((D2, .lst ((((dptsOf bs).take t).filter (missB (i + 1)) ++ [d].filter (missB (i + 1))).map dV)) :: (D, .lst (((cntsOf bs).take i).map V.int)) :: (p, .lst ((dptsOf bs).map dV)) :: R) := fun hn => by
            rw [List.filter_cons_of_pos hn, List.map_append]
            exact O4.set
          have hlen : ((((dptsOf bs).take t).filter (missB (i + 1))).map dV).length < sizeLine := by
            have h1 := List.length_filter_le (missB (i + 1)) ((dptsOf bs).take t)
            rw [List.length_take] at h1
            rw [List.length_map]
            exact size1 (by omega)
          cases d with
          | none => exact ⟨rfl, _, rfl, rfl, true, congrArg V.bl (decide_eq_true rfl), iteT ⟨_, rfl, _, O4.a0, hlen, yes rfl⟩⟩
          | some k =>
            refine ⟨rfl, _, rfl, rfl, false, congrArg V.bl (decide_eq_false (fun z => by cases z)), iteF ⟨_, rfl, _, rfl, k, 1 + i, rfl, rfl, decide (i + 1 ≤ k), ?_, ?_⟩⟩
            · show V.bl (decide ((1 : Int) + (i : Int) ≤ (k : Int))) = _
              congr 1
              exact decide_eq_decide.mpr ⟨fun _ => by omega, fun _ => by omega⟩
            · by_cases hk : i + 1 ≤ k
              · rw [decide_eq_true hk]
                exact iteT ⟨_, rfl, _, O4.a0, hlen, yes (decide_eq_true hk)⟩
              · rw [decide_eq_false hk, List.filter_cons_of_neg (show ¬ missB (i + 1) (some k) = true from fun z => hk (of_decide_eq_true z)), List.filter_nil, List.append_nil]
                exact iteF O4
      intro H4 O4
      rw [List.length_map, List.take_length] at O4
      refine ⟨D2, _, rfl, .inl (SqL.of O4.a0), ?_⟩
      rw [List.length_map, ← List.countP_eq_length_filter]
      refine ⟨_, O4.a1, by rw [List.length_map, List.length_take]; exact size1 (by omega), ?_⟩
      have O5 := (O4.tail).set (o' := .lst (((cntsOf bs).take i).map V.int ++ [.int ((cntW (i + 1) bs : Nat) : Int)]))
      exact O5
    · intro H3 O3
      rw [show (cntsOf bs).take 16 = cntsOf bs from rfl] at O3
      exact k D H3 (Own.right (L' := [(p, .lst ((dptsOf bs).map dV))]) (O3.perm (by walk_at "perm")))
end
-- WwDq
/-! ### depth, by the unlike ones between -/
theorem snoc_ind {α : Type} {p : List α → Prop} (h0 : p []) (hs : ∀ l x, p l → p (l ++ [x])) (l : List α) : p l := by
  have : ∀ l : List α, p l.reverse := fun l => by
    induction l with
    | nil => exact h0
    | cons a l ih =>
      rw [List.reverse_cons]
      exact hs _ _ ih
  rw [← List.reverse_reverse l]
  exact this _
theorem fold_mid {b : Nat} {o : List Nat} (mid : List Nat) : b ∉ mid → ∃ rest, mid.foldl psh (b :: o) = ordOf mid ++ b :: rest := by
  induction mid using snoc_ind with
  | h0 => exact fun _ => ⟨o, rfl⟩
  | hs l x ih =>
    intro hb
    rw [List.mem_append, not_or] at hb
    obtain ⟨rest, e⟩ := ih hb.1
    have hx : b ≠ x := fun z => hb.2 (by rw [z]; exact List.mem_singleton.mpr rfl)
    refine ⟨rest.filter (neB x), ?_⟩
    rw [List.foldl_append, e, ordOf_snoc]
    show psh (ordOf l ++ b :: rest) x = psh (ordOf l) x ++ b :: rest.filter (neB x)
    unfold psh
    rw [List.filter_append, List.filter_cons_of_pos (neB_true.mpr hx)]
    rfl
theorem fx_app {b : Nat} {rest : List Nat} : ∀ {L : List Nat}, b ∉ L → fxN b (L ++ b :: rest) = some L.length
  | [], _ => by
    show fxN b (b :: rest) = some 0
    unfold fxN
    simp
  | a :: L, h => by
    rw [List.mem_cons, not_or] at h
    show fxN b (a :: (L ++ b :: rest)) = some (L.length + 1)
    unfold fxN
    rw [fx_app h.2]
    simp [Ne.symm h.1, h.1]
theorem fx_mid {b : Nat} {pre mid : List Nat} (h : b ∉ mid) : fxN b (ordOf (pre ++ b :: mid)) = some (ordOf mid).length := by
  have e : ordOf (pre ++ b :: mid) = mid.foldl psh (psh (ordOf pre) b) := by
    unfold ordOf
    rw [List.foldl_append]
    rfl
  obtain ⟨rest, e2⟩ := fold_mid (o := (ordOf pre).filter (neB b)) mid h
  rw [e]
  unfold psh at e2 ⊢
  rw [e2]
  exact fx_app fun z => h ((ord_mem mid b).mp z)
theorem set_len {bs : List Nat} {us : List Int} (nd : us.Nodup) (h : ∀ k, k ∈ us ↔ k ∈ intsOf bs) : us.length = (ordOf bs).length := by
  have h1 : us.Perm (intsOf (ordOf bs)) := by
    refine (List.perm_ext_iff_of_nodup nd ?_).mpr fun k => ?_
    · exact (List.pairwise_map.mpr ((ord_nodup bs).imp fun hab e => hab (Int.ofNat.inj e)))
    · rw [h]
      constructor
      · intro q
        obtain ⟨b, hb1, rfl⟩ := List.mem_map.mp q
        exact List.mem_map.mpr ⟨b, (ord_mem bs b).mpr hb1, rfl⟩
      · intro q
        obtain ⟨b, hb1, rfl⟩ := List.mem_map.mp q
        exact List.mem_map.mpr ⟨b, (ord_mem bs b).mp hb1, rfl⟩
  rw [h1.length_eq, ints_len]
/-- the places ahead of k where b stands -/
def plc (bs : List Nat) (b k : Nat) : List Nat := (List.range k).filter fun j => decide (bs[j]? = some b)
theorem plc_none {bs : List Nat} {b k : Nat} (hk : k ≤ bs.length) (h : plc bs b k = []) : fxN b (ordOf (bs.take k)) = none := by
  rw [fx_none, ord_mem]
  intro hb
  obtain ⟨j, hj⟩ := List.getElem?_of_mem hb
  have hjl : j < (bs.take k).length := (List.getElem?_eq_some_iff.mp hj).1
  rw [List.length_take] at hjl
  have hjk : j < k := by omega
  rw [List.getElem?_take_of_lt hjk] at hj
  have : j ∈ plc bs b k := List.mem_filter.mpr ⟨List.mem_range.mpr hjk, decide_eq_true hj⟩
  rw [h] at this
  cases this
theorem plc_some {bs : List Nat} {b k j : Nat} {l : List Nat} (hk : k ≤ bs.length) (h : plc bs b k = l ++ [j]) : j < k ∧ fxN b (ordOf (bs.take k)) = some (ordOf ((bs.take k).drop (j + 1))).length := by
  have hj : j ∈ plc bs b k := by
    rw [h]
    simp
  obtain ⟨h1, h2⟩ := List.mem_filter.mp hj
  have hjk := List.mem_range.mp h1
  have hb := of_decide_eq_true h2
  refine ⟨hjk, ?_⟩
  have hbk : (bs.take k)[j]? = some b := by rw [List.getElem?_take_of_lt hjk]; exact hb
  have sp : bs.take k = (bs.take k).take j ++ b :: (bs.take k).drop (j + 1) := by
    have hl : j < (bs.take k).length := (List.getElem?_eq_some_iff.mp hbk).1
    have e : (bs.take k)[j] = b := (List.getElem?_eq_some_iff.mp hbk).2
    conv => lhs; rw [← List.take_append_drop j (bs.take k), List.drop_eq_getElem_cons hl, e]
  have nb : b ∉ (bs.take k).drop (j + 1) := fun hm => by
    obtain ⟨i, hi⟩ := List.getElem?_of_mem hm
    rw [List.getElem?_drop] at hi
    have hil := (List.getElem?_eq_some_iff.mp hi).1
    rw [List.length_take] at hil
    have hik : j + 1 + i < k := by omega
    rw [List.getElem?_take_of_lt hik] at hi
    have hin : j + 1 + i ∈ plc bs b k := List.mem_filter.mpr ⟨List.mem_range.mpr hik, decide_eq_true hi⟩
    have pw : (plc bs b k).Pairwise (· < ·) := List.pairwise_lt_range.filter _
    rw [h] at hin pw
    rw [List.pairwise_append] at pw
    rcases List.mem_append.mp hin with q | q
    · have := pw.2.2 _ q j (List.mem_singleton.mpr rfl)
      omega
    · have := List.mem_singleton.mp q
      omega
  conv => lhs; rw [sp]
  exact fx_mid nb
theorem plc_len (bs : List Nat) (b k : Nat) : (plc bs b k).length ≤ k := by
  have := List.length_filter_le (fun j => decide (bs[j]? = some b)) (List.range k)
  rw [List.length_range] at this
  exact this
theorem plc_in {bs : List Nat} {b j : Nat} (h : bs[j]? = some b) : plc bs b (j + 1) = plc bs b j ++ [j] := by
  unfold plc
  rw [List.range_succ, List.filter_append]
  simp [h]
theorem plc_out {bs : List Nat} {b j : Nat} (h : ¬ bs[j]? = some b) : plc bs b (j + 1) = plc bs b j := by
  unfold plc
  rw [List.range_succ, List.filter_append]
  simp [h]
theorem cutI_take {ns : List Int} {k : Nat} (h : k ≤ ns.length) : cutI ns none (some (k : Int)) = ns.take k := by
  unfold cutI
  rw [HT.sIx_none, HT.sIx_nat, Nat.min_eq_left h, Nat.sub_zero, List.drop_zero]
-- WwAl
/-! ### alike -/
def rIxS (K : PySem.W.Frag) : R2 := fun x y H Q => rIxL K x y H Q ∨ rIxT K x y H Q
theorem ix_sq {X : Cx} : IxR X (rIxS X.K) := fun value slice pins s σ H x y v u Q I rx ry h hs => h.elim (fun h => ix_list value slice pins s σ H x y v u Q I rx ry h hs) (fun h => ix_tup value slice pins s σ H x y v u Q I rx ry h hs)
/-- data of at most so many layers, of lists that are not too long -/
def AlD : Nat → PyData → Prop
  | 0, _ => False
  | n + 1, .list ds => ds.length ≤ 100000 ∧ ∀ d ∈ ds, AlD n d
  | n + 1, .tuple ds => ds.length ≤ 100000 ∧ ∀ d ∈ ds, AlD n d
  | _ + 1, .dict _ => False
  | _ + 1, _ => True
def spAlike (n : Nat) : Sp := fun vs H Q _ => ∃ (x y : V) (d : PyData) (L : List Cell), vs = [x, y] ∧ DpL L x d ∧ DpL L y d ∧ AlD n d ∧ Own H L ∧ ∀ H', Own H' L → Q (.bl true) H'
theorem kit_anylst {K : PySem.W.Frag} : PySem.W.kitAny K (.type "list") [.type "tuple", .type "list"] = some true :=
  kitAny_cons (b := false) (kit_ty (by decide +kernel)) (fun _ => kitAny_cons (b := true) (kit_ty (by decide +kernel)) (fun z => nomatch z) fun _ => rfl) (fun z => nomatch z)
theorem kit_anytup {K : PySem.W.Frag} : PySem.W.kitAny K (.type "tuple") [.type "tuple", .type "list"] = some true :=
  kitAny_cons (b := true) (kit_ty (by decide +kernel)) (fun z => nomatch z) fun _ => rfl
section
variable {P : Program} {w : World} {K : PySem.W.Frag} {mg : Str → Option Value} {base : Heap} {n lv : Nat}
theorem ok_alike (T : Txt K mg) : ∀ n, FnOk P w K mg base CX0 n (He.fAd K ("_law_alike", none)) T.fd__law_alike ["_law_found", "_law_due"] (spAlike n)
  | 0 => ⟨fun vs H Q E ⟨_, _, _, _, _, _, _, h, _⟩ => h.elim, fun A outer s H args us vs Q E hr he hb hv ⟨_, _, _, _, _, _, _, h, _⟩ => h.elim⟩
  | n + 1 => by
    have G__law_alike := ok_alike T n
    refine okOf T.F__law_alike sc__law_alike (fun vs H Q E h => ?_) (fun cdv A outer s H vs Q E hr h => ?_)
    · obtain ⟨_, _, _, _, rfl, _⟩ := h
      rfl
    · obtain ⟨x, y, d, L, rfl, hx, hy, hd, O, k⟩ := h
      refine ⟨_, (pss_cons (ps_if (PW.pt (pw_or (pt_val (pe_callB call_isi (by rfl) T.n_isinstance (by decide +kernel) (pa_cons (pv 1) (pa_cons (pe_bltn (v := .ty "tuple") (by rfl) T.n_tuple (by decide +kernel) rfl) pa_nil)))) (pw_or1 (pt_val (pe_callB call_isi (by rfl) T.n_isinstance (by decide +kernel) (pa_cons (pv 1) (pa_cons (pe_bltn (v := .ty "list") (by rfl) T.n_list (by decide +kernel) rfl) pa_nil))))))) (pss_cons (ps_if (PW.pt (pw_or (pt_cmpR op_ne (pe_callB call_isi (by rfl) T.n_isinstance (by decide +kernel) (pa_cons (pv 0) (pa_cons (pe_bltn (v := .ty "tuple") (by rfl) T.n_tuple (by decide +kernel) rfl) pa_nil))) (pe_callB call_isi (by rfl) T.n_isinstance (by decide +kernel) (pa_cons (pv 1) (pa_cons (pe_bltn (v := .ty "tuple") (by rfl) T.n_tuple (by decide +kernel) rfl) pa_nil))) (nomark _)) (pw_or1 (pt_not (pt_val (pe_callB call_isiT (by rfl) T.n_isinstance (by decide +kernel) (pa_cons (pv 0) (pa_cons (pe_tup (pa_cons (pe_bltn (v := .ty "tuple") (by rfl) T.n_tuple (by decide +kernel) rfl) (pa_cons (pe_bltn (v := .ty "list") (by rfl) T.n_list (by decide +kernel) rfl) pa_nil))) pa_nil)))))))) (pss_one (ps_ret pe_bl)) pss_nil) (pss_cons (ps_if (pt_cmpR op_ne (pe_callB call_len_seq (by rfl) T.n_len PySem.boot_len (pa_cons (pv 0) pa_nil)) (pe_callB call_len_seq (by rfl) T.n_len PySem.boot_len (pa_cons (pv 1) pa_nil)) (nomark _)) (pss_one (ps_ret pe_bl)) pss_nil) (pss_one (ps_ret (pe_cmpR (op_eqD hr.units) (pe_lc (tt := (tNot (tB (tCall (spAlike n) [] E0 (tCons (tOp (rIxS K) (tVar 0) (tVar 2)) (tCons (tOp (rIxS K) (tVar 1) (tVar 2)) tNil)))))) (own := [("_law_k", 2)]) (by rfl) sc__law_alike.nd (pi_range1 (by rfl) T.n_range (pa_cons (pe_callB call_len_seq (by rfl) T.n_len PySem.boot_len (pa_cons (pv 1) pa_nil)) pa_nil)) (blkOk_by (own := [("_law_k", 2)]) (by kernel_rfl)) (fun _ _ _ _ _ => (pg_name (i := 2) sc__law_alike.nd rfl (Or.inl rfl))) (fun _ _ _ _ _ => (pts_one (pt_not (pt_val (pe_call G__law_alike (hr.mono (by omega)) rfl T.g__law_alike T.k__law_alike T.b__law_alike .nil pass0 (pa_cons (pe_ix ix_sq (pv 0) (pv 2) (fun _ _ => rfl)) (pa_cons (pe_ix ix_sq (pv 1) (pv 2) (fun _ _ => rfl)) pa_nil))))))) (fun _ _ _ _ _ => (pv 2))) (pe_lst pa_nil) (nomark _)))))) pss_nil) (pss_cons (ps_if (PW.pt (pw_or (pt_cmpR op_isN (pv 1) pe_non (nomark _)) (pw_or1 (pt_cmpR op_isN (pv 0) pe_non (nomark _))))) (pss_one (ps_ret (pe_and (pe_cmpR op_isN (pv 1) pe_non (nomark _)) (pe_one (pe_cmpR op_isN (pv 0) pe_non (nomark _)))))) pss_nil) (pss_cons (ps_if (PW.pt (pw_or (pt_val (pe_callB call_isi (by rfl) T.n_isinstance (by decide +kernel) (pa_cons (pv 1) (pa_cons (pe_bltn (v := .ty "bool") (by rfl) T.n_bool (by decide +kernel) rfl) pa_nil)))) (pw_or1 (pt_val (pe_callB call_isi (by rfl) T.n_isinstance (by decide +kernel) (pa_cons (pv 0) (pa_cons (pe_bltn (v := .ty "bool") (by rfl) T.n_bool (by decide +kernel) rfl) pa_nil))))))) (pss_one (ps_ret (pe_and (pe_callB call_isi (by rfl) T.n_isinstance (by decide +kernel) (pa_cons (pv 1) (pa_cons (pe_bltn (v := .ty "bool") (by rfl) T.n_bool (by decide +kernel) rfl) pa_nil))) (pe_and (pe_callB call_isi (by rfl) T.n_isinstance (by decide +kernel) (pa_cons (pv 0) (pa_cons (pe_bltn (v := .ty "bool") (by rfl) T.n_bool (by decide +kernel) rfl) pa_nil))) (pe_one (pe_cmpR op_eq (pv 0) (pv 1) (nomark _))))))) pss_nil) (pss_cons (ps_if (pt_val (pe_callB call_isi (by rfl) T.n_isinstance (by decide +kernel) (pa_cons (pv 1) (pa_cons (pe_bltn (v := .ty "str") (by rfl) T.n_str (by decide +kernel) rfl) pa_nil)))) (pss_one (ps_ret (pe_and (pe_callB call_isi (by rfl) T.n_isinstance (by decide +kernel) (pa_cons (pv 0) (pa_cons (pe_bltn (v := .ty "str") (by rfl) T.n_str (by decide +kernel) rfl) pa_nil))) (pe_one (pe_cmpR op_eq (pv 0) (pv 1) (nomark _)))))) pss_nil) (pss_one (ps_ret (pe_and (pe_callB call_isi (by rfl) T.n_isinstance (by decide +kernel) (pa_cons (pv 0) (pa_cons (pe_bltn (v := .ty "int") (by rfl) T.n_int (by decide +kernel) rfl) pa_nil))) (pe_one (pe_cmpR op_eq (pv 0) (pv 1) (nomark _)))))))))), ?_⟩
      cases hx with
      | non =>
        cases hy
        refine ⟨_, rfl, _, _, _, _, false, rfl, ClsV.ty _, TyX.base (.non), kit_ty (by decide +kernel), _, rfl, iteF ?_⟩
        refine ⟨_, rfl, _, _, _, _, false, rfl, ClsV.ty _, TyX.base (.non), kit_ty (by decide +kernel), _, rfl, iteF ?_⟩
        refine ⟨_, rfl, rfl, true, by rw [decide_eq_true rfl], iteT (iteT ?_)⟩
        refine ⟨_, rfl, rfl, true, by rw [decide_eq_true rfl], iteT ⟨_, rfl, rfl, ?_⟩⟩
        rw [decide_eq_true rfl]
        exact k H O
      | bl b =>
        cases hy
        refine ⟨_, rfl, _, _, _, _, false, rfl, ClsV.ty _, TyX.base (.bl b), kit_ty (by decide +kernel), _, rfl, iteF ?_⟩
        refine ⟨_, rfl, _, _, _, _, false, rfl, ClsV.ty _, TyX.base (.bl b), kit_ty (by decide +kernel), _, rfl, iteF ?_⟩
        refine ⟨_, rfl, rfl, false, by rw [decide_eq_false (fun e => nomatch e)], iteF ?_⟩
        refine ⟨_, rfl, rfl, false, by rw [decide_eq_false (fun e => nomatch e)], iteF ?_⟩
        refine ⟨_, rfl, _, _, _, _, true, rfl, ClsV.ty _, TyX.base (.bl b), kit_ty (by decide +kernel), _, rfl, iteT (iteT ?_)⟩
        refine ⟨_, rfl, _, _, _, _, true, rfl, ClsV.ty _, TyX.base (.bl b), kit_ty (by decide +kernel), _, rfl, iteT ?_⟩
        refine ⟨_, rfl, _, _, _, _, true, rfl, ClsV.ty _, TyX.base (.bl b), kit_ty (by decide +kernel), _, rfl, iteT ?_⟩
        refine ⟨_, rfl, _, rfl, rfl, ?_⟩
        rw [decide_eq_true rfl]
        exact k H O
      | int i =>
        cases hy
        refine ⟨_, rfl, _, _, _, _, false, rfl, ClsV.ty _, TyX.base (.int i), kit_ty (by decide +kernel), _, rfl, iteF ?_⟩
        refine ⟨_, rfl, _, _, _, _, false, rfl, ClsV.ty _, TyX.base (.int i), kit_ty (by decide +kernel), _, rfl, iteF ?_⟩
        refine ⟨_, rfl, rfl, false, by rw [decide_eq_false (fun e => nomatch e)], iteF ?_⟩
        refine ⟨_, rfl, rfl, false, by rw [decide_eq_false (fun e => nomatch e)], iteF ?_⟩
        refine ⟨_, rfl, _, _, _, _, false, rfl, ClsV.ty _, TyX.base (.int i), kit_ty (by decide +kernel), _, rfl, iteF ?_⟩
        refine ⟨_, rfl, _, _, _, _, false, rfl, ClsV.ty _, TyX.base (.int i), kit_ty (by decide +kernel), _, rfl, iteF ?_⟩
        refine ⟨_, rfl, _, _, _, _, false, rfl, ClsV.ty _, TyX.base (.int i), kit_ty (by decide +kernel), _, rfl, iteF ?_⟩
        refine ⟨_, rfl, _, _, _, _, true, rfl, ClsV.ty _, TyX.base (.int i), kit_ty (by decide +kernel), _, rfl, iteT ?_⟩
        refine ⟨_, rfl, _, rfl, rfl, ?_⟩
        rw [decide_eq_true rfl]
        exact k H O
      | str z =>
        cases hy
        refine ⟨_, rfl, _, _, _, _, false, rfl, ClsV.ty _, TyX.base (.str z), kit_ty (by decide +kernel), _, rfl, iteF ?_⟩
        refine ⟨_, rfl, _, _, _, _, false, rfl, ClsV.ty _, TyX.base (.str z), kit_ty (by decide +kernel), _, rfl, iteF ?_⟩
        refine ⟨_, rfl, rfl, false, by rw [decide_eq_false (fun e => nomatch e)], iteF ?_⟩
        refine ⟨_, rfl, rfl, false, by rw [decide_eq_false (fun e => nomatch e)], iteF ?_⟩
        refine ⟨_, rfl, _, _, _, _, false, rfl, ClsV.ty _, TyX.base (.str z), kit_ty (by decide +kernel), _, rfl, iteF ?_⟩
        refine ⟨_, rfl, _, _, _, _, false, rfl, ClsV.ty _, TyX.base (.str z), kit_ty (by decide +kernel), _, rfl, iteF ?_⟩
        refine ⟨_, rfl, _, _, _, _, true, rfl, ClsV.ty _, TyX.base (.str z), kit_ty (by decide +kernel), _, rfl, iteT ?_⟩
        refine ⟨_, rfl, _, _, _, _, true, rfl, ClsV.ty _, TyX.base (.str z), kit_ty (by decide +kernel), _, rfl, iteT ?_⟩
        refine ⟨_, rfl, _, rfl, rfl, ?_⟩
        rw [decide_eq_true rfl]
        exact k H O
      | @lst a1 xs1 ds h1 r1 =>
        cases hy with
        | @lst a2 xs2 _ h2 r2 =>
          have m1 := O.mem h1
          have m2 := O.mem h2
          have e1 := r1.len
          have e2 := r2.len
          obtain ⟨hd1, hd2⟩ : ds.length ≤ 100000 ∧ ∀ d ∈ ds, AlD n d := hd
          refine ⟨_, rfl, _, _, _, _, false, rfl, ClsV.ty _, TyX.base (.lst m2), kit_ty (by decide +kernel), _, rfl, iteF ?_⟩
          refine ⟨_, rfl, _, _, _, _, true, rfl, ClsV.ty _, TyX.base (.lst m2), kit_ty (by decide +kernel), _, rfl, iteT ?_⟩
          refine ⟨_, rfl, _, _, _, _, false, rfl, ClsV.ty _, TyX.base (.lst m1), kit_ty (by decide +kernel), ?_⟩
          refine ⟨_, rfl, _, _, _, _, false, rfl, ClsV.ty _, TyX.base (.lst m2), kit_ty (by decide +kernel), rfl, false, by rw [decide_eq_true rfl]; rfl, iteF ?_⟩
          refine ⟨_, rfl, by show 2 ≤ sizeLine; decide, fun tp htp => ?_⟩
          have O1 := O.new (o := .tup [.ty "tuple", .ty "list"]) htp
          refine ⟨_, tp, _, _, [.type "tuple", .type "list"], true, rfl, O1.a0, ?_, TyX.base (.lst (O1.tail.mem h1)), ?_, _, rfl, iteF ?_⟩
          · exact .cons (ClsV.ty _) (.cons (ClsV.ty _) .nil)
          · exact kit_anylst
          replace O1 := O1.tail
          generalize upd H tp _ = H1 at O1 ⊢
          refine ⟨_, rfl, a1, _, rfl, .inl (SqL.of (O1.mem h1)), _, rfl, a2, _, rfl, .inl (SqL.of (O1.mem h2)), rfl, false, by rw [e1, e2, decide_eq_true rfl]; rfl, iteF ?_⟩
          refine ⟨_, rfl, a2, _, rfl, .inl (SqL.of (O1.mem h2)), (xs2.length : Int), rfl, by omega, by omega, fun D hD => ?_⟩
          refine lc_range (lo := 0) (n := xs2.length) (fun i H' => Own H' ((D, .lst []) :: L)) (O1.new hD) ?_ ?_
          · rintro i H2 hi O2
            have ei : (0 : Int) + (i : Int) = ((i : Nat) : Int) := by omega
            rw [ei]
            obtain ⟨d, hdi⟩ : ∃ d, ds[i]? = some d := ⟨_, List.getElem?_eq_getElem (by omega)⟩
            obtain ⟨v1, hv1, p1⟩ := r1.get' hdi
            obtain ⟨v2, hv2, p2⟩ := r2.get' hdi
            have hs : ∀ c ∈ L, c ∈ (D, HO.lst []) :: L := fun c hc => List.mem_cons_of_mem _ hc
            exact ⟨rfl, _, rfl, _, rfl, .inl ⟨a1, _, _, v1, rfl, rfl, SqL.of (O2.mem (hs _ h1)), atI_nat hv1, _, rfl, _, rfl, .inl ⟨a2, _, _, v2, rfl, rfl, SqL.of (O2.mem (hs _ h2)), atI_nat hv2, v1, v2, d, _, rfl, p1.mono hs, p2.mono hs, hd2 d (List.mem_of_getElem? hdi), O2, fun H3 O3 => ⟨_, rfl, iteF O3⟩⟩⟩⟩
          · intro H2 O2
            refine ⟨by show 0 ≤ sizeLine; decide, fun e he => ?_⟩
            have O3 := O2.new (o := .lst []) he
            refine ⟨.list [], .list [], .lst (SqL.of O3.a1) .nil, .lst (SqL.of O3.a0) .nil, sh0, sh0, ?_⟩
            have ee : PyData.eqv (.list []) (.list []) = true := by decide +kernel
            rw [ee]
            exact k _ O3.tail.tail
      | @tup a1 xs1 ds h1 r1 =>
        cases hy with
        | @tup a2 xs2 _ h2 r2 =>
          have m1 := O.mem h1
          have m2 := O.mem h2
          have e1 := r1.len
          have e2 := r2.len
          obtain ⟨hd1, hd2⟩ : ds.length ≤ 100000 ∧ ∀ d ∈ ds, AlD n d := hd
          refine ⟨_, rfl, _, _, _, _, true, rfl, ClsV.ty _, TyX.base (.tup m2), kit_ty (by decide +kernel), _, rfl, iteT (iteT ?_)⟩
          refine ⟨_, rfl, _, _, _, _, true, rfl, ClsV.ty _, TyX.base (.tup m1), kit_ty (by decide +kernel), ?_⟩
          refine ⟨_, rfl, _, _, _, _, true, rfl, ClsV.ty _, TyX.base (.tup m2), kit_ty (by decide +kernel), rfl, false, by rw [decide_eq_true rfl]; rfl, iteF ?_⟩
          refine ⟨_, rfl, by show 2 ≤ sizeLine; decide, fun tp htp => ?_⟩
          have O1 := O.new (o := .tup [.ty "tuple", .ty "list"]) htp
          refine ⟨_, tp, _, _, [.type "tuple", .type "list"], true, rfl, O1.a0, ?_, TyX.base (.tup (O1.tail.mem h1)), ?_, _, rfl, iteF ?_⟩
          · exact .cons (ClsV.ty _) (.cons (ClsV.ty _) .nil)
          · exact kit_anytup
          replace O1 := O1.tail
          generalize upd H tp _ = H1 at O1 ⊢
          refine ⟨_, rfl, a1, _, rfl, .inr (SqT.of (O1.mem h1)), _, rfl, a2, _, rfl, .inr (SqT.of (O1.mem h2)), rfl, false, by rw [e1, e2, decide_eq_true rfl]; rfl, iteF ?_⟩
          refine ⟨_, rfl, a2, _, rfl, .inr (SqT.of (O1.mem h2)), (xs2.length : Int), rfl, by omega, by omega, fun D hD => ?_⟩
          refine lc_range (lo := 0) (n := xs2.length) (fun i H' => Own H' ((D, .lst []) :: L)) (O1.new hD) ?_ ?_
          · rintro i H2 hi O2
            have ei : (0 : Int) + (i : Int) = ((i : Nat) : Int) := by omega
            rw [ei]
            obtain ⟨d, hdi⟩ : ∃ d, ds[i]? = some d := ⟨_, List.getElem?_eq_getElem (by omega)⟩
            obtain ⟨v1, hv1, p1⟩ := r1.get' hdi
            obtain ⟨v2, hv2, p2⟩ := r2.get' hdi
            have hs : ∀ c ∈ L, c ∈ (D, HO.lst []) :: L := fun c hc => List.mem_cons_of_mem _ hc
            exact ⟨rfl, _, rfl, _, rfl, .inr ⟨a1, _, _, v1, rfl, rfl, SqT.of (O2.mem (hs _ h1)), atI_nat hv1, _, rfl, _, rfl, .inr ⟨a2, _, _, v2, rfl, rfl, SqT.of (O2.mem (hs _ h2)), atI_nat hv2, v1, v2, d, _, rfl, p1.mono hs, p2.mono hs, hd2 d (List.mem_of_getElem? hdi), O2, fun H3 O3 => ⟨_, rfl, iteF O3⟩⟩⟩⟩
          · intro H2 O2
            refine ⟨by show 0 ≤ sizeLine; decide, fun e he => ?_⟩
            have O3 := O2.new (o := .lst []) he
            refine ⟨.list [], .list [], .lst (SqL.of O3.a1) .nil, .lst (SqL.of O3.a0) .nil, sh0, sh0, ?_⟩
            have ee : PyData.eqv (.list []) (.list []) = true := by decide +kernel
            rw [ee]
            exact k _ O3.tail.tail
end
-- WwBl
def spBlocks (K : PySem.W.Frag) : Sp := fun vs H Q _ => ∃ (rw : Addr) (S : List Cell) (c : Cell) (most : Nat) (R : List Cell), vs = [.ref rw, .int most] ∧ most ≤ 200 ∧ RowC K rw S c ∧ Own H (c :: (S ++ R)) ∧
  ∀ (bs : List Nat) (p : Addr) (c' : Cell) (H' : Hp), (∀ b ∈ bs, b < 16) → bs.length ≤ most → RowC K rw S c' → Own H' (c' :: (S ++ ((p, .lst (blV bs)) :: R))) → Q (.ref p) H'
theorem pickF {v : Int} (h0 : 0 ≤ v) (h3 : v < 3) : ∃ k : Nat, atI [V.int 3, .int 6, .int 16] v = some (.int (k : Int)) ∧ 1 ≤ k ∧ k ≤ 16 := by
  obtain ⟨y, ey, e | e | e⟩ := pick3 (a := V.int 3) (b := .int 6) (c := .int 16) h0 h3
  · exact ⟨3, by rw [ey, e]; rfl, by decide, by decide⟩
  · exact ⟨6, by rw [ey, e]; rfl, by decide, by decide⟩
  · exact ⟨16, by rw [ey, e]; rfl, by decide, by decide⟩
section
variable {P : Program} {w : World} {K : PySem.W.Frag} {mg : Str → Option Value} {base : Heap} {n lv : Nat}
theorem ok_blocks (T : Txt K mg) : FnOk P w K mg base CX0 2 (He.fAd K ("_law_blocks", none)) T.fd__law_blocks ["_law_row", "_law_most"] (spBlocks K) := by
  have G__law_taken := ok_taken (P := P) (w := w) (base := base) T
  refine okOf T.F__law_blocks sc__law_blocks (fun vs H Q E h => ?_) (fun cdv A outer s H vs Q E hr h => ?_)
  · obtain ⟨_, _, _, _, _, rfl, _⟩ := h
    rfl
  · obtain ⟨rw, S, c, most, R, rfl, hmost, hc, O, k⟩ := h
    refine ⟨_, (pss_cons (ps_set (i := 2) sc__law_blocks.nd rfl (Or.inr rfl) (pe_ix ix_list (pe_lst (pa_cons pe_int (pa_cons pe_int (pa_cons pe_int pa_nil)))) (pe_call G__law_taken (hr.mono (by omega)) rfl T.g__law_taken T.k__law_taken T.b__law_taken .nil pass0 (pa_cons (pv 0) (pa_cons pe_int pa_nil))) (fun _ _ => rfl))) (pss_one (ps_ret (pe_lc (te := (tCall (spTaken K) [] E0 (tCons (tVar 0) (tCons (tVar 2) tNil)))) (own := [("_law_k", 3)]) (by rfl) sc__law_blocks.nd (pi_range1 (by rfl) T.n_range (pa_cons (pe_call G__law_taken (hr.mono (by omega)) rfl T.g__law_taken T.k__law_taken T.b__law_taken .nil pass0 (pa_cons (pv 0) (pa_cons (pe_op op_add (pv 1) pe_int) pa_nil))) pa_nil)) (blkOk_by (own := [("_law_k", 3)]) (by kernel_rfl)) (fun _ _ _ _ _ => (pg_name (i := 3) sc__law_blocks.nd rfl (Or.inl rfl))) (fun _ _ _ _ _ => pts_nil) (fun _ _ _ _ _ => (pe_call G__law_taken (hr.mono (by omega)) rfl T.g__law_taken T.k__law_taken T.b__law_taken .nil pass0 (pa_cons (pv 0) (pa_cons (pv 2) pa_nil)))))))), ?_⟩
    refine ⟨by show 3 ≤ sizeLine; decide, fun p0 hp0 => ?_⟩
    have O1 := O.new (o := .lst [.int 3, .int 6, .int 16]) hp0
    refine ⟨_, rfl, rw, S, c, 3, (p0, .lst [.int 3, .int 6, .int 16]) :: R, rfl, hc, by decide, O1.perm (by walk_at "perm"), fun v c1 H1 h0 h3 hc1 O2 => ?_⟩
    obtain ⟨few, hf1, hf2, hf3⟩ := pickF h0 h3
    refine ⟨p0, _, _, _, rfl, rfl, SqL.of (O2.mem (by simp)), hf1, ?_⟩
    have O3 := Own.right (L' := [(p0, .lst [.int 3, .int 6, .int 16])]) (O2.perm (L' := [(p0, .lst [.int 3, .int 6, .int 16])] ++ (c1 :: (S ++ R))) (by walk_at "perm"))
    refine ⟨_, rfl, _, rfl, _, _, rfl, rfl, rw, S, c1, (most : Int) + 1, R, rfl, hc1, by omega, O3, fun vn c2 H2 hn0 hn1 hc2 O4 => ?_⟩
    refine ⟨vn, rfl, by omega, by omega, fun D hD => ?_⟩
    refine lc_range (lo := 0) (n := vn.toNat) (fun i H' => ∃ (bs : List Nat) (c' : Cell), bs.length = i ∧ (∀ b ∈ bs, b < 16) ∧ RowC K rw S c' ∧ Own H' ((D, .lst (blV bs)) :: c' :: (S ++ R)))
      ⟨[], c2, rfl, (fun b hb => nomatch hb), hc2, O4.new hD⟩ ?_ ?_
    · rintro i H3 hi ⟨bs, c3, hbl, hb, hc3, O5⟩
      refine ⟨rfl, tYes_go (iteT ⟨_, rfl, _, rfl, rw, S, c3, (few : Int), (D, .lst (blV bs)) :: R, rfl, hc3, by omega, O5.perm (by walk_at "perm"), fun vb c4 H4 hb0 hb1 hc4 O6 => ?_⟩)⟩
      have O7 := O6.perm (L' := (D, .lst (blV bs)) :: c4 :: (S ++ R)) (by walk_at "perm")
      obtain ⟨b, rfl⟩ : ∃ b : Nat, vb = (b : Int) := ⟨vb.toNat, by omega⟩
      refine ⟨_, O7.a0, by rw [blV_len]; exact size1 (by omega), bs ++ [b], c4, by simp [hbl], fun x hx => ?_, hc4, ?_⟩
      · rcases List.mem_append.mp hx with h | h
        · exact hb x h
        · rw [List.mem_singleton.mp h]
          omega
      · unfold blV
        rw [List.map_append]
        exact O7.set
    · rintro H3 ⟨bs, c3, hbl, hb, hc3, O5⟩
      exact k bs D c3 H3 hb (by omega) hc3 (O5.perm (by walk_at "perm"))
end
-- WwL10
/-! ### the law -/
abbrev lawLv : Nat := 18
def lamQ : Str := (envOfC "law" (defScope s_law) 0 0 .none).qual ++ "<lambda>"
abbrev lamP (K : PySem.W.Frag) : Addr := (He.cT K ("law", none)).2
abbrev lamTs (K : PySem.W.Frag) : List (Addr × Str) := [(lamP K, lamQ)]
def spLaw (K : PySem.W.Frag) : Sp := fun vs H Q _ => ∃ (sc : Addr) (ns : List Int) (S TL : List Cell), vs = [.ref sc] ∧ Scr K sc ns S ∧ NT S ∧ TabC TL (lamP K) lamQ ∧ Own H (S ++ TL) ∧ ∀ H', Q (.bl true) H'
theorem RowC.nt {K : PySem.W.Frag} {rw : Addr} {S : List Cell} {c : Cell} (h : RowC K rw S c) : isTb c.2 = false := by
  obtain ⟨_, _, _, _, _, _, _, rfl⟩ := h
  rfl
def dvD : Option Nat → PyData
  | none => .none
  | some k => .int ((k : Nat) : Int)
theorem dvs_dp {L : List Cell} : ∀ ds : List (Option Nat), DpsL L (ds.map dV) (ds.map dvD)
  | [] => .nil
  | none :: ds => .cons .non (dvs_dp ds)
  | some k :: ds => .cons (.int _) (dvs_dp ds)
theorem alD_dv {ds : List (Option Nat)} {ns : List Int} (h : ds.length ≤ 200) (hn : ns.length ≤ 200) : AlD 3 (.list [.list (ds.map dvD), .list (ns.map .int)]) := ⟨by show 2 ≤ 100000; decide, fun d hd => by
  simp only [List.mem_cons, List.not_mem_nil, or_false] at hd
  rcases hd with e | e <;> rw [e]
  · exact ⟨by rw [List.length_map]; omega, fun d hd => by
      obtain ⟨u, _, rfl⟩ := List.mem_map.mp hd
      cases u <;> trivial⟩
  · exact ⟨by rw [List.length_map]; omega, fun d hd => by
      obtain ⟨u, _, rfl⟩ := List.mem_map.mp hd
      trivial⟩⟩
theorem flatRep (n : Nat) (v : V) : (List.replicate n [v]).flatten = List.replicate n v := by
  induction n with
  | zero => rfl
  | succ n ih => rw [List.replicate_succ, List.flatten_cons, ih, List.replicate_succ]; rfl
section
variable {P : Program} {w : World} {K : PySem.W.Frag} {mg : Str → Option Value} {base : Heap} {n lv : Nat}
theorem ok_law (T : Txt K mg) (TB : LamX.TabB base mg (He.cT K ("law", none)).1 (lamP K)) : FnOk P w K mg base CX0 18 (He.fAd K ("law", none)) T.fd_law ["_law_script"] (spLaw K) := by
  have G__law_taken := ok_taken (P := P) (w := w) (base := base) T
  have G__law_blocks := ok_blocks (P := P) (w := w) (base := base) T
  have G__law_alike := ok_alike (P := P) (w := w) (base := base) T 3
  have G_judged := ok_judged (P := P) (w := w) (base := base) T
  have G_fewest := ok_fewestX (P := P) (w := w) (base := base) T
  have G_depths := ok_depthsX (P := P) (w := w) (base := base) T
  have G_late_brings := ok_late_bringsX (P := P) (w := w) (base := base) T
  obtain ⟨oc, od, dW, kV, doc, pm, an, cdg, ct, osl, efd, lkW, hcW, _, _⟩ := T.F__law_word.ex
  have bW := T.b__law_word
  rw [efd] at lkW bW
  refine okTab T.F_law sc_law (fun vs H Q E h => ?_) (fun A outer s H vs Q E hr h => ?_)
  · obtain ⟨_, _, _, _, rfl, _⟩ := h
    rfl
  · obtain ⟨sc, ns, S, TL, rfl, hsc, hS, hT, O, kq⟩ := h
    refine ⟨_, (pss_cons (ps_set (i := 1) sc_law.nd rfl (Or.inl rfl) (pe_lst (pa_cons (pv 0) (pa_cons pe_int (pa_cons pe_int pa_nil))))) (pss_cons (ps_for PassesOwn.never rfl (pi_range1 (by rfl) T.n_range (pa_cons pe_int pa_nil)) (pg_name (i := 2) sc_law.nd rfl (Or.inl rfl)) (pss_cons (ps_set (i := 3) sc_law.nd rfl (Or.inr rfl) (pe_call G__law_blocks (hr.mono (by omega)) rfl T.g__law_blocks T.k__law_blocks T.b__law_blocks .nil pass0 (pa_cons (pv 1) (pa_cons (pe_ix ix_list (pe_lst (pa_cons pe_int (pa_cons pe_int (pa_cons pe_int pa_nil)))) (pe_call G__law_taken (hr.mono (by omega)) rfl T.g__law_taken T.k__law_taken T.b__law_taken .nil pass0 (pa_cons (pv 1) (pa_cons pe_int pa_nil))) (fun _ _ => rfl)) pa_nil)))) (pss_cons (ps_set (i := 4) sc_law.nd rfl (Or.inr rfl) (pe_lst pa_nil)) (pss_cons (ps_for PassesOwn.never rfl (pi_range1 (by rfl) T.n_range (pa_cons (pe_callB call_len_seq (by rfl) T.n_len PySem.boot_len (pa_cons (pv 3) pa_nil)) pa_nil)) (pg_name (i := 5) sc_law.nd rfl (Or.inr rfl)) (pss_cons (ps_setLc (i := 6) (tt := (tTest (tOp rEq (tOp (rIxL K) (tVar 3) (tVar 18)) (tOp (rIxL K) (tVar 3) (tVar 5))))) (own := [("_law_j", 18)]) (by rfl) sc_law.nd rfl rfl (sw_true rfl rfl rfl (by decide +kernel)) (pi_range1 (by rfl) T.n_range (pa_cons (pv 5) pa_nil)) (blkOk_by (own := [("_law_j", 18)]) (by kernel_rfl)) (fun _ _ _ _ _ => (pg_name (i := 18) sc_law.nd rfl (Or.inl rfl))) (fun _ _ _ _ _ => (pts_one (pt_cmpR op_eq (pe_ix ix_list (pv 3) (pv 18) (fun _ _ => rfl)) (pe_ix ix_list (pv 3) (pv 5) (fun _ _ => rfl)) (nomark _)))) (fun _ _ _ _ _ => (pv 18))) (pss_one (ps_expr (pe_bm PySem.F.plainAttrs_list PySem.F.slot_list_append PySem.F.type_list_append mt_append (pv 4) (pa_cons (pe_ifExp (pt_cmpR (op_neD hr.units) (pv 6) (pe_lst pa_nil) (nomark _)) (pe_lenSet (by rfl) T.n_len (by rfl) T.n_set (pe_slice sl_list (pv 3) (po_some (pe_op op_add (pe_ix ix_list (pv 6) (pe_un un_neg pe_int) (fun _ _ => rfl)) pe_int)) (po_some (pv 5)))) pe_non) pa_nil)))))) (pss_cons (ps_setLc (i := 7) (te := (tCB (rLenQ K) (tCons (tLc (iList K (tVar 4)) (gName 19) (tOr (tTest (tOp rIsNo (tVar 19) (tC .non))) (tTest (tOp rGeI (tVar 19) (tVar 17)))) (tVar 19) [19]) tNil))) (own := [("_law_ways", 17)]) (by rfl) sc_law.nd rfl rfl (sw_true rfl rfl rfl (by decide +kernel)) (pi_range2 (by rfl) T.n_range (pa_cons pe_int (pa_cons pe_int pa_nil))) (blkOk_by (own := [("_law_ways", 17)]) (by kernel_rfl)) (fun _ _ _ _ _ => (pg_name (i := 17) sc_law.nd rfl (Or.inr rfl))) (fun _ _ _ _ _ => pts_nil) (fun _ _ _ _ _ => (pe_callB call_len_seq (by rfl) T.n_len PySem.boot_len (pa_cons (pe_lc (tt := (tOr (tTest (tOp rIsNo (tVar 19) (tC .non))) (tTest (tOp rGeI (tVar 19) (tVar 17))))) (own := [("_law_one", 19)]) (by rfl) sc_law.nd (pi_list (pv 4)) (blkOk_by (own := [("_law_one", 19)]) (by kernel_rfl)) (fun _ _ _ _ _ => (pg_name (i := 19) sc_law.nd rfl (Or.inl rfl))) (fun _ _ _ _ _ => (pts_one (PW.pt (pw_or (pt_cmpR op_isN (pv 19) pe_non (nomark _)) (pw_or1 (pt_cmpR op_ge (pv 19) (pv 17) (nomark _))))))) (fun _ _ _ _ _ => (pv 19))) pa_nil)))) (pss_cons (ps_set (i := 8) sc_law.nd rfl (Or.inl rfl) (pe_callTy call_list_of (by rfl) T.n_list (by decide +kernel) (pa_cons (pv 3) pa_nil))) (pss_cons (ps_for PassesOwn.never rfl (pi_range1 (by rfl) T.n_range (pa_cons pe_int pa_nil)) (pg_name (i := 9) sc_law.nd rfl (Or.inl rfl)) (pss_cons (ps_par (by rfl) sc_law.nd (i := 10) (j := 11) rfl rfl (by decide) rfl rfl (pa_cons (pe_call G_depths (hr.mono (by omega)) rfl T.g_depths T.k_depths T.b_depths .nil (passes_call LamX.takes0 fun _ _ _ _ z => z) (pa_cons (pv 8) pa_nil)) (pa_cons (pe_call G_late_brings (hr.mono (by omega)) rfl T.g_late_brings T.k_late_brings T.b_late_brings .nil (passes_call LamX.takes0 fun _ _ _ _ z => z) (pa_cons (pv 8) pa_nil)) pa_nil)) (by rfl)) (pss_cons (ps_if (PW.pt (pw_or (pt_not (pt_val (pe_call G__law_alike (hr.mono (by omega)) rfl T.g__law_alike T.k__law_alike T.b__law_alike .nil pass0 (pa_cons (pe_lst (pa_cons (pv 10) (pa_cons (pv 11) pa_nil))) (pa_cons (pe_lst (pa_cons (pv 4) (pa_cons (pv 7) pa_nil))) pa_nil))))) (pw_or1 (pt_cmpR (op_neD hr.units) (pv 8) (pv 3) (nomark _))))) (pss_one (ps_ret pe_bl)) pss_nil) (pss_cons (ps_expr (pe_bm PySem.F.plainAttrs_list PySem.F.slot_list_append PySem.F.type_list_append mt_append (pv 10) (pa_cons pe_int pa_nil))) (pss_one (ps_expr (pe_bm0 PySem.F.plainAttrs_list PySem.F.slot_list_clear PySem.F.type_list_clear mt_clear (pv 11)))))))) (pss_cons (ps_set (i := 12) sc_law.nd rfl (Or.inl rfl) (pe_ix ix_list (pe_lst (pa_cons pe_int (pa_cons (pe_op op_add pe_int (pe_call G__law_taken (hr.mono (by omega)) rfl T.g__law_taken T.k__law_taken T.b__law_taken .nil pass0 (pa_cons (pv 1) (pa_cons (pe_op op_pow pe_int pe_int) pa_nil)))) (pa_cons (pe_op op_sub pe_int pe_int) pa_nil)))) (pe_call G__law_taken (hr.mono (by omega)) rfl T.g__law_taken T.k__law_taken T.b__law_taken .nil pass0 (pa_cons (pv 1) (pa_cons pe_int pa_nil))) (fun _ _ => rfl))) (pss_cons (ps_set (i := 13) sc_law.nd rfl (Or.inr rfl) (pe_call G__law_taken (hr.mono (by omega)) rfl T.g__law_taken T.k__law_taken T.b__law_taken .nil pass0 (pa_cons (pv 1) (pa_cons (pe_op op_add (pe_callB call_len_seq (by rfl) T.n_len PySem.boot_len (pa_cons (pv 3) pa_nil)) pe_int) pa_nil)))) (pss_cons (ps_set (i := 14) sc_law.nd rfl (Or.inr rfl) (pe_op op_cat (pe_op op_cat (pe_op op_cat (pe_slice sl_list (pv 3) po_none (po_some (pv 13))) (pe_lst (pa_cons (pv 12) pa_nil))) (pe_slice sl_list (pv 3) (po_some (pv 13)) po_none)) (pe_lst (pa_cons (pe_op op_sub pe_int pe_int) pa_nil)))) (pss_cons (ps_set (i := 15) sc_law.nd rfl (Or.inl rfl) (pe_lst (pa_cons (pe_lamV (T := lamTs K) (B := ⟨_, _, _, none, []⟩) TB rfl List.mem_cons_self (fun p hp _ => by rw [List.mem_singleton.mp hp]; rfl) (dfl0 rfl) (fun ok => LmS.has (lmS_by (by rfl)) ok)) (pa_cons (pe_lamV (T := lamTs K) (B := ⟨_, _, _, (some 0), ["_law_a"]⟩) TB rfl List.mem_cons_self (fun p hp _ => by rw [List.mem_singleton.mp hp]; rfl) (dfl1 rfl pe_int) (fun ok => LmS.has (lmS_by (by rfl)) ok)) (pa_cons (pe_lamV (T := lamTs K) (B := ⟨_, _, _, (some 0), ["_law_b"]⟩) TB rfl List.mem_cons_self (fun p hp _ => by rw [List.mem_singleton.mp hp]; rfl) (dfl1 rfl pe_int) (fun ok => LmS.has (lmS_by (by rfl)) ok)) pa_nil))))) (pss_cons (ps_expr (pe_bm PySem.F.plainAttrs_list PySem.F.slot_list_append PySem.F.type_list_append mt_append (pv 15) (pa_cons (pe_lamV (T := lamTs K) (B := ⟨_, _, _, (some 0), ["_law_c"]⟩) TB rfl List.mem_cons_self (fun p hp _ => by rw [List.mem_singleton.mp hp]; rfl) (dfl1 rfl pe_int) (fun ok => LmS.has (lmS_by (by rfl)) ok)) pa_nil))) (pss_one (ps_if (PW.pt (pw_and (pt_cmpR op_lt (pv 13) pe_int (nomark _)) (pw_and1 (pt_cmpR (op_neD hr.units) (pe_lcF (tt := fun σo => tTest (tOp (rNeD K) (tCallLam _ 5 (fun _ => σo) (TTword K) (tVar 20)) (tTup (tCons (tC (.str "deed")) (tCons (tVar 13) tNil))))) (own := [("_law_work", 20)]) (by rfl) sc_law.nd (pi_list (pv 15)) (blkOk_by (own := [("_law_work", 20)]) (by kernel_rfl)) (fun _ _ _ _ _ => (pg_name (i := 20) sc_law.nd rfl (Or.inl rfl))) (fun _ _ _ _ _ _ _ I hf => (pts_one (pt_cmpR (op_neD hr.units) (pe_callLamB I hf (k := 5) (by rfl) T.g__law_word T.k__law_word lkW hcW bW sc__law_word rfl (.inl rfl) (word_gives T) (hr.mono (by omega)) (pv 20)) (pe_tup (pa_cons pe_str (pa_cons (pv 13) pa_nil))) (nomark _))))) (pe_lst pa_nil) (nomark _))))) (pss_one (ps_ret pe_bl)) pss_nil)))))))))))))) (pss_cons (ps_set (i := 16) sc_law.nd rfl (Or.inr rfl) (pe_op op_rep (pe_lst (pa_cons pe_int pa_nil)) (pe_op op_add pe_int (pe_call G__law_taken (hr.mono (by omega)) rfl T.g__law_taken T.k__law_taken T.b__law_taken .nil pass0 (pa_cons (pv 1) (pa_cons pe_int pa_nil)))))) (pss_one (ps_ret (pe_cmpR (op_eqD hr.units) (pe_lst (pa_cons (pe_callLam (k := 5) (by rfl) T.g__law_word T.k__law_word lkW hcW bW sc__law_word rfl (.inl rfl) (word_gives T) (hr.mono (by omega)) (pe_lamV (T := lamTs K) (B := ⟨_, _, _, none, []⟩) TB rfl List.mem_cons_self (fun p hp _ => by rw [List.mem_singleton.mp hp]; rfl) (dfl0 rfl) (fun ok => LmS.has (lmS_by (by rfl)) ok))) (pa_cons (pe_callB call_len_seq (by rfl) T.n_len PySem.boot_len (pa_cons (pe_call G_depths (hr.mono (by omega)) rfl T.g_depths T.k_depths T.b_depths .nil (passes_call LamX.takes0 fun _ _ _ _ z => z) (pa_cons (pe_slice sl_list (pv 16) po_none (po_some pe_int)) pa_nil)) pa_nil)) pa_nil))) (pe_lst (pa_cons (pe_tup (pa_cons pe_str (pa_cons pe_int pa_nil))) (pa_cons pe_int pa_nil))) (nomark _))))))), ?_⟩
    refine ⟨_, rfl, by show 3 ≤ sizeLine; decide, fun rw hrw => ?_⟩
    have O0 := O.new (o := .lst [.ref sc, .int 0, .int 0]) hrw
    generalize upd H rw _ = H0 at O0 ⊢
    refine ⟨4, rfl, by decide, by decide, ?_⟩
    refine for_range (lo := 0) (n := 4) (fun i σ H' => (∃ v2 v3 v4 v5 v6 v7 v8 v9 v10 v11 v12 v13 v14 v15 v16 v17 v18 v19 v20, σ = [some (.ref sc), some (.ref rw), v2, v3, v4, v5, v6, v7, v8, v9, v10, v11, v12, v13, v14, v15, v16, v17, v18, v19, v20]) ∧ ∃ c' TL, RowC K rw S c' ∧ TabC TL (lamP K) lamQ ∧ Own H' (c' :: (S ++ TL)))
      ⟨⟨none, none, none, none, none, none, none, none, none, none, none, none, none, none, none, none, none, none, none, rfl⟩, _, TL, ⟨sc, ns, 0, 0, hsc, by decide, by decide, rfl⟩, hT, O0⟩ ?_ ?_
    · rintro ti σ H1 hti ⟨⟨v2, v3, v4, v5, v6, v7, v8, v9, v10, v11, v12, v13, v14, v15, v16, v17, v18, v19, v20, rfl⟩, c1, TL, hc1, hT, O1⟩
      -- blocks
      refine ⟨_, rfl, by show 3 ≤ sizeLine; decide, fun p0 hp0 => ?_⟩
      have O2 := O1.new (o := .lst [.int 12, .int 60, .int 200]) hp0
      refine ⟨_, rfl, rw, S, c1, 3, (p0, .lst [.int 12, .int 60, .int 200]) :: TL, rfl, hc1, by decide, O2.perm (by walk_at "perm"), fun v c2 H2 h0 h3 hc2 O3 => ?_⟩
      obtain ⟨most, hm1, hm2⟩ : ∃ k : Nat, atI [V.int 12, .int 60, .int 200] v = some (.int (k : Int)) ∧ k ≤ 200 := by
        obtain ⟨y, ey, e | e | e⟩ := pick3 (a := V.int 12) (b := .int 60) (c := .int 200) h0 h3
        · exact ⟨12, by rw [ey, e]; rfl, by decide⟩
        · exact ⟨60, by rw [ey, e]; rfl, by decide⟩
        · exact ⟨200, by rw [ey, e]; rfl, by decide⟩
      refine ⟨p0, _, _, _, rfl, rfl, SqL.of (O3.mem (by simp)), hm1, ?_⟩
      refine ⟨rw, S, c2, most, (p0, .lst [.int 12, .int 60, .int 200]) :: TL, rfl, hm2, hc2, O3, fun bs pb c3 H3 hb hbl0 hc3 O4 => ?_⟩
      have O5 : Own H3 ((pb, .lst (blV bs)) :: c3 :: (S ++ TL)) := Own.right (L' := [(p0, HO.lst [.int 12, .int 60, .int 200])]) (O4.perm (by walk_at "perm"))
      clear O4 O3 O2 O1
      have hbl : bs.length ≤ 200 := by omega
      have shc : ∀ l : List Int, SeqAt.shaped (.list (l.map .int)) = true := fun l => PySem.W.shaped_ints l
      -- due
      refine ⟨by show 0 ≤ sizeLine; decide, fun pd hpd => ?_⟩
      have O6 := O5.new (o := .lst ((dptsOf (bs.take 0)).map dV)) hpd
      refine ⟨_, rfl, pb, _, rfl, .inl (SqL.of (O6.mem (show (pb, HO.lst (blV bs)) ∈ _ by simp))), _, rfl, ?_, ?_, ?_⟩
      · rw [blV_len]
        omega
      · rw [blV_len]
        omega
      rw [blV_len, Int.toNat_natCast]
      refine for_range (lo := 0) (n := bs.length) (fun i σ H' => (∃ v5 v6 v18, σ = [some (.ref sc), some (.ref rw), some (.int (0 + (ti : Int))), some (.ref pb), some (.ref pd), v5, v6, v7, v8, v9, v10, v11, v12, v13, v14, v15, v16, v17, v18, v19, v20]) ∧ Own H' ((pd, .lst ((dptsOf (bs.take i)).map dV)) :: (pb, .lst (blV bs)) :: c3 :: (S ++ TL)))
        ⟨⟨_, _, _, rfl⟩, O6⟩ ?_ ?_
      · rintro k σ H4 hk ⟨⟨v5, v6, v18, rfl⟩, U1⟩
        obtain ⟨b, hbk⟩ : ∃ b, bs[k]? = some b := ⟨_, List.getElem?_eq_getElem hk⟩
        have mpb : ∀ {L : List Cell}, (pb, HO.lst (blV bs)) ∈ L ++ (pd, .lst ((dptsOf (bs.take k)).map dV)) :: (pb, .lst (blV bs)) :: c3 :: (S ++ TL) := by simp
        have bV : ∀ {j x : Nat}, bs[j]? = some x → atI (blV bs) ((0 : Int) + (j : Int)) = some (.int (x : Nat)) := fun {j x} h => by
          rw [Int.zero_add]
          refine atI_nat ?_
          unfold blV
          rw [List.getElem?_map, h]
          rfl
        -- some
        refine ⟨_, rfl, _, rfl, by omega, by omega, fun D hD => ?_⟩
        rw [show ((0 : Int) + (k : Int)).toNat = k by omega]
        refine lc_range (lo := 0) (n := k) (fun j H' => Own H' ((D, .lst (blV (plc bs b j))) :: (pd, .lst ((dptsOf (bs.take k)).map dV)) :: (pb, .lst (blV bs)) :: c3 :: (S ++ TL))) (U1.new hD) ?_ ?_
        · rintro j H5 hj U2
          obtain ⟨x, hx⟩ : ∃ x, bs[j]? = some x := ⟨_, List.getElem?_eq_getElem (by omega)⟩
          refine ⟨rfl, _, rfl, _, rfl, pb, _, _, .int (x : Nat), rfl, rfl, SqL.of (U2.mem (by simp)), bV hx, _, rfl, _, rfl, pb, _, _, .int (b : Nat), rfl, rfl, SqL.of (U2.mem (by simp)), bV hbk, rfl, decide (x = b), ?_, ?_⟩
          · show V.bl (decide (V.int (x : Int) = V.int (b : Int))) = _
            refine congrArg V.bl (decide_eq_decide.mpr ⟨fun z => Int.ofNat.inj (V.int.inj z), fun z => by rw [z]⟩)
          · by_cases hxb : x = b
            · rw [decide_eq_true hxb]
              refine iteT ⟨_, rfl, _, U2.a0, ?_, ?_⟩
              · rw [blV_len]
                exact size1 (by have := plc_len bs b j; omega)
              · rw [plc_in (by rw [hx, hxb])]
                unfold blV
                rw [List.map_append, show (0 : Int) + (j : Int) = (j : Int) by omega]
                exact U2.set
            · rw [decide_eq_false hxb, plc_out (by rw [hx]; exact fun z => hxb (Option.some.inj z))]
              exact iteF U2
        intro H5 U2
        -- the depth
        refine ⟨_, rfl, .inl ⟨rfl, _, SqL.of U2.a1⟩, ?_⟩
        refine ⟨_, rfl, by show 0 ≤ sizeLine; decide, fun pe hpe => ?_⟩
        have U3 := U2.new (o := .lst []) hpe
        have e0 : blV (plc bs b k) = (intsOf (plc bs b k)).map V.int := blV_is _
        have tk : bs.take (k + 1) = bs.take k ++ [b] := take_snoc hbk
        have fin : ∀ {H6 : Hp} {L : List Cell} (d : Option Nat), fxN b (ordOf (bs.take k)) = d → Own H6 (L ++ ((pd, .lst ((dptsOf (bs.take k)).map dV)) :: (pb, .lst (blV bs)) :: c3 :: (S ++ TL))) → Own (upd H6 pd (.lst ((dptsOf (bs.take k)).map dV ++ [dV d]))) ((pd, .lst ((dptsOf (bs.take (k + 1))).map dV)) :: (pb, .lst (blV bs)) :: c3 :: (S ++ TL)) := fun d hd O' => by
          rw [tk, dptsOf_snoc, hd, List.map_append]
          exact O'.right.set
        have dl : ((dptsOf (bs.take k)).map dV).length < sizeLine := by
          rw [List.length_map, dptsOf_len, List.length_take]
          exact size1 (by omega)
        refine ⟨.list ((intsOf (plc bs b k)).map .int), .list [], .lst (SqL.of U3.a1) (by rw [e0]; exact dpInts _), .lst (SqL.of U3.a0) .nil, shc _, shc [], ?_⟩
        rcases List.eq_nil_or_concat (plc bs b k) with hp | ⟨l, j, hp⟩
        · refine ⟨false, by rw [hp]; rfl, iteF ?_⟩
          refine ⟨pd, _, _, rfl, rfl, U3.mem (by simp), dl, ⟨_, _, _, rfl⟩, ?_⟩
          exact fin (L := [_, _]) none (plc_none (by omega) hp) U3
        · rw [List.concat_eq_append] at hp
          refine ⟨true, ?_, iteT ?_⟩
          · rw [hp]
            cases l <;> rfl
          obtain ⟨hjk, hfx⟩ := plc_some (Nat.le_of_lt hk) hp
          have hat : atI (blV (plc bs b k)) (-1) = some (.int ((j : Nat) : Int)) := by
            rw [hp]
            unfold blV
            rw [List.map_append]
            exact atI_last _ _
          refine ⟨_, rfl, _, rfl, _, rfl, D, _, _, .int ((j : Nat) : Int), rfl, rfl, SqL.of (U3.mem (by simp)), hat, _, _, rfl, rfl, _, rfl, _, rfl, _, rfl, pb, _, rfl, SqL.of (U3.mem (show (pb, HO.lst (blV bs)) ∈ _ by simp)), fun q hq => ?_⟩
          have ec : cutV (blV bs) (some ((j : Int) + 1)) (some (0 + (k : Int))) = (intsOf ((bs.take k).drop (j + 1))).map V.int := by
            rw [show (j : Int) + 1 = ((j + 1 : Nat) : Int) by omega, show (0 : Int) + (k : Int) = (k : Int) by omega, cutV_nat (by omega) (by rw [blV_len]; omega), ← blV_is]
            unfold blV
            rw [← List.map_drop, ← List.map_take, List.drop_take]
          rw [ec]
          have U4 := U3.new (o := .lst ((intsOf ((bs.take k).drop (j + 1))).map V.int)) hq
          refine ⟨q, _, rfl, SqL.of U4.a0, ?_, fun us nd hus => ?_⟩
          · rw [ints_len, List.length_drop, List.length_take]
            omega
          refine ⟨pd, _, _, rfl, rfl, U4.mem (by simp), dl, ⟨_, _, _, rfl⟩, ?_⟩
          have := fin (L := [_, _, _]) (some us.length) (by rw [hfx, set_len nd hus]) U4
          exact this
      rintro σ H4 ⟨⟨v5, v6, v18, rfl⟩, U1⟩
      rw [List.take_length] at U1
      -- counts
      refine ⟨1, 17, rfl, by omega, fun D hD => ?_⟩
      refine lc_range (lo := 1) (n := 16) (fun i H' => Own H' ((D, .lst (((cntsOf bs).take i).map V.int)) :: (pd, .lst ((dptsOf bs).map dV)) :: ((pb, .lst (blV bs)) :: c3 :: (S ++ TL)))) (U1.new hD) ?_ ?_
      · rintro i H3 hi O3
        have hci : (cntsOf bs)[i]? = some ((cntW (i + 1) bs : Nat) : Int) := by
          unfold cntsOf
          rw [List.getElem?_map, List.getElem?_range hi]
          rfl
        rw [take_snoc hci, List.map_append]
        refine ⟨rfl, tYes_go (iteT ?_)⟩
        refine ⟨_, rfl, pd, rfl, ⟨_, SqL.of O3.a1⟩, fun D2 hD2 => ?_⟩
        refine lc_list (K := K) (a := pd) (xs := (dptsOf bs).map dV) (fun t H' => Own H' ((D2, .lst ((((dptsOf bs).take t).filter (missB (i + 1))).map dV)) :: (D, .lst (((cntsOf bs).take i).map V.int)) :: (pd, .lst ((dptsOf bs).map dV)) :: ((pb, .lst (blV bs)) :: c3 :: (S ++ TL)))) (O3.new hD2) (fun t H' _ O' => SqL.of O'.a2) ?_ ?_
        · rintro t y H4 ht O4
          rw [List.getElem?_map] at ht
          cases q2 : (dptsOf bs)[t]? with
          | none =>
            rw [q2] at ht
            cases ht
          | some d =>
            rw [q2] at ht
            have e : dV d = y := Option.some.inj ht
            subst e
            have htl : t < (dptsOf bs).length := (List.getElem?_eq_some_iff.mp q2).1
            have hdl := dptsOf_len bs
            rw [take_snoc q2, List.filter_append]
            have yes : missB (i + 1) d = true → Own (upd H4 D2 (.lst ((((dptsOf bs).take t).filter (missB (i + 1))).map dV ++ [dV d]))) ((D2, .lst ((((dptsOf bs).take t).filter (missB (i + 1)) ++ [d].filter (missB (i + 1))).map dV)) :: (D, .lst (((cntsOf bs).take i).map V.int)) :: (pd, .lst ((dptsOf bs).map dV)) :: ((pb, .lst (blV bs)) :: c3 :: (S ++ TL))) := fun hn => by
              rw [List.filter_cons_of_pos hn, List.map_append]
              exact O4.set
            have hlen : ((((dptsOf bs).take t).filter (missB (i + 1))).map dV).length < sizeLine := by
              have h1 := List.length_filter_le (missB (i + 1)) ((dptsOf bs).take t)
              rw [List.length_take] at h1
              rw [List.length_map]
              exact size1 (by omega)
            cases d with
            | none => exact ⟨rfl, _, rfl, rfl, true, congrArg V.bl (decide_eq_true rfl), iteT ⟨_, rfl, _, O4.a0, hlen, yes rfl⟩⟩
            | some k =>
              refine ⟨rfl, _, rfl, rfl, false, congrArg V.bl (decide_eq_false (fun z => by cases z)), iteF ⟨_, rfl, _, rfl, k, 1 + i, rfl, rfl, decide (i + 1 ≤ k), ?_, ?_⟩⟩
              · show V.bl (decide ((1 : Int) + (i : Int) ≤ (k : Int))) = _
                congr 1
                exact decide_eq_decide.mpr ⟨fun _ => by omega, fun _ => by omega⟩
              · by_cases hk : i + 1 ≤ k
                · rw [decide_eq_true hk]
                  exact iteT ⟨_, rfl, _, O4.a0, hlen, yes (decide_eq_true hk)⟩
                · rw [decide_eq_false hk, List.filter_cons_of_neg (show ¬ missB (i + 1) (some k) = true from fun z => hk (of_decide_eq_true z)), List.filter_nil, List.append_nil]
                  exact iteF O4
        intro H4 O4
        rw [List.length_map, List.take_length] at O4
        refine ⟨D2, _, rfl, .inl (SqL.of O4.a0), ?_⟩
        rw [List.length_map, ← List.countP_eq_length_filter]
        refine ⟨_, O4.a1, by rw [List.length_map, List.length_take]; exact size1 (by omega), ?_⟩
        have O5 := (O4.tail).set (o' := .lst (((cntsOf bs).take i).map V.int ++ [.int ((cntW (i + 1) bs : Nat) : Int)]))
        exact O5
      intro H5 U2
      rw [show (cntsOf bs).take 16 = cntsOf bs from rfl] at U2
      have hbok : BlksOk (intsOf bs) := fun i hi => by
        obtain ⟨x, hx⟩ : ∃ x, (intsOf bs)[i]? = some x := ⟨_, List.getElem?_eq_getElem hi⟩
        rw [ints_len] at hi
        refine ⟨x, hx, by omega, ?_⟩
        obtain ⟨b, hb1, rfl⟩ := List.mem_map.mp (List.mem_of_getElem? hx)
        have := hb b hb1
        omega
      have eis : isV (intsOf bs) = blV bs := (blV_is bs).symm
      -- handed
      refine ⟨_, rfl, pb, _, rfl, .inl (SqL.of (U2.mem (show (pb, HO.lst (blV bs)) ∈ _ by simp))), fun hd hhd => ?_⟩
      have U3 := U2.new (o := .lst (blV bs)) hhd
      clear U1 U2 O6 O5
      generalize upd H5 hd _ = H6 at U3 ⊢
      obtain ⟨L0, hL0⟩ : ∃ L0 : List Cell, L0 = (hd, .lst (blV bs)) :: (D, .lst ((cntsOf bs).map V.int)) :: (pd, .lst ((dptsOf bs).map dV)) :: (pb, .lst (blV bs)) :: c3 :: (S ++ TL) := ⟨_, rfl⟩
      rw [← hL0] at U3
      have mhd : (hd, HO.lst (blV bs)) ∈ L0 := by rw [hL0]; simp
      have mpb : (pb, HO.lst (blV bs)) ∈ L0 := by rw [hL0]; simp
      have mD : (D, HO.lst ((cntsOf bs).map V.int)) ∈ L0 := by rw [hL0]; simp
      have mpd : (pd, HO.lst ((dptsOf bs).map dV)) ∈ L0 := by rw [hL0]; simp
      -- twice
      refine ⟨2, rfl, by decide, by decide, ?_⟩
      refine for_range (lo := 0) (n := 2) (fun i σ H' => (∃ v9 v10 v11, σ = [some (.ref sc), some (.ref rw), some (.int (0 + (ti : Int))), some (.ref pb), some (.ref pd), v5, v6, some (.ref D), some (.ref hd), v9, v10, v11, v12, v13, v14, v15, v16, v17, v18, v19, v20]) ∧ Own H' L0)
        ⟨⟨_, _, _, rfl⟩, U3⟩ ?_ ?_
      · rintro ai σ H7 hai ⟨⟨v9, v10, v11, rfl⟩, W1⟩
        refine ⟨_, rfl, hd, intsOf bs, _, rfl, by rw [ints_len]; omega, by rw [eis]; exact mhd, W1, fun i hi => absurd (hbok i hi.1) hi.2.1, fun _ bs' p1 H8 ebs W2 => ?_⟩
        obtain rfl := (List.map_inj_right (fun a b h => Int.ofNat.inj h)).mp ebs
        refine ⟨_, rfl, hd, intsOf bs, _, rfl, by rw [ints_len]; omega, by rw [eis]; exact List.mem_cons_of_mem _ mhd, W2, fun i hi => absurd (hbok i hi.1) hi.2.1, fun _ bs' p2 H9 ebs W3 => ?_⟩
        obtain rfl := (List.map_inj_right (fun a b h => Int.ofNat.inj h)).mp ebs
        refine ⟨_, _, rfl, ?_⟩
        refine ⟨_, rfl, _, rfl, by show 2 ≤ sizeLine; decide, fun q1 hq1 => ?_⟩
        have W4 := W3.new (o := .lst [.ref p1, .ref p2]) hq1
        refine ⟨_, rfl, _, rfl, by show 2 ≤ sizeLine; decide, fun q2 hq2 => ?_⟩
        have W5 := W4.new (o := .lst [.ref pd, .ref D]) hq2
        have hcl : (cntsOf bs).length ≤ 200 := by
          unfold cntsOf
          rw [List.length_map, List.length_range]
          decide
        refine ⟨.ref q1, .ref q2, .list [.list ((dptsOf bs).map dvD), .list ((cntsOf bs).map .int)], _, rfl, .lst (by simp) (.cons (.lst (a := p1) (xs := (dptsOf bs).map dV) (by simp) (dvs_dp _)) (.cons (.lst (a := p2) (xs := (cntsOf bs).map V.int) (by simp) (.ints _)) .nil)), .lst (by simp) (.cons (.lst (a := pd) (xs := (dptsOf bs).map dV) (by simp [mpd]) (dvs_dp _)) (.cons (.lst (a := D) (xs := (cntsOf bs).map V.int) (by simp [mD]) (.ints _)) .nil)), alD_dv (by rw [dptsOf_len]; exact hbl) hcl, W5, fun H10 W6 => ⟨true, rfl, iteF ?_⟩⟩
        refine ⟨_, rfl, _, rfl, .list ((intsOf bs).map .int), .list ((intsOf bs).map .int), .lst (SqL.of (W6.mem (show (hd, HO.lst (blV bs)) ∈ _ by simp [mhd]))) (by rw [blV_is]; exact dpInts _), .lst (SqL.of (W6.mem (show (pb, HO.lst (blV bs)) ∈ _ by simp [mpb]))) (by rw [blV_is]; exact dpInts _), shc _, shc _, false, by rw [eqv_self _ (shc _)], iteF ?_⟩
        have W7 := Own.right (L' := [_, _]) W6
        refine ⟨_, rfl, .inl ⟨rfl, _, SqL.of W7.a1⟩, ?_⟩
        refine ⟨p1, _, _, rfl, rfl, W7.a1, by rw [List.length_map, dptsOf_len]; exact size1 (by omega), ?_⟩
        have W8 := W7.setAt (o' := .lst ((dptsOf bs).map dV ++ [.int 0])) (List.Perm.swap _ _ _)
        refine ⟨_, rfl, .inl ⟨rfl, _, SqL.of W8.a1⟩, p2, _, rfl, rfl, W8.a1, ⟨_, _, _, rfl⟩, ?_⟩
        exact Own.right (L' := [_, _]) (W8.setAt (List.Perm.swap _ _ _))
      rintro σ H7 ⟨⟨v9, v10, v11, rfl⟩, W1⟩
      rw [hL0] at W1
      -- odd
      obtain ⟨G0, hG0⟩ : ∃ G0 : List Cell, G0 = [(hd, .lst (blV bs)), (D, .lst ((cntsOf bs).map V.int)), (pd, .lst ((dptsOf bs).map dV)), (pb, .lst (blV bs))] := ⟨_, rfl⟩
      have W2 := W1.perm (L' := c3 :: (S ++ (G0 ++ TL))) (by rw [hG0]; walk_at "perm")
      have mpb1 : (pb, HO.lst (blV bs)) ∈ G0 := by rw [hG0]; simp
      refine ⟨_, rfl, _, _, rfl, rfl, ⟨by decide, by decide, by decide⟩, rw, S, c3, _, G0 ++ TL, rfl, hc3, by decide, W2, fun w1 c4 H8 h10 h11 hc4 W3 => ?_⟩
      refine ⟨_, _, rfl, rfl, _, _, rfl, rfl, by show 3 ≤ sizeLine; decide, fun po hpo => ?_⟩
      have W4 := W3.new (o := .lst [.int 16, .int (16 + w1), .int (0 - 1)]) hpo
      refine ⟨_, rfl, rw, S, c4, 3, (po, .lst [.int 16, .int (16 + w1), .int (0 - 1)]) :: (G0 ++ TL), rfl, hc4, by decide, W4.perm (by walk_at "perm"), fun w2 c5 H9 h20 h21 hc5 W5 => ?_⟩
      obtain ⟨odd, hodd, hno⟩ : ∃ odd : Int, atI [V.int 16, .int (16 + w1), .int (0 - 1)] w2 = some (.int odd) ∧ ¬ (0 ≤ odd ∧ odd ≤ 15) := by
        have hc : w2 = 0 ∨ w2 = 1 ∨ w2 = 2 := by omega
        rcases hc with rfl | rfl | rfl
        · exact ⟨16, rfl, by omega⟩
        · exact ⟨16 + w1, rfl, by omega⟩
        · exact ⟨0 - 1, rfl, by omega⟩
      refine ⟨po, _, _, _, rfl, rfl, SqL.of (W5.mem (by simp)), hodd, ?_⟩
      -- at
      refine ⟨_, rfl, _, rfl, pb, _, rfl, .inl (SqL.of (W5.mem (show (pb, HO.lst (blV bs)) ∈ _ by simp [mpb1]))), _, _, rfl, rfl, ?_⟩
      refine ⟨rw, S, c5, _, _, rfl, hc5, by rw [blV_len]; omega, W5, fun va c6 H10 ha0 ha1 hc6 W6 => ?_⟩
      rw [blV_len] at ha1
      obtain ⟨at', rfl⟩ : ∃ a : Nat, va = (a : Int) := ⟨va.toNat, by omega⟩
      have hat : at' ≤ bs.length := by omega
      -- spoilt
      have mpb2 : ∀ {M : List Cell}, (pb, HO.lst (blV bs)) ∈ M ++ (c6 :: (S ++ ((po, .lst [.int 16, .int (16 + w1), .int (0 - 1)]) :: (G0 ++ TL)))) := fun {M} => by simp [mpb1]
      have ec1 : cutV (blV bs) none (some ((at' : Nat) : Int)) = isV (intsOf (bs.take at')) := by
        rw [blV_is, cutI_eq, cutI_take (by rw [ints_len]; exact hat)]
        exact congrArg (List.map V.int) List.map_take.symm
      have ec2 : cutV (blV bs) (some ((at' : Nat) : Int)) none = isV (intsOf (bs.drop at')) := by
        rw [cutDrop (by rw [blV_len]; exact hat)]
        unfold blV isV intsOf
        rw [List.map_drop, List.map_drop, List.map_map]
        rfl
      refine ⟨_, rfl, _, rfl, _, rfl, pb, _, rfl, SqL.of (W6.mem (mpb2 (M := []))), fun s1 hs1 => ?_⟩
      rw [ec1]
      have X1 := W6.new (o := .lst (isV (intsOf (bs.take at')))) hs1
      have big : ∀ {k : Nat}, k ≤ 5000 → k ≤ sizeLine := fun h => Nat.le_of_lt (size1 (by omega))
      have lt1 : (bs.take at').length ≤ 200 := by rw [List.length_take]; omega
      have lt2 : (bs.drop at').length ≤ 200 := by rw [List.length_drop]; omega
      refine ⟨_, rfl, by show 1 ≤ sizeLine; decide, fun s2 hs2 => ?_⟩
      have X2 := X1.new (o := .lst (isV [odd])) hs2
      refine ⟨s1, s2, _, _, rfl, rfl, X2.a1, X2.a0, big (by rw [List.length_map, ints_len]; show _ + 1 ≤ 5000; omega), fun s3 hs3 => ?_⟩
      rw [show isV (intsOf (bs.take at')) ++ isV [odd] = isV (intsOf (bs.take at') ++ [odd]) by simp [isV]]
      have X3 := X2.new (o := .lst (isV (intsOf (bs.take at') ++ [odd]))) hs3
      refine ⟨_, rfl, _, rfl, _, rfl, noPart ⟨pb, _, rfl, SqL.of (X3.mem (mpb2 (M := [_, _, _]))), fun s4 hs4 => ?_⟩⟩
      rw [ec2]
      have X4 := X3.new (o := .lst (isV (intsOf (bs.drop at')))) hs4
      refine ⟨s3, s4, _, _, rfl, rfl, X4.a1, X4.a0, big (by rw [List.length_map, List.length_map, List.length_append, ints_len, ints_len]; show _ + 1 + _ ≤ 5000; omega), fun s5 hs5 => ?_⟩
      rw [show isV (intsOf (bs.take at') ++ [odd]) ++ isV (intsOf (bs.drop at')) = isV (intsOf (bs.take at') ++ [odd] ++ intsOf (bs.drop at')) by simp [isV]]
      have X5 := X4.new (o := .lst (isV (intsOf (bs.take at') ++ [odd] ++ intsOf (bs.drop at')))) hs5
      refine ⟨_, _, rfl, rfl, by show 1 ≤ sizeLine; decide, fun s6 hs6 => ?_⟩
      have X6 := X5.new (o := .lst (isV [0 - 1])) hs6
      refine ⟨s5, s6, _, _, rfl, rfl, X6.a1, X6.a0, big (by rw [List.length_map, List.length_append, List.length_append, ints_len, ints_len]; show _ + 1 + _ + 1 ≤ 5000; omega), fun ps hps => ?_⟩
      obtain ⟨spl, hspl⟩ : ∃ spl : List Int, spl = intsOf (bs.take at') ++ [odd] ++ intsOf (bs.drop at') ++ [0 - 1] := ⟨_, rfl⟩
      rw [show isV (intsOf (bs.take at') ++ [odd] ++ intsOf (bs.drop at')) ++ isV [0 - 1] = isV spl by rw [hspl]; simp [isV]]
      have X7 := X6.new (o := .lst (isV spl)) hps
      obtain ⟨L1, hL1⟩ : ∃ L1 : List Cell, L1 = c6 :: (S ++ [(ps, .lst (isV spl))]) := ⟨_, rfl⟩
      obtain ⟨G1, hG1⟩ : ∃ G1 : List Cell, G1 = [(s6, HO.lst (isV [0 - 1])), (s5, .lst (isV (intsOf (bs.take at') ++ [odd] ++ intsOf (bs.drop at')))), (s4, .lst (isV (intsOf (bs.drop at')))), (s3, .lst (isV (intsOf (bs.take at') ++ [odd]))), (s2, .lst (isV [odd])), (s1, .lst (isV (intsOf (bs.take at')))), (po, .lst [.int 16, .int (16 + w1), .int (0 - 1)])] ++ G0 := ⟨_, rfl⟩
      have Y0 := Own.right (L' := G1) (X7.perm (L' := G1 ++ (L1 ++ TL)) (by rw [hL1, hG1]; walk_at "perm"))
      have nL1 : NT L1 := by
        rw [hL1]
        exact NT.cons hc6.nt (NT.app hS (NT.cons rfl NT.nil))
      -- works
      refine seqLst_go ?_
      refine lamV_goE (L := L1) Y0 nL1 hT ?_ fun f1 H12 F1 TL1 e1 hT1 hNF1 hLC1 Y1 => ?_
      · rfl
      refine tCons_go ?_
      refine lamV_goE (L := F1 ++ L1) (Y1.perm (by walk_at "perm")) (hNF1.app nL1) hT1 ?_ fun f2 H13 F2 TL2 e2 hT2 hNF2 hLC2 Y2 => ?_
      · rfl
      refine tCons_go ?_
      refine lamV_goE (L := F2 ++ (F1 ++ L1)) (Y2.perm (by walk_at "perm")) (hNF2.app (hNF1.app nL1)) hT2 ?_ fun f3 H14 F3 TL3 e3 hT3 hNF3 hLC3 Y3 => ?_
      · rfl
      refine ⟨by show 3 ≤ sizeLine; decide, fun pw hpw => ?_⟩
      have Y4 := Y3.new (o := .lst [.ref f1, .ref f2, .ref f3]) hpw
      have e4 : LamX.ExtN H14 (upd H14 pw (.lst [.ref f1, .ref f2, .ref f3])) := LamX.ExtN.of fun b o hb => by
        rw [upd_ne (fun z => by rw [z, hpw] at hb; cases hb)]
        exact hb
      refine ⟨_, rfl, .inl ⟨rfl, _, SqL.of Y4.a0⟩, ?_⟩
      refine tCons_go ?_
      refine lamV_goE (L := (pw, .lst [.ref f1, .ref f2, .ref f3]) :: (F3 ++ (F2 ++ (F1 ++ L1)))) (Y4.perm (by walk_at "perm")) (NT.cons rfl (hNF3.app (hNF2.app (hNF1.app nL1)))) hT3 ?_ fun f4 H15 F4 TL4 e5 hT4 hNF4 hLC4 Y5 => ?_
      · rfl
      obtain ⟨N1, Z1, C1⟩ := lam_cells Y5 (((((hLC1.at Y1).ext e2).ext e3).ext e4).ext e5)
      obtain ⟨N2, Z2, C2⟩ := lam_cells Z1 ((((hLC2.at Y2).ext e3).ext e4).ext e5)
      obtain ⟨N3, Z3, C3⟩ := lam_cells Z2 (((hLC3.at Y3).ext e4).ext e5)
      obtain ⟨M, hM⟩ : ∃ M : List Cell, M = N3 ++ (N2 ++ (N1 ++ (F4 ++ (F3 ++ (F2 ++ (F1 ++ TL4)))))) := ⟨_, rfl⟩
      have hTM : TabC M (lamP K) lamQ := hT4.mono fun c hc => by rw [hM]; simp [hc]
      have pmM : (N3 ++ (N2 ++ (N1 ++ (F4 ++ (((pw, .lst [.ref f1, .ref f2, .ref f3]) :: (F3 ++ (F2 ++ (F1 ++ L1)))) ++ TL4))))).Perm ((pw, .lst [.ref f1, .ref f2, .ref f3]) :: (L1 ++ M)) := by
        rw [hM]
        walk_at "perm"
      replace C1 := (C1.mono (L' := (pw, .lst [.ref f1, .ref f2, .ref f3]) :: (L1 ++ M)) fun c hc => pmM.mem_iff.mp (List.mem_append_right _ (List.mem_append_right _ hc))).drop
      replace C2 := (C2.mono (L' := (pw, .lst [.ref f1, .ref f2, .ref f3]) :: (L1 ++ M)) fun c hc => pmM.mem_iff.mp (List.mem_append_right _ hc)).drop
      replace C3 := (C3.mono (L' := (pw, .lst [.ref f1, .ref f2, .ref f3]) :: (L1 ++ M)) fun c hc => pmM.mem_iff.mp hc).drop
      have C4 := (hLC4.mono (L' := (pw, .lst [.ref f1, .ref f2, .ref f3]) :: (L1 ++ M)) fun c hc => pmM.mem_iff.mp (List.mem_append_right _ (List.mem_append_right _ (List.mem_append_right _ hc)))).drop
      have Z4 := Z3.perm pmM
      refine ⟨pw, _, _, rfl, rfl, Z4.a0, by show 3 < sizeLine; decide, ?_⟩
      have Z5 := Z4.set (o' := .lst [.ref f1, .ref f2, .ref f3, .ref f4])
      show ∃ x : V, _
      generalize hH16 : upd H15 pw (.lst ([.ref f1, .ref f2, .ref f3] ++ [.ref f4])) = H16
      replace Z5 : Own H16 ((pw, .lst [.ref f1, .ref f2, .ref f3, .ref f4]) :: (L1 ++ M)) := by rw [← hH16]; exact Z5
      clear hH16
      clear Z1 Z2 Z3 Z4 Y1 Y2 Y3 Y4 Y5 Y0 X1 X2 X3 X4 X5 X6 X7
      have mps : ∀ {F : List Cell}, (ps, HO.lst (isV spl)) ∈ F ++ (L1 ++ M) := fun {F} => by rw [hL1]; simp
      have hsl : spl.length ≤ 1000 := by
        rw [hspl, List.length_append, List.length_append, List.length_append, ints_len, ints_len]
        show _ + 1 + _ + 1 ≤ 1000
        omega
      -- the end of the turn
      have out : ∀ {H' : Hp} {F : List Cell}, Own H' (F ++ (L1 ++ M)) → ∃ c' TL, RowC K rw S c' ∧ TabC TL (lamP K) lamQ ∧ Own H' (c' :: (S ++ TL)) := fun {H' F} O' => by
        refine ⟨c6, (ps, .lst (isV spl)) :: M, hc6, hTM.mono fun c hc => List.mem_cons_of_mem _ hc, ?_⟩
        have := Own.right O'
        rw [hL1] at this
        exact this.perm (by walk_at "perm")
      by_cases h200 : at' < 200
      · refine ⟨_, rfl, _, _, rfl, rfl, true, ?_, iteT ?_⟩
        · exact congrArg V.bl (decide_eq_true (by omega))
        have bad : BlkBad spl at' := by
          have lt : (intsOf (bs.take at')).length = at' := by rw [ints_len, List.length_take]; omega
          have g1 : spl[at']? = some odd := by
            rw [hspl, List.append_assoc, List.append_assoc, List.getElem?_append_right (by omega), lt, Nat.sub_self]
            rfl
          refine ⟨(List.getElem?_eq_some_iff.mp g1).1, fun ⟨x, hx, _, h5⟩ => ?_, fun j hj => ?_⟩
          · rw [g1] at hx
            obtain rfl := Option.some.inj hx
            exact hno h5
          · obtain ⟨b, hb1⟩ : ∃ b, bs[j]? = some b := ⟨_, List.getElem?_eq_getElem (by omega)⟩
            refine ⟨(b : Int), ?_, by omega, ?_⟩
            · rw [hspl, List.append_assoc, List.append_assoc, List.getElem?_append_left (by omega)]
              unfold intsOf
              rw [List.getElem?_map, List.getElem?_take_of_lt hj, hb1]
              rfl
            · have := hb b (List.mem_of_getElem? hb1)
              omega
        have one : ∀ i, BlkBad spl i → i = at' := fun i hi => by
          rcases Nat.lt_trichotomy i at' with z | z | z
          · exact absurd (bad.2.2 i z) hi.2.1
          · exact z
          · exact absurd (hi.2.2 at' z) bad.2.1
        have nok : ¬ BlksOk spl := fun z => bad.2.1 (z at' bad.1)
        refine ⟨_, rfl, pw, rfl, ⟨_, SqL.of Z5.a0⟩, fun D2 hD2 => ?_⟩
        refine lcF_list (tt := fun _ => _) (K := K) (a := pw) (xs := [.ref f1, .ref f2, .ref f3, .ref f4]) (fun _ H' => Own H' ((D2, .lst []) :: (pw, .lst [.ref f1, .ref f2, .ref f3, .ref f4]) :: (L1 ++ M))) (Z5.new hD2) (fun i H' _ O' => SqL.of O'.a1) ?_ ?_
        · rintro i x H17 hi V1
          have VA := Own.right (L' := [_, _]) V1
          have hi4 : i = 0 ∨ i = 1 ∨ i = 2 ∨ i = 3 := by
            have : i < 4 := (List.getElem?_eq_some_iff.mp hi).1
            omega
          have hsh : SeqAt.shaped (.tuple [.str "deed", .int ((at' : Nat) : Int)]) = true := shapedWI (by decide +kernel)
          rcases hi4 with e | e | e | e <;> subst e <;> obtain rfl := Option.some.inj hi
          · refine ⟨rfl, _, rfl, lam_here C1 VA ⟨lmS_by (by rfl), (lbd0 fun _ _ _ _ _ => rfl), fun A outer s H E f c' hr => (pe_call G_depths (hr.mono (by omega)) rfl T.g_depths T.k_depths T.b_depths .nil (passes_call (takes_of rfl rfl rfl rfl) fun _ _ _ _ z => z) (pa_cons (pv 14) pa_nil))⟩ ⟨C1.at VA, ?_⟩⟩
            refine ⟨_, rfl, ps, spl, _, rfl, hsl, mps (F := [_, _]), V1, fun i hi d H18 V2 => ?_, fun hok => absurd hok nok⟩
            rw [one i hi] at V2
            refine ⟨5, _, _, _, rfl, rfl, rfl, V2, .inr ⟨d, "number", _, rfl, rfl, List.mem_cons_self, fun t1 HG V3 => ?_⟩⟩
            refine ⟨_, rfl, by show 2 ≤ sizeLine; decide, fun t2 ht2 => ?_⟩
            have V4 := V3.new (o := .tup [.str "deed", .int ((at' : Nat) : Int)]) ht2
            exact ⟨_, _, .tup (SqT.of V4.a1) (.cons (.str _) (.cons (.int _) .nil)), .tup (SqT.of V4.a0) (.cons (.str _) (.cons (.int _) .nil)), hsh, hsh, false, by rw [eqv_self _ hsh], rfl, Own.right (L' := [_, _, _]) V4⟩
          · refine ⟨rfl, _, rfl, lam_here C2 VA ⟨lmS_by (by rfl), (lbd1 fun _ _ _ _ _ _ _ => ⟨_, rfl, rfl⟩), fun A outer s H E f c' hr => (pe_call G_late_brings (hr.mono (by omega)) rfl T.g_late_brings T.k_late_brings T.b_late_brings .nil (passes_call (takes_of rfl rfl rfl rfl) fun _ _ _ _ z => z) (pa_cons (pv 14) pa_nil))⟩ ⟨C2.at VA, ?_⟩⟩
            refine ⟨_, rfl, ps, spl, _, rfl, hsl, mps (F := [_, _]), V1, fun i hi d H18 V2 => ?_, fun hok => absurd hok nok⟩
            rw [one i hi] at V2
            refine ⟨5, _, _, _, rfl, rfl, rfl, V2, .inr ⟨d, "number", _, rfl, rfl, List.mem_cons_self, fun t1 HG V3 => ?_⟩⟩
            refine ⟨_, rfl, by show 2 ≤ sizeLine; decide, fun t2 ht2 => ?_⟩
            have V4 := V3.new (o := .tup [.str "deed", .int ((at' : Nat) : Int)]) ht2
            exact ⟨_, _, .tup (SqT.of V4.a1) (.cons (.str _) (.cons (.int _) .nil)), .tup (SqT.of V4.a0) (.cons (.str _) (.cons (.int _) .nil)), hsh, hsh, false, by rw [eqv_self _ hsh], rfl, Own.right (L' := [_, _, _]) V4⟩
          · refine ⟨rfl, _, rfl, lam_here C3 VA ⟨lmS_by (by rfl), (lbd1 fun _ _ _ _ _ _ _ => ⟨_, rfl, rfl⟩), fun A outer s H E f c' hr => (pe_call G_fewest (hr.mono (by omega)) rfl T.g_fewest T.k_fewest T.b_fewest .nil (passes_call (takes_of rfl rfl rfl rfl) fun _ _ _ _ z => z) (pa_cons (pv 14) (pa_cons pe_int pa_nil)))⟩ ⟨C3.at VA, ?_⟩⟩
            refine ⟨_, rfl, ps, 9, spl, _, rfl, hsl, mps (F := [_, _]), V1, fun i hi d H18 V2 => ?_, fun hok => absurd hok nok, fun hok => absurd hok nok⟩
            rw [one i hi] at V2
            refine ⟨5, _, _, _, rfl, rfl, rfl, V2, .inr ⟨d, "number", _, rfl, rfl, List.mem_cons_self, fun t1 HG V3 => ?_⟩⟩
            refine ⟨_, rfl, by show 2 ≤ sizeLine; decide, fun t2 ht2 => ?_⟩
            have V4 := V3.new (o := .tup [.str "deed", .int ((at' : Nat) : Int)]) ht2
            exact ⟨_, _, .tup (SqT.of V4.a1) (.cons (.str _) (.cons (.int _) .nil)), .tup (SqT.of V4.a0) (.cons (.str _) (.cons (.int _) .nil)), hsh, hsh, false, by rw [eqv_self _ hsh], rfl, Own.right (L' := [_, _, _]) V4⟩
          · refine ⟨rfl, _, rfl, lam_here C4 VA ⟨lmS_by (by rfl), (lbd1 fun _ _ _ _ _ _ _ => ⟨_, rfl, rfl⟩), fun A outer s H E f c' hr => (pe_call G_judged (hr.mono (by omega)) rfl T.g_judged T.k_judged T.b_judged .nil (passes_call (takes_of rfl rfl rfl rfl) fun _ _ _ _ z => z) (pa_cons (pv 14) (pa_cons pe_int (pa_cons (pe_lst (pa_cons pe_int pa_nil)) pa_nil))))⟩ ⟨C4.at VA, ?_⟩⟩
            refine ⟨_, rfl, by show 1 ≤ sizeLine; decide, fun q hq => ?_⟩
            have V5 := V1.new (o := .lst (isV [0])) hq
            refine ⟨ps, q, 9, spl, [0], _, rfl, hsl, by decide, mps (F := [_, _, _]), List.mem_cons_self, V5, fun i hi d H18 V2 => ?_, fun hok => absurd hok nok, fun hok => absurd hok nok⟩
            rw [one i hi] at V2
            refine ⟨5, _, _, _, rfl, rfl, rfl, V2, .inr ⟨d, "number", _, rfl, rfl, List.mem_cons_self, fun t1 HG V3 => ?_⟩⟩
            refine ⟨_, rfl, by show 2 ≤ sizeLine; decide, fun t2 ht2 => ?_⟩
            have V4 := V3.new (o := .tup [.str "deed", .int ((at' : Nat) : Int)]) ht2
            exact ⟨_, _, .tup (SqT.of V4.a1) (.cons (.str _) (.cons (.int _) .nil)), .tup (SqT.of V4.a0) (.cons (.str _) (.cons (.int _) .nil)), hsh, hsh, false, by rw [eqv_self _ hsh], rfl, Own.right (L' := [_, _, _, _]) V4⟩
        · intro H17 V1
          refine ⟨by show 0 ≤ sizeLine; decide, fun p9 hp9 => ?_⟩
          have V2 := V1.new (o := .lst []) hp9
          refine ⟨.list [], .list [], .lst (SqL.of V2.a1) .nil, .lst (SqL.of V2.a0) .nil, shc [], shc [], false, rfl, iteF ?_⟩
          exact ⟨⟨_, _, _, _, _, _, _, _, _, _, _, _, _, _, _, _, _, _, _, rfl⟩, out (F := [_, _, _]) V2⟩
      · refine ⟨_, rfl, _, _, rfl, rfl, false, ?_, iteF ?_⟩
        · exact congrArg V.bl (decide_eq_false (by omega))
        · exact ⟨⟨_, _, _, _, _, _, _, _, _, _, _, _, _, _, _, _, _, _, _, rfl⟩, out (F := [_]) Z5⟩
    · rintro σ H1 ⟨⟨v2, v3, v4, v5, v6, v7, v8, v9, v10, v11, v12, v13, v14, v15, v16, v17, v18, v19, v20, rfl⟩, c1, TL, hc1, hT, O1⟩
      -- too many
      have shc : ∀ l : List Int, SeqAt.shaped (.list (l.map .int)) = true := fun l => PySem.W.shaped_ints l
      refine ⟨by show 1 ≤ sizeLine; decide, fun e2 he2 => ?_⟩
      have O2 := O1.new (o := .lst (isV [0])) he2
      refine ⟨_, rfl, rw, S, c1, 3, (e2, .lst (isV [0])) :: TL, rfl, hc1, by decide, O2.perm (by walk_at "perm"), fun v c2 H2 h0 h3 hc2 O3 => ?_⟩
      refine ⟨_, _, rfl, rfl, ?_⟩
      obtain ⟨mm, hmm, hm1, hm2⟩ : ∃ mm : Nat, 201 + v = (mm : Int) ∧ 201 ≤ mm ∧ mm ≤ 203 := ⟨(201 + v).toNat, by omega, by omega, by omega⟩
      refine ⟨e2, 201 + v, isV [0], rfl, rfl, O3.mem (by simp), by omega, by omega, by rw [hmm, Int.toNat_natCast]; exact Nat.le_of_lt (size1 (by show 1 * mm ≤ 1000000; omega)), fun pm hpm => ?_⟩
      have eR : (List.replicate (201 + v).toNat (isV [0])).flatten = isV (List.replicate mm 0) := by
        rw [hmm, Int.toNat_natCast]
        unfold isV
        rw [List.map_replicate]
        exact flatRep mm _
      rw [eR]
      have O4 := O3.new (o := .lst (isV (List.replicate mm 0))) hpm
      obtain ⟨L1, hL1⟩ : ∃ L1 : List Cell, L1 = (pm, .lst (isV (List.replicate mm 0))) :: c2 :: (S ++ [(e2, .lst (isV [0]))]) := ⟨_, rfl⟩
      have Y0 := O4.perm (L' := L1 ++ TL) (by rw [hL1]; walk_at "perm")
      have nL1 : NT L1 := by
        rw [hL1]
        exact NT.cons rfl (NT.cons hc2.nt (NT.app hS (NT.cons rfl NT.nil)))
      have mpm : ∀ {F M : List Cell}, (pm, HO.lst (isV (List.replicate mm 0))) ∈ F ++ (L1 ++ M) := fun {F M} => by rw [hL1]; simp
      refine gRet_go ?_
      refine callLam_go (L := L1) Y0 nL1 hT ?_ fun f1 H10 F1 TL2 hT2 hNF1 hLC1 V1 => ⟨_, ⟨lmS_by (by rfl), (lbd0 fun _ _ _ _ _ => rfl), fun A outer s H E f c' hr => (pe_call G_depths (hr.mono (by omega)) rfl T.g_depths T.k_depths T.b_depths .nil (passes_call (takes_of rfl rfl rfl rfl) fun _ _ _ _ z => z) (pa_cons (pv 16) pa_nil))⟩, hLC1.at V1, ?_⟩
      · rfl
      have bad : BlkBad (List.replicate mm 0) 200 := by
        refine ⟨by rw [List.length_replicate]; omega, fun ⟨_, _, z, _⟩ => by omega, fun j hj => ⟨0, List.getElem?_replicate_of_lt (by omega), hj, by decide, by decide⟩⟩
      have nok : ¬ BlksOk (List.replicate mm 0) := fun z => bad.2.1 (z 200 bad.1)
      refine ⟨_, rfl, pm, List.replicate mm 0, _, rfl, by rw [List.length_replicate]; omega, mpm, V1, fun i hi d H18 V2 => ?_, fun hok => absurd hok nok⟩
      obtain rfl : i = 200 := by
        rcases Nat.lt_trichotomy i 200 with z | z | z
        · exact absurd (bad.2.2 i z) hi.2.1
        · exact z
        · exact absurd (hi.2.2 200 z) bad.2.1
      refine ⟨5, _, _, _, rfl, rfl, rfl, V2, .inr ⟨d, "number", _, rfl, rfl, List.mem_cons_self, fun t1 HG V3 => ?_⟩⟩
      refine ⟨_, rfl, 200, rfl, pm, _, rfl, SqL.of (V3.mem (List.mem_cons_of_mem _ (List.mem_cons_of_mem _ mpm))), fun q hq => ?_⟩
      have ec : cutV (isV (List.replicate mm 0)) none (some 200) = isV (List.replicate 200 0) := by
        rw [cutI_eq, show (200 : Int) = ((200 : Nat) : Int) from rfl, cutI_take (by rw [List.length_replicate]; omega), List.take_replicate, Nat.min_eq_left (by omega)]
      rw [ec]
      have V4 := V3.new (o := .lst (isV (List.replicate 200 0))) hq
      have ok2 : BlksOk (List.replicate 200 0) := fun i hi => by
        rw [List.length_replicate] at hi
        exact ⟨0, List.getElem?_replicate_of_lt hi, hi, by decide, by decide⟩
      refine ⟨q, List.replicate 200 0, _, rfl, by rw [List.length_replicate]; decide, List.mem_cons_self, V4, fun i hi => absurd (ok2 i hi.1) hi.2.1, fun _ bs' p1 H20 ebs V5 => ?_⟩
      have hbl : bs'.length = 200 := by rw [← ints_len, ← ebs, List.length_replicate]
      refine ⟨p1, _, rfl, .inl (SqL.of V5.a0), ?_⟩
      rw [List.length_map, dptsOf_len, hbl]
      refine ⟨by show 2 ≤ sizeLine; decide, fun p9 hp9 => ?_⟩
      have V6 := V5.new (o := .lst [.ref t1, .int ((200 : Nat) : Int)]) hp9
      refine ⟨by show 2 ≤ sizeLine; decide, fun t2 ht2 => ?_⟩
      have V7 := V6.new (o := .tup [.str "deed", .int 200]) ht2
      refine ⟨by show 2 ≤ sizeLine; decide, fun p10 hp10 => ?_⟩
      have V8 := V7.new (o := .lst [.ref t2, .int 200]) hp10
      have hsh : SeqAt.shaped (.list [.tuple [.str "deed", .int 200], .int 200]) = true := by decide +kernel
      refine ⟨.list [.tuple [.str "deed", .int 200], .int 200], .list [.tuple [.str "deed", .int 200], .int 200], .lst (SqL.of V8.a2) (.cons (.tup (SqT.of (V8.mem (show (t1, HO.tup [.str "deed", .int ((200 : Nat) : Int)]) ∈ _ by simp))) (.cons (.str _) (.cons (.int _) .nil))) (.cons (.int _) .nil)), .lst (SqL.of V8.a0) (.cons (.tup (SqT.of V8.a1) (.cons (.str _) (.cons (.int _) .nil))) (.cons (.int _) .nil)), hsh, hsh, ?_⟩
      rw [SeqAt.eqv_refl _ (SeqAt.canLay_of_shaped hsh)]
      exact kq _
end
-- EndX
def fa : List He.Fa := [.glo "is_number", .glo "need_blocks", .glo "depths_of", .glo "depths", .glo "late_brings", .glo "need_ways", .glo "wait_of", .glo "fewest", .glo "judged", .glo "_law_taken", .glo "_law_alike", .glo "_law_word", .glo "_law_blocks", .glo "law", .glo "WayError", .glo "BadRule", .glo "BadHands", .glo "BadHand", .glo "BadPlace", .glo "BadNumber", .glo "BadDeed", .glo "BadRoom", .glo "BadWays", .glo "BadLeavings", .glo "BadText", .int "CELLS" 64, .int "BLOCK" 4, .int "MOST_DEEDS" 200, .int "BLOCKS" 16, .int "MOST_WAYS" 8, .free "ValueError", .free "len", .free "isinstance", .free "range", .free "list", .free "tuple", .free "enumerate", .free "int", .free "bool", .free "set", .free "max", .free "str", .meth "BadRule" "__init__", .noat "BadRule" "number", .exc "BadHands", .exc "BadHand", .exc "BadPlace", .exc "BadNumber", .meth "BadDeed" "__init__", .noat "BadDeed" "number", .exc "BadRoom", .exc "BadWays", .meth "BadLeavings" "__init__", .noat "BadLeavings" "number", .meth "BadText" "__init__", .noat "BadText" "row"]
def d_BadRule___init__ : He.DefD := ⟨("BadRule", some "__init__"), "__init__", "BadRule.__init__", defArgs s_BadRule___init__, defBody s_BadRule___init__, defScope s_BadRule___init__, [], []⟩
def d_BadDeed___init__ : He.DefD := ⟨("BadDeed", some "__init__"), "__init__", "BadDeed.__init__", defArgs s_BadDeed___init__, defBody s_BadDeed___init__, defScope s_BadDeed___init__, [], []⟩
def d_BadLeavings___init__ : He.DefD := ⟨("BadLeavings", some "__init__"), "__init__", "BadLeavings.__init__", defArgs s_BadLeavings___init__, defBody s_BadLeavings___init__, defScope s_BadLeavings___init__, [], []⟩
def d_BadText___init__ : He.DefD := ⟨("BadText", some "__init__"), "__init__", "BadText.__init__", defArgs s_BadText___init__, defBody s_BadText___init__, defScope s_BadText___init__, [], []⟩
def d_is_number : He.DefD := ⟨("is_number", none), "is_number", "is_number", defArgs s_is_number, defBody s_is_number, defScope s_is_number, [], []⟩
def d_need_blocks : He.DefD := ⟨("need_blocks", none), "need_blocks", "need_blocks", defArgs s_need_blocks, defBody s_need_blocks, defScope s_need_blocks, [], []⟩
def d_depths_of : He.DefD := ⟨("depths_of", none), "depths_of", "depths_of", defArgs s_depths_of, defBody s_depths_of, defScope s_depths_of, [], []⟩
def d_depths : He.DefD := ⟨("depths", none), "depths", "depths", defArgs s_depths, defBody s_depths, defScope s_depths, [], []⟩
def d_late_brings : He.DefD := ⟨("late_brings", none), "late_brings", "late_brings", defArgs s_late_brings, defBody s_late_brings, defScope s_late_brings, [], []⟩
def d_need_ways : He.DefD := ⟨("need_ways", none), "need_ways", "need_ways", defArgs s_need_ways, defBody s_need_ways, defScope s_need_ways, [], []⟩
def d_wait_of : He.DefD := ⟨("wait_of", none), "wait_of", "wait_of", defArgs s_wait_of, defBody s_wait_of, defScope s_wait_of, [], []⟩
def d_fewest : He.DefD := ⟨("fewest", none), "fewest", "fewest", defArgs s_fewest, defBody s_fewest, defScope s_fewest, [], []⟩
def d_judged : He.DefD := ⟨("judged", none), "judged", "judged", defArgs s_judged, defBody s_judged, defScope s_judged, [], []⟩
def d__law_taken : He.DefD := ⟨("_law_taken", none), "_law_taken", "_law_taken", defArgs s__law_taken, defBody s__law_taken, defScope s__law_taken, [], []⟩
def d__law_alike : He.DefD := ⟨("_law_alike", none), "_law_alike", "_law_alike", defArgs s__law_alike, defBody s__law_alike, defScope s__law_alike, [], []⟩
def d__law_word : He.DefD := ⟨("_law_word", none), "_law_word", "_law_word", defArgs s__law_word, defBody s__law_word, defScope s__law_word, [], []⟩
def d__law_blocks : He.DefD := ⟨("_law_blocks", none), "_law_blocks", "_law_blocks", defArgs s__law_blocks, defBody s__law_blocks, defScope s__law_blocks, [], []⟩
def d_law : He.DefD := ⟨("law", none), "law", "law", defArgs s_law, defBody s_law, defScope s_law, [], []⟩
def fn : List He.DefD := [d_BadRule___init__, d_BadDeed___init__, d_BadLeavings___init__, d_BadText___init__, d_is_number, d_need_blocks, d_depths_of, d_depths, d_late_brings, d_need_ways, d_wait_of, d_fewest, d_judged, d__law_taken, d__law_alike, d__law_word, d__law_blocks, d_law]
def ex (K : PySem.W.Frag) : Bool := (excTB K bads && (oexB K (He.ga K "BadRule") && (oexB K (He.ga K "BadDeed") && (oexB K (He.ga K "BadLeavings") && (oexB K (He.ga K "BadText") && true)))))
def tf : List He.Defn := [("law", none)]
abbrev R : PySem.W.OpenRow := PySem.W.OpenLaw.row PySem.Challenge.rw_writeways_k10_depths
abbrev hk : PySem.W.Hook := hookY 5 fa fn tf ex
def ob (s : PySem.W.SharedT) : He.AlX := obsY 5 fa fn tf ex (HandSHeadRun.getT s)
theorem ob_eq (s : PySem.W.SharedT) : ob s = hk.obs s.abs := obsY_eq (HandSHeadRun.getT_eq s)
def loose0 : List PySem.Str := ["WayError", "BadRule", "BadHands", "BadHand", "BadPlace", "BadNumber", "BadDeed", "BadRoom", "BadWays", "BadLeavings", "BadText", "CELLS", "BLOCK", "MOST_DEEDS", "is_number", "BLOCKS", "need_blocks", "depths_of", "depths", "late_brings", "MOST_WAYS", "need_ways", "wait_of", "fewest", "judged", "_law_taken", "_law_alike", "_law_word", "_law_blocks"]
def loose : List PySem.Str := loose0
set_option maxHeartbeats 0 in
theorem run (w : World) : HandSHeadRun.RunEq R (PySem.W.view R.prog [34]) hk ob 6000 loose w := by
  intro os
  kernel_rfl
theorem txt_of {w : World} {K : PySem.W.Frag} {h hh : Heap} {mg : Str → Option Value} (X : K.In h) (G : h.Ns mainGlobals mg) (c0 : He.SaysX fa fn [] tf ex w hh K) : Nonempty (Txt K mg) := by
  have c := c0.t.d
  have e0 : ex K = true := c0.more
  obtain ⟨x0, e1⟩ := He.ba (show (excTB K bads && _) = true from e0)
  obtain ⟨x1, e2⟩ := He.ba (show (oexB K (He.ga K "BadRule") && _) = true from e1)
  obtain ⟨x2, e3⟩ := He.ba (show (oexB K (He.ga K "BadDeed") && _) = true from e2)
  obtain ⟨x3, e4⟩ := He.ba (show (oexB K (He.ga K "BadLeavings") && _) = true from e3)
  obtain ⟨x4, e5⟩ := He.ba (show (oexB K (He.ga K "BadText") && _) = true from e4)
  obtain ⟨fd0, F0⟩ := c.def_ 0 (d := d_BadRule___init__) rfl
  obtain ⟨fd1, F1⟩ := c.def_ 1 (d := d_BadDeed___init__) rfl
  obtain ⟨fd2, F2⟩ := c.def_ 2 (d := d_BadLeavings___init__) rfl
  obtain ⟨fd3, F3⟩ := c.def_ 3 (d := d_BadText___init__) rfl
  obtain ⟨fd4, F4⟩ := c.def_ 4 (d := d_is_number) rfl
  obtain ⟨fd5, F5⟩ := c.def_ 5 (d := d_need_blocks) rfl
  obtain ⟨fd6, F6⟩ := c.def_ 6 (d := d_depths_of) rfl
  obtain ⟨fd7, F7⟩ := c.def_ 7 (d := d_depths) rfl
  obtain ⟨fd8, F8⟩ := c.def_ 8 (d := d_late_brings) rfl
  obtain ⟨fd9, F9⟩ := c.def_ 9 (d := d_need_ways) rfl
  obtain ⟨fd10, F10⟩ := c.def_ 10 (d := d_wait_of) rfl
  obtain ⟨fd11, F11⟩ := c.def_ 11 (d := d_fewest) rfl
  obtain ⟨fd12, F12⟩ := c.def_ 12 (d := d_judged) rfl
  obtain ⟨fd13, F13⟩ := c.def_ 13 (d := d__law_taken) rfl
  obtain ⟨fd14, F14⟩ := c.def_ 14 (d := d__law_alike) rfl
  obtain ⟨fd15, F15⟩ := c.def_ 15 (d := d__law_word) rfl
  obtain ⟨fd16, F16⟩ := c.def_ 16 (d := d__law_blocks) rfl
  obtain ⟨fd17, F17⟩ := c.def_ 17 (d := d_law) rfl
  exact ⟨{
    g_is_number := He.glo_ok X G (c.fact 0 (f := .glo "is_number") rfl)
    g_need_blocks := He.glo_ok X G (c.fact 1 (f := .glo "need_blocks") rfl)
    g_depths_of := He.glo_ok X G (c.fact 2 (f := .glo "depths_of") rfl)
    g_depths := He.glo_ok X G (c.fact 3 (f := .glo "depths") rfl)
    g_late_brings := He.glo_ok X G (c.fact 4 (f := .glo "late_brings") rfl)
    g_need_ways := He.glo_ok X G (c.fact 5 (f := .glo "need_ways") rfl)
    g_wait_of := He.glo_ok X G (c.fact 6 (f := .glo "wait_of") rfl)
    g_fewest := He.glo_ok X G (c.fact 7 (f := .glo "fewest") rfl)
    g_judged := He.glo_ok X G (c.fact 8 (f := .glo "judged") rfl)
    g__law_taken := He.glo_ok X G (c.fact 9 (f := .glo "_law_taken") rfl)
    g__law_alike := He.glo_ok X G (c.fact 10 (f := .glo "_law_alike") rfl)
    g__law_word := He.glo_ok X G (c.fact 11 (f := .glo "_law_word") rfl)
    g__law_blocks := He.glo_ok X G (c.fact 12 (f := .glo "_law_blocks") rfl)
    g_law := He.glo_ok X G (c.fact 13 (f := .glo "law") rfl)
    g_WayError := He.glo_ok X G (c.fact 14 (f := .glo "WayError") rfl)
    g_BadRule := He.glo_ok X G (c.fact 15 (f := .glo "BadRule") rfl)
    g_BadHands := He.glo_ok X G (c.fact 16 (f := .glo "BadHands") rfl)
    g_BadHand := He.glo_ok X G (c.fact 17 (f := .glo "BadHand") rfl)
    g_BadPlace := He.glo_ok X G (c.fact 18 (f := .glo "BadPlace") rfl)
    g_BadNumber := He.glo_ok X G (c.fact 19 (f := .glo "BadNumber") rfl)
    g_BadDeed := He.glo_ok X G (c.fact 20 (f := .glo "BadDeed") rfl)
    g_BadRoom := He.glo_ok X G (c.fact 21 (f := .glo "BadRoom") rfl)
    g_BadWays := He.glo_ok X G (c.fact 22 (f := .glo "BadWays") rfl)
    g_BadLeavings := He.glo_ok X G (c.fact 23 (f := .glo "BadLeavings") rfl)
    g_BadText := He.glo_ok X G (c.fact 24 (f := .glo "BadText") rfl)
    g_CELLS := He.int_ok X G (c.fact 25 (f := .int "CELLS" 64) rfl)
    g_BLOCK := He.int_ok X G (c.fact 26 (f := .int "BLOCK" 4) rfl)
    g_MOST_DEEDS := He.int_ok X G (c.fact 27 (f := .int "MOST_DEEDS" 200) rfl)
    g_BLOCKS := He.int_ok X G (c.fact 28 (f := .int "BLOCKS" 16) rfl)
    g_MOST_WAYS := He.int_ok X G (c.fact 29 (f := .int "MOST_WAYS" 8) rfl)
    n_ValueError := He.free_ok X G (c.fact 30 (f := .free "ValueError") rfl)
    n_len := He.free_ok X G (c.fact 31 (f := .free "len") rfl)
    n_isinstance := He.free_ok X G (c.fact 32 (f := .free "isinstance") rfl)
    n_range := He.free_ok X G (c.fact 33 (f := .free "range") rfl)
    n_list := He.free_ok X G (c.fact 34 (f := .free "list") rfl)
    n_tuple := He.free_ok X G (c.fact 35 (f := .free "tuple") rfl)
    n_enumerate := He.free_ok X G (c.fact 36 (f := .free "enumerate") rfl)
    n_int := He.free_ok X G (c.fact 37 (f := .free "int") rfl)
    n_bool := He.free_ok X G (c.fact 38 (f := .free "bool") rfl)
    n_set := He.free_ok X G (c.fact 39 (f := .free "set") rfl)
    n_max := He.free_ok X G (c.fact 40 (f := .free "max") rfl)
    n_str := He.free_ok X G (c.fact 41 (f := .free "str") rfl)
    m_BadRule___init__ := He.meth_ok (c.fact 42 (f := .meth "BadRule" "__init__") rfl)
    na_BadRule_number := He.noat_ok (c.fact 43 (f := .noat "BadRule" "number") rfl)
    xe_BadHands := He.exc_ok (c.fact 44 (f := .exc "BadHands") rfl)
    xe_BadHand := He.exc_ok (c.fact 45 (f := .exc "BadHand") rfl)
    xe_BadPlace := He.exc_ok (c.fact 46 (f := .exc "BadPlace") rfl)
    xe_BadNumber := He.exc_ok (c.fact 47 (f := .exc "BadNumber") rfl)
    m_BadDeed___init__ := He.meth_ok (c.fact 48 (f := .meth "BadDeed" "__init__") rfl)
    na_BadDeed_number := He.noat_ok (c.fact 49 (f := .noat "BadDeed" "number") rfl)
    xe_BadRoom := He.exc_ok (c.fact 50 (f := .exc "BadRoom") rfl)
    xe_BadWays := He.exc_ok (c.fact 51 (f := .exc "BadWays") rfl)
    m_BadLeavings___init__ := He.meth_ok (c.fact 52 (f := .meth "BadLeavings" "__init__") rfl)
    na_BadLeavings_number := He.noat_ok (c.fact 53 (f := .noat "BadLeavings" "number") rfl)
    m_BadText___init__ := He.meth_ok (c.fact 54 (f := .meth "BadText" "__init__") rfl)
    na_BadText_row := He.noat_ok (c.fact 55 (f := .noat "BadText" "row") rfl)
    xt := excTB_ok x0
    ox_BadRule := x1
    ox_BadDeed := x2
    ox_BadLeavings := x3
    ox_BadText := x4
    fd_BadRule___init__ := fd0
    F_BadRule___init__ := F0
    b_BadRule___init__ := F0.bindsN fun _ _ _ _ _ _ us hl => match us, hl with | [_, _], _ => rfl
    k_BadRule___init__ := F0.kp
    fd_BadDeed___init__ := fd1
    F_BadDeed___init__ := F1
    b_BadDeed___init__ := F1.bindsN fun _ _ _ _ _ _ us hl => match us, hl with | [_, _], _ => rfl
    k_BadDeed___init__ := F1.kp
    fd_BadLeavings___init__ := fd2
    F_BadLeavings___init__ := F2
    b_BadLeavings___init__ := F2.bindsN fun _ _ _ _ _ _ us hl => match us, hl with | [_, _], _ => rfl
    k_BadLeavings___init__ := F2.kp
    fd_BadText___init__ := fd3
    F_BadText___init__ := F3
    b_BadText___init__ := F3.bindsN fun _ _ _ _ _ _ us hl => match us, hl with | [_, _], _ => rfl
    k_BadText___init__ := F3.kp
    fd_is_number := fd4
    F_is_number := F4
    b_is_number := F4.bindsN fun _ _ _ _ _ _ us hl => match us, hl with | [_, _, _], _ => rfl
    k_is_number := F4.kp
    fd_need_blocks := fd5
    F_need_blocks := F5
    b_need_blocks := F5.bindsN fun _ _ _ _ _ _ us hl => match us, hl with | [_], _ => rfl
    k_need_blocks := F5.kp
    fd_depths_of := fd6
    F_depths_of := F6
    b_depths_of := F6.bindsN fun _ _ _ _ _ _ us hl => match us, hl with | [_], _ => rfl
    k_depths_of := F6.kp
    fd_depths := fd7
    F_depths := F7
    b_depths := F7.bindsN fun _ _ _ _ _ _ us hl => match us, hl with | [_], _ => rfl
    k_depths := F7.kp
    fd_late_brings := fd8
    F_late_brings := F8
    b_late_brings := F8.bindsN fun _ _ _ _ _ _ us hl => match us, hl with | [_], _ => rfl
    k_late_brings := F8.kp
    fd_need_ways := fd9
    F_need_ways := F9
    b_need_ways := F9.bindsN fun _ _ _ _ _ _ us hl => match us, hl with | [_], _ => rfl
    k_need_ways := F9.kp
    fd_wait_of := fd10
    F_wait_of := F10
    b_wait_of := F10.bindsN fun _ _ _ _ _ _ us hl => match us, hl with | [_, _, _], _ => rfl
    k_wait_of := F10.kp
    fd_fewest := fd11
    F_fewest := F11
    b_fewest := F11.bindsN fun _ _ _ _ _ _ us hl => match us, hl with | [_, _], _ => rfl
    k_fewest := F11.kp
    fd_judged := fd12
    F_judged := F12
    b_judged := F12.bindsN fun _ _ _ _ _ _ us hl => match us, hl with | [_, _, _], _ => rfl
    k_judged := F12.kp
    fd__law_taken := fd13
    F__law_taken := F13
    b__law_taken := F13.bindsN fun _ _ _ _ _ _ us hl => match us, hl with | [_, _], _ => rfl
    k__law_taken := F13.kp
    fd__law_alike := fd14
    F__law_alike := F14
    b__law_alike := F14.bindsN fun _ _ _ _ _ _ us hl => match us, hl with | [_, _], _ => rfl
    k__law_alike := F14.kp
    fd__law_word := fd15
    F__law_word := F15
    b__law_word := F15.bindsN fun _ _ _ _ _ _ us hl => match us, hl with | [_], _ => rfl
    k__law_word := F15.kp
    fd__law_blocks := fd16
    F__law_blocks := F16
    b__law_blocks := F16.bindsN fun _ _ _ _ _ _ us hl => match us, hl with | [_, _], _ => rfl
    k__law_blocks := F16.kp
    fd_law := fd17
    F_law := F17
    b_law := F17.bindsN fun _ _ _ _ _ _ us hl => match us, hl with | [_], _ => rfl
    k_law := F17.kp
  }⟩
theorem law_enterX {K : PySem.W.Frag} {H : Hp} {a Pt : Addr} {q : Str} {ns : List Int} (h : SqL K H a (ns.map V.int)) (hp : H Pt = some (.tbl #[])) : ∃ S TL : List Cell, Scr K a ns S ∧ NT S ∧ TabC TL Pt q ∧ Own H (S ++ TL) := by
  have tab : TabC [(Pt, HO.tbl #[])] Pt q := ⟨#[], List.mem_cons_self, trivial, fun pos cv hc => by
    have z : codeAmong pos [] = some cv := hc
    simp [codeAmong] at z⟩
  have one : ∀ {o : HO}, H a = some o → isTb o = false → Own H ([(a, o)] ++ [(Pt, .tbl #[])]) := fun {o} e f => by
    refine ⟨?_, fun c hc => ?_⟩
    · show [a, Pt].Nodup
      refine List.nodup_cons.mpr ⟨fun z => ?_, List.nodup_cons.mpr ⟨List.not_mem_nil, List.nodup_nil⟩⟩
      rw [List.mem_singleton.mp z, hp] at e
      rw [← Option.some.inj e] at f
      cases f
    · rcases List.mem_cons.mp hc with z | z
      · rw [z]
        exact e
      · rw [List.mem_singleton.mp z]
        exact hp
  rcases h with (h | ⟨o, h⟩) | h
  · exact ⟨[(a, .lst (ns.map V.int))], _, fun H' h' => .inl (.inl (h' _ List.mem_cons_self)), NT.cons rfl NT.nil, tab, one h rfl⟩
  · exact ⟨[(a, .frz o (.lst (ns.map V.int)))], _, fun H' h' => .inl (.inr ⟨o, h' _ List.mem_cons_self⟩), NT.cons rfl NT.nil, tab, one h rfl⟩
  · exact ⟨[], _, fun H' _ => .inr h, NT.nil, tab, List.nodup_cons.mpr ⟨List.not_mem_nil, List.nodup_nil⟩, fun c hc => by rw [List.mem_singleton.mp hc]; exact hp⟩
theorem lawFactsX {l : PySem.W.OpenLaw} {w : World} {K : PySem.W.Frag} {h : Heap} {mg : Str → Option Value} {f : Addr} (X : K.In h) (G : h.Ns mainGlobals mg) (hf : mg ("law" : Str) = some (.ref f)) (c : He.SaysX fa fn [] tf ex w h K) : LamX.LawAtS l w K CX0 lawLv 63 "_law_script" mg f h := by
  obtain ⟨T⟩ := txt_of X G c
  have e : some (Value.ref f) = some (.ref (He.fAd K ("law", none))) := hf.symm.trans T.g_law
  cases e
  have b := FunD.bindsA (ps := ["_law_script"]) T.F_law fun _ _ _ _ _ _ us hl => match us, hl with | [_], _ => rfl
  have m1 : (("law", none) : He.Defn) ∈ tf := by decide
  refine ⟨T.fd_law, [He.cT K ("law", none)], spLaw K, fun p hp => ?_, fun p hp => ?_, fun p hp => ?_, fun s v => b s [v] rfl, fun H a ns _ _ hH hS => ?_, fun base _ _ hT => ok_law T (hT _ List.mem_cons_self)⟩
  · rw [List.mem_singleton.mp hp]
    exact c.empty _ m1
  · rw [List.mem_singleton.mp hp]
    exact c.out _ m1
  · rw [List.mem_singleton.mp hp]
    exact PySem.W.codeHd_of_K X (c.hd _ m1)
  · obtain ⟨S, TL, h1, h2, h3, h4⟩ := law_enterX hS (hH _ List.mem_cons_self)
    exact ⟨a, ns, S, TL, rfl, h1, h2, h3, h4, fun _ => rfl⟩
end Ww
open PySem PySem.W PySem.Calls PyProof.Rows
theorem PySem.Challenge.cw_writeways_k10_depths_holds : PySem.Challenge.rw_writeways_k10_depths.Holds := by
  w_on; o_law
  refine HandSHeadRun.head_any (r := OpenLaw.row PySem.Challenge.rw_writeways_k10_depths) (q := view (OpenLaw.row PySem.Challenge.rw_writeways_k10_depths).prog [34]) (H := Ww.hk) (ob := Ww.ob) (M := 6000) (loose := Ww.loose) (d := HandSHeadRun.topDef (OpenLaw.row PySem.Challenge.rw_writeways_k10_depths).prog 34) (kwd := []) Ww.ob_eq
    (by kernel_rfl) (fun s => by kernel_rfl) Ww.run (by kernel_rfl) (by kernel_rfl) (by kernel_rfl) (by rfl) (by first | assumption | decide +kernel) (by decide +kernel) ⟨rfl, rfl, rfl, rfl, rfl, by decide +kernel⟩ ?hw ?hc
  case hw => w_witness2
  case hc =>
    refine LamX.walk_ofTsE (l := PySem.Challenge.rw_writeways_k10_depths) (n := 63) (k := Ww.lawLv) (x := "_law_script") (CX := fun _ => L2.CX0) rfl (by decide) (by kernel_rfl) ⟨rfl, by decide, by decide⟩ ?F (fun _ _ _ _ _ z => z)
    intro w mg f h Y G hmg0
    obtain ⟨K, KX, c⟩ := Y
    have hmg : mg ("law" : PySem.Str) = some (.ref f) := by
      have e : (HandSHeadRun.topDef (OpenLaw.row PySem.Challenge.rw_writeways_k10_depths).prog 34).name = ("law" : PySem.Str) := by kernel_rfl
      rw [← e]
      exact hmg0
    exact ⟨K, KX, Ww.lawFactsX KX G hmg c⟩
