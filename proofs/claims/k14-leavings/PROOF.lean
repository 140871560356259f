import PyProof.Rows.All
import Wide.All
import OpenK.AllK
import Wide.FinOn
import KE.KStateDown
import KE.DataFind
import PyProof.InstEq
import HandS.ForMost
import HandS.ForExc
import HandS.Defaults
import HandS.IsInst
import HandS.TupAny
import HandS.Head0
import HandS.Head1
import HandS.Head2
import HandS.HeadEnd
import HandS.HeadHook1
import HandS.HeadHook2
import HandS.HeadHook3
import HandS.HeadHook4
import KE.KExcIs
import HandS.ExcInit
import HandS.ExcField
import HandS.FStr
import HandS.Lambda
import HandS.EndTab
import HandS.HeadWalk
import HandS.Style
import HandS.Zip
import HandS.Evl
import HandS.SetFor
import HandS.Conv
import PyProof.EqAt
import PySem.Challenge.RW_writeways_k14_leavings_judged
set_option Elab.async false
set_option linter.all false
set_option maxRecDepth 100000
set_option maxHeartbeats 4000000
namespace Ww
open PySem PySem.Spec PyProof.Rows L2
-- WwBase
/-! ### cells: a part of the abstract heap that is known -/
abbrev Cell := Addr × HO
def Own (H : Hp) (L : List Cell) : Prop := (L.map (·.1)).Nodup ∧ ∀ p ∈ L, H p.1 = some p.2
section
variable {H : Hp} {L L' R : List Cell} {a p : Addr} {o o' : HO} {c0 c1 c2 c3 c4 c5 c6 c7 : Cell}
theorem Own.mem (h : Own H L) (m : (a, o) ∈ L) : H a = some o := h.2 _ m
theorem Own.perm (h : Own H L) (e : L.Perm L') : Own H L' := ⟨((e.map _).nodup_iff).mp h.1, fun q m => h.2 q (e.mem_iff.mpr m)⟩
theorem Own.sub (h : Own H L) (e : L'.Sublist L) : Own H L' := ⟨List.Nodup.sublist (e.map _) h.1, fun q m => h.2 q (e.subset m)⟩
theorem Own.tail (h : Own H (c0 :: L)) : Own H L := h.sub (List.sublist_cons_self _ _)
theorem Own.right (h : Own H (L' ++ L)) : Own H L := h.sub (List.sublist_append_right _ _)
theorem Own.left (h : Own H (L ++ L')) : Own H L := h.sub (List.sublist_append_left _ _)
theorem Own.a0 (h : Own H ((a, o) :: L)) : H a = some o := h.2 (a, o) (by simp)
theorem Own.a1 (h : Own H (c0 :: (a, o) :: L)) : H a = some o := h.2 (a, o) (by simp)
theorem Own.a2 (h : Own H (c0 :: c1 :: (a, o) :: L)) : H a = some o := h.2 (a, o) (by simp)
theorem Own.a3 (h : Own H (c0 :: c1 :: c2 :: (a, o) :: L)) : H a = some o := h.2 (a, o) (by simp)
theorem Own.a4 (h : Own H (c0 :: c1 :: c2 :: c3 :: (a, o) :: L)) : H a = some o := h.2 (a, o) (by simp)
theorem Own.a5 (h : Own H (c0 :: c1 :: c2 :: c3 :: c4 :: (a, o) :: L)) : H a = some o := h.2 (a, o) (by simp)
theorem Own.a6 (h : Own H (c0 :: c1 :: c2 :: c3 :: c4 :: c5 :: (a, o) :: L)) : H a = some o := h.2 (a, o) (by simp)
theorem Own.a7 (h : Own H (c0 :: c1 :: c2 :: c3 :: c4 :: c5 :: c6 :: (a, o) :: L)) : H a = some o := h.2 (a, o) (by simp)
theorem Own.fresh (h : Own H L) (hp : H p = none) : p ∉ L.map (·.1) := fun m => by
  obtain ⟨q, hq, e⟩ := List.mem_map.mp m
  have := h.2 q hq
  rw [e, hp] at this
  cases this
theorem Own.keep (h : Own H L) (hp : p ∉ L.map (·.1)) : Own (upd H p o) L := ⟨h.1, fun q m => by
  rw [upd_ne (fun e => hp (List.mem_map.mpr ⟨q, m, e⟩))]
  exact h.2 q m⟩
theorem Own.new (h : Own H L) (hp : H p = none) : Own (upd H p o) ((p, o) :: L) := by
  refine ⟨List.nodup_cons.mpr ⟨h.fresh hp, h.1⟩, fun q m => ?_⟩
  rcases List.mem_cons.mp m with e | m
  · rw [e]
    exact upd_same
  · exact (h.keep (h.fresh hp)).2 q m
theorem Own.keepNew (h : Own H L) (hp : H p = none) : Own (upd H p o) L := h.keep (h.fresh hp)
theorem Own.set (h : Own H ((a, o) :: L)) : Own (upd H a o') ((a, o') :: L) := by
  have hn := List.nodup_cons.mp h.1
  refine ⟨h.1, fun q m => ?_⟩
  rcases List.mem_cons.mp m with e | m
  · rw [e]
    exact upd_same
  · exact (h.tail.keep hn.1).2 q m
theorem Own.nil : Own H [] := ⟨List.nodup_nil, fun _ m => by cases m⟩
theorem Own.setAt (h : Own H L) (e : L.Perm ((a, o) :: R)) : Own (upd H a o') ((a, o') :: R) := (h.perm e).set
theorem Own.seqL {K : PySem.W.Frag} {xs : List V} (h : Own H ((a, .lst xs) :: L)) : SqL K H a xs := SqL.of h.a0
end
/-- one in a count -/
noncomputable def one1 (c d : Cell) : Nat := by classical exact if d = c then 1 else 0
noncomputable def cnt (c : Cell) : List Cell → Nat
  | [] => 0
  | d :: r => one1 c d + cnt c r
theorem cnt_nil (c : Cell) : cnt c [] = 0 := rfl
theorem cnt_cons (c d : Cell) (r : List Cell) : cnt c (d :: r) = one1 c d + cnt c r := rfl
theorem cnt_app (c : Cell) : ∀ l r : List Cell, cnt c (l ++ r) = cnt c l + cnt c r
  | [], r => by rw [List.nil_append, cnt_nil, Nat.zero_add]
  | d :: l, r => by rw [List.cons_append, cnt_cons, cnt_cons, cnt_app c l r, Nat.add_assoc]
theorem cnt_mem {c : Cell} : ∀ {l : List Cell}, 0 < cnt c l → c ∈ l
  | [], h => by rw [cnt_nil] at h; omega
  | d :: r, h => by
    classical
    by_cases e : d = c
    · rw [e]; exact List.mem_cons_self
    · rw [cnt_cons] at h
      have z : one1 c d = 0 := by unfold one1; rw [if_neg e]
      exact List.mem_cons_of_mem _ (cnt_mem (by omega))
theorem cnt_perm : ∀ {l r : List Cell}, (∀ c, cnt c l = cnt c r) → l.Perm r
  | [], r, h => by
    cases r with
    | nil => exact List.Perm.nil
    | cons d r =>
      have := h d
      rw [cnt_nil, cnt_cons] at this
      have z : one1 d d = 1 := by unfold one1; rw [if_pos rfl]
      omega
  | d :: l, r, h => by
    have hd := h d
    rw [cnt_cons] at hd
    have z : one1 d d = 1 := by unfold one1; rw [if_pos rfl]
    obtain ⟨r1, r2, e⟩ := List.append_of_mem (cnt_mem (c := d) (l := r) (by omega))
    subst e
    have e2 : l.Perm (r1 ++ r2) := cnt_perm fun c => by
      have := h c
      rw [cnt_cons, cnt_app, cnt_cons] at this
      rw [cnt_app]
      omega
    exact (e2.cons d).trans List.perm_middle.symm
local macro_rules | `(tactic| walk_at "perm") => `(tactic| (refine cnt_perm fun c => ?_; simp only [cnt_app, cnt_cons, cnt_nil, List.append_assoc, List.cons_append, List.nil_append] <;> omega))
example (A B C : List Cell) (x y : Cell) : (A ++ x :: B ++ (y :: C)).Perm (y :: (C ++ A) ++ ([x] ++ B)) := by walk_at "perm"

/-! ### globals -/
section
variable {X : Cx}
theorem pe_globI {x : Str} {i : Int} {pos : Pos} (hg : Gl X x) (hm : ∃ t, X.mg x = some (.int i t)) (hd : (x == ("__debug__" : Str)) = false := by decide) : PE X (.Name x pos) (tC (.int i)) := by
  obtain ⟨t, hm⟩ := hm
  exact pe_glob hg hm ⟨t, rfl⟩ hd
theorem pe_globR {x : Str} {a : Addr} {pos : Pos} (hg : Gl X x) (hm : X.mg x = some (.ref a)) (hd : (x == ("__debug__" : Str)) = false := by decide) : PE X (.Name x pos) (tC (.ref a)) := pe_glob hg hm (show RelV (.ref a) (.ref a) from rfl) hd
theorem pe_globS {x z : Str} {pos : Pos} (hg : Gl X x) (hm : ∃ t, X.mg x = some (.str z t)) (hd : (x == ("__debug__" : Str)) = false := by decide) : PE X (.Name x pos) (tC (.str z)) := by
  obtain ⟨t, hm⟩ := hm
  exact pe_glob hg hm ⟨t, rfl⟩ hd
end

/-! ### two instances of a class without its own __eq__ -/
def CmpC (K : PySem.W.Frag) (C : Addr) : Prop :=
  ∃ (nm q : Str) (N : Addr) (bs : List Value) (hdct : Bool) (sn : List Str) (sub : List Value) (ab : Bool) (col : Option Bool) (dd : Option Addr) (k0 k1 k2 k3 k5 : Option Value) (newId : String),
    K.lookup C = some (excClassObj nm q C N bs [.type "object"] hdct sn sub ab col dd k0 k1 k2 k3 k5 newId) ∧ PySem.W.nsOkIn K N = true ∧ PySem.W.nsIn K N "__eq__" = some none ∧ PySem.W.nsIn K N "__ne__" = some none
def cmpB (K : PySem.W.Frag) (C : Addr) : Bool := match K.lookup C with
  | some ⟨.type t, _, .cls cd, sl⟩ => (match cd.mro, sl.toList with
    | [.ref C', .type o], [_, _, _, _, some (.builtin _), _] => decide (t = "type") && (decide (C' = C) && (decide (o = "object") && (!cd.hasDel && (PySem.W.nsOkIn K cd.ns && (He.eqO (PySem.W.nsIn K cd.ns "__eq__") (some none) && He.eqO (PySem.W.nsIn K cd.ns "__ne__") (some none))))))
    | _, _ => false)
  | _ => false
theorem cmpB_ok {K : PySem.W.Frag} {C : Addr} (q : cmpB K C = true) : CmpC K C := by
  unfold cmpB at q
  split at q
  · rename_i t dd cd sl ho
    split at q
    · rename_i C' o k0 k1 k2 k3 n k5 hm hs
      obtain ⟨q1, q⟩ := He.ba q
      obtain ⟨q2, q⟩ := He.ba q
      obtain ⟨q3, q⟩ := He.ba q
      obtain ⟨q4, q⟩ := He.ba q
      obtain ⟨q5, q⟩ := He.ba q
      obtain ⟨q6, q7⟩ := He.ba q
      have e1 := of_decide_eq_true q1
      have e2 := of_decide_eq_true q2
      have e3 := of_decide_eq_true q3
      obtain ⟨nm, bs, mro, ns, qn, hd, sn, sub, ab, col, del⟩ := cd
      dsimp only at hm q4 q5 q6 q7
      have e4 : del = false := by
        cases del with
        | false => rfl
        | true => cases q4
      subst hm e1 e2 e3 e4
      have hsl : sl = #[k0, k1, k2, k3, some (.builtin n), k5] := by
        obtain ⟨l⟩ := sl
        simp only at hs
        rw [hs]
      subst hsl
      exact ⟨nm, qn, ns, bs, hd, sn, sub, ab, col, dd, k0, k1, k2, k3, k5, n, ho, q5, He.eqO_ok q6, He.eqO_ok q7⟩
    · cases q
  · cases q
theorem CmpC.inst {K : PySem.W.Frag} {C : Addr} {h : Heap} (c : CmpC K C) (X : K.In h) {x dx : Addr} (hx : h.get? x = some (PySem.W.instObj C dx)) : h.CmpInst x C [.type "object"] := by
  obtain ⟨nm, q, N, bs, hdct, sn, sub, ab, col, dd, k0, k1, k2, k3, k5, newId, hC, ho, h1, h2⟩ := c
  exact ⟨_, nm, q, N, bs, hdct, sn, sub, ab, col, dd, k0, k1, k2, k3, k5, newId, _, hx, rfl, X _ _ hC, .of_isNs (PySem.W.isNs_of_in X ho), PySem.W.nsMap_none_of_in X ho h1, PySem.W.nsMap_none_of_in X ho h2⟩
section
variable {X : Cx}
/-- xs.remove(o), xs a list of instances of the class at C -/
def rRemO (C : Addr) : V → List V → Hp → VK → Prop := fun x xs H Q => ∃ (l : Addr) (as : List Addr) (a : Addr) (j : Nat), x = .ref l ∧ xs = [.ref a] ∧ H l = some (.lst (as.map V.ref)) ∧ (∀ b ∈ as, ∃ dx fs, H b = some (.ins C dx fs)) ∧
  as[j]? = some a ∧ (∀ m : Nat, m < j → as[m]? ≠ some a) ∧ Q .non (upd H l (.lst ((as.eraseIdx j).map V.ref)))
theorem refs_of_vals : ∀ {as : List Addr} {us : List Value}, Vals (as.map V.ref) us → us = as.map Value.ref
  | [], _, h => by cases h; rfl
  | a :: as, _, h => by
    cases h with
    | cons r t =>
      obtain rfl := r
      rw [refs_of_vals t]
      rfl
theorem erase_map {α β : Type} (f : α → β) : ∀ (as : List α) (j : Nat), (as.map f).eraseIdx j = (as.eraseIdx j).map f
  | [], _ => rfl
  | _ :: _, 0 => rfl
  | a :: as, j + 1 => by
    show f a :: (as.map f).eraseIdx j = f a :: (as.eraseIdx j).map f
    rw [erase_map f as j]
theorem erase_mapR (as : List Addr) (j : Nat) : (as.map V.ref).eraseIdx j = (as.eraseIdx j).map V.ref := erase_map _ as j
theorem mt_removeO {C : Addr} (c : CmpC X.K C) (hu : X.A.units + 1 < cLine) : MtM X "list.remove" (rRemO C) := by
  intro pins s σ H x xs v us Q I rx rxs h
  obtain ⟨l, as, a, j, rfl, rfl, hH, hI, hj, hno, q⟩ := h
  cases rx
  obtain ⟨u, rfl, ru⟩ := rxs.one
  obtain rfl : u = Value.ref a := ru
  obtain ⟨z, its, n, r, hl, e⟩ := I.lstM hH
  have hi := refs_of_vals r
  subst hi
  rw [List.length_map] at z hl
  have hjn : j < as.length := (List.getElem?_eq_some_iff.mp hj).1
  have inst : ∀ b ∈ as, ∃ dx, s.heap.get? b = some (PySem.W.instObj C dx) := fun b hb => by
    obtain ⟨dx, fs, hb⟩ := hI b hb
    obtain ⟨_, _, _, e, _⟩ := I.hok b _ hb
    exact ⟨dx, e⟩
  have ha : a ∈ as := List.mem_of_getElem? hj
  obtain ⟨dxa, hoa⟩ := inst a ha
  have KX : X.K.In s.heap := I.kIn
  have hsz : (as.map Value.ref).toArray.size = as.length := by simp
  refine call_meets PySem.F.slot_list_remove ⟨_, e, rfl⟩ PySem.F.entry_list_remove (PySem.F.args_list_remove_2 _ _)
    (SeqAt.list_removeAt l (as.map Value.ref).toArray n none #[] (.ref a) (fun y => decide (y = .ref a)) j (by omega) ?_ ?_ (by omega)) ⟨e, fun y hy => ?_, ?_⟩
  · obtain ⟨h1, h2⟩ := List.getElem?_eq_some_iff.mp hj
    simp [h2]
  · intro m hm hmj
    have hmn : m < as.length := by omega
    have hne := hno m hmj
    rw [List.getElem?_eq_getElem hmn] at hne
    simp only [List.getElem_toArray, List.getElem_map, decide_eq_false_iff_not, Value.ref.injEq]
    exact fun q => hne (by rw [q])
  · have hy2 : y ∈ as.map Value.ref := by simpa using hy
    obtain ⟨b, hb, rfl⟩ := List.mem_map.mp hy2
    by_cases eb : b = a
    · subst eb
      rw [decide_eq_true rfl]
      exact SeqAt.EqAt.same _
    · rw [decide_eq_false (by intro q; injection q with q; exact eb q)]
      obtain ⟨dxb, hob⟩ := inst b hb
      refine SeqAt.EqAt.of_refs eb fun prog w E Q hq => ?_
      have F0 := PySem.F.cmp_object
      obtain ⟨hp, g, d, t, os⟩ := s
      exact PySem.richCompare_eq_other F0 F0 (c.inst KX hob) (c.inst KX hoa) eb hu hq
  · have rr := r.eraseIdx j
    rw [erase_mapR] at rr
    refine ⟨.non, _, I.lset (its' := (as.map Value.ref).eraseIdx j) (t' := s.toks) hH e ?_ rr ?_, rfl, q⟩
    · rw [List.eraseIdxIfInBounds_toArray]
    · rw [List.length_map]
      have := List.length_eraseIdx_le as j
      omega
end
/-! ### xs[a:b] = ys -/
def gSlice (to : TE) (tl th : TO) : TG := fun v σ H Q => to σ H fun x H1 => tl σ H1 fun lo H2 => th σ H2 fun hi H3 => ∃ (l b : Addr) (xs ys : List V) (i j : Int), x = .ref l ∧ v = .ref b ∧ lo = some i ∧ hi = some j ∧
  H3 l = some (.lst xs) ∧ H3 b = some (.lst ys) ∧ l ≠ b ∧ 0 ≤ i ∧ i ≤ j ∧ j ≤ xs.length ∧ xs.length + ys.length ≤ sizeLine ∧ Q σ (upd H3 l (.lst (xs.take i.toNat ++ ys ++ xs.drop j.toNat)))
theorem part_int {v : Value} {i : Int} (h : IsPart v (some i)) : RelV (.int i) v := by
  cases h
  exact ⟨_, rfl⟩
theorem pg_slice {X : Cx} {o : Expr} {lo hi : Option Expr} {p2 pos : Pos} {to : TE} {tl th : TO} (ho : PE X o to) (hl : PO X lo tl) (hu : PO X hi th) : PG X (.Subscript o (.Slice lo hi none p2) pos) (gSlice to tl th) := by
  refine ⟨fun pins s σ H v u Q I r h => ?_⟩
  show wpAny _ _ (do
      let ov ← holding [u] (eval o X.env)
      let iv ← holding [u, ov] (eval (.Slice lo hi none p2) X.env)
      standAt pos
      holding [u, ov, iv] (setItem ov iv u)
      release [iv, u, ov] []) _ _ _
  refine wpAny_bind (wpAny_holding (thn (ho.run pins s σ H _ I h) fun ov s1 ⟨x, H1, I1, r1, q1⟩ => ?_))
  refine wpAny_bind (wpAny_holding (wpAny_Slice (thn (hl.run pins s1 σ H1 _ I1 q1) fun vl s2 ⟨l, H2, I2, pl, q2⟩ => thn (hu.run pins s2 σ H2 _ I2 q2) fun vu s3 ⟨u3, H3, I3, pu, q3⟩ => ?_)))
  rw [evalPart_none]
  refine wpAny_pure ?_
  have I4 : Inv X pins σ H3 { s3 with heap := s3.heap.push { cls := .type "slice", data := .fields #[vl, vu, .none] } } := I3.kept (t' := s3.toks) fun b ob q => Heap.get?_push_of_some _ q
  obtain ⟨a, b, xs, ys, i, j, rfl, rfl, rfl, rfl, ha, hb, hne, h0, hij, hjx, hz, q⟩ := q3
  obtain rfl : ov = Value.ref a := r1
  obtain rfl : u = Value.ref b := r
  refine wpAny_bind (wpAny_standAt (wpAny_bind (wpAny_holding (set_slice I4 ha hb hne (Heap.IsSliceOf.new ..) (part_int pl) (part_int pu) h0 hij hjx hz fun s' I5 => ?_))))
  exact wpAny_release ⟨σ, _, I5, q⟩

/-! ### names of readings -/
abbrev rAddI : R2 := rI0 fun i j => .int (i + j)
abbrev rSubI : R2 := rI0 fun i j => .int (i - j)
abbrev rMulI : R2 := rI CMul fun i j => .int (i * j)
abbrev rDivI : R2 := rI CDiv fun i j => .int (i / j)
abbrev rModI : R2 := rI (fun _ j => 0 < j) fun i j => .int (i % j)
abbrev rLtI : R2 := rI0 fun i j => .bl (decide (i < j))
abbrev rLeI : R2 := rI0 fun i j => .bl (decide (i ≤ j))
abbrev rGtI : R2 := rI0 fun i j => .bl (decide (j < i))
abbrev rGeI : R2 := rI0 fun i j => .bl (decide (j ≤ i))
abbrev rLenQ (K : PySem.W.Frag) : List V → Hp → VK → Prop := fun xs H Q => ∃ p ys, xs = [.ref p] ∧ (SqL K H p ys ∨ SqT K H p ys) ∧ Q (.int ys.length) H
abbrev rListQ (K : PySem.W.Frag) : List V → Hp → VK → Prop := fun xs H Q => ∃ p ys, xs = [.ref p] ∧ (SqL K H p ys ∨ SqT K H p ys) ∧ ∀ l, H l = none → Q (.ref l) (upd H l (.lst ys))
abbrev rTupQ (K : PySem.W.Frag) : List V → Hp → VK → Prop := fun xs H Q => ∃ p ys, xs = [.ref p] ∧ ((SqL K H p ys ∧ ∀ l, H l = none → Q (.ref l) (upd H l (.tup ys))) ∨ (SqT K H p ys ∧ Q (.ref p) H))
/-- a for over enumerate(xs) -/
theorem for_enum {K : PySem.W.Frag} {a : Addr} {xs : List V} {g : TG} {tb : TS} {D : Ends} {σ : L2.St} {H : Hp} (Pv : Nat → L2.St → Hp → Prop) (h0 : Pv 0 σ H) (hl : ∀ i σ H, i ≤ xs.length → Pv i σ H → SqL K H a xs)
    (hs : ∀ i x σ H T, xs[i]? = some x → Pv i σ H → H T = none → g (.ref T) σ (upd H T (.tup [.int (i : Nat), x])) fun σ2 H2 => tb { D with nx := Pv (i + 1), ct := Pv (i + 1), bk := D.nx } σ2 H2) (hd : ∀ σ H, Pv xs.length σ H → D.nx σ H) :
    ∃ W : Nat → Nat → L2.St → Hp → Prop, (∃ m, W 0 m σ H) ∧ ∀ i m σ H, W i m σ H →
      ((Ite K a).stop i H ∧ D.nx σ H) ∨ ((Ite K a).go i H ∧ ∃ N : L2.St → Hp → Prop, (∀ σ' H', N σ' H' → ∃ m', m' < m ∧ W (i + 1) m' σ' H') ∧ ∀ x H', (Ite K a).yld i H x H' → g x σ H' fun σ2 H2 => tb { D with nx := N, ct := N, bk := D.nx } σ2 H2) := by
  refine ⟨fun i m σ H => m = xs.length - i ∧ i ≤ xs.length ∧ Pv i σ H, ⟨xs.length, by simp, Nat.zero_le _, h0⟩, ?_⟩
  rintro i m σ H ⟨rfl, hi, p⟩
  have q := hl i σ H hi p
  by_cases hlt : i < xs.length
  · refine .inr ⟨⟨xs, xs[i], q, by simp [hlt]⟩, Pv (i + 1), fun σ' H' p' => ⟨xs.length - (i + 1), by omega, rfl, hlt, p'⟩, fun v H' y => ?_⟩
    obtain ⟨T, x, e1, e2, e3, e4⟩ := y
    subst e1 e3
    exact hs i x σ H T (e4 xs q) p e2
  · have e : i = xs.length := by omega
    subst e
    exact .inl ⟨⟨xs, q, Nat.le_refl _⟩, hd σ H p⟩
-- WwModel
/-! ### the rooms, plainly -/
structure Ln where
  b : Nat
  ns : List Int
  d : Bool
/-- a room's rule: ways, write back, take in, leave late; its title -/
structure Ru where
  ways : Nat
  bk : Bool
  inn : Bool
  lt : Bool
  tl : List V
structure Rm where
  ru : Ru
  ss : List (List Ln)
structure Ent where
  tl : List V
  w : Str
  n : Nat
/-- what stands behind: rooms, the far room's cells, the log -/
structure Ta where
  rs : List Rm
  far : List Int
  log : List Ent
def Ent.vs (e : Ent) : List V := e.tl ++ [.str e.w, .int e.n]
def Rm.ix (r : Rm) (b : Nat) : Nat := b % r.ss.length
def Rm.ls (r : Rm) (b : Nat) : List Ln := r.ss.getD (r.ix b) []
def Rm.put (r : Rm) (b : Nat) (ls : List Ln) : Rm := { r with ss := r.ss.set (r.ix b) ls }
def fnd (b : Nat) : List Ln → Option Nat
  | [] => none
  | l :: r => if l.b = b then some 0 else (fnd b r).map (· + 1)
def Ta.note (t : Ta) (tl : List V) (w : Str) (n : Nat) : Ta := { t with log := t.log ++ [⟨tl, w, n⟩] }
def Ta.cons (r : Rm) (t : Ta) : Ta := { t with rs := r :: t.rs }
def setBlk (far : List Int) (b : Nat) (ns : List Int) : List Int := far.take (b * 4) ++ ns ++ far.drop (b * 4 + 4)
def getBlk (far : List Int) (b : Nat) : List Int := (far.drop (b * 4)).take 4
/-- what may be asked of what stands behind -/
structure Ops where
  hm : Ta → Nat → List Int → Ta
  br : Ta → Nat → List Int × Ta
  ch : Ta → Nat → Int → Ta
def farOps : Ops where
  hm := fun t b ns => { t with far := setBlk t.far b ns }
  br := fun t b => (getBlk t.far b, t)
  ch := fun t p v => { t with far := t.far.set p v }
def passH (o : Ops) (tl : List V) (t : Ta) (b : Nat) (ns : List Int) : Ta := o.hm (t.note tl "home" b) b ns
def passC (o : Ops) (tl : List V) (t : Ta) (p : Nat) (v : Int) : Ta := o.ch (t.note tl "cell" p) p v
/-- one set's lines, by what is done of them -/
def mkWay (o : Ops) (u : Ru) (ls : List Ln) (t : Ta) : List Ln × Ta :=
  if ls.length = u.ways then
    match ls with
    | [] => ([], t)
    | l :: rest => (rest, if l.d = true then passH o u.tl t l.b l.ns else t)
  else (ls, t)
def touchL {α : Type} (lt : Bool) (ls : List α) (i : Nat) : List α := if lt = true then ls.eraseIdx i ++ (ls[i]?).toList else ls
def touchI {α : Type} (lt : Bool) (ls : List α) (i : Nat) : Nat := if lt = true then ls.length - 1 else i
/-- reach: the lines, what is behind, the line's place -/
def reachL (o : Ops) (u : Ru) (ls : List Ln) (t : Ta) (b : Nat) : List Ln × Ta × Nat :=
  match fnd b ls with
  | some i => (touchL u.lt ls i, t, touchI u.lt ls i)
  | none => ((mkWay o u ls t).1 ++ [⟨b, (o.br ((mkWay o u ls t).2.note u.tl "bring" b) b).1, false⟩], (o.br ((mkWay o u ls t).2.note u.tl "bring" b) b).2, (mkWay o u ls t).1.length)
def lnAt (ls : List Ln) (i : Nat) : Ln := ls.getD i ⟨0, [], false⟩
def bringL (o : Ops) (u : Ru) (ls : List Ln) (t : Ta) (b : Nat) : List Int × List Ln × Ta :=
  ((lnAt (reachL o u ls t b).1 (reachL o u ls t b).2.2).ns, (reachL o u ls t b).1, (reachL o u ls t b).2.1)
def lookL (o : Ops) (u : Ru) (ls : List Ln) (t : Ta) (p : Nat) : Int × List Ln × Ta :=
  ((lnAt (reachL o u ls t (p / 4)).1 (reachL o u ls t (p / 4)).2.2).ns.getD (p % 4) 0, (reachL o u ls t (p / 4)).1, (reachL o u ls t (p / 4)).2.1)
def setCell (bk : Bool) (l : Ln) (p : Nat) (v : Int) : Ln := { l with ns := l.ns.set (p % 4) v, d := bk || l.d }
def changeL (o : Ops) (u : Ru) (ls : List Ln) (t : Ta) (p : Nat) (v : Int) : List Ln × Ta :=
  if u.inn = false ∧ fnd (p / 4) ls = none then (ls, passC o u.tl t p v)
  else
    ((reachL o u ls t (p / 4)).1.set (reachL o u ls t (p / 4)).2.2 (setCell u.bk (lnAt (reachL o u ls t (p / 4)).1 (reachL o u ls t (p / 4)).2.2) p v),
      if u.bk = true then (reachL o u ls t (p / 4)).2.1 else passC o u.tl (reachL o u ls t (p / 4)).2.1 p v)
def homeL (o : Ops) (u : Ru) (ls : List Ln) (t : Ta) (b : Nat) (ns : List Int) : List Ln × Ta :=
  match fnd b ls with
  | none =>
    if u.inn = true then ((mkWay o u ls t).1 ++ [⟨b, ns, u.bk⟩], if u.bk = true then (mkWay o u ls t).2 else passH o u.tl (mkWay o u ls t).2 b ns)
    else (ls, passH o u.tl t b ns)
  | some i => ((touchL u.lt ls i).set (touchI u.lt ls i) ⟨b, ns, u.bk⟩, if u.bk = true then t else passH o u.tl t b ns)
def yieldL (o : Ops) (u : Ru) (ls : List Ln) (t : Ta) (b : Nat) (gone : Bool) : List Ln × Ta :=
  match fnd b ls with
  | none => (ls, t)
  | some i => (if gone = true then ls.eraseIdx i else ls.set i { lnAt ls i with d := false }, if (lnAt ls i).d = true then passH o u.tl t b (lnAt ls i).ns else t)
def settleL (o : Ops) (u : Ru) : List Ln → Ta → List Ln × Ta
  | [], t => ([], t)
  | l :: r, t => ({ l with d := false } :: (settleL o u r (if l.d = true then passH o u.tl t l.b l.ns else t)).1, (settleL o u r (if l.d = true then passH o u.tl t l.b l.ns else t)).2)
def settleS (o : Ops) (u : Ru) : List (List Ln) → Ta → List (List Ln) × Ta
  | [], t => ([], t)
  | ls :: r, t => ((settleL o u ls t).1 :: (settleS o u r (settleL o u ls t).2).1, (settleS o u r (settleL o u ls t).2).2)
def ops : Nat → Ops
  | 0 => farOps
  | n + 1 => {
      hm := fun t b ns => match t.rs with
        | [] => t
        | r :: rs => Ta.cons (r.put b (homeL (ops n) r.ru (r.ls b) { t with rs := rs } b ns).1) (homeL (ops n) r.ru (r.ls b) { t with rs := rs } b ns).2
      br := fun t b => match t.rs with
        | [] => ([], t)
        | r :: rs => ((bringL (ops n) r.ru (r.ls b) { t with rs := rs } b).1, Ta.cons (r.put b (bringL (ops n) r.ru (r.ls b) { t with rs := rs } b).2.1) (bringL (ops n) r.ru (r.ls b) { t with rs := rs } b).2.2)
      ch := fun t p v => match t.rs with
        | [] => t
        | r :: rs => Ta.cons (r.put (p / 4) (changeL (ops n) r.ru (r.ls (p / 4)) { t with rs := rs } p v).1) (changeL (ops n) r.ru (r.ls (p / 4)) { t with rs := rs } p v).2 }

/-! ### what holds of them -/
structure LnOk (l : Ln) : Prop where
  b : l.b < 16
  ns : l.ns.length = 4
structure LsOk (u : Ru) (ls : List Ln) : Prop where
  len : ls.length ≤ u.ways
  ok : ∀ l ∈ ls, LnOk l
structure RuOk (u : Ru) : Prop where
  w0 : 0 < u.ways
  w4 : u.ways ≤ 4
  t4 : u.tl.length ≤ 4
structure RmOk (r : Rm) : Prop where
  s0 : 0 < r.ss.length
  s4 : r.ss.length ≤ 4
  ru : RuOk r.ru
  ln : ∀ ls ∈ r.ss, LsOk r.ru ls
structure TaOk (n : Nat) (t : Ta) : Prop where
  len : t.rs.length = n
  rs : ∀ r ∈ t.rs, RmOk r
  far : t.far.length = 64

/-! ### the same with addresses -/
structure LnA where
  a : Addr
  dx : Addr
  na : Addr
  l : Ln
/-- what stands behind: rooms one before the other, the far one last -/
inductive Pa where
  | far (la : Addr)
  | room (a : Addr) (be : Pa)
def Pa.ad : Pa → Addr
  | .far la => la
  | .room a _ => a
/-- a room's head: its object, its dict, the list of its sets, its title; its rule, what is behind, the diary, the sets -/
structure Hd where
  a : Addr
  dx : Addr
  sl : Addr
  ti : Addr
  u : Ru
  be : Pa
  di : Addr
  sas : List Addr
def fLine (b n d : V) : List (Str × V) := [("block", b), ("numbers", n), ("is_dirty", d)]
def fRoom (w bk inn lt be ti di ss : V) : List (Str × V) := [("ways", w), ("is_back", bk), ("is_in", inn), ("is_late", lt), ("behind", be), ("title", ti), ("diary", di), ("sets", ss)]
def fFar (h : V) : List (Str × V) := [("held", h)]
def fHall (d l s o : V) : List (Str × V) := [("diary", d), ("last", l), ("shared", s), ("own", o)]
def lnC (CL : Addr) (l : LnA) : List Cell := [(l.a, .ins CL l.dx (fLine (.int l.l.b) (.ref l.na) (.bl l.l.d))), (l.na, .lst (l.l.ns.map V.int))]
def lnsC (CL : Addr) : List LnA → List Cell
  | [] => []
  | l :: r => lnC CL l ++ lnsC CL r
def stC (CL : Addr) (s : Addr × List LnA) : List Cell := (s.1, .lst (s.2.map fun l => V.ref l.a)) :: lnsC CL s.2
def stsC (CL : Addr) : List (Addr × List LnA) → List Cell
  | [] => []
  | s :: r => stC CL s ++ stsC CL r
def hdO (CR : Addr) (h : Hd) : HO := .ins CR h.dx (fRoom (.int h.u.ways) (.bl h.u.bk) (.bl h.u.inn) (.bl h.u.lt) (.ref h.be.ad) (.ref h.ti) (.ref h.di) (.ref h.sl))
def hdC (CR : Addr) (h : Hd) : List Cell := [(h.a, hdO CR h), (h.sl, .lst (h.sas.map V.ref)), (h.ti, .tup h.u.tl)]
/-- a room at a, with be behind and the diary di -/
def RmRep (CL CR di a : Addr) (be : Pa) (r : Rm) (C : List Cell) : Prop := ∃ (h : Hd) (ss : List (Addr × List LnA)), h.a = a ∧ h.be = be ∧ h.di = di ∧ h.u = r.ru ∧ h.sas = ss.map (·.1) ∧ r.ss = ss.map (fun s => s.2.map (·.l)) ∧ C = hdC CR h ++ stsC CL ss
/-- what stands behind -/
def Rep (CF CL CR di : Addr) : Pa → List Rm → List Int → List Cell → Prop
  | .far la, [], far, C => ∃ dx fl, C = [(la, .ins CF dx (fFar (.ref fl))), (fl, .lst (far.map V.int))]
  | .room a be, r :: rs, far, C => ∃ C1 C2 : List Cell, RmRep CL CR di a be r C1 ∧ Rep CF CL CR di be rs far C2 ∧ C = C1 ++ C2
  | _, _, _, _ => False
def logC : List Addr → List Ent → List Cell
  | a :: as, e :: es => (a, .tup e.vs) :: logC as es
  | _, _ => []
def DRep (di : Addr) (log : List Ent) (C : List Cell) : Prop := ∃ as : List Addr, as.length = log.length ∧ C = (di, .lst (as.map V.ref)) :: logC as log
-- WwXc
/-! ### own classes of exceptions: what is checked of the written part -/
/-- the class's object is as the making of its instances wants it -/
def oexB (K : PySem.W.Frag) (C : Addr) : Bool := match K.lookup C with
  | some ⟨.type "type", _, .cls cd, sl⟩ => (match cd.mro, sl.toList with
    | .ref D :: bm, [_, _, _, _, some (.builtin n), _] => D == C && (n == "ValueError.__new__" && (!cd.hasDel && (cd.hasDict && PySem.HandSPX.refsVE bm)))
    | _, _ => false)
  | _ => false
theorem oexB_ok {K : PySem.W.Frag} {C : Addr} (q : oexB K C = true) : ∃ nm qn N bs bm sn sub ab col dd k0 k1 k2 k3 k5, K.lookup C = some (excClassObj nm qn C N bs bm true sn sub ab col dd k0 k1 k2 k3 k5 "ValueError.__new__") ∧ PySem.HandSPX.refsVE bm = true := by
  unfold oexB at q
  split at q
  · rename_i dct cd sl hk
    split at q
    · rename_i D bm y0 y1 y2 y3 n y5 em es
      obtain ⟨q1, q⟩ := Bool.and_eq_true_iff.mp q
      obtain ⟨q2, q⟩ := Bool.and_eq_true_iff.mp q
      obtain ⟨q3, q⟩ := Bool.and_eq_true_iff.mp q
      obtain ⟨q4, q5⟩ := Bool.and_eq_true_iff.mp q
      obtain ⟨c1, c2, c3, c4, c5, c6, c7, c8, c9, c10, c11⟩ := cd
      have e3 : c11 = false := by
        have : (!c11) = true := q3
        cases c11
        · rfl
        · cases this
      have e4 : c6 = true := q4
      have em : c3 = .ref D :: bm := em
      have eD : D = C := eq_of_beq q1
      have en : n = "ValueError.__new__" := eq_of_beq q2
      have hsl : sl = #[y0, y1, y2, y3, some (.builtin n), y5] := by
        obtain ⟨sl⟩ := sl
        have es : sl = _ := es
        rw [es]
      subst e3 e4 em eD en hsl
      exact ⟨c1, c5, c4, c2, bm, c7, c8, c9, c10, dct, y0, y1, y2, y3, y5, hk, q5⟩
    · cases q
  · cases q
/-- all that is asked of a class of exceptions -/
structure XcC (K : PySem.W.Frag) (C : Addr) : Prop where
  cl : (PySem.W.clsIn K C).isSome = true
  ga : PySem.W.findIn K (.ref C) "__getattribute__" = some (some (.builtin "BaseException.__getattribute__"))
  gg : PySem.W.findIn K (.ref C) "__getattr__" = some none
  sb : PySem.W.subIn K (.ref C) (.type "BaseException") = some true
  hd : PySem.W.hasDictIn K C = true
  hc : PySem.W.findIn K (.ref C) "__class__" = some (some (.builtin "object.__class__"))
  sg : PySem.W.specialIn K (.builtin "object.__class__") "__get__" = some (some (.builtin "getset_descriptor.__get__"))
  tk : PySem.W.takesIn K (.builtin "object.__class__") = some true
  mo : PySem.W.mroIn K C (.type "object") = some true
  sa : PySem.W.findIn K (.ref C) "__setattr__" = some (some (.builtin "object.__setattr__"))
  ty : PySem.W.typeIn K (.ref C) = some (.type "type")
  kp : PySem.W.keepIn K (.ref C) = true
def xcB (K : PySem.W.Frag) (C : Addr) : Bool :=
  (PySem.W.clsIn K C).isSome && (He.eqO (PySem.W.findIn K (.ref C) "__getattribute__") (some (some (.builtin "BaseException.__getattribute__"))) && (He.eqO (PySem.W.findIn K (.ref C) "__getattr__") (some none) && (decide (PySem.W.subIn K (.ref C) (.type "BaseException") = some true) &&
  (PySem.W.hasDictIn K C && (He.eqO (PySem.W.findIn K (.ref C) "__class__") (some (some (.builtin "object.__class__"))) && (He.eqO (PySem.W.specialIn K (.builtin "object.__class__") "__get__") (some (some (.builtin "getset_descriptor.__get__"))) &&
  (decide (PySem.W.takesIn K (.builtin "object.__class__") = some true) && (decide (PySem.W.mroIn K C (.type "object") = some true) && (He.eqO (PySem.W.findIn K (.ref C) "__setattr__") (some (some (.builtin "object.__setattr__"))) && (decide (PySem.W.typeIn K (.ref C) = some (.type "type")) && PySem.W.keepIn K (.ref C)))))))))))
theorem xcB_ok {K : PySem.W.Frag} {C : Addr} (q : xcB K C = true) : XcC K C := by
  obtain ⟨q1, q⟩ := He.ba q
  obtain ⟨q2, q⟩ := He.ba q
  obtain ⟨q3, q⟩ := He.ba q
  obtain ⟨q4, q⟩ := He.ba q
  obtain ⟨q5, q⟩ := He.ba q
  obtain ⟨q6, q⟩ := He.ba q
  obtain ⟨q7, q⟩ := He.ba q
  obtain ⟨q8, q⟩ := He.ba q
  obtain ⟨q9, q⟩ := He.ba q
  obtain ⟨q10, q⟩ := He.ba q
  obtain ⟨q11, q12⟩ := He.ba q
  exact ⟨q1, He.eqO_ok q2, He.eqO_ok q3, of_decide_eq_true q4, q5, He.eqO_ok q6, He.eqO_ok q7, of_decide_eq_true q8, of_decide_eq_true q9, He.eqO_ok q10, of_decide_eq_true q11, q12⟩
theorem XcC.oex {K : PySem.W.Frag} {C : Addr} (x : XcC K C) (o : oexB K C = true) : OexC K C := ⟨oexB_ok o, x.sa, x.sb, x.ty, x.kp⟩
theorem XcC.xf {K : PySem.W.Frag} {C : Addr} (x : XcC K C) : XfC K C := ⟨x.ga, x.gg, x.sb, x.hd⟩
/-! ### isinstance(e, c) in the suite, whatever the exception's dict -/
def rIsX (K : PySem.W.Frag) (a : Addr) (cls : Value) (d : Option Addr) : List V → Hp → VK → Prop := fun xs H Q =>
  ∃ (D : Addr) (c : V) (cv : Value) (b : Bool), cls = .ref D ∧ XcC K D ∧ (∀ dd, d = some dd → ∃ fs, H dd = some (.xd fs)) ∧ xs = [.ref a, c] ∧ (∀ u, RelV c u → u = cv) ∧ PySem.W.kitOne K (.ref D) cv = some b ∧ Q (.bl b) H
theorem call_isX {X : Cx} {a : Addr} {oe : Obj} {cls : Value} {d : Option Addr} {pn : List (Addr × Obj)} (hz : Zc cls d oe) (hf : ∃ vs, oe.data = .fields vs) : CallR (X.suite a ((a, oe) :: pn)) (.builtin "isinstance") (rIsX X.K a cls d) := by
  intro pins s σ H xs us Q I r h
  obtain ⟨D, c, cv, b, rfl, C, hd, rfl, hcv, e, q⟩ := h
  cases r with
  | cons rx rr =>
    cases rr with
    | cons rt rr =>
      cases rr
      cases rx
      have ec := hcv _ rt
      subst ec
      obtain ⟨hget, _⟩ := I.pin (a, oe) (List.mem_append_left _ List.mem_cons_self)
      obtain ⟨vs, hv⟩ := hf
      obtain ⟨z1, z2⟩ := hz
      obtain ⟨od, J⟩ : ∃ od, PySem.W.InstAt s.heap a oe D od := by
        cases d with
        | none =>
          refine ⟨none, hget, z1, by unfold PySem.W.notCls; rw [hv] <;> rfl, ?_⟩
          rw [z2]
          trivial
        | some dd =>
          obtain ⟨fs, hfs⟩ := hd dd rfl
          have hx : ObjOk X.prog X.w H s.heap dd (.xd fs) := I.hok dd _ hfs
          obtain ⟨mA, ⟨o, _, _, ho, _⟩, _⟩ := hx
          refine ⟨some o, hget, z1, by unfold PySem.W.notCls; rw [hv] <;> rfl, ?_⟩
          rw [z2]
          exact ho
      exact PySem.W.kia_one (PySem.W.kitx_exc C.cl C.ga C.gg C.sb C.hc C.sg C.tk C.mo) I.kIn J e (fun z => nomatch z) fun tk => ⟨.bl b, H, I.kept (t' := tk) fun _ _ z => z, rfl, q⟩
/-! ### e.f in the suite -/
def tXg (K : PySem.W.Frag) (a : Addr) (cls : Value) (d : Option Addr) (f : Str) (te : TE) : TE := fun σ H Q => te σ H fun x H1 => x = .ref a ∧ ∃ (C dd : Addr) (fs : List (Str × V)) (v : V), cls = .ref C ∧ XcC K C ∧ PySem.W.findIn K (.ref C) f = some none ∧ d = some dd ∧ H1 dd = some (.xd fs) ∧ fs.lookup f = some v ∧ Q v H1
theorem pe_xg {X : Cx} {a : Addr} {oe : Obj} {cls : Value} {d : Option Addr} {pn : List (Addr × Obj)} {e : Expr} {te : TE} {pos : Pos} {n : Str} (hz : Zc cls d oe) (hf : ∃ vs, oe.data = .fields vs) (he : PE (X.suite a ((a, oe) :: pn)) e te)
    (hb : attributeBase e n X.env (eval e X.env) = eval e X.env := by rfl) : PE (X.suite a ((a, oe) :: pn)) (.Attribute e n pos) (tXg X.K a cls d n te) := by
  refine ⟨fun pins s σ H Q I h => ?_⟩
  have base := (he.run pins s σ H _ I h)
  refine attr_of hb (thn base fun u s1 hh => ?_)
  obtain ⟨x, H1, I1, rx, ex, C, dd, fs, v, rfl, T, hno, rfl, ea, l, q⟩ := hh
  subst ex
  obtain rfl : u = Value.ref a := rx
  obtain ⟨ha, _⟩ := I1.pin (a, oe) (List.mem_append_left _ List.mem_cons_self)
  obtain ⟨vs, hdt⟩ := hf
  have hx : ObjOk X.prog X.w H1 s1.heap dd (.xd fs) := I1.hok dd _ ea
  obtain ⟨mA, hns, hr⟩ := hx
  obtain ⟨od, ho, hl⟩ := lookIn_ns hns
  obtain ⟨u, hu, ru⟩ := RelO.some_of (v := v) (o := mA n) (by rw [← l]; exact hr n)
  have nc : PySem.W.notCls oe = true := by unfold PySem.W.notCls; rw [hdt] <;> rfl
  have J : PySem.W.InstAt s1.heap a oe C (some od) := ⟨ha, hz.1, nc, by rw [hz.2]; exact ho⟩
  refine HandSPX.exc_get I1.kIn J T.ga T.gg T.sb (PySem.W.findObj_own T.hd hno rfl (by rw [hl, hu])) (handed_of ru) ⟨v, H1, I1.tok _, ru, q⟩
/-! ### W.__init__(self, ..), W an own class over ValueError without an own __init__ -/
theorem pe_weinit {X : Cx} {e : Expr} {es : List Expr} {ta : TA} {x : Str} {p1 p2 pos : Pos} {pl : Sem Bool} {W : Addr} (gx : Gl X x) (mx : X.mg x = some (.ref W))
    (sg : PySem.W.specialIn X.K (.ref W) "__getattribute__" = some (some (.builtin "type.__getattribute__"))) (rd : PySem.W.readsIn X.K W (.type "type") = true)
    (fc : PySem.W.findCls X.K (.ref W) (.type "type") "__init__" = some (.val (.builtin "ValueError.__init__"))) (pa : PA X (e :: es) ta)
    (ec : eval (.Call (.Attribute (.Name x p1) "__init__" p2) (e :: es) [] pos) X.env = (do
      let ov ← eval (.Name x p1) X.env
      standAt p2.atName
      let (fu, fi) ← holding [ov] (getMethod ov "__init__" pl)
      callWith pos fu fi (backTo pos (starEach (e :: es) X.env)) (backToKw pos (keywordEach [] X.env))) := by rfl)
    (hdb : (x == ("__debug__" : Str)) = false := by decide) (h1 : starEach (e :: es) X.env = (false, eval e X.env) :: starEach es X.env := by rfl) (h2 : (backTo pos (starEach es X.env)).any (·.1) = false := by rfl) :
    PE X (.Call (.Attribute (.Name x p1) "__init__" p2) (e :: es) [] pos) (tVeI X.K ta) := by
  refine ⟨fun pins s σ H Q I h => ?_⟩
  refine PySem.W.methodCall_KW (ld_glob I gx mx ?_ hdb) ec
  refine PySem.W.method_cls I.kIn sg (PySem.W.cls_value I.kIn rd fc (by decide +kernel) ?_)
  refine PyProof.Rows.callWith_method1 (thn (pa.run pos pins _ σ H _ (I.tok _) h) fun us s1 hh => ?_) h1 h2
  obtain ⟨vs, H1, I1, r1, a, C, ws, ev, hl, T, ea, q⟩ := hh
  subst ev
  cases r1 with
  | @cons _ u0 _ ur ra rw' =>
    obtain rfl : u0 = Value.ref a := ra
    refine oinit_ok T I1 ea (by rw [← Paired.length rw', sizeLine_eq]; omega) fun s' J => ⟨.non, H1, J, rfl, q⟩
/-! ### raise C(n) of a class whose __init__ keeps one field -/
/-- what __init__ of such a class does -/
def spExI (K : PySem.W.Frag) (C : Addr) (f : Str) : Sp := fun vs H Q _ => ∃ (a : Addr) (n : Int), vs = [.ref a, .int n] ∧ n.natAbs < 2 ^ 60 ∧ H a = some (exo a C none) ∧
  ∀ dx, H dx = none → dx ≠ a → Q .non (upd (upd H dx (exd dx [(f, .int n)])) a (exo a C (some dx)))
theorem rz_go {C : Addr} {f : Str} {K : PySem.W.Frag} {H1 : Hp} {Q : XK} {n : Int} (hn : n.natAbs < 2 ^ 60) (k : ∀ d, H1 d = none → Q (.ref C) (some d) (upd H1 d (.xd [(f, .int n)]))) :
    ([V.int n] : List V).length ≤ 1000 ∧ ∀ a, H1 a = none → spExI K C f (.ref a :: ([V.int n] ++ [])) (upd H1 a (exo a C none))
      (fun v H2 => v = .non ∧ ∃ (d : Addr) (fs : List (Str × V)), H2 a = some (exo a C (some d)) ∧ H2 d = some (exd d fs) ∧ H1 d = none ∧ Q (.ref C) (some d) (upd (del H2 a) d (.xd fs))) (fun _ _ _ => False) := by
  refine ⟨by show 1 ≤ 1000; decide, fun a ha => ⟨a, n, rfl, hn, upd_same, fun dx hdx hne => ?_⟩⟩
  have hd1 : H1 dx = none := by
    rw [upd_ne hne] at hdx
    exact hdx
  refine ⟨rfl, dx, [(f, .int n)], upd_same, by rw [upd_ne hne, upd_same], hd1, ?_⟩
  have e : upd (del (upd (upd (upd H1 a (exo a C none)) dx (exd dx [(f, V.int n)])) a (exo a C (some dx))) a) dx (HO.xd [(f, V.int n)]) = upd H1 dx (.xd [(f, .int n)]) := by
    funext b
    by_cases hb : b = dx
    · rw [hb, upd_same, upd_same]
    · rw [upd_ne hb, upd_ne hb]
      by_cases ha2 : b = a
      · rw [ha2, del_same, ha]
      · rw [del_ne ha2, upd_ne ha2, upd_ne hb, upd_ne ha2]
  rw [e]
  exact k dx hd1
theorem log60 {n : Int} (h : n.natAbs < 2 ^ 60) : n.natAbs.log2 < 1920 := by
  by_cases z : n.natAbs = 0
  · rw [z]
    decide
  · exact Nat.lt_trans ((Nat.log2_lt z).mpr h) (by decide)
theorem int_fits60 {n : Int} (h : n.natAbs < 2 ^ 60) {x : Str} (hx : x.length ≤ 100) : (x ++ Str.ofString (toString n)).length ≤ sizeLine := by
  have e := int_text_length_le (a := n) (k := 1920) (by decide) (log60 h)
  rw [Str.length_append, PySem.ofString_length, sizeLine_eq]
  omega
theorem isFn_ty {K : PySem.W.Frag} {v : Value} (h : PySem.W.isFn K v = true) : PySem.W.typeIn K v = some (.type "function") := eq_of_beq h
/-- the slots are as many as the names -/
theorem takesLen {X : Cx} {W : WX} (t : Takes X W) : Takes X (fun cls d σ H => σ.length = X.N.length → W cls d σ H) := fun u s' ⟨a, B, sI, pins, σ, H, cls, d, e, I, nb, up, sky, na, os, ag, w⟩ =>
  t u s' ⟨a, B, sI, pins, σ, H, cls, d, e, I, nb, up, sky, na, os, ag, w I.len⟩
/-! ### the program's classes of exceptions, by their names -/
structure ExcT (K : PySem.W.Frag) (cs : List Str) : Prop where
  xc : ∀ c ∈ cs, XcC K (He.ga K c)
  ex : ∀ c ∈ cs, PySem.W.exmOne K (.ref (He.ga K c)) (.ref (He.ga K "WayError")) = some true
  kit : ∀ c ∈ cs, ∀ d ∈ cs, PySem.W.kitOne K (.ref (He.ga K c)) (.ref (He.ga K d)) = some (decide (c = d))
  kv : ∀ c ∈ cs, PySem.W.kitOne K (.ref (He.ga K c)) (.type "ValueError") = some true
  sg : PySem.W.specialIn K (.ref (He.ga K "WayError")) "__getattribute__" = some (some (.builtin "type.__getattribute__"))
  rd : PySem.W.readsIn K (He.ga K "WayError") (.type "type") = true
  fc : PySem.W.findCls K (.ref (He.ga K "WayError")) (.type "type") "__init__" = some (.val (.builtin "ValueError.__init__"))
def isVal (r : Option PySem.W.CFound) (v : Value) : Bool := match r with
  | some (.val u) => decide (u = v)
  | _ => false
theorem isVal_ok {r : Option PySem.W.CFound} {v : Value} (h : isVal r v = true) : r = some (.val v) := by
  unfold isVal at h
  split at h
  · rw [of_decide_eq_true h]
  · cases h
def excTB (K : PySem.W.Frag) (cs : List Str) : Bool :=
  (cs.all fun c => xcB K (He.ga K c) && (decide (PySem.W.exmOne K (.ref (He.ga K c)) (.ref (He.ga K "WayError")) = some true) && (decide (PySem.W.kitOne K (.ref (He.ga K c)) (.type "ValueError") = some true) && cs.all fun d => decide (PySem.W.kitOne K (.ref (He.ga K c)) (.ref (He.ga K d)) = some (decide (c = d)))))) &&
  (He.eqO (PySem.W.specialIn K (.ref (He.ga K "WayError")) "__getattribute__") (some (some (.builtin "type.__getattribute__"))) && (PySem.W.readsIn K (He.ga K "WayError") (.type "type") && isVal (PySem.W.findCls K (.ref (He.ga K "WayError")) (.type "type") "__init__") (.builtin "ValueError.__init__")))
theorem excTB_ok {K : PySem.W.Frag} {cs : List Str} (h : excTB K cs = true) : ExcT K cs := by
  obtain ⟨h1, h⟩ := He.ba h
  obtain ⟨h2, h⟩ := He.ba h
  obtain ⟨h3, h4⟩ := He.ba h
  have at_ := List.all_eq_true.mp h1
  refine ⟨fun c hc => ?_, fun c hc => ?_, fun c hc d hd => ?_, fun c hc => ?_, He.eqO_ok h2, h3, isVal_ok h4⟩
  · exact xcB_ok (He.ba (at_ c hc)).1
  · exact of_decide_eq_true (He.ba (He.ba (at_ c hc)).2).1
  · exact of_decide_eq_true (List.all_eq_true.mp (He.ba (He.ba (He.ba (at_ c hc)).2).2).2 d hd)
  · exact of_decide_eq_true (He.ba (He.ba (He.ba (at_ c hc)).2).2).1
def bads : List Str := ["BadRule", "BadHands", "BadHand", "BadPlace", "BadNumber", "BadDeed", "BadRoom", "BadWays", "BadLeavings", "BadText"]
/-! ### the head's facts, the interpreter's statics among them -/
def asY (g : Addr → Option Obj) (n : Nat) : List Addr := He.asD g n ++ [cStatics]
def obsY (n : Nat) (fa : List He.Fa) (fn : List He.DefD) (tf : List He.Defn) (ex : PySem.W.Frag → Bool) (g : Addr → Option Obj) : He.AlX := (He.obsT fa fn [] (He.frT g (asY g n)), ex (He.frT g (asY g n)) && He.tabsB g tf (He.frT g (asY g n)))
theorem saysY_of {n : Nat} {fa : List He.Fa} {fn : List He.DefD} {tf : List He.Defn} {ex : PySem.W.Frag → Bool} {w : World} {h : Heap} (e : obsY n fa fn tf ex h.get? = He.valX fn [] w) : He.SaysX fa fn [] tf ex w h (He.frT h.get? (asY h.get? n)) := by
  have out : ∀ {a : Addr} {o : Obj}, h.get? a = some o → He.emptyTab o = true → (He.frT h.get? (asY h.get? n)).lookup a = none := fun q z => He.frT_none q z
  have e1 := congrArg Prod.fst e
  have e2 := congrArg Prod.snd e
  dsimp only [obsY] at e1 e2
  generalize He.frT h.get? (asY h.get? n) = K at e1 e2 out ⊢
  obtain ⟨a1, a2⟩ := He.ba (show (ex K && He.tabsB h.get? tf K) = true from e2)
  have key : ∀ p ∈ tf, PySem.W.codeHdIn K (He.cT K p).1 (He.cT K p).2 = true ∧ ∃ o, h.get? (He.cT K p).2 = some o ∧ He.emptyTab o = true := fun p hp => by
    obtain ⟨b1, b2⟩ := He.ba (List.all_eq_true.mp a2 p hp)
    refine ⟨b1, ?_⟩
    split at b2
    · rename_i o q
      exact ⟨o, q, b2⟩
    · cases b2
  refine ⟨e1, a1, fun p hp => (key p hp).1, fun p hp => ?_, fun p hp => ?_⟩
  · obtain ⟨_, o, q, z⟩ := key p hp
    exact out q z
  · obtain ⟨_, o, q, z⟩ := key p hp
    rw [q, He.emptyTab_eq z]
def hookY (n : Nat) (fa : List He.Fa) (fn : List He.DefD) (tf : List He.Defn) (ex : PySem.W.Frag → Bool) : PySem.W.Hook where
  α := He.AlX
  obs s := obsY n fa fn tf ex s.heap.get?
  val w := He.valX fn [] w
  says w h := ∃ K : PySem.W.Frag, K.In h ∧ He.SaysX fa fn [] tf ex w h K
  of _ _ e := ⟨_, He.frT_in, saysY_of e⟩
  keeps _ _ _ z k := by
    obtain ⟨K, hK, c⟩ := z
    exact ⟨K, hK.keeps k, c.t, c.more, c.hd, c.out, fun p hp => k _ _ (c.empty p hp)⟩
theorem obsY_eq {n : Nat} {fa : List He.Fa} {fn : List He.DefD} {tf : List He.Defn} {ex : PySem.W.Frag → Bool} {g : Addr → Option Obj} {s : Shared} (h : ∀ a, g a = s.heap.get? a) : obsY n fa fn tf ex g = (hookY n fa fn tf ex).obs s := by
  have e : g = s.heap.get? := funext h
  subst e
  rfl
/-! ### tables of code objects, as cells -/
def isTb : HO → Bool
  | .tbl _ => true
  | .ext _ => true
  | _ => false
/-- cells that are no tables and no code objects -/
def NT (L : List Cell) : Prop := ∀ c ∈ L, isTb c.2 = false
theorem NT.nil : NT [] := fun c hc => by cases hc
theorem NT.cons {c : Cell} {L : List Cell} (h : isTb c.2 = false) (k : NT L) : NT (c :: L) := fun d hd => by
  rcases List.mem_cons.mp hd with e | e
  · rw [e]
    exact h
  · exact k d e
theorem NT.app {L M : List Cell} (h : NT L) (k : NT M) : NT (L ++ M) := fun d hd => (List.mem_append.mp hd).elim (h d) (k d)
theorem NT.left {L M : List Cell} (h : NT (L ++ M)) : NT L := fun d hd => h d (List.mem_append_left _ hd)
theorem NT.right {L M : List Cell} (h : NT (L ++ M)) : NT M := fun d hd => h d (List.mem_append_right _ hd)
/-- of any cells those that are none -/
def nt (L : List Cell) : List Cell := L.filter fun c => !isTb c.2
theorem nt_mem {L : List Cell} {c : Cell} : c ∈ nt L ↔ c ∈ L ∧ isTb c.2 = false := by
  unfold nt
  rw [List.mem_filter]
  cases isTb c.2 <;> simp
theorem nt_NT (L : List Cell) : NT (nt L) := fun c hc => (nt_mem.mp hc).2
theorem nt_sub (L : List Cell) : (nt L).Sublist L := List.filter_sublist
theorem Own.extN {H H1 : Hp} {L : List Cell} (O : Own H L) (n : NT L) (e : LamX.ExtN H H1) : Own H1 L := ⟨O.1, fun c hc => e c.1 c.2 (O.2 c hc) fun ps z => by
  have := n c hc
  rw [z] at this
  cases this⟩
def TabC (TL : List Cell) (P : Addr) (q : Str) : Prop := ∃ ps : Array Value, (P, HO.tbl ps) ∈ TL ∧ TriplesOk ps.toList ∧ ∀ (pos : Pos) (cv : Value), codeAmong pos ps.toList = some cv → ∃ c, cv = .ref c ∧ (c, LamX.CodeO c q) ∈ TL
theorem TabC.tab {TL : List Cell} {P : Addr} {q : Str} (t : TabC TL P q) {H : Hp} (O : ∀ c ∈ TL, H c.1 = some c.2) : LamX.TabS H P q := by
  obtain ⟨ps, h1, h2, h3⟩ := t
  refine ⟨ps, O _ h1, h2, fun pos cv hc => ?_⟩
  obtain ⟨c, e, hm⟩ := h3 pos cv hc
  exact ⟨c, e, O _ hm⟩
def uniq : List Addr → List Addr
  | [] => []
  | a :: l => if a ∈ l then uniq l else a :: uniq l
theorem uniq_mem {a : Addr} : ∀ {l : List Addr}, a ∈ uniq l ↔ a ∈ l
  | [] => Iff.rfl
  | b :: l => by
    unfold uniq
    split
    · rename_i h
      rw [uniq_mem, List.mem_cons]
      exact ⟨.inr, fun z => z.elim (fun e => e ▸ h) id⟩
    · rw [List.mem_cons, List.mem_cons, uniq_mem]
theorem uniq_nd : ∀ l : List Addr, (uniq l).Nodup
  | [] => List.nodup_nil
  | b :: l => by
    unfold uniq
    split
    · exact uniq_nd l
    · rename_i h
      exact List.nodup_cons.mpr ⟨fun z => h (uniq_mem.mp z), uniq_nd l⟩
theorem among_mem {pos : Pos} {cv : Value} : ∀ {l : List Value}, codeAmong pos l = some cv → cv ∈ l := by
  intro l
  fun_induction codeAmong pos l with
  | case1 =>
    intro h
    obtain rfl := Option.some.inj h
    simp
  | case2 _ _ _ _ _ _ _ ih =>
    intro h
    have := ih h
    simp [this]
  | case3 => exact fun h => nomatch h
def refsIn (vs : List Value) : List Addr := vs.filterMap fun v => match v with
  | .ref c => some c
  | _ => none
theorem tab_cells {H : Hp} {L : List Cell} {P : Addr} {q : Str} (t : LamX.TabS H P q) (O : Own H L) (n : NT L) : ∃ TL, TabC TL P q ∧ Own H (L ++ TL) := by
  classical
  obtain ⟨ps, hP, ht, ha⟩ := t
  obtain ⟨cs, hcs⟩ : ∃ cs, cs = uniq ((refsIn ps.toList).filter fun c => decide (H c = some (LamX.CodeO c q))) := ⟨_, rfl⟩
  have hc : ∀ c ∈ cs, H c = some (LamX.CodeO c q) := fun c h => by
    rw [hcs] at h
    exact of_decide_eq_true (List.mem_filter.mp (uniq_mem.mp h)).2
  have nd : cs.Nodup := by
    rw [hcs]
    exact uniq_nd _
  have isT : ∀ d ∈ ((P, HO.tbl ps) :: cs.map fun c => (c, LamX.CodeO c q)), H d.1 = some d.2 ∧ isTb d.2 = true := fun d hd => by
    rcases List.mem_cons.mp hd with e | e
    · rw [e]
      exact ⟨hP, rfl⟩
    · obtain ⟨c, h, rfl⟩ := List.mem_map.mp e
      exact ⟨hc c h, rfl⟩
  refine ⟨(P, .tbl ps) :: cs.map fun c => (c, LamX.CodeO c q), ⟨ps, List.mem_cons_self, ht, fun pos cv h => ?_⟩, ?_, fun d hd => ?_⟩
  · obtain ⟨c, rfl, h2⟩ := ha pos cv h
    refine ⟨c, rfl, List.mem_cons_of_mem _ (List.mem_map.mpr ⟨c, ?_, rfl⟩)⟩
    rw [hcs]
    exact uniq_mem.mpr (List.mem_filter.mpr ⟨List.mem_filterMap.mpr ⟨.ref c, among_mem h, rfl⟩, decide_eq_true h2⟩)
  · rw [List.map_append]
    refine List.nodup_append.mpr ⟨O.1, ?_, fun a h1 b h2 e => ?_⟩
    · show (P :: (cs.map fun c => (c, LamX.CodeO c q)).map (·.1)).Nodup
      rw [List.map_map]
      have : cs.map ((fun x : Cell => x.1) ∘ fun c => (c, LamX.CodeO c q)) = cs := by
        show cs.map (fun c => c) = cs
        exact List.map_id' cs
      rw [this]
      refine List.nodup_cons.mpr ⟨fun z => ?_, nd⟩
      have := hc P z
      rw [hP] at this
      exact LamX.codeO_ne ps (Option.some.inj this).symm
    · obtain ⟨d, hd, rfl⟩ := List.mem_map.mp h1
      obtain ⟨d2, hd2, rfl⟩ := List.mem_map.mp h2
      have g1 := O.2 d hd
      obtain ⟨g2, g3⟩ := isT d2 hd2
      rw [e, g2] at g1
      have := n d hd
      rw [← Option.some.inj g1, g3] at this
      cases this
  · rcases List.mem_append.mp hd with h | h
    · exact O.2 d h
    · exact (isT d h).1
/-- x(lambda: ..) by cells -/
theorem lam_go {P : Addr} {q : Str} {TT : (XK → Hp → VK → Prop) → Hp → VK → Prop} {t : XK → TE} {σ : L2.St} {H : Hp} {Q : VK} {L TL : List Cell} (O : Own H (L ++ TL)) (n : NT L) (ht : TabC TL P q)
    (k : ∀ (H1 : Hp) (TL' : List Cell), TabC TL' P q → Own H1 (L ++ TL') → TT (fun E H' Q' => t E σ H' Q') H1 Q) : LamX.tLam [(P, q)] TT t σ H Q := by
  refine ⟨fun p hp => ?_, fun H1 e T1 => ?_⟩
  · rw [List.mem_singleton.mp hp]
    exact ht.tab fun c hc => O.2 c (List.mem_append_right _ hc)
  · obtain ⟨TL', h1, h2⟩ := tab_cells (T1 (P, q) List.mem_cons_self) ((O.left).extN n e) n
    exact k H1 TL' h1 h2
-- WwText
def top (i : Nat) : Stmt := PySem.Challenge.pw_writeways_k14_leavings_judged.main.body.getD i (.Pass ⟨0, 0, 0, 0⟩)
abbrev s_BadRule___init__ : Stmt := inClass (top 2) 0
abbrev s_BadDeed___init__ : Stmt := inClass (top 7) 0
abbrev s_BadLeavings___init__ : Stmt := inClass (top 10) 0
abbrev s_BadText___init__ : Stmt := inClass (top 11) 0
abbrev s_is_number : Stmt := top 16
abbrev s_need_blocks : Stmt := top 19
abbrev s_need_ways : Stmt := top 22
abbrev s_judged : Stmt := top 23
abbrev s__law_taken : Stmt := top 25
abbrev s__law_alike : Stmt := top 26
abbrev s__law_word : Stmt := top 27
abbrev s__law_blocks : Stmt := top 28
abbrev s__law_left : Stmt := top 29
abbrev s__law_drawn : Stmt := top 30
abbrev s_law : Stmt := top 31
theorem sc_BadRule___init__ : FnScope ["self", "number"] ["self", "number"] (defScope s_BadRule___init__) := ⟨rfl, rfl, rfl, by decide +kernel, rfl, by decide +kernel, by decide +kernel⟩
theorem sc_BadDeed___init__ : FnScope ["self", "number"] ["self", "number"] (defScope s_BadDeed___init__) := ⟨rfl, rfl, rfl, by decide +kernel, rfl, by decide +kernel, by decide +kernel⟩
theorem sc_BadLeavings___init__ : FnScope ["self", "number"] ["self", "number"] (defScope s_BadLeavings___init__) := ⟨rfl, rfl, rfl, by decide +kernel, rfl, by decide +kernel, by decide +kernel⟩
theorem sc_BadText___init__ : FnScope ["self", "row"] ["self", "row"] (defScope s_BadText___init__) := ⟨rfl, rfl, rfl, by decide +kernel, rfl, by decide +kernel, by decide +kernel⟩
theorem sc_is_number : FnScope ["part", "low", "high"] ["part", "low", "high"] (defScope s_is_number) := ⟨rfl, rfl, rfl, by decide +kernel, rfl, by decide +kernel, by decide +kernel⟩
theorem sc_need_blocks : FnScope ["blocks", "number", "block"] ["blocks"] (defScope s_need_blocks) := ⟨rfl, rfl, rfl, by decide +kernel, rfl, by decide +kernel, by decide +kernel⟩
theorem sc_need_ways : FnScope ["ways"] ["ways"] (defScope s_need_ways) := ⟨rfl, rfl, rfl, by decide +kernel, rfl, by decide +kernel, by decide +kernel⟩
theorem sc_judged : FnScope ["blocks", "ways", "leavings", "there", "brings", "many", "block"] ["blocks", "ways", "leavings"] (defScope s_judged) := ⟨rfl, rfl, rfl, by decide +kernel, rfl, by decide +kernel, by decide +kernel⟩
theorem sc__law_taken : FnScope ["_law_row", "_law_many", "_law_cell"] ["_law_row", "_law_many"] (defScope s__law_taken) := ⟨rfl, rfl, rfl, by decide +kernel, rfl, by decide +kernel, by decide +kernel⟩
theorem sc__law_alike : FnScope ["_law_found", "_law_due", "_law_k"] ["_law_found", "_law_due"] (defScope s__law_alike) := ⟨rfl, rfl, rfl, by decide +kernel, rfl, by decide +kernel, by decide +kernel⟩
theorem sc__law_word : FnScope ["_law_work", "_law_kinds", "e", "_law_word_here"] ["_law_work"] (defScope s__law_word) := ⟨rfl, rfl, rfl, by decide +kernel, rfl, by decide +kernel, by decide +kernel⟩
theorem sc__law_blocks : FnScope ["_law_row", "_law_most", "_law_few", "_law_k"] ["_law_row", "_law_most"] (defScope s__law_blocks) := ⟨rfl, rfl, rfl, by decide +kernel, rfl, by decide +kernel, by decide +kernel⟩
theorem sc__law_left : FnScope ["_law_blocks_here", "_law_ways", "_law_leavings", "_law_there", "_law_brought", "_law_at", "_law_block", "_law_one"] ["_law_blocks_here", "_law_ways", "_law_leavings"] (defScope s__law_left) := ⟨rfl, rfl, rfl, by decide +kernel, rfl, by decide +kernel, by decide +kernel⟩
theorem sc__law_drawn : FnScope ["_law_row", "_law_blocks_here", "_law_ways", "_law_there", "_law_found", "_law_block"] ["_law_row", "_law_blocks_here", "_law_ways"] (defScope s__law_drawn) := ⟨rfl, rfl, rfl, by decide +kernel, rfl, by decide +kernel, by decide +kernel⟩
theorem sc_law : FnScope ["_law_script", "_law_row", "_law_turn", "_law_blocks_here", "_law_ways", "_law_some", "_law_at", "_law_odd", "_law_lists", "_law_leavings", "_law_due", "_law_handed"] ["_law_script"] (defScope s_law) := ⟨rfl, rfl, rfl, by decide +kernel, rfl, by decide +kernel, by decide +kernel⟩
structure Txt (K : PySem.W.Frag) (mg : Str → Option Value) where
  g_is_number : mg "is_number" = some (.ref (He.ga K "is_number"))
  g_need_blocks : mg "need_blocks" = some (.ref (He.ga K "need_blocks"))
  g_need_ways : mg "need_ways" = some (.ref (He.ga K "need_ways"))
  g_judged : mg "judged" = some (.ref (He.ga K "judged"))
  g__law_taken : mg "_law_taken" = some (.ref (He.ga K "_law_taken"))
  g__law_alike : mg "_law_alike" = some (.ref (He.ga K "_law_alike"))
  g__law_word : mg "_law_word" = some (.ref (He.ga K "_law_word"))
  g__law_blocks : mg "_law_blocks" = some (.ref (He.ga K "_law_blocks"))
  g__law_left : mg "_law_left" = some (.ref (He.ga K "_law_left"))
  g__law_drawn : mg "_law_drawn" = some (.ref (He.ga K "_law_drawn"))
  g_law : mg "law" = some (.ref (He.ga K "law"))
  g_WayError : mg "WayError" = some (.ref (He.ga K "WayError"))
  g_BadRule : mg "BadRule" = some (.ref (He.ga K "BadRule"))
  g_BadHands : mg "BadHands" = some (.ref (He.ga K "BadHands"))
  g_BadHand : mg "BadHand" = some (.ref (He.ga K "BadHand"))
  g_BadPlace : mg "BadPlace" = some (.ref (He.ga K "BadPlace"))
  g_BadNumber : mg "BadNumber" = some (.ref (He.ga K "BadNumber"))
  g_BadDeed : mg "BadDeed" = some (.ref (He.ga K "BadDeed"))
  g_BadRoom : mg "BadRoom" = some (.ref (He.ga K "BadRoom"))
  g_BadWays : mg "BadWays" = some (.ref (He.ga K "BadWays"))
  g_BadLeavings : mg "BadLeavings" = some (.ref (He.ga K "BadLeavings"))
  g_BadText : mg "BadText" = some (.ref (He.ga K "BadText"))
  g_CELLS : ∃ t, mg "CELLS" = some (.int 64 t)
  g_BLOCK : ∃ t, mg "BLOCK" = some (.int 4 t)
  g_MOST_DEEDS : ∃ t, mg "MOST_DEEDS" = some (.int 200 t)
  g_BLOCKS : ∃ t, mg "BLOCKS" = some (.int 16 t)
  g_MOST_WAYS : ∃ t, mg "MOST_WAYS" = some (.int 8 t)
  n_ValueError : mg "ValueError" = none
  n_len : mg "len" = none
  n_isinstance : mg "isinstance" = none
  n_range : mg "range" = none
  n_list : mg "list" = none
  n_tuple : mg "tuple" = none
  n_enumerate : mg "enumerate" = none
  n_int : mg "int" = none
  n_bool : mg "bool" = none
  n_str : mg "str" = none
  m_BadRule___init__ : Meth K (He.ga K "BadRule") "__init__" (He.ma K (He.ga K "BadRule") "__init__")
  na_BadRule_number : NoAttr K (He.ga K "BadRule") "number"
  xe_BadHands : PySem.W.excIn K (He.ga K "BadHands") He.veBase "ValueError.__new__" = true ∧ PySem.W.keepIn K (.ref (He.ga K "BadHands")) = true ∧ PySem.W.subIn K (.ref (He.ga K "BadHands")) (.type "BaseException") = some true ∧ PySem.W.typeIn K (.ref (He.ga K "BadHands")) = some (.type "type")
  xe_BadHand : PySem.W.excIn K (He.ga K "BadHand") He.veBase "ValueError.__new__" = true ∧ PySem.W.keepIn K (.ref (He.ga K "BadHand")) = true ∧ PySem.W.subIn K (.ref (He.ga K "BadHand")) (.type "BaseException") = some true ∧ PySem.W.typeIn K (.ref (He.ga K "BadHand")) = some (.type "type")
  xe_BadPlace : PySem.W.excIn K (He.ga K "BadPlace") He.veBase "ValueError.__new__" = true ∧ PySem.W.keepIn K (.ref (He.ga K "BadPlace")) = true ∧ PySem.W.subIn K (.ref (He.ga K "BadPlace")) (.type "BaseException") = some true ∧ PySem.W.typeIn K (.ref (He.ga K "BadPlace")) = some (.type "type")
  xe_BadNumber : PySem.W.excIn K (He.ga K "BadNumber") He.veBase "ValueError.__new__" = true ∧ PySem.W.keepIn K (.ref (He.ga K "BadNumber")) = true ∧ PySem.W.subIn K (.ref (He.ga K "BadNumber")) (.type "BaseException") = some true ∧ PySem.W.typeIn K (.ref (He.ga K "BadNumber")) = some (.type "type")
  m_BadDeed___init__ : Meth K (He.ga K "BadDeed") "__init__" (He.ma K (He.ga K "BadDeed") "__init__")
  na_BadDeed_number : NoAttr K (He.ga K "BadDeed") "number"
  xe_BadRoom : PySem.W.excIn K (He.ga K "BadRoom") He.veBase "ValueError.__new__" = true ∧ PySem.W.keepIn K (.ref (He.ga K "BadRoom")) = true ∧ PySem.W.subIn K (.ref (He.ga K "BadRoom")) (.type "BaseException") = some true ∧ PySem.W.typeIn K (.ref (He.ga K "BadRoom")) = some (.type "type")
  xe_BadWays : PySem.W.excIn K (He.ga K "BadWays") He.veBase "ValueError.__new__" = true ∧ PySem.W.keepIn K (.ref (He.ga K "BadWays")) = true ∧ PySem.W.subIn K (.ref (He.ga K "BadWays")) (.type "BaseException") = some true ∧ PySem.W.typeIn K (.ref (He.ga K "BadWays")) = some (.type "type")
  m_BadLeavings___init__ : Meth K (He.ga K "BadLeavings") "__init__" (He.ma K (He.ga K "BadLeavings") "__init__")
  na_BadLeavings_number : NoAttr K (He.ga K "BadLeavings") "number"
  m_BadText___init__ : Meth K (He.ga K "BadText") "__init__" (He.ma K (He.ga K "BadText") "__init__")
  na_BadText_row : NoAttr K (He.ga K "BadText") "row"
  xt : ExcT K bads
  ox_BadRule : oexB K (He.ga K "BadRule") = true
  ox_BadDeed : oexB K (He.ga K "BadDeed") = true
  ox_BadLeavings : oexB K (He.ga K "BadLeavings") = true
  ox_BadText : oexB K (He.ga K "BadText") = true
  fd_BadRule___init__ : FuncData
  F_BadRule___init__ : FunD K "__init__" "BadRule.__init__" (defArgs s_BadRule___init__) (defBody s_BadRule___init__) (defScope s_BadRule___init__) [] [] (He.fAd K ("BadRule", some "__init__")) fd_BadRule___init__
  b_BadRule___init__ : Binds K fd_BadRule___init__ ["self", "number"] []
  k_BadRule___init__ : PySem.W.keepIn K (.ref (He.fAd K ("BadRule", some "__init__"))) = true
  fd_BadDeed___init__ : FuncData
  F_BadDeed___init__ : FunD K "__init__" "BadDeed.__init__" (defArgs s_BadDeed___init__) (defBody s_BadDeed___init__) (defScope s_BadDeed___init__) [] [] (He.fAd K ("BadDeed", some "__init__")) fd_BadDeed___init__
  b_BadDeed___init__ : Binds K fd_BadDeed___init__ ["self", "number"] []
  k_BadDeed___init__ : PySem.W.keepIn K (.ref (He.fAd K ("BadDeed", some "__init__"))) = true
  fd_BadLeavings___init__ : FuncData
  F_BadLeavings___init__ : FunD K "__init__" "BadLeavings.__init__" (defArgs s_BadLeavings___init__) (defBody s_BadLeavings___init__) (defScope s_BadLeavings___init__) [] [] (He.fAd K ("BadLeavings", some "__init__")) fd_BadLeavings___init__
  b_BadLeavings___init__ : Binds K fd_BadLeavings___init__ ["self", "number"] []
  k_BadLeavings___init__ : PySem.W.keepIn K (.ref (He.fAd K ("BadLeavings", some "__init__"))) = true
  fd_BadText___init__ : FuncData
  F_BadText___init__ : FunD K "__init__" "BadText.__init__" (defArgs s_BadText___init__) (defBody s_BadText___init__) (defScope s_BadText___init__) [] [] (He.fAd K ("BadText", some "__init__")) fd_BadText___init__
  b_BadText___init__ : Binds K fd_BadText___init__ ["self", "row"] []
  k_BadText___init__ : PySem.W.keepIn K (.ref (He.fAd K ("BadText", some "__init__"))) = true
  fd_is_number : FuncData
  F_is_number : FunD K "is_number" "is_number" (defArgs s_is_number) (defBody s_is_number) (defScope s_is_number) [] [] (He.fAd K ("is_number", none)) fd_is_number
  b_is_number : Binds K fd_is_number ["part", "low", "high"] []
  k_is_number : PySem.W.keepIn K (.ref (He.fAd K ("is_number", none))) = true
  fd_need_blocks : FuncData
  F_need_blocks : FunD K "need_blocks" "need_blocks" (defArgs s_need_blocks) (defBody s_need_blocks) (defScope s_need_blocks) [] [] (He.fAd K ("need_blocks", none)) fd_need_blocks
  b_need_blocks : Binds K fd_need_blocks ["blocks"] []
  k_need_blocks : PySem.W.keepIn K (.ref (He.fAd K ("need_blocks", none))) = true
  fd_need_ways : FuncData
  F_need_ways : FunD K "need_ways" "need_ways" (defArgs s_need_ways) (defBody s_need_ways) (defScope s_need_ways) [] [] (He.fAd K ("need_ways", none)) fd_need_ways
  b_need_ways : Binds K fd_need_ways ["ways"] []
  k_need_ways : PySem.W.keepIn K (.ref (He.fAd K ("need_ways", none))) = true
  fd_judged : FuncData
  F_judged : FunD K "judged" "judged" (defArgs s_judged) (defBody s_judged) (defScope s_judged) [] [] (He.fAd K ("judged", none)) fd_judged
  b_judged : Binds K fd_judged ["blocks", "ways", "leavings"] []
  k_judged : PySem.W.keepIn K (.ref (He.fAd K ("judged", none))) = true
  fd__law_taken : FuncData
  F__law_taken : FunD K "_law_taken" "_law_taken" (defArgs s__law_taken) (defBody s__law_taken) (defScope s__law_taken) [] [] (He.fAd K ("_law_taken", none)) fd__law_taken
  b__law_taken : Binds K fd__law_taken ["_law_row", "_law_many"] []
  k__law_taken : PySem.W.keepIn K (.ref (He.fAd K ("_law_taken", none))) = true
  fd__law_alike : FuncData
  F__law_alike : FunD K "_law_alike" "_law_alike" (defArgs s__law_alike) (defBody s__law_alike) (defScope s__law_alike) [] [] (He.fAd K ("_law_alike", none)) fd__law_alike
  b__law_alike : Binds K fd__law_alike ["_law_found", "_law_due"] []
  k__law_alike : PySem.W.keepIn K (.ref (He.fAd K ("_law_alike", none))) = true
  fd__law_word : FuncData
  F__law_word : FunD K "_law_word" "_law_word" (defArgs s__law_word) (defBody s__law_word) (defScope s__law_word) [] [] (He.fAd K ("_law_word", none)) fd__law_word
  b__law_word : Binds K fd__law_word ["_law_work"] []
  k__law_word : PySem.W.keepIn K (.ref (He.fAd K ("_law_word", none))) = true
  fd__law_blocks : FuncData
  F__law_blocks : FunD K "_law_blocks" "_law_blocks" (defArgs s__law_blocks) (defBody s__law_blocks) (defScope s__law_blocks) [] [] (He.fAd K ("_law_blocks", none)) fd__law_blocks
  b__law_blocks : Binds K fd__law_blocks ["_law_row", "_law_most"] []
  k__law_blocks : PySem.W.keepIn K (.ref (He.fAd K ("_law_blocks", none))) = true
  fd__law_left : FuncData
  F__law_left : FunD K "_law_left" "_law_left" (defArgs s__law_left) (defBody s__law_left) (defScope s__law_left) [] [] (He.fAd K ("_law_left", none)) fd__law_left
  b__law_left : Binds K fd__law_left ["_law_blocks_here", "_law_ways", "_law_leavings"] []
  k__law_left : PySem.W.keepIn K (.ref (He.fAd K ("_law_left", none))) = true
  fd__law_drawn : FuncData
  F__law_drawn : FunD K "_law_drawn" "_law_drawn" (defArgs s__law_drawn) (defBody s__law_drawn) (defScope s__law_drawn) [] [] (He.fAd K ("_law_drawn", none)) fd__law_drawn
  b__law_drawn : Binds K fd__law_drawn ["_law_row", "_law_blocks_here", "_law_ways"] []
  k__law_drawn : PySem.W.keepIn K (.ref (He.fAd K ("_law_drawn", none))) = true
  fd_law : FuncData
  F_law : FunD K "law" "law" (defArgs s_law) (defBody s_law) (defScope s_law) [] [] (He.fAd K ("law", none)) fd_law
  b_law : Binds K fd_law ["_law_script"] []
  k_law : PySem.W.keepIn K (.ref (He.fAd K ("law", none))) = true
-- WwDa
theorem size1 {n : Nat} (h : n ≤ 1000000) : n < sizeLine := Nat.lt_of_le_of_lt h (by decide)
theorem tYes_go {σ : L2.St} {H : Hp} {Q : Bool → Hp → Prop} (h : Q true H) : tYes σ H Q := h
/-! ### data by cells -/
mutual
inductive DpL (L : List Cell) : V → PyData → Prop
  | non : DpL L .non .none
  | bl (b : Bool) : DpL L (.bl b) (.bool b)
  | int (i : Int) : DpL L (.int i) (.int i)
  | str (x : Str) : DpL L (.str x) (.str x)
  | lst {a : Addr} {xs : List V} {ds : List PyData} : (a, HO.lst xs) ∈ L → DpsL L xs ds → DpL L (.ref a) (.list ds)
  | tup {a : Addr} {xs : List V} {ds : List PyData} : (a, HO.tup xs) ∈ L → DpsL L xs ds → DpL L (.ref a) (.tuple ds)
inductive DpsL (L : List Cell) : List V → List PyData → Prop
  | nil : DpsL L [] []
  | cons {v : V} {vs : List V} {d : PyData} {ds : List PyData} : DpL L v d → DpsL L vs ds → DpsL L (v :: vs) (d :: ds)
end
mutual
theorem DpL.mono {L L' : List Cell} (hs : ∀ c ∈ L, c ∈ L') : ∀ {v : V} {d : PyData}, DpL L v d → DpL L' v d
  | _, _, .non => .non
  | _, _, .bl b => .bl b
  | _, _, .int i => .int i
  | _, _, .str x => .str x
  | _, _, .lst h r => .lst (hs _ h) (DpsL.mono hs r)
  | _, _, .tup h r => .tup (hs _ h) (DpsL.mono hs r)
theorem DpsL.mono {L L' : List Cell} (hs : ∀ c ∈ L, c ∈ L') : ∀ {vs : List V} {ds : List PyData}, DpsL L vs ds → DpsL L' vs ds
  | _, _, .nil => .nil
  | _, _, .cons h r => .cons (DpL.mono hs h) (DpsL.mono hs r)
end
mutual
theorem DpL.dp {K : PySem.W.Frag} {H : Hp} {L : List Cell} (O : ∀ c ∈ L, H c.1 = some c.2) : ∀ {v : V} {d : PyData}, DpL L v d → Dp K H v d
  | _, _, .non => .non
  | _, _, .bl b => .bl b
  | _, _, .int i => .int i
  | _, _, .str x => .str x
  | _, _, .lst h r => .lst (SqL.of (O _ h)) (DpsL.dps O r)
  | _, _, .tup h r => .tup (SqT.of (O _ h)) (DpsL.dps O r)
theorem DpsL.dps {K : PySem.W.Frag} {H : Hp} {L : List Cell} (O : ∀ c ∈ L, H c.1 = some c.2) : ∀ {vs : List V} {ds : List PyData}, DpsL L vs ds → DpAll K H vs ds
  | _, _, .nil => .nil
  | _, _, .cons h r => .cons (DpL.dp O h) (DpsL.dps O r)
end
theorem DpsL.app {L : List Cell} : ∀ {vs ws : List V} {ds es : List PyData}, DpsL L vs ds → DpsL L ws es → DpsL L (vs ++ ws) (ds ++ es)
  | _, _, _, _, .nil, k => k
  | _, _, _, _, .cons h r, k => .cons h (DpsL.app r k)
theorem DpsL.ints {L : List Cell} : ∀ ns : List Int, DpsL L (ns.map V.int) (ns.map PyData.int)
  | [] => .nil
  | n :: ns => .cons (.int n) (DpsL.ints ns)
theorem DpsL.len {L : List Cell} : ∀ {vs : List V} {ds : List PyData}, DpsL L vs ds → vs.length = ds.length
  | _, _, .nil => rfl
  | _, _, .cons _ r => congrArg (· + 1) r.len
theorem DpsL.get {L : List Cell} : ∀ {vs : List V} {ds : List PyData} {i : Nat} {v : V}, DpsL L vs ds → vs[i]? = some v → ∃ d, ds[i]? = some d ∧ DpL L v d
  | _, _, i, v, .nil, e => by simp at e
  | _, _, 0, v, .cons h _, e => by
    simp at e
    subst e
    exact ⟨_, rfl, h⟩
  | _, _, i + 1, v, .cons _ r, e => by
    obtain ⟨d, h1, h2⟩ := DpsL.get (i := i) (v := v) r (by simpa using e)
    exact ⟨d, by simpa using h1, h2⟩
theorem DpsL.get' {L : List Cell} : ∀ {vs : List V} {ds : List PyData} {i : Nat} {d : PyData}, DpsL L vs ds → ds[i]? = some d → ∃ v, vs[i]? = some v ∧ DpL L v d
  | _, _, i, v, .nil, e => by simp at e
  | _, _, 0, v, .cons h _, e => by
    simp at e
    subst e
    exact ⟨_, rfl, h⟩
  | _, _, i + 1, v, .cons _ r, e => by
    obtain ⟨d, h1, h2⟩ := DpsL.get' (i := i) (d := v) r (by simpa using e)
    exact ⟨d, by simpa using h1, h2⟩

theorem noPart {σ : L2.St} {H : Hp} {Q : Option Int → Hp → Prop} (h : Q none H) : tNoPart σ H Q := h
theorem take_snoc {α : Type} {xs : List α} {i : Nat} {x : α} (h : xs[i]? = some x) : xs.take (i + 1) = xs.take i ++ [x] := by
  rw [List.take_succ, h]
  rfl
theorem DpL.lstI {N : List Cell} {v : V} {ds : List PyData} (h : DpL N v (.list ds)) : ∃ p vs, v = .ref p ∧ (p, HO.lst vs) ∈ N ∧ DpsL N vs ds := by
  cases h with
  | lst h r => exact ⟨_, _, rfl, h, r⟩
theorem DpL.tupI {N : List Cell} {v : V} {ds : List PyData} (h : DpL N v (.tuple ds)) : ∃ p vs, v = .ref p ∧ (p, HO.tup vs) ∈ N ∧ DpsL N vs ds := by
  cases h with
  | tup h r => exact ⟨_, _, rfl, h, r⟩
theorem DpsL.intsI {N : List Cell} : ∀ {ns : List Int} {vs : List V}, DpsL N vs (ns.map PyData.int) → vs = ns.map V.int
  | [], _, .nil => rfl
  | n :: ns, _, .cons h r => by
    cases h with
    | int => rw [DpsL.intsI r]; rfl
theorem not_eqv_nil : (!PyData.eqv (.list []) (.list [])) = false := by decide +kernel
theorem eqv_self (d : PyData) (h : SeqAt.shaped d = true) : (!PyData.eqv d d) = false := by rw [SeqAt.eqv_refl d (SeqAt.canLay_of_shaped h)]; rfl
theorem dpInts {K : PySem.W.Frag} {H : Hp} (ns : List Int) : DpAll K H (ns.map V.int) (ns.map PyData.int) := (DpsL.ints (L := []) ns).dps fun c hc => absurd hc List.not_mem_nil
theorem shaped_of {d : PyData} (h1 : d.canLay0 = true) (h2 : d.depth ≤ 64) : SeqAt.shaped d = true := by
  unfold SeqAt.shaped
  rw [h1, decide_eq_true h2]
  rfl
theorem layAll {α : Type} {f : α → PyData} {k : Nat} : ∀ {xs : List α}, (∀ a ∈ xs, (f a).canLay0 = true ∧ (f a).depth ≤ k) → PyData.canLayAll0 (xs.map f) = true ∧ PyData.depthAll (xs.map f) ≤ k
  | [], _ => ⟨rfl, Nat.zero_le _⟩
  | a :: xs, h => by
    obtain ⟨a1, a2⟩ := h a List.mem_cons_self
    obtain ⟨b1, b2⟩ := layAll (xs := xs) fun b hb => h b (List.mem_cons_of_mem _ hb)
    refine ⟨?_, ?_⟩
    · show (PyData.canLay0 (f a) && PyData.canLayAll0 (xs.map f)) = true
      rw [a1, b1]
      rfl
    · show max (PyData.depth (f a)) (PyData.depthAll (xs.map f)) ≤ k
      omega
theorem layL {α : Type} {f : α → PyData} {k : Nat} {xs : List α} (h : ∀ a ∈ xs, (f a).canLay0 = true ∧ (f a).depth ≤ k) : (PyData.list (xs.map f)).canLay0 = true ∧ (PyData.list (xs.map f)).depth ≤ k + 1 := by
  obtain ⟨h1, h2⟩ := layAll h
  refine ⟨h1, ?_⟩
  show PyData.depthAll (xs.map f) + 1 ≤ k + 1
  omega
theorem layT {α : Type} {f : α → PyData} {k : Nat} {xs : List α} (h : ∀ a ∈ xs, (f a).canLay0 = true ∧ (f a).depth ≤ k) : (PyData.tuple (xs.map f)).canLay0 = true ∧ (PyData.tuple (xs.map f)).depth ≤ k + 1 := by
  obtain ⟨h1, h2⟩ := layAll h
  refine ⟨h1, ?_⟩
  show PyData.depthAll (xs.map f) + 1 ≤ k + 1
  omega
theorem layI (i : Int) : (PyData.int i).canLay0 = true ∧ (PyData.int i).depth ≤ 0 := ⟨rfl, Nat.le_refl _⟩
theorem layIs (ns : List Int) : (PyData.list (ns.map .int)).canLay0 = true ∧ (PyData.list (ns.map .int)).depth ≤ 1 := layL fun i _ => layI i
/-- tuples, by their addresses -/
def TA (R : List Cell) : List Addr → List (List V) → Prop
  | [], [] => True
  | a :: as, u :: us => (a, HO.tup u) ∈ R ∧ TA R as us
  | _, _ => False
theorem TA.len {R : List Cell} : ∀ {as : List Addr} {us : List (List V)}, TA R as us → as.length = us.length
  | [], [], _ => rfl
  | [], _ :: _, h => h.elim
  | _ :: _, [], h => h.elim
  | _ :: _, _ :: _, h => congrArg (· + 1) (TA.len h.2)
theorem TA.get {R : List Cell} : ∀ {as : List Addr} {us : List (List V)} {i : Nat} {a : Addr}, TA R as us → as[i]? = some a → ∃ u, us[i]? = some u ∧ (a, HO.tup u) ∈ R
  | [], _, i, a, _, e => by simp at e
  | _ :: _, [], _, _, h, _ => h.elim
  | b :: as, u :: us, 0, a, h, e => by
    simp at e
    subst e
    exact ⟨u, rfl, h.1⟩
  | b :: as, u :: us, i + 1, a, h, e => by
    obtain ⟨v, h1, h2⟩ := TA.get (i := i) (a := a) h.2 (by simpa using e)
    exact ⟨v, by simpa using h1, h2⟩
theorem TA.mono {R R' : List Cell} (hs : ∀ c ∈ R, c ∈ R') : ∀ {as : List Addr} {us : List (List V)}, TA R as us → TA R' as us
  | [], [], _ => trivial
  | [], _ :: _, h => h.elim
  | _ :: _, [], h => h.elim
  | _ :: _, _ :: _, h => ⟨hs _ h.1, TA.mono hs h.2⟩
theorem TA.app {R : List Cell} : ∀ {as bs : List Addr} {us vs : List (List V)}, TA R as us → TA R bs vs → TA R (as ++ bs) (us ++ vs)
  | [], _, [], _, _, k => k
  | [], _, _ :: _, _, h, _ => h.elim
  | _ :: _, _, [], _, h, _ => h.elim
  | _ :: _, _, _ :: _, _, h, k => ⟨h.1, TA.app h.2 k⟩
theorem pick3 {v : Int} {a b c : V} (h0 : 0 ≤ v) (h3 : v < 3) : ∃ y, atI [a, b, c] v = some y ∧ (y = a ∨ y = b ∨ y = c) := by
  have : v = 0 ∨ v = 1 ∨ v = 2 := by omega
  rcases this with e | e | e <;> subst e
  · exact ⟨a, rfl, .inl rfl⟩
  · exact ⟨b, rfl, .inr (.inl rfl)⟩
  · exact ⟨c, rfl, .inr (.inr rfl)⟩
theorem pick2 {v : Int} {a b : V} (h0 : 0 ≤ v) (h3 : v < 2) : ∃ y, atI [a, b] v = some y ∧ (y = a ∨ y = b) := by
  have : v = 0 ∨ v = 1 := by omega
  rcases this with e | e <;> subst e
  · exact ⟨a, rfl, .inl rfl⟩
  · exact ⟨b, rfl, .inr rfl⟩
theorem pick4 {v : Int} {a b c d : V} (h0 : 0 ≤ v) (h3 : v < 4) : ∃ y, atI [a, b, c, d] v = some y ∧ (y = a ∨ y = b ∨ y = c ∨ y = d) := by
  have : v = 0 ∨ v = 1 ∨ v = 2 ∨ v = 3 := by omega
  rcases this with e | e | e | e <;> subst e
  · exact ⟨a, rfl, .inl rfl⟩
  · exact ⟨b, rfl, .inr (.inl rfl)⟩
  · exact ⟨c, rfl, .inr (.inr (.inl rfl))⟩
  · exact ⟨d, rfl, .inr (.inr (.inr rfl))⟩
theorem ixN_nat {n k : Nat} (h : k < n) : ixN n (k : Int) = some k := by
  unfold ixN
  rw [if_pos (by omega), if_pos (by omega), Int.toNat_natCast]
theorem seqIx {n k : Nat} (h : k < n) : seqIndex? (k : Int) n = some k := (ixN_seq (ixN_nat h)).1
theorem seqIxN {n k : Nat} (h : k < n) : seqIndex? (k : Int) n = some k := seqIx h
/-! ### list.count of truth values -/
def eqBl (k : Bool) (v : Value) : Bool := match v with
  | .bool n => n == k
  | _ => false
inductive BlAre : List Value → List Bool → Prop
  | nil : BlAre [] []
  | cons {us : List Value} {ns : List Bool} (x : Bool) : BlAre us ns → BlAre (.bool x :: us) (x :: ns)
theorem blAre_of : ∀ {ns : List Bool} {us : List Value}, Vals (ns.map V.bl) us → BlAre us ns
  | [], _, .nil => .nil
  | n :: ns, _, .cons r h => by
    cases r
    exact .cons n (blAre_of h)
theorem eqBl_at {A : Around} {s : Shared} {k : Bool} : ∀ {us : List Value} {ns : List Bool}, BlAre us ns → ∀ y ∈ us, SeqAt.EqAt A s y (.bool k) (eqBl k y)
  | _, _, .nil => fun y hy => by cases hy
  | _, _, .cons n h => fun y hy => by
    rcases List.mem_cons.mp hy with e | e
    · rw [e]
      exact SeqAt.EqAt.bool_bool n k
    · exact eqBl_at h y e
theorem eqBl_count {k : Bool} : ∀ {us : List Value} {ns : List Bool}, BlAre us ns → us.countP (eqBl k) = ns.countP (· == k)
  | _, _, .nil => rfl
  | _, _, .cons n h => by
    have ih := eqBl_count (k := k) h
    rw [List.countP_cons, List.countP_cons, ih] <;> rfl
def rCntB (K : PySem.W.Frag) : V → List V → Hp → VK → Prop := fun x xs H Q => ∃ (p : Addr) (ns : List Bool) (k : Bool), x = .ref p ∧ xs = [.bl k] ∧ SqL K H p (ns.map V.bl) ∧ Q (.int (ns.countP (· == k) : Nat)) H
theorem mt_lcountB {X : Cx} : MtR X "list.count" (rCntB X.K) := by
  intro pins s σ H x xs v us Q I rx rxs h
  obtain ⟨p, ns, k, rfl, rfl, hs, q⟩ := h
  cases rx
  obtain ⟨u, rfl, ru⟩ := rxs.one
  cases ru
  obtain ⟨its, rv, ⟨⟨cls, dd, data, sl⟩, n, ho, hc, hdn, hd⟩, hlen⟩ := I.list hs
  simp only at hc hd
  subst hc hd
  have hi := blAre_of rv
  refine call_meets PySem.F.slot_list_count ⟨_, ho, rfl⟩ PySem.F.entry_list_count (PySem.F.args_list_count_2 _ _) (SeqAt.list_countAt p its.toArray n dd sl (.bool k) (eqBl k)) ⟨ho, fun y hy => eqBl_at hi y (by simpa using hy), ?_⟩
  have ec : its.toArray.toList.countP (eqBl k) = ns.countP (· == k) := eqBl_count hi
  refine ⟨.int (ns.countP (· == k) : Nat), H, I.tok _, ⟨s.toks, ?_⟩, q⟩
  show Value.int ((its.toArray.toList.countP (eqBl k) : Nat) : Int) s.toks = _
  rw [ec]
/-! ### len(set(..)) of a list of ints -/
theorem dedup_nodup (val : Nat → Int) : ∀ i, (PyProof.Rows.firstMet val i).Nodup
  | 0 => by
    rw [PyProof.Rows.firstMet_zero]
    exact List.nodup_nil
  | i + 1 => by
    have ih := dedup_nodup val i
    rw [PyProof.Rows.firstMet_succ]
    unfold PyProof.Rows.step_dedup
    split
    · exact ih
    · rename_i h
      refine List.nodup_append.mpr ⟨ih, List.nodup_cons.mpr ⟨(fun q => by cases q), List.nodup_nil⟩, fun a ha b hb e => h ?_⟩
      rw [List.mem_singleton.mp hb] at e
      subst e
      exact List.any_eq_true.mpr ⟨_, ha, beq_self_eq_true _⟩
theorem range_getD (ns : List Int) : (List.range ns.length).map (fun i => ns.getD i 0) = ns := by
  refine List.ext_getElem? fun i => ?_
  rw [List.getElem?_map]
  by_cases h : i < ns.length
  · rw [List.getElem?_range h, List.getElem?_eq_getElem h]
    show some (ns.getD i 0) = _
    rw [List.getD_eq_getElem?_getD, List.getElem?_eq_getElem h]
    rfl
  · rw [List.getElem?_eq_none (by rw [List.length_range]; omega), List.getElem?_eq_none (by omega)]
    rfl
theorem dedup_mem (ns : List Int) (k : Int) : k ∈ PyProof.Rows.firstMet (fun i => ns.getD i 0) ns.length ↔ k ∈ ns := by
  have h := PyProof.Rows.firstMet_any (fun i => ns.getD i 0) ns.length k
  rw [range_getD] at h
  constructor
  · intro q
    have : (PyProof.Rows.firstMet (fun i => ns.getD i 0) ns.length).any (· == k) = true := List.any_eq_true.mpr ⟨k, q, beq_self_eq_true _⟩
    rw [h] at this
    obtain ⟨x, hx, e⟩ := List.any_eq_true.mp this
    rw [← eq_of_beq e]
    exact hx
  · intro q
    have : ns.any (· == k) = true := List.any_eq_true.mpr ⟨k, q, beq_self_eq_true _⟩
    rw [← h] at this
    obtain ⟨x, hx, e⟩ := List.any_eq_true.mp this
    rw [← eq_of_beq e]
    exact hx
def tLenSet (K : PySem.W.Frag) (ta : TE) : TE := fun σ H Q => ta σ H fun x H1 => ∃ (l : Addr) (ns : List Int), x = .ref l ∧ SqL K H1 l (ns.map V.int) ∧ ns.length ≤ 4000 ∧ ∀ us : List Int, us.Nodup → (∀ k, k ∈ us ↔ k ∈ ns) → Q (.int (us.length : Nat)) H1
theorem pe_lenSet {X : Cx} {a : Expr} {ta : TE} {p p2 q pos : Pos} (hg : Gl X "len") (hm : X.mg "len" = none) (hg2 : Gl X "set") (hm2 : X.mg "set" = none) (ha : PE X a ta) (hc : X.calm = true := by rfl)
    (na : starEach [a] X.env = (false, eval a X.env) :: starEach [] X.env := by rfl) : PE X (.Call (.Name "len" p) [.Call (.Name "set" p2) [a] [] q] [] pos) (tLenSet X.K ta) := by
  refine ⟨fun pins s σ H Q I h => ?_⟩
  refine Call_ (ld_blt I hg hm boot_len ?_)
  refine PyProof.Rows.callWith_builtin1 (PyProof.Rows.args_cons ?_ rfl) rfl rfl
  refine Call_ (ld_blt I hg2 hm2 boot_set ?_)
  refine PyProof.Rows.callWith_type1 (PyProof.Rows.args_cons (thn (ha.run pins s σ H _ I h) fun v s1 ⟨x, H1, I1, r1, q1⟩ => PyProof.Rows.args_nil ?_) na) na rfl
  obtain ⟨l, ns, rfl, hq, hl, q1⟩ := q1
  cases r1
  obtain ⟨its, r, pl, hz⟩ := I1.list hq
  have hlen : its.toArray.size = ns.length := by rw [List.size_toArray, ← r.length, List.length_map]
  refine call_set_list (I1.ok.hd hc) pl.isList (by simpa using RZ.intsAre_vals r) (by rw [hlen]; unfold scanBound; omega) fun h' tk hS hk => ?_
  refine PyProof.Rows.args_nil ?_
  rw [hlen] at hS
  have hle := PyProof.Rows.firstMet_length_le (fun i => ns.getD i 0) ns.length
  obtain ⟨o, es, ep, t, ho, hex, hd, _, _, _, hf, hn⟩ := hS
  have I2 : Inv X pins σ H1 { s1 with heap := h', toks := tk } := I1.kept fun b o e => hk b o (Heap.lt_size e) e
  exact call_len_set ho hex hd hf (by rw [hn] <;> omega) ⟨.int (PyProof.Rows.firstMet (fun i => ns.getD i 0) ns.length).length, H1, I2.tok _, ⟨_, by rw [hn]⟩, q1 _ (dedup_nodup _ _) (dedup_mem ns)⟩
abbrev rIsNo : R2 := fun x y H Q => y = .non ∧ Q (.bl (decide (x = .non))) H
/-! ### blocks, their depths -/

def blV (bs : List Nat) : List V := bs.map fun b => V.int (b : Nat)
theorem blV_len (bs : List Nat) : (blV bs).length = bs.length := List.length_map _
theorem blV_flat (bs : List Nat) : (blV bs).all flatV = true := List.all_eq_true.mpr fun x hx => by
  obtain ⟨b, _, rfl⟩ := List.mem_map.mp hx
  rfl
theorem eqV_int (a b : Int) : eqV (.int a) (.int b) = (a == b) := rfl
theorem inV_bl (b : Nat) (bs : List Nat) : inV (.int (b : Nat)) (blV bs) = decide (b ∈ bs) := by
  unfold inV
  by_cases h : b ∈ bs
  · rw [decide_eq_true h]
    exact List.any_eq_true.mpr ⟨.int (b : Nat), List.mem_map.mpr ⟨b, h, rfl⟩, beq_self_eq_true (b : Int)⟩
  · rw [decide_eq_false h]
    refine Bool.eq_false_iff.mpr fun q => h ?_
    obtain ⟨x, hx, e⟩ := List.any_eq_true.mp q
    obtain ⟨c, hc, rfl⟩ := List.mem_map.mp hx
    have e : ((c : Nat) : Int) = ((b : Nat) : Int) := eq_of_beq e
    rw [← Int.ofNat.inj e]
    exact hc
theorem inV_is (b : Int) (bs : List Int) : inV (.int b) (bs.map V.int) = decide (b ∈ bs) := by
  unfold inV
  by_cases h : b ∈ bs
  · rw [decide_eq_true h]
    exact List.any_eq_true.mpr ⟨.int b, List.mem_map.mpr ⟨b, h, rfl⟩, beq_self_eq_true b⟩
  · rw [decide_eq_false h]
    refine Bool.eq_false_iff.mpr fun q => h ?_
    obtain ⟨x, hx, e⟩ := List.any_eq_true.mp q
    obtain ⟨c, hc, rfl⟩ := List.mem_map.mp hx
    have e : (c == b) = true := e
    rw [← eq_of_beq e]
    exact hc
theorem isV_flat (bs : List Int) : (bs.map V.int).all flatV = true := List.all_eq_true.mpr fun x hx => by
  obtain ⟨b, _, rfl⟩ := List.mem_map.mp hx
  rfl
def intsOf (bs : List Nat) : List Int := bs.map fun b => ((b : Nat) : Int)
theorem blV_is (bs : List Nat) : blV bs = (intsOf bs).map V.int := by
  unfold blV intsOf
  rw [List.map_map]
  rfl
theorem sh0 : SeqAt.shaped (.list []) = true := PySem.W.shaped_ints []
/-- a slice of a list of ints -/
def cutI (ns : List Int) (lo hi : Option Int) : List Int := (ns.drop (HT.sIx ns.length 0 lo)).take (HT.sIx ns.length ns.length hi - HT.sIx ns.length 0 lo)
theorem cutI_eq (ns : List Int) (lo hi : Option Int) : cutV (ns.map V.int) lo hi = (cutI ns lo hi).map V.int := by
  unfold cutV cutI
  rw [List.length_map, List.map_take, List.map_drop]
theorem cutI_len (ns : List Int) (lo hi : Option Int) : (cutI ns lo hi).length ≤ ns.length := by
  unfold cutI
  rw [List.length_take, List.length_drop]
  omega
-- WwJd
/-! ### leavings judged, plainly -/
def jGo (w : Nat) (ls : List Int) : List Int → List Int → Nat → Nat → Nat ⊕ Nat
  | [], _, br, mn => if mn < ls.length then .inr mn else .inl br
  | b :: bs, th, br, mn => if b ∈ th then jGo w ls bs th br mn else if th.length = w then
      (if ls.length ≤ mn ∨ ls.getD mn 0 ∉ th then .inr mn else jGo w ls bs (th.erase (ls.getD mn 0) ++ [b]) (br + 1) (mn + 1))
    else jGo w ls bs (th ++ [b]) (br + 1) mn
theorem jGo_le {w : Nat} {ls : List Int} : ∀ {bs th : List Int} {br mn k : Nat}, mn ≤ ls.length → jGo w ls bs th br mn = .inr k → k ≤ ls.length
  | [], _, br, mn, k, h, e => by
    unfold jGo at e
    split at e
    · have : mn = k := Sum.inr.inj e
      omega
    · cases e
  | b :: bs, th, br, mn, k, h, e => by
    unfold jGo at e
    split at e
    · exact jGo_le h e
    · split at e
      · split at e
        · have : mn = k := Sum.inr.inj e
          omega
        · rename_i h2
          exact jGo_le (by omega) e
      · exact jGo_le h e
theorem filter_erase {x : Int} : ∀ {l : List Int}, l.Nodup → l.filter (fun y => decide (y ≠ x)) = l.erase x
  | [], _ => rfl
  | a :: l, h => by
    obtain ⟨h1, h2⟩ := List.nodup_cons.mp h
    by_cases e : a = x
    · subst e
      rw [List.erase_cons_head, List.filter_cons_of_neg (by simp)]
      refine List.filter_eq_self.mpr fun y hy => decide_eq_true fun e => ?_
      rw [e] at hy
      exact h1 hy
    · rw [List.erase_cons_tail (by simpa using e), List.filter_cons_of_pos (by simpa using e), filter_erase h2]
-- WwT0
/-! ### the law's draws -/
/-- the script, as cells S -/
def Scr (K : PySem.W.Frag) (sc : Addr) (ns : List Int) (S : List Cell) : Prop := ∀ H : Hp, (∀ c ∈ S, H c.1 = some c.2) → SqL K H sc (ns.map V.int)
/-- the row of a law: the script, how many cells were taken, what is mixed -/
def RowC (K : PySem.W.Frag) (rw : Addr) (S : List Cell) (c : Cell) : Prop := ∃ (sc : Addr) (ns : List Int) (i : Nat) (z : Int), Scr K sc ns S ∧ 0 ≤ z ∧ z < 2147483647 ∧ c = (rw, .lst [.ref sc, .int i, .int z])
theorem Own.scr {K : PySem.W.Frag} {H : Hp} {sc : Addr} {ns : List Int} {S R : List Cell} {c : Cell} (h : Scr K sc ns S) (O : Own H (c :: (S ++ R))) : SqL K H sc (ns.map V.int) := h H fun d hd => O.2 d (List.mem_cons_of_mem _ (List.mem_append_left _ hd))
def spTaken (K : PySem.W.Frag) : Sp := fun vs H Q _ => ∃ (rw : Addr) (S : List Cell) (c : Cell) (many : Int) (R : List Cell), vs = [.ref rw, .int many] ∧ RowC K rw S c ∧ 0 < many ∧ Own H (c :: (S ++ R)) ∧
  ∀ (v : Int) (c' : Cell) (H' : Hp), 0 ≤ v → v < many → RowC K rw S c' → Own H' (c' :: (S ++ R)) → Q (.int v) H'
def spIsNum : Sp := fun vs H Q _ => ∃ (x lo hi : Int), vs = [.int x, .int lo, .int hi] ∧ Q (.bl (decide (lo ≤ x ∧ x ≤ hi))) H
section
variable {P : Program} {w : World} {K : PySem.W.Frag} {mg : Str → Option Value} {base : Heap} {n lv : Nat}
theorem okOf {x qual : Str} {params : Arguments} {body : List Stmt} {scope : Scope} {f : Addr} {fd : FuncData} {N ps : List Str} {k : Nat} {sp : Sp} (F : FunD K x qual params body scope [] [] f fd) (S : FnScope N ps scope) (len : ∀ vs H Q E, sp vs H Q E → vs.length = ps.length)
    (hbody : ∀ (cdv : Value) (A : Around) (outer : List Env) (s : Shared) (H : Hp) (vs : List V) (Q : VK) (E : XK), Room k (A.deeper (envOfC qual scope s.heap.objs.size f cdv)) → sp vs H Q E →
      ∃ t, PSs (cxOf CX0 P w K mg base N qual scope f cdv A outer s H E).nox body t ∧ t { nx := fun _ H' => Q .non H', rt := Q } (start N vs) H) : FnOk P w K mg base CX0 (k + 1) f fd ps sp :=
  F.ok S len fun cdv A outer s H vs Q E hr h => by
    obtain ⟨t, h1, h2⟩ := hbody cdv A outer s H vs Q E hr h
    exact ⟨t, h1.nox, h2⟩
theorem okX {x qual : Str} {params : Arguments} {body : List Stmt} {scope : Scope} {f : Addr} {fd : FuncData} {N ps : List Str} {k : Nat} {sp : Sp} (F : FunD K x qual params body scope [] [] f fd) (S : FnScope N ps scope) (len : ∀ vs H Q E, sp vs H Q E → vs.length = ps.length)
    (hb : ∀ (cdv : Value) (A : Around) (outer : List Env) (s : Shared) (H : Hp) (vs : List V) (Q : VK) (E : XK), Room k (A.deeper (envOfC qual scope s.heap.objs.size f cdv)) → sp vs H Q E →
      ∃ t, PSs (cxOf (L2.CX P w) P w K mg base N qual scope f cdv A outer s H E) body t ∧ t { nx := fun _ H' => Q .non H', rt := Q } (start N vs) H) : FnOk P w K mg base (L2.CX P w) (k + 1) f fd ps sp := F.ok S len hb
/-- a def whose code object and table are told -/
theorem okTab {p : He.Defn} {x qual : Str} {params : Arguments} {body : List Stmt} {scope : Scope} {fd : FuncData} {N ps : List Str} {k : Nat} {sp : Sp} (F : FunD K x qual params body scope [] [] (He.fAd K p) fd) (S : FnScope N ps scope) (len : ∀ vs H Q E, sp vs H Q E → vs.length = ps.length)
    (hb : ∀ (A : Around) (outer : List Env) (s : Shared) (H : Hp) (vs : List V) (Q : VK) (E : XK), Room k (A.deeper (envOfC qual scope s.heap.objs.size (He.fAd K p) (.ref (He.codeOf K p)))) → sp vs H Q E →
      ∃ t, PSs (cxOf CX0 P w K mg base N qual scope (He.fAd K p) (.ref (He.codeOf K p)) A outer s H E).nox body t ∧ t { nx := fun _ H' => Q .non H', rt := Q } (start N vs) H) : FnOk P w K mg base CX0 (k + 1) (He.fAd K p) fd ps sp := by
  obtain ⟨oc, od, dV, kV, doc, pm, an, cdv, ct, osl, rfl, lk, hcd, _, _⟩ := F.ex
  obtain ⟨c, rfl⟩ := He.codeIn_ref hcd
  have e := He.codeOf_eq lk rfl
  rw [e] at hb
  refine fn_of lk hcd S len fun A outer s H vs Q E hr hsp => ?_
  obtain ⟨t, h1, h2⟩ := hb A outer s H vs Q E hr hsp
  exact ⟨t, h1.nox, h2⟩
theorem ok_taken (T : Txt K mg) : FnOk P w K mg base CX0 1 (He.fAd K ("_law_taken", none)) T.fd__law_taken ["_law_row", "_law_many"] (spTaken K) := by
  refine okOf T.F__law_taken sc__law_taken (fun vs H Q E h => ?_) (fun cdv A outer s H vs Q E hr h => ?_)
  · obtain ⟨_, _, _, _, _, rfl, _⟩ := h
    rfl
  · obtain ⟨rw, S, c, many, R, rfl, ⟨sc, ns, i, z, hsc, hz0, hz1, rfl⟩, hm, O, k⟩ := h
    refine ⟨_, (pss_cons (ps_asg (pe_op op_add (pe_ix ix_list (pv 0) pe_int (fun _ _ => rfl)) pe_int) (pg_sub (pv 0) pe_int set_list)) (pss_cons (ps_if (pt_cmpR op_gt (pe_ix ix_list (pv 0) pe_int (fun _ _ => rfl)) (pe_callB call_len_seq (by rfl) T.n_len PySem.boot_len (pa_cons (pe_ix ix_list (pv 0) pe_int (fun _ _ => rfl)) pa_nil)) (nomark _)) (pss_cons (ps_asg (pe_op op_mod (pe_op op_add (pe_op op_mul (pe_ix ix_list (pv 0) pe_int (fun _ _ => rfl)) pe_int) pe_int) pe_int) (pg_sub (pv 0) pe_int set_list)) (pss_one (ps_ret (pe_op op_mod (pe_op op_fdiv (pe_ix ix_list (pv 0) pe_int (fun _ _ => rfl)) pe_int) (pv 1))))) pss_nil) (pss_cons (ps_set (i := 2) sc__law_taken.nd rfl (Or.inl rfl) (pe_ix ix_list (pe_ix ix_list (pv 0) pe_int (fun _ _ => rfl)) (pe_op op_sub (pe_ix ix_list (pv 0) pe_int (fun _ _ => rfl)) pe_int) (fun _ _ => rfl))) (pss_cons (ps_asg (pe_op op_mod (pe_op op_add (pe_op op_add (pe_op op_mul (pe_ix ix_list (pv 0) pe_int (fun _ _ => rfl)) pe_int) (pv 2)) pe_int) pe_int) (pg_sub (pv 0) pe_int set_list)) (pss_one (ps_ret (pe_op op_mod (pv 2) (pv 1)))))))), ?_⟩
    refine ⟨_, rfl, rw, _, 1, .int i, rfl, rfl, SqL.of O.a0, rfl, _, _, rfl, rfl, _, rfl, rw, _, 1, 1, rfl, rfl, O.a0, rfl, ?_⟩
    have O1 := O.set (o' := .lst [.ref sc, .int ((i : Int) + 1), .int z])
    refine ⟨_, rfl, rw, _, 1, .int ((i : Int) + 1), rfl, rfl, SqL.of O1.a0, rfl, _, rfl, rw, _, 0, .ref sc, rfl, rfl, SqL.of O1.a0, rfl, sc, _, rfl, .inl (O1.scr hsc), _, _, rfl, rfl, _, rfl, ?_⟩
    have hi1 : (i : Int) + 1 = ((i + 1 : Nat) : Int) := by omega
    refine ite2 (fun e => ?_) (fun e => ?_)
    · refine ⟨_, rfl, rw, _, 2, .int z, rfl, rfl, SqL.of O1.a0, rfl, _, _, rfl, rfl, .inr ⟨by decide, by decide⟩, _, _, rfl, rfl, _, _, rfl, rfl, (by show (0 : Int) < 2147483647; decide), _, rfl, rw, _, 2, 2, rfl, rfl, O1.a0, rfl, ?_⟩
      have O2 := O1.set (o' := .lst [.ref sc, .int ((i : Int) + 1), .int ((z * 48271 + 11) % 2147483647)])
      have hz2 := Int.emod_nonneg (z * 48271 + 11) (by decide : (2147483647 : Int) ≠ 0)
      have hz3 := Int.emod_lt_of_pos (z * 48271 + 11) (by decide : (0 : Int) < 2147483647)
      refine ⟨_, rfl, rw, _, 2, .int ((z * 48271 + 11) % 2147483647), rfl, rfl, SqL.of O2.a0, rfl, _, _, rfl, rfl, ⟨by decide, by decide⟩, _, rfl, _, _, rfl, rfl, hm, ?_⟩
      exact k _ _ _ (Int.emod_nonneg _ (by omega)) (Int.emod_lt_of_pos _ hm) ⟨sc, ns, i + 1, _, hsc, hz2, hz3, rfl⟩ O2
    · have hlt : i < ns.length := by
        have e' : ¬ decide ((((ns.map V.int).length : Nat) : Int) < (i : Int) + 1) = true := e
        rw [List.length_map] at e'
        have := of_decide_eq_false (Bool.eq_false_iff.mpr e')
        omega
      refine ⟨_, rfl, rw, _, 0, .ref sc, rfl, rfl, SqL.of O1.a0, rfl, _, rfl, rw, _, 1, .int ((i : Int) + 1), rfl, rfl, SqL.of O1.a0, rfl, _, _, rfl, rfl, sc, _, _, .int ns[i], rfl, rfl, O1.scr hsc, ?_, ?_⟩
      · have e1 : (i : Int) + 1 - 1 = (i : Int) := by omega
        rw [e1]
        refine atI_nat ?_
        rw [List.getElem?_map, List.getElem?_eq_getElem hlt]
        rfl
      · refine ⟨_, rfl, rw, _, 2, .int z, rfl, rfl, SqL.of O1.a0, rfl, _, _, rfl, rfl, .inr ⟨by decide, by decide⟩, _, rfl, _, _, rfl, rfl, _, _, rfl, rfl, _, _, rfl, rfl, (by show (0 : Int) < 2147483647; decide), _, rfl, rw, _, 2, 2, rfl, rfl, O1.a0, rfl, ?_⟩
        have O2 := O1.set (o' := .lst [.ref sc, .int ((i : Int) + 1), .int ((z * 48271 + ns[i] + 11) % 2147483647)])
        have hz2 := Int.emod_nonneg (z * 48271 + ns[i] + 11) (by decide : (2147483647 : Int) ≠ 0)
        have hz3 := Int.emod_lt_of_pos (z * 48271 + ns[i] + 11) (by decide : (0 : Int) < 2147483647)
        refine ⟨_, rfl, _, rfl, _, _, rfl, rfl, hm, ?_⟩
        exact k _ _ _ (Int.emod_nonneg _ (by omega)) (Int.emod_lt_of_pos _ hm) ⟨sc, ns, i + 1, _, hsc, hz2, hz3, rfl⟩ O2
theorem ok_is_number (T : Txt K mg) : FnOk P w K mg base CX0 1 (He.fAd K ("is_number", none)) T.fd_is_number ["part", "low", "high"] spIsNum := by
  refine okOf T.F_is_number sc_is_number (fun vs H Q E h => ?_) (fun cdv A outer s H vs Q E hr h => ?_)
  · obtain ⟨_, _, _, rfl, _⟩ := h
    rfl
  · obtain ⟨x, lo, hi, rfl, k⟩ := h
    refine ⟨_, (pss_one (ps_ret (pe_and (pe_callB call_isi (by rfl) T.n_isinstance (by decide +kernel) (pa_cons (pv 0) (pa_cons (pe_bltn (v := .ty "int") (by rfl) T.n_int (by decide +kernel) rfl) pa_nil))) (pe_and (pe_not (pe_callB call_isi (by rfl) T.n_isinstance (by decide +kernel) (pa_cons (pv 0) (pa_cons (pe_bltn (v := .ty "bool") (by rfl) T.n_bool (by decide +kernel) rfl) pa_nil)))) (pe_one (pe_chain op_le op_le (pv 1) (pv 0) (pv 2))))))), ?_⟩
    refine ⟨_, rfl, _, _, _, _, true, rfl, ClsV.ty _, TyX.base (.int x), kit_ty (by decide +kernel), true, rfl, iteT ?_⟩
    refine ⟨_, rfl, _, _, _, _, false, rfl, ClsV.ty _, TyX.base (.int x), kit_ty (by decide +kernel), false, rfl, true, rfl, iteT ?_⟩
    refine ⟨_, rfl, _, rfl, lo, x, rfl, rfl, _, rfl, ?_⟩
    by_cases h1 : lo ≤ x
    · rw [decide_eq_true h1]
      refine iteT ⟨_, rfl, x, hi, rfl, rfl, ?_⟩
      have e : decide (x ≤ hi) = decide (lo ≤ x ∧ x ≤ hi) := by simp [h1]
      show Q (.bl (decide (x ≤ hi))) H
      rw [e]
      exact k
    · rw [decide_eq_false h1]
      refine iteF ?_
      have e : decide (lo ≤ x ∧ x ≤ hi) = false := by simp [h1]
      rw [e] at k
      exact k
end
-- WwWd
/-! ### rules whose reading names the written part by itself -/
theorem mt_cntK (K : PySem.W.Frag) {X : Cx} (hK : X.K = K) : MtR X "list.count" (rCntB K) := by
  subst hK
  exact mt_lcountB
theorem mt_idxK (K : PySem.W.Frag) {X : Cx} (hK : X.K = K) : MtR X "list.index" (rIndex K) := by
  subst hK
  exact mt_index
theorem ix_listK (K : PySem.W.Frag) {X : Cx} (hK : X.K = K) : IxR X (rIxL K) := by
  subst hK
  exact ix_list
theorem op_inK (K : PySem.W.Frag) {X : Cx} (hK : X.K = K) : OpR X (compareOp .In) (rIn K false) := by
  subst hK
  exact op_in_seq
theorem pe_bmK (K : PySem.W.Frag) {X : Cx} (hK : X.K = K) {o e : Expr} {es : List Expr} {to : TE} {t : L2.TA} {name : Str} {apos cpos : Pos} {T id : String} {r : V → List V → Hp → VK → Prop} (pa : PlainAttrs T) (slot : Slot T name id) (hty : typeOf (.builtin id) = pure (.type "method_descriptor")) (hm : MtR X id r) (ho : PE X o to) (ha : PA X (e :: es) t)
    (h1 : attributeBase o name X.env (eval o X.env) = eval o X.env := by rfl)
    (h2 : ((backTo cpos (starEach (e :: es) X.env)).all (fun x => !x.1) && (backToKw cpos (keywordEach [] X.env)).all (fun x => x.1.isSome) && decide ((e :: es).length + ([] : List Keyword).length + (if ([] : List Keyword).isEmpty then 0 else 1) < 30)) = true := by rfl)
    (h3 : (apos.endLine == cpos.line) = true := by rfl) (h4 : starEach (e :: es) X.env = (false, eval e X.env) :: starEach es X.env := by rfl) (h5 : (backTo cpos (starEach es X.env)).any (·.1) = false := by rfl) :
    PE X (.Call (.Attribute o name apos) (e :: es) [] cpos) (tBM K T r to t) := by
  subst hK
  exact pe_bm pa slot hty hm ho ha h1 h2 h3 h4 h5
/-! ### refusals, and the word of a refusal -/
section
variable {P : Program} {w : World} {K : PySem.W.Frag} {mg : Str → Option Value} {base : Heap} {n lv : Nat}
theorem ok_BadRule (T : Txt K mg) : FnOk P w K mg base CX0 1 (He.ma K (He.ga K "BadRule") "__init__") T.fd_BadRule___init__ ["self", "number"] (spExI K (He.ga K "BadRule") "number") := by
  refine okOf T.F_BadRule___init__ sc_BadRule___init__ (fun vs H Q E h => ?_) (fun cdv A outer s H vs Q E hr h => ?_)
  · obtain ⟨_, _, rfl, _⟩ := h
    rfl
  · obtain ⟨a, n, rfl, hn, ha, k⟩ := h
    have T1 := (T.xt.xc "BadRule" (by decide)).oex T.ox_BadRule
    refine ⟨_, (pss_cons (ps_expr (pe_weinit (by rfl) T.g_WayError T.xt.sg T.xt.rd T.xt.fc (pa_cons (pv 0) (pa_cons (pe_joined (.cons pe_str (.cons (pe_fmt (pv 1)) .nil))) pa_nil)))) (pss_one (ps_ost (pv 0) (pv 1)))), ?_⟩
    refine ⟨_, rfl, ⟨"rule ", rfl, by decide, _, rfl, .inr ⟨n, rfl, log60 hn, _, rfl, int_fits60 hn (by decide), ?_⟩⟩⟩
    refine ⟨a, _, _, rfl, by show 1 ≤ 1000; decide, T1, ha, ?_⟩
    exact ⟨_, rfl, _, rfl, a, _, rfl, T1, T.na_BadRule_number, .inl ⟨ha, fun dx h1 h2 => k dx h1 h2⟩⟩
theorem ok_BadDeed (T : Txt K mg) : FnOk P w K mg base CX0 1 (He.ma K (He.ga K "BadDeed") "__init__") T.fd_BadDeed___init__ ["self", "number"] (spExI K (He.ga K "BadDeed") "number") := by
  refine okOf T.F_BadDeed___init__ sc_BadDeed___init__ (fun vs H Q E h => ?_) (fun cdv A outer s H vs Q E hr h => ?_)
  · obtain ⟨_, _, rfl, _⟩ := h
    rfl
  · obtain ⟨a, n, rfl, hn, ha, k⟩ := h
    have T1 := (T.xt.xc "BadDeed" (by decide)).oex T.ox_BadDeed
    refine ⟨_, (pss_cons (ps_expr (pe_weinit (by rfl) T.g_WayError T.xt.sg T.xt.rd T.xt.fc (pa_cons (pv 0) (pa_cons (pe_joined (.cons pe_str (.cons (pe_fmt (pv 1)) .nil))) pa_nil)))) (pss_one (ps_ost (pv 0) (pv 1)))), ?_⟩
    refine ⟨_, rfl, ⟨"deed ", rfl, by decide, _, rfl, .inr ⟨n, rfl, log60 hn, _, rfl, int_fits60 hn (by decide), ?_⟩⟩⟩
    refine ⟨a, _, _, rfl, by show 1 ≤ 1000; decide, T1, ha, ?_⟩
    exact ⟨_, rfl, _, rfl, a, _, rfl, T1, T.na_BadDeed_number, .inl ⟨ha, fun dx h1 h2 => k dx h1 h2⟩⟩
theorem ok_BadLeavings (T : Txt K mg) : FnOk P w K mg base CX0 1 (He.ma K (He.ga K "BadLeavings") "__init__") T.fd_BadLeavings___init__ ["self", "number"] (spExI K (He.ga K "BadLeavings") "number") := by
  refine okOf T.F_BadLeavings___init__ sc_BadLeavings___init__ (fun vs H Q E h => ?_) (fun cdv A outer s H vs Q E hr h => ?_)
  · obtain ⟨_, _, rfl, _⟩ := h
    rfl
  · obtain ⟨a, n, rfl, hn, ha, k⟩ := h
    have T1 := (T.xt.xc "BadLeavings" (by decide)).oex T.ox_BadLeavings
    refine ⟨_, (pss_cons (ps_expr (pe_weinit (by rfl) T.g_WayError T.xt.sg T.xt.rd T.xt.fc (pa_cons (pv 0) (pa_cons (pe_joined (.cons pe_str (.cons (pe_fmt (pv 1)) .nil))) pa_nil)))) (pss_one (ps_ost (pv 0) (pv 1)))), ?_⟩
    refine ⟨_, rfl, ⟨"leaving ", rfl, by decide, _, rfl, .inr ⟨n, rfl, log60 hn, _, rfl, int_fits60 hn (by decide), ?_⟩⟩⟩
    refine ⟨a, _, _, rfl, by show 1 ≤ 1000; decide, T1, ha, ?_⟩
    exact ⟨_, rfl, _, rfl, a, _, rfl, T1, T.na_BadLeavings_number, .inl ⟨ha, fun dx h1 h2 => k dx h1 h2⟩⟩
theorem ok_BadText (T : Txt K mg) : FnOk P w K mg base CX0 1 (He.ma K (He.ga K "BadText") "__init__") T.fd_BadText___init__ ["self", "row"] (spExI K (He.ga K "BadText") "row") := by
  refine okOf T.F_BadText___init__ sc_BadText___init__ (fun vs H Q E h => ?_) (fun cdv A outer s H vs Q E hr h => ?_)
  · obtain ⟨_, _, rfl, _⟩ := h
    rfl
  · obtain ⟨a, n, rfl, hn, ha, k⟩ := h
    have T1 := (T.xt.xc "BadText" (by decide)).oex T.ox_BadText
    refine ⟨_, (pss_cons (ps_expr (pe_weinit (by rfl) T.g_WayError T.xt.sg T.xt.rd T.xt.fc (pa_cons (pv 0) (pa_cons (pe_joined (.cons pe_str (.cons (pe_fmt (pv 1)) .nil))) pa_nil)))) (pss_one (ps_ost (pv 0) (pv 1)))), ?_⟩
    refine ⟨_, rfl, ⟨"row ", rfl, by decide, _, rfl, .inr ⟨n, rfl, log60 hn, _, rfl, int_fits60 hn (by decide), ?_⟩⟩⟩
    refine ⟨a, _, _, rfl, by show 1 ≤ 1000; decide, T1, ha, ?_⟩
    exact ⟨_, rfl, _, rfl, a, _, rfl, T1, T.na_BadText_row, .inl ⟨ha, fun dx h1 h2 => k dx h1 h2⟩⟩
end
def wordsL : List Str := ["rule", "hands", "hand", "place", "number", "deed", "room", "ways", "leavings", "text"]
def fldOf (i : Nat) : Option Str := if i = 0 ∨ i = 5 ∨ i = 8 then some "number" else if i = 9 then some "row" else none
/-- what the word of a refusal asks of the exception -/
def wishW (K : PySem.W.Frag) (Q : VK) : XK := fun cls d H => ∃ (i : Nat) (c wd : Str) (L : List Cell), bads[i]? = some c ∧ wordsL[i]? = some wd ∧ cls = .ref (He.ga K c) ∧ Own H L ∧
  ((d = none ∧ fldOf i = none ∧ ∀ H', Own H' L → Q (.str wd) H') ∨
    ∃ (dd : Addr) (f : Str) (n : Int), d = some dd ∧ fldOf i = some f ∧ (dd, HO.xd [(f, .int n)]) ∈ L ∧ ∀ (t : Addr) (H' : Hp), Own H' ((t, .tup [.str wd, .int n]) :: L) → Q (.ref t) H')
def TTword (K : PySem.W.Frag) : (XK → Hp → VK → Prop) → Hp → VK → Prop := fun tl H Q => tl (wishW K Q) H fun _ H' => Q (.str "") H'
def kindsL (c : Str) : List Bool := bads.map fun d => decide (c = d)
theorem kinds_of {i : Nat} {c : Str} (h : bads[i]? = some c) : (kindsL c).countP (· == true) = 1 ∧ (kindsL c)[i]? = some true ∧ (∀ m z, m < i → (kindsL c)[m]? = some z → z = false) ∧ i < 10 := by
  have hi : i < 10 := (List.getElem?_eq_some_iff.mp h).1
  have : i = 0 ∨ i = 1 ∨ i = 2 ∨ i = 3 ∨ i = 4 ∨ i = 5 ∨ i = 6 ∨ i = 7 ∨ i = 8 ∨ i = 9 := by omega
  have key : ∀ (j : Nat), j < 10 → ∀ c, bads[j]? = some c → (kindsL c).countP (· == true) = 1 ∧ (kindsL c)[j]? = some true ∧ ∀ m, m < j → (kindsL c)[m]? = some false := by
    intro j hj c hc
    rcases (show j = 0 ∨ j = 1 ∨ j = 2 ∨ j = 3 ∨ j = 4 ∨ j = 5 ∨ j = 6 ∨ j = 7 ∨ j = 8 ∨ j = 9 by omega) with e | e | e | e | e | e | e | e | e | e <;> subst e <;> obtain rfl := Option.some.inj hc <;> decide +kernel
  obtain ⟨h1, h2, h3⟩ := key i hi c h
  refine ⟨h1, h2, fun m z hm hz => ?_, hi⟩
  rw [h3 m hm] at hz
  exact (Option.some.inj hz).symm
theorem wordIn {i : Nat} {wd : Str} (h : wordsL[i]? = some wd) : inV (.str wd) [.str "rule", .str "deed", .str "leavings"] = decide (i = 0 ∨ i = 5 ∨ i = 8) ∧ decide (V.str wd = V.str "text") = decide (i = 9) := by
  have hi : i < 10 := (List.getElem?_eq_some_iff.mp h).1
  rcases (show i = 0 ∨ i = 1 ∨ i = 2 ∨ i = 3 ∨ i = 4 ∨ i = 5 ∨ i = 6 ∨ i = 7 ∨ i = 8 ∨ i = 9 by omega) with e | e | e | e | e | e | e | e | e | e <;> subst e <;> obtain rfl := Option.some.inj h <;> decide +kernel
theorem len4 {σ : L2.St} (h : σ.length = 4) : ∃ a b c d, σ = [a, b, c, d] := by
  match σ, h with
  | [a, b, c, d], _ => exact ⟨a, b, c, d, rfl⟩
theorem shapedWI {x : Str} {n : Int} (h : PyData.canLay0 (.str x) = true) : SeqAt.shaped (.tuple [.str x, .int n]) = true := by
  refine shaped_of ?_ ?_
  · show (PyData.canLay0 (.str x) && (true && true)) = true
    rw [h]
    rfl
  · show max 0 (max 0 0) + 1 ≤ 64
    decide
theorem pss_ex {X : Cx} {α : Type _} {c : α → Prop} {t : α → TS} {body : List Stmt} (h : ∀ x, c x → PSs X body (t x)) : PSs X body (fun D σ H => ∃ x, c x ∧ t x D σ H) :=
  ⟨fun pins s σ H D I ⟨x, hc, ht⟩ => (h x hc).run pins s σ H D I ht⟩
theorem iteTo {b : Bool} {p q : Prop} (e : b = true) (h : p) : if b = true then p else q := by
  rw [if_pos e]
  exact h
theorem iteFo {b : Bool} {p q : Prop} (e : b = false) (h : q) : if b = true then p else q := by
  rw [if_neg (by rw [e]; decide)]
  exact h
theorem word_gives {X : Cx} (T : Txt X.K X.mg) {cdg : Value} {q : Str} : LamX.GivesTo X ["_law_work", "_law_kinds", "e", "_law_word_here"] "_law_word" (defScope s__law_word) (He.fAd X.K ("_law_word", none)) cdg (defBody s__law_word) "_law_work" q (TTword X.K) := by
  intro f c' s H Q tl act hc h
  refine ⟨_, pss_cons (ps_try_as (X := (cxOf C8.CX0 X.prog X.w X.K X.mg X.base ["_law_work", "_law_kinds", "e", "_law_word_here"] "_law_word" (defScope s__law_word) (He.fAd X.K ("_law_word", none)) cdg X.A X.stack s H C8.E0).nox) (c := .ref (He.ga X.K "WayError")) (i := 2)
      (tb := fun W D σ H => ∃ Ech : XK, (∀ cls d σ' H', σ'.length = 4 → Ech cls d H' → W cls d σ' H') ∧ σ[0]? = some (some (.ref f)) ∧ H c' = some (LamX.CodeO c' q) ∧ tl Ech H fun _ H' => D.nx σ H')
      rfl rfl sc__law_word.nd rfl rfl ⟨rfl, by decide, .inl T.g_WayError⟩ LamX.takes0 (fun W pn xe tk _ => ?_) (fun a oe cls d pn hz hf => (pss_cons (ps_set (i := 1) sc__law_word.nd rfl (Or.inl rfl) (pe_lst (pa_cons (pe_callB (call_isX hz hf) (by rfl) T.n_isinstance (by decide +kernel) (pa_cons (pv 2) (pa_cons (pe_globR rfl T.g_BadRule) pa_nil))) (pa_cons (pe_callB (call_isX hz hf) (by rfl) T.n_isinstance (by decide +kernel) (pa_cons (pv 2) (pa_cons (pe_globR rfl T.g_BadHands) pa_nil))) (pa_cons (pe_callB (call_isX hz hf) (by rfl) T.n_isinstance (by decide +kernel) (pa_cons (pv 2) (pa_cons (pe_globR rfl T.g_BadHand) pa_nil))) (pa_cons (pe_callB (call_isX hz hf) (by rfl) T.n_isinstance (by decide +kernel) (pa_cons (pv 2) (pa_cons (pe_globR rfl T.g_BadPlace) pa_nil))) pa_nil)))))) (pss_cons (ps_set (i := 1) sc__law_word.nd rfl (Or.inl rfl) (pe_op op_cat (pv 1) (pe_lst (pa_cons (pe_callB (call_isX hz hf) (by rfl) T.n_isinstance (by decide +kernel) (pa_cons (pv 2) (pa_cons (pe_globR rfl T.g_BadNumber) pa_nil))) (pa_cons (pe_callB (call_isX hz hf) (by rfl) T.n_isinstance (by decide +kernel) (pa_cons (pv 2) (pa_cons (pe_globR rfl T.g_BadDeed) pa_nil))) (pa_cons (pe_callB (call_isX hz hf) (by rfl) T.n_isinstance (by decide +kernel) (pa_cons (pv 2) (pa_cons (pe_globR rfl T.g_BadRoom) pa_nil))) pa_nil)))))) (pss_cons (ps_set (i := 1) sc__law_word.nd rfl (Or.inl rfl) (pe_op op_cat (pv 1) (pe_lst (pa_cons (pe_callB (call_isX hz hf) (by rfl) T.n_isinstance (by decide +kernel) (pa_cons (pv 2) (pa_cons (pe_globR rfl T.g_BadWays) pa_nil))) (pa_cons (pe_callB (call_isX hz hf) (by rfl) T.n_isinstance (by decide +kernel) (pa_cons (pv 2) (pa_cons (pe_globR rfl T.g_BadLeavings) pa_nil))) (pa_cons (pe_callB (call_isX hz hf) (by rfl) T.n_isinstance (by decide +kernel) (pa_cons (pv 2) (pa_cons (pe_globR rfl T.g_BadText) pa_nil))) pa_nil)))))) (pss_cons (ps_if (PW.pt (pw_or (pt_cmpR op_ne (pe_bmK X.K (by rfl) PySem.F.plainAttrs_list PySem.F.slot_list_count PySem.F.type_list_count (mt_cntK X.K (by rfl)) (pv 1) (pa_cons pe_bl pa_nil)) pe_int (nomark _)) (pw_or1 (pt_not (pt_val (pe_callB (call_isX hz hf) (by rfl) T.n_isinstance (by decide +kernel) (pa_cons (pv 2) (pa_cons (pe_bltn (v := .ty "ValueError") (by rfl) T.n_ValueError (by decide +kernel) rfl) pa_nil)))))))) (pss_one (ps_ret pe_str)) pss_nil) (pss_cons (ps_set (i := 3) sc__law_word.nd rfl (Or.inl rfl) (pe_lst (pa_cons pe_str (pa_cons pe_str (pa_cons pe_str (pa_cons pe_str (pa_cons pe_str (pa_cons pe_str (pa_cons pe_str (pa_cons pe_str (pa_cons pe_str (pa_cons pe_str pa_nil)))))))))))) (pss_cons (ps_set (i := 3) sc__law_word.nd rfl (Or.inl rfl) (pe_ix (ix_listK X.K (by rfl)) (pv 3) (pe_bmK X.K (by rfl) PySem.F.plainAttrs_list PySem.F.slot_list_index PySem.F.type_list_index (mt_idxK X.K (by rfl)) (pv 1) (pa_cons pe_bl pa_nil)) (fun _ _ => rfl))) (pss_cons (ps_if (pt_cmpR (op_inK X.K (by rfl)) (pv 3) (pe_tup (pa_cons pe_str (pa_cons pe_str (pa_cons pe_str pa_nil)))) (by rfl)) (pss_one (ps_ret (pe_tup (pa_cons (pv 3) (pa_cons (pe_xg hz hf (pv 2)) pa_nil))))) pss_nil) (pss_one (ps_ret (pe_ifExp (pt_cmpR op_eq (pv 3) pe_str (nomark _)) (pe_tup (pa_cons (pv 3) (pa_cons (pe_xg hz hf (pv 2)) pa_nil))) (pv 3))))))))))))) (pss_one (ps_ret pe_str)), ?_⟩
  · refine pss_ex (c := fun Ech : XK => ∀ cls d (σ' : L2.St) H', σ'.length = 4 → Ech cls d H' → W cls d σ' H') fun Ech hW => pss_one (ps_expr (act _ pn xe Ech _ _ (takesLen tk) fun cls d σ' H' e l => hW cls d σ' H' l e))
  · refine ⟨wishW X.K Q, fun cls d σ' H' hl hw => ?_, rfl, hc, h⟩
    obtain ⟨b0, b1, b2, b3, rfl⟩ := len4 hl
    obtain ⟨i, c, wd, L, hi, hwd, rfl, O, hk⟩ := hw
    have hcm : c ∈ bads := List.mem_of_getElem? hi
    have hdd : ∀ dd, d = some dd → ∃ fs, (dd, HO.xd fs) ∈ L := fun dd e => by
      rcases hk with ⟨e2, _⟩ | ⟨d2, f2, n2, e2, _, hm, _⟩
      · rw [e2] at e
        cases e
      · rw [e2] at e
        cases e
        exact ⟨_, hm⟩
    refine ⟨true, T.xt.ex c hcm, fun _ a ha => ?_, fun z => nomatch z⟩
    have hx := T.xt.xc c hcm
    have hd0 : ∀ {HH : Hp} {LL : List Cell}, Own HH (LL ++ L) → ∀ dd, d = some dd → ∃ fs, HH dd = some (.xd fs) := fun O dd e => by
      obtain ⟨fs, hm⟩ := hdd dd e
      exact ⟨fs, O.mem (List.mem_append_right _ hm)⟩
    have hd1 := hd0 (LL := []) O
    refine ⟨_, rfl, _, _, _, _, rfl, hx, hd1, rfl, fun u r => r, T.xt.kit c hcm "BadRule" (by decide), ?_⟩
    refine ⟨_, rfl, _, _, _, _, rfl, hx, hd1, rfl, fun u r => r, T.xt.kit c hcm "BadHands" (by decide), ?_⟩
    refine ⟨_, rfl, _, _, _, _, rfl, hx, hd1, rfl, fun u r => r, T.xt.kit c hcm "BadHand" (by decide), ?_⟩
    refine ⟨_, rfl, _, _, _, _, rfl, hx, hd1, rfl, fun u r => r, T.xt.kit c hcm "BadPlace" (by decide), ?_⟩
    refine ⟨by show 4 ≤ sizeLine; decide, fun p1 hp1 => ?_⟩
    have O1 := O.new (o := .lst ([decide (c = "BadRule"), decide (c = "BadHands"), decide (c = "BadHand"), decide (c = "BadPlace")].map V.bl)) hp1
    have hd2 := hd0 (LL := [_]) O1
    refine ⟨_, rfl, ?_⟩
    refine ⟨_, rfl, _, _, _, _, rfl, hx, hd2, rfl, fun u r => r, T.xt.kit c hcm "BadNumber" (by decide), ?_⟩
    refine ⟨_, rfl, _, _, _, _, rfl, hx, hd2, rfl, fun u r => r, T.xt.kit c hcm "BadDeed" (by decide), ?_⟩
    refine ⟨_, rfl, _, _, _, _, rfl, hx, hd2, rfl, fun u r => r, T.xt.kit c hcm "BadRoom" (by decide), ?_⟩
    refine ⟨by show 3 ≤ sizeLine; decide, fun p2 hp2 => ?_⟩
    have O2 := O1.new (o := .lst ([decide (c = "BadNumber"), decide (c = "BadDeed"), decide (c = "BadRoom")].map V.bl)) hp2
    refine ⟨p1, p2, _, _, rfl, rfl, O2.a1, O2.a0, by show 4 + 3 ≤ sizeLine; decide, fun p3 hp3 => ?_⟩
    have O3 := O2.new (o := .lst ([decide (c = "BadRule"), decide (c = "BadHands"), decide (c = "BadHand"), decide (c = "BadPlace"), decide (c = "BadNumber"), decide (c = "BadDeed"), decide (c = "BadRoom")].map V.bl)) hp3
    have hd3 := hd0 (LL := [_, _, _]) O3
    refine ⟨_, rfl, ?_⟩
    refine ⟨_, rfl, _, _, _, _, rfl, hx, hd3, rfl, fun u r => r, T.xt.kit c hcm "BadWays" (by decide), ?_⟩
    refine ⟨_, rfl, _, _, _, _, rfl, hx, hd3, rfl, fun u r => r, T.xt.kit c hcm "BadLeavings" (by decide), ?_⟩
    refine ⟨_, rfl, _, _, _, _, rfl, hx, hd3, rfl, fun u r => r, T.xt.kit c hcm "BadText" (by decide), ?_⟩
    refine ⟨by show 3 ≤ sizeLine; decide, fun p4 hp4 => ?_⟩
    have O4 := O3.new (o := .lst ([decide (c = "BadWays"), decide (c = "BadLeavings"), decide (c = "BadText")].map V.bl)) hp4
    refine ⟨p3, p4, _, _, rfl, rfl, O4.a1, O4.a0, by show 7 + 3 ≤ sizeLine; decide, fun p5 hp5 => ?_⟩
    have O5 := O4.new (o := .lst ((kindsL c).map V.bl)) hp5
    have hd5 := hd0 (LL := [_, _, _, _, _]) O5
    obtain ⟨k1, k2, k3, hi10⟩ := kinds_of hi
    refine ⟨_, rfl, .inl ⟨rfl, _, SqL.of O5.a0⟩, p5, kindsL c, true, rfl, rfl, SqL.of O5.a0, ?_⟩
    rw [k1]
    refine ⟨rfl, false, rfl, iteF ?_⟩
    refine ⟨_, rfl, _, _, _, _, rfl, hx, hd5, rfl, fun u r => r, T.xt.kv c hcm, _, rfl, iteF ?_⟩
    refine ⟨by show 10 ≤ sizeLine; decide, fun p6 hp6 => ?_⟩
    have O6 := O5.new (o := .lst (wordsL.map V.str)) hp6
    refine ⟨_, rfl, _, rfl, .inl ⟨rfl, _, SqL.of O6.a1⟩, p5, _, _, i, .bl true, rfl, rfl, SqL.of O6.a1, rfl, ?_, by rw [List.getElem?_map, k2]; rfl, rfl, fun m z hm hz => ?_, ?_⟩
    · rw [List.all_eq_true]
      intro x hx2
      obtain ⟨b, _, rfl⟩ := List.mem_map.mp hx2
      rfl
    · rw [List.getElem?_map] at hz
      cases e : (kindsL c)[m]? with
      | none =>
        rw [e] at hz
        cases hz
      | some b =>
        rw [e] at hz
        have ez : V.bl b = z := Option.some.inj hz
        rw [← ez, k3 m b hm e]
        rfl
    refine ⟨p6, _, _, .str wd, rfl, rfl, SqL.of O6.a0, atI_nat (by rw [List.getElem?_map, hwd]; rfl), ?_⟩
    obtain ⟨w1, w2⟩ := wordIn hwd
    have hpar : ∀ {f : Str}, fldOf i = some f → PySem.W.findIn X.K (.ref (He.ga X.K c)) f = some none := fun {f} hf => by
      unfold fldOf at hf
      split at hf
      · rename_i h3
        obtain rfl := Option.some.inj hf
        rcases h3 with e | e | e <;> subst e <;> obtain rfl := Option.some.inj hi
        · exact T.na_BadRule_number
        · exact T.na_BadDeed_number
        · exact T.na_BadLeavings_number
      · split at hf
        · rename_i e
          subst e
          obtain rfl := Option.some.inj hf
          obtain rfl := Option.some.inj hi
          exact T.na_BadText_row
        · cases hf
    refine ⟨_, rfl, by show 3 ≤ sizeLine; decide, fun p7 hp7 => ?_⟩
    have O7 := O6.new (o := .tup [.str "rule", .str "deed", .str "leavings"]) hp7
    refine ⟨p7, _, rfl, .inr (SqT.of O7.a0), rfl, rfl, ?_⟩
    rw [w1]
    have OL : ∀ {HH : Hp} {LL : List Cell}, Own HH (LL ++ L) → Own HH L := fun O => Own.right O
    refine ⟨_, rfl, ?_⟩
    by_cases h3 : i = 0 ∨ i = 5 ∨ i = 8
    · refine iteTo (decide_eq_true h3) ?_
      rcases hk with ⟨_, e2, _⟩ | ⟨dd, f2, n2, rfl, e2, hm, k⟩
      · unfold fldOf at e2
        rw [if_pos h3] at e2
        cases e2
      have e3 := e2
      unfold fldOf at e3
      rw [if_pos h3] at e3
      obtain rfl := Option.some.inj e3
      refine ⟨_, rfl, _, rfl, rfl, _, dd, _, .int n2, rfl, hx, hpar e2, rfl, O7.mem (show (dd, HO.xd [("number", V.int n2)]) ∈ _ by simp [hm]), rfl, by show 2 ≤ sizeLine; decide, fun p8 hp8 => ?_⟩
      have O8 := O7.new (o := .tup [.str wd, .int n2]) hp8
      exact k p8 _ (O8.sub (List.Sublist.cons_cons _ (List.sublist_append_right [_, _, _, _, _, _, _] L)))
    · refine iteFo (decide_eq_false h3) ?_
      refine ⟨_, rfl, ?_⟩
      refine ⟨rfl, _, rfl, ?_⟩
      rw [w2]
      by_cases h9 : i = 9
      · refine iteTo (decide_eq_true h9) ?_
        rcases hk with ⟨_, e2, _⟩ | ⟨dd, f2, n2, rfl, e2, hm, k⟩
        · unfold fldOf at e2
          rw [if_neg h3, if_pos h9] at e2
          cases e2
        have e3 := e2
        unfold fldOf at e3
        rw [if_neg h3, if_pos h9] at e3
        obtain rfl := Option.some.inj e3
        refine ⟨_, rfl, _, rfl, rfl, _, dd, _, .int n2, rfl, hx, hpar e2, rfl, O7.mem (show (dd, HO.xd [("row", V.int n2)]) ∈ _ by simp [hm]), rfl, by show 2 ≤ sizeLine; decide, fun p8 hp8 => ?_⟩
        have O8 := O7.new (o := .tup [.str wd, .int n2]) hp8
        exact k p8 _ (O8.sub (List.Sublist.cons_cons _ (List.sublist_append_right [_, _, _, _, _, _, _] L)))
      · refine iteFo (decide_eq_false h9) ⟨_, rfl, ?_⟩
        rcases hk with ⟨rfl, e2, k⟩ | ⟨dd, f2, n2, rfl, e2, hm, k⟩
        · exact k _ (O7.sub (List.sublist_append_right [_, _, _, _, _, _, _] L))
        · unfold fldOf at e2
          rw [if_neg h3, if_neg h9] at e2
          cases e2
-- WwFb
/-! ### blocks that are none, ways that are none -/
abbrev isV (ns : List Int) : List V := ns.map V.int
def BlkAt (ns : List Int) (i : Nat) : Prop := ∃ x, ns[i]? = some x ∧ i < 200 ∧ 0 ≤ x ∧ x ≤ 15
def BlksOk (ns : List Int) : Prop := ∀ i, i < ns.length → BlkAt ns i
/-- the first that can't be -/
def BlkBad (ns : List Int) (i : Nat) : Prop := i < ns.length ∧ ¬ BlkAt ns i ∧ ∀ j, j < i → BlkAt ns j
def spNeedBlksX (K : PySem.W.Frag) : Sp := fun vs H Q E => ∃ (pa : Addr) (ns : List Int) (R : List Cell), vs = [.ref pa] ∧ ns.length ≤ 1000 ∧ (pa, HO.lst (isV ns)) ∈ R ∧ Own H R ∧ (BlksOk ns → ∀ H' : Hp, Own H' R → Q .non H') ∧
  ∀ i, BlkBad ns i → ∀ (d : Addr) (H' : Hp), Own H' ((d, .xd [("number", .int (i : Nat))]) :: R) → E (.ref (He.ga K "BadDeed")) (some d) H'
def spNeedWaysX (K : PySem.W.Frag) : Sp := fun vs H Q E => ∃ (w : Int), vs = [.int w] ∧ (1 ≤ w ∧ w ≤ 8 → Q .non H) ∧ (¬ (1 ≤ w ∧ w ≤ 8) → E (.ref (He.ga K "BadWays")) none H)
section
variable {P : Program} {w : World} {K : PySem.W.Frag} {mg : Str → Option Value} {base : Heap} {n lv : Nat}
theorem ok_need_blksX (T : Txt K mg) : FnOk P w K mg base (L2.CX P w) 3 (He.fAd K ("need_blocks", none)) T.fd_need_blocks ["blocks"] (spNeedBlksX K) := by
  have G_is_number := ok_is_number (P := P) (w := w) (base := base) T
  have G_BadDeed := ok_BadDeed (P := P) (w := w) (base := base) T
  refine okX T.F_need_blocks sc_need_blocks (fun vs H Q E h => ?_) (fun cdv A outer s H vs Q E hr h => ?_)
  · obtain ⟨_, _, _, rfl, _⟩ := h
    rfl
  · obtain ⟨pa, ns, R, rfl, hl, hpa, O, k, ke⟩ := h
    refine ⟨_, (pss_one (ps_for (passes_of rfl) rfl (pi_enum (by rfl) T.n_enumerate (pa_cons (pv 0) pa_nil)) (pg_tup (by rfl) (pgs_cons (pg_name (i := 1) sc_need_blocks.nd rfl (Or.inl rfl)) (pgs_cons (pg_name (i := 2) sc_need_blocks.nd rfl (Or.inl rfl)) pgs_nil))) (pss_one (ps_if (PW.pt (pw_or (pt_cmpR op_ge (pv 1) (pe_globI rfl T.g_MOST_DEEDS) (nomark _)) (pw_or1 (pt_not (pt_val (pe_call G_is_number (hr.mono (by omega)) rfl T.g_is_number T.k_is_number T.b_is_number .nil pass0 (pa_cons (pv 2) (pa_cons pe_int (pa_cons (pe_op op_sub (pe_globI rfl T.g_BLOCKS) pe_int) pa_nil))))))))) (pss_one (ps_raise rfl (takes_of rfl rfl rfl rfl) (pmk_oex ((T.xt.xc "BadDeed" (by decide)).oex T.ox_BadDeed) T.m_BadDeed___init__.at_ (isFn_ty T.m_BadDeed___init__.fn) G_BadDeed (hr.mono (by omega)) T.b_BadDeed___init__ .nil pass0 (by rfl) T.g_BadDeed (pa_cons (pv 1) pa_nil)))) pss_nil)))), ?_⟩
    refine ⟨_, rfl, pa, _, rfl, SqL.of (O.mem hpa), ?_⟩
    refine for_enum (K := K) (a := pa) (xs := isV ns) (fun i σ H' => (∃ v1 v2, σ = [some (.ref pa), v1, v2]) ∧ (∀ j, j < i → BlkAt ns j) ∧ Own H' R) ⟨⟨none, none, rfl⟩, fun j hj => absurd hj (by omega), O⟩ (fun i σ H' _ ⟨_, _, O'⟩ => SqL.of (O'.mem hpa)) ?_ ?_
    · rintro i x σ H1 p hi ⟨⟨v1, v2, rfl⟩, hj, O1⟩ hp
      rw [List.getElem?_map] at hi
      cases ha : ns[i]? with
      | none =>
        rw [ha] at hi
        cases hi
      | some b =>
        rw [ha] at hi
        have ex : V.int b = x := Option.some.inj hi
        subst ex
        have hil : i < ns.length := (List.getElem?_eq_some_iff.mp ha).1
        have O2 := O1.new (o := .tup [.int (i : Nat), .int b]) hp
        have bad : ¬ BlkAt ns i → ∀ d, upd H1 p (HO.tup [.int (i : Nat), .int b]) d = none → E (.ref (He.ga K "BadDeed")) (some d) (upd (upd H1 p (HO.tup [.int (i : Nat), .int b])) d (.xd [("number", .int (i : Nat))])) := fun hb d hd => ke i ⟨hil, hb, hj⟩ d _ ((O2.tail).new hd)
        refine ⟨p, _, rfl, SqT.of O2.a0, rfl, _, _, rfl, _, _, rfl, rfl, ?_⟩
        refine ⟨_, rfl, i, 200, rfl, rfl, _, rfl, ?_⟩
        by_cases h2 : (200 : Int) ≤ (i : Int)
        · refine iteTo (decide_eq_true h2) ?_
          refine ⟨_, rfl, rz_go (by omega) (bad fun ⟨_, _, z, _⟩ => by omega)⟩
        · refine iteFo (decide_eq_false h2) ?_
          refine ⟨_, rfl, _, _, rfl, rfl, b, 0, 15, rfl, _, rfl, ?_⟩
          by_cases h3 : 0 ≤ b ∧ b ≤ 15
          · rw [decide_eq_true h3]
            refine iteF ⟨⟨_, _, rfl⟩, fun j hj2 => ?_, O2.tail⟩
            by_cases e : j = i
            · rw [e]
              exact ⟨b, ha, by omega, h3.1, h3.2⟩
            · exact hj j (by omega)
          · rw [decide_eq_false h3]
            refine iteT ⟨_, rfl, rz_go (by omega) (bad fun ⟨y, hy, _, z⟩ => ?_)⟩
            rw [ha] at hy
            cases hy
            exact h3 z
    · rintro σ H1 ⟨⟨v1, v2, rfl⟩, hj, O1⟩
      rw [List.length_map] at hj
      exact k hj H1 O1
theorem ok_need_waysX (T : Txt K mg) : FnOk P w K mg base (L2.CX P w) 2 (He.fAd K ("need_ways", none)) T.fd_need_ways ["ways"] (spNeedWaysX K) := by
  have G_is_number := ok_is_number (P := P) (w := w) (base := base) T
  refine okX T.F_need_ways sc_need_ways (fun vs H Q E h => ?_) (fun cdv A outer s H vs Q E hr h => ?_)
  · obtain ⟨_, rfl, _⟩ := h
    rfl
  · obtain ⟨w, rfl, k, ke⟩ := h
    refine ⟨_, (pss_one (ps_if (pt_not (pt_val (pe_call G_is_number (hr.mono (by omega)) rfl T.g_is_number T.k_is_number T.b_is_number .nil pass0 (pa_cons (pv 0) (pa_cons pe_int (pa_cons (pe_globI rfl T.g_MOST_WAYS) pa_nil)))))) (pss_one (ps_raise rfl (takes_of rfl rfl rfl rfl) (pmk_own PySem.F.excBase_ValueError T.xe_BadWays.1 T.g_BadWays T.xe_BadWays.2.1 (raises_own T.xe_BadWays.2.2.1 T.xe_BadWays.2.2.2) (by rfl)))) pss_nil)), ?_⟩
    refine ⟨_, rfl, w, 1, 8, rfl, _, rfl, ?_⟩
    by_cases h3 : 1 ≤ w ∧ w ≤ 8
    · rw [decide_eq_true h3]
      exact iteF (k h3)
    · rw [decide_eq_false h3]
      exact iteT (ke h3)
end
-- WwBl
def spBlocks (K : PySem.W.Frag) : Sp := fun vs H Q _ => ∃ (rw : Addr) (S : List Cell) (c : Cell) (most : Nat) (R : List Cell), vs = [.ref rw, .int most] ∧ most ≤ 200 ∧ RowC K rw S c ∧ Own H (c :: (S ++ R)) ∧
  ∀ (bs : List Nat) (p : Addr) (c' : Cell) (H' : Hp), (∀ b ∈ bs, b < 16) → bs.length ≤ most → RowC K rw S c' → Own H' (c' :: (S ++ ((p, .lst (blV bs)) :: R))) → Q (.ref p) H'
theorem pickF {v : Int} (h0 : 0 ≤ v) (h3 : v < 3) : ∃ k : Nat, atI [V.int 3, .int 6, .int 16] v = some (.int (k : Int)) ∧ 1 ≤ k ∧ k ≤ 16 := by
  obtain ⟨y, ey, e | e | e⟩ := pick3 (a := V.int 3) (b := .int 6) (c := .int 16) h0 h3
  · exact ⟨3, by rw [ey, e]; rfl, by decide, by decide⟩
  · exact ⟨6, by rw [ey, e]; rfl, by decide, by decide⟩
  · exact ⟨16, by rw [ey, e]; rfl, by decide, by decide⟩
section
variable {P : Program} {w : World} {K : PySem.W.Frag} {mg : Str → Option Value} {base : Heap} {n lv : Nat}
theorem ok_blocks (T : Txt K mg) : FnOk P w K mg base CX0 2 (He.fAd K ("_law_blocks", none)) T.fd__law_blocks ["_law_row", "_law_most"] (spBlocks K) := by
  have G__law_taken := ok_taken (P := P) (w := w) (base := base) T
  refine okOf T.F__law_blocks sc__law_blocks (fun vs H Q E h => ?_) (fun cdv A outer s H vs Q E hr h => ?_)
  · obtain ⟨_, _, _, _, _, rfl, _⟩ := h
    rfl
  · obtain ⟨rw, S, c, most, R, rfl, hmost, hc, O, k⟩ := h
    refine ⟨_, (pss_cons (ps_set (i := 2) sc__law_blocks.nd rfl (Or.inr rfl) (pe_ix ix_list (pe_lst (pa_cons pe_int (pa_cons pe_int (pa_cons pe_int pa_nil)))) (pe_call G__law_taken (hr.mono (by omega)) rfl T.g__law_taken T.k__law_taken T.b__law_taken .nil pass0 (pa_cons (pv 0) (pa_cons pe_int pa_nil))) (fun _ _ => rfl))) (pss_one (ps_ret (pe_lc (te := (tCall (spTaken K) [] E0 (tCons (tVar 0) (tCons (tVar 2) tNil)))) (own := [("_law_k", 3)]) (by rfl) sc__law_blocks.nd (pi_range1 (by rfl) T.n_range (pa_cons (pe_call G__law_taken (hr.mono (by omega)) rfl T.g__law_taken T.k__law_taken T.b__law_taken .nil pass0 (pa_cons (pv 0) (pa_cons (pe_op op_add (pv 1) pe_int) pa_nil))) pa_nil)) (blkOk_by (own := [("_law_k", 3)]) (by kernel_rfl)) (fun _ _ _ _ _ => (pg_name (i := 3) sc__law_blocks.nd rfl (Or.inl rfl))) (fun _ _ _ _ _ => pts_nil) (fun _ _ _ _ _ => (pe_call G__law_taken (hr.mono (by omega)) rfl T.g__law_taken T.k__law_taken T.b__law_taken .nil pass0 (pa_cons (pv 0) (pa_cons (pv 2) pa_nil)))))))), ?_⟩
    refine ⟨by show 3 ≤ sizeLine; decide, fun p0 hp0 => ?_⟩
    have O1 := O.new (o := .lst [.int 3, .int 6, .int 16]) hp0
    refine ⟨_, rfl, rw, S, c, 3, (p0, .lst [.int 3, .int 6, .int 16]) :: R, rfl, hc, by decide, O1.perm (by walk_at "perm"), fun v c1 H1 h0 h3 hc1 O2 => ?_⟩
    obtain ⟨few, hf1, hf2, hf3⟩ := pickF h0 h3
    refine ⟨p0, _, _, _, rfl, rfl, SqL.of (O2.mem (by simp)), hf1, ?_⟩
    have O3 := Own.right (L' := [(p0, .lst [.int 3, .int 6, .int 16])]) (O2.perm (L' := [(p0, .lst [.int 3, .int 6, .int 16])] ++ (c1 :: (S ++ R))) (by walk_at "perm"))
    refine ⟨_, rfl, _, rfl, _, _, rfl, rfl, rw, S, c1, (most : Int) + 1, R, rfl, hc1, by omega, O3, fun vn c2 H2 hn0 hn1 hc2 O4 => ?_⟩
    refine ⟨vn, rfl, by omega, by omega, fun D hD => ?_⟩
    refine lc_range (lo := 0) (n := vn.toNat) (fun i H' => ∃ (bs : List Nat) (c' : Cell), bs.length = i ∧ (∀ b ∈ bs, b < 16) ∧ RowC K rw S c' ∧ Own H' ((D, .lst (blV bs)) :: c' :: (S ++ R)))
      ⟨[], c2, rfl, (fun b hb => nomatch hb), hc2, O4.new hD⟩ ?_ ?_
    · rintro i H3 hi ⟨bs, c3, hbl, hb, hc3, O5⟩
      refine ⟨rfl, tYes_go (iteT ⟨_, rfl, _, rfl, rw, S, c3, (few : Int), (D, .lst (blV bs)) :: R, rfl, hc3, by omega, O5.perm (by walk_at "perm"), fun vb c4 H4 hb0 hb1 hc4 O6 => ?_⟩)⟩
      have O7 := O6.perm (L' := (D, .lst (blV bs)) :: c4 :: (S ++ R)) (by walk_at "perm")
      obtain ⟨b, rfl⟩ : ∃ b : Nat, vb = (b : Int) := ⟨vb.toNat, by omega⟩
      refine ⟨_, O7.a0, by rw [blV_len]; exact size1 (by omega), bs ++ [b], c4, by simp [hbl], fun x hx => ?_, hc4, ?_⟩
      · rcases List.mem_append.mp hx with h | h
        · exact hb x h
        · rw [List.mem_singleton.mp h]
          omega
      · unfold blV
        rw [List.map_append]
        exact O7.set
    · rintro H3 ⟨bs, c3, hbl, hb, hc3, O5⟩
      exact k bs D c3 H3 hb (by omega) hc3 (O5.perm (by walk_at "perm"))
end
-- WwFj
/-! ### judged -/
def spJudged (K : PySem.W.Frag) : Sp := fun vs H Q E => ∃ (pb pl : Addr) (w : Int) (ns ls : List Int) (R : List Cell), vs = [.ref pb, .int w, .ref pl] ∧ ns.length ≤ 1000 ∧ ls.length ≤ 1000 ∧ (pb, HO.lst (isV ns)) ∈ R ∧ (pl, HO.lst (isV ls)) ∈ R ∧ Own H R ∧
  (∀ i, BlkBad ns i → ∀ (d : Addr) (H' : Hp), Own H' ((d, .xd [("number", .int (i : Nat))]) :: R) → E (.ref (He.ga K "BadDeed")) (some d) H') ∧
  (BlksOk ns → ¬ (1 ≤ w ∧ w ≤ 8) → ∀ H', Own H' R → E (.ref (He.ga K "BadWays")) none H') ∧
  (BlksOk ns → 1 ≤ w ∧ w ≤ 8 → (∀ br : Nat, jGo w.toNat ls ns [] 0 0 = .inl br → ∀ H', Own H' R → Q (.int (br : Nat)) H') ∧
    ∀ k : Nat, jGo w.toNat ls ns [] 0 0 = .inr k → ∀ (d : Addr) (H' : Hp), Own H' ((d, .xd [("number", .int (k : Nat))]) :: R) → E (.ref (He.ga K "BadLeavings")) (some d) H')
section
variable {P : Program} {w : World} {K : PySem.W.Frag} {mg : Str → Option Value} {base : Heap} {n lv : Nat}
theorem ok_judged (T : Txt K mg) : FnOk P w K mg base (L2.CX P w) 4 (He.fAd K ("judged", none)) T.fd_judged ["blocks", "ways", "leavings"] (spJudged K) := by
  have G_need_blocks := ok_need_blksX (P := P) (w := w) (base := base) T
  have G_need_ways := ok_need_waysX (P := P) (w := w) (base := base) T
  have G_BadLeavings := ok_BadLeavings (P := P) (w := w) (base := base) T
  refine okX T.F_judged sc_judged (fun vs H Q E h => ?_) (fun cdv A outer s H vs Q E hr h => ?_)
  · obtain ⟨_, _, _, _, _, _, rfl, _⟩ := h
    rfl
  · obtain ⟨pb, pl, w, ns, ls, R, rfl, hnl, hll, hpb, hpl, O, k1, k2, k3⟩ := h
    refine ⟨_, (pss_cons (ps_expr (pe_call G_need_blocks (hr.mono (by omega)) rfl T.g_need_blocks T.k_need_blocks T.b_need_blocks .nil (passes_call (takes_of rfl rfl rfl rfl) fun _ _ _ _ z => z) (pa_cons (pv 0) pa_nil))) (pss_cons (ps_expr (pe_call G_need_ways (hr.mono (by omega)) rfl T.g_need_ways T.k_need_ways T.b_need_ways .nil (passes_call (takes_of rfl rfl rfl rfl) fun _ _ _ _ z => z) (pa_cons (pv 1) pa_nil))) (pss_cons (ps_set (i := 3) sc_judged.nd rfl (Or.inl rfl) (pe_lst pa_nil)) (pss_cons (ps_set (i := 4) sc_judged.nd rfl (Or.inl rfl) pe_int) (pss_cons (ps_set (i := 5) sc_judged.nd rfl (Or.inl rfl) pe_int) (pss_cons (ps_for (passes_of rfl) rfl (pi_list (pv 0)) (pg_name (i := 6) sc_judged.nd rfl (Or.inl rfl)) (pss_one (ps_if (pt_cmpR op_notIn_seq (pv 6) (pv 3) (by rfl)) (pss_cons (ps_set (i := 4) sc_judged.nd rfl (Or.inl rfl) (pe_op op_add (pv 4) pe_int)) (pss_cons (ps_if (pt_cmpR op_eq (pe_callB call_len_seq (by rfl) T.n_len PySem.boot_len (pa_cons (pv 3) pa_nil)) (pv 1) (nomark _)) (pss_cons (ps_if (PW.pt (pw_or (pt_cmpR op_ge (pv 5) (pe_callB call_len_seq (by rfl) T.n_len PySem.boot_len (pa_cons (pv 2) pa_nil)) (nomark _)) (pw_or1 (pt_cmpR op_notIn_seq (pe_ix ix_list (pv 2) (pv 5) (fun _ _ => rfl)) (pv 3) (by rfl))))) (pss_one (ps_raise rfl (takes_of rfl rfl rfl rfl) (pmk_oex ((T.xt.xc "BadLeavings" (by decide)).oex T.ox_BadLeavings) T.m_BadLeavings___init__.at_ (isFn_ty T.m_BadLeavings___init__.fn) G_BadLeavings (hr.mono (by omega)) T.b_BadLeavings___init__ .nil pass0 (by rfl) T.g_BadLeavings (pa_cons (pv 5) pa_nil)))) pss_nil) (pss_cons (ps_expr (pe_bm PySem.F.plainAttrs_list PySem.F.slot_list_remove PySem.F.type_list_remove mt_remove (pv 3) (pa_cons (pe_ix ix_list (pv 2) (pv 5) (fun _ _ => rfl)) pa_nil))) (pss_one (ps_set (i := 5) sc_judged.nd rfl (Or.inl rfl) (pe_op op_add (pv 5) pe_int))))) pss_nil) (pss_one (ps_expr (pe_bm PySem.F.plainAttrs_list PySem.F.slot_list_append PySem.F.type_list_append mt_append (pv 3) (pa_cons (pv 6) pa_nil)))))) pss_nil))) (pss_cons (ps_if (pt_cmpR op_lt (pv 5) (pe_callB call_len_seq (by rfl) T.n_len PySem.boot_len (pa_cons (pv 2) pa_nil)) (nomark _)) (pss_one (ps_raise rfl (takes_of rfl rfl rfl rfl) (pmk_oex ((T.xt.xc "BadLeavings" (by decide)).oex T.ox_BadLeavings) T.m_BadLeavings___init__.at_ (isFn_ty T.m_BadLeavings___init__.fn) G_BadLeavings (hr.mono (by omega)) T.b_BadLeavings___init__ .nil pass0 (by rfl) T.g_BadLeavings (pa_cons (pv 5) pa_nil)))) pss_nil) (pss_one (ps_ret (pv 4)))))))))), ?_⟩
    refine ⟨_, rfl, pb, ns, R, rfl, hnl, hpb, O, fun hok H1 O1 => ?_, k1⟩
    refine ⟨_, rfl, w, rfl, fun hw => ?_, fun hw => k2 hok hw H1 O1⟩
    obtain ⟨k4, k5⟩ := k3 hok hw
    obtain ⟨wn, rfl⟩ : ∃ wn : Nat, w = (wn : Int) := ⟨w.toNat, by omega⟩
    rw [Int.toNat_natCast] at k4 k5
    obtain ⟨J, hJ⟩ : ∃ J, J = jGo wn ls ns [] 0 0 := ⟨_, rfl⟩
    rw [← hJ] at k4 k5
    refine ⟨by show 0 ≤ sizeLine; decide, fun pt hpt => ?_⟩
    have O2 := O1.new (o := .lst (isV [])) hpt
    have hmem : ∀ {H' : Hp} {th : List Int}, Own H' ((pt, .lst (isV th)) :: R) → H' pb = some (.lst (isV ns)) ∧ H' pl = some (.lst (isV ls)) := fun O' => ⟨O'.mem (by simp [hpb]), O'.mem (by simp [hpl])⟩
    refine ⟨_, rfl, pb, rfl, ⟨_, SqL.of (hmem O2).1⟩, ?_⟩
    refine for_list (K := K) (a := pb) (xs := isV ns) (fun i σ H' => ∃ (th : List Int) (br mn : Nat) (v6 : Option V), σ = [some (.ref pb), some (.int (wn : Nat)), some (.ref pl), some (.ref pt), some (.int (br : Nat)), some (.int (mn : Nat)), v6] ∧ th.Nodup ∧ th.length ≤ wn ∧ jGo wn ls (ns.drop i) th br mn = J ∧ br ≤ i ∧ mn ≤ ls.length ∧ Own H' ((pt, .lst (isV th)) :: R))
      ⟨[], 0, 0, none, rfl, List.nodup_nil, Nat.zero_le _, hJ.symm, Nat.le_refl _, Nat.zero_le _, O2⟩ (fun i σ H' _ ⟨_, _, _, _, _, _, _, _, _, _, O'⟩ => SqL.of (hmem O').1) ?_ ?_
    · rintro i x σ H3 hi ⟨th, br, mn, v6, rfl, hnd, hth, hj, hbr, hmn, O3⟩
      rw [List.getElem?_map] at hi
      cases ha : ns[i]? with
      | none =>
        rw [ha] at hi
        cases hi
      | some b =>
        rw [ha] at hi
        have ex : V.int b = x := Option.some.inj hi
        subst ex
        have hil : i < ns.length := (List.getElem?_eq_some_iff.mp ha).1
        have hdrop : ns.drop i = b :: ns.drop (i + 1) := by
          rw [List.drop_eq_getElem_cons hil]
          congr 1
          exact (List.getElem?_eq_some_iff.mp ha).2
        rw [hdrop] at hj
        unfold jGo at hj
        refine ⟨_, rfl, _, rfl, pt, _, rfl, .inl (SqL.of O3.a0), rfl, isV_flat th, _, rfl, ?_⟩
        rw [inV_is]
        by_cases hb : b ∈ th
        · rw [if_pos hb] at hj
          rw [decide_eq_true hb]
          exact iteF ⟨th, br, mn, _, rfl, hnd, hth, hj, by omega, hmn, O3⟩
        · rw [if_neg hb] at hj
          rw [decide_eq_false hb]
          refine iteT ?_
          have O4 := O3
          refine ⟨_, rfl, _, _, rfl, rfl, ?_⟩
          refine ⟨_, rfl, pt, _, rfl, .inl (SqL.of O3.a0), _, rfl, rfl, _, rfl, ?_⟩
          rw [List.length_map]
          by_cases hw2 : th.length = wn
          · rw [if_pos hw2] at hj
            refine iteTo (decide_eq_true (by rw [hw2])) ?_
            refine ⟨_, rfl, _, rfl, pl, _, rfl, .inl (SqL.of (hmem O3).2), _, _, rfl, rfl, _, rfl, ?_⟩
            rw [List.length_map]
            by_cases h5 : ls.length ≤ mn
            · rw [if_pos (.inl h5)] at hj
              refine iteTo (decide_eq_true (show ((ls.length : Nat) : Int) ≤ (mn : Int) by omega)) ?_
              exact ⟨_, rfl, rz_go (by omega) fun d hd => k5 mn hj.symm d _ (O3.tail.new hd)⟩
            · refine iteFo (decide_eq_false (show ¬ ((ls.length : Nat) : Int) ≤ (mn : Int) by omega)) ?_
              have hmnl : mn < ls.length := by omega
              obtain ⟨l, hl⟩ : ∃ l, ls[mn]? = some l := ⟨_, List.getElem?_eq_getElem hmnl⟩
              have hgd : ls.getD mn 0 = l := by rw [List.getD_eq_getElem?_getD, hl]; rfl
              rw [hgd] at hj
              have hat : atI (isV ls) ((mn : Nat) : Int) = some (.int l) := atI_nat (by rw [List.getElem?_map, hl]; rfl)
              refine ⟨_, rfl, _, rfl, pl, _, _, .int l, rfl, rfl, SqL.of (hmem O3).2, hat, _, rfl, pt, _, rfl, .inl (SqL.of O3.a0), rfl, isV_flat th, _, rfl, ?_⟩
              rw [inV_is]
              by_cases h6 : l ∈ th
              · rw [if_neg (fun z => z.elim h5 fun z => z h6)] at hj
                rw [decide_eq_true h6]
                refine iteF ?_
                have hji : th.idxOf l < th.length := List.idxOf_lt_length_of_mem h6
                have hjat : th[th.idxOf l]? = some l := by
                  rw [List.getElem?_eq_getElem hji]
                  exact congrArg some (List.getElem_idxOf hji)
                refine ⟨_, rfl, .inl ⟨rfl, _, SqL.of O3.a0⟩, _, rfl, _, rfl, pl, _, _, .int l, rfl, rfl, SqL.of (hmem O3).2, hat, pt, th, l, th.idxOf l, rfl, rfl, O3.a0, hjat, fun m hm e => ?_, ?_⟩
                · have h7 := List.pairwise_iff_getElem.mp hnd m (th.idxOf l) (by omega) hji hm
                  have e1 := (List.getElem?_eq_some_iff.mp e).2
                  have e2 := (List.getElem?_eq_some_iff.mp hjat).2
                  exact h7 (e1.trans e2.symm)
                rw [← List.erase_eq_eraseIdx_of_idxOf rfl]
                have O5 := O3.set (o' := .lst (isV (th.erase l)))
                have hel : (th.erase l).length = th.length - 1 := List.length_erase_of_mem h6
                have hpos : 0 < th.length := List.length_pos_of_mem h6
                refine ⟨_, rfl, _, _, rfl, rfl, _, rfl, .inl ⟨rfl, _, SqL.of O5.a0⟩, _, rfl, pt, _, _, rfl, rfl, O5.a0, ?_, ?_⟩
                · rw [List.length_map]
                  exact size1 (by omega)
                · refine ⟨th.erase l ++ [b], br + 1, mn + 1, _, rfl, ?_, ?_, hj, by omega, by omega, ?_⟩
                  · refine List.nodup_append.mpr ⟨hnd.erase l, List.pairwise_singleton _ b, fun x hx y hy e => ?_⟩
                    rw [List.mem_singleton.mp hy] at e
                    exact hb (e ▸ List.mem_of_mem_erase hx)
                  · rw [List.length_append, hel]
                    show th.length - 1 + 1 ≤ wn
                    omega
                  · rw [show isV (th.erase l ++ [b]) = isV (th.erase l) ++ [V.int b] by simp [isV]]
                    exact O5.set
              · rw [if_pos (.inr h6)] at hj
                rw [decide_eq_false h6]
                exact iteT ⟨_, rfl, rz_go (by omega) fun d hd => k5 mn hj.symm d _ (O3.tail.new hd)⟩
          · rw [if_neg hw2] at hj
            refine iteFo (decide_eq_false (fun z => hw2 (by have z : ((th.length : Nat) : Int) = (wn : Int) := V.int.inj z; omega))) ?_
            refine ⟨_, rfl, .inl ⟨rfl, _, SqL.of O3.a0⟩, _, rfl, pt, _, _, rfl, rfl, O3.a0, ?_, ?_⟩
            · rw [List.length_map]
              exact size1 (by omega)
            · refine ⟨th ++ [b], br + 1, mn, _, rfl, ?_, ?_, hj, by omega, by omega, ?_⟩
              · refine List.nodup_append.mpr ⟨hnd, List.pairwise_singleton _ b, fun x hx y hy e => ?_⟩
                rw [List.mem_singleton.mp hy] at e
                exact hb (e ▸ hx)
              · rw [List.length_append]
                show th.length + 1 ≤ wn
                omega
              · rw [show isV (th ++ [b]) = isV th ++ [V.int b] by simp [isV]]
                exact O3.set
    · rintro σ H3 ⟨th, br, mn, v6, rfl, hnd, hth, hj, hbr, hmn, O3⟩
      rw [List.length_map, List.drop_length] at hj
      unfold jGo at hj
      refine ⟨_, rfl, _, rfl, pl, _, rfl, .inl (SqL.of (hmem O3).2), _, _, rfl, rfl, _, rfl, ?_⟩
      rw [List.length_map]
      by_cases h5 : mn < ls.length
      · rw [if_pos h5] at hj
        refine iteTo (decide_eq_true (show ((mn : Nat) : Int) < (ls.length : Int) by omega)) ?_
        rw [List.length_map] at hbr
        exact ⟨_, rfl, rz_go (by omega) fun d hd => k5 mn hj.symm d _ (O3.tail.new hd)⟩
      · rw [if_neg h5] at hj
        refine iteFo (decide_eq_false (show ¬ ((mn : Nat) : Int) < (ls.length : Int) by omega)) ?_
        exact ⟨_, rfl, k4 br hj.symm H3 O3.tail⟩
end
-- WwAl
/-! ### alike -/
def rIxS (K : PySem.W.Frag) : R2 := fun x y H Q => rIxL K x y H Q ∨ rIxT K x y H Q
theorem ix_sq {X : Cx} : IxR X (rIxS X.K) := fun value slice pins s σ H x y v u Q I rx ry h hs => h.elim (fun h => ix_list value slice pins s σ H x y v u Q I rx ry h hs) (fun h => ix_tup value slice pins s σ H x y v u Q I rx ry h hs)
/-- data of at most so many layers, of lists that are not too long -/
def AlD : Nat → PyData → Prop
  | 0, _ => False
  | n + 1, .list ds => ds.length ≤ 100000 ∧ ∀ d ∈ ds, AlD n d
  | n + 1, .tuple ds => ds.length ≤ 100000 ∧ ∀ d ∈ ds, AlD n d
  | _ + 1, .dict _ => False
  | _ + 1, _ => True
def spAlike (n : Nat) : Sp := fun vs H Q _ => ∃ (x y : V) (d : PyData) (L : List Cell), vs = [x, y] ∧ DpL L x d ∧ DpL L y d ∧ AlD n d ∧ Own H L ∧ ∀ H', Own H' L → Q (.bl true) H'
theorem kit_anylst {K : PySem.W.Frag} : PySem.W.kitAny K (.type "list") [.type "tuple", .type "list"] = some true :=
  kitAny_cons (b := false) (kit_ty (by decide +kernel)) (fun _ => kitAny_cons (b := true) (kit_ty (by decide +kernel)) (fun z => nomatch z) fun _ => rfl) (fun z => nomatch z)
theorem kit_anytup {K : PySem.W.Frag} : PySem.W.kitAny K (.type "tuple") [.type "tuple", .type "list"] = some true :=
  kitAny_cons (b := true) (kit_ty (by decide +kernel)) (fun z => nomatch z) fun _ => rfl
section
variable {P : Program} {w : World} {K : PySem.W.Frag} {mg : Str → Option Value} {base : Heap} {n lv : Nat}
theorem ok_alike (T : Txt K mg) : ∀ n, FnOk P w K mg base CX0 n (He.fAd K ("_law_alike", none)) T.fd__law_alike ["_law_found", "_law_due"] (spAlike n)
  | 0 => ⟨fun vs H Q E ⟨_, _, _, _, _, _, _, h, _⟩ => h.elim, fun A outer s H args us vs Q E hr he hb hv ⟨_, _, _, _, _, _, _, h, _⟩ => h.elim⟩
  | n + 1 => by
    have G__law_alike := ok_alike T n
    refine okOf T.F__law_alike sc__law_alike (fun vs H Q E h => ?_) (fun cdv A outer s H vs Q E hr h => ?_)
    · obtain ⟨_, _, _, _, rfl, _⟩ := h
      rfl
    · obtain ⟨x, y, d, L, rfl, hx, hy, hd, O, k⟩ := h
      refine ⟨_, (pss_cons (ps_if (PW.pt (pw_or (pt_val (pe_callB call_isi (by rfl) T.n_isinstance (by decide +kernel) (pa_cons (pv 1) (pa_cons (pe_bltn (v := .ty "tuple") (by rfl) T.n_tuple (by decide +kernel) rfl) pa_nil)))) (pw_or1 (pt_val (pe_callB call_isi (by rfl) T.n_isinstance (by decide +kernel) (pa_cons (pv 1) (pa_cons (pe_bltn (v := .ty "list") (by rfl) T.n_list (by decide +kernel) rfl) pa_nil))))))) (pss_cons (ps_if (PW.pt (pw_or (pt_cmpR op_ne (pe_callB call_isi (by rfl) T.n_isinstance (by decide +kernel) (pa_cons (pv 0) (pa_cons (pe_bltn (v := .ty "tuple") (by rfl) T.n_tuple (by decide +kernel) rfl) pa_nil))) (pe_callB call_isi (by rfl) T.n_isinstance (by decide +kernel) (pa_cons (pv 1) (pa_cons (pe_bltn (v := .ty "tuple") (by rfl) T.n_tuple (by decide +kernel) rfl) pa_nil))) (nomark _)) (pw_or1 (pt_not (pt_val (pe_callB call_isiT (by rfl) T.n_isinstance (by decide +kernel) (pa_cons (pv 0) (pa_cons (pe_tup (pa_cons (pe_bltn (v := .ty "tuple") (by rfl) T.n_tuple (by decide +kernel) rfl) (pa_cons (pe_bltn (v := .ty "list") (by rfl) T.n_list (by decide +kernel) rfl) pa_nil))) pa_nil)))))))) (pss_one (ps_ret pe_bl)) pss_nil) (pss_cons (ps_if (pt_cmpR op_ne (pe_callB call_len_seq (by rfl) T.n_len PySem.boot_len (pa_cons (pv 0) pa_nil)) (pe_callB call_len_seq (by rfl) T.n_len PySem.boot_len (pa_cons (pv 1) pa_nil)) (nomark _)) (pss_one (ps_ret pe_bl)) pss_nil) (pss_one (ps_ret (pe_cmpR (op_eqD hr.units) (pe_lc (tt := (tNot (tB (tCall (spAlike n) [] E0 (tCons (tOp (rIxS K) (tVar 0) (tVar 2)) (tCons (tOp (rIxS K) (tVar 1) (tVar 2)) tNil)))))) (own := [("_law_k", 2)]) (by rfl) sc__law_alike.nd (pi_range1 (by rfl) T.n_range (pa_cons (pe_callB call_len_seq (by rfl) T.n_len PySem.boot_len (pa_cons (pv 1) pa_nil)) pa_nil)) (blkOk_by (own := [("_law_k", 2)]) (by kernel_rfl)) (fun _ _ _ _ _ => (pg_name (i := 2) sc__law_alike.nd rfl (Or.inl rfl))) (fun _ _ _ _ _ => (pts_one (pt_not (pt_val (pe_call G__law_alike (hr.mono (by omega)) rfl T.g__law_alike T.k__law_alike T.b__law_alike .nil pass0 (pa_cons (pe_ix ix_sq (pv 0) (pv 2) (fun _ _ => rfl)) (pa_cons (pe_ix ix_sq (pv 1) (pv 2) (fun _ _ => rfl)) pa_nil))))))) (fun _ _ _ _ _ => (pv 2))) (pe_lst pa_nil) (nomark _)))))) pss_nil) (pss_cons (ps_if (PW.pt (pw_or (pt_cmpR op_isN (pv 1) pe_non (nomark _)) (pw_or1 (pt_cmpR op_isN (pv 0) pe_non (nomark _))))) (pss_one (ps_ret (pe_and (pe_cmpR op_isN (pv 1) pe_non (nomark _)) (pe_one (pe_cmpR op_isN (pv 0) pe_non (nomark _)))))) pss_nil) (pss_cons (ps_if (PW.pt (pw_or (pt_val (pe_callB call_isi (by rfl) T.n_isinstance (by decide +kernel) (pa_cons (pv 1) (pa_cons (pe_bltn (v := .ty "bool") (by rfl) T.n_bool (by decide +kernel) rfl) pa_nil)))) (pw_or1 (pt_val (pe_callB call_isi (by rfl) T.n_isinstance (by decide +kernel) (pa_cons (pv 0) (pa_cons (pe_bltn (v := .ty "bool") (by rfl) T.n_bool (by decide +kernel) rfl) pa_nil))))))) (pss_one (ps_ret (pe_and (pe_callB call_isi (by rfl) T.n_isinstance (by decide +kernel) (pa_cons (pv 1) (pa_cons (pe_bltn (v := .ty "bool") (by rfl) T.n_bool (by decide +kernel) rfl) pa_nil))) (pe_and (pe_callB call_isi (by rfl) T.n_isinstance (by decide +kernel) (pa_cons (pv 0) (pa_cons (pe_bltn (v := .ty "bool") (by rfl) T.n_bool (by decide +kernel) rfl) pa_nil))) (pe_one (pe_cmpR op_eq (pv 0) (pv 1) (nomark _))))))) pss_nil) (pss_cons (ps_if (pt_val (pe_callB call_isi (by rfl) T.n_isinstance (by decide +kernel) (pa_cons (pv 1) (pa_cons (pe_bltn (v := .ty "str") (by rfl) T.n_str (by decide +kernel) rfl) pa_nil)))) (pss_one (ps_ret (pe_and (pe_callB call_isi (by rfl) T.n_isinstance (by decide +kernel) (pa_cons (pv 0) (pa_cons (pe_bltn (v := .ty "str") (by rfl) T.n_str (by decide +kernel) rfl) pa_nil))) (pe_one (pe_cmpR op_eq (pv 0) (pv 1) (nomark _)))))) pss_nil) (pss_one (ps_ret (pe_and (pe_callB call_isi (by rfl) T.n_isinstance (by decide +kernel) (pa_cons (pv 0) (pa_cons (pe_bltn (v := .ty "int") (by rfl) T.n_int (by decide +kernel) rfl) pa_nil))) (pe_one (pe_cmpR op_eq (pv 0) (pv 1) (nomark _)))))))))), ?_⟩
      cases hx with
      | non =>
        cases hy
        refine ⟨_, rfl, _, _, _, _, false, rfl, ClsV.ty _, TyX.base (.non), kit_ty (by decide +kernel), _, rfl, iteF ?_⟩
        refine ⟨_, rfl, _, _, _, _, false, rfl, ClsV.ty _, TyX.base (.non), kit_ty (by decide +kernel), _, rfl, iteF ?_⟩
        refine ⟨_, rfl, rfl, true, by rw [decide_eq_true rfl], iteT (iteT ?_)⟩
        refine ⟨_, rfl, rfl, true, by rw [decide_eq_true rfl], iteT ⟨_, rfl, rfl, ?_⟩⟩
        rw [decide_eq_true rfl]
        exact k H O
      | bl b =>
        cases hy
        refine ⟨_, rfl, _, _, _, _, false, rfl, ClsV.ty _, TyX.base (.bl b), kit_ty (by decide +kernel), _, rfl, iteF ?_⟩
        refine ⟨_, rfl, _, _, _, _, false, rfl, ClsV.ty _, TyX.base (.bl b), kit_ty (by decide +kernel), _, rfl, iteF ?_⟩
        refine ⟨_, rfl, rfl, false, by rw [decide_eq_false (fun e => nomatch e)], iteF ?_⟩
        refine ⟨_, rfl, rfl, false, by rw [decide_eq_false (fun e => nomatch e)], iteF ?_⟩
        refine ⟨_, rfl, _, _, _, _, true, rfl, ClsV.ty _, TyX.base (.bl b), kit_ty (by decide +kernel), _, rfl, iteT (iteT ?_)⟩
        refine ⟨_, rfl, _, _, _, _, true, rfl, ClsV.ty _, TyX.base (.bl b), kit_ty (by decide +kernel), _, rfl, iteT ?_⟩
        refine ⟨_, rfl, _, _, _, _, true, rfl, ClsV.ty _, TyX.base (.bl b), kit_ty (by decide +kernel), _, rfl, iteT ?_⟩
        refine ⟨_, rfl, _, rfl, rfl, ?_⟩
        rw [decide_eq_true rfl]
        exact k H O
      | int i =>
        cases hy
        refine ⟨_, rfl, _, _, _, _, false, rfl, ClsV.ty _, TyX.base (.int i), kit_ty (by decide +kernel), _, rfl, iteF ?_⟩
        refine ⟨_, rfl, _, _, _, _, false, rfl, ClsV.ty _, TyX.base (.int i), kit_ty (by decide +kernel), _, rfl, iteF ?_⟩
        refine ⟨_, rfl, rfl, false, by rw [decide_eq_false (fun e => nomatch e)], iteF ?_⟩
        refine ⟨_, rfl, rfl, false, by rw [decide_eq_false (fun e => nomatch e)], iteF ?_⟩
        refine ⟨_, rfl, _, _, _, _, false, rfl, ClsV.ty _, TyX.base (.int i), kit_ty (by decide +kernel), _, rfl, iteF ?_⟩
        refine ⟨_, rfl, _, _, _, _, false, rfl, ClsV.ty _, TyX.base (.int i), kit_ty (by decide +kernel), _, rfl, iteF ?_⟩
        refine ⟨_, rfl, _, _, _, _, false, rfl, ClsV.ty _, TyX.base (.int i), kit_ty (by decide +kernel), _, rfl, iteF ?_⟩
        refine ⟨_, rfl, _, _, _, _, true, rfl, ClsV.ty _, TyX.base (.int i), kit_ty (by decide +kernel), _, rfl, iteT ?_⟩
        refine ⟨_, rfl, _, rfl, rfl, ?_⟩
        rw [decide_eq_true rfl]
        exact k H O
      | str z =>
        cases hy
        refine ⟨_, rfl, _, _, _, _, false, rfl, ClsV.ty _, TyX.base (.str z), kit_ty (by decide +kernel), _, rfl, iteF ?_⟩
        refine ⟨_, rfl, _, _, _, _, false, rfl, ClsV.ty _, TyX.base (.str z), kit_ty (by decide +kernel), _, rfl, iteF ?_⟩
        refine ⟨_, rfl, rfl, false, by rw [decide_eq_false (fun e => nomatch e)], iteF ?_⟩
        refine ⟨_, rfl, rfl, false, by rw [decide_eq_false (fun e => nomatch e)], iteF ?_⟩
        refine ⟨_, rfl, _, _, _, _, false, rfl, ClsV.ty _, TyX.base (.str z), kit_ty (by decide +kernel), _, rfl, iteF ?_⟩
        refine ⟨_, rfl, _, _, _, _, false, rfl, ClsV.ty _, TyX.base (.str z), kit_ty (by decide +kernel), _, rfl, iteF ?_⟩
        refine ⟨_, rfl, _, _, _, _, true, rfl, ClsV.ty _, TyX.base (.str z), kit_ty (by decide +kernel), _, rfl, iteT ?_⟩
        refine ⟨_, rfl, _, _, _, _, true, rfl, ClsV.ty _, TyX.base (.str z), kit_ty (by decide +kernel), _, rfl, iteT ?_⟩
        refine ⟨_, rfl, _, rfl, rfl, ?_⟩
        rw [decide_eq_true rfl]
        exact k H O
      | @lst a1 xs1 ds h1 r1 =>
        cases hy with
        | @lst a2 xs2 _ h2 r2 =>
          have m1 := O.mem h1
          have m2 := O.mem h2
          have e1 := r1.len
          have e2 := r2.len
          obtain ⟨hd1, hd2⟩ : ds.length ≤ 100000 ∧ ∀ d ∈ ds, AlD n d := hd
          refine ⟨_, rfl, _, _, _, _, false, rfl, ClsV.ty _, TyX.base (.lst m2), kit_ty (by decide +kernel), _, rfl, iteF ?_⟩
          refine ⟨_, rfl, _, _, _, _, true, rfl, ClsV.ty _, TyX.base (.lst m2), kit_ty (by decide +kernel), _, rfl, iteT ?_⟩
          refine ⟨_, rfl, _, _, _, _, false, rfl, ClsV.ty _, TyX.base (.lst m1), kit_ty (by decide +kernel), ?_⟩
          refine ⟨_, rfl, _, _, _, _, false, rfl, ClsV.ty _, TyX.base (.lst m2), kit_ty (by decide +kernel), rfl, false, by rw [decide_eq_true rfl]; rfl, iteF ?_⟩
          refine ⟨_, rfl, by show 2 ≤ sizeLine; decide, fun tp htp => ?_⟩
          have O1 := O.new (o := .tup [.ty "tuple", .ty "list"]) htp
          refine ⟨_, tp, _, _, [.type "tuple", .type "list"], true, rfl, O1.a0, ?_, TyX.base (.lst (O1.tail.mem h1)), ?_, _, rfl, iteF ?_⟩
          · exact .cons (ClsV.ty _) (.cons (ClsV.ty _) .nil)
          · exact kit_anylst
          replace O1 := O1.tail
          generalize upd H tp _ = H1 at O1 ⊢
          refine ⟨_, rfl, a1, _, rfl, .inl (SqL.of (O1.mem h1)), _, rfl, a2, _, rfl, .inl (SqL.of (O1.mem h2)), rfl, false, by rw [e1, e2, decide_eq_true rfl]; rfl, iteF ?_⟩
          refine ⟨_, rfl, a2, _, rfl, .inl (SqL.of (O1.mem h2)), (xs2.length : Int), rfl, by omega, by omega, fun D hD => ?_⟩
          refine lc_range (lo := 0) (n := xs2.length) (fun i H' => Own H' ((D, .lst []) :: L)) (O1.new hD) ?_ ?_
          · rintro i H2 hi O2
            have ei : (0 : Int) + (i : Int) = ((i : Nat) : Int) := by omega
            rw [ei]
            obtain ⟨d, hdi⟩ : ∃ d, ds[i]? = some d := ⟨_, List.getElem?_eq_getElem (by omega)⟩
            obtain ⟨v1, hv1, p1⟩ := r1.get' hdi
            obtain ⟨v2, hv2, p2⟩ := r2.get' hdi
            have hs : ∀ c ∈ L, c ∈ (D, HO.lst []) :: L := fun c hc => List.mem_cons_of_mem _ hc
            exact ⟨rfl, _, rfl, _, rfl, .inl ⟨a1, _, _, v1, rfl, rfl, SqL.of (O2.mem (hs _ h1)), atI_nat hv1, _, rfl, _, rfl, .inl ⟨a2, _, _, v2, rfl, rfl, SqL.of (O2.mem (hs _ h2)), atI_nat hv2, v1, v2, d, _, rfl, p1.mono hs, p2.mono hs, hd2 d (List.mem_of_getElem? hdi), O2, fun H3 O3 => ⟨_, rfl, iteF O3⟩⟩⟩⟩
          · intro H2 O2
            refine ⟨by show 0 ≤ sizeLine; decide, fun e he => ?_⟩
            have O3 := O2.new (o := .lst []) he
            refine ⟨.list [], .list [], .lst (SqL.of O3.a1) .nil, .lst (SqL.of O3.a0) .nil, sh0, sh0, ?_⟩
            have ee : PyData.eqv (.list []) (.list []) = true := by decide +kernel
            rw [ee]
            exact k _ O3.tail.tail
      | @tup a1 xs1 ds h1 r1 =>
        cases hy with
        | @tup a2 xs2 _ h2 r2 =>
          have m1 := O.mem h1
          have m2 := O.mem h2
          have e1 := r1.len
          have e2 := r2.len
          obtain ⟨hd1, hd2⟩ : ds.length ≤ 100000 ∧ ∀ d ∈ ds, AlD n d := hd
          refine ⟨_, rfl, _, _, _, _, true, rfl, ClsV.ty _, TyX.base (.tup m2), kit_ty (by decide +kernel), _, rfl, iteT (iteT ?_)⟩
          refine ⟨_, rfl, _, _, _, _, true, rfl, ClsV.ty _, TyX.base (.tup m1), kit_ty (by decide +kernel), ?_⟩
          refine ⟨_, rfl, _, _, _, _, true, rfl, ClsV.ty _, TyX.base (.tup m2), kit_ty (by decide +kernel), rfl, false, by rw [decide_eq_true rfl]; rfl, iteF ?_⟩
          refine ⟨_, rfl, by show 2 ≤ sizeLine; decide, fun tp htp => ?_⟩
          have O1 := O.new (o := .tup [.ty "tuple", .ty "list"]) htp
          refine ⟨_, tp, _, _, [.type "tuple", .type "list"], true, rfl, O1.a0, ?_, TyX.base (.tup (O1.tail.mem h1)), ?_, _, rfl, iteF ?_⟩
          · exact .cons (ClsV.ty _) (.cons (ClsV.ty _) .nil)
          · exact kit_anytup
          replace O1 := O1.tail
          generalize upd H tp _ = H1 at O1 ⊢
          refine ⟨_, rfl, a1, _, rfl, .inr (SqT.of (O1.mem h1)), _, rfl, a2, _, rfl, .inr (SqT.of (O1.mem h2)), rfl, false, by rw [e1, e2, decide_eq_true rfl]; rfl, iteF ?_⟩
          refine ⟨_, rfl, a2, _, rfl, .inr (SqT.of (O1.mem h2)), (xs2.length : Int), rfl, by omega, by omega, fun D hD => ?_⟩
          refine lc_range (lo := 0) (n := xs2.length) (fun i H' => Own H' ((D, .lst []) :: L)) (O1.new hD) ?_ ?_
          · rintro i H2 hi O2
            have ei : (0 : Int) + (i : Int) = ((i : Nat) : Int) := by omega
            rw [ei]
            obtain ⟨d, hdi⟩ : ∃ d, ds[i]? = some d := ⟨_, List.getElem?_eq_getElem (by omega)⟩
            obtain ⟨v1, hv1, p1⟩ := r1.get' hdi
            obtain ⟨v2, hv2, p2⟩ := r2.get' hdi
            have hs : ∀ c ∈ L, c ∈ (D, HO.lst []) :: L := fun c hc => List.mem_cons_of_mem _ hc
            exact ⟨rfl, _, rfl, _, rfl, .inr ⟨a1, _, _, v1, rfl, rfl, SqT.of (O2.mem (hs _ h1)), atI_nat hv1, _, rfl, _, rfl, .inr ⟨a2, _, _, v2, rfl, rfl, SqT.of (O2.mem (hs _ h2)), atI_nat hv2, v1, v2, d, _, rfl, p1.mono hs, p2.mono hs, hd2 d (List.mem_of_getElem? hdi), O2, fun H3 O3 => ⟨_, rfl, iteF O3⟩⟩⟩⟩
          · intro H2 O2
            refine ⟨by show 0 ≤ sizeLine; decide, fun e he => ?_⟩
            have O3 := O2.new (o := .lst []) he
            refine ⟨.list [], .list [], .lst (SqL.of O3.a1) .nil, .lst (SqL.of O3.a0) .nil, sh0, sh0, ?_⟩
            have ee : PyData.eqv (.list []) (.list []) = true := by decide +kernel
            rw [ee]
            exact k _ O3.tail.tail
end
-- WwL14a
/-! ### the law's own going -/
def LeftV : Nat ⊕ Nat → V → Prop
  | .inl br, v => v = .int (br : Nat)
  | .inr k, v => v = .str (toString ((k : Nat) : Int))
def spLeft : Sp := fun vs H Q _ => ∃ (pb pl : Addr) (w : Nat) (ns ls : List Int) (R : List Cell), vs = [.ref pb, .int (w : Nat), .ref pl] ∧ ns.length ≤ 1000 ∧ ls.length ≤ 1000 ∧ (pb, HO.lst (isV ns)) ∈ R ∧ (pl, HO.lst (isV ls)) ∈ R ∧ Own H R ∧
  ∀ (v : V) (H' : Hp), LeftV (jGo w ls ns [] 0 0) v → Own H' R → Q v H'
theorem log1000 {k : Nat} (h : k ≤ 1000) : (((k : Nat) : Int)).natAbs.log2 < 1920 := log60 (by omega)
def spDrawn (K : PySem.W.Frag) : Sp := fun vs H Q _ => ∃ (rw pb : Addr) (S : List Cell) (c : Cell) (w : Nat) (ns : List Int) (R : List Cell), vs = [.ref rw, .ref pb, .int (w : Nat)] ∧ RowC K rw S c ∧ 1 ≤ w ∧ ns.length ≤ 1000 ∧ (pb, HO.lst (isV ns)) ∈ R ∧ Own H (c :: (S ++ R)) ∧
  ∀ (ls : List Int) (p : Addr) (c' : Cell) (H' : Hp), ls.length ≤ ns.length → RowC K rw S c' → Own H' (c' :: (S ++ ((p, .lst (isV ls)) :: R))) → Q (.ref p) H'
section
variable {P : Program} {w : World} {K : PySem.W.Frag} {mg : Str → Option Value} {base : Heap} {n lv : Nat}
theorem ok_left (T : Txt K mg) : FnOk P w K mg base CX0 1 (He.fAd K ("_law_left", none)) T.fd__law_left ["_law_blocks_here", "_law_ways", "_law_leavings"] spLeft := by
  refine okOf T.F__law_left sc__law_left (fun vs H Q E h => ?_) (fun cdv A outer s H vs Q E hr h => ?_)
  · obtain ⟨_, _, _, _, _, _, rfl, _⟩ := h
    rfl
  · obtain ⟨pb, pl, w, ns, ls, R, rfl, hnl, hll, hpb, hpl, O, k⟩ := h
    have k4 : ∀ br : Nat, jGo w ls ns [] 0 0 = .inl br → ∀ H', Own H' R → Q (.int (br : Nat)) H' := fun br e H' O' => k _ H' (by rw [e]; rfl) O'
    have k5 : ∀ k : Nat, jGo w ls ns [] 0 0 = .inr k → ∀ H', Own H' R → Q (.str (toString ((k : Nat) : Int))) H' := fun br e H' O' => k _ H' (by rw [e]; rfl) O'
    refine ⟨_, (pss_cons (ps_set (i := 3) sc__law_left.nd rfl (Or.inl rfl) (pe_lst pa_nil)) (pss_cons (ps_set (i := 4) sc__law_left.nd rfl (Or.inl rfl) pe_int) (pss_cons (ps_set (i := 5) sc__law_left.nd rfl (Or.inr rfl) pe_int) (pss_cons (ps_for PassesOwn.never rfl (pi_list (pv 0)) (pg_name (i := 6) sc__law_left.nd rfl (Or.inl rfl)) (pss_cons (ps_if (pt_cmpR op_in_seq (pv 6) (pv 3) (by rfl)) (pss_one ps_continue) pss_nil) (pss_cons (ps_set (i := 4) sc__law_left.nd rfl (Or.inl rfl) (pe_op op_add (pv 4) pe_int)) (Evl.pss_cut (ps_if (pt_cmpR op_eq (pe_callB call_len_seq (by rfl) T.n_len PySem.boot_len (pa_cons (pv 3) pa_nil)) (pv 1) (nomark _)) (pss_cons (ps_if (PW.pt (pw_or (pt_cmpR op_eq (pv 5) (pe_callB call_len_seq (by rfl) T.n_len PySem.boot_len (pa_cons (pv 2) pa_nil)) (nomark _)) (pw_or1 (pt_cmpR op_notIn_seq (pe_ix ix_list (pv 2) (pv 5) (fun _ _ => rfl)) (pv 3) (by rfl))))) (pss_one (ps_ret (pe_callTy call_str_int (by rfl) T.n_str (by decide +kernel) (pa_cons (pv 5) pa_nil)))) pss_nil) (pss_cons (ps_setLc (i := 3) (tt := (tTest (tOp rNe (tVar 7) (tOp (rIxL K) (tVar 2) (tVar 5))))) (own := [("_law_one", 7)]) (by rfl) sc__law_left.nd rfl rfl (sw_true rfl rfl rfl (by decide +kernel)) (pi_list (pv 3)) (blkOk_by (own := [("_law_one", 7)]) (by kernel_rfl)) (fun _ _ _ _ _ => (pg_name (i := 7) sc__law_left.nd rfl (Or.inl rfl))) (fun _ _ _ _ _ => (pts_one (pt_cmpR op_ne (pv 7) (pe_ix ix_list (pv 2) (pv 5) (fun _ _ => rfl)) (nomark _)))) (fun _ _ _ _ _ => (pv 7))) (pss_one (ps_set (i := 5) sc__law_left.nd rfl (Or.inr rfl) (pe_op op_add (pv 5) pe_int))))) pss_nil) (pss_one (ps_set (i := 3) sc__law_left.nd rfl (Or.inl rfl) (pe_op op_cat (pv 3) (pe_lst (pa_cons (pv 6) pa_nil))))))))) (pss_one (ps_ret (pe_ifExp (pt_cmpR op_eq (pv 5) (pe_callB call_len_seq (by rfl) T.n_len PySem.boot_len (pa_cons (pv 2) pa_nil)) (nomark _)) (pv 4) (pe_callTy call_str_int (by rfl) T.n_str (by decide +kernel) (pa_cons (pv 5) pa_nil))))))))), ?_⟩
    obtain ⟨J, hJ⟩ : ∃ J, J = jGo w ls ns [] 0 0 := ⟨_, rfl⟩
    rw [← hJ] at k4 k5
    refine ⟨by show 0 ≤ sizeLine; decide, fun pt hpt => ?_⟩
    have O2 := O.new (o := .lst (isV [])) hpt
    have hmem : ∀ {H' : Hp} {q : Addr} {th : List Int}, Own H' ((q, .lst (isV th)) :: R) → H' pb = some (.lst (isV ns)) ∧ H' pl = some (.lst (isV ls)) := fun O' => ⟨O'.mem (by simp [hpb]), O'.mem (by simp [hpl])⟩
    refine ⟨_, rfl, pb, rfl, ⟨_, SqL.of (hmem O2).1⟩, ?_⟩
    refine for_list (K := K) (a := pb) (xs := isV ns) (fun i σ H' => ∃ (pt : Addr) (th : List Int) (br mn : Nat) (v6 v7 : Option V), σ = [some (.ref pb), some (.int (w : Nat)), some (.ref pl), some (.ref pt), some (.int (br : Nat)), some (.int (mn : Nat)), v6, v7] ∧ th.Nodup ∧ th.length ≤ i ∧ jGo w ls (ns.drop i) th br mn = J ∧ br ≤ i ∧ mn ≤ ls.length ∧ Own H' ((pt, .lst (isV th)) :: R))
      ⟨pt, [], 0, 0, none, none, rfl, List.nodup_nil, Nat.zero_le _, hJ.symm, Nat.le_refl _, Nat.zero_le _, O2⟩ (fun i σ H' _ ⟨_, _, _, _, _, _, _, _, _, _, _, _, O'⟩ => SqL.of (hmem O').1) ?_ ?_
    · rintro i x σ H3 hi ⟨pt, th, br, mn, v6, v7, rfl, hnd, hth, hj, hbr, hmn, O3⟩
      rw [List.getElem?_map] at hi
      cases ha : ns[i]? with
      | none =>
        rw [ha] at hi
        cases hi
      | some b =>
        rw [ha] at hi
        have ex : V.int b = x := Option.some.inj hi
        subst ex
        have hil : i < ns.length := (List.getElem?_eq_some_iff.mp ha).1
        have hdrop : ns.drop i = b :: ns.drop (i + 1) := by
          rw [List.drop_eq_getElem_cons hil]
          congr 1
          exact (List.getElem?_eq_some_iff.mp ha).2
        rw [hdrop] at hj
        unfold jGo at hj
        refine ⟨_, rfl, _, rfl, pt, _, rfl, .inl (SqL.of O3.a0), rfl, isV_flat th, _, rfl, ?_⟩
        rw [inV_is]
        by_cases hb : b ∈ th
        · rw [if_pos hb] at hj
          rw [decide_eq_true hb]
          exact iteT ⟨pt, th, br, mn, _, _, rfl, hnd, by omega, hj, by omega, hmn, O3⟩
        · rw [if_neg hb] at hj
          rw [decide_eq_false hb]
          refine iteF ?_
          refine ⟨_, rfl, _, _, rfl, rfl, ?_⟩
          refine ⟨fun σ H' => ∃ (pt : Addr) (th : List Int) (mn : Nat) (v7 : Option V), σ = [some (.ref pb), some (.int (w : Nat)), some (.ref pl), some (.ref pt), some (.int ((br : Nat) + 1)), some (.int (mn : Nat)), some (.int b), v7] ∧ th.Nodup ∧ b ∉ th ∧ th.length ≤ i ∧ jGo w ls (ns.drop (i + 1)) (th ++ [b]) (br + 1) mn = J ∧ mn ≤ ls.length ∧ Own H' ((pt, .lst (isV th)) :: R), ?_, ?_⟩
          · refine ⟨_, rfl, pt, _, rfl, .inl (SqL.of O3.a0), _, rfl, rfl, _, rfl, ?_⟩
            rw [List.length_map]
            by_cases hw2 : th.length = w
            · rw [if_pos hw2] at hj
              refine iteTo (decide_eq_true (by rw [hw2])) ?_
              refine ⟨_, rfl, _, rfl, pl, _, rfl, .inl (SqL.of (hmem O3).2), rfl, _, rfl, ?_⟩
              rw [List.length_map]
              by_cases h5 : ls.length ≤ mn
              · have e5 : mn = ls.length := by omega
                rw [if_pos (.inl h5)] at hj
                refine iteTo (decide_eq_true (by rw [e5])) ?_
                exact ⟨_, rfl, _, rfl, log1000 (by omega), k5 mn hj.symm H3 O3.tail⟩
              · refine iteFo (decide_eq_false (fun z => h5 (by have z : ((mn : Nat) : Int) = ((ls.length : Nat) : Int) := V.int.inj z; omega))) ?_
                have hmnl : mn < ls.length := by omega
                obtain ⟨l, hl⟩ : ∃ l, ls[mn]? = some l := ⟨_, List.getElem?_eq_getElem hmnl⟩
                have hgd : ls.getD mn 0 = l := by rw [List.getD_eq_getElem?_getD, hl]; rfl
                rw [hgd] at hj
                have hat : atI (isV ls) ((mn : Nat) : Int) = some (.int l) := atI_nat (by rw [List.getElem?_map, hl]; rfl)
                refine ⟨_, rfl, _, rfl, pl, _, _, .int l, rfl, rfl, SqL.of (hmem O3).2, hat, _, rfl, pt, _, rfl, .inl (SqL.of O3.a0), rfl, isV_flat th, _, rfl, ?_⟩
                rw [inV_is]
                by_cases h6 : l ∈ th
                · rw [if_neg (fun z => z.elim h5 fun z => z h6)] at hj
                  rw [decide_eq_true h6]
                  refine iteF ?_
                  refine ⟨_, rfl, pt, rfl, ⟨_, SqL.of O3.a0⟩, fun D hD => ?_⟩
                  refine lc_list (K := K) (a := pt) (xs := isV th) (fun j H' => Own H' ((D, .lst (isV ((th.take j).filter fun y => decide (y ≠ l)))) :: (pt, .lst (isV th)) :: R)) (O3.new hD) (fun j H' _ O' => SqL.of O'.a1) ?_ ?_
                  · rintro j y H4 hjy O4
                    rw [List.getElem?_map] at hjy
                    cases hy : th[j]? with
                    | none =>
                      rw [hy] at hjy
                      cases hjy
                    | some y0 =>
                      rw [hy] at hjy
                      have ey : V.int y0 = y := Option.some.inj hjy
                      subst ey
                      have hplm : H4 pl = some (.lst (isV ls)) := O4.mem (by simp [hpl])
                      have hjl : j < th.length := (List.getElem?_eq_some_iff.mp hy).1
                      refine ⟨rfl, ⟨_, rfl, _, rfl, _, rfl, pl, _, _, .int l, rfl, rfl, SqL.of hplm, hat, rfl, _, rfl, ?_⟩⟩
                      rw [take_snoc hy, List.filter_append]
                      by_cases e : y0 = l
                      · refine iteFo (by rw [e]; simp) ?_
                        rw [List.filter_cons_of_neg (by simpa using e), List.filter_nil, List.append_nil]
                        exact O4
                      · refine iteTo (by simp [e]) ?_
                        rw [List.filter_cons_of_pos (by simpa using e), List.filter_nil]
                        refine ⟨_, rfl, _, O4.a0, ?_, ?_⟩
                        · rw [List.length_map]
                          have := List.length_filter_le (fun y => decide (y ≠ l)) (th.take j)
                          rw [List.length_take] at this
                          exact size1 (by omega)
                        · unfold isV
                          rw [List.map_append]
                          exact O4.set
                  · rintro H4 O4
                    rw [List.length_map, List.take_length, filter_erase hnd] at O4
                    have hel : (th.erase l).length = th.length - 1 := List.length_erase_of_mem h6
                    refine ⟨_, rfl, _, _, rfl, rfl, D, th.erase l, mn + 1, _, rfl, hnd.erase l, fun z => hb (List.mem_of_mem_erase z), by omega, hj, by omega, ?_⟩
                    exact (O4.perm (L' := (pt, .lst (isV th)) :: (D, .lst (isV (th.erase l))) :: R) (by walk_at "perm")).tail
                · rw [if_pos (.inr h6)] at hj
                  rw [decide_eq_false h6]
                  exact iteT ⟨_, rfl, _, rfl, log1000 (by omega), k5 mn hj.symm H3 O3.tail⟩
            · rw [if_neg hw2] at hj
              refine iteFo (decide_eq_false (fun z => hw2 (by have z : ((th.length : Nat) : Int) = (w : Int) := V.int.inj z; omega))) ?_
              exact ⟨pt, th, mn, _, rfl, hnd, hb, hth, hj, hmn, O3⟩
          · rintro σ H4 ⟨pt, th, mn, v7, rfl, hnd, hb, hth, hj, hmn, O4⟩
            refine ⟨_, rfl, _, rfl, by show 1 ≤ sizeLine; decide, fun p1 hp1 => ?_⟩
            have O5 := O4.new (o := .lst [.int b]) hp1
            refine ⟨pt, p1, _, _, rfl, rfl, O5.a1, O5.a0, by rw [List.length_map]; exact Nat.le_of_lt (size1 (by show th.length + 1 ≤ 1000000; omega)), fun p2 hp2 => ?_⟩
            have O6 := O5.new (o := .lst (isV (th ++ [b]))) hp2
            rw [show isV (th ++ [b]) = isV th ++ [V.int b] by simp [isV]] at O6
            refine ⟨p2, th ++ [b], br + 1, mn, _, _, rfl, ?_, ?_, hj, by omega, hmn, ?_⟩
            · refine List.nodup_append.mpr ⟨hnd, List.pairwise_singleton _ b, fun x hx y hy e => ?_⟩
              rw [List.mem_singleton.mp hy] at e
              exact hb (e ▸ hx)
            · rw [List.length_append]
              show th.length + 1 ≤ i + 1
              omega
            · rw [show isV (th ++ [b]) = isV th ++ [V.int b] by simp [isV]]
              exact (O6.perm (L' := (p1, .lst [.int b]) :: (pt, .lst (isV th)) :: (p2, .lst (isV th ++ [V.int b])) :: R) (by walk_at "perm")).tail.tail
    · rintro σ H3 ⟨pt, th, br, mn, v6, v7, rfl, hnd, hth, hj, hbr, hmn, O3⟩
      rw [List.length_map, List.drop_length] at hj
      unfold jGo at hj
      refine ⟨_, rfl, _, rfl, pl, _, rfl, .inl (SqL.of (hmem O3).2), rfl, _, rfl, ?_⟩
      rw [List.length_map]
      by_cases h5 : mn < ls.length
      · rw [if_pos h5] at hj
        refine iteFo (decide_eq_false (fun z => by have z : ((mn : Nat) : Int) = ((ls.length : Nat) : Int) := V.int.inj z; omega)) ?_
        exact ⟨_, rfl, _, rfl, log1000 (by omega), k5 mn hj.symm H3 O3.tail⟩
      · rw [if_neg h5] at hj
        refine iteTo (decide_eq_true (by rw [show mn = ls.length by omega])) ?_
        exact ⟨_, rfl, k4 br hj.symm H3 O3.tail⟩
theorem ok_drawn (T : Txt K mg) : FnOk P w K mg base CX0 2 (He.fAd K ("_law_drawn", none)) T.fd__law_drawn ["_law_row", "_law_blocks_here", "_law_ways"] (spDrawn K) := by
  have G__law_taken := ok_taken (P := P) (w := w) (base := base) T
  refine okOf T.F__law_drawn sc__law_drawn (fun vs H Q E h => ?_) (fun cdv A outer s H vs Q E hr h => ?_)
  · obtain ⟨_, _, _, _, _, _, _, rfl, _⟩ := h
    rfl
  · obtain ⟨rw, pb, S, c, w, ns, R, rfl, hc, hw, hnl, hpb, O, k⟩ := h
    refine ⟨_, (pss_cons (ps_par (by rfl) sc__law_drawn.nd (i := 3) (j := 4) rfl rfl (by decide) rfl rfl (pa_cons (pe_lst pa_nil) (pa_cons (pe_lst pa_nil) pa_nil)) (by rfl)) (pss_cons (ps_for PassesOwn.never rfl (pi_list (pv 1)) (pg_name (i := 5) sc__law_drawn.nd rfl (Or.inl rfl)) (pss_one (ps_if (pt_cmpR op_notIn_seq (pv 5) (pv 3) (by rfl)) (Evl.pss_cut (ps_if (pt_cmpR op_eq (pe_callB call_len_seq (by rfl) T.n_len PySem.boot_len (pa_cons (pv 3) pa_nil)) (pv 2) (nomark _)) (pss_one (ps_expr (pe_bm PySem.F.plainAttrs_list PySem.F.slot_list_append PySem.F.type_list_append mt_append (pv 4) (pa_cons (pe_bm PySem.F.plainAttrs_list PySem.F.slot_list_pop PySem.F.type_list_pop mt_popAt (pv 3) (pa_cons (pe_call G__law_taken (hr.mono (by omega)) rfl T.g__law_taken T.k__law_taken T.b__law_taken .nil pass0 (pa_cons (pv 0) (pa_cons (pv 2) pa_nil))) pa_nil)) pa_nil)))) pss_nil) (pss_one (ps_expr (pe_bm PySem.F.plainAttrs_list PySem.F.slot_list_append PySem.F.type_list_append mt_append (pv 3) (pa_cons (pv 5) pa_nil))))) pss_nil))) (pss_one (ps_ret (pv 4))))), ?_⟩
    refine ⟨by show 0 ≤ sizeLine; decide, fun pt hpt => ?_⟩
    have O1 := O.new (o := .lst (isV [])) hpt
    refine ⟨by show 0 ≤ sizeLine; decide, fun pf hpf => ?_⟩
    have O2 := O1.new (o := .lst (isV [])) hpf
    refine ⟨_, _, rfl, ?_⟩
    have hmem : ∀ {H' : Hp} {c' : Cell} {th fo : List Int}, Own H' ((pf, .lst (isV fo)) :: (pt, .lst (isV th)) :: c' :: (S ++ R)) → H' pb = some (.lst (isV ns)) := fun O' => O'.mem (by simp [hpb])
    refine ⟨_, rfl, pb, rfl, ⟨_, SqL.of (hmem O2)⟩, ?_⟩
    refine for_list (K := K) (a := pb) (xs := isV ns) (fun i σ H' => ∃ (th fo : List Int) (c' : Cell) (v5 : Option V), σ = [some (.ref rw), some (.ref pb), some (.int (w : Nat)), some (.ref pt), some (.ref pf), v5] ∧ th.length ≤ w ∧ th.length ≤ i ∧ fo.length ≤ i ∧ RowC K rw S c' ∧ Own H' ((pf, .lst (isV fo)) :: (pt, .lst (isV th)) :: c' :: (S ++ R)))
      ⟨[], [], c, none, rfl, Nat.zero_le _, Nat.zero_le _, Nat.zero_le _, hc, O2⟩ (fun i σ H' _ ⟨_, _, _, _, _, _, _, _, _, O'⟩ => SqL.of (hmem O')) ?_ ?_
    · rintro i x σ H3 hi ⟨th, fo, c1, v5, rfl, hth, hti, hfo, hc1, O3⟩
      rw [List.getElem?_map] at hi
      cases ha : ns[i]? with
      | none =>
        rw [ha] at hi
        cases hi
      | some b =>
        rw [ha] at hi
        have ex : V.int b = x := Option.some.inj hi
        subst ex
        have hil : i < ns.length := (List.getElem?_eq_some_iff.mp ha).1
        refine ⟨_, rfl, _, rfl, pt, _, rfl, .inl (SqL.of O3.a1), rfl, isV_flat th, _, rfl, ?_⟩
        rw [inV_is]
        by_cases hb : b ∈ th
        · rw [decide_eq_true hb]
          exact iteF ⟨th, fo, c1, _, rfl, hth, by omega, by omega, hc1, O3⟩
        · rw [decide_eq_false hb]
          refine iteT ?_
          refine ⟨fun σ H' => ∃ (th fo : List Int) (c' : Cell), σ = [some (.ref rw), some (.ref pb), some (.int (w : Nat)), some (.ref pt), some (.ref pf), some (.int b)] ∧ th.length < w ∧ th.length ≤ i ∧ fo.length ≤ i + 1 ∧ RowC K rw S c' ∧ Own H' ((pf, .lst (isV fo)) :: (pt, .lst (isV th)) :: c' :: (S ++ R)), ?_, ?_⟩
          · refine ⟨_, rfl, pt, _, rfl, .inl (SqL.of O3.a1), _, rfl, rfl, _, rfl, ?_⟩
            rw [List.length_map]
            by_cases hw2 : th.length = w
            · refine iteTo (decide_eq_true (by rw [hw2])) ?_
              refine ⟨_, rfl, .inl ⟨rfl, _, SqL.of O3.a0⟩, _, rfl, .inl ⟨rfl, _, SqL.of O3.a1⟩, _, rfl, _, rfl, rw, S, c1, (w : Int), (pf, .lst (isV fo)) :: (pt, .lst (isV th)) :: R, rfl, hc1, by omega, O3.perm (by walk_at "perm"), fun v c2 H4 h0 h1 hc2 O4 => ?_⟩
              obtain ⟨j, rfl⟩ : ∃ j : Nat, v = (j : Int) := ⟨v.toNat, by omega⟩
              have hj : j < th.length := by omega
              obtain ⟨y, hy⟩ : ∃ y, th[j]? = some y := ⟨_, List.getElem?_eq_getElem hj⟩
              have O5 := O4.perm (L' := (pt, .lst (isV th)) :: (pf, .lst (isV fo)) :: c2 :: (S ++ R)) (by walk_at "perm")
              refine ⟨pt, _, _, j, .int y, rfl, rfl, O5.a0, by omega, by omega, seqIx (by rw [List.length_map]; exact hj), by rw [List.getElem?_map, hy]; rfl, ?_⟩
              rw [erase_mapI]
              have O6 := O5.set (o' := .lst (isV (th.eraseIdx j)))
              refine ⟨pf, _, _, rfl, rfl, O6.a1, by rw [List.length_map]; exact size1 (by omega), th.eraseIdx j, fo ++ [y], c2, rfl, ?_, ?_, ?_, hc2, ?_⟩
              · rw [List.length_eraseIdx_of_lt hj]
                omega
              · rw [List.length_eraseIdx_of_lt hj]
                omega
              · rw [List.length_append]
                show fo.length + 1 ≤ i + 1
                omega
              · rw [show isV (fo ++ [y]) = isV fo ++ [V.int y] by simp [isV]]
                exact (O6.perm (L' := (pf, .lst (isV fo)) :: (pt, .lst (isV (th.eraseIdx j))) :: c2 :: (S ++ R)) (by walk_at "perm")).set
            · refine iteFo (decide_eq_false (fun z => hw2 (by have z : ((th.length : Nat) : Int) = (w : Int) := V.int.inj z; omega))) ?_
              exact ⟨th, fo, c1, rfl, by omega, by omega, by omega, hc1, O3⟩
          · rintro σ H4 ⟨th, fo, c2, rfl, hth, hti, hfo, hc2, O4⟩
            have O5 := O4.perm (L' := (pt, .lst (isV th)) :: (pf, .lst (isV fo)) :: c2 :: (S ++ R)) (by walk_at "perm")
            refine ⟨_, rfl, .inl ⟨rfl, _, SqL.of O5.a0⟩, _, rfl, pt, _, _, rfl, rfl, O5.a0, by rw [List.length_map]; exact size1 (by omega), th ++ [b], fo, c2, _, rfl, ?_, ?_, by omega, hc2, ?_⟩
            · rw [List.length_append]
              exact hth
            · rw [List.length_append]
              show th.length + 1 ≤ i + 1
              omega
            · rw [show isV (th ++ [b]) = isV th ++ [V.int b] by simp [isV]]
              exact (O5.set (o' := .lst (isV th ++ [V.int b]))).perm (by walk_at "perm")
    · rintro σ H3 ⟨th, fo, c1, v5, rfl, hth, hti, hfo, hc1, O3⟩
      rw [List.length_map] at hfo
      refine ⟨_, rfl, k fo pf c1 H3 hfo hc1 ?_⟩
      exact (O3.perm (L' := (pt, .lst (isV th)) :: (c1 :: (S ++ ((pf, .lst (isV fo)) :: R)))) (by refine cnt_perm fun c => ?_; simp only [cnt_app, cnt_cons, cnt_nil, List.append_assoc, List.cons_append, List.nil_append]; omega)).tail
end
-- WwL14
/-! ### the law -/
abbrev lawLv : Nat := 18
def lamQ : Str := (envOfC "law" (defScope s_law) 0 0 .none).qual ++ "<lambda>"
abbrev lamP (K : PySem.W.Frag) : Addr := (He.cT K ("law", none)).2
abbrev lamTs (K : PySem.W.Frag) : List (Addr × Str) := [(lamP K, lamQ)]
def spLaw (K : PySem.W.Frag) : Sp := fun vs H Q _ => ∃ (sc : Addr) (ns : List Int) (S TL : List Cell), vs = [.ref sc] ∧ Scr K sc ns S ∧ NT S ∧ TabC TL (lamP K) lamQ ∧ Own H (S ++ TL) ∧ ∀ H', Q (.bl true) H'
theorem RowC.nt {K : PySem.W.Frag} {rw : Addr} {S : List Cell} {c : Cell} (h : RowC K rw S c) : isTb c.2 = false := by
  obtain ⟨_, _, _, _, _, _, _, rfl⟩ := h
  rfl
theorem num_text {k : Nat} (h : k ≤ 100000) : PySem.intText? (Str.ofString (toString ((k : Nat) : Int))) = some ((k : Nat) : Int) := PySem.W.KIN.num_reads (by omega) (by omega)
theorem pickM {v : Int} (h0 : 0 ≤ v) (h3 : v < 3) : ∃ k : Nat, atI [V.int 40, .int 40, .int 200] v = some (.int (k : Int)) ∧ k ≤ 200 := by
  obtain ⟨y, ey, e | e | e⟩ := pick3 (a := V.int 40) (b := .int 40) (c := .int 200) h0 h3
  · exact ⟨40, by rw [ey, e]; rfl, by decide⟩
  · exact ⟨40, by rw [ey, e]; rfl, by decide⟩
  · exact ⟨200, by rw [ey, e]; rfl, by decide⟩
theorem pickW {v : Int} (h0 : 0 ≤ v) (h3 : v < 2) : ∃ k : Nat, atI [V.int 3, .int 8] v = some (.int (k : Int)) ∧ 1 ≤ k ∧ k ≤ 8 := by
  obtain ⟨y, ey, e | e⟩ := pick2 (a := V.int 3) (b := .int 8) h0 h3
  · exact ⟨3, by rw [ey, e]; rfl, by decide, by decide⟩
  · exact ⟨8, by rw [ey, e]; rfl, by decide, by decide⟩
section
variable {P : Program} {w : World} {K : PySem.W.Frag} {mg : Str → Option Value} {base : Heap} {n lv : Nat}
theorem ok_law (T : Txt K mg) (TB : LamX.TabB base mg (He.cT K ("law", none)).1 (lamP K)) : FnOk P w K mg base CX0 18 (He.fAd K ("law", none)) T.fd_law ["_law_script"] (spLaw K) := by
  have G__law_taken := ok_taken (P := P) (w := w) (base := base) T
  have G__law_blocks := ok_blocks (P := P) (w := w) (base := base) T
  have G__law_drawn := ok_drawn (P := P) (w := w) (base := base) T
  have G__law_left := ok_left (P := P) (w := w) (base := base) T
  have G__law_alike := ok_alike (P := P) (w := w) (base := base) T 2
  have G_judged := ok_judged (P := P) (w := w) (base := base) T
  obtain ⟨oc, od, dV, kV, doc, pm, an, cdg, ct, osl, efd, lkW, hcW, _, _⟩ := T.F__law_word.ex
  have bW := T.b__law_word
  rw [efd] at lkW bW
  refine okTab T.F_law sc_law (fun vs H Q E h => ?_) (fun A outer s H vs Q E hr h => ?_)
  · obtain ⟨_, _, _, _, rfl, _⟩ := h
    rfl
  · obtain ⟨sc, ns, S, TL, rfl, hsc, hS, hT, O, kq⟩ := h
    refine ⟨_, (pss_cons (ps_set (i := 1) sc_law.nd rfl (Or.inl rfl) (pe_lst (pa_cons (pv 0) (pa_cons pe_int (pa_cons pe_int pa_nil))))) (pss_cons (ps_for PassesOwn.never rfl (pi_range1 (by rfl) T.n_range (pa_cons pe_int pa_nil)) (pg_name (i := 2) sc_law.nd rfl (Or.inl rfl)) (pss_cons (ps_set (i := 3) sc_law.nd rfl (Or.inl rfl) (pe_call G__law_blocks (hr.mono (by omega)) rfl T.g__law_blocks T.k__law_blocks T.b__law_blocks .nil pass0 (pa_cons (pv 1) (pa_cons (pe_ix ix_list (pe_lst (pa_cons pe_int (pa_cons pe_int (pa_cons pe_int pa_nil)))) (pe_call G__law_taken (hr.mono (by omega)) rfl T.g__law_taken T.k__law_taken T.b__law_taken .nil pass0 (pa_cons (pv 1) (pa_cons pe_int pa_nil))) (fun _ _ => rfl)) pa_nil)))) (pss_cons (ps_set (i := 4) sc_law.nd rfl (Or.inr rfl) (pe_op op_add pe_int (pe_call G__law_taken (hr.mono (by omega)) rfl T.g__law_taken T.k__law_taken T.b__law_taken .nil pass0 (pa_cons (pv 1) (pa_cons (pe_ix ix_list (pe_lst (pa_cons pe_int (pa_cons pe_int pa_nil))) (pe_call G__law_taken (hr.mono (by omega)) rfl T.g__law_taken T.k__law_taken T.b__law_taken .nil pass0 (pa_cons (pv 1) (pa_cons pe_int pa_nil))) (fun _ _ => rfl)) pa_nil))))) (pss_cons (ps_set (i := 5) sc_law.nd rfl (Or.inl rfl) (pe_call G__law_drawn (hr.mono (by omega)) rfl T.g__law_drawn T.k__law_drawn T.b__law_drawn .nil pass0 (pa_cons (pv 1) (pa_cons (pv 3) (pa_cons (pv 4) pa_nil))))) (pss_cons (ps_set (i := 6) sc_law.nd rfl (Or.inl rfl) (pe_call G__law_taken (hr.mono (by omega)) rfl T.g__law_taken T.k__law_taken T.b__law_taken .nil pass0 (pa_cons (pv 1) (pa_cons (pe_op op_add (pe_callB call_len_seq (by rfl) T.n_len PySem.boot_len (pa_cons (pv 5) pa_nil)) pe_int) pa_nil)))) (pss_cons (ps_set (i := 7) sc_law.nd rfl (Or.inl rfl) (pe_ix ix_list (pe_lst (pa_cons (pe_call G__law_taken (hr.mono (by omega)) rfl T.g__law_taken T.k__law_taken T.b__law_taken .nil pass0 (pa_cons (pv 1) (pa_cons pe_int pa_nil))) (pa_cons (pe_op op_add pe_int (pe_call G__law_taken (hr.mono (by omega)) rfl T.g__law_taken T.k__law_taken T.b__law_taken .nil pass0 (pa_cons (pv 1) (pa_cons pe_int pa_nil)))) (pa_cons (pe_op op_sub pe_int pe_int) pa_nil)))) (pe_call G__law_taken (hr.mono (by omega)) rfl T.g__law_taken T.k__law_taken T.b__law_taken .nil pass0 (pa_cons (pv 1) (pa_cons pe_int pa_nil))) (fun _ _ => rfl))) (pss_cons (ps_set (i := 8) sc_law.nd rfl (Or.inl rfl) (pe_lst (pa_cons (pv 5) (pa_cons (pe_op op_cat (pe_op op_cat (pe_slice sl_list (pv 5) po_none (po_some (pv 6))) (pe_lst (pa_cons (pv 7) pa_nil))) (pe_slice sl_list (pv 5) (po_some (pv 6)) po_none)) (pa_cons (pe_op op_cat (pe_slice sl_list (pv 5) po_none (po_some (pv 6))) (pe_slice sl_list (pv 5) (po_some (pe_op op_add (pv 6) pe_int)) po_none)) (pa_cons (pe_op op_cat (pe_op op_cat (pe_slice sl_list (pv 5) po_none (po_some (pv 6))) (pe_lst (pa_cons (pv 7) pa_nil))) (pe_slice sl_list (pv 5) (po_some (pe_op op_add (pv 6) pe_int)) po_none)) pa_nil)))))) (pss_cons (ps_expr (pe_bm PySem.F.plainAttrs_list PySem.F.slot_list_append PySem.F.type_list_append mt_append (pv 8) (pa_cons (pe_op op_cat (pv 5) (pe_lst (pa_cons (pv 7) pa_nil))) pa_nil))) (pss_one (ps_for PassesOwn.never rfl (pi_list (pv 8)) (pg_name (i := 9) sc_law.nd rfl (Or.inl rfl)) (pss_cons (ps_set (i := 10) sc_law.nd rfl (Or.inl rfl) (pe_call G__law_left (hr.mono (by omega)) rfl T.g__law_left T.k__law_left T.b__law_left .nil pass0 (pa_cons (pv 3) (pa_cons (pv 4) (pa_cons (pv 9) pa_nil))))) (pss_cons (ps_set (i := 11) sc_law.nd rfl (Or.inr rfl) (pe_lst (pa_cons (pe_callTy call_list_of (by rfl) T.n_list (by decide +kernel) (pa_cons (pv 3) pa_nil)) (pa_cons (pe_callTy call_list_of (by rfl) T.n_list (by decide +kernel) (pa_cons (pv 9) pa_nil)) pa_nil)))) (Evl.pss_cut (ps_if (pt_val (pe_callB call_isi (by rfl) T.n_isinstance (by decide +kernel) (pa_cons (pv 10) (pa_cons (pe_bltn (v := .ty "str") (by rfl) T.n_str (by decide +kernel) rfl) pa_nil)))) (pss_one (ps_if (pt_cmpR (op_neD hr.units) (LamX.pe_lamcall (T := lamTs K) (k := 5) (by rfl) T.g__law_word T.k__law_word lkW hcW bW sc__law_word rfl (.inl rfl) (word_gives T) TB rfl List.mem_cons_self (fun p hp _ => by rw [List.mem_singleton.mp hp]; rfl) (hr.mono (by omega)) (LamX.lamS_by (by rfl)) rfl (fun _ _ _ _ _ => rfl) (fun A outer s H E f c' hr => (pe_call G_judged (hr.mono (by omega)) rfl T.g_judged T.k_judged T.b_judged .nil (passes_call (takes_of rfl rfl rfl rfl) fun _ _ _ _ z => z) (pa_cons (pe_ix (ix_listK K (by rfl)) (pv 11) pe_int (fun _ _ => rfl)) (pa_cons (pv 4) (pa_cons (pe_ix (ix_listK K (by rfl)) (pv 11) pe_int (fun _ _ => rfl)) pa_nil)))))) (pe_tup (pa_cons pe_str (pa_cons (pe_callTy call_int_str (by rfl) T.n_int (by decide +kernel) (pa_cons (pv 10) pa_nil)) pa_nil))) (nomark _)) (pss_one (ps_ret pe_bl)) pss_nil)) (pss_one (ps_if (pt_not (pt_val (pe_call G__law_alike (hr.mono (by omega)) rfl T.g__law_alike T.k__law_alike T.b__law_alike .nil pass0 (pa_cons (pe_call G_judged (hr.mono (by omega)) rfl T.g_judged T.k_judged T.b_judged .nil (passes_call LamX.takes0 fun _ _ _ _ z => z) (pa_cons (pe_ix ix_list (pv 11) pe_int (fun _ _ => rfl)) (pa_cons (pv 4) (pa_cons (pe_ix ix_list (pv 11) pe_int (fun _ _ => rfl)) pa_nil)))) (pa_cons (pv 10) pa_nil))))) (pss_one (ps_ret pe_bl)) pss_nil))) (pss_one (ps_if (pt_cmpR (op_neD hr.units) (pv 11) (pe_lst (pa_cons (pv 3) (pa_cons (pv 9) pa_nil))) (nomark _)) (pss_one (ps_ret pe_bl)) pss_nil))))))))))))))) (pss_one (ps_ret pe_bl)))), ?_⟩
    refine ⟨_, rfl, by show 3 ≤ sizeLine; decide, fun rw hrw => ?_⟩
    have O0 := O.new (o := .lst [.ref sc, .int 0, .int 0]) hrw
    generalize upd H rw _ = H0 at O0 ⊢
    refine ⟨6, rfl, by decide, by decide, ?_⟩
    refine for_range (lo := 0) (n := 6) (fun i σ H' => (∃ v2 v3 v4 v5 v6 v7 v8 v9 v10 v11, σ = [some (.ref sc), some (.ref rw), v2, v3, v4, v5, v6, v7, v8, v9, v10, v11]) ∧ ∃ c' TL, RowC K rw S c' ∧ TabC TL (lamP K) lamQ ∧ Own H' (c' :: (S ++ TL)))
      ⟨⟨none, none, none, none, none, none, none, none, none, none, rfl⟩, _, TL, ⟨sc, ns, 0, 0, hsc, by decide, by decide, rfl⟩, hT, O0⟩ ?_ ?_
    · rintro ti σ H1 hti ⟨⟨v2, v3, v4, v5, v6, v7, v8, v9, v10, v11, rfl⟩, c1, TL, hc1, hT, O1⟩
      -- blocks
      refine ⟨_, rfl, by show 3 ≤ sizeLine; decide, fun p0 hp0 => ?_⟩
      have O2 := O1.new (o := .lst [.int 40, .int 40, .int 200]) hp0
      refine ⟨_, rfl, rw, S, c1, 3, (p0, .lst [.int 40, .int 40, .int 200]) :: TL, rfl, hc1, by decide, O2.perm (by walk_at "perm"), fun v c2 H2 h0 h3 hc2 O3 => ?_⟩
      obtain ⟨most, hm1, hm2⟩ := pickM h0 h3
      refine ⟨p0, _, _, _, rfl, rfl, SqL.of (O3.mem (by simp)), hm1, ?_⟩
      refine ⟨rw, S, c2, most, (p0, .lst [.int 40, .int 40, .int 200]) :: TL, rfl, hm2, hc2, O3, fun bs pb c3 H3 hbs hbl hc3 O4 => ?_⟩
      rw [blV_is] at O4
      obtain ⟨bi, hbi⟩ : ∃ bi, bi = intsOf bs := ⟨_, rfl⟩
      rw [← hbi] at O4
      replace O4 : Own H3 (c3 :: (S ++ ((pb, .lst (isV bi)) :: (p0, .lst [.int 40, .int 40, .int 200]) :: TL))) := O4
      have hbil : bi.length ≤ 200 := by
        rw [hbi]
        unfold intsOf
        rw [List.length_map]
        omega
      have hbok : BlksOk bi := fun i hi => by
        obtain ⟨x, hx⟩ : ∃ x, bi[i]? = some x := ⟨_, List.getElem?_eq_getElem hi⟩
        refine ⟨x, hx, by omega, ?_⟩
        have hm := List.mem_of_getElem? hx
        rw [hbi] at hm
        obtain ⟨b, hb, rfl⟩ := List.mem_map.mp hm
        have := hbs b hb
        omega
      -- ways
      refine ⟨_, rfl, by show 2 ≤ sizeLine; decide, fun p1 hp1 => ?_⟩
      have O5 := O4.new (o := .lst [.int 3, .int 8]) hp1
      refine ⟨_, rfl, rw, S, c3, 2, (p1, .lst [.int 3, .int 8]) :: (pb, .lst (isV bi)) :: (p0, .lst [.int 40, .int 40, .int 200]) :: TL, rfl, hc3, by decide, O5.perm (by walk_at "perm"), fun v1 c4 H4 h10 h11 hc4 O6 => ?_⟩
      obtain ⟨wm, hw1, hw2, hw3⟩ := pickW h10 h11
      refine ⟨p1, _, _, _, rfl, rfl, SqL.of (O6.mem (by simp)), hw1, ?_⟩
      refine ⟨rw, S, c4, (wm : Int), _, rfl, hc4, by omega, O6, fun vw c5 H5 hv0 hv1 hc5 O7 => ?_⟩
      refine ⟨_, _, rfl, rfl, ?_⟩
      obtain ⟨wn, hwn, hwn1, hwn8⟩ : ∃ wn : Nat, 1 + vw = (wn : Int) ∧ 1 ≤ wn ∧ wn ≤ 8 := ⟨(1 + vw).toNat, by omega, by omega, by omega⟩
      -- some
      refine ⟨_, rfl, _, rfl, _, rfl, rw, pb, S, c5, wn, bi, _, congrArg (fun z => [V.ref rw, V.ref pb, V.int z]) hwn, hc5, hwn1, by omega, by simp, O7, fun ls ps c6 H6 hls hc6 O8 => ?_⟩
      -- at
      refine ⟨_, rfl, _, rfl, ps, _, rfl, .inl (SqL.of (O8.mem (show (ps, HO.lst (isV ls)) ∈ _ by simp))), _, _, rfl, rfl, ?_⟩
      refine ⟨rw, S, c6, _, _, rfl, hc6, by rw [List.length_map]; omega, O8, fun va c7 H7 ha0 ha1 hc7 O9 => ?_⟩
      -- odd
      refine ⟨_, rfl, rw, S, c7, 16, _, rfl, hc7, by decide, O9, fun w1 c8 H8 _ _ hc8 O10 => ?_⟩
      refine ⟨_, rfl, rw, S, c8, 99, _, rfl, hc8, by decide, O10, fun w2 c9 H9 _ _ hc9 O11 => ?_⟩
      refine ⟨_, _, rfl, rfl, _, _, rfl, rfl, by show 3 ≤ sizeLine; decide, fun po hpo => ?_⟩
      have O12 := O11.new (o := .lst [.int w1, .int (16 + w2), .int (0 - 1)]) hpo
      refine ⟨_, rfl, rw, S, c9, 3, (po, .lst [.int w1, .int (16 + w2), .int (0 - 1)]) :: (ps, .lst (isV ls)) :: (p1, .lst [.int 3, .int 8]) :: (pb, .lst (isV bi)) :: (p0, .lst [.int 40, .int 40, .int 200]) :: TL, rfl, hc9, by decide, O12.perm (by walk_at "perm"), fun w3 c10 H10 hw0 hw33 hc10 O13 => ?_⟩
      obtain ⟨odd, hodd⟩ : ∃ odd : Int, atI [V.int w1, .int (16 + w2), .int (0 - 1)] w3 = some (.int odd) := by
        obtain ⟨y, ey, e | e | e⟩ := pick3 (a := V.int w1) (b := .int (16 + w2)) (c := .int (0 - 1)) hw0 hw33
        · exact ⟨_, by rw [ey, e]⟩
        · exact ⟨_, by rw [ey, e]⟩
        · exact ⟨_, by rw [ey, e]⟩
      refine ⟨po, _, _, _, rfl, rfl, SqL.of (O13.mem (by simp)), hodd, ?_⟩
      obtain ⟨B, hB⟩ : ∃ B, B = c10 :: (S ++ ((po, HO.lst [.int w1, .int (16 + w2), .int (0 - 1)]) :: (ps, .lst (isV ls)) :: (p1, .lst [.int 3, .int 8]) :: (pb, .lst (isV bi)) :: (p0, .lst [.int 40, .int 40, .int 200]) :: TL)) := ⟨_, rfl⟩
      rw [← hB] at O13
      have hpsB : (ps, HO.lst (isV ls)) ∈ B := by rw [hB]; simp
      have hpbB : (pb, HO.lst (isV bi)) ∈ B := by rw [hB]; simp
      have hlsl : ls.length ≤ 200 := by omega
      have big : ∀ {k : Nat}, k ≤ 5000 → k ≤ sizeLine := fun h => Nat.le_of_lt (size1 (by omega))
      -- lists
      have cutN : ∀ {H' : Hp} {L : List Cell} {Q : VK} (lo hi : Option Int), Own H' (L ++ B) → (∀ (p : Addr) (H2 : Hp) (l2 : List Int), l2.length ≤ 200 → Own H2 ((p, .lst (isV l2)) :: (L ++ B)) → Q (.ref p) H2) → rSlL K (.ref ps) lo hi H' Q := fun lo hi O' k => by
        refine ⟨ps, _, rfl, SqL.of (O'.mem (List.mem_append_right _ hpsB)), fun p hp => ?_⟩
        rw [cutI_eq]
        exact k p _ _ (Nat.le_trans (cutI_len _ _ _) hlsl) (O'.new hp)
      refine ⟨_, rfl, ?_⟩
      refine ⟨_, rfl, _, rfl, _, rfl, cutN (L := []) _ _ O13 fun q1 G1 l1 hl1 U1 => ?_⟩
      -- some[:at] + [odd] + some[at:]
      refine ⟨_, rfl, by show 1 ≤ sizeLine; decide, fun q2 hq2 => ?_⟩
      have U2 := U1.new (o := .lst (isV [odd])) hq2
      refine ⟨q1, q2, _, _, rfl, rfl, U2.a1, U2.a0, big (by rw [List.length_map]; show l1.length + 1 ≤ 5000; omega), fun q3 hq3 => ?_⟩
      have U3 := U2.new (o := .lst (isV (l1 ++ [odd]))) hq3
      rw [show isV (l1 ++ [odd]) = isV l1 ++ isV [odd] by simp [isV]] at U3
      refine ⟨_, rfl, _, rfl, _, rfl, noPart (cutN (L := [_, _, _]) _ _ U3 fun q4 G4 l4 hl4 U4 => ?_)⟩
      refine ⟨q3, q4, _, _, rfl, rfl, U4.a1, U4.a0, big (by rw [List.length_append, List.length_map, List.length_map, List.length_map]; show l1.length + 1 + l4.length ≤ 5000; omega), fun q5 hq5 => ?_⟩
      obtain ⟨z1, hz1, hz1l⟩ : ∃ z1 : List Int, isV l1 ++ isV [odd] ++ isV l4 = isV z1 ∧ z1.length ≤ 1000 := ⟨l1 ++ [odd] ++ l4, by simp [isV], by simp; omega⟩
      rw [hz1]
      have U5 := U4.new (o := .lst (isV z1)) hq5
      -- some[:at] + some[at + 1:]
      refine ⟨_, rfl, _, rfl, _, rfl, cutN (L := [_, _, _, _, _]) _ _ U5 fun q6 G6 l6 hl6 U6 => ?_⟩
      refine ⟨_, rfl, _, rfl, _, _, rfl, rfl, _, rfl, noPart (cutN (L := [_, _, _, _, _, _]) _ _ U6 fun q7 G7 l7 hl7 U7 => ?_)⟩
      refine ⟨q6, q7, _, _, rfl, rfl, U7.a1, U7.a0, big (by rw [List.length_map, List.length_map]; omega), fun q8 hq8 => ?_⟩
      obtain ⟨z2, hz2, hz2l⟩ : ∃ z2 : List Int, isV l6 ++ isV l7 = isV z2 ∧ z2.length ≤ 1000 := ⟨l6 ++ l7, by simp [isV], by simp; omega⟩
      rw [hz2]
      have U8 := U7.new (o := .lst (isV z2)) hq8
      -- some[:at] + [odd] + some[at + 1:]
      refine ⟨_, rfl, _, rfl, _, rfl, cutN (L := [_, _, _, _, _, _, _, _]) _ _ U8 fun q9 G9 l9 hl9 U9 => ?_⟩
      refine ⟨_, rfl, by show 1 ≤ sizeLine; decide, fun q10 hq10 => ?_⟩
      have U10 := U9.new (o := .lst (isV [odd])) hq10
      refine ⟨q9, q10, _, _, rfl, rfl, U10.a1, U10.a0, big (by rw [List.length_map]; show l9.length + 1 ≤ 5000; omega), fun q11 hq11 => ?_⟩
      obtain ⟨z3, hz3, hz3l⟩ : ∃ z3 : List Int, isV l9 ++ isV [odd] = isV z3 ∧ z3.length ≤ 300 := ⟨l9 ++ [odd], by simp [isV], by simp; omega⟩
      rw [hz3]
      have U11 := U10.new (o := .lst (isV z3)) hq11
      refine ⟨_, rfl, _, rfl, _, _, rfl, rfl, _, rfl, noPart (cutN (L := [_, _, _, _, _, _, _, _, _, _, _]) _ _ U11 fun q12 G12 l12 hl12 U12 => ?_)⟩
      refine ⟨q11, q12, _, _, rfl, rfl, U12.a1, U12.a0, big (by rw [List.length_map, List.length_map]; omega), fun q13 hq13 => ?_⟩
      obtain ⟨z4, hz4, hz4l⟩ : ∃ z4 : List Int, isV z3 ++ isV l12 = isV z4 ∧ z4.length ≤ 1000 := ⟨z3 ++ l12, by simp [isV], by simp; omega⟩
      rw [hz4]
      have U13 := U12.new (o := .lst (isV z4)) hq13
      obtain ⟨Y0, hY0⟩ : ∃ Y0 : List Cell, Y0 = [(q13, HO.lst (isV z4)), (q12, .lst (isV l12)), (q11, .lst (isV z3)), (q10, .lst (isV [odd])), (q9, .lst (isV l9)), (q8, .lst (isV z2)), (q7, .lst (isV l7)), (q6, .lst (isV l6)), (q5, .lst (isV z1)), (q4, .lst (isV l4)), (q3, .lst (isV l1 ++ isV [odd])), (q2, .lst (isV [odd])), (q1, .lst (isV l1)), (po, .lst [.int w1, .int (16 + w2), .int (0 - 1)]), (ps, .lst (isV ls)), (p1, .lst [.int 3, .int 8]), (pb, .lst (isV bi)), (p0, .lst [.int 40, .int 40, .int 200])] := ⟨_, rfl⟩
      have hBp : B.Perm ([(po, .lst [.int w1, .int (16 + w2), .int (0 - 1)]), (ps, .lst (isV ls)), (p1, .lst [.int 3, .int 8]), (pb, .lst (isV bi)), (p0, .lst [.int 40, .int 40, .int 200])] ++ (c10 :: (S ++ TL))) := by rw [hB]; walk_at "perm"
      have W1 := U13.perm (L' := Y0 ++ (c10 :: (S ++ TL))) (by
        rw [hY0]
        exact List.Perm.append_left [(q13, HO.lst (isV z4)), (q12, .lst (isV l12)), (q11, .lst (isV z3)), (q10, .lst (isV [odd])), (q9, .lst (isV l9)), (q8, .lst (isV z2)), (q7, .lst (isV l7)), (q6, .lst (isV l6)), (q5, .lst (isV z1)), (q4, .lst (isV l4)), (q3, .lst (isV l1 ++ isV [odd])), (q2, .lst (isV [odd])), (q1, .lst (isV l1))] hBp)
      have hNY : NT Y0 := by
        rw [hY0]
        iterate 18 refine NT.cons rfl ?_
        exact NT.nil
      have mY : (ps, HO.lst (isV ls)) ∈ Y0 ∧ (q5, HO.lst (isV z1)) ∈ Y0 ∧ (q8, HO.lst (isV z2)) ∈ Y0 ∧ (q13, HO.lst (isV z4)) ∈ Y0 ∧ (pb, HO.lst (isV bi)) ∈ Y0 := by
        rw [hY0]
        refine ⟨?_, ?_, ?_, ?_, ?_⟩ <;> simp
      clear U13 U12 U11 U10 U9 U8 U7 U6 U5 U4 U3 U2 U1 O13 O12 O11 O10 O9 O8 O7 O6 O5 O4 O3 O2 cutN hY0 hBp hB hpsB hpbB
      refine ⟨by show 4 ≤ sizeLine; decide, fun pls hpls => ?_⟩
      have U14 := W1.new (o := .lst [.ref ps, .ref q5, .ref q8, .ref q13]) hpls
      refine ⟨_, rfl, .inl ⟨rfl, _, SqL.of U14.a0⟩, _, rfl, _, rfl, by show 1 ≤ sizeLine; decide, fun q14 hq14 => ?_⟩
      have U15 := U14.new (o := .lst [.int odd]) hq14
      refine ⟨ps, q14, _, _, rfl, rfl, U15.mem (show (ps, HO.lst (isV ls)) ∈ _ by simp [mY.1]), U15.a0, big (by rw [List.length_map]; show ls.length + 1 ≤ 5000; omega), fun q15 hq15 => ?_⟩
      obtain ⟨z5, hz5, hz5l⟩ : ∃ z5 : List Int, isV ls ++ [V.int odd] = isV z5 ∧ z5.length ≤ 1000 := ⟨ls ++ [odd], by simp [isV], by simp; omega⟩
      rw [hz5]
      have U16 := (U15.new (o := .lst (isV z5)) hq15).perm (L' := (pls, .lst [.ref ps, .ref q5, .ref q8, .ref q13]) :: (q15, .lst (isV z5)) :: (q14, .lst [.int odd]) :: (Y0 ++ (c10 :: (S ++ TL)))) (by walk_at "perm")
      refine ⟨pls, _, _, rfl, rfl, U16.a0, by show 4 < sizeLine; decide, ?_⟩
      obtain ⟨Y1, hY1⟩ : ∃ Y1 : List Cell, Y1 = (pls, HO.lst [.ref ps, .ref q5, .ref q8, .ref q13, .ref q15]) :: (q15, .lst (isV z5)) :: (q14, .lst [.int odd]) :: Y0 := ⟨_, rfl⟩
      obtain ⟨L0, hL0⟩ : ∃ L0 : List Cell, L0 = Y1 ++ (c10 :: S) := ⟨_, rfl⟩
      have eL : ∀ TL : List Cell, L0 ++ TL = Y1 ++ (c10 :: (S ++ TL)) := fun TL => by rw [hL0]; simp [List.append_assoc]
      have U17 := (U16.set (o' := .lst ([.ref ps, .ref q5, .ref q8, .ref q13] ++ [.ref q15]))).perm (L' := L0 ++ TL) (by rw [eL, hY1]; exact List.Perm.refl _)
      have hN0 : NT L0 := by
        rw [hL0, hY1]
        exact NT.cons rfl (NT.cons rfl (NT.cons rfl (NT.app hNY (NT.cons hc10.nt hS))))
      have hpls0 : (pls, HO.lst [.ref ps, .ref q5, .ref q8, .ref q13, .ref q15]) ∈ L0 := by rw [hL0, hY1]; simp
      have hYL : ∀ c ∈ Y0, c ∈ L0 := fun c hc => by rw [hL0, hY1]; simp [hc]
      have hpb0 : (pb, HO.lst (isV bi)) ∈ L0 := hYL _ mY.2.2.2.2
      have hits : ∀ (t : Nat) (x : V), [V.ref ps, .ref q5, .ref q8, .ref q13, .ref q15][t]? = some x → ∃ (a : Addr) (z : List Int), x = .ref a ∧ (a, HO.lst (isV z)) ∈ L0 ∧ z.length ≤ 1000 := fun t x hx => by
        have hm := List.mem_of_getElem? hx
        simp only [List.mem_cons, List.not_mem_nil, or_false] at hm
        rcases hm with e | e | e | e | e
        · exact ⟨ps, ls, e, hYL _ mY.1, by omega⟩
        · exact ⟨q5, z1, e, hYL _ mY.2.1, hz1l⟩
        · exact ⟨q8, z2, e, hYL _ mY.2.2.1, hz2l⟩
        · exact ⟨q13, z4, e, hYL _ mY.2.2.2.1, hz4l⟩
        · exact ⟨q15, z5, e, by rw [hL0, hY1]; simp, hz5l⟩
      clear U16 U15 U14 W1
      generalize upd _ pls _ = HA at U17 ⊢
      refine ⟨_, rfl, pls, rfl, ⟨_, SqL.of (U17.mem (List.mem_append_left _ hpls0))⟩, ?_⟩
      refine for_list (K := K) (a := pls) (xs := [.ref ps, .ref q5, .ref q8, .ref q13, .ref q15]) (fun t σ H' => (∃ v9 v10 v11, σ = [some (.ref sc), some (.ref rw), some (.int (0 + (ti : Int))), some (.ref pb), some (.int (1 + vw)), some (.ref ps), some (.int va), some (.int odd), some (.ref pls), v9, v10, v11]) ∧ ∃ TL, TabC TL (lamP K) lamQ ∧ Own H' (L0 ++ TL))
        ⟨⟨_, _, _, rfl⟩, TL, hT, U17⟩ (fun t σ H' _ ⟨_, TL, _, O'⟩ => SqL.of (O'.mem (List.mem_append_left _ hpls0))) ?_ ?_
      · rintro t x σ HB ht ⟨⟨v9, v10, v11, rfl⟩, TL, hT, V1⟩
        obtain ⟨a, z, rfl, ha0', hzl⟩ := hits t x ht
        obtain ⟨J, hJ⟩ : ∃ J, J = jGo wn z bi [] 0 0 := ⟨_, rfl⟩
        refine ⟨_, rfl, _, rfl, _, rfl, pb, a, wn, bi, z, L0 ++ TL, congrArg (fun z => [V.ref pb, V.int z, V.ref a]) hwn, by omega, hzl, List.mem_append_left _ hpb0, List.mem_append_left _ ha0', V1, fun due HC hdue V2 => ?_⟩
        rw [← hJ] at hdue
        -- handed
        refine ⟨_, rfl, pb, _, rfl, .inl (SqL.of (V2.mem (List.mem_append_left _ hpb0))), fun h1 hh1 => ?_⟩
        have V3 := V2.new (o := .lst (isV bi)) hh1
        refine ⟨_, rfl, a, _, rfl, .inl (SqL.of (V3.mem (show (a, HO.lst (isV z)) ∈ _ by simp [ha0']))), fun h2 hh2 => ?_⟩
        have V4 := V3.new (o := .lst (isV z)) hh2
        refine ⟨by show 2 ≤ sizeLine; decide, fun ph hph => ?_⟩
        have V5 := V4.new (o := .lst [.ref h1, .ref h2]) hph
        obtain ⟨L1, hL1⟩ : ∃ L1 : List Cell, L1 = (ph, HO.lst [.ref h1, .ref h2]) :: (h2, .lst (isV z)) :: (h1, .lst (isV bi)) :: L0 := ⟨_, rfl⟩
        have V6 : Own _ (L1 ++ TL) := V5.perm (by rw [hL1]; walk_at "perm")
        have hN1 : NT L1 := by
          rw [hL1]
          exact NT.cons rfl (NT.cons rfl (NT.cons rfl hN0))
        have hph1 : (ph, HO.lst [.ref h1, .ref h2]) ∈ L1 := by rw [hL1]; simp
        have hh21 : (h2, HO.lst (isV z)) ∈ L1 := by rw [hL1]; simp
        have hh11 : (h1, HO.lst (isV bi)) ∈ L1 := by rw [hL1]; simp
        have hpb1 : (pb, HO.lst (isV bi)) ∈ L1 := by rw [hL1]; simp [hpb0]
        have ha1' : (a, HO.lst (isV z)) ∈ L1 := by rw [hL1]; simp [ha0']
        clear V5 V4 V3 V2 V1
        generalize upd _ ph _ = HD at V6 ⊢
        refine ⟨fun σ H' => (∃ v10, σ = [some (.ref sc), some (.ref rw), some (.int (0 + (ti : Int))), some (.ref pb), some (.int (1 + vw)), some (.ref ps), some (.int va), some (.int odd), some (.ref pls), some (.ref a), v10, some (.ref ph)]) ∧ ∃ TL, TabC TL (lamP K) lamQ ∧ Own H' (L1 ++ TL), ?_, ?_⟩
        · cases J with
          | inl br =>
            obtain rfl : due = .int (br : Nat) := hdue
            refine ⟨_, rfl, _, _, _, _, false, rfl, ClsV.ty _, TyX.base (.int _), kit_ty (by decide +kernel), _, rfl, iteF ?_⟩
            have hat0 : ∀ {H' : Hp}, Own H' (L1 ++ TL) → H' ph = some (.lst [.ref h1, .ref h2]) := fun O' => O'.mem (List.mem_append_left _ hph1)
            refine ⟨_, rfl, ph, _, _, .ref h1, rfl, rfl, SqL.of (hat0 V6), rfl, _, rfl, _, rfl, ph, _, _, .ref h2, rfl, rfl, SqL.of (hat0 V6), rfl, ?_⟩
            refine ⟨h1, h2, _, bi, z, L1 ++ TL, rfl, by omega, hzl, List.mem_append_left _ hh11, List.mem_append_left _ hh21, V6, fun i hb => (hb.2.1 (hbok i hb.1)).elim, fun _ hw => absurd (show 1 ≤ 1 + vw ∧ 1 + vw ≤ 8 by omega) hw, fun _ _ => ⟨fun br2 e HF V8 => ?_, fun k2 e => ?_⟩⟩
            · have ew : (1 + vw).toNat = wn := by omega
              rw [ew, ← hJ] at e
              obtain rfl : br = br2 := Sum.inl.inj e
              refine ⟨_, rfl, _, _, .int (br : Nat), L1 ++ TL, rfl, .int _, .int _, trivial, V8, fun HG V9 => ⟨_, rfl, iteF ⟨⟨_, rfl⟩, TL, hT, V9⟩⟩⟩
            · have ew : (1 + vw).toNat = wn := by omega
              rw [ew, ← hJ] at e
              cases e
          | inr kk =>
            obtain rfl : due = .str (toString ((kk : Nat) : Int)) := hdue
            refine ⟨_, rfl, _, _, _, _, true, rfl, ClsV.ty _, TyX.base (.str _), kit_ty (by decide +kernel), _, rfl, iteT ?_⟩
            refine lam_go V6 hN1 hT fun HE TL2 hT2 V7 => ?_
            have hat0 : ∀ {H' : Hp} {LL : List Cell}, Own H' (LL ++ (L1 ++ TL2)) → H' ph = some (.lst [.ref h1, .ref h2]) := fun O' => O'.mem (List.mem_append_right _ (List.mem_append_left _ hph1))
            refine ⟨_, rfl, ph, _, _, .ref h1, rfl, rfl, SqL.of (hat0 (LL := []) V7), rfl, _, rfl, _, rfl, ph, _, _, .ref h2, rfl, rfl, SqL.of (hat0 (LL := []) V7), rfl, ?_⟩
            refine ⟨h1, h2, _, bi, z, L1 ++ TL2, rfl, by omega, hzl, List.mem_append_left _ hh11, List.mem_append_left _ hh21, V7, fun i hb => (hb.2.1 (hbok i hb.1)).elim, fun _ hw => absurd (show 1 ≤ 1 + vw ∧ 1 + vw ≤ 8 by omega) hw, fun _ _ => ⟨fun br2 e HF V8 => ?_, fun k2 e d HF V8 => ?_⟩⟩
            · have ew : (1 + vw).toNat = wn := by omega
              rw [ew, ← hJ] at e
              cases e
            · have ew : (1 + vw).toNat = wn := by omega
              rw [ew, ← hJ] at e
              obtain rfl : kk = k2 := Sum.inr.inj e
              refine ⟨8, _, _, _, rfl, rfl, rfl, V8, .inr ⟨d, "number", _, rfl, rfl, List.mem_cons_self, fun t1 HG V9 => ?_⟩⟩
              have hkl : kk ≤ z.length := jGo_le (Nat.zero_le _) hJ.symm
              have hnum : (Str.ofString (toString ((kk : Nat) : Int))).length ≤ 640 := by
                have e := int_text_length_le10 (a := ((kk : Nat) : Int)) (k := 10) (by decide) (by omega)
                rw [PySem.ofString_length]
                omega
              refine ⟨_, rfl, _, _, rfl, num_text (by omega), hnum, by show 2 ≤ sizeLine; decide, fun t2 ht2 => ?_⟩
              have V10 := V9.new (o := .tup [.str "leavings", .int (kk : Nat)]) ht2
              have hsh : SeqAt.shaped (.tuple [.str "leavings", .int (kk : Nat)]) = true := shapedWI (by decide +kernel)
              refine ⟨_, _, .tup (SqT.of V10.a1) (.cons (.str _) (.cons (.int _) .nil)), .tup (SqT.of V10.a0) (.cons (.str _) (.cons (.int _) .nil)), hsh, hsh, false, by rw [eqv_self _ hsh], iteF ⟨⟨_, rfl⟩, TL2, hT2, ?_⟩⟩
              exact V10.tail.tail.tail
        · rintro σ HE ⟨⟨v10, rfl⟩, TL, hT, V7⟩
          refine ⟨_, rfl, _, rfl, _, rfl, by show 2 ≤ sizeLine; decide, fun t1 ht1 => ?_⟩
          have V8 := V7.new (o := .lst [.ref pb, .ref a]) ht1
          have hsh : SeqAt.shaped (.list [.list (bi.map .int), .list (z.map .int)]) = true := by
            refine shaped_of ?_ ?_
            · show ((PyData.list (bi.map .int)).canLay0 && ((PyData.list (z.map .int)).canLay0 && true)) = true
              rw [(layIs bi).1, (layIs z).1]
              rfl
            · have e1 := (layIs bi).2
              have e2 := (layIs z).2
              show max (PyData.depth (.list (bi.map .int))) (max (PyData.depth (.list (z.map .int))) 0) + 1 ≤ 64
              omega
          refine ⟨_, _, .lst (SqL.of (V8.mem (show (ph, HO.lst [.ref h1, .ref h2]) ∈ _ by simp [hph1]))) (.cons (.lst (SqL.of (V8.mem (show (h1, HO.lst (isV bi)) ∈ _ by simp [hh11]))) (dpInts _)) (.cons (.lst (SqL.of (V8.mem (show (h2, HO.lst (isV z)) ∈ _ by simp [hh21]))) (dpInts _)) .nil)),
            .lst (SqL.of V8.a0) (.cons (.lst (SqL.of (V8.mem (show (pb, HO.lst (isV bi)) ∈ _ by simp [hpb1]))) (dpInts _)) (.cons (.lst (SqL.of (V8.mem (show (a, HO.lst (isV z)) ∈ _ by simp [ha1']))) (dpInts _)) .nil)), hsh, hsh, false, by rw [eqv_self _ hsh], iteF ⟨⟨_, _, _, rfl⟩, TL, hT, ?_⟩⟩
          rw [hL1] at V8
          exact V8.tail.tail.tail.tail
      · rintro σ HB ⟨⟨v9, v10, v11, rfl⟩, TL, hT, V1⟩
        refine ⟨⟨_, _, _, _, _, _, _, _, _, _, rfl⟩, c10, TL, hc10, hT, ?_⟩
        rw [eL] at V1
        exact Own.right V1
    · rintro σ H1 ⟨⟨v2, v3, v4, v5, v6, v7, v8, v9, v10, v11, rfl⟩, c1, TL, hc1, hT, O1⟩
      exact kq H1
end
-- EndX
def fa : List He.Fa := [.glo "is_number", .glo "need_blocks", .glo "need_ways", .glo "judged", .glo "_law_taken", .glo "_law_alike", .glo "_law_word", .glo "_law_blocks", .glo "_law_left", .glo "_law_drawn", .glo "law", .glo "WayError", .glo "BadRule", .glo "BadHands", .glo "BadHand", .glo "BadPlace", .glo "BadNumber", .glo "BadDeed", .glo "BadRoom", .glo "BadWays", .glo "BadLeavings", .glo "BadText", .int "CELLS" 64, .int "BLOCK" 4, .int "MOST_DEEDS" 200, .int "BLOCKS" 16, .int "MOST_WAYS" 8, .free "ValueError", .free "len", .free "isinstance", .free "range", .free "list", .free "tuple", .free "enumerate", .free "int", .free "bool", .free "str", .meth "BadRule" "__init__", .noat "BadRule" "number", .exc "BadHands", .exc "BadHand", .exc "BadPlace", .exc "BadNumber", .meth "BadDeed" "__init__", .noat "BadDeed" "number", .exc "BadRoom", .exc "BadWays", .meth "BadLeavings" "__init__", .noat "BadLeavings" "number", .meth "BadText" "__init__", .noat "BadText" "row"]
def d_BadRule___init__ : He.DefD := ⟨("BadRule", some "__init__"), "__init__", "BadRule.__init__", defArgs s_BadRule___init__, defBody s_BadRule___init__, defScope s_BadRule___init__, [], []⟩
def d_BadDeed___init__ : He.DefD := ⟨("BadDeed", some "__init__"), "__init__", "BadDeed.__init__", defArgs s_BadDeed___init__, defBody s_BadDeed___init__, defScope s_BadDeed___init__, [], []⟩
def d_BadLeavings___init__ : He.DefD := ⟨("BadLeavings", some "__init__"), "__init__", "BadLeavings.__init__", defArgs s_BadLeavings___init__, defBody s_BadLeavings___init__, defScope s_BadLeavings___init__, [], []⟩
def d_BadText___init__ : He.DefD := ⟨("BadText", some "__init__"), "__init__", "BadText.__init__", defArgs s_BadText___init__, defBody s_BadText___init__, defScope s_BadText___init__, [], []⟩
def d_is_number : He.DefD := ⟨("is_number", none), "is_number", "is_number", defArgs s_is_number, defBody s_is_number, defScope s_is_number, [], []⟩
def d_need_blocks : He.DefD := ⟨("need_blocks", none), "need_blocks", "need_blocks", defArgs s_need_blocks, defBody s_need_blocks, defScope s_need_blocks, [], []⟩
def d_need_ways : He.DefD := ⟨("need_ways", none), "need_ways", "need_ways", defArgs s_need_ways, defBody s_need_ways, defScope s_need_ways, [], []⟩
def d_judged : He.DefD := ⟨("judged", none), "judged", "judged", defArgs s_judged, defBody s_judged, defScope s_judged, [], []⟩
def d__law_taken : He.DefD := ⟨("_law_taken", none), "_law_taken", "_law_taken", defArgs s__law_taken, defBody s__law_taken, defScope s__law_taken, [], []⟩
def d__law_alike : He.DefD := ⟨("_law_alike", none), "_law_alike", "_law_alike", defArgs s__law_alike, defBody s__law_alike, defScope s__law_alike, [], []⟩
def d__law_word : He.DefD := ⟨("_law_word", none), "_law_word", "_law_word", defArgs s__law_word, defBody s__law_word, defScope s__law_word, [], []⟩
def d__law_blocks : He.DefD := ⟨("_law_blocks", none), "_law_blocks", "_law_blocks", defArgs s__law_blocks, defBody s__law_blocks, defScope s__law_blocks, [], []⟩
def d__law_left : He.DefD := ⟨("_law_left", none), "_law_left", "_law_left", defArgs s__law_left, defBody s__law_left, defScope s__law_left, [], []⟩
def d__law_drawn : He.DefD := ⟨("_law_drawn", none), "_law_drawn", "_law_drawn", defArgs s__law_drawn, defBody s__law_drawn, defScope s__law_drawn, [], []⟩
def d_law : He.DefD := ⟨("law", none), "law", "law", defArgs s_law, defBody s_law, defScope s_law, [], []⟩
def fn : List He.DefD := [d_BadRule___init__, d_BadDeed___init__, d_BadLeavings___init__, d_BadText___init__, d_is_number, d_need_blocks, d_need_ways, d_judged, d__law_taken, d__law_alike, d__law_word, d__law_blocks, d__law_left, d__law_drawn, d_law]
def ex (K : PySem.W.Frag) : Bool := (excTB K bads && (oexB K (He.ga K "BadRule") && (oexB K (He.ga K "BadDeed") && (oexB K (He.ga K "BadLeavings") && (oexB K (He.ga K "BadText") && true)))))
def tf : List He.Defn := [("law", none)]
abbrev R : PySem.W.OpenRow := PySem.W.OpenLaw.row PySem.Challenge.rw_writeways_k14_leavings_judged
abbrev hk : PySem.W.Hook := hookY 5 fa fn tf ex
def ob (s : PySem.W.SharedT) : He.AlX := obsY 5 fa fn tf ex (HandSHeadRun.getT s)
theorem ob_eq (s : PySem.W.SharedT) : ob s = hk.obs s.abs := obsY_eq (HandSHeadRun.getT_eq s)
def loose0 : List PySem.Str := ["WayError", "BadRule", "BadHands", "BadHand", "BadPlace", "BadNumber", "BadDeed", "BadRoom", "BadWays", "BadLeavings", "BadText", "CELLS", "BLOCK", "MOST_DEEDS", "is_number", "BLOCKS", "need_blocks", "MOST_WAYS", "need_ways", "judged", "_law_taken", "_law_alike", "_law_word", "_law_blocks", "_law_left", "_law_drawn"]
def loose : List PySem.Str := loose0
set_option maxHeartbeats 0 in
theorem run (w : World) : HandSHeadRun.RunEq R (PySem.W.view R.prog [31]) hk ob 6000 loose w := by
  intro os
  kernel_rfl
theorem txt_of {w : World} {K : PySem.W.Frag} {h hh : Heap} {mg : Str → Option Value} (X : K.In h) (G : h.Ns mainGlobals mg) (c0 : He.SaysX fa fn [] tf ex w hh K) : Nonempty (Txt K mg) := by
  have c := c0.t.d
  have e0 : ex K = true := c0.more
  obtain ⟨x0, e1⟩ := He.ba (show (excTB K bads && _) = true from e0)
  obtain ⟨x1, e2⟩ := He.ba (show (oexB K (He.ga K "BadRule") && _) = true from e1)
  obtain ⟨x2, e3⟩ := He.ba (show (oexB K (He.ga K "BadDeed") && _) = true from e2)
  obtain ⟨x3, e4⟩ := He.ba (show (oexB K (He.ga K "BadLeavings") && _) = true from e3)
  obtain ⟨x4, e5⟩ := He.ba (show (oexB K (He.ga K "BadText") && _) = true from e4)
  obtain ⟨fd0, F0⟩ := c.def_ 0 (d := d_BadRule___init__) rfl
  obtain ⟨fd1, F1⟩ := c.def_ 1 (d := d_BadDeed___init__) rfl
  obtain ⟨fd2, F2⟩ := c.def_ 2 (d := d_BadLeavings___init__) rfl
  obtain ⟨fd3, F3⟩ := c.def_ 3 (d := d_BadText___init__) rfl
  obtain ⟨fd4, F4⟩ := c.def_ 4 (d := d_is_number) rfl
  obtain ⟨fd5, F5⟩ := c.def_ 5 (d := d_need_blocks) rfl
  obtain ⟨fd6, F6⟩ := c.def_ 6 (d := d_need_ways) rfl
  obtain ⟨fd7, F7⟩ := c.def_ 7 (d := d_judged) rfl
  obtain ⟨fd8, F8⟩ := c.def_ 8 (d := d__law_taken) rfl
  obtain ⟨fd9, F9⟩ := c.def_ 9 (d := d__law_alike) rfl
  obtain ⟨fd10, F10⟩ := c.def_ 10 (d := d__law_word) rfl
  obtain ⟨fd11, F11⟩ := c.def_ 11 (d := d__law_blocks) rfl
  obtain ⟨fd12, F12⟩ := c.def_ 12 (d := d__law_left) rfl
  obtain ⟨fd13, F13⟩ := c.def_ 13 (d := d__law_drawn) rfl
  obtain ⟨fd14, F14⟩ := c.def_ 14 (d := d_law) rfl
  exact ⟨{
    g_is_number := He.glo_ok X G (c.fact 0 (f := .glo "is_number") rfl)
    g_need_blocks := He.glo_ok X G (c.fact 1 (f := .glo "need_blocks") rfl)
    g_need_ways := He.glo_ok X G (c.fact 2 (f := .glo "need_ways") rfl)
    g_judged := He.glo_ok X G (c.fact 3 (f := .glo "judged") rfl)
    g__law_taken := He.glo_ok X G (c.fact 4 (f := .glo "_law_taken") rfl)
    g__law_alike := He.glo_ok X G (c.fact 5 (f := .glo "_law_alike") rfl)
    g__law_word := He.glo_ok X G (c.fact 6 (f := .glo "_law_word") rfl)
    g__law_blocks := He.glo_ok X G (c.fact 7 (f := .glo "_law_blocks") rfl)
    g__law_left := He.glo_ok X G (c.fact 8 (f := .glo "_law_left") rfl)
    g__law_drawn := He.glo_ok X G (c.fact 9 (f := .glo "_law_drawn") rfl)
    g_law := He.glo_ok X G (c.fact 10 (f := .glo "law") rfl)
    g_WayError := He.glo_ok X G (c.fact 11 (f := .glo "WayError") rfl)
    g_BadRule := He.glo_ok X G (c.fact 12 (f := .glo "BadRule") rfl)
    g_BadHands := He.glo_ok X G (c.fact 13 (f := .glo "BadHands") rfl)
    g_BadHand := He.glo_ok X G (c.fact 14 (f := .glo "BadHand") rfl)
    g_BadPlace := He.glo_ok X G (c.fact 15 (f := .glo "BadPlace") rfl)
    g_BadNumber := He.glo_ok X G (c.fact 16 (f := .glo "BadNumber") rfl)
    g_BadDeed := He.glo_ok X G (c.fact 17 (f := .glo "BadDeed") rfl)
    g_BadRoom := He.glo_ok X G (c.fact 18 (f := .glo "BadRoom") rfl)
    g_BadWays := He.glo_ok X G (c.fact 19 (f := .glo "BadWays") rfl)
    g_BadLeavings := He.glo_ok X G (c.fact 20 (f := .glo "BadLeavings") rfl)
    g_BadText := He.glo_ok X G (c.fact 21 (f := .glo "BadText") rfl)
    g_CELLS := He.int_ok X G (c.fact 22 (f := .int "CELLS" 64) rfl)
    g_BLOCK := He.int_ok X G (c.fact 23 (f := .int "BLOCK" 4) rfl)
    g_MOST_DEEDS := He.int_ok X G (c.fact 24 (f := .int "MOST_DEEDS" 200) rfl)
    g_BLOCKS := He.int_ok X G (c.fact 25 (f := .int "BLOCKS" 16) rfl)
    g_MOST_WAYS := He.int_ok X G (c.fact 26 (f := .int "MOST_WAYS" 8) rfl)
    n_ValueError := He.free_ok X G (c.fact 27 (f := .free "ValueError") rfl)
    n_len := He.free_ok X G (c.fact 28 (f := .free "len") rfl)
    n_isinstance := He.free_ok X G (c.fact 29 (f := .free "isinstance") rfl)
    n_range := He.free_ok X G (c.fact 30 (f := .free "range") rfl)
    n_list := He.free_ok X G (c.fact 31 (f := .free "list") rfl)
    n_tuple := He.free_ok X G (c.fact 32 (f := .free "tuple") rfl)
    n_enumerate := He.free_ok X G (c.fact 33 (f := .free "enumerate") rfl)
    n_int := He.free_ok X G (c.fact 34 (f := .free "int") rfl)
    n_bool := He.free_ok X G (c.fact 35 (f := .free "bool") rfl)
    n_str := He.free_ok X G (c.fact 36 (f := .free "str") rfl)
    m_BadRule___init__ := He.meth_ok (c.fact 37 (f := .meth "BadRule" "__init__") rfl)
    na_BadRule_number := He.noat_ok (c.fact 38 (f := .noat "BadRule" "number") rfl)
    xe_BadHands := He.exc_ok (c.fact 39 (f := .exc "BadHands") rfl)
    xe_BadHand := He.exc_ok (c.fact 40 (f := .exc "BadHand") rfl)
    xe_BadPlace := He.exc_ok (c.fact 41 (f := .exc "BadPlace") rfl)
    xe_BadNumber := He.exc_ok (c.fact 42 (f := .exc "BadNumber") rfl)
    m_BadDeed___init__ := He.meth_ok (c.fact 43 (f := .meth "BadDeed" "__init__") rfl)
    na_BadDeed_number := He.noat_ok (c.fact 44 (f := .noat "BadDeed" "number") rfl)
    xe_BadRoom := He.exc_ok (c.fact 45 (f := .exc "BadRoom") rfl)
    xe_BadWays := He.exc_ok (c.fact 46 (f := .exc "BadWays") rfl)
    m_BadLeavings___init__ := He.meth_ok (c.fact 47 (f := .meth "BadLeavings" "__init__") rfl)
    na_BadLeavings_number := He.noat_ok (c.fact 48 (f := .noat "BadLeavings" "number") rfl)
    m_BadText___init__ := He.meth_ok (c.fact 49 (f := .meth "BadText" "__init__") rfl)
    na_BadText_row := He.noat_ok (c.fact 50 (f := .noat "BadText" "row") rfl)
    xt := excTB_ok x0
    ox_BadRule := x1
    ox_BadDeed := x2
    ox_BadLeavings := x3
    ox_BadText := x4
    fd_BadRule___init__ := fd0
    F_BadRule___init__ := F0
    b_BadRule___init__ := F0.bindsN fun _ _ _ _ _ _ us hl => match us, hl with | [_, _], _ => rfl
    k_BadRule___init__ := F0.kp
    fd_BadDeed___init__ := fd1
    F_BadDeed___init__ := F1
    b_BadDeed___init__ := F1.bindsN fun _ _ _ _ _ _ us hl => match us, hl with | [_, _], _ => rfl
    k_BadDeed___init__ := F1.kp
    fd_BadLeavings___init__ := fd2
    F_BadLeavings___init__ := F2
    b_BadLeavings___init__ := F2.bindsN fun _ _ _ _ _ _ us hl => match us, hl with | [_, _], _ => rfl
    k_BadLeavings___init__ := F2.kp
    fd_BadText___init__ := fd3
    F_BadText___init__ := F3
    b_BadText___init__ := F3.bindsN fun _ _ _ _ _ _ us hl => match us, hl with | [_, _], _ => rfl
    k_BadText___init__ := F3.kp
    fd_is_number := fd4
    F_is_number := F4
    b_is_number := F4.bindsN fun _ _ _ _ _ _ us hl => match us, hl with | [_, _, _], _ => rfl
    k_is_number := F4.kp
    fd_need_blocks := fd5
    F_need_blocks := F5
    b_need_blocks := F5.bindsN fun _ _ _ _ _ _ us hl => match us, hl with | [_], _ => rfl
    k_need_blocks := F5.kp
    fd_need_ways := fd6
    F_need_ways := F6
    b_need_ways := F6.bindsN fun _ _ _ _ _ _ us hl => match us, hl with | [_], _ => rfl
    k_need_ways := F6.kp
    fd_judged := fd7
    F_judged := F7
    b_judged := F7.bindsN fun _ _ _ _ _ _ us hl => match us, hl with | [_, _, _], _ => rfl
    k_judged := F7.kp
    fd__law_taken := fd8
    F__law_taken := F8
    b__law_taken := F8.bindsN fun _ _ _ _ _ _ us hl => match us, hl with | [_, _], _ => rfl
    k__law_taken := F8.kp
    fd__law_alike := fd9
    F__law_alike := F9
    b__law_alike := F9.bindsN fun _ _ _ _ _ _ us hl => match us, hl with | [_, _], _ => rfl
    k__law_alike := F9.kp
    fd__law_word := fd10
    F__law_word := F10
    b__law_word := F10.bindsN fun _ _ _ _ _ _ us hl => match us, hl with | [_], _ => rfl
    k__law_word := F10.kp
    fd__law_blocks := fd11
    F__law_blocks := F11
    b__law_blocks := F11.bindsN fun _ _ _ _ _ _ us hl => match us, hl with | [_, _], _ => rfl
    k__law_blocks := F11.kp
    fd__law_left := fd12
    F__law_left := F12
    b__law_left := F12.bindsN fun _ _ _ _ _ _ us hl => match us, hl with | [_, _, _], _ => rfl
    k__law_left := F12.kp
    fd__law_drawn := fd13
    F__law_drawn := F13
    b__law_drawn := F13.bindsN fun _ _ _ _ _ _ us hl => match us, hl with | [_, _, _], _ => rfl
    k__law_drawn := F13.kp
    fd_law := fd14
    F_law := F14
    b_law := F14.bindsN fun _ _ _ _ _ _ us hl => match us, hl with | [_], _ => rfl
    k_law := F14.kp
  }⟩
theorem law_enterX {K : PySem.W.Frag} {H : Hp} {a Pt : Addr} {q : Str} {ns : List Int} (h : SqL K H a (ns.map V.int)) (hp : H Pt = some (.tbl #[])) : ∃ S TL : List Cell, Scr K a ns S ∧ NT S ∧ TabC TL Pt q ∧ Own H (S ++ TL) := by
  have tab : TabC [(Pt, HO.tbl #[])] Pt q := ⟨#[], List.mem_cons_self, trivial, fun pos cv hc => by
    have z : codeAmong pos [] = some cv := hc
    simp [codeAmong] at z⟩
  have one : ∀ {o : HO}, H a = some o → isTb o = false → Own H ([(a, o)] ++ [(Pt, .tbl #[])]) := fun {o} e f => by
    refine ⟨?_, fun c hc => ?_⟩
    · show [a, Pt].Nodup
      refine List.nodup_cons.mpr ⟨fun z => ?_, List.nodup_cons.mpr ⟨List.not_mem_nil, List.nodup_nil⟩⟩
      rw [List.mem_singleton.mp z, hp] at e
      rw [← Option.some.inj e] at f
      cases f
    · rcases List.mem_cons.mp hc with z | z
      · rw [z]
        exact e
      · rw [List.mem_singleton.mp z]
        exact hp
  rcases h with (h | ⟨o, h⟩) | h
  · exact ⟨[(a, .lst (ns.map V.int))], _, fun H' h' => .inl (.inl (h' _ List.mem_cons_self)), NT.cons rfl NT.nil, tab, one h rfl⟩
  · exact ⟨[(a, .frz o (.lst (ns.map V.int)))], _, fun H' h' => .inl (.inr ⟨o, h' _ List.mem_cons_self⟩), NT.cons rfl NT.nil, tab, one h rfl⟩
  · exact ⟨[], _, fun H' _ => .inr h, NT.nil, tab, List.nodup_cons.mpr ⟨List.not_mem_nil, List.nodup_nil⟩, fun c hc => by rw [List.mem_singleton.mp hc]; exact hp⟩
theorem lawFactsX {l : PySem.W.OpenLaw} {w : World} {K : PySem.W.Frag} {h : Heap} {mg : Str → Option Value} {f : Addr} (X : K.In h) (G : h.Ns mainGlobals mg) (hf : mg ("law" : Str) = some (.ref f)) (c : He.SaysX fa fn [] tf ex w h K) : LamX.LawAtS l w K CX0 lawLv 63 "_law_script" mg f h := by
  obtain ⟨T⟩ := txt_of X G c
  have e : some (Value.ref f) = some (.ref (He.fAd K ("law", none))) := hf.symm.trans T.g_law
  cases e
  have b := FunD.bindsA (ps := ["_law_script"]) T.F_law fun _ _ _ _ _ _ us hl => match us, hl with | [_], _ => rfl
  have m1 : (("law", none) : He.Defn) ∈ tf := by decide
  refine ⟨T.fd_law, [He.cT K ("law", none)], spLaw K, fun p hp => ?_, fun p hp => ?_, fun p hp => ?_, fun s v => b s [v] rfl, fun H a ns _ _ hH hS => ?_, fun base _ _ hT => ok_law T (hT _ List.mem_cons_self)⟩
  · rw [List.mem_singleton.mp hp]
    exact c.empty _ m1
  · rw [List.mem_singleton.mp hp]
    exact c.out _ m1
  · rw [List.mem_singleton.mp hp]
    exact PySem.W.codeHd_of_K X (c.hd _ m1)
  · obtain ⟨S, TL, h1, h2, h3, h4⟩ := law_enterX hS (hH _ List.mem_cons_self)
    exact ⟨a, ns, S, TL, rfl, h1, h2, h3, h4, fun _ => rfl⟩
end Ww
open PySem PySem.W PySem.Calls PyProof.Rows
theorem PySem.Challenge.cw_writeways_k14_leavings_judged_holds : PySem.Challenge.rw_writeways_k14_leavings_judged.Holds := by
  w_on; o_law
  refine HandSHeadRun.head_any (r := OpenLaw.row PySem.Challenge.rw_writeways_k14_leavings_judged) (q := view (OpenLaw.row PySem.Challenge.rw_writeways_k14_leavings_judged).prog [31]) (H := Ww.hk) (ob := Ww.ob) (M := 6000) (loose := Ww.loose) (d := HandSHeadRun.topDef (OpenLaw.row PySem.Challenge.rw_writeways_k14_leavings_judged).prog 31) (kwd := []) Ww.ob_eq
    (by kernel_rfl) (fun s => by kernel_rfl) Ww.run (by kernel_rfl) (by kernel_rfl) (by kernel_rfl) (by rfl) (by first | assumption | decide +kernel) (by decide +kernel) ⟨rfl, rfl, rfl, rfl, rfl, by decide +kernel⟩ ?hw ?hc
  case hw => w_witness2
  case hc =>
    refine LamX.walk_ofTsE (l := PySem.Challenge.rw_writeways_k14_leavings_judged) (n := 63) (k := Ww.lawLv) (x := "_law_script") (CX := fun _ => L2.CX0) rfl (by decide) (by kernel_rfl) ⟨rfl, by decide, by decide⟩ ?F (fun _ _ _ _ _ z => z)
    intro w mg f h Y G hmg0
    obtain ⟨K, KX, c⟩ := Y
    have hmg : mg ("law" : PySem.Str) = some (.ref f) := by
      have e : (HandSHeadRun.topDef (OpenLaw.row PySem.Challenge.rw_writeways_k14_leavings_judged).prog 31).name = ("law" : PySem.Str) := by kernel_rfl
      rw [← e]
      exact hmg0
    exact ⟨K, KX, Ww.lawFactsX KX G hmg c⟩
