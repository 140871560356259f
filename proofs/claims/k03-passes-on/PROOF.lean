import PyProof.Rows.All
import Wide.All
import OpenK.AllK
import Wide.FinOn
import KE.KStateDown
import KE.DataFind
import PyProof.InstEq
import HandS.ForMost
import HandS.ForExc
import HandS.Defaults
import HandS.IsInst
import HandS.TupAny
import HandS.Head0
import HandS.Head1
import HandS.Head2
import HandS.HeadEnd
import HandS.HeadHook1
import HandS.HeadHook2
import HandS.HeadHook3
import HandS.HeadHook4
import KE.KExcIs
import HandS.ExcInit
import HandS.ExcField
import HandS.FStr
import HandS.Lambda
import HandS.EndTab
import HandS.HeadWalk
import HandS.Conv
import HandS.TupSets
import HandS.Style
import HandS.Zip
import HandS.Evl
import HandS.SetFor
import PyProof.EqAt
import HandS.TupMul
import PySem.Challenge.RW_writeways_k03_what_a_room_passes_on
set_option Elab.async false
set_option linter.all false
set_option maxRecDepth 100000
set_option maxHeartbeats 4000000
namespace Ww
open PySem PySem.Spec PyProof.Rows L2
-- WwBase
/-! ### cells: a part of the abstract heap that is known -/
abbrev Cell := Addr × HO
def Own (H : Hp) (L : List Cell) : Prop := (L.map (·.1)).Nodup ∧ ∀ p ∈ L, H p.1 = some p.2
section
variable {H : Hp} {L L' R : List Cell} {a p : Addr} {o o' : HO} {c0 c1 c2 c3 c4 c5 c6 c7 : Cell}
theorem Own.mem (h : Own H L) (m : (a, o) ∈ L) : H a = some o := h.2 _ m
theorem Own.perm (h : Own H L) (e : L.Perm L') : Own H L' := ⟨((e.map _).nodup_iff).mp h.1, fun q m => h.2 q (e.mem_iff.mpr m)⟩
theorem Own.sub (h : Own H L) (e : L'.Sublist L) : Own H L' := ⟨List.Nodup.sublist (e.map _) h.1, fun q m => h.2 q (e.subset m)⟩
theorem Own.tail (h : Own H (c0 :: L)) : Own H L := h.sub (List.sublist_cons_self _ _)
theorem Own.right (h : Own H (L' ++ L)) : Own H L := h.sub (List.sublist_append_right _ _)
theorem Own.left (h : Own H (L ++ L')) : Own H L := h.sub (List.sublist_append_left _ _)
theorem Own.a0 (h : Own H ((a, o) :: L)) : H a = some o := h.2 (a, o) (by simp)
theorem Own.a1 (h : Own H (c0 :: (a, o) :: L)) : H a = some o := h.2 (a, o) (by simp)
theorem Own.a2 (h : Own H (c0 :: c1 :: (a, o) :: L)) : H a = some o := h.2 (a, o) (by simp)
theorem Own.a3 (h : Own H (c0 :: c1 :: c2 :: (a, o) :: L)) : H a = some o := h.2 (a, o) (by simp)
theorem Own.a4 (h : Own H (c0 :: c1 :: c2 :: c3 :: (a, o) :: L)) : H a = some o := h.2 (a, o) (by simp)
theorem Own.a5 (h : Own H (c0 :: c1 :: c2 :: c3 :: c4 :: (a, o) :: L)) : H a = some o := h.2 (a, o) (by simp)
theorem Own.a6 (h : Own H (c0 :: c1 :: c2 :: c3 :: c4 :: c5 :: (a, o) :: L)) : H a = some o := h.2 (a, o) (by simp)
theorem Own.a7 (h : Own H (c0 :: c1 :: c2 :: c3 :: c4 :: c5 :: c6 :: (a, o) :: L)) : H a = some o := h.2 (a, o) (by simp)
theorem Own.fresh (h : Own H L) (hp : H p = none) : p ∉ L.map (·.1) := fun m => by
  obtain ⟨q, hq, e⟩ := List.mem_map.mp m
  have := h.2 q hq
  rw [e, hp] at this
  cases this
theorem Own.keep (h : Own H L) (hp : p ∉ L.map (·.1)) : Own (upd H p o) L := ⟨h.1, fun q m => by
  rw [upd_ne (fun e => hp (List.mem_map.mpr ⟨q, m, e⟩))]
  exact h.2 q m⟩
theorem Own.new (h : Own H L) (hp : H p = none) : Own (upd H p o) ((p, o) :: L) := by
  refine ⟨List.nodup_cons.mpr ⟨h.fresh hp, h.1⟩, fun q m => ?_⟩
  rcases List.mem_cons.mp m with e | m
  · rw [e]
    exact upd_same
  · exact (h.keep (h.fresh hp)).2 q m
theorem Own.keepNew (h : Own H L) (hp : H p = none) : Own (upd H p o) L := h.keep (h.fresh hp)
theorem Own.set (h : Own H ((a, o) :: L)) : Own (upd H a o') ((a, o') :: L) := by
  have hn := List.nodup_cons.mp h.1
  refine ⟨h.1, fun q m => ?_⟩
  rcases List.mem_cons.mp m with e | m
  · rw [e]
    exact upd_same
  · exact (h.tail.keep hn.1).2 q m
theorem Own.nil : Own H [] := ⟨List.nodup_nil, fun _ m => by cases m⟩
theorem Own.setAt (h : Own H L) (e : L.Perm ((a, o) :: R)) : Own (upd H a o') ((a, o') :: R) := (h.perm e).set
theorem Own.seqL {K : PySem.W.Frag} {xs : List V} (h : Own H ((a, .lst xs) :: L)) : SqL K H a xs := SqL.of h.a0
end
/-- one in a count -/
noncomputable def one1 (c d : Cell) : Nat := by classical exact if d = c then 1 else 0
noncomputable def cnt (c : Cell) : List Cell → Nat
  | [] => 0
  | d :: r => one1 c d + cnt c r
theorem cnt_nil (c : Cell) : cnt c [] = 0 := rfl
theorem cnt_cons (c d : Cell) (r : List Cell) : cnt c (d :: r) = one1 c d + cnt c r := rfl
theorem cnt_app (c : Cell) : ∀ l r : List Cell, cnt c (l ++ r) = cnt c l + cnt c r
  | [], r => by rw [List.nil_append, cnt_nil, Nat.zero_add]
  | d :: l, r => by rw [List.cons_append, cnt_cons, cnt_cons, cnt_app c l r, Nat.add_assoc]
theorem cnt_mem {c : Cell} : ∀ {l : List Cell}, 0 < cnt c l → c ∈ l
  | [], h => by rw [cnt_nil] at h; omega
  | d :: r, h => by
    classical
    by_cases e : d = c
    · rw [e]; exact List.mem_cons_self
    · rw [cnt_cons] at h
      have z : one1 c d = 0 := by unfold one1; rw [if_neg e]
      exact List.mem_cons_of_mem _ (cnt_mem (by omega))
theorem cnt_perm : ∀ {l r : List Cell}, (∀ c, cnt c l = cnt c r) → l.Perm r
  | [], r, h => by
    cases r with
    | nil => exact List.Perm.nil
    | cons d r =>
      have := h d
      rw [cnt_nil, cnt_cons] at this
      have z : one1 d d = 1 := by unfold one1; rw [if_pos rfl]
      omega
  | d :: l, r, h => by
    have hd := h d
    rw [cnt_cons] at hd
    have z : one1 d d = 1 := by unfold one1; rw [if_pos rfl]
    obtain ⟨r1, r2, e⟩ := List.append_of_mem (cnt_mem (c := d) (l := r) (by omega))
    subst e
    have e2 : l.Perm (r1 ++ r2) := cnt_perm fun c => by
      have := h c
      rw [cnt_cons, cnt_app, cnt_cons] at this
      rw [cnt_app]
      omega
    exact (e2.cons d).trans List.perm_middle.symm
local macro_rules | `(tactic| walk_at "perm") => `(tactic| (refine cnt_perm fun c => ?_; simp only [cnt_app, cnt_cons, cnt_nil, List.append_assoc, List.cons_append, List.nil_append] <;> omega))
example (A B C : List Cell) (x y : Cell) : (A ++ x :: B ++ (y :: C)).Perm (y :: (C ++ A) ++ ([x] ++ B)) := by walk_at "perm"

/-! ### globals -/
section
variable {X : Cx}
theorem pe_globI {x : Str} {i : Int} {pos : Pos} (hg : Gl X x) (hm : ∃ t, X.mg x = some (.int i t)) (hd : (x == ("__debug__" : Str)) = false := by decide) : PE X (.Name x pos) (tC (.int i)) := by
  obtain ⟨t, hm⟩ := hm
  exact pe_glob hg hm ⟨t, rfl⟩ hd
theorem pe_globR {x : Str} {a : Addr} {pos : Pos} (hg : Gl X x) (hm : X.mg x = some (.ref a)) (hd : (x == ("__debug__" : Str)) = false := by decide) : PE X (.Name x pos) (tC (.ref a)) := pe_glob hg hm (show RelV (.ref a) (.ref a) from rfl) hd
theorem pe_globS {x z : Str} {pos : Pos} (hg : Gl X x) (hm : ∃ t, X.mg x = some (.str z t)) (hd : (x == ("__debug__" : Str)) = false := by decide) : PE X (.Name x pos) (tC (.str z)) := by
  obtain ⟨t, hm⟩ := hm
  exact pe_glob hg hm ⟨t, rfl⟩ hd
end

/-! ### two instances of a class without its own __eq__ -/
def CmpC (K : PySem.W.Frag) (C : Addr) : Prop :=
  ∃ (nm q : Str) (N : Addr) (bs : List Value) (hdct : Bool) (sn : List Str) (sub : List Value) (ab : Bool) (col : Option Bool) (dd : Option Addr) (k0 k1 k2 k3 k5 : Option Value) (newId : String),
    K.lookup C = some (excClassObj nm q C N bs [.type "object"] hdct sn sub ab col dd k0 k1 k2 k3 k5 newId) ∧ PySem.W.nsOkIn K N = true ∧ PySem.W.nsIn K N "__eq__" = some none ∧ PySem.W.nsIn K N "__ne__" = some none
def cmpB (K : PySem.W.Frag) (C : Addr) : Bool := match K.lookup C with
  | some ⟨.type t, _, .cls cd, sl⟩ => (match cd.mro, sl.toList with
    | [.ref C', .type o], [_, _, _, _, some (.builtin _), _] => decide (t = "type") && (decide (C' = C) && (decide (o = "object") && (!cd.hasDel && (PySem.W.nsOkIn K cd.ns && (He.eqO (PySem.W.nsIn K cd.ns "__eq__") (some none) && He.eqO (PySem.W.nsIn K cd.ns "__ne__") (some none))))))
    | _, _ => false)
  | _ => false
theorem cmpB_ok {K : PySem.W.Frag} {C : Addr} (q : cmpB K C = true) : CmpC K C := by
  unfold cmpB at q
  split at q
  · rename_i t dd cd sl ho
    split at q
    · rename_i C' o k0 k1 k2 k3 n k5 hm hs
      obtain ⟨q1, q⟩ := He.ba q
      obtain ⟨q2, q⟩ := He.ba q
      obtain ⟨q3, q⟩ := He.ba q
      obtain ⟨q4, q⟩ := He.ba q
      obtain ⟨q5, q⟩ := He.ba q
      obtain ⟨q6, q7⟩ := He.ba q
      have e1 := of_decide_eq_true q1
      have e2 := of_decide_eq_true q2
      have e3 := of_decide_eq_true q3
      obtain ⟨nm, bs, mro, ns, qn, hd, sn, sub, ab, col, del⟩ := cd
      dsimp only at hm q4 q5 q6 q7
      have e4 : del = false := by
        cases del with
        | false => rfl
        | true => cases q4
      subst hm e1 e2 e3 e4
      have hsl : sl = #[k0, k1, k2, k3, some (.builtin n), k5] := by
        obtain ⟨l⟩ := sl
        simp only at hs
        rw [hs]
      subst hsl
      exact ⟨nm, qn, ns, bs, hd, sn, sub, ab, col, dd, k0, k1, k2, k3, k5, n, ho, q5, He.eqO_ok q6, He.eqO_ok q7⟩
    · cases q
  · cases q
theorem CmpC.inst {K : PySem.W.Frag} {C : Addr} {h : Heap} (c : CmpC K C) (X : K.In h) {x dx : Addr} (hx : h.get? x = some (PySem.W.instObj C dx)) : h.CmpInst x C [.type "object"] := by
  obtain ⟨nm, q, N, bs, hdct, sn, sub, ab, col, dd, k0, k1, k2, k3, k5, newId, hC, ho, h1, h2⟩ := c
  exact ⟨_, nm, q, N, bs, hdct, sn, sub, ab, col, dd, k0, k1, k2, k3, k5, newId, _, hx, rfl, X _ _ hC, .of_isNs (PySem.W.isNs_of_in X ho), PySem.W.nsMap_none_of_in X ho h1, PySem.W.nsMap_none_of_in X ho h2⟩
section
variable {X : Cx}
/-- xs.remove(o), xs a list of instances of the class at C -/
def rRemO (C : Addr) : V → List V → Hp → VK → Prop := fun x xs H Q => ∃ (l : Addr) (as : List Addr) (a : Addr) (j : Nat), x = .ref l ∧ xs = [.ref a] ∧ H l = some (.lst (as.map V.ref)) ∧ (∀ b ∈ as, ∃ dx fs, H b = some (.ins C dx fs)) ∧
  as[j]? = some a ∧ (∀ m : Nat, m < j → as[m]? ≠ some a) ∧ Q .non (upd H l (.lst ((as.eraseIdx j).map V.ref)))
theorem refs_of_vals : ∀ {as : List Addr} {us : List Value}, Vals (as.map V.ref) us → us = as.map Value.ref
  | [], _, h => by cases h; rfl
  | a :: as, _, h => by
    cases h with
    | cons r t =>
      obtain rfl := r
      rw [refs_of_vals t]
      rfl
theorem erase_map {α β : Type} (f : α → β) : ∀ (as : List α) (j : Nat), (as.map f).eraseIdx j = (as.eraseIdx j).map f
  | [], _ => rfl
  | _ :: _, 0 => rfl
  | a :: as, j + 1 => by
    show f a :: (as.map f).eraseIdx j = f a :: (as.eraseIdx j).map f
    rw [erase_map f as j]
theorem erase_mapR (as : List Addr) (j : Nat) : (as.map V.ref).eraseIdx j = (as.eraseIdx j).map V.ref := erase_map _ as j
theorem mt_removeO {C : Addr} (c : CmpC X.K C) (hu : X.A.units + 1 < cLine) : MtM X "list.remove" (rRemO C) := by
  intro pins s σ H x xs v us Q I rx rxs h
  obtain ⟨l, as, a, j, rfl, rfl, hH, hI, hj, hno, q⟩ := h
  cases rx
  obtain ⟨u, rfl, ru⟩ := rxs.one
  obtain rfl : u = Value.ref a := ru
  obtain ⟨z, its, n, r, hl, e⟩ := I.lstM hH
  have hi := refs_of_vals r
  subst hi
  rw [List.length_map] at z hl
  have hjn : j < as.length := (List.getElem?_eq_some_iff.mp hj).1
  have inst : ∀ b ∈ as, ∃ dx, s.heap.get? b = some (PySem.W.instObj C dx) := fun b hb => by
    obtain ⟨dx, fs, hb⟩ := hI b hb
    obtain ⟨_, _, _, e, _⟩ := I.hok b _ hb
    exact ⟨dx, e⟩
  have ha : a ∈ as := List.mem_of_getElem? hj
  obtain ⟨dxa, hoa⟩ := inst a ha
  have KX : X.K.In s.heap := I.kIn
  have hsz : (as.map Value.ref).toArray.size = as.length := by simp
  refine call_meets PySem.F.slot_list_remove ⟨_, e, rfl⟩ PySem.F.entry_list_remove (PySem.F.args_list_remove_2 _ _)
    (SeqAt.list_removeAt l (as.map Value.ref).toArray n none #[] (.ref a) (fun y => decide (y = .ref a)) j (by omega) ?_ ?_ (by omega)) ⟨e, fun y hy => ?_, ?_⟩
  · obtain ⟨h1, h2⟩ := List.getElem?_eq_some_iff.mp hj
    simp [h2]
  · intro m hm hmj
    have hmn : m < as.length := by omega
    have hne := hno m hmj
    rw [List.getElem?_eq_getElem hmn] at hne
    simp only [List.getElem_toArray, List.getElem_map, decide_eq_false_iff_not, Value.ref.injEq]
    exact fun q => hne (by rw [q])
  · have hy2 : y ∈ as.map Value.ref := by simpa using hy
    obtain ⟨b, hb, rfl⟩ := List.mem_map.mp hy2
    by_cases eb : b = a
    · subst eb
      rw [decide_eq_true rfl]
      exact SeqAt.EqAt.same _
    · rw [decide_eq_false (by intro q; injection q with q; exact eb q)]
      obtain ⟨dxb, hob⟩ := inst b hb
      refine SeqAt.EqAt.of_refs eb fun prog w E Q hq => ?_
      have F0 := PySem.F.cmp_object
      obtain ⟨hp, g, d, t, os⟩ := s
      exact PySem.richCompare_eq_other F0 F0 (c.inst KX hob) (c.inst KX hoa) eb hu hq
  · have rr := r.eraseIdx j
    rw [erase_mapR] at rr
    refine ⟨.non, _, I.lset (its' := (as.map Value.ref).eraseIdx j) (t' := s.toks) hH e ?_ rr ?_, rfl, q⟩
    · rw [List.eraseIdxIfInBounds_toArray]
    · rw [List.length_map]
      have := List.length_eraseIdx_le as j
      omega
end
/-! ### xs[a:b] = ys -/
def gSlice (to : TE) (tl th : TO) : TG := fun v σ H Q => to σ H fun x H1 => tl σ H1 fun lo H2 => th σ H2 fun hi H3 => ∃ (l b : Addr) (xs ys : List V) (i j : Int), x = .ref l ∧ v = .ref b ∧ lo = some i ∧ hi = some j ∧
  H3 l = some (.lst xs) ∧ H3 b = some (.lst ys) ∧ l ≠ b ∧ 0 ≤ i ∧ i ≤ j ∧ j ≤ xs.length ∧ xs.length + ys.length ≤ sizeLine ∧ Q σ (upd H3 l (.lst (xs.take i.toNat ++ ys ++ xs.drop j.toNat)))
theorem part_int {v : Value} {i : Int} (h : IsPart v (some i)) : RelV (.int i) v := by
  cases h
  exact ⟨_, rfl⟩
theorem pg_slice {X : Cx} {o : Expr} {lo hi : Option Expr} {p2 pos : Pos} {to : TE} {tl th : TO} (ho : PE X o to) (hl : PO X lo tl) (hu : PO X hi th) : PG X (.Subscript o (.Slice lo hi none p2) pos) (gSlice to tl th) := by
  refine ⟨fun pins s σ H v u Q I r h => ?_⟩
  show wpAny _ _ (do
      let ov ← holding [u] (eval o X.env)
      let iv ← holding [u, ov] (eval (.Slice lo hi none p2) X.env)
      standAt pos
      holding [u, ov, iv] (setItem ov iv u)
      release [iv, u, ov] []) _ _ _
  refine wpAny_bind (wpAny_holding (thn (ho.run pins s σ H _ I h) fun ov s1 ⟨x, H1, I1, r1, q1⟩ => ?_))
  refine wpAny_bind (wpAny_holding (wpAny_Slice (thn (hl.run pins s1 σ H1 _ I1 q1) fun vl s2 ⟨l, H2, I2, pl, q2⟩ => thn (hu.run pins s2 σ H2 _ I2 q2) fun vu s3 ⟨u3, H3, I3, pu, q3⟩ => ?_)))
  rw [evalPart_none]
  refine wpAny_pure ?_
  have I4 : Inv X pins σ H3 { s3 with heap := s3.heap.push { cls := .type "slice", data := .fields #[vl, vu, .none] } } := I3.kept (t' := s3.toks) fun b ob q => Heap.get?_push_of_some _ q
  obtain ⟨a, b, xs, ys, i, j, rfl, rfl, rfl, rfl, ha, hb, hne, h0, hij, hjx, hz, q⟩ := q3
  obtain rfl : ov = Value.ref a := r1
  obtain rfl : u = Value.ref b := r
  refine wpAny_bind (wpAny_standAt (wpAny_bind (wpAny_holding (set_slice I4 ha hb hne (Heap.IsSliceOf.new ..) (part_int pl) (part_int pu) h0 hij hjx hz fun s' I5 => ?_))))
  exact wpAny_release ⟨σ, _, I5, q⟩

/-! ### names of readings -/
abbrev rAddI : R2 := rI0 fun i j => .int (i + j)
abbrev rSubI : R2 := rI0 fun i j => .int (i - j)
abbrev rMulI : R2 := rI CMul fun i j => .int (i * j)
abbrev rDivI : R2 := rI CDiv fun i j => .int (i / j)
abbrev rModI : R2 := rI (fun _ j => 0 < j) fun i j => .int (i % j)
abbrev rLtI : R2 := rI0 fun i j => .bl (decide (i < j))
abbrev rLeI : R2 := rI0 fun i j => .bl (decide (i ≤ j))
abbrev rGtI : R2 := rI0 fun i j => .bl (decide (j < i))
abbrev rGeI : R2 := rI0 fun i j => .bl (decide (j ≤ i))
abbrev rLenQ (K : PySem.W.Frag) : List V → Hp → VK → Prop := fun xs H Q => ∃ p ys, xs = [.ref p] ∧ (SqL K H p ys ∨ SqT K H p ys) ∧ Q (.int ys.length) H
abbrev rListQ (K : PySem.W.Frag) : List V → Hp → VK → Prop := fun xs H Q => ∃ p ys, xs = [.ref p] ∧ (SqL K H p ys ∨ SqT K H p ys) ∧ ∀ l, H l = none → Q (.ref l) (upd H l (.lst ys))
abbrev rTupQ (K : PySem.W.Frag) : List V → Hp → VK → Prop := fun xs H Q => ∃ p ys, xs = [.ref p] ∧ ((SqL K H p ys ∧ ∀ l, H l = none → Q (.ref l) (upd H l (.tup ys))) ∨ (SqT K H p ys ∧ Q (.ref p) H))
/-- a for over enumerate(xs) -/
theorem for_enum {K : PySem.W.Frag} {a : Addr} {xs : List V} {g : TG} {tb : TS} {D : Ends} {σ : L2.St} {H : Hp} (Pv : Nat → L2.St → Hp → Prop) (h0 : Pv 0 σ H) (hl : ∀ i σ H, i ≤ xs.length → Pv i σ H → SqL K H a xs)
    (hs : ∀ i x σ H T, xs[i]? = some x → Pv i σ H → H T = none → g (.ref T) σ (upd H T (.tup [.int (i : Nat), x])) fun σ2 H2 => tb { D with nx := Pv (i + 1), ct := Pv (i + 1), bk := D.nx } σ2 H2) (hd : ∀ σ H, Pv xs.length σ H → D.nx σ H) :
    ∃ W : Nat → Nat → L2.St → Hp → Prop, (∃ m, W 0 m σ H) ∧ ∀ i m σ H, W i m σ H →
      ((Ite K a).stop i H ∧ D.nx σ H) ∨ ((Ite K a).go i H ∧ ∃ N : L2.St → Hp → Prop, (∀ σ' H', N σ' H' → ∃ m', m' < m ∧ W (i + 1) m' σ' H') ∧ ∀ x H', (Ite K a).yld i H x H' → g x σ H' fun σ2 H2 => tb { D with nx := N, ct := N, bk := D.nx } σ2 H2) := by
  refine ⟨fun i m σ H => m = xs.length - i ∧ i ≤ xs.length ∧ Pv i σ H, ⟨xs.length, by simp, Nat.zero_le _, h0⟩, ?_⟩
  rintro i m σ H ⟨rfl, hi, p⟩
  have q := hl i σ H hi p
  by_cases hlt : i < xs.length
  · refine .inr ⟨⟨xs, xs[i], q, by simp [hlt]⟩, Pv (i + 1), fun σ' H' p' => ⟨xs.length - (i + 1), by omega, rfl, hlt, p'⟩, fun v H' y => ?_⟩
    obtain ⟨T, x, e1, e2, e3, e4⟩ := y
    subst e1 e3
    exact hs i x σ H T (e4 xs q) p e2
  · have e : i = xs.length := by omega
    subst e
    exact .inl ⟨⟨xs, q, Nat.le_refl _⟩, hd σ H p⟩
-- WwModel
/-! ### the rooms, plainly -/
structure Ln where
  b : Nat
  ns : List Int
  d : Bool
/-- a room's rule: ways, write back, take in, leave late; its title -/
structure Ru where
  ways : Nat
  bk : Bool
  inn : Bool
  lt : Bool
  tl : List V
structure Rm where
  ru : Ru
  ss : List (List Ln)
structure Ent where
  tl : List V
  w : Str
  n : Nat
/-- what stands behind: rooms, the far room's cells, the log -/
structure Ta where
  rs : List Rm
  far : List Int
  log : List Ent
def Ent.vs (e : Ent) : List V := e.tl ++ [.str e.w, .int e.n]
def Rm.ix (r : Rm) (b : Nat) : Nat := b % r.ss.length
def Rm.ls (r : Rm) (b : Nat) : List Ln := r.ss.getD (r.ix b) []
def Rm.put (r : Rm) (b : Nat) (ls : List Ln) : Rm := { r with ss := r.ss.set (r.ix b) ls }
def fnd (b : Nat) : List Ln → Option Nat
  | [] => none
  | l :: r => if l.b = b then some 0 else (fnd b r).map (· + 1)
def Ta.note (t : Ta) (tl : List V) (w : Str) (n : Nat) : Ta := { t with log := t.log ++ [⟨tl, w, n⟩] }
def Ta.cons (r : Rm) (t : Ta) : Ta := { t with rs := r :: t.rs }
def setBlk (far : List Int) (b : Nat) (ns : List Int) : List Int := far.take (b * 4) ++ ns ++ far.drop (b * 4 + 4)
def getBlk (far : List Int) (b : Nat) : List Int := (far.drop (b * 4)).take 4
/-- what may be asked of what stands behind -/
structure Ops where
  hm : Ta → Nat → List Int → Ta
  br : Ta → Nat → List Int × Ta
  ch : Ta → Nat → Int → Ta
def farOps : Ops where
  hm := fun t b ns => { t with far := setBlk t.far b ns }
  br := fun t b => (getBlk t.far b, t)
  ch := fun t p v => { t with far := t.far.set p v }
def passH (o : Ops) (tl : List V) (t : Ta) (b : Nat) (ns : List Int) : Ta := o.hm (t.note tl "home" b) b ns
def passC (o : Ops) (tl : List V) (t : Ta) (p : Nat) (v : Int) : Ta := o.ch (t.note tl "cell" p) p v
/-- one set's lines, by what is done of them -/
def mkWay (o : Ops) (u : Ru) (ls : List Ln) (t : Ta) : List Ln × Ta :=
  if ls.length = u.ways then
    match ls with
    | [] => ([], t)
    | l :: rest => (rest, if l.d = true then passH o u.tl t l.b l.ns else t)
  else (ls, t)
def touchL {α : Type} (lt : Bool) (ls : List α) (i : Nat) : List α := if lt = true then ls.eraseIdx i ++ (ls[i]?).toList else ls
def touchI {α : Type} (lt : Bool) (ls : List α) (i : Nat) : Nat := if lt = true then ls.length - 1 else i
/-- reach: the lines, what is behind, the line's place -/
def reachL (o : Ops) (u : Ru) (ls : List Ln) (t : Ta) (b : Nat) : List Ln × Ta × Nat :=
  match fnd b ls with
  | some i => (touchL u.lt ls i, t, touchI u.lt ls i)
  | none => ((mkWay o u ls t).1 ++ [⟨b, (o.br ((mkWay o u ls t).2.note u.tl "bring" b) b).1, false⟩], (o.br ((mkWay o u ls t).2.note u.tl "bring" b) b).2, (mkWay o u ls t).1.length)
def lnAt (ls : List Ln) (i : Nat) : Ln := ls.getD i ⟨0, [], false⟩
def bringL (o : Ops) (u : Ru) (ls : List Ln) (t : Ta) (b : Nat) : List Int × List Ln × Ta :=
  ((lnAt (reachL o u ls t b).1 (reachL o u ls t b).2.2).ns, (reachL o u ls t b).1, (reachL o u ls t b).2.1)
def lookL (o : Ops) (u : Ru) (ls : List Ln) (t : Ta) (p : Nat) : Int × List Ln × Ta :=
  ((lnAt (reachL o u ls t (p / 4)).1 (reachL o u ls t (p / 4)).2.2).ns.getD (p % 4) 0, (reachL o u ls t (p / 4)).1, (reachL o u ls t (p / 4)).2.1)
def setCell (bk : Bool) (l : Ln) (p : Nat) (v : Int) : Ln := { l with ns := l.ns.set (p % 4) v, d := bk || l.d }
def changeL (o : Ops) (u : Ru) (ls : List Ln) (t : Ta) (p : Nat) (v : Int) : List Ln × Ta :=
  if u.inn = false ∧ fnd (p / 4) ls = none then (ls, passC o u.tl t p v)
  else
    ((reachL o u ls t (p / 4)).1.set (reachL o u ls t (p / 4)).2.2 (setCell u.bk (lnAt (reachL o u ls t (p / 4)).1 (reachL o u ls t (p / 4)).2.2) p v),
      if u.bk = true then (reachL o u ls t (p / 4)).2.1 else passC o u.tl (reachL o u ls t (p / 4)).2.1 p v)
def homeL (o : Ops) (u : Ru) (ls : List Ln) (t : Ta) (b : Nat) (ns : List Int) : List Ln × Ta :=
  match fnd b ls with
  | none =>
    if u.inn = true then ((mkWay o u ls t).1 ++ [⟨b, ns, u.bk⟩], if u.bk = true then (mkWay o u ls t).2 else passH o u.tl (mkWay o u ls t).2 b ns)
    else (ls, passH o u.tl t b ns)
  | some i => ((touchL u.lt ls i).set (touchI u.lt ls i) ⟨b, ns, u.bk⟩, if u.bk = true then t else passH o u.tl t b ns)
def yieldL (o : Ops) (u : Ru) (ls : List Ln) (t : Ta) (b : Nat) (gone : Bool) : List Ln × Ta :=
  match fnd b ls with
  | none => (ls, t)
  | some i => (if gone = true then ls.eraseIdx i else ls.set i { lnAt ls i with d := false }, if (lnAt ls i).d = true then passH o u.tl t b (lnAt ls i).ns else t)
def settleL (o : Ops) (u : Ru) : List Ln → Ta → List Ln × Ta
  | [], t => ([], t)
  | l :: r, t => ({ l with d := false } :: (settleL o u r (if l.d = true then passH o u.tl t l.b l.ns else t)).1, (settleL o u r (if l.d = true then passH o u.tl t l.b l.ns else t)).2)
def settleS (o : Ops) (u : Ru) : List (List Ln) → Ta → List (List Ln) × Ta
  | [], t => ([], t)
  | ls :: r, t => ((settleL o u ls t).1 :: (settleS o u r (settleL o u ls t).2).1, (settleS o u r (settleL o u ls t).2).2)
def ops : Nat → Ops
  | 0 => farOps
  | n + 1 => {
      hm := fun t b ns => match t.rs with
        | [] => t
        | r :: rs => Ta.cons (r.put b (homeL (ops n) r.ru (r.ls b) { t with rs := rs } b ns).1) (homeL (ops n) r.ru (r.ls b) { t with rs := rs } b ns).2
      br := fun t b => match t.rs with
        | [] => ([], t)
        | r :: rs => ((bringL (ops n) r.ru (r.ls b) { t with rs := rs } b).1, Ta.cons (r.put b (bringL (ops n) r.ru (r.ls b) { t with rs := rs } b).2.1) (bringL (ops n) r.ru (r.ls b) { t with rs := rs } b).2.2)
      ch := fun t p v => match t.rs with
        | [] => t
        | r :: rs => Ta.cons (r.put (p / 4) (changeL (ops n) r.ru (r.ls (p / 4)) { t with rs := rs } p v).1) (changeL (ops n) r.ru (r.ls (p / 4)) { t with rs := rs } p v).2 }

/-! ### what holds of them -/
structure LnOk (l : Ln) : Prop where
  b : l.b < 16
  ns : l.ns.length = 4
structure LsOk (u : Ru) (ls : List Ln) : Prop where
  len : ls.length ≤ u.ways
  ok : ∀ l ∈ ls, LnOk l
structure RuOk (u : Ru) : Prop where
  w0 : 0 < u.ways
  w4 : u.ways ≤ 4
  t4 : u.tl.length ≤ 4
structure RmOk (r : Rm) : Prop where
  s0 : 0 < r.ss.length
  s4 : r.ss.length ≤ 4
  ru : RuOk r.ru
  ln : ∀ ls ∈ r.ss, LsOk r.ru ls
structure TaOk (n : Nat) (t : Ta) : Prop where
  len : t.rs.length = n
  rs : ∀ r ∈ t.rs, RmOk r
  far : t.far.length = 64

/-! ### the same with addresses -/
structure LnA where
  a : Addr
  dx : Addr
  na : Addr
  l : Ln
/-- what stands behind: rooms one before the other, the far one last -/
inductive Pa where
  | far (la : Addr)
  | room (a : Addr) (be : Pa)
def Pa.ad : Pa → Addr
  | .far la => la
  | .room a _ => a
/-- a room's head: its object, its dict, the list of its sets, its title; its rule, what is behind, the diary, the sets -/
structure Hd where
  a : Addr
  dx : Addr
  sl : Addr
  ti : Addr
  u : Ru
  be : Pa
  di : Addr
  sas : List Addr
def fLine (b n d : V) : List (Str × V) := [("block", b), ("numbers", n), ("is_dirty", d)]
def fRoom (w bk inn lt be ti di ss : V) : List (Str × V) := [("ways", w), ("is_back", bk), ("is_in", inn), ("is_late", lt), ("behind", be), ("title", ti), ("diary", di), ("sets", ss)]
def fFar (h : V) : List (Str × V) := [("held", h)]
def fHall (d l s o : V) : List (Str × V) := [("diary", d), ("last", l), ("shared", s), ("own", o)]
def lnC (CL : Addr) (l : LnA) : List Cell := [(l.a, .ins CL l.dx (fLine (.int l.l.b) (.ref l.na) (.bl l.l.d))), (l.na, .lst (l.l.ns.map V.int))]
def lnsC (CL : Addr) : List LnA → List Cell
  | [] => []
  | l :: r => lnC CL l ++ lnsC CL r
def stC (CL : Addr) (s : Addr × List LnA) : List Cell := (s.1, .lst (s.2.map fun l => V.ref l.a)) :: lnsC CL s.2
def stsC (CL : Addr) : List (Addr × List LnA) → List Cell
  | [] => []
  | s :: r => stC CL s ++ stsC CL r
def hdO (CR : Addr) (h : Hd) : HO := .ins CR h.dx (fRoom (.int h.u.ways) (.bl h.u.bk) (.bl h.u.inn) (.bl h.u.lt) (.ref h.be.ad) (.ref h.ti) (.ref h.di) (.ref h.sl))
def hdC (CR : Addr) (h : Hd) : List Cell := [(h.a, hdO CR h), (h.sl, .lst (h.sas.map V.ref)), (h.ti, .tup h.u.tl)]
/-- a room at a, with be behind and the diary di -/
def RmRep (CL CR di a : Addr) (be : Pa) (r : Rm) (C : List Cell) : Prop := ∃ (h : Hd) (ss : List (Addr × List LnA)), h.a = a ∧ h.be = be ∧ h.di = di ∧ h.u = r.ru ∧ h.sas = ss.map (·.1) ∧ r.ss = ss.map (fun s => s.2.map (·.l)) ∧ C = hdC CR h ++ stsC CL ss
/-- what stands behind -/
def Rep (CF CL CR di : Addr) : Pa → List Rm → List Int → List Cell → Prop
  | .far la, [], far, C => ∃ dx fl, C = [(la, .ins CF dx (fFar (.ref fl))), (fl, .lst (far.map V.int))]
  | .room a be, r :: rs, far, C => ∃ C1 C2 : List Cell, RmRep CL CR di a be r C1 ∧ Rep CF CL CR di be rs far C2 ∧ C = C1 ++ C2
  | _, _, _, _ => False
def logC : List Addr → List Ent → List Cell
  | a :: as, e :: es => (a, .tup e.vs) :: logC as es
  | _, _ => []
def DRep (di : Addr) (log : List Ent) (C : List Cell) : Prop := ∃ as : List Addr, as.length = log.length ∧ C = (di, .lst (as.map V.ref)) :: logC as log
-- WwXc
/-! ### own classes of exceptions: what is checked of the written part -/
/-- the class's object is as the making of its instances wants it -/
def oexB (K : PySem.W.Frag) (C : Addr) : Bool := match K.lookup C with
  | some ⟨.type "type", _, .cls cd, sl⟩ => (match cd.mro, sl.toList with
    | .ref D :: bm, [_, _, _, _, some (.builtin n), _] => D == C && (n == "ValueError.__new__" && (!cd.hasDel && (cd.hasDict && PySem.HandSPX.refsVE bm)))
    | _, _ => false)
  | _ => false
theorem oexB_ok {K : PySem.W.Frag} {C : Addr} (q : oexB K C = true) : ∃ nm qn N bs bm sn sub ab col dd k0 k1 k2 k3 k5, K.lookup C = some (excClassObj nm qn C N bs bm true sn sub ab col dd k0 k1 k2 k3 k5 "ValueError.__new__") ∧ PySem.HandSPX.refsVE bm = true := by
  unfold oexB at q
  split at q
  · rename_i dct cd sl hk
    split at q
    · rename_i D bm y0 y1 y2 y3 n y5 em es
      obtain ⟨q1, q⟩ := Bool.and_eq_true_iff.mp q
      obtain ⟨q2, q⟩ := Bool.and_eq_true_iff.mp q
      obtain ⟨q3, q⟩ := Bool.and_eq_true_iff.mp q
      obtain ⟨q4, q5⟩ := Bool.and_eq_true_iff.mp q
      obtain ⟨c1, c2, c3, c4, c5, c6, c7, c8, c9, c10, c11⟩ := cd
      have e3 : c11 = false := by
        have : (!c11) = true := q3
        cases c11
        · rfl
        · cases this
      have e4 : c6 = true := q4
      have em : c3 = .ref D :: bm := em
      have eD : D = C := eq_of_beq q1
      have en : n = "ValueError.__new__" := eq_of_beq q2
      have hsl : sl = #[y0, y1, y2, y3, some (.builtin n), y5] := by
        obtain ⟨sl⟩ := sl
        have es : sl = _ := es
        rw [es]
      subst e3 e4 em eD en hsl
      exact ⟨c1, c5, c4, c2, bm, c7, c8, c9, c10, dct, y0, y1, y2, y3, y5, hk, q5⟩
    · cases q
  · cases q
/-- all that is asked of a class of exceptions -/
structure XcC (K : PySem.W.Frag) (C : Addr) : Prop where
  cl : (PySem.W.clsIn K C).isSome = true
  ga : PySem.W.findIn K (.ref C) "__getattribute__" = some (some (.builtin "BaseException.__getattribute__"))
  gg : PySem.W.findIn K (.ref C) "__getattr__" = some none
  sb : PySem.W.subIn K (.ref C) (.type "BaseException") = some true
  hd : PySem.W.hasDictIn K C = true
  hc : PySem.W.findIn K (.ref C) "__class__" = some (some (.builtin "object.__class__"))
  sg : PySem.W.specialIn K (.builtin "object.__class__") "__get__" = some (some (.builtin "getset_descriptor.__get__"))
  tk : PySem.W.takesIn K (.builtin "object.__class__") = some true
  mo : PySem.W.mroIn K C (.type "object") = some true
  sa : PySem.W.findIn K (.ref C) "__setattr__" = some (some (.builtin "object.__setattr__"))
  ty : PySem.W.typeIn K (.ref C) = some (.type "type")
  kp : PySem.W.keepIn K (.ref C) = true
def xcB (K : PySem.W.Frag) (C : Addr) : Bool :=
  (PySem.W.clsIn K C).isSome && (He.eqO (PySem.W.findIn K (.ref C) "__getattribute__") (some (some (.builtin "BaseException.__getattribute__"))) && (He.eqO (PySem.W.findIn K (.ref C) "__getattr__") (some none) && (decide (PySem.W.subIn K (.ref C) (.type "BaseException") = some true) &&
  (PySem.W.hasDictIn K C && (He.eqO (PySem.W.findIn K (.ref C) "__class__") (some (some (.builtin "object.__class__"))) && (He.eqO (PySem.W.specialIn K (.builtin "object.__class__") "__get__") (some (some (.builtin "getset_descriptor.__get__"))) &&
  (decide (PySem.W.takesIn K (.builtin "object.__class__") = some true) && (decide (PySem.W.mroIn K C (.type "object") = some true) && (He.eqO (PySem.W.findIn K (.ref C) "__setattr__") (some (some (.builtin "object.__setattr__"))) && (decide (PySem.W.typeIn K (.ref C) = some (.type "type")) && PySem.W.keepIn K (.ref C)))))))))))
theorem xcB_ok {K : PySem.W.Frag} {C : Addr} (q : xcB K C = true) : XcC K C := by
  obtain ⟨q1, q⟩ := He.ba q
  obtain ⟨q2, q⟩ := He.ba q
  obtain ⟨q3, q⟩ := He.ba q
  obtain ⟨q4, q⟩ := He.ba q
  obtain ⟨q5, q⟩ := He.ba q
  obtain ⟨q6, q⟩ := He.ba q
  obtain ⟨q7, q⟩ := He.ba q
  obtain ⟨q8, q⟩ := He.ba q
  obtain ⟨q9, q⟩ := He.ba q
  obtain ⟨q10, q⟩ := He.ba q
  obtain ⟨q11, q12⟩ := He.ba q
  exact ⟨q1, He.eqO_ok q2, He.eqO_ok q3, of_decide_eq_true q4, q5, He.eqO_ok q6, He.eqO_ok q7, of_decide_eq_true q8, of_decide_eq_true q9, He.eqO_ok q10, of_decide_eq_true q11, q12⟩
theorem XcC.oex {K : PySem.W.Frag} {C : Addr} (x : XcC K C) (o : oexB K C = true) : OexC K C := ⟨oexB_ok o, x.sa, x.sb, x.ty, x.kp⟩
theorem XcC.xf {K : PySem.W.Frag} {C : Addr} (x : XcC K C) : XfC K C := ⟨x.ga, x.gg, x.sb, x.hd⟩
/-! ### isinstance(e, c) in the suite, whatever the exception's dict -/
def rIsX (K : PySem.W.Frag) (a : Addr) (cls : Value) (d : Option Addr) : List V → Hp → VK → Prop := fun xs H Q =>
  ∃ (D : Addr) (c : V) (cv : Value) (b : Bool), cls = .ref D ∧ XcC K D ∧ (∀ dd, d = some dd → ∃ fs, H dd = some (.xd fs)) ∧ xs = [.ref a, c] ∧ (∀ u, RelV c u → u = cv) ∧ PySem.W.kitOne K (.ref D) cv = some b ∧ Q (.bl b) H
theorem call_isX {X : Cx} {a : Addr} {oe : Obj} {cls : Value} {d : Option Addr} {pn : List (Addr × Obj)} (hz : Zc cls d oe) (hf : ∃ vs, oe.data = .fields vs) : CallR (X.suite a ((a, oe) :: pn)) (.builtin "isinstance") (rIsX X.K a cls d) := by
  intro pins s σ H xs us Q I r h
  obtain ⟨D, c, cv, b, rfl, C, hd, rfl, hcv, e, q⟩ := h
  cases r with
  | cons rx rr =>
    cases rr with
    | cons rt rr =>
      cases rr
      cases rx
      have ec := hcv _ rt
      subst ec
      obtain ⟨hget, _⟩ := I.pin (a, oe) (List.mem_append_left _ List.mem_cons_self)
      obtain ⟨vs, hv⟩ := hf
      obtain ⟨z1, z2⟩ := hz
      obtain ⟨od, J⟩ : ∃ od, PySem.W.InstAt s.heap a oe D od := by
        cases d with
        | none =>
          refine ⟨none, hget, z1, by unfold PySem.W.notCls; rw [hv] <;> rfl, ?_⟩
          rw [z2]
          trivial
        | some dd =>
          obtain ⟨fs, hfs⟩ := hd dd rfl
          have hx : ObjOk X.prog X.w H s.heap dd (.xd fs) := I.hok dd _ hfs
          obtain ⟨mA, ⟨o, _, _, ho, _⟩, _⟩ := hx
          refine ⟨some o, hget, z1, by unfold PySem.W.notCls; rw [hv] <;> rfl, ?_⟩
          rw [z2]
          exact ho
      exact PySem.W.kia_one (PySem.W.kitx_exc C.cl C.ga C.gg C.sb C.hc C.sg C.tk C.mo) I.kIn J e (fun z => nomatch z) fun tk => ⟨.bl b, H, I.kept (t' := tk) fun _ _ z => z, rfl, q⟩
/-! ### e.f in the suite -/
def tXg (K : PySem.W.Frag) (a : Addr) (cls : Value) (d : Option Addr) (f : Str) (te : TE) : TE := fun σ H Q => te σ H fun x H1 => x = .ref a ∧ ∃ (C dd : Addr) (fs : List (Str × V)) (v : V), cls = .ref C ∧ XcC K C ∧ PySem.W.findIn K (.ref C) f = some none ∧ d = some dd ∧ H1 dd = some (.xd fs) ∧ fs.lookup f = some v ∧ Q v H1
theorem pe_xg {X : Cx} {a : Addr} {oe : Obj} {cls : Value} {d : Option Addr} {pn : List (Addr × Obj)} {e : Expr} {te : TE} {pos : Pos} {n : Str} (hz : Zc cls d oe) (hf : ∃ vs, oe.data = .fields vs) (he : PE (X.suite a ((a, oe) :: pn)) e te)
    (hb : attributeBase e n X.env (eval e X.env) = eval e X.env := by rfl) : PE (X.suite a ((a, oe) :: pn)) (.Attribute e n pos) (tXg X.K a cls d n te) := by
  refine ⟨fun pins s σ H Q I h => ?_⟩
  have base := (he.run pins s σ H _ I h)
  refine attr_of hb (thn base fun u s1 hh => ?_)
  obtain ⟨x, H1, I1, rx, ex, C, dd, fs, v, rfl, T, hno, rfl, ea, l, q⟩ := hh
  subst ex
  obtain rfl : u = Value.ref a := rx
  obtain ⟨ha, _⟩ := I1.pin (a, oe) (List.mem_append_left _ List.mem_cons_self)
  obtain ⟨vs, hdt⟩ := hf
  have hx : ObjOk X.prog X.w H1 s1.heap dd (.xd fs) := I1.hok dd _ ea
  obtain ⟨mA, hns, hr⟩ := hx
  obtain ⟨od, ho, hl⟩ := lookIn_ns hns
  obtain ⟨u, hu, ru⟩ := RelO.some_of (v := v) (o := mA n) (by rw [← l]; exact hr n)
  have nc : PySem.W.notCls oe = true := by unfold PySem.W.notCls; rw [hdt] <;> rfl
  have J : PySem.W.InstAt s1.heap a oe C (some od) := ⟨ha, hz.1, nc, by rw [hz.2]; exact ho⟩
  refine HandSPX.exc_get I1.kIn J T.ga T.gg T.sb (PySem.W.findObj_own T.hd hno rfl (by rw [hl, hu])) (handed_of ru) ⟨v, H1, I1.tok _, ru, q⟩
/-! ### W.__init__(self, ..), W an own class over ValueError without an own __init__ -/
theorem pe_weinit {X : Cx} {e : Expr} {es : List Expr} {ta : TA} {x : Str} {p1 p2 pos : Pos} {pl : Sem Bool} {W : Addr} (gx : Gl X x) (mx : X.mg x = some (.ref W))
    (sg : PySem.W.specialIn X.K (.ref W) "__getattribute__" = some (some (.builtin "type.__getattribute__"))) (rd : PySem.W.readsIn X.K W (.type "type") = true)
    (fc : PySem.W.findCls X.K (.ref W) (.type "type") "__init__" = some (.val (.builtin "ValueError.__init__"))) (pa : PA X (e :: es) ta)
    (ec : eval (.Call (.Attribute (.Name x p1) "__init__" p2) (e :: es) [] pos) X.env = (do
      let ov ← eval (.Name x p1) X.env
      standAt p2.atName
      let (fu, fi) ← holding [ov] (getMethod ov "__init__" pl)
      callWith pos fu fi (backTo pos (starEach (e :: es) X.env)) (backToKw pos (keywordEach [] X.env))) := by rfl)
    (hdb : (x == ("__debug__" : Str)) = false := by decide) (h1 : starEach (e :: es) X.env = (false, eval e X.env) :: starEach es X.env := by rfl) (h2 : (backTo pos (starEach es X.env)).any (·.1) = false := by rfl) :
    PE X (.Call (.Attribute (.Name x p1) "__init__" p2) (e :: es) [] pos) (tVeI X.K ta) := by
  refine ⟨fun pins s σ H Q I h => ?_⟩
  refine PySem.W.methodCall_KW (ld_glob I gx mx ?_ hdb) ec
  refine PySem.W.method_cls I.kIn sg (PySem.W.cls_value I.kIn rd fc (by decide +kernel) ?_)
  refine PyProof.Rows.callWith_method1 (thn (pa.run pos pins _ σ H _ (I.tok _) h) fun us s1 hh => ?_) h1 h2
  obtain ⟨vs, H1, I1, r1, a, C, ws, ev, hl, T, ea, q⟩ := hh
  subst ev
  cases r1 with
  | @cons _ u0 _ ur ra rw' =>
    obtain rfl : u0 = Value.ref a := ra
    refine oinit_ok T I1 ea (by rw [← Paired.length rw', sizeLine_eq]; omega) fun s' J => ⟨.non, H1, J, rfl, q⟩
/-! ### raise C(n) of a class whose __init__ keeps one field -/
/-- what __init__ of such a class does -/
def spExI (K : PySem.W.Frag) (C : Addr) (f : Str) : Sp := fun vs H Q _ => ∃ (a : Addr) (n : Int), vs = [.ref a, .int n] ∧ n.natAbs < 2 ^ 60 ∧ H a = some (exo a C none) ∧
  ∀ dx, H dx = none → dx ≠ a → Q .non (upd (upd H dx (exd dx [(f, .int n)])) a (exo a C (some dx)))
theorem rz_go {C : Addr} {f : Str} {K : PySem.W.Frag} {H1 : Hp} {Q : XK} {n : Int} (hn : n.natAbs < 2 ^ 60) (k : ∀ d, H1 d = none → Q (.ref C) (some d) (upd H1 d (.xd [(f, .int n)]))) :
    ([V.int n] : List V).length ≤ 1000 ∧ ∀ a, H1 a = none → spExI K C f (.ref a :: ([V.int n] ++ [])) (upd H1 a (exo a C none))
      (fun v H2 => v = .non ∧ ∃ (d : Addr) (fs : List (Str × V)), H2 a = some (exo a C (some d)) ∧ H2 d = some (exd d fs) ∧ H1 d = none ∧ Q (.ref C) (some d) (upd (del H2 a) d (.xd fs))) (fun _ _ _ => False) := by
  refine ⟨by show 1 ≤ 1000; decide, fun a ha => ⟨a, n, rfl, hn, upd_same, fun dx hdx hne => ?_⟩⟩
  have hd1 : H1 dx = none := by
    rw [upd_ne hne] at hdx
    exact hdx
  refine ⟨rfl, dx, [(f, .int n)], upd_same, by rw [upd_ne hne, upd_same], hd1, ?_⟩
  have e : upd (del (upd (upd (upd H1 a (exo a C none)) dx (exd dx [(f, V.int n)])) a (exo a C (some dx))) a) dx (HO.xd [(f, V.int n)]) = upd H1 dx (.xd [(f, .int n)]) := by
    funext b
    by_cases hb : b = dx
    · rw [hb, upd_same, upd_same]
    · rw [upd_ne hb, upd_ne hb]
      by_cases ha2 : b = a
      · rw [ha2, del_same, ha]
      · rw [del_ne ha2, upd_ne ha2, upd_ne hb, upd_ne ha2]
  rw [e]
  exact k dx hd1
theorem log60 {n : Int} (h : n.natAbs < 2 ^ 60) : n.natAbs.log2 < 1920 := by
  by_cases z : n.natAbs = 0
  · rw [z]
    decide
  · exact Nat.lt_trans ((Nat.log2_lt z).mpr h) (by decide)
theorem int_fits60 {n : Int} (h : n.natAbs < 2 ^ 60) {x : Str} (hx : x.length ≤ 100) : (x ++ Str.ofString (toString n)).length ≤ sizeLine := by
  have e := int_text_length_le (a := n) (k := 1920) (by decide) (log60 h)
  rw [Str.length_append, PySem.ofString_length, sizeLine_eq]
  omega
theorem isFn_ty {K : PySem.W.Frag} {v : Value} (h : PySem.W.isFn K v = true) : PySem.W.typeIn K v = some (.type "function") := eq_of_beq h
/-- the slots are as many as the names -/
theorem takesLen {X : Cx} {W : WX} (t : Takes X W) : Takes X (fun cls d σ H => σ.length = X.N.length → W cls d σ H) := fun u s' ⟨a, B, sI, pins, σ, H, cls, d, e, I, nb, up, sky, na, os, ag, w⟩ =>
  t u s' ⟨a, B, sI, pins, σ, H, cls, d, e, I, nb, up, sky, na, os, ag, w I.len⟩
/-! ### the program's classes of exceptions, by their names -/
structure ExcT (K : PySem.W.Frag) (cs : List Str) : Prop where
  xc : ∀ c ∈ cs, XcC K (He.ga K c)
  ex : ∀ c ∈ cs, PySem.W.exmOne K (.ref (He.ga K c)) (.ref (He.ga K "WayError")) = some true
  kit : ∀ c ∈ cs, ∀ d ∈ cs, PySem.W.kitOne K (.ref (He.ga K c)) (.ref (He.ga K d)) = some (decide (c = d))
  kv : ∀ c ∈ cs, PySem.W.kitOne K (.ref (He.ga K c)) (.type "ValueError") = some true
  sg : PySem.W.specialIn K (.ref (He.ga K "WayError")) "__getattribute__" = some (some (.builtin "type.__getattribute__"))
  rd : PySem.W.readsIn K (He.ga K "WayError") (.type "type") = true
  fc : PySem.W.findCls K (.ref (He.ga K "WayError")) (.type "type") "__init__" = some (.val (.builtin "ValueError.__init__"))
def isVal (r : Option PySem.W.CFound) (v : Value) : Bool := match r with
  | some (.val u) => decide (u = v)
  | _ => false
theorem isVal_ok {r : Option PySem.W.CFound} {v : Value} (h : isVal r v = true) : r = some (.val v) := by
  unfold isVal at h
  split at h
  · rw [of_decide_eq_true h]
  · cases h
def excTB (K : PySem.W.Frag) (cs : List Str) : Bool :=
  (cs.all fun c => xcB K (He.ga K c) && (decide (PySem.W.exmOne K (.ref (He.ga K c)) (.ref (He.ga K "WayError")) = some true) && (decide (PySem.W.kitOne K (.ref (He.ga K c)) (.type "ValueError") = some true) && cs.all fun d => decide (PySem.W.kitOne K (.ref (He.ga K c)) (.ref (He.ga K d)) = some (decide (c = d)))))) &&
  (He.eqO (PySem.W.specialIn K (.ref (He.ga K "WayError")) "__getattribute__") (some (some (.builtin "type.__getattribute__"))) && (PySem.W.readsIn K (He.ga K "WayError") (.type "type") && isVal (PySem.W.findCls K (.ref (He.ga K "WayError")) (.type "type") "__init__") (.builtin "ValueError.__init__")))
theorem excTB_ok {K : PySem.W.Frag} {cs : List Str} (h : excTB K cs = true) : ExcT K cs := by
  obtain ⟨h1, h⟩ := He.ba h
  obtain ⟨h2, h⟩ := He.ba h
  obtain ⟨h3, h4⟩ := He.ba h
  have at_ := List.all_eq_true.mp h1
  refine ⟨fun c hc => ?_, fun c hc => ?_, fun c hc d hd => ?_, fun c hc => ?_, He.eqO_ok h2, h3, isVal_ok h4⟩
  · exact xcB_ok (He.ba (at_ c hc)).1
  · exact of_decide_eq_true (He.ba (He.ba (at_ c hc)).2).1
  · exact of_decide_eq_true (List.all_eq_true.mp (He.ba (He.ba (He.ba (at_ c hc)).2).2).2 d hd)
  · exact of_decide_eq_true (He.ba (He.ba (He.ba (at_ c hc)).2).2).1
def bads : List Str := ["BadRule", "BadHands", "BadHand", "BadPlace", "BadNumber", "BadDeed", "BadRoom", "BadWays", "BadLeavings", "BadText"]
/-! ### the head's facts, the interpreter's statics among them -/
def asY (g : Addr → Option Obj) (n : Nat) : List Addr := He.asD g n ++ [cStatics]
def obsY (n : Nat) (fa : List He.Fa) (fn : List He.DefD) (tf : List He.Defn) (ex : PySem.W.Frag → Bool) (g : Addr → Option Obj) : He.AlX := (He.obsT fa fn [] (He.frT g (asY g n)), ex (He.frT g (asY g n)) && He.tabsB g tf (He.frT g (asY g n)))
theorem saysY_of {n : Nat} {fa : List He.Fa} {fn : List He.DefD} {tf : List He.Defn} {ex : PySem.W.Frag → Bool} {w : World} {h : Heap} (e : obsY n fa fn tf ex h.get? = He.valX fn [] w) : He.SaysX fa fn [] tf ex w h (He.frT h.get? (asY h.get? n)) := by
  have out : ∀ {a : Addr} {o : Obj}, h.get? a = some o → He.emptyTab o = true → (He.frT h.get? (asY h.get? n)).lookup a = none := fun q z => He.frT_none q z
  have e1 := congrArg Prod.fst e
  have e2 := congrArg Prod.snd e
  dsimp only [obsY] at e1 e2
  generalize He.frT h.get? (asY h.get? n) = K at e1 e2 out ⊢
  obtain ⟨a1, a2⟩ := He.ba (show (ex K && He.tabsB h.get? tf K) = true from e2)
  have key : ∀ p ∈ tf, PySem.W.codeHdIn K (He.cT K p).1 (He.cT K p).2 = true ∧ ∃ o, h.get? (He.cT K p).2 = some o ∧ He.emptyTab o = true := fun p hp => by
    obtain ⟨b1, b2⟩ := He.ba (List.all_eq_true.mp a2 p hp)
    refine ⟨b1, ?_⟩
    split at b2
    · rename_i o q
      exact ⟨o, q, b2⟩
    · cases b2
  refine ⟨e1, a1, fun p hp => (key p hp).1, fun p hp => ?_, fun p hp => ?_⟩
  · obtain ⟨_, o, q, z⟩ := key p hp
    exact out q z
  · obtain ⟨_, o, q, z⟩ := key p hp
    rw [q, He.emptyTab_eq z]
def hookY (n : Nat) (fa : List He.Fa) (fn : List He.DefD) (tf : List He.Defn) (ex : PySem.W.Frag → Bool) : PySem.W.Hook where
  α := He.AlX
  obs s := obsY n fa fn tf ex s.heap.get?
  val w := He.valX fn [] w
  says w h := ∃ K : PySem.W.Frag, K.In h ∧ He.SaysX fa fn [] tf ex w h K
  of _ _ e := ⟨_, He.frT_in, saysY_of e⟩
  keeps _ _ _ z k := by
    obtain ⟨K, hK, c⟩ := z
    exact ⟨K, hK.keeps k, c.t, c.more, c.hd, c.out, fun p hp => k _ _ (c.empty p hp)⟩
theorem obsY_eq {n : Nat} {fa : List He.Fa} {fn : List He.DefD} {tf : List He.Defn} {ex : PySem.W.Frag → Bool} {g : Addr → Option Obj} {s : Shared} (h : ∀ a, g a = s.heap.get? a) : obsY n fa fn tf ex g = (hookY n fa fn tf ex).obs s := by
  have e : g = s.heap.get? := funext h
  subst e
  rfl
/-! ### tables of code objects, as cells -/
def isTb : HO → Bool
  | .tbl _ => true
  | .ext _ => true
  | _ => false
/-- cells that are no tables and no code objects -/
def NT (L : List Cell) : Prop := ∀ c ∈ L, isTb c.2 = false
theorem NT.nil : NT [] := fun c hc => by cases hc
theorem NT.cons {c : Cell} {L : List Cell} (h : isTb c.2 = false) (k : NT L) : NT (c :: L) := fun d hd => by
  rcases List.mem_cons.mp hd with e | e
  · rw [e]
    exact h
  · exact k d e
theorem NT.app {L M : List Cell} (h : NT L) (k : NT M) : NT (L ++ M) := fun d hd => (List.mem_append.mp hd).elim (h d) (k d)
theorem NT.left {L M : List Cell} (h : NT (L ++ M)) : NT L := fun d hd => h d (List.mem_append_left _ hd)
theorem NT.right {L M : List Cell} (h : NT (L ++ M)) : NT M := fun d hd => h d (List.mem_append_right _ hd)
/-- of any cells those that are none -/
def nt (L : List Cell) : List Cell := L.filter fun c => !isTb c.2
theorem nt_mem {L : List Cell} {c : Cell} : c ∈ nt L ↔ c ∈ L ∧ isTb c.2 = false := by
  unfold nt
  rw [List.mem_filter]
  cases isTb c.2 <;> simp
theorem nt_NT (L : List Cell) : NT (nt L) := fun c hc => (nt_mem.mp hc).2
theorem nt_sub (L : List Cell) : (nt L).Sublist L := List.filter_sublist
theorem Own.extN {H H1 : Hp} {L : List Cell} (O : Own H L) (n : NT L) (e : LamX.ExtN H H1) : Own H1 L := ⟨O.1, fun c hc => e c.1 c.2 (O.2 c hc) fun ps z => by
  have := n c hc
  rw [z] at this
  cases this⟩
def TabC (TL : List Cell) (P : Addr) (q : Str) : Prop := ∃ ps : Array Value, (P, HO.tbl ps) ∈ TL ∧ TriplesOk ps.toList ∧ ∀ (pos : Pos) (cv : Value), codeAmong pos ps.toList = some cv → ∃ c, cv = .ref c ∧ (c, LamX.CodeO c q) ∈ TL
theorem TabC.tab {TL : List Cell} {P : Addr} {q : Str} (t : TabC TL P q) {H : Hp} (O : ∀ c ∈ TL, H c.1 = some c.2) : LamX.TabS H P q := by
  obtain ⟨ps, h1, h2, h3⟩ := t
  refine ⟨ps, O _ h1, h2, fun pos cv hc => ?_⟩
  obtain ⟨c, e, hm⟩ := h3 pos cv hc
  exact ⟨c, e, O _ hm⟩
def uniq : List Addr → List Addr
  | [] => []
  | a :: l => if a ∈ l then uniq l else a :: uniq l
theorem uniq_mem {a : Addr} : ∀ {l : List Addr}, a ∈ uniq l ↔ a ∈ l
  | [] => Iff.rfl
  | b :: l => by
    unfold uniq
    split
    · rename_i h
      rw [uniq_mem, List.mem_cons]
      exact ⟨.inr, fun z => z.elim (fun e => e ▸ h) id⟩
    · rw [List.mem_cons, List.mem_cons, uniq_mem]
theorem uniq_nd : ∀ l : List Addr, (uniq l).Nodup
  | [] => List.nodup_nil
  | b :: l => by
    unfold uniq
    split
    · exact uniq_nd l
    · rename_i h
      exact List.nodup_cons.mpr ⟨fun z => h (uniq_mem.mp z), uniq_nd l⟩
theorem among_mem {pos : Pos} {cv : Value} : ∀ {l : List Value}, codeAmong pos l = some cv → cv ∈ l := by
  intro l
  fun_induction codeAmong pos l with
  | case1 =>
    intro h
    obtain rfl := Option.some.inj h
    simp
  | case2 _ _ _ _ _ _ _ ih =>
    intro h
    have := ih h
    simp [this]
  | case3 => exact fun h => nomatch h
def refsIn (vs : List Value) : List Addr := vs.filterMap fun v => match v with
  | .ref c => some c
  | _ => none
theorem tab_cells {H : Hp} {L : List Cell} {P : Addr} {q : Str} (t : LamX.TabS H P q) (O : Own H L) (n : NT L) : ∃ TL, TabC TL P q ∧ Own H (L ++ TL) := by
  classical
  obtain ⟨ps, hP, ht, ha⟩ := t
  obtain ⟨cs, hcs⟩ : ∃ cs, cs = uniq ((refsIn ps.toList).filter fun c => decide (H c = some (LamX.CodeO c q))) := ⟨_, rfl⟩
  have hc : ∀ c ∈ cs, H c = some (LamX.CodeO c q) := fun c h => by
    rw [hcs] at h
    exact of_decide_eq_true (List.mem_filter.mp (uniq_mem.mp h)).2
  have nd : cs.Nodup := by
    rw [hcs]
    exact uniq_nd _
  have isT : ∀ d ∈ ((P, HO.tbl ps) :: cs.map fun c => (c, LamX.CodeO c q)), H d.1 = some d.2 ∧ isTb d.2 = true := fun d hd => by
    rcases List.mem_cons.mp hd with e | e
    · rw [e]
      exact ⟨hP, rfl⟩
    · obtain ⟨c, h, rfl⟩ := List.mem_map.mp e
      exact ⟨hc c h, rfl⟩
  refine ⟨(P, .tbl ps) :: cs.map fun c => (c, LamX.CodeO c q), ⟨ps, List.mem_cons_self, ht, fun pos cv h => ?_⟩, ?_, fun d hd => ?_⟩
  · obtain ⟨c, rfl, h2⟩ := ha pos cv h
    refine ⟨c, rfl, List.mem_cons_of_mem _ (List.mem_map.mpr ⟨c, ?_, rfl⟩)⟩
    rw [hcs]
    exact uniq_mem.mpr (List.mem_filter.mpr ⟨List.mem_filterMap.mpr ⟨.ref c, among_mem h, rfl⟩, decide_eq_true h2⟩)
  · rw [List.map_append]
    refine List.nodup_append.mpr ⟨O.1, ?_, fun a h1 b h2 e => ?_⟩
    · show (P :: (cs.map fun c => (c, LamX.CodeO c q)).map (·.1)).Nodup
      rw [List.map_map]
      have : cs.map ((fun x : Cell => x.1) ∘ fun c => (c, LamX.CodeO c q)) = cs := by
        show cs.map (fun c => c) = cs
        exact List.map_id' cs
      rw [this]
      refine List.nodup_cons.mpr ⟨fun z => ?_, nd⟩
      have := hc P z
      rw [hP] at this
      exact LamX.codeO_ne ps (Option.some.inj this).symm
    · obtain ⟨d, hd, rfl⟩ := List.mem_map.mp h1
      obtain ⟨d2, hd2, rfl⟩ := List.mem_map.mp h2
      have g1 := O.2 d hd
      obtain ⟨g2, g3⟩ := isT d2 hd2
      rw [e, g2] at g1
      have := n d hd
      rw [← Option.some.inj g1, g3] at this
      cases this
  · rcases List.mem_append.mp hd with h | h
    · exact O.2 d h
    · exact (isT d h).1
/-- x(lambda: ..) by cells -/
theorem lam_go {P : Addr} {q : Str} {TT : (XK → Hp → VK → Prop) → Hp → VK → Prop} {t : XK → TE} {σ : L2.St} {H : Hp} {Q : VK} {L TL : List Cell} (O : Own H (L ++ TL)) (n : NT L) (ht : TabC TL P q)
    (k : ∀ (H1 : Hp) (TL' : List Cell), TabC TL' P q → Own H1 (L ++ TL') → TT (fun E H' Q' => t E σ H' Q') H1 Q) : LamX.tLam [(P, q)] TT t σ H Q := by
  refine ⟨fun p hp => ?_, fun H1 e T1 => ?_⟩
  · rw [List.mem_singleton.mp hp]
    exact ht.tab fun c hc => O.2 c (List.mem_append_right _ hc)
  · obtain ⟨TL', h1, h2⟩ := tab_cells (T1 (P, q) List.mem_cons_self) ((O.left).extN n e) n
    exact k H1 TL' h1 h2
-- WwField
theorem lk_hd {f : Str} {y : V} {fs : List (Str × V)} : ((f, y) :: fs).lookup f = some y := by simp [List.lookup]
theorem lk_tl {f g : Str} {y : V} {fs : List (Str × V)} (h : (g == f) = false) : ((f, y) :: fs).lookup g = fs.lookup g := by simp [List.lookup, h]
theorem pf_hd {f : Str} {y z : V} {fs : List (Str × V)} : putF f z ((f, y) :: fs) = (f, z) :: fs := by unfold putF; rw [if_pos rfl]
theorem pf_tl {f g : Str} {y z : V} {fs : List (Str × V)} (h : (g == f) = false) : putF g z ((f, y) :: fs) = (f, y) :: putF g z fs := by
  have e : ¬ f = g := fun q => by rw [q, beq_self_eq_true] at h; cases h
  show (if f = g then _ else _) = _
  rw [if_neg e]
theorem pf_nil {f : Str} {z : V} : putF f z [] = [(f, z)] := rfl
theorem ne_ask_others_diary : (("ask_others" : Str) == ("diary" : Str)) = false := by decide +kernel
theorem ne_ask_others_last : (("ask_others" : Str) == ("last" : Str)) = false := by decide +kernel
theorem ne_ask_others_own : (("ask_others" : Str) == ("own" : Str)) = false := by decide +kernel
theorem ne_ask_others_shared : (("ask_others" : Str) == ("shared" : Str)) = false := by decide +kernel
theorem ne_behind_is_back : (("behind" : Str) == ("is_back" : Str)) = false := by decide +kernel
theorem ne_behind_is_in : (("behind" : Str) == ("is_in" : Str)) = false := by decide +kernel
theorem ne_behind_is_late : (("behind" : Str) == ("is_late" : Str)) = false := by decide +kernel
theorem ne_behind_ways : (("behind" : Str) == ("ways" : Str)) = false := by decide +kernel
theorem ne_bring_behind : (("bring" : Str) == ("behind" : Str)) = false := by decide +kernel
theorem ne_bring_diary : (("bring" : Str) == ("diary" : Str)) = false := by decide +kernel
theorem ne_bring_held : (("bring" : Str) == ("held" : Str)) = false := by decide +kernel
theorem ne_bring_is_back : (("bring" : Str) == ("is_back" : Str)) = false := by decide +kernel
theorem ne_bring_is_in : (("bring" : Str) == ("is_in" : Str)) = false := by decide +kernel
theorem ne_bring_is_late : (("bring" : Str) == ("is_late" : Str)) = false := by decide +kernel
theorem ne_bring_sets : (("bring" : Str) == ("sets" : Str)) = false := by decide +kernel
theorem ne_bring_title : (("bring" : Str) == ("title" : Str)) = false := by decide +kernel
theorem ne_bring_ways : (("bring" : Str) == ("ways" : Str)) = false := by decide +kernel
theorem ne_change_behind : (("change" : Str) == ("behind" : Str)) = false := by decide +kernel
theorem ne_change_diary : (("change" : Str) == ("diary" : Str)) = false := by decide +kernel
theorem ne_change_held : (("change" : Str) == ("held" : Str)) = false := by decide +kernel
theorem ne_change_is_back : (("change" : Str) == ("is_back" : Str)) = false := by decide +kernel
theorem ne_change_is_in : (("change" : Str) == ("is_in" : Str)) = false := by decide +kernel
theorem ne_change_is_late : (("change" : Str) == ("is_late" : Str)) = false := by decide +kernel
theorem ne_change_last : (("change" : Str) == ("last" : Str)) = false := by decide +kernel
theorem ne_change_own : (("change" : Str) == ("own" : Str)) = false := by decide +kernel
theorem ne_change_sets : (("change" : Str) == ("sets" : Str)) = false := by decide +kernel
theorem ne_change_shared : (("change" : Str) == ("shared" : Str)) = false := by decide +kernel
theorem ne_change_title : (("change" : Str) == ("title" : Str)) = false := by decide +kernel
theorem ne_change_ways : (("change" : Str) == ("ways" : Str)) = false := by decide +kernel
theorem ne_diary_behind : (("diary" : Str) == ("behind" : Str)) = false := by decide +kernel
theorem ne_diary_is_back : (("diary" : Str) == ("is_back" : Str)) = false := by decide +kernel
theorem ne_diary_is_in : (("diary" : Str) == ("is_in" : Str)) = false := by decide +kernel
theorem ne_diary_is_late : (("diary" : Str) == ("is_late" : Str)) = false := by decide +kernel
theorem ne_diary_title : (("diary" : Str) == ("title" : Str)) = false := by decide +kernel
theorem ne_diary_ways : (("diary" : Str) == ("ways" : Str)) = false := by decide +kernel
theorem ne_far_diary : (("far" : Str) == ("diary" : Str)) = false := by decide +kernel
theorem ne_far_last : (("far" : Str) == ("last" : Str)) = false := by decide +kernel
theorem ne_far_own : (("far" : Str) == ("own" : Str)) = false := by decide +kernel
theorem ne_far_shared : (("far" : Str) == ("shared" : Str)) = false := by decide +kernel
theorem ne_holds_behind : (("holds" : Str) == ("behind" : Str)) = false := by decide +kernel
theorem ne_holds_diary : (("holds" : Str) == ("diary" : Str)) = false := by decide +kernel
theorem ne_holds_is_back : (("holds" : Str) == ("is_back" : Str)) = false := by decide +kernel
theorem ne_holds_is_in : (("holds" : Str) == ("is_in" : Str)) = false := by decide +kernel
theorem ne_holds_is_late : (("holds" : Str) == ("is_late" : Str)) = false := by decide +kernel
theorem ne_holds_sets : (("holds" : Str) == ("sets" : Str)) = false := by decide +kernel
theorem ne_holds_title : (("holds" : Str) == ("title" : Str)) = false := by decide +kernel
theorem ne_holds_ways : (("holds" : Str) == ("ways" : Str)) = false := by decide +kernel
theorem ne_home_behind : (("home" : Str) == ("behind" : Str)) = false := by decide +kernel
theorem ne_home_diary : (("home" : Str) == ("diary" : Str)) = false := by decide +kernel
theorem ne_home_held : (("home" : Str) == ("held" : Str)) = false := by decide +kernel
theorem ne_home_is_back : (("home" : Str) == ("is_back" : Str)) = false := by decide +kernel
theorem ne_home_is_in : (("home" : Str) == ("is_in" : Str)) = false := by decide +kernel
theorem ne_home_is_late : (("home" : Str) == ("is_late" : Str)) = false := by decide +kernel
theorem ne_home_sets : (("home" : Str) == ("sets" : Str)) = false := by decide +kernel
theorem ne_home_title : (("home" : Str) == ("title" : Str)) = false := by decide +kernel
theorem ne_home_ways : (("home" : Str) == ("ways" : Str)) = false := by decide +kernel
theorem ne_is_back_ways : (("is_back" : Str) == ("ways" : Str)) = false := by decide +kernel
theorem ne_is_dirty_block : (("is_dirty" : Str) == ("block" : Str)) = false := by decide +kernel
theorem ne_is_dirty_numbers : (("is_dirty" : Str) == ("numbers" : Str)) = false := by decide +kernel
theorem ne_is_in_is_back : (("is_in" : Str) == ("is_back" : Str)) = false := by decide +kernel
theorem ne_is_in_ways : (("is_in" : Str) == ("ways" : Str)) = false := by decide +kernel
theorem ne_is_late_is_back : (("is_late" : Str) == ("is_back" : Str)) = false := by decide +kernel
theorem ne_is_late_is_in : (("is_late" : Str) == ("is_in" : Str)) = false := by decide +kernel
theorem ne_is_late_ways : (("is_late" : Str) == ("ways" : Str)) = false := by decide +kernel
theorem ne_last_diary : (("last" : Str) == ("diary" : Str)) = false := by decide +kernel
theorem ne_line_of_behind : (("line_of" : Str) == ("behind" : Str)) = false := by decide +kernel
theorem ne_line_of_diary : (("line_of" : Str) == ("diary" : Str)) = false := by decide +kernel
theorem ne_line_of_is_back : (("line_of" : Str) == ("is_back" : Str)) = false := by decide +kernel
theorem ne_line_of_is_in : (("line_of" : Str) == ("is_in" : Str)) = false := by decide +kernel
theorem ne_line_of_is_late : (("line_of" : Str) == ("is_late" : Str)) = false := by decide +kernel
theorem ne_line_of_sets : (("line_of" : Str) == ("sets" : Str)) = false := by decide +kernel
theorem ne_line_of_title : (("line_of" : Str) == ("title" : Str)) = false := by decide +kernel
theorem ne_line_of_ways : (("line_of" : Str) == ("ways" : Str)) = false := by decide +kernel
theorem ne_lines_of_behind : (("lines_of" : Str) == ("behind" : Str)) = false := by decide +kernel
theorem ne_lines_of_diary : (("lines_of" : Str) == ("diary" : Str)) = false := by decide +kernel
theorem ne_lines_of_is_back : (("lines_of" : Str) == ("is_back" : Str)) = false := by decide +kernel
theorem ne_lines_of_is_in : (("lines_of" : Str) == ("is_in" : Str)) = false := by decide +kernel
theorem ne_lines_of_is_late : (("lines_of" : Str) == ("is_late" : Str)) = false := by decide +kernel
theorem ne_lines_of_sets : (("lines_of" : Str) == ("sets" : Str)) = false := by decide +kernel
theorem ne_lines_of_title : (("lines_of" : Str) == ("title" : Str)) = false := by decide +kernel
theorem ne_lines_of_ways : (("lines_of" : Str) == ("ways" : Str)) = false := by decide +kernel
theorem ne_log_diary : (("log" : Str) == ("diary" : Str)) = false := by decide +kernel
theorem ne_log_last : (("log" : Str) == ("last" : Str)) = false := by decide +kernel
theorem ne_log_own : (("log" : Str) == ("own" : Str)) = false := by decide +kernel
theorem ne_log_shared : (("log" : Str) == ("shared" : Str)) = false := by decide +kernel
theorem ne_look_behind : (("look" : Str) == ("behind" : Str)) = false := by decide +kernel
theorem ne_look_diary : (("look" : Str) == ("diary" : Str)) = false := by decide +kernel
theorem ne_look_is_back : (("look" : Str) == ("is_back" : Str)) = false := by decide +kernel
theorem ne_look_is_in : (("look" : Str) == ("is_in" : Str)) = false := by decide +kernel
theorem ne_look_is_late : (("look" : Str) == ("is_late" : Str)) = false := by decide +kernel
theorem ne_look_last : (("look" : Str) == ("last" : Str)) = false := by decide +kernel
theorem ne_look_own : (("look" : Str) == ("own" : Str)) = false := by decide +kernel
theorem ne_look_sets : (("look" : Str) == ("sets" : Str)) = false := by decide +kernel
theorem ne_look_shared : (("look" : Str) == ("shared" : Str)) = false := by decide +kernel
theorem ne_look_title : (("look" : Str) == ("title" : Str)) = false := by decide +kernel
theorem ne_look_ways : (("look" : Str) == ("ways" : Str)) = false := by decide +kernel
theorem ne_make_way_behind : (("make_way" : Str) == ("behind" : Str)) = false := by decide +kernel
theorem ne_make_way_diary : (("make_way" : Str) == ("diary" : Str)) = false := by decide +kernel
theorem ne_make_way_is_back : (("make_way" : Str) == ("is_back" : Str)) = false := by decide +kernel
theorem ne_make_way_is_in : (("make_way" : Str) == ("is_in" : Str)) = false := by decide +kernel
theorem ne_make_way_is_late : (("make_way" : Str) == ("is_late" : Str)) = false := by decide +kernel
theorem ne_make_way_sets : (("make_way" : Str) == ("sets" : Str)) = false := by decide +kernel
theorem ne_make_way_title : (("make_way" : Str) == ("title" : Str)) = false := by decide +kernel
theorem ne_make_way_ways : (("make_way" : Str) == ("ways" : Str)) = false := by decide +kernel
theorem ne_moves_diary : (("moves" : Str) == ("diary" : Str)) = false := by decide +kernel
theorem ne_moves_last : (("moves" : Str) == ("last" : Str)) = false := by decide +kernel
theorem ne_moves_own : (("moves" : Str) == ("own" : Str)) = false := by decide +kernel
theorem ne_moves_shared : (("moves" : Str) == ("shared" : Str)) = false := by decide +kernel
theorem ne_near_diary : (("near" : Str) == ("diary" : Str)) = false := by decide +kernel
theorem ne_near_last : (("near" : Str) == ("last" : Str)) = false := by decide +kernel
theorem ne_near_own : (("near" : Str) == ("own" : Str)) = false := by decide +kernel
theorem ne_near_shared : (("near" : Str) == ("shared" : Str)) = false := by decide +kernel
theorem ne_need_diary : (("need" : Str) == ("diary" : Str)) = false := by decide +kernel
theorem ne_need_last : (("need" : Str) == ("last" : Str)) = false := by decide +kernel
theorem ne_need_own : (("need" : Str) == ("own" : Str)) = false := by decide +kernel
theorem ne_need_shared : (("need" : Str) == ("shared" : Str)) = false := by decide +kernel
theorem ne_note_behind : (("note" : Str) == ("behind" : Str)) = false := by decide +kernel
theorem ne_note_diary : (("note" : Str) == ("diary" : Str)) = false := by decide +kernel
theorem ne_note_is_back : (("note" : Str) == ("is_back" : Str)) = false := by decide +kernel
theorem ne_note_is_in : (("note" : Str) == ("is_in" : Str)) = false := by decide +kernel
theorem ne_note_is_late : (("note" : Str) == ("is_late" : Str)) = false := by decide +kernel
theorem ne_note_sets : (("note" : Str) == ("sets" : Str)) = false := by decide +kernel
theorem ne_note_title : (("note" : Str) == ("title" : Str)) = false := by decide +kernel
theorem ne_note_ways : (("note" : Str) == ("ways" : Str)) = false := by decide +kernel
theorem ne_numbers_block : (("numbers" : Str) == ("block" : Str)) = false := by decide +kernel
theorem ne_own_diary : (("own" : Str) == ("diary" : Str)) = false := by decide +kernel
theorem ne_own_last : (("own" : Str) == ("last" : Str)) = false := by decide +kernel
theorem ne_own_shared : (("own" : Str) == ("shared" : Str)) = false := by decide +kernel
theorem ne_pass_cell_behind : (("pass_cell" : Str) == ("behind" : Str)) = false := by decide +kernel
theorem ne_pass_cell_diary : (("pass_cell" : Str) == ("diary" : Str)) = false := by decide +kernel
theorem ne_pass_cell_is_back : (("pass_cell" : Str) == ("is_back" : Str)) = false := by decide +kernel
theorem ne_pass_cell_is_in : (("pass_cell" : Str) == ("is_in" : Str)) = false := by decide +kernel
theorem ne_pass_cell_is_late : (("pass_cell" : Str) == ("is_late" : Str)) = false := by decide +kernel
theorem ne_pass_cell_sets : (("pass_cell" : Str) == ("sets" : Str)) = false := by decide +kernel
theorem ne_pass_cell_title : (("pass_cell" : Str) == ("title" : Str)) = false := by decide +kernel
theorem ne_pass_cell_ways : (("pass_cell" : Str) == ("ways" : Str)) = false := by decide +kernel
theorem ne_pass_home_behind : (("pass_home" : Str) == ("behind" : Str)) = false := by decide +kernel
theorem ne_pass_home_diary : (("pass_home" : Str) == ("diary" : Str)) = false := by decide +kernel
theorem ne_pass_home_is_back : (("pass_home" : Str) == ("is_back" : Str)) = false := by decide +kernel
theorem ne_pass_home_is_in : (("pass_home" : Str) == ("is_in" : Str)) = false := by decide +kernel
theorem ne_pass_home_is_late : (("pass_home" : Str) == ("is_late" : Str)) = false := by decide +kernel
theorem ne_pass_home_sets : (("pass_home" : Str) == ("sets" : Str)) = false := by decide +kernel
theorem ne_pass_home_title : (("pass_home" : Str) == ("title" : Str)) = false := by decide +kernel
theorem ne_pass_home_ways : (("pass_home" : Str) == ("ways" : Str)) = false := by decide +kernel
theorem ne_reach_behind : (("reach" : Str) == ("behind" : Str)) = false := by decide +kernel
theorem ne_reach_diary : (("reach" : Str) == ("diary" : Str)) = false := by decide +kernel
theorem ne_reach_is_back : (("reach" : Str) == ("is_back" : Str)) = false := by decide +kernel
theorem ne_reach_is_in : (("reach" : Str) == ("is_in" : Str)) = false := by decide +kernel
theorem ne_reach_is_late : (("reach" : Str) == ("is_late" : Str)) = false := by decide +kernel
theorem ne_reach_sets : (("reach" : Str) == ("sets" : Str)) = false := by decide +kernel
theorem ne_reach_title : (("reach" : Str) == ("title" : Str)) = false := by decide +kernel
theorem ne_reach_ways : (("reach" : Str) == ("ways" : Str)) = false := by decide +kernel
theorem ne_sets_behind : (("sets" : Str) == ("behind" : Str)) = false := by decide +kernel
theorem ne_sets_diary : (("sets" : Str) == ("diary" : Str)) = false := by decide +kernel
theorem ne_sets_is_back : (("sets" : Str) == ("is_back" : Str)) = false := by decide +kernel
theorem ne_sets_is_in : (("sets" : Str) == ("is_in" : Str)) = false := by decide +kernel
theorem ne_sets_is_late : (("sets" : Str) == ("is_late" : Str)) = false := by decide +kernel
theorem ne_sets_title : (("sets" : Str) == ("title" : Str)) = false := by decide +kernel
theorem ne_sets_ways : (("sets" : Str) == ("ways" : Str)) = false := by decide +kernel
theorem ne_settle_behind : (("settle" : Str) == ("behind" : Str)) = false := by decide +kernel
theorem ne_settle_diary : (("settle" : Str) == ("diary" : Str)) = false := by decide +kernel
theorem ne_settle_is_back : (("settle" : Str) == ("is_back" : Str)) = false := by decide +kernel
theorem ne_settle_is_in : (("settle" : Str) == ("is_in" : Str)) = false := by decide +kernel
theorem ne_settle_is_late : (("settle" : Str) == ("is_late" : Str)) = false := by decide +kernel
theorem ne_settle_last : (("settle" : Str) == ("last" : Str)) = false := by decide +kernel
theorem ne_settle_own : (("settle" : Str) == ("own" : Str)) = false := by decide +kernel
theorem ne_settle_sets : (("settle" : Str) == ("sets" : Str)) = false := by decide +kernel
theorem ne_settle_shared : (("settle" : Str) == ("shared" : Str)) = false := by decide +kernel
theorem ne_settle_title : (("settle" : Str) == ("title" : Str)) = false := by decide +kernel
theorem ne_settle_ways : (("settle" : Str) == ("ways" : Str)) = false := by decide +kernel
theorem ne_shared_diary : (("shared" : Str) == ("diary" : Str)) = false := by decide +kernel
theorem ne_shared_last : (("shared" : Str) == ("last" : Str)) = false := by decide +kernel
theorem ne_title_behind : (("title" : Str) == ("behind" : Str)) = false := by decide +kernel
theorem ne_title_is_back : (("title" : Str) == ("is_back" : Str)) = false := by decide +kernel
theorem ne_title_is_in : (("title" : Str) == ("is_in" : Str)) = false := by decide +kernel
theorem ne_title_is_late : (("title" : Str) == ("is_late" : Str)) = false := by decide +kernel
theorem ne_title_ways : (("title" : Str) == ("ways" : Str)) = false := by decide +kernel
theorem ne_touch_behind : (("touch" : Str) == ("behind" : Str)) = false := by decide +kernel
theorem ne_touch_diary : (("touch" : Str) == ("diary" : Str)) = false := by decide +kernel
theorem ne_touch_is_back : (("touch" : Str) == ("is_back" : Str)) = false := by decide +kernel
theorem ne_touch_is_in : (("touch" : Str) == ("is_in" : Str)) = false := by decide +kernel
theorem ne_touch_is_late : (("touch" : Str) == ("is_late" : Str)) = false := by decide +kernel
theorem ne_touch_sets : (("touch" : Str) == ("sets" : Str)) = false := by decide +kernel
theorem ne_touch_title : (("touch" : Str) == ("title" : Str)) = false := by decide +kernel
theorem ne_touch_ways : (("touch" : Str) == ("ways" : Str)) = false := by decide +kernel
theorem ne_yield_up_behind : (("yield_up" : Str) == ("behind" : Str)) = false := by decide +kernel
theorem ne_yield_up_diary : (("yield_up" : Str) == ("diary" : Str)) = false := by decide +kernel
theorem ne_yield_up_is_back : (("yield_up" : Str) == ("is_back" : Str)) = false := by decide +kernel
theorem ne_yield_up_is_in : (("yield_up" : Str) == ("is_in" : Str)) = false := by decide +kernel
theorem ne_yield_up_is_late : (("yield_up" : Str) == ("is_late" : Str)) = false := by decide +kernel
theorem ne_yield_up_sets : (("yield_up" : Str) == ("sets" : Str)) = false := by decide +kernel
theorem ne_yield_up_title : (("yield_up" : Str) == ("title" : Str)) = false := by decide +kernel
theorem ne_yield_up_ways : (("yield_up" : Str) == ("ways" : Str)) = false := by decide +kernel
theorem lk_Far_held {v0 : V} : (fFar v0).lookup ("held" : Str) = some v0 := lk_hd
theorem no_Far_bring {v0 : V} : (fFar v0).lookup ("bring" : Str) = none := (lk_tl ne_bring_held).trans (rfl)
theorem no_Far_home {v0 : V} : (fFar v0).lookup ("home" : Str) = none := (lk_tl ne_home_held).trans (rfl)
theorem no_Far_change {v0 : V} : (fFar v0).lookup ("change" : Str) = none := (lk_tl ne_change_held).trans (rfl)
theorem pf_Far_held {v0 z : V} : putF "held" z (fFar v0) = fFar z := by
  unfold fFar
  rw [pf_hd]
theorem lk_Line_block {v0 v1 v2 : V} : (fLine v0 v1 v2).lookup ("block" : Str) = some v0 := lk_hd
theorem lk_Line_numbers {v0 v1 v2 : V} : (fLine v0 v1 v2).lookup ("numbers" : Str) = some v1 := (lk_tl ne_numbers_block).trans lk_hd
theorem lk_Line_is_dirty {v0 v1 v2 : V} : (fLine v0 v1 v2).lookup ("is_dirty" : Str) = some v2 := (lk_tl ne_is_dirty_block).trans ((lk_tl ne_is_dirty_numbers).trans lk_hd)
theorem pf_Line_block {v0 v1 v2 z : V} : putF "block" z (fLine v0 v1 v2) = fLine z v1 v2 := by
  unfold fLine
  rw [pf_hd]
theorem pf_Line_numbers {v0 v1 v2 z : V} : putF "numbers" z (fLine v0 v1 v2) = fLine v0 z v2 := by
  unfold fLine
  rw [pf_tl ne_numbers_block]
  rw [pf_hd]
theorem pf_Line_is_dirty {v0 v1 v2 z : V} : putF "is_dirty" z (fLine v0 v1 v2) = fLine v0 v1 z := by
  unfold fLine
  rw [pf_tl ne_is_dirty_block]
  rw [pf_tl ne_is_dirty_numbers]
  rw [pf_hd]
theorem lk_Room_ways {v0 v1 v2 v3 v4 v5 v6 v7 : V} : (fRoom v0 v1 v2 v3 v4 v5 v6 v7).lookup ("ways" : Str) = some v0 := lk_hd
theorem lk_Room_is_back {v0 v1 v2 v3 v4 v5 v6 v7 : V} : (fRoom v0 v1 v2 v3 v4 v5 v6 v7).lookup ("is_back" : Str) = some v1 := (lk_tl ne_is_back_ways).trans lk_hd
theorem lk_Room_is_in {v0 v1 v2 v3 v4 v5 v6 v7 : V} : (fRoom v0 v1 v2 v3 v4 v5 v6 v7).lookup ("is_in" : Str) = some v2 := (lk_tl ne_is_in_ways).trans ((lk_tl ne_is_in_is_back).trans lk_hd)
theorem lk_Room_is_late {v0 v1 v2 v3 v4 v5 v6 v7 : V} : (fRoom v0 v1 v2 v3 v4 v5 v6 v7).lookup ("is_late" : Str) = some v3 := (lk_tl ne_is_late_ways).trans ((lk_tl ne_is_late_is_back).trans ((lk_tl ne_is_late_is_in).trans lk_hd))
theorem lk_Room_behind {v0 v1 v2 v3 v4 v5 v6 v7 : V} : (fRoom v0 v1 v2 v3 v4 v5 v6 v7).lookup ("behind" : Str) = some v4 := (lk_tl ne_behind_ways).trans ((lk_tl ne_behind_is_back).trans ((lk_tl ne_behind_is_in).trans ((lk_tl ne_behind_is_late).trans lk_hd)))
theorem lk_Room_title {v0 v1 v2 v3 v4 v5 v6 v7 : V} : (fRoom v0 v1 v2 v3 v4 v5 v6 v7).lookup ("title" : Str) = some v5 := (lk_tl ne_title_ways).trans ((lk_tl ne_title_is_back).trans ((lk_tl ne_title_is_in).trans ((lk_tl ne_title_is_late).trans ((lk_tl ne_title_behind).trans lk_hd))))
theorem lk_Room_diary {v0 v1 v2 v3 v4 v5 v6 v7 : V} : (fRoom v0 v1 v2 v3 v4 v5 v6 v7).lookup ("diary" : Str) = some v6 := (lk_tl ne_diary_ways).trans ((lk_tl ne_diary_is_back).trans ((lk_tl ne_diary_is_in).trans ((lk_tl ne_diary_is_late).trans ((lk_tl ne_diary_behind).trans ((lk_tl ne_diary_title).trans lk_hd)))))
theorem lk_Room_sets {v0 v1 v2 v3 v4 v5 v6 v7 : V} : (fRoom v0 v1 v2 v3 v4 v5 v6 v7).lookup ("sets" : Str) = some v7 := (lk_tl ne_sets_ways).trans ((lk_tl ne_sets_is_back).trans ((lk_tl ne_sets_is_in).trans ((lk_tl ne_sets_is_late).trans ((lk_tl ne_sets_behind).trans ((lk_tl ne_sets_title).trans ((lk_tl ne_sets_diary).trans lk_hd))))))
theorem no_Room_lines_of {v0 v1 v2 v3 v4 v5 v6 v7 : V} : (fRoom v0 v1 v2 v3 v4 v5 v6 v7).lookup ("lines_of" : Str) = none := (lk_tl ne_lines_of_ways).trans ((lk_tl ne_lines_of_is_back).trans ((lk_tl ne_lines_of_is_in).trans ((lk_tl ne_lines_of_is_late).trans ((lk_tl ne_lines_of_behind).trans ((lk_tl ne_lines_of_title).trans ((lk_tl ne_lines_of_diary).trans ((lk_tl ne_lines_of_sets).trans (rfl))))))))
theorem no_Room_line_of {v0 v1 v2 v3 v4 v5 v6 v7 : V} : (fRoom v0 v1 v2 v3 v4 v5 v6 v7).lookup ("line_of" : Str) = none := (lk_tl ne_line_of_ways).trans ((lk_tl ne_line_of_is_back).trans ((lk_tl ne_line_of_is_in).trans ((lk_tl ne_line_of_is_late).trans ((lk_tl ne_line_of_behind).trans ((lk_tl ne_line_of_title).trans ((lk_tl ne_line_of_diary).trans ((lk_tl ne_line_of_sets).trans (rfl))))))))
theorem no_Room_note {v0 v1 v2 v3 v4 v5 v6 v7 : V} : (fRoom v0 v1 v2 v3 v4 v5 v6 v7).lookup ("note" : Str) = none := (lk_tl ne_note_ways).trans ((lk_tl ne_note_is_back).trans ((lk_tl ne_note_is_in).trans ((lk_tl ne_note_is_late).trans ((lk_tl ne_note_behind).trans ((lk_tl ne_note_title).trans ((lk_tl ne_note_diary).trans ((lk_tl ne_note_sets).trans (rfl))))))))
theorem no_Room_pass_home {v0 v1 v2 v3 v4 v5 v6 v7 : V} : (fRoom v0 v1 v2 v3 v4 v5 v6 v7).lookup ("pass_home" : Str) = none := (lk_tl ne_pass_home_ways).trans ((lk_tl ne_pass_home_is_back).trans ((lk_tl ne_pass_home_is_in).trans ((lk_tl ne_pass_home_is_late).trans ((lk_tl ne_pass_home_behind).trans ((lk_tl ne_pass_home_title).trans ((lk_tl ne_pass_home_diary).trans ((lk_tl ne_pass_home_sets).trans (rfl))))))))
theorem no_Room_pass_cell {v0 v1 v2 v3 v4 v5 v6 v7 : V} : (fRoom v0 v1 v2 v3 v4 v5 v6 v7).lookup ("pass_cell" : Str) = none := (lk_tl ne_pass_cell_ways).trans ((lk_tl ne_pass_cell_is_back).trans ((lk_tl ne_pass_cell_is_in).trans ((lk_tl ne_pass_cell_is_late).trans ((lk_tl ne_pass_cell_behind).trans ((lk_tl ne_pass_cell_title).trans ((lk_tl ne_pass_cell_diary).trans ((lk_tl ne_pass_cell_sets).trans (rfl))))))))
theorem no_Room_make_way {v0 v1 v2 v3 v4 v5 v6 v7 : V} : (fRoom v0 v1 v2 v3 v4 v5 v6 v7).lookup ("make_way" : Str) = none := (lk_tl ne_make_way_ways).trans ((lk_tl ne_make_way_is_back).trans ((lk_tl ne_make_way_is_in).trans ((lk_tl ne_make_way_is_late).trans ((lk_tl ne_make_way_behind).trans ((lk_tl ne_make_way_title).trans ((lk_tl ne_make_way_diary).trans ((lk_tl ne_make_way_sets).trans (rfl))))))))
theorem no_Room_touch {v0 v1 v2 v3 v4 v5 v6 v7 : V} : (fRoom v0 v1 v2 v3 v4 v5 v6 v7).lookup ("touch" : Str) = none := (lk_tl ne_touch_ways).trans ((lk_tl ne_touch_is_back).trans ((lk_tl ne_touch_is_in).trans ((lk_tl ne_touch_is_late).trans ((lk_tl ne_touch_behind).trans ((lk_tl ne_touch_title).trans ((lk_tl ne_touch_diary).trans ((lk_tl ne_touch_sets).trans (rfl))))))))
theorem no_Room_reach {v0 v1 v2 v3 v4 v5 v6 v7 : V} : (fRoom v0 v1 v2 v3 v4 v5 v6 v7).lookup ("reach" : Str) = none := (lk_tl ne_reach_ways).trans ((lk_tl ne_reach_is_back).trans ((lk_tl ne_reach_is_in).trans ((lk_tl ne_reach_is_late).trans ((lk_tl ne_reach_behind).trans ((lk_tl ne_reach_title).trans ((lk_tl ne_reach_diary).trans ((lk_tl ne_reach_sets).trans (rfl))))))))
theorem no_Room_bring {v0 v1 v2 v3 v4 v5 v6 v7 : V} : (fRoom v0 v1 v2 v3 v4 v5 v6 v7).lookup ("bring" : Str) = none := (lk_tl ne_bring_ways).trans ((lk_tl ne_bring_is_back).trans ((lk_tl ne_bring_is_in).trans ((lk_tl ne_bring_is_late).trans ((lk_tl ne_bring_behind).trans ((lk_tl ne_bring_title).trans ((lk_tl ne_bring_diary).trans ((lk_tl ne_bring_sets).trans (rfl))))))))
theorem no_Room_look {v0 v1 v2 v3 v4 v5 v6 v7 : V} : (fRoom v0 v1 v2 v3 v4 v5 v6 v7).lookup ("look" : Str) = none := (lk_tl ne_look_ways).trans ((lk_tl ne_look_is_back).trans ((lk_tl ne_look_is_in).trans ((lk_tl ne_look_is_late).trans ((lk_tl ne_look_behind).trans ((lk_tl ne_look_title).trans ((lk_tl ne_look_diary).trans ((lk_tl ne_look_sets).trans (rfl))))))))
theorem no_Room_change {v0 v1 v2 v3 v4 v5 v6 v7 : V} : (fRoom v0 v1 v2 v3 v4 v5 v6 v7).lookup ("change" : Str) = none := (lk_tl ne_change_ways).trans ((lk_tl ne_change_is_back).trans ((lk_tl ne_change_is_in).trans ((lk_tl ne_change_is_late).trans ((lk_tl ne_change_behind).trans ((lk_tl ne_change_title).trans ((lk_tl ne_change_diary).trans ((lk_tl ne_change_sets).trans (rfl))))))))
theorem no_Room_home {v0 v1 v2 v3 v4 v5 v6 v7 : V} : (fRoom v0 v1 v2 v3 v4 v5 v6 v7).lookup ("home" : Str) = none := (lk_tl ne_home_ways).trans ((lk_tl ne_home_is_back).trans ((lk_tl ne_home_is_in).trans ((lk_tl ne_home_is_late).trans ((lk_tl ne_home_behind).trans ((lk_tl ne_home_title).trans ((lk_tl ne_home_diary).trans ((lk_tl ne_home_sets).trans (rfl))))))))
theorem no_Room_yield_up {v0 v1 v2 v3 v4 v5 v6 v7 : V} : (fRoom v0 v1 v2 v3 v4 v5 v6 v7).lookup ("yield_up" : Str) = none := (lk_tl ne_yield_up_ways).trans ((lk_tl ne_yield_up_is_back).trans ((lk_tl ne_yield_up_is_in).trans ((lk_tl ne_yield_up_is_late).trans ((lk_tl ne_yield_up_behind).trans ((lk_tl ne_yield_up_title).trans ((lk_tl ne_yield_up_diary).trans ((lk_tl ne_yield_up_sets).trans (rfl))))))))
theorem no_Room_settle {v0 v1 v2 v3 v4 v5 v6 v7 : V} : (fRoom v0 v1 v2 v3 v4 v5 v6 v7).lookup ("settle" : Str) = none := (lk_tl ne_settle_ways).trans ((lk_tl ne_settle_is_back).trans ((lk_tl ne_settle_is_in).trans ((lk_tl ne_settle_is_late).trans ((lk_tl ne_settle_behind).trans ((lk_tl ne_settle_title).trans ((lk_tl ne_settle_diary).trans ((lk_tl ne_settle_sets).trans (rfl))))))))
theorem no_Room_holds {v0 v1 v2 v3 v4 v5 v6 v7 : V} : (fRoom v0 v1 v2 v3 v4 v5 v6 v7).lookup ("holds" : Str) = none := (lk_tl ne_holds_ways).trans ((lk_tl ne_holds_is_back).trans ((lk_tl ne_holds_is_in).trans ((lk_tl ne_holds_is_late).trans ((lk_tl ne_holds_behind).trans ((lk_tl ne_holds_title).trans ((lk_tl ne_holds_diary).trans ((lk_tl ne_holds_sets).trans (rfl))))))))
theorem pf_Room_ways {v0 v1 v2 v3 v4 v5 v6 v7 z : V} : putF "ways" z (fRoom v0 v1 v2 v3 v4 v5 v6 v7) = fRoom z v1 v2 v3 v4 v5 v6 v7 := by
  unfold fRoom
  rw [pf_hd]
theorem pf_Room_is_back {v0 v1 v2 v3 v4 v5 v6 v7 z : V} : putF "is_back" z (fRoom v0 v1 v2 v3 v4 v5 v6 v7) = fRoom v0 z v2 v3 v4 v5 v6 v7 := by
  unfold fRoom
  rw [pf_tl ne_is_back_ways]
  rw [pf_hd]
theorem pf_Room_is_in {v0 v1 v2 v3 v4 v5 v6 v7 z : V} : putF "is_in" z (fRoom v0 v1 v2 v3 v4 v5 v6 v7) = fRoom v0 v1 z v3 v4 v5 v6 v7 := by
  unfold fRoom
  rw [pf_tl ne_is_in_ways]
  rw [pf_tl ne_is_in_is_back]
  rw [pf_hd]
theorem pf_Room_is_late {v0 v1 v2 v3 v4 v5 v6 v7 z : V} : putF "is_late" z (fRoom v0 v1 v2 v3 v4 v5 v6 v7) = fRoom v0 v1 v2 z v4 v5 v6 v7 := by
  unfold fRoom
  rw [pf_tl ne_is_late_ways]
  rw [pf_tl ne_is_late_is_back]
  rw [pf_tl ne_is_late_is_in]
  rw [pf_hd]
theorem pf_Room_behind {v0 v1 v2 v3 v4 v5 v6 v7 z : V} : putF "behind" z (fRoom v0 v1 v2 v3 v4 v5 v6 v7) = fRoom v0 v1 v2 v3 z v5 v6 v7 := by
  unfold fRoom
  rw [pf_tl ne_behind_ways]
  rw [pf_tl ne_behind_is_back]
  rw [pf_tl ne_behind_is_in]
  rw [pf_tl ne_behind_is_late]
  rw [pf_hd]
theorem pf_Room_title {v0 v1 v2 v3 v4 v5 v6 v7 z : V} : putF "title" z (fRoom v0 v1 v2 v3 v4 v5 v6 v7) = fRoom v0 v1 v2 v3 v4 z v6 v7 := by
  unfold fRoom
  rw [pf_tl ne_title_ways]
  rw [pf_tl ne_title_is_back]
  rw [pf_tl ne_title_is_in]
  rw [pf_tl ne_title_is_late]
  rw [pf_tl ne_title_behind]
  rw [pf_hd]
theorem pf_Room_diary {v0 v1 v2 v3 v4 v5 v6 v7 z : V} : putF "diary" z (fRoom v0 v1 v2 v3 v4 v5 v6 v7) = fRoom v0 v1 v2 v3 v4 v5 z v7 := by
  unfold fRoom
  rw [pf_tl ne_diary_ways]
  rw [pf_tl ne_diary_is_back]
  rw [pf_tl ne_diary_is_in]
  rw [pf_tl ne_diary_is_late]
  rw [pf_tl ne_diary_behind]
  rw [pf_tl ne_diary_title]
  rw [pf_hd]
theorem pf_Room_sets {v0 v1 v2 v3 v4 v5 v6 v7 z : V} : putF "sets" z (fRoom v0 v1 v2 v3 v4 v5 v6 v7) = fRoom v0 v1 v2 v3 v4 v5 v6 z := by
  unfold fRoom
  rw [pf_tl ne_sets_ways]
  rw [pf_tl ne_sets_is_back]
  rw [pf_tl ne_sets_is_in]
  rw [pf_tl ne_sets_is_late]
  rw [pf_tl ne_sets_behind]
  rw [pf_tl ne_sets_title]
  rw [pf_tl ne_sets_diary]
  rw [pf_hd]
theorem lk_Hall_diary {v0 v1 v2 v3 : V} : (fHall v0 v1 v2 v3).lookup ("diary" : Str) = some v0 := lk_hd
theorem lk_Hall_last {v0 v1 v2 v3 : V} : (fHall v0 v1 v2 v3).lookup ("last" : Str) = some v1 := (lk_tl ne_last_diary).trans lk_hd
theorem lk_Hall_shared {v0 v1 v2 v3 : V} : (fHall v0 v1 v2 v3).lookup ("shared" : Str) = some v2 := (lk_tl ne_shared_diary).trans ((lk_tl ne_shared_last).trans lk_hd)
theorem lk_Hall_own {v0 v1 v2 v3 : V} : (fHall v0 v1 v2 v3).lookup ("own" : Str) = some v3 := (lk_tl ne_own_diary).trans ((lk_tl ne_own_last).trans ((lk_tl ne_own_shared).trans lk_hd))
theorem no_Hall_need {v0 v1 v2 v3 : V} : (fHall v0 v1 v2 v3).lookup ("need" : Str) = none := (lk_tl ne_need_diary).trans ((lk_tl ne_need_last).trans ((lk_tl ne_need_shared).trans ((lk_tl ne_need_own).trans (rfl))))
theorem no_Hall_ask_others {v0 v1 v2 v3 : V} : (fHall v0 v1 v2 v3).lookup ("ask_others" : Str) = none := (lk_tl ne_ask_others_diary).trans ((lk_tl ne_ask_others_last).trans ((lk_tl ne_ask_others_shared).trans ((lk_tl ne_ask_others_own).trans (rfl))))
theorem no_Hall_look {v0 v1 v2 v3 : V} : (fHall v0 v1 v2 v3).lookup ("look" : Str) = none := (lk_tl ne_look_diary).trans ((lk_tl ne_look_last).trans ((lk_tl ne_look_shared).trans ((lk_tl ne_look_own).trans (rfl))))
theorem no_Hall_change {v0 v1 v2 v3 : V} : (fHall v0 v1 v2 v3).lookup ("change" : Str) = none := (lk_tl ne_change_diary).trans ((lk_tl ne_change_last).trans ((lk_tl ne_change_shared).trans ((lk_tl ne_change_own).trans (rfl))))
theorem no_Hall_settle {v0 v1 v2 v3 : V} : (fHall v0 v1 v2 v3).lookup ("settle" : Str) = none := (lk_tl ne_settle_diary).trans ((lk_tl ne_settle_last).trans ((lk_tl ne_settle_shared).trans ((lk_tl ne_settle_own).trans (rfl))))
theorem no_Hall_far {v0 v1 v2 v3 : V} : (fHall v0 v1 v2 v3).lookup ("far" : Str) = none := (lk_tl ne_far_diary).trans ((lk_tl ne_far_last).trans ((lk_tl ne_far_shared).trans ((lk_tl ne_far_own).trans (rfl))))
theorem no_Hall_near {v0 v1 v2 v3 : V} : (fHall v0 v1 v2 v3).lookup ("near" : Str) = none := (lk_tl ne_near_diary).trans ((lk_tl ne_near_last).trans ((lk_tl ne_near_shared).trans ((lk_tl ne_near_own).trans (rfl))))
theorem no_Hall_log {v0 v1 v2 v3 : V} : (fHall v0 v1 v2 v3).lookup ("log" : Str) = none := (lk_tl ne_log_diary).trans ((lk_tl ne_log_last).trans ((lk_tl ne_log_shared).trans ((lk_tl ne_log_own).trans (rfl))))
theorem no_Hall_moves {v0 v1 v2 v3 : V} : (fHall v0 v1 v2 v3).lookup ("moves" : Str) = none := (lk_tl ne_moves_diary).trans ((lk_tl ne_moves_last).trans ((lk_tl ne_moves_shared).trans ((lk_tl ne_moves_own).trans (rfl))))
theorem pf_Hall_diary {v0 v1 v2 v3 z : V} : putF "diary" z (fHall v0 v1 v2 v3) = fHall z v1 v2 v3 := by
  unfold fHall
  rw [pf_hd]
theorem pf_Hall_last {v0 v1 v2 v3 z : V} : putF "last" z (fHall v0 v1 v2 v3) = fHall v0 z v2 v3 := by
  unfold fHall
  rw [pf_tl ne_last_diary]
  rw [pf_hd]
theorem pf_Hall_shared {v0 v1 v2 v3 z : V} : putF "shared" z (fHall v0 v1 v2 v3) = fHall v0 v1 z v3 := by
  unfold fHall
  rw [pf_tl ne_shared_diary]
  rw [pf_tl ne_shared_last]
  rw [pf_hd]
theorem pf_Hall_own {v0 v1 v2 v3 z : V} : putF "own" z (fHall v0 v1 v2 v3) = fHall v0 v1 v2 z := by
  unfold fHall
  rw [pf_tl ne_own_diary]
  rw [pf_tl ne_own_last]
  rw [pf_tl ne_own_shared]
  rw [pf_hd]
-- WwPure
/-! ### plain facts of the rooms -/
theorem ix_lt {r : Rm} (h : 0 < r.ss.length) (b : Nat) : r.ix b < r.ss.length := Nat.mod_lt _ h
theorem ls_get {r : Rm} (h : 0 < r.ss.length) (b : Nat) : r.ss[r.ix b]? = some (r.ls b) := by
  unfold Rm.ls
  rw [List.getD_eq_getElem?_getD, List.getElem?_eq_getElem (ix_lt h b)]
  rfl
theorem ls_mem {r : Rm} (h : 0 < r.ss.length) (b : Nat) : r.ls b ∈ r.ss := List.mem_of_getElem? (ls_get h b)
theorem put_len (r : Rm) (b : Nat) (ls : List Ln) : (r.put b ls).ss.length = r.ss.length := by unfold Rm.put; simp
theorem put_ru (r : Rm) (b : Nat) (ls : List Ln) : (r.put b ls).ru = r.ru := rfl
theorem put_ix (r : Rm) (b c : Nat) (ls : List Ln) : (r.put b ls).ix c = r.ix c := by unfold Rm.ix; rw [put_len]
theorem ls_put {r : Rm} (h : 0 < r.ss.length) (b : Nat) (ls : List Ln) : (r.put b ls).ls b = ls := by
  unfold Rm.ls
  rw [put_ix]
  unfold Rm.put
  rw [List.getD_eq_getElem?_getD, List.getElem?_set_self (ix_lt h b)]
  rfl
theorem ls_put_ne {r : Rm} {b c : Nat} {ls : List Ln} (h : r.ix c ≠ r.ix b) : (r.put b ls).ls c = r.ls c := by
  unfold Rm.ls
  rw [put_ix]
  unfold Rm.put
  rw [List.getD_eq_getElem?_getD, List.getElem?_set_ne (Ne.symm h), ← List.getD_eq_getElem?_getD]
theorem put_put (r : Rm) (b : Nat) (ls ls' : List Ln) : (r.put b ls).put b ls' = r.put b ls' := by
  unfold Rm.put
  simp only [Rm.ix, List.length_set, List.set_set]
theorem put_self {r : Rm} (h : 0 < r.ss.length) (b : Nat) : r.put b (r.ls b) = r := by
  unfold Rm.put
  have : r.ss.set (r.ix b) (r.ls b) = r.ss := by
    apply List.ext_getElem?
    intro i
    by_cases e : r.ix b = i
    · subst e
      rw [List.getElem?_set_self (ix_lt h b), ls_get h b]
    · rw [List.getElem?_set_ne e]
  rw [this]
theorem put_ok {r : Rm} (h : RmOk r) {b : Nat} {ls : List Ln} (hl : LsOk r.ru ls) : RmOk (r.put b ls) := by
  refine ⟨by rw [put_len]; exact h.s0, by rw [put_len]; exact h.s4, h.ru, fun ls' hm => ?_⟩
  rcases List.mem_or_eq_of_mem_set hm with hm | e
  · exact h.ln _ hm
  · rw [e]
    exact hl
theorem RmOk.ls {r : Rm} (h : RmOk r) (b : Nat) : LsOk r.ru (r.ls b) := h.ln _ (ls_mem h.s0 b)
theorem fnd_some {b : Nat} : ∀ {ls : List Ln} {i : Nat}, fnd b ls = some i → ∃ l, ls[i]? = some l ∧ l.b = b ∧ ∀ (m : Nat) (l' : Ln), m < i → ls[m]? = some l' → l'.b ≠ b
  | [], i, h => by cases h
  | l :: r, i, h => by
    unfold fnd at h
    by_cases e : l.b = b
    · rw [if_pos e] at h
      cases h
      exact ⟨l, rfl, e, fun m l' hm => by omega⟩
    · rw [if_neg e] at h
      cases hr : fnd b r with
      | none =>
        rw [hr] at h
        cases h
      | some j =>
        rw [hr] at h
        have h2 : j + 1 = i := Option.some.inj h
        subst h2
        obtain ⟨l1, h1, h2, h3⟩ := fnd_some hr
        refine ⟨l1, h1, h2, fun m l' hm hl => ?_⟩
        cases m with
        | zero =>
          have : l = l' := Option.some.inj hl
          rw [← this]
          exact e
        | succ m => exact h3 m l' (by omega) hl
theorem fnd_none {b : Nat} : ∀ {ls : List Ln}, fnd b ls = none → ∀ l ∈ ls, l.b ≠ b
  | [], _, l, hl => by cases hl
  | a :: r, h, l, hl => by
    unfold fnd at h
    by_cases e : a.b = b
    · rw [if_pos e] at h
      cases h
    · rw [if_neg e] at h
      rcases List.mem_cons.mp hl with e' | hm
      · rw [e']
        exact e
      · refine fnd_none ?_ l hm
        cases hr : fnd b r with
        | none => rfl
        | some j =>
          rw [hr] at h
          cases h
theorem fnd_lt {b : Nat} {ls : List Ln} {i : Nat} (h : fnd b ls = some i) : i < ls.length := by
  obtain ⟨l, hl, _⟩ := fnd_some h
  exact (List.getElem?_eq_some_iff.mp hl).1
section
variable {α : Type} {lt : Bool} {ls : List α} {i : Nat}
theorem touch_len (h : i < ls.length) : (touchL lt ls i).length = ls.length := by
  unfold touchL
  split
  · rw [List.length_append, List.length_eraseIdx_of_lt h, List.getElem?_eq_getElem h]
    show ls.length - 1 + 1 = ls.length
    omega
  · rfl
theorem touch_mem {l : α} (h : l ∈ touchL lt ls i) : l ∈ ls := by
  unfold touchL at h
  split at h
  · rcases List.mem_append.mp h with h | h
    · exact List.mem_of_mem_eraseIdx h
    · cases e : ls[i]? with
      | none =>
        rw [e] at h
        cases h
      | some x =>
        rw [e] at h
        have : l = x := by simpa using h
        rw [this]
        exact List.mem_of_getElem? e
  · exact h
theorem touchI_lt (h : i < ls.length) : touchI lt ls i < ls.length := by
  unfold touchI
  split <;> omega
theorem touch_get (h : i < ls.length) : (touchL lt ls i)[touchI lt ls i]? = ls[i]? := by
  unfold touchL touchI
  split
  · rw [List.getElem?_append_right (by rw [List.length_eraseIdx_of_lt h]; omega), List.length_eraseIdx_of_lt h, List.getElem?_eq_getElem h, Nat.sub_self]
    rfl
  · rfl
theorem touch_map {β : Type} (f : α → β) (lt : Bool) (ls : List α) (i : Nat) : touchL lt (ls.map f) i = (touchL lt ls i).map f := by
  unfold touchL
  split
  · rw [erase_map, List.map_append, List.getElem?_map]
    cases ls[i]? <;> rfl
  · rfl
theorem touchI_map {β : Type} (f : α → β) (lt : Bool) (ls : List α) (i : Nat) : touchI lt (ls.map f) i = touchI lt ls i := by
  unfold touchI
  rw [List.length_map]
end
theorem lnAt_get {ls : List Ln} {i : Nat} {l : Ln} (h : ls[i]? = some l) : lnAt ls i = l := by
  unfold lnAt
  rw [List.getD_eq_getElem?_getD, h]
  rfl
structure OpsOk (n g : Nat) (o : Ops) : Prop where
  hm : ∀ t b ns, TaOk n t → b < 16 → ns.length = 4 → TaOk n (o.hm t b ns) ∧ (o.hm t b ns).log.length ≤ t.log.length + g
  br : ∀ t b, TaOk n t → b < 16 → (o.br t b).1.length = 4 ∧ TaOk n (o.br t b).2 ∧ (o.br t b).2.log.length ≤ t.log.length + g
  ch : ∀ t p v, TaOk n t → p < 64 → TaOk n (o.ch t p v) ∧ (o.ch t p v).log.length ≤ t.log.length + g
theorem note_ok {n : Nat} {t : Ta} (h : TaOk n t) (tl : List V) (w : Str) (k : Nat) : TaOk n (t.note tl w k) := ⟨h.len, h.rs, h.far⟩
theorem note_len (t : Ta) (tl : List V) (w : Str) (k : Nat) : (t.note tl w k).log.length = t.log.length + 1 := by simp [Ta.note]
section
variable {n g : Nat} {o : Ops} {u : Ru} {ls : List Ln} {t : Ta} {b : Nat} {tl : List V}
theorem passH_ok (O : OpsOk n g o) (h : TaOk n t) (hb : b < 16) {ns : List Int} (hn : ns.length = 4) : TaOk n (passH o tl t b ns) ∧ (passH o tl t b ns).log.length ≤ t.log.length + g + 1 := by
  obtain ⟨h1, h2⟩ := O.hm _ b ns (note_ok h tl "home" b) hb hn
  rw [note_len] at h2
  exact ⟨h1, by unfold passH; omega⟩
theorem passC_ok (O : OpsOk n g o) (h : TaOk n t) {p : Nat} (hp : p < 64) {v : Int} : TaOk n (passC o tl t p v) ∧ (passC o tl t p v).log.length ≤ t.log.length + g + 1 := by
  obtain ⟨h1, h2⟩ := O.ch _ p v (note_ok h tl "cell" p) hp
  rw [note_len] at h2
  exact ⟨h1, by unfold passC; omega⟩
/-- behind make_way there is room -/
theorem mkWay_ok (O : OpsOk n g o) (hu : RuOk u) (hl : LsOk u ls) (h : TaOk n t) :
    LsOk u (mkWay o u ls t).1 ∧ TaOk n (mkWay o u ls t).2 ∧ (mkWay o u ls t).1.length < u.ways ∧ (mkWay o u ls t).2.log.length ≤ t.log.length + g + 1 := by
  have hlen := hl.len
  have h0 := hu.w0
  unfold mkWay
  split
  · rename_i e
    split
    · simp at e
      omega
    · rename_i l rest
      have hlen2 : rest.length + 1 = u.ways := by simpa using e
      have hlo := hl.ok l List.mem_cons_self
      refine ⟨⟨by show rest.length ≤ _; omega, fun l' hm => hl.ok l' (List.mem_cons_of_mem _ hm)⟩, ?_, by show rest.length < _; omega, ?_⟩
      · show TaOk n (if l.d = true then _ else t)
        split
        · exact (passH_ok O h hlo.b hlo.ns).1
        · exact h
      · show (if l.d = true then _ else t).log.length ≤ _
        split
        · exact (passH_ok O h hlo.b hlo.ns).2
        · omega
  · rename_i e
    exact ⟨hl, h, by show ls.length < u.ways; omega, by show t.log.length ≤ _; omega⟩
theorem reachL_ok (O : OpsOk n g o) (hu : RuOk u) (hl : LsOk u ls) (h : TaOk n t) (hb : b < 16) :
    LsOk u (reachL o u ls t b).1 ∧ TaOk n (reachL o u ls t b).2.1 ∧ (∃ l, (reachL o u ls t b).1[(reachL o u ls t b).2.2]? = some l ∧ l.b = b ∧ LnOk l) ∧ (reachL o u ls t b).2.1.log.length ≤ t.log.length + 2 * g + 2 := by
  unfold reachL
  split
  · rename_i i e
    obtain ⟨l, hlg, hlb, _⟩ := fnd_some e
    have hi := fnd_lt e
    exact ⟨⟨by show (touchL u.lt ls i).length ≤ _; rw [touch_len hi]; exact hl.len, fun l' hm => hl.ok l' (touch_mem hm)⟩, h, ⟨l, (touch_get hi).trans hlg, hlb, hl.ok l (List.mem_of_getElem? hlg)⟩, by show t.log.length ≤ _; omega⟩
  · rename_i e
    obtain ⟨m1, m2, m3, m4⟩ := mkWay_ok O hu hl h
    obtain ⟨b1, b2, b3⟩ := O.br _ b (note_ok m2 u.tl "bring" b) hb
    rw [note_len] at b3
    refine ⟨⟨by show ((mkWay o u ls t).1 ++ [_]).length ≤ _; rw [List.length_append, List.length_singleton]; omega, fun l' hm => ?_⟩, b2, ⟨⟨b, (o.br ((mkWay o u ls t).2.note u.tl "bring" b) b).1, false⟩, ?_, rfl, ⟨hb, b1⟩⟩, by show (o.br _ b).2.log.length ≤ _; omega⟩
    · rcases List.mem_append.mp hm with hm | hm
      · exact m1.ok l' hm
      · rw [List.mem_singleton.mp hm]
        exact ⟨hb, b1⟩
    · show ((mkWay o u ls t).1 ++ [_])[(mkWay o u ls t).1.length]? = some _
      rw [List.getElem?_append_right (Nat.le_refl _), Nat.sub_self]
      rfl
theorem set_ok (hl : LsOk u ls) {i : Nat} {l : Ln} (hlo : LnOk l) : LsOk u (ls.set i l) := ⟨by rw [List.length_set]; exact hl.len, fun l' hm => by
  rcases List.mem_or_eq_of_mem_set hm with hm | e
  · exact hl.ok l' hm
  · rw [e]
    exact hlo⟩
theorem app_ok {u : Ru} {ls : List Ln} (hl : LsOk u ls) (hs : ls.length < u.ways) {l : Ln} (hlo : LnOk l) : LsOk u (ls ++ [l]) := ⟨by rw [List.length_append, List.length_singleton]; omega, fun l' hm => by
  rcases List.mem_append.mp hm with hm | hm
  · exact hl.ok l' hm
  · rw [List.mem_singleton.mp hm]
    exact hlo⟩
theorem bringL_ok (O : OpsOk n g o) (hu : RuOk u) (hl : LsOk u ls) (h : TaOk n t) (hb : b < 16) :
    (bringL o u ls t b).1.length = 4 ∧ LsOk u (bringL o u ls t b).2.1 ∧ TaOk n (bringL o u ls t b).2.2 ∧ (bringL o u ls t b).2.2.log.length ≤ t.log.length + 2 * g + 2 := by
  obtain ⟨h1, h2, ⟨l, hlg, _, hlo⟩, h4⟩ := reachL_ok O hu hl h hb
  refine ⟨?_, h1, h2, h4⟩
  show (lnAt _ _).ns.length = 4
  rw [lnAt_get hlg]
  exact hlo.ns
theorem lookL_ok (O : OpsOk n g o) (hu : RuOk u) (hl : LsOk u ls) (h : TaOk n t) {p : Nat} (hp : p < 64) :
    LsOk u (lookL o u ls t p).2.1 ∧ TaOk n (lookL o u ls t p).2.2 ∧ (lookL o u ls t p).2.2.log.length ≤ t.log.length + 2 * g + 2 := by
  obtain ⟨h1, h2, _, h4⟩ := reachL_ok O hu hl h (show p / 4 < 16 by omega)
  exact ⟨h1, h2, h4⟩
theorem changeL_ok (O : OpsOk n g o) (hu : RuOk u) (hl : LsOk u ls) (h : TaOk n t) {p : Nat} (hp : p < 64) {v : Int} :
    LsOk u (changeL o u ls t p v).1 ∧ TaOk n (changeL o u ls t p v).2 ∧ (changeL o u ls t p v).2.log.length ≤ t.log.length + 3 * g + 3 := by
  unfold changeL
  split
  · obtain ⟨c1, c2⟩ := passC_ok (tl := u.tl) (v := v) O h hp
    exact ⟨hl, c1, by show (passC o u.tl t p v).log.length ≤ _; omega⟩
  · obtain ⟨h1, h2, ⟨l, hlg, hlb, hlo⟩, h4⟩ := reachL_ok O hu hl h (show p / 4 < 16 by omega)
    refine ⟨set_ok h1 (by
      rw [lnAt_get hlg]
      exact ⟨hlo.b, by show (l.ns.set _ _).length = 4; rw [List.length_set]; exact hlo.ns⟩), ?_⟩
    obtain ⟨c1, c2⟩ := passC_ok (tl := u.tl) (v := v) O h2 hp
    dsimp only
    split
    · exact ⟨h2, by omega⟩
    · exact ⟨c1, by omega⟩
theorem homeL_ok (O : OpsOk n g o) (hu : RuOk u) (hl : LsOk u ls) (h : TaOk n t) (hb : b < 16) {ns : List Int} (hn : ns.length = 4) :
    LsOk u (homeL o u ls t b ns).1 ∧ TaOk n (homeL o u ls t b ns).2 ∧ (homeL o u ls t b ns).2.log.length ≤ t.log.length + 2 * g + 2 := by
  unfold homeL
  split
  · split
    · obtain ⟨m1, m2, m3, m4⟩ := mkWay_ok O hu hl h
      refine ⟨app_ok m1 m3 ⟨hb, hn⟩, ?_⟩
      obtain ⟨c1, c2⟩ := passH_ok (tl := u.tl) O m2 hb hn
      dsimp only
      split
      · exact ⟨m2, by omega⟩
      · exact ⟨c1, by omega⟩
    · obtain ⟨c1, c2⟩ := passH_ok (tl := u.tl) O h hb hn
      exact ⟨hl, c1, by show (passH o u.tl t b ns).log.length ≤ _; omega⟩
  · rename_i i e
    have hi := fnd_lt e
    refine ⟨set_ok ⟨by rw [touch_len hi]; exact hl.len, fun l' hm => hl.ok l' (touch_mem hm)⟩ ⟨hb, hn⟩, ?_⟩
    obtain ⟨c1, c2⟩ := passH_ok (tl := u.tl) O h hb hn
    dsimp only
    split
    · exact ⟨h, by omega⟩
    · exact ⟨c1, by omega⟩
theorem yieldL_ok (O : OpsOk n g o) (hl : LsOk u ls) (h : TaOk n t) (hb : b < 16) {gone : Bool} :
    LsOk u (yieldL o u ls t b gone).1 ∧ TaOk n (yieldL o u ls t b gone).2 ∧ (yieldL o u ls t b gone).2.log.length ≤ t.log.length + g + 1 := by
  unfold yieldL
  split
  · exact ⟨hl, h, by show t.log.length ≤ _; omega⟩
  · rename_i i e
    obtain ⟨l, hlg, hlb, _⟩ := fnd_some e
    have hlo := hl.ok l (List.mem_of_getElem? hlg)
    obtain ⟨c1, c2⟩ := passH_ok (tl := u.tl) O h hb hlo.ns
    rw [lnAt_get hlg]
    refine ⟨?_, ?_⟩
    · dsimp only
      split
      · exact ⟨Nat.le_trans (List.length_eraseIdx_le ..) hl.len, fun l' hm => hl.ok l' (List.mem_of_mem_eraseIdx hm)⟩
      · exact set_ok hl ⟨hlo.b, hlo.ns⟩
    · dsimp only
      split
      · exact ⟨c1, c2⟩
      · exact ⟨h, by omega⟩
theorem settleL_ok (O : OpsOk n g o) : ∀ {ls : List Ln} {t : Ta}, (∀ l ∈ ls, LnOk l) → TaOk n t →
    (∀ l ∈ (settleL o u ls t).1, LnOk l) ∧ (settleL o u ls t).1.length = ls.length ∧ TaOk n (settleL o u ls t).2 ∧ (settleL o u ls t).2.log.length ≤ t.log.length + ls.length * (g + 1)
  | [], t, _, h => ⟨(fun _ hm => nomatch (show _ ∈ ([] : List Ln) from hm)), rfl, h, (by show t.log.length ≤ _; omega)⟩
  | l :: r, t, hl, h => by
    have hlo := hl l List.mem_cons_self
    obtain ⟨c1, c2⟩ := passH_ok (tl := u.tl) O h hlo.b hlo.ns
    have h1 : TaOk n (if l.d = true then passH o u.tl t l.b l.ns else t) ∧ (if l.d = true then passH o u.tl t l.b l.ns else t).log.length ≤ t.log.length + g + 1 := by
      split
      · exact ⟨c1, c2⟩
      · exact ⟨h, by omega⟩
    obtain ⟨i1, i2, i3, i4⟩ := settleL_ok O (ls := r) (fun l' hm => hl l' (List.mem_cons_of_mem _ hm)) h1.1
    refine ⟨fun l' hm => ?_, by show (settleL o u r _).1.length + 1 = _; rw [i2]; rfl, i3, ?_⟩
    · rcases List.mem_cons.mp hm with e | hm
      · rw [e]
        exact ⟨hlo.b, hlo.ns⟩
      · exact i1 l' hm
    · have e : (l :: r).length * (g + 1) = r.length * (g + 1) + (g + 1) := by rw [List.length_cons, Nat.succ_mul]
      rw [e]
      have h2 := h1.2
      show (settleL o u r _).2.log.length ≤ _
      omega
end
theorem setBlk_len {far : List Int} (h : far.length = 64) {b : Nat} (hb : b < 16) {ns : List Int} (hn : ns.length = 4) : (setBlk far b ns).length = 64 := by
  unfold setBlk
  simp only [List.length_append, List.length_take, List.length_drop]
  omega
theorem getBlk_len {far : List Int} (h : far.length = 64) {b : Nat} (hb : b < 16) : (getBlk far b).length = 4 := by
  unfold getBlk
  simp only [List.length_take, List.length_drop]
  omega
def gOf : Nat → Nat
  | 0 => 0
  | n + 1 => 3 * gOf n + 3
theorem cons_ok {n : Nat} {r : Rm} {t : Ta} (hr : RmOk r) (h : TaOk n t) : TaOk (n + 1) (Ta.cons r t) := ⟨by show t.rs.length + 1 = n + 1; rw [h.len], fun r' hm => by
  rcases List.mem_cons.mp hm with e | hm
  · rw [e]
    exact hr
  · exact h.rs r' hm, h.far⟩
theorem TaOk.uncons {n : Nat} {t : Ta} (h : TaOk (n + 1) t) : ∃ r rs, t.rs = r :: rs ∧ RmOk r ∧ TaOk n { t with rs := rs } := by
  have hl := h.len
  cases e : t.rs with
  | nil =>
    rw [e] at hl
    cases hl
  | cons r rs =>
    rw [e] at hl
    have hrs := h.rs
    rw [e] at hrs
    exact ⟨r, rs, rfl, hrs r List.mem_cons_self, ⟨by simpa using hl, fun r' hm => hrs r' (List.mem_cons_of_mem _ hm), h.far⟩⟩
theorem ops_ok : ∀ n, OpsOk n (gOf n) (ops n)
  | 0 => {
    hm := fun t b ns h hb hn => ⟨⟨h.len, h.rs, setBlk_len h.far hb hn⟩, Nat.le_refl _⟩
    br := fun t b h hb => ⟨getBlk_len h.far hb, h, Nat.le_refl _⟩
    ch := fun t p v h hp => ⟨⟨h.len, h.rs, by show (t.far.set p v).length = 64; rw [List.length_set]; exact h.far⟩, Nat.le_refl _⟩ }
  | n + 1 => {
    hm := fun t b ns h hb hn => by
      obtain ⟨r, rs, e, hr, ht⟩ := h.uncons
      obtain ⟨h1, h2, h3⟩ := homeL_ok (ops_ok n) hr.ru (hr.ls b) ht hb hn
      unfold ops
      dsimp only
      rw [e]
      exact ⟨cons_ok (put_ok hr h1) h2, Nat.le_trans h3 (by show t.log.length + 2 * gOf n + 2 ≤ t.log.length + (3 * gOf n + 3); omega)⟩
    br := fun t b h hb => by
      obtain ⟨r, rs, e, hr, ht⟩ := h.uncons
      obtain ⟨h0, h1, h2, h3⟩ := bringL_ok (ops_ok n) hr.ru (hr.ls b) ht hb
      unfold ops
      dsimp only
      rw [e]
      exact ⟨h0, cons_ok (put_ok hr h1) h2, Nat.le_trans h3 (by show t.log.length + 2 * gOf n + 2 ≤ t.log.length + (3 * gOf n + 3); omega)⟩
    ch := fun t p v h hp => by
      obtain ⟨r, rs, e, hr, ht⟩ := h.uncons
      obtain ⟨h1, h2, h3⟩ := changeL_ok (v := v) (ops_ok n) hr.ru (hr.ls (p / 4)) ht hp
      unfold ops
      dsimp only
      rw [e]
      exact ⟨cons_ok (put_ok hr h1) h2, Nat.le_trans h3 (by show t.log.length + 3 * gOf n + 3 ≤ t.log.length + (3 * gOf n + 3); omega)⟩ }
theorem gOf_le {n : Nat} (h : n ≤ 3) : gOf n ≤ 39 := by
  match n, h with
  | 0, _ => decide
  | 1, _ => decide
  | 2, _ => decide
  | 3, _ => decide
-- WwAu
/-! ### a room's shape, without numbers: what it passes on -/
inductive Ask where
  | look (p : Nat)
  | cell (p : Nat)
  | bring (b : Nat)
  | home (b : Nat)
abbrev ALn := Nat × Bool
abbrev Out := Str × Nat
def abL (ls : List Ln) : List ALn := ls.map fun l => (l.b, l.d)
def afnd (b : Nat) : List ALn → Option Nat
  | [] => none
  | l :: r => if l.1 = b then some 0 else (afnd b r).map (· + 1)
theorem afnd_ab (b : Nat) : ∀ ls : List Ln, afnd b (abL ls) = fnd b ls
  | [] => rfl
  | l :: r => by
    show (if l.b = b then some 0 else (afnd b (abL r)).map (· + 1)) = if l.b = b then some 0 else (fnd b r).map (· + 1)
    rw [afnd_ab b r]
def aWay (u : Ru) (al : List ALn) : List ALn × List Out :=
  if al.length = u.ways then
    match al with
    | [] => ([], [])
    | l :: rest => (rest, if l.2 = true then [("home", l.1)] else [])
  else (al, [])
def aReach (u : Ru) (al : List ALn) (b : Nat) : List ALn × List Out × Nat :=
  match afnd b al with
  | some i => (touchL u.lt al i, [], touchI u.lt al i)
  | none => ((aWay u al).1 ++ [(b, false)], (aWay u al).2 ++ [((("bring" : Str), b) : Out)], (aWay u al).1.length)
def alAt (al : List ALn) (i : Nat) : ALn := al.getD i (0, false)
def aChange (u : Ru) (al : List ALn) (p : Nat) : List ALn × List Out :=
  if u.inn = false ∧ afnd (p / 4) al = none then (al, [("cell", p)])
  else
    ((aReach u al (p / 4)).1.set (aReach u al (p / 4)).2.2 ((alAt (aReach u al (p / 4)).1 (aReach u al (p / 4)).2.2).1, u.bk || (alAt (aReach u al (p / 4)).1 (aReach u al (p / 4)).2.2).2),
      if u.bk = true then (aReach u al (p / 4)).2.1 else (aReach u al (p / 4)).2.1 ++ [((("cell" : Str), p) : Out)])
def aHome (u : Ru) (al : List ALn) (b : Nat) : List ALn × List Out :=
  match afnd b al with
  | none =>
    if u.inn = true then ((aWay u al).1 ++ [(b, u.bk)], if u.bk = true then (aWay u al).2 else (aWay u al).2 ++ [((("home" : Str), b) : Out)])
    else (al, [("home", b)])
  | some i => ((touchL u.lt al i).set (touchI u.lt al i) (b, u.bk), if u.bk = true then [] else [("home", b)])
abbrev ASs := List (List ALn)
def aGet (ss : ASs) (b : Nat) : List ALn := ss.getD (b % ss.length) []
def aPut (ss : ASs) (b : Nat) (al : List ALn) : ASs := ss.set (b % ss.length) al
def aStep (u : Ru) (ss : ASs) : Ask → ASs × List Out
  | .look p => (aPut ss (p / 4) (aReach u (aGet ss (p / 4)) (p / 4)).1, (aReach u (aGet ss (p / 4)) (p / 4)).2.1)
  | .bring b => (aPut ss b (aReach u (aGet ss b) b).1, (aReach u (aGet ss b) b).2.1)
  | .cell p => (aPut ss (p / 4) (aChange u (aGet ss (p / 4)) p).1, (aChange u (aGet ss (p / 4)) p).2)
  | .home b => (aPut ss b (aHome u (aGet ss b) b).1, (aHome u (aGet ss b) b).2)
def aRun (u : Ru) : ASs → List Ask → ASs × List Out
  | ss, [] => (ss, [])
  | ss, a :: as => ((aRun u (aStep u ss a).1 as).1, (aStep u ss a).2 ++ (aRun u (aStep u ss a).1 as).2)
theorem aRun_app (u : Ru) : ∀ (as bs : List Ask) (ss : ASs), aRun u ss (as ++ bs) = ((aRun u (aRun u ss as).1 bs).1, (aRun u ss as).2 ++ (aRun u (aRun u ss as).1 bs).2)
  | [], bs, ss => by
    show aRun u ss bs = ((aRun u ss bs).1, [] ++ (aRun u ss bs).2)
    rw [List.nil_append]
  | a :: as, bs, ss => by
    have ih := aRun_app u as bs (aStep u ss a).1
    show ((aRun u (aStep u ss a).1 (as ++ bs)).1, (aStep u ss a).2 ++ (aRun u (aStep u ss a).1 (as ++ bs)).2) = ((aRun u (aRun u (aStep u ss a).1 as).1 bs).1, ((aStep u ss a).2 ++ (aRun u (aStep u ss a).1 as).2) ++ (aRun u (aRun u (aStep u ss a).1 as).1 bs).2)
    rw [ih, List.append_assoc]
theorem aRun_one (u : Ru) (ss : ASs) (a : Ask) : aRun u ss [a] = aStep u ss a := by
  show ((aStep u ss a).1, (aStep u ss a).2 ++ []) = _
  rw [List.append_nil]
def absS (r : Rm) : ASs := r.ss.map abL
theorem absS_len (r : Rm) : (absS r).length = r.ss.length := List.length_map _
theorem absS_get (r : Rm) (b : Nat) : aGet (absS r) b = abL (r.ls b) := by
  unfold aGet Rm.ls Rm.ix
  rw [absS_len, List.getD_eq_getElem?_getD, List.getD_eq_getElem?_getD]
  show ((r.ss.map abL)[b % r.ss.length]?).getD [] = _
  rw [List.getElem?_map]
  cases r.ss[b % r.ss.length]? <;> rfl
theorem absS_put (r : Rm) (b : Nat) (ls : List Ln) : absS (r.put b ls) = aPut (absS r) b (abL ls) := by
  unfold aPut
  rw [absS_len]
  show (r.ss.set (r.ix b) ls).map abL = (r.ss.map abL).set (b % r.ss.length) (abL ls)
  rw [List.map_set]
  rfl
/-- what is told of going on -/
structure Tr (o : Ops) (tl : List V) (I : Ta → Prop) (S : Ta → Ta → List Out → Prop) : Prop where
  refl : ∀ t, I t → S t t []
  trans : ∀ {t t' t'' a b}, S t t' a → S t' t'' b → S t t'' (a ++ b)
  keep : ∀ {t t' a}, S t t' a → I t → I t'
  hm : ∀ t b ns, I t → S t (passH o tl t b ns) [("home", b)]
  ch : ∀ t p v, I t → S t (passC o tl t p v) [("cell", p)]
  br : ∀ t b, I t → S t (o.br (t.note tl "bring" b) b).2 [("bring", b)]
section
variable {o : Ops} {u : Ru} {I : Ta → Prop} {S : Ta → Ta → List Out → Prop} {ls : List Ln} {t : Ta}
theorem mkWay_tr (T : Tr o u.tl I S) (h : I t) : S t (mkWay o u ls t).2 (aWay u (abL ls)).2 ∧ abL (mkWay o u ls t).1 = (aWay u (abL ls)).1 := by
  have hl : (abL ls).length = ls.length := List.length_map _
  unfold mkWay aWay
  rw [hl]
  split
  · cases ls with
    | nil => exact ⟨T.refl t h, rfl⟩
    | cons l rest =>
      refine ⟨?_, rfl⟩
      show S t (if l.d = true then passH o u.tl t l.b l.ns else t) (if l.d = true then [("home", l.b)] else [])
      split
      · exact T.hm t _ _ h
      · exact T.refl t h
  · exact ⟨T.refl t h, rfl⟩
theorem abL_touch (lt : Bool) (ls : List Ln) (i : Nat) : abL (touchL lt ls i) = touchL lt (abL ls) i := (touch_map _ lt ls i).symm
theorem abL_touchI (lt : Bool) (ls : List Ln) (i : Nat) : touchI lt (abL ls) i = touchI lt ls i := touchI_map _ lt ls i
theorem reach_tr (T : Tr o u.tl I S) (h : I t) (b : Nat) : S t (reachL o u ls t b).2.1 (aReach u (abL ls) b).2.1 ∧ abL (reachL o u ls t b).1 = (aReach u (abL ls) b).1 ∧ (reachL o u ls t b).2.2 = (aReach u (abL ls) b).2.2 := by
  unfold reachL aReach
  rw [afnd_ab]
  cases fnd b ls with
  | some i => exact ⟨T.refl t h, abL_touch .., (abL_touchI ..).symm⟩
  | none =>
    obtain ⟨h1, h2⟩ := mkWay_tr (ls := ls) T h
    refine ⟨T.trans h1 (T.br _ b (T.keep h1 h)), ?_, ?_⟩
    · show abL ((mkWay o u ls t).1 ++ [_]) = _
      rw [← h2]
      exact List.map_append
    · show (mkWay o u ls t).1.length = (aWay u (abL ls)).1.length
      rw [← h2]
      exact (List.length_map _).symm
theorem alAt_ab (ls : List Ln) (i : Nat) : alAt (abL ls) i = ((lnAt ls i).b, (lnAt ls i).d) := by
  unfold alAt lnAt
  rw [List.getD_eq_getElem?_getD, List.getD_eq_getElem?_getD]
  show ((ls.map _)[i]?).getD _ = _
  rw [List.getElem?_map]
  cases ls[i]? <;> rfl
theorem change_tr (T : Tr o u.tl I S) (h : I t) (p : Nat) (v : Int) : S t (changeL o u ls t p v).2 (aChange u (abL ls) p).2 ∧ abL (changeL o u ls t p v).1 = (aChange u (abL ls) p).1 := by
  unfold changeL aChange
  rw [afnd_ab]
  split
  · exact ⟨T.ch t _ _ h, rfl⟩
  · obtain ⟨h1, h2, h3⟩ := reach_tr (ls := ls) T h (p / 4)
    refine ⟨?_, ?_⟩
    · show S t (if u.bk = true then (reachL o u ls t (p / 4)).2.1 else passC o u.tl (reachL o u ls t (p / 4)).2.1 p v) (if u.bk = true then (aReach u (abL ls) (p / 4)).2.1 else (aReach u (abL ls) (p / 4)).2.1 ++ [((("cell" : Str), p) : Out)])
      split
      · exact h1
      · exact T.trans h1 (T.ch _ _ _ (T.keep h1 h))
    · show abL ((reachL o u ls t (p / 4)).1.set (reachL o u ls t (p / 4)).2.2 (setCell u.bk (lnAt (reachL o u ls t (p / 4)).1 (reachL o u ls t (p / 4)).2.2) p v)) = _
      rw [← h2, ← h3, alAt_ab]
      exact List.map_set
theorem home_tr (T : Tr o u.tl I S) (h : I t) (b : Nat) (ns : List Int) : S t (homeL o u ls t b ns).2 (aHome u (abL ls) b).2 ∧ abL (homeL o u ls t b ns).1 = (aHome u (abL ls) b).1 := by
  unfold homeL aHome
  rw [afnd_ab]
  cases fnd b ls with
  | none =>
    dsimp only
    split
    · obtain ⟨h1, h2⟩ := mkWay_tr (ls := ls) T h
      refine ⟨?_, ?_⟩
      · show S t (if u.bk = true then (mkWay o u ls t).2 else passH o u.tl (mkWay o u ls t).2 b ns) (if u.bk = true then (aWay u (abL ls)).2 else (aWay u (abL ls)).2 ++ [((("home" : Str), b) : Out)])
        split
        · exact h1
        · exact T.trans h1 (T.hm _ _ _ (T.keep h1 h))
      · show abL ((mkWay o u ls t).1 ++ [_]) = _
        rw [← h2]
        exact List.map_append
    · exact ⟨T.hm t _ _ h, rfl⟩
  | some i =>
    refine ⟨?_, ?_⟩
    · show S t (if u.bk = true then t else passH o u.tl t b ns) (if u.bk = true then [] else [("home", b)])
      split
      · exact T.refl t h
      · exact T.hm t _ _ h
    · show abL ((touchL u.lt ls i).set (touchI u.lt ls i) ⟨b, ns, u.bk⟩) = (touchL u.lt (abL ls) i).set (touchI u.lt (abL ls) i) (b, u.bk)
      rw [abL_touchI, ← abL_touch]
      exact List.map_set
end
/-! ### a room before the far one -/
def ents (tl : List V) (os : List Out) : List Ent := os.map fun x => ⟨tl, x.1, x.2⟩
theorem far_tr (tl : List V) : Tr (ops 0) tl (fun _ => True) (fun t t' os => t'.log = t.log ++ ents tl os) where
  refl := fun t _ => by
    show t.log = t.log ++ []
    rw [List.append_nil]
  trans := fun {t t' t'' a b} h1 h2 => by
    rw [h2, h1, List.append_assoc]
    unfold ents
    rw [List.map_append]
  keep := fun _ _ => trivial
  hm := fun t b ns _ => rfl
  ch := fun t p v _ => rfl
  br := fun t b _ => rfl
/-! ### rooms in a row -/
def atLev (lev : Nat) (e : Ent) : Bool := decide (e.tl.head? = some (V.int lev))
def outsAt (lev : Nat) (E : List Ent) : List Out := (E.filter (atLev lev)).map fun e => (e.w, e.n)
theorem outsAt_app (lev : Nat) (E F : List Ent) : outsAt lev (E ++ F) = outsAt lev E ++ outsAt lev F := by
  unfold outsAt
  rw [List.filter_append, List.map_append]
def toAsk (o : Out) : Ask := if o.1 = ("bring" : Str) then .bring o.2 else if o.1 = ("home" : Str) then .home o.2 else .cell o.2
def asksOf (os : List Out) : List Ask := os.map toAsk
def ChOk : Nat → List Rm → List Rm → List Ask → List Ent → Prop
  | _, [], [], _, _ => True
  | lev, r :: rs, r' :: rs', as, E => r'.ru = r.ru ∧ aRun r.ru (absS r) as = (absS r', outsAt lev E) ∧ ChOk (lev + 1) rs rs' (asksOf (outsAt lev E)) E
  | _, _, _, _, _ => False
def Ge (lev : Nat) (E : List Ent) : Prop := ∀ e ∈ E, ∃ l, lev ≤ l ∧ e.tl = [.int (l : Nat), .int ((0 : Nat) : Int)]
theorem Ge.app {lev : Nat} {E F : List Ent} (h1 : Ge lev E) (h2 : Ge lev F) : Ge lev (E ++ F) := fun e he => by
  rcases List.mem_append.mp he with he | he
  · exact h1 e he
  · exact h2 e he
theorem Ge.le {lev lev' : Nat} {E : List Ent} (h : Ge lev E) (hl : lev' ≤ lev) : Ge lev' E := fun e he => by
  obtain ⟨l, h1, h2⟩ := h e he
  exact ⟨l, by omega, h2⟩
theorem Ge.outs {lev l : Nat} {E : List Ent} (h : Ge lev E) (hl : l < lev) : outsAt l E = [] := by
  unfold outsAt
  have : E.filter (atLev l) = [] := List.filter_eq_nil_iff.mpr fun e he q => by
    obtain ⟨l', h1, h2⟩ := h e he
    have q := of_decide_eq_true q
    rw [h2] at q
    have q : some (V.int (l' : Nat)) = some (V.int (l : Nat)) := q
    injection q with q
    injection q with q
    omega
  rw [this]
  rfl
theorem ChOk.refl : ∀ {rs : List Rm} {lev : Nat}, ChOk lev rs rs [] []
  | [], _ => trivial
  | _ :: rs, lev => ⟨rfl, rfl, ChOk.refl (rs := rs)⟩
theorem ChOk.trans : ∀ {rs rs' rs'' : List Rm} {lev : Nat} {a b : List Ask} {E F : List Ent}, ChOk lev rs rs' a E → ChOk lev rs' rs'' b F → ChOk lev rs rs'' (a ++ b) (E ++ F)
  | [], [], [], _, _, _, _, _, _, _ => trivial
  | [], [], _ :: _, _, _, _, _, _, _, h => h.elim
  | [], _ :: _, _, _, _, _, _, _, h, _ => h.elim
  | _ :: _, [], _, _, _, _, _, _, h, _ => h.elim
  | _ :: _, _ :: _, [], _, _, _, _, _, _, h => h.elim
  | r :: rs, r' :: rs', r'' :: rs'', lev, a, b, E, F, ⟨h1, h2, h3⟩, ⟨g1, g2, g3⟩ => by
    refine ⟨g1.trans h1, ?_, ?_⟩
    · rw [h1] at g2
      rw [aRun_app, h2]
      dsimp only
      rw [g2, outsAt_app]
    · rw [outsAt_app]
      unfold asksOf
      rw [List.map_append]
      exact ChOk.trans h3 g3
/-- other levels' entries don't matter -/
theorem ChOk.front : ∀ {rs rs' : List Rm} {lev : Nat} {a : List Ask} {E F : List Ent}, (∀ l, lev ≤ l → outsAt l F = []) → ChOk lev rs rs' a E → ChOk lev rs rs' a (F ++ E)
  | [], [], _, _, _, _, _, _ => trivial
  | [], _ :: _, _, _, _, _, _, h => h.elim
  | _ :: _, [], _, _, _, _, _, h => h.elim
  | r :: rs, r' :: rs', lev, a, E, F, hF, ⟨h1, h2, h3⟩ => by
    have e : outsAt lev (F ++ E) = outsAt lev E := by
      rw [outsAt_app, hF lev (Nat.le_refl _)]
      rfl
    refine ⟨h1, by rw [e]; exact h2, ?_⟩
    rw [e]
    exact ChOk.front (fun l hl => hF l (by omega)) h3
def Lv : Nat → List Rm → Prop
  | _, [] => True
  | lev, r :: rs => r.ru.tl = [.int (lev : Nat), .int ((0 : Nat) : Int)] ∧ Lv (lev + 1) rs
theorem ChOk.lv : ∀ {rs rs' : List Rm} {lev : Nat} {a : List Ask} {E : List Ent}, ChOk lev rs rs' a E → Lv lev rs → Lv lev rs' ∧ rs'.length = rs.length
  | [], [], _, _, _, _, _ => ⟨trivial, rfl⟩
  | [], _ :: _, _, _, _, h, _ => h.elim
  | _ :: _, [], _, _, _, h, _ => h.elim
  | r :: rs, r' :: rs', lev, a, E, ⟨h1, _, h3⟩, ⟨k1, k2⟩ => by
    obtain ⟨i1, i2⟩ := ChOk.lv h3 k2
    refine ⟨⟨by rw [h1]; exact k1, i1⟩, ?_⟩
    rw [List.length_cons, List.length_cons, i2]
structure OpsA (n lev : Nat) (o : Ops) : Prop where
  hm : ∀ t b ns, Lv lev t.rs → t.rs.length = n → ∃ E, (o.hm t b ns).log = t.log ++ E ∧ ChOk lev t.rs (o.hm t b ns).rs [.home b] E ∧ Ge lev E
  br : ∀ t b, Lv lev t.rs → t.rs.length = n → ∃ E, (o.br t b).2.log = t.log ++ E ∧ ChOk lev t.rs (o.br t b).2.rs [.bring b] E ∧ Ge lev E
  ch : ∀ t p v, Lv lev t.rs → t.rs.length = n → ∃ E, (o.ch t p v).log = t.log ++ E ∧ ChOk lev t.rs (o.ch t p v).rs [.cell p] E ∧ Ge lev E
theorem nhb : ¬ ("home" : Str) = "bring" := by decide +kernel
theorem ncb : ¬ ("cell" : Str) = "bring" := by decide +kernel
theorem nch : ¬ ("cell" : Str) = "home" := by decide +kernel
theorem ask_home (b : Nat) : asksOf [(("home" : Str), b)] = [.home b] := by
  show [toAsk ("home", b)] = _
  unfold toAsk
  rw [if_neg nhb, if_pos rfl]
theorem ask_cell (p : Nat) : asksOf [(("cell" : Str), p)] = [.cell p] := by
  show [toAsk ("cell", p)] = _
  unfold toAsk
  rw [if_neg ncb, if_neg nch]
theorem ask_bring (b : Nat) : asksOf [(("bring" : Str), b)] = [.bring b] := by
  show [toAsk ("bring", b)] = _
  unfold toAsk
  rw [if_pos rfl]
def StA (lev n : Nat) (t t' : Ta) (os : List Out) : Prop := ∃ E, t'.log = t.log ++ E ∧ outsAt lev E = os ∧ ChOk (lev + 1) t.rs t'.rs (asksOf os) E ∧ Ge lev E
theorem outs_one (lev : Nat) (w : Str) (k : Nat) : outsAt lev [⟨[.int (lev : Nat), .int ((0 : Nat) : Int)], w, k⟩] = [(w, k)] := by
  unfold outsAt
  rw [List.filter_cons_of_pos (show atLev lev _ = true from decide_eq_true rfl)]
  rfl
theorem outs_one_ne {lev l : Nat} (h : l ≠ lev) (w : Str) (k : Nat) : outsAt l [⟨[.int (lev : Nat), .int ((0 : Nat) : Int)], w, k⟩] = [] := by
  unfold outsAt
  rw [List.filter_cons_of_neg]
  · rfl
  · intro q
    have q := of_decide_eq_true (show decide (_ = _) = true from q)
    have q : some (V.int (lev : Nat)) = some (V.int (l : Nat)) := q
    injection q with q
    injection q with q
    omega
theorem row_tr {n lev : Nat} {o : Ops} (O : OpsA n (lev + 1) o) : Tr o [.int (lev : Nat), .int ((0 : Nat) : Int)] (fun t => Lv (lev + 1) t.rs ∧ t.rs.length = n) (StA lev n) where
  refl := fun t _ => ⟨[], (List.append_nil _).symm, rfl, ChOk.refl, fun e he => by cases he⟩
  trans := fun {t t' t'' a b} ⟨E, e1, e2, e3, e4⟩ ⟨F, f1, f2, f3, f4⟩ => by
    refine ⟨E ++ F, by rw [f1, e1, List.append_assoc], by rw [outsAt_app, e2, f2], ?_, e4.app f4⟩
    unfold asksOf at e3 f3 ⊢
    rw [List.map_append]
    exact ChOk.trans e3 f3
  keep := fun {t t' a} ⟨E, e1, e2, e3, e4⟩ ⟨h1, h2⟩ => by
    obtain ⟨i1, i2⟩ := e3.lv h1
    exact ⟨i1, i2.trans h2⟩
  hm := fun t b ns ⟨h1, h2⟩ => by
    obtain ⟨E, e1, e2, e3⟩ := O.hm (t.note [.int (lev : Nat), .int ((0 : Nat) : Int)] "home" b) b ns h1 h2
    refine ⟨[⟨[.int (lev : Nat), .int ((0 : Nat) : Int)], "home", b⟩] ++ E, ?_, ?_, ?_, ?_⟩
    · show (o.hm (t.note _ "home" b) b ns).log = _
      rw [e1, ← List.append_assoc]
      rfl
    · rw [outsAt_app, outs_one, e3.outs (Nat.lt_succ_self lev)]
      rfl
    · rw [ask_home]
      exact ChOk.front (fun l hl => outs_one_ne (by omega) _ _) e2
    · exact Ge.app (fun e he => ⟨lev, Nat.le_refl _, by rw [List.mem_singleton.mp he]⟩) (e3.le (Nat.le_succ _))
  ch := fun t p v ⟨h1, h2⟩ => by
    obtain ⟨E, e1, e2, e3⟩ := O.ch (t.note [.int (lev : Nat), .int ((0 : Nat) : Int)] "cell" p) p v h1 h2
    refine ⟨[⟨[.int (lev : Nat), .int ((0 : Nat) : Int)], "cell", p⟩] ++ E, ?_, ?_, ?_, ?_⟩
    · show (o.ch (t.note _ "cell" p) p v).log = _
      rw [e1, ← List.append_assoc]
      rfl
    · rw [outsAt_app, outs_one, e3.outs (Nat.lt_succ_self lev)]
      rfl
    · rw [ask_cell]
      exact ChOk.front (fun l hl => outs_one_ne (by omega) _ _) e2
    · exact Ge.app (fun e he => ⟨lev, Nat.le_refl _, by rw [List.mem_singleton.mp he]⟩) (e3.le (Nat.le_succ _))
  br := fun t b ⟨h1, h2⟩ => by
    obtain ⟨E, e1, e2, e3⟩ := O.br (t.note [.int (lev : Nat), .int ((0 : Nat) : Int)] "bring" b) b h1 h2
    refine ⟨[⟨[.int (lev : Nat), .int ((0 : Nat) : Int)], "bring", b⟩] ++ E, ?_, ?_, ?_, ?_⟩
    · rw [e1, ← List.append_assoc]
      rfl
    · rw [outsAt_app, outs_one, e3.outs (Nat.lt_succ_self lev)]
      rfl
    · rw [ask_bring]
      exact ChOk.front (fun l hl => outs_one_ne (by omega) _ _) e2
    · exact Ge.app (fun e he => ⟨lev, Nat.le_refl _, by rw [List.mem_singleton.mp he]⟩) (e3.le (Nat.le_succ _))
theorem ops_a : ∀ n lev, OpsA n lev (ops n)
  | 0, lev => by
    refine ⟨fun t b ns h1 h2 => ⟨[], (List.append_nil _).symm, ?_, fun e he => by cases he⟩, fun t b h1 h2 => ⟨[], (List.append_nil _).symm, ?_, fun e he => by cases he⟩, fun t p v h1 h2 => ⟨[], (List.append_nil _).symm, ?_, fun e he => by cases he⟩⟩
    all_goals
      have e : t.rs = [] := List.length_eq_zero_iff.mp h2
      show ChOk lev t.rs t.rs _ _
      rw [e]
      trivial
  | n + 1, lev => by
    have O := ops_a n (lev + 1)
    refine ⟨fun t b ns h1 h2 => ?_, fun t b h1 h2 => ?_, fun t p v h1 h2 => ?_⟩
    all_goals
      obtain ⟨r, rs, e⟩ : ∃ r rs, t.rs = r :: rs := by
        cases ht : t.rs with
        | nil =>
          rw [ht] at h2
          cases h2
        | cons r rs => exact ⟨r, rs, rfl⟩
      rw [e] at h1 h2 ⊢
      obtain ⟨k1, k2⟩ := h1
      have T := row_tr O
      rw [← k1] at T
      have hI : Lv (lev + 1) ({ t with rs := rs } : Ta).rs ∧ ({ t with rs := rs } : Ta).rs.length = n := ⟨k2, by simpa using h2⟩
    · obtain ⟨⟨E, e1, e2, e3, e4⟩, g2⟩ := home_tr (ls := r.ls b) T hI b ns
      have eo : (ops (n + 1)).hm t b ns = Ta.cons (r.put b (homeL (ops n) r.ru (r.ls b) { t with rs := rs } b ns).1) (homeL (ops n) r.ru (r.ls b) { t with rs := rs } b ns).2 := by
        show (match t.rs with | [] => t | r :: rs => Ta.cons (r.put b (homeL (ops n) r.ru (r.ls b) { t with rs := rs } b ns).1) (homeL (ops n) r.ru (r.ls b) { t with rs := rs } b ns).2) = _
        rw [e]
      rw [eo]
      refine ⟨E, e1, ⟨rfl, ?_, by rw [e2]; exact e3⟩, e4⟩
      rw [aRun_one, e2, absS_put, g2, ← absS_get]
      rfl
    · obtain ⟨⟨E, e1, e2, e3, e4⟩, g2, _⟩ := reach_tr (ls := r.ls b) T hI b
      have eo : (ops (n + 1)).br t b = ((bringL (ops n) r.ru (r.ls b) { t with rs := rs } b).1, Ta.cons (r.put b (bringL (ops n) r.ru (r.ls b) { t with rs := rs } b).2.1) (bringL (ops n) r.ru (r.ls b) { t with rs := rs } b).2.2) := by
        show (match t.rs with | [] => (([] : List Int), t) | r :: rs => ((bringL (ops n) r.ru (r.ls b) { t with rs := rs } b).1, Ta.cons (r.put b (bringL (ops n) r.ru (r.ls b) { t with rs := rs } b).2.1) (bringL (ops n) r.ru (r.ls b) { t with rs := rs } b).2.2)) = _
        rw [e]
      rw [eo]
      refine ⟨E, e1, ⟨rfl, ?_, by rw [e2]; exact e3⟩, e4⟩
      rw [aRun_one, e2]
      show _ = (absS (r.put b (reachL (ops n) r.ru (r.ls b) { t with rs := rs } b).1), _)
      rw [absS_put, g2, ← absS_get]
      rfl
    · obtain ⟨⟨E, e1, e2, e3, e4⟩, g2⟩ := change_tr (ls := r.ls (p / 4)) T hI p v
      have eo : (ops (n + 1)).ch t p v = Ta.cons (r.put (p / 4) (changeL (ops n) r.ru (r.ls (p / 4)) { t with rs := rs } p v).1) (changeL (ops n) r.ru (r.ls (p / 4)) { t with rs := rs } p v).2 := by
        show (match t.rs with | [] => t | r :: rs => Ta.cons (r.put (p / 4) (changeL (ops n) r.ru (r.ls (p / 4)) { t with rs := rs } p v).1) (changeL (ops n) r.ru (r.ls (p / 4)) { t with rs := rs } p v).2) = _
        rw [e]
      rw [eo]
      refine ⟨E, e1, ⟨rfl, ?_, by rw [e2]; exact e3⟩, e4⟩
      rw [aRun_one, e2, absS_put, g2, ← absS_get]
      rfl
-- WwTh
/-! ### a room that writes through is never dirty -/
def ThL (u : Ru) (ls : List Ln) : Prop := u.bk = false → ∀ l ∈ ls, l.d = false
def ThRm (r : Rm) : Prop := ∀ ls ∈ r.ss, ThL r.ru ls
def ThTa (t : Ta) : Prop := ∀ r ∈ t.rs, ThRm r
structure OpsTh (o : Ops) : Prop where
  hm : ∀ t b ns, ThTa t → ThTa (o.hm t b ns)
  br : ∀ t b, ThTa t → ThTa (o.br t b).2
  ch : ∀ t p v, ThTa t → ThTa (o.ch t p v)
section
variable {o : Ops} {u : Ru} {ls : List Ln} {t : Ta}
theorem ThTa.note (h : ThTa t) (tl : List V) (w : Str) (k : Nat) : ThTa (t.note tl w k) := h
theorem passH_th (O : OpsTh o) (h : ThTa t) (tl : List V) (b : Nat) (ns : List Int) : ThTa (passH o tl t b ns) := O.hm _ _ _ (h.note tl "home" b)
theorem passC_th (O : OpsTh o) (h : ThTa t) (tl : List V) (p : Nat) (v : Int) : ThTa (passC o tl t p v) := O.ch _ _ _ (h.note tl "cell" p)
theorem mkWay_th (O : OpsTh o) (hl : ThL u ls) (h : ThTa t) : ThL u (mkWay o u ls t).1 ∧ ThTa (mkWay o u ls t).2 := by
  unfold mkWay
  split
  · cases ls with
    | nil => exact ⟨fun _ l hm => (by cases hm), h⟩
    | cons l rest =>
      refine ⟨fun hb l' hm => hl hb l' (List.mem_cons_of_mem _ hm), ?_⟩
      show ThTa (if l.d = true then passH o u.tl t l.b l.ns else t)
      split
      · exact passH_th O h _ _ _
      · exact h
  · exact ⟨hl, h⟩
theorem touch_th {i : Nat} (hl : ThL u ls) : ThL u (touchL u.lt ls i) := fun hb l hm => hl hb l (touch_mem hm)
theorem ThL.app (hl : ThL u ls) {l : Ln} (h : u.bk = false → l.d = false) : ThL u (ls ++ [l]) := fun hb l' hm => by
  rcases List.mem_append.mp hm with hm | hm
  · exact hl hb l' hm
  · rw [List.mem_singleton.mp hm]
    exact h hb
theorem ThL.set (hl : ThL u ls) {i : Nat} {l : Ln} (h : u.bk = false → l.d = false) : ThL u (ls.set i l) := fun hb l' hm => by
  rcases List.mem_or_eq_of_mem_set hm with hm | hm
  · exact hl hb l' hm
  · rw [hm]
    exact h hb
theorem ThL.erase (hl : ThL u ls) {i : Nat} : ThL u (ls.eraseIdx i) := fun hb l' hm => hl hb l' (List.mem_of_mem_eraseIdx hm)
theorem reach_th (O : OpsTh o) (hl : ThL u ls) (h : ThTa t) (b : Nat) : ThL u (reachL o u ls t b).1 ∧ ThTa (reachL o u ls t b).2.1 := by
  unfold reachL
  split
  · exact ⟨touch_th hl, h⟩
  · obtain ⟨h1, h2⟩ := mkWay_th O hl h
    exact ⟨h1.app fun _ => rfl, O.br _ _ (h2.note u.tl "bring" b)⟩
theorem lnAt_th (hl : ThL u ls) (i : Nat) : u.bk = false → (lnAt ls i).d = false := fun hb => by
  unfold lnAt
  rw [List.getD_eq_getElem?_getD]
  cases e : ls[i]? with
  | none => rfl
  | some l => exact hl hb l (List.mem_of_getElem? e)
theorem change_th (O : OpsTh o) (hl : ThL u ls) (h : ThTa t) (p : Nat) (v : Int) : ThL u (changeL o u ls t p v).1 ∧ ThTa (changeL o u ls t p v).2 := by
  unfold changeL
  split
  · exact ⟨hl, passC_th O h _ _ _⟩
  · obtain ⟨h1, h2⟩ := reach_th O hl h (p / 4)
    refine ⟨h1.set fun hb => ?_, ?_⟩
    · show (u.bk || (lnAt (reachL o u ls t (p / 4)).1 (reachL o u ls t (p / 4)).2.2).d) = false
      rw [hb, lnAt_th h1 _ hb]
      rfl
    · show ThTa (if u.bk = true then (reachL o u ls t (p / 4)).2.1 else passC o u.tl (reachL o u ls t (p / 4)).2.1 p v)
      split
      · exact h2
      · exact passC_th O h2 _ _ _
theorem home_th (O : OpsTh o) (hl : ThL u ls) (h : ThTa t) (b : Nat) (ns : List Int) : ThL u (homeL o u ls t b ns).1 ∧ ThTa (homeL o u ls t b ns).2 := by
  unfold homeL
  split
  · split
    · obtain ⟨h1, h2⟩ := mkWay_th O hl h
      refine ⟨h1.app fun hb => hb, ?_⟩
      show ThTa (if u.bk = true then (mkWay o u ls t).2 else passH o u.tl (mkWay o u ls t).2 b ns)
      split
      · exact h2
      · exact passH_th O h2 _ _ _
    · exact ⟨hl, passH_th O h _ _ _⟩
  · refine ⟨(touch_th hl).set fun hb => hb, ?_⟩
    show ThTa (if u.bk = true then t else passH o u.tl t b ns)
    split
    · exact h
    · exact passH_th O h _ _ _
theorem yield_th (O : OpsTh o) (hl : ThL u ls) (h : ThTa t) (b : Nat) (g : Bool) : ThL u (yieldL o u ls t b g).1 ∧ ThTa (yieldL o u ls t b g).2 := by
  unfold yieldL
  split
  · exact ⟨hl, h⟩
  · rename_i i _
    refine ⟨?_, ?_⟩
    · show ThL u (if g = true then ls.eraseIdx i else ls.set i { lnAt ls i with d := false })
      split
      · exact hl.erase
      · exact hl.set fun _ => rfl
    · show ThTa (if (lnAt ls i).d = true then passH o u.tl t b (lnAt ls i).ns else t)
      split
      · exact passH_th O h _ _ _
      · exact h
theorem settleL_th (O : OpsTh o) : ∀ {ls : List Ln} {t : Ta}, ThTa t → ThL u (settleL o u ls t).1 ∧ ThTa (settleL o u ls t).2
  | [], t, h => ⟨fun _ l hm => (by cases hm), h⟩
  | l :: r, t, h => by
    have h1 : ThTa (if l.d = true then passH o u.tl t l.b l.ns else t) := by
      split
      · exact passH_th O h _ _ _
      · exact h
    obtain ⟨i1, i2⟩ := settleL_th O (ls := r) h1
    refine ⟨fun hb l' hm => ?_, i2⟩
    rcases List.mem_cons.mp hm with e | hm
    · rw [e]
    · exact i1 hb l' hm
theorem settleS_th (O : OpsTh o) : ∀ {ss : List (List Ln)} {t : Ta}, ThTa t → (∀ ls ∈ (settleS o u ss t).1, ThL u ls) ∧ ThTa (settleS o u ss t).2
  | [], t, h => ⟨fun ls hm => (by cases hm), h⟩
  | ls :: r, t, h => by
    obtain ⟨h1, h2⟩ := settleL_th (u := u) O (ls := ls) h
    obtain ⟨i1, i2⟩ := settleS_th O (ss := r) h2
    refine ⟨fun ls' hm => ?_, i2⟩
    rcases List.mem_cons.mp hm with e | hm
    · rw [e]
      exact h1
    · exact i1 ls' hm
theorem ThRm.put {r : Rm} (h : ThRm r) {b : Nat} {ls : List Ln} (hl : ThL r.ru ls) : ThRm (r.put b ls) := fun ls' hm => by
  rcases List.mem_or_eq_of_mem_set (show ls' ∈ r.ss.set (r.ix b) ls from hm) with hm | hm
  · exact h ls' hm
  · rw [hm]
    exact hl
theorem ThRm.lsT {r : Rm} (h : ThRm r) (b : Nat) : ThL r.ru (r.ls b) := by
  unfold Rm.ls
  rw [List.getD_eq_getElem?_getD]
  cases e : r.ss[r.ix b]? with
  | none => exact fun _ l hm => (by cases hm)
  | some ls => exact h ls (List.mem_of_getElem? e)
theorem ThTa.cons {r : Rm} (hr : ThRm r) (h : ThTa t) : ThTa (Ta.cons r t) := fun q hm => by
  rcases List.mem_cons.mp (show q ∈ r :: t.rs from hm) with e | hm
  · rw [e]
    exact hr
  · exact h q hm
theorem ThTa.tail {r : Rm} {rs : List Rm} (h : ThTa t) (e : t.rs = r :: rs) : ThRm r ∧ ThTa { t with rs := rs } := ⟨h r (by rw [e]; exact List.mem_cons_self), fun q hm => h q (by rw [e]; exact List.mem_cons_of_mem _ hm)⟩
end
theorem ops_th : ∀ n, OpsTh (ops n)
  | 0 => ⟨fun t b ns h => h, fun t b h => h, fun t p v h => h⟩
  | n + 1 => by
    have O := ops_th n
    refine ⟨fun t b ns h => ?_, fun t b h => ?_, fun t p v h => ?_⟩
    · show ThTa (match t.rs with | [] => t | r :: rs => Ta.cons (r.put b (homeL (ops n) r.ru (r.ls b) { t with rs := rs } b ns).1) (homeL (ops n) r.ru (r.ls b) { t with rs := rs } b ns).2)
      split
      · exact h
      · rename_i r rs e
        obtain ⟨h1, h2⟩ := h.tail e
        obtain ⟨i1, i2⟩ := home_th O (h1.lsT b) h2 b ns
        exact .cons (h1.put i1) i2
    · show ThTa (match t.rs with | [] => (([] : List Int), t) | r :: rs => ((bringL (ops n) r.ru (r.ls b) { t with rs := rs } b).1, Ta.cons (r.put b (bringL (ops n) r.ru (r.ls b) { t with rs := rs } b).2.1) (bringL (ops n) r.ru (r.ls b) { t with rs := rs } b).2.2)).2
      split
      · exact h
      · rename_i r rs e
        obtain ⟨h1, h2⟩ := h.tail e
        obtain ⟨i1, i2⟩ := reach_th O (h1.lsT b) h2 b
        exact .cons (h1.put i1) i2
    · show ThTa (match t.rs with | [] => t | r :: rs => Ta.cons (r.put (p / 4) (changeL (ops n) r.ru (r.ls (p / 4)) { t with rs := rs } p v).1) (changeL (ops n) r.ru (r.ls (p / 4)) { t with rs := rs } p v).2)
      split
      · exact h
      · rename_i r rs e
        obtain ⟨h1, h2⟩ := h.tail e
        obtain ⟨i1, i2⟩ := change_th O (h1.lsT (p / 4)) h2 p v
        exact .cons (h1.put i1) i2
-- WwSD
/-! ### sorted(d), d a dict whose keys are tuples of ints -/
section
variable {X : Cx}
def rSortDT (d : Nat) (B : Int) : List V → Hp → VK → Prop := fun xs H Q => ∃ (a : Addr) (kvs : List (List Key × V)) (ns : List (List Int)), xs = [.ref a] ∧ Rd H a (.dT kvs) ∧ kvs.map (·.1) = ns.map (fun n => n.map Sum.inl) ∧ ns.length < 64 ∧ (∀ n ∈ ns, n.length = d ∧ TS.Bd B n) ∧
  ∀ (bs : List (Addr × List Int)) (p : Addr), (bs.map (·.2)).Perm ns → bs.Pairwise (fun n m => TS.code B n.2 ≤ TS.code B m.2) → (∀ b ∈ bs, H b.1 = some (.tup (b.2.map V.int))) → H p = none → Q (.ref p) (upd H p (.lst (bs.map fun b => V.ref b.1)))
theorem kV_inl (n : List Int) : (n.map (Sum.inl : Int → Key)).map kV = n.map V.int := by
  rw [List.map_map]
  rfl
def adOf : Value → Addr
  | .ref a => a
  | _ => 0
theorem cr_sortDT (hcalm : X.calm = true) {d : Nat} {B : Int} (hd1 : 1 ≤ d) : CallR X (.builtin "sorted") (rSortDT d B) := by
  intro pins s σ H xs us Q I r h
  obtain ⟨a, kvs, ns, rfl, hd, hks, h64, hB, q⟩ := h
  obtain ⟨u, rfl, rx⟩ := r.one
  cases rx
  obtain ⟨z, hs, ks, pr, o, es, ep, ho, hx, hdt, he, hn⟩ := (show ObjOk X.prog X.w H s.heap a (.dT kvs) from hd.ok I.hok)
  have l1 : es.size = ks.length := size_of_entries he
  have l2 : kvs.length = ks.length := Paired.length pr
  have l3 : kvs.length = ns.length := by
    have e := congrArg List.length hks
    rw [List.length_map, List.length_map] at e
    exact e
  refine Calls.call_function_entry PyProof.Rows.kind_sorted PyProof.Rows.plain_sorted PyProof.Rows.entry_sorted (PyProof.Rows.args_sorted1 _) ?_
  unfold Builtin.«sorted»
  refine wpAny_bind (m := checkCount "sorted" 1 1 _) (wpAny_pure ?_)
  refine wpAny_bind (PySem.W.kdu_collect (A := X.A.in1) (kdl_raw hs hx hdt) (I.ok.hd hcalm) ho (by omega) fun h' tk acc hk hacc => ?_)
  have ea : acc.toList = ks.map fun x => Value.ref x.2.1 := by
    have hl : acc.toList.length = ks.length := by rw [Array.length_toList, hacc.1]; exact l1
    apply List.ext_getElem?
    intro j
    rw [List.getElem?_map]
    cases hj : acc.toList[j]? with
    | none =>
      have h1 := List.getElem?_eq_none_iff.mp hj
      rw [List.getElem?_eq_none (by omega)]
      all_goals rfl
    | some v =>
      obtain ⟨en, hen, hv⟩ := hacc.2 j v (by rw [← Array.getElem?_toList]; exact hj)
      have qe := entry_at he j
      rw [hen] at qe
      cases hb : ks[j]? with
      | none =>
        rw [hb] at qe
        exact nomatch (show some en = none from qe)
      | some b =>
        rw [hb] at qe
        have e2 : en = entryOfKey (tupleKind (mixKind X.prog X.w)) b := Option.some.inj qe
        rw [hv, e2]
        all_goals rfl
  have hkn : ks.map (·.1) = ns.map (fun n => n.map Sum.inl) := by
    have e : ∀ {l : List (List Key × V)} {m : List (List Key × Addr × Value)}, KT H l m → l.map (·.1) = m.map (·.1) := by
      intro l m r
      induction r with
      | nil => rfl
      | cons h t ih =>
        rw [List.map_cons, List.map_cons, ih, h.1]
    rw [← e pr]
    exact hks
  have hkt : ∀ x ∈ ks, H x.2.1 = some (.tup (x.1.map kV)) := by
    have e : ∀ {l : List (List Key × V)} {m : List (List Key × Addr × Value)}, KT H l m → ∀ x ∈ m, H x.2.1 = some (.tup (x.1.map kV)) := by
      intro l m r
      induction r with
      | nil => intro x hx; cases hx
      | cons h t ih =>
        intro x hx
        rcases List.mem_cons.mp hx with e | hx
        · subst e
          rw [← h.1]
          exact h.2.1
        · exact ih x hx
    exact e pr
  have hkd : ∀ x ∈ ks, ∃ n ∈ ns, x.1 = n.map Sum.inl := fun x hx => by
    have : x.1 ∈ ks.map (·.1) := List.mem_map.mpr ⟨x, hx, rfl⟩
    rw [hkn] at this
    obtain ⟨n, h1, h2⟩ := List.mem_map.mp this
    exact ⟨n, h1, h2.symm⟩
  have hal : acc.toList.length = ns.length := by rw [ea, List.length_map]; omega
  have I1 : Inv X pins σ H { s with heap := h', toks := tk } := I.kept hk
  refine wpAny_bind (wpAny_newList ?_ (by rw [hal, sizeLine_eq]; omega))
  have hoL : (h'.push (seqObj "list" acc.toList.toArray 0)).get? h'.objs.size = some (seqObj "list" acc.toList.toArray 0) := Heap.get?_push_size _ rfl
  have I2 : Inv X pins σ H { s with heap := h'.push (seqObj "list" acc.toList.toArray 0), toks := tk } := I.kept fun b ob e => Heap.get?_push_of_some _ (hk b ob e)
  have hT : ∀ v ∈ acc.toList, ∃ (t : Addr) (n : List Int), v = .ref t ∧ n ∈ ns ∧ H t = some (.tup (n.map V.int)) := fun v hv => by
    rw [ea] at hv
    obtain ⟨x, hx, rfl⟩ := List.mem_map.mp hv
    obtain ⟨n, hn1, hn2⟩ := hkd x hx
    refine ⟨x.2.1, n, rfl, hn1, ?_⟩
    have := hkt x hx
    rw [hn2, kV_inl] at this
    exact this
  have hraw : ∀ {t : Addr} {n : List Int}, H t = some (.tup (n.map V.int)) → TS.TupInts (h'.push (seqObj "list" acc.toList.toArray 0)) (.ref t) n := fun {t n} ht => tupI_raw I2 (SqT.of ht)
  show wpAny _ _ _ _ _ { s with heap := h'.push (seqObj "list" acc.toList.toArray 0), toks := tk }
  refine wpAny_bind (wpAny_holding (TS.call_sort_tups (s := { s with heap := h'.push (seqObj "list" acc.toList.toArray 0), toks := tk }) (d := d) (B := B) hoL (by rw [hal]; exact h64) hd1 (fun v hv => ?_) fun out h1 h2 => ?_))
  · obtain ⟨t, n, rfl, hn1, hn2⟩ := hT v hv
    exact ⟨n, hraw hn2, (hB n hn1).1, (hB n hn1).2⟩
  · obtain ⟨e', he'⟩ := PyProof.Rows.sortedHeap_at (vs := acc.toList) (out := out) hoL
    have ho3 : ∀ u ∈ out.toList, ∃ (t : Addr) (n : List Int), u = .ref t ∧ n ∈ ns ∧ H t = some (.tup (n.map V.int)) := fun u hu => hT u (h1.mem_iff.mp hu)
    have hin : ∀ u ∈ out.toList, u = .ref (adOf u) ∧ H (adOf u) = some (.tup ((TS.intsOf (h'.push (seqObj "list" acc.toList.toArray 0)) u).map V.int)) := fun u hu => by
      obtain ⟨t, n, rfl, _, hn2⟩ := ho3 u hu
      refine ⟨rfl, ?_⟩
      rw [(hraw hn2).ints]
      exact hn2
    have eo : out.toList = (out.toList.map adOf).map Value.ref := by
      rw [List.map_map]
      conv => lhs; rw [← List.map_id out.toList]
      exact List.map_congr_left fun u hu => (hin u hu).1
    have hlen : ((out.toList.map adOf).map V.ref).length ≤ sizeLine := by
      rw [List.length_map, List.length_map, h1.length_eq, hal]
      exact Nat.le_trans (Nat.le_of_lt h64) (by decide)
    have rv : Vals ((out.toList.map adOf).map V.ref) out.toList := by
      conv => rhs; rw [eo]
      exact vals_refs _
    have hq := q (out.toList.map fun u => (adOf u, TS.intsOf (h'.push (seqObj "list" acc.toList.toArray 0)) u)) h'.objs.size ?_ ?_ ?_ (I1.hok.fresh (Nat.le_refl _))
    · rw [List.map_map] at hq
      refine wpAny_pure ⟨_, rfl, .ref h'.objs.size, upd H h'.objs.size (.lst ((out.toList.map adOf).map V.ref)), I1.laid (t' := tk) (fun b u e => ?_) (Nat.le_refl _)
        (show ObjOk X.prog X.w _ _ _ (.lst ((out.toList.map adOf).map V.ref)) from ⟨hlen, out.toList, e', rv, by rw [Array.toArray_toList]; exact he'⟩), rfl, ?_⟩
      · have hb : b < h'.objs.size := Heap.lt_size e
        rw [PyProof.Rows.sortedHeap_old (Nat.ne_of_lt hb) (by rw [size_push']; exact Nat.lt_succ_of_lt hb)]
        exact Heap.get?_push_of_some _ e
      · rw [List.map_map]
        exact hq
    · rw [List.map_map]
      have e4 : ns = acc.toList.map (TS.intsOf (h'.push (seqObj "list" acc.toList.toArray 0))) := by
        have e5 : ks.map (·.1) = (acc.toList.map (TS.intsOf (h'.push (seqObj "list" acc.toList.toArray 0)))).map (fun n => n.map Sum.inl) := by
          rw [ea, List.map_map, List.map_map]
          refine List.map_congr_left fun x hx => ?_
          obtain ⟨n, hn1, hn2⟩ := hkd x hx
          have e6 := hkt x hx
          rw [hn2, kV_inl] at e6
          show x.1 = (TS.intsOf _ (Value.ref x.2.1)).map Sum.inl
          rw [← ea, (hraw e6).ints]
          exact hn2
        rw [hkn] at e5
        have inj : ∀ (l m : List (List Int)), l.map (fun n => n.map (Sum.inl : Int → Key)) = m.map (fun n => n.map Sum.inl) → l = m := fun l m e => by
          have := congrArg (fun z => z.map fun k => k.map (fun x : Key => x.elim id fun _ => 0)) e
          simp only [List.map_map] at this
          have id1 : ∀ l : List (List Int), l.map ((fun k => k.map (fun x : Key => x.elim id fun _ => 0)) ∘ fun n => n.map (Sum.inl : Int → Key)) = l := fun l => by
            conv => rhs; rw [← List.map_id l]
            refine List.map_congr_left fun n _ => ?_
            show (n.map Sum.inl).map _ = n
            rw [List.map_map]
            conv => rhs; rw [← List.map_id n]
            rfl
          rw [id1, id1] at this
          exact this
        exact inj _ _ e5
      rw [e4]
      exact h1.map _
    · rw [List.pairwise_map]
      exact h2
    · intro b hb
      obtain ⟨u, hu, rfl⟩ := List.mem_map.mp hb
      exact (hin u hu).2
end
-- WwText
def top (i : Nat) : Stmt := PySem.Challenge.pw_writeways_k03_what_a_room_passes_on.main.body.getD i (.Pass ⟨0, 0, 0, 0⟩)
abbrev s_BadRule___init__ : Stmt := inClass (top 3) 0
abbrev s_BadDeed___init__ : Stmt := inClass (top 8) 0
abbrev s_BadLeavings___init__ : Stmt := inClass (top 11) 0
abbrev s_BadText___init__ : Stmt := inClass (top 12) 0
abbrev s_is_number : Stmt := top 22
abbrev s_is_rule : Stmt := top 23
abbrev s_block_of : Stmt := top 24
abbrev s_Far___init__ : Stmt := inClass (top 29) 0
abbrev s_Far_bring : Stmt := inClass (top 29) 1
abbrev s_Far_home : Stmt := inClass (top 29) 2
abbrev s_Far_change : Stmt := inClass (top 29) 3
abbrev s_Line___init__ : Stmt := inClass (top 30) 0
abbrev s_Room___init__ : Stmt := inClass (top 31) 0
abbrev s_Room_lines_of : Stmt := inClass (top 31) 1
abbrev s_Room_line_of : Stmt := inClass (top 31) 2
abbrev s_Room_note : Stmt := inClass (top 31) 3
abbrev s_Room_pass_home : Stmt := inClass (top 31) 4
abbrev s_Room_pass_cell : Stmt := inClass (top 31) 5
abbrev s_Room_make_way : Stmt := inClass (top 31) 6
abbrev s_Room_touch : Stmt := inClass (top 31) 7
abbrev s_Room_reach : Stmt := inClass (top 31) 8
abbrev s_Room_bring : Stmt := inClass (top 31) 9
abbrev s_Room_look : Stmt := inClass (top 31) 10
abbrev s_Room_change : Stmt := inClass (top 31) 11
abbrev s_Room_home : Stmt := inClass (top 31) 12
abbrev s_Room_holds : Stmt := inClass (top 31) 15
abbrev s_sent : Stmt := top 32
abbrev s_is_ask : Stmt := top 35
abbrev s_passed : Stmt := top 36
abbrev s__law_taken : Stmt := top 38
abbrev s__law_alike : Stmt := top 39
abbrev s__law_word : Stmt := top 40
abbrev s__law_rule : Stmt := top 41
abbrev s__law_place : Stmt := top 42
abbrev s__law_hall : Stmt := top 43
abbrev s__law_spot : Stmt := top 44
abbrev s__law_behind : Stmt := top 45
abbrev s__law_home : Stmt := top 46
abbrev s__law_comes : Stmt := top 47
abbrev s__law_way : Stmt := top 48
abbrev s__law_reached : Stmt := top 49
abbrev s__law_cell : Stmt := top 50
abbrev s__law_due : Stmt := top 51
abbrev s_law : Stmt := top 52
theorem sc_BadRule___init__ : FnScope ["self", "number"] ["self", "number"] (defScope s_BadRule___init__) := ⟨rfl, rfl, rfl, by decide +kernel, rfl, by decide +kernel, by decide +kernel⟩
theorem sc_BadDeed___init__ : FnScope ["self", "number"] ["self", "number"] (defScope s_BadDeed___init__) := ⟨rfl, rfl, rfl, by decide +kernel, rfl, by decide +kernel, by decide +kernel⟩
theorem sc_BadLeavings___init__ : FnScope ["self", "number"] ["self", "number"] (defScope s_BadLeavings___init__) := ⟨rfl, rfl, rfl, by decide +kernel, rfl, by decide +kernel, by decide +kernel⟩
theorem sc_BadText___init__ : FnScope ["self", "row"] ["self", "row"] (defScope s_BadText___init__) := ⟨rfl, rfl, rfl, by decide +kernel, rfl, by decide +kernel, by decide +kernel⟩
theorem sc_is_number : FnScope ["part", "low", "high"] ["part", "low", "high"] (defScope s_is_number) := ⟨rfl, rfl, rfl, by decide +kernel, rfl, by decide +kernel, by decide +kernel⟩
theorem sc_is_rule : FnScope ["rule"] ["rule"] (defScope s_is_rule) := ⟨rfl, rfl, rfl, by decide +kernel, rfl, by decide +kernel, by decide +kernel⟩
theorem sc_block_of : FnScope ["place"] ["place"] (defScope s_block_of) := ⟨rfl, rfl, rfl, by decide +kernel, rfl, by decide +kernel, by decide +kernel⟩
theorem sc_Far___init__ : FnScope ["self"] ["self"] (defScope s_Far___init__) := ⟨rfl, rfl, rfl, by decide +kernel, rfl, by decide +kernel, by decide +kernel⟩
theorem sc_Far_bring : FnScope ["self", "block"] ["self", "block"] (defScope s_Far_bring) := ⟨rfl, rfl, rfl, by decide +kernel, rfl, by decide +kernel, by decide +kernel⟩
theorem sc_Far_home : FnScope ["self", "block", "numbers"] ["self", "block", "numbers"] (defScope s_Far_home) := ⟨rfl, rfl, rfl, by decide +kernel, rfl, by decide +kernel, by decide +kernel⟩
theorem sc_Far_change : FnScope ["self", "place", "number"] ["self", "place", "number"] (defScope s_Far_change) := ⟨rfl, rfl, rfl, by decide +kernel, rfl, by decide +kernel, by decide +kernel⟩
theorem sc_Line___init__ : FnScope ["self", "block", "numbers"] ["self", "block", "numbers"] (defScope s_Line___init__) := ⟨rfl, rfl, rfl, by decide +kernel, rfl, by decide +kernel, by decide +kernel⟩
theorem sc_Room___init__ : FnScope ["self", "rule", "behind", "title", "diary", "number"] ["self", "rule", "behind", "title", "diary"] (defScope s_Room___init__) := ⟨rfl, rfl, rfl, by decide +kernel, rfl, by decide +kernel, by decide +kernel⟩
theorem sc_Room_lines_of : FnScope ["self", "block"] ["self", "block"] (defScope s_Room_lines_of) := ⟨rfl, rfl, rfl, by decide +kernel, rfl, by decide +kernel, by decide +kernel⟩
theorem sc_Room_line_of : FnScope ["self", "block", "line"] ["self", "block"] (defScope s_Room_line_of) := ⟨rfl, rfl, rfl, by decide +kernel, rfl, by decide +kernel, by decide +kernel⟩
theorem sc_Room_note : FnScope ["self", "word", "number"] ["self", "word", "number"] (defScope s_Room_note) := ⟨rfl, rfl, rfl, by decide +kernel, rfl, by decide +kernel, by decide +kernel⟩
theorem sc_Room_pass_home : FnScope ["self", "line"] ["self", "line"] (defScope s_Room_pass_home) := ⟨rfl, rfl, rfl, by decide +kernel, rfl, by decide +kernel, by decide +kernel⟩
theorem sc_Room_pass_cell : FnScope ["self", "place", "number"] ["self", "place", "number"] (defScope s_Room_pass_cell) := ⟨rfl, rfl, rfl, by decide +kernel, rfl, by decide +kernel, by decide +kernel⟩
theorem sc_Room_make_way : FnScope ["self", "block", "lines", "line"] ["self", "block"] (defScope s_Room_make_way) := ⟨rfl, rfl, rfl, by decide +kernel, rfl, by decide +kernel, by decide +kernel⟩
theorem sc_Room_touch : FnScope ["self", "line", "lines"] ["self", "line"] (defScope s_Room_touch) := ⟨rfl, rfl, rfl, by decide +kernel, rfl, by decide +kernel, by decide +kernel⟩
theorem sc_Room_reach : FnScope ["self", "block", "line"] ["self", "block"] (defScope s_Room_reach) := ⟨rfl, rfl, rfl, by decide +kernel, rfl, by decide +kernel, by decide +kernel⟩
theorem sc_Room_bring : FnScope ["self", "block"] ["self", "block"] (defScope s_Room_bring) := ⟨rfl, rfl, rfl, by decide +kernel, rfl, by decide +kernel, by decide +kernel⟩
theorem sc_Room_look : FnScope ["self", "place"] ["self", "place"] (defScope s_Room_look) := ⟨rfl, rfl, rfl, by decide +kernel, rfl, by decide +kernel, by decide +kernel⟩
theorem sc_Room_change : FnScope ["self", "place", "number", "line"] ["self", "place", "number"] (defScope s_Room_change) := ⟨rfl, rfl, rfl, by decide +kernel, rfl, by decide +kernel, by decide +kernel⟩
theorem sc_Room_home : FnScope ["self", "block", "numbers", "line"] ["self", "block", "numbers"] (defScope s_Room_home) := ⟨rfl, rfl, rfl, by decide +kernel, rfl, by decide +kernel, by decide +kernel⟩
theorem sc_Room_holds : FnScope ["self", "lines", "line"] ["self"] (defScope s_Room_holds) := ⟨rfl, rfl, rfl, by decide +kernel, rfl, by decide +kernel, by decide +kernel⟩
theorem sc_sent : FnScope ["rule", "asks", "diary", "room", "word", "number"] ["rule", "asks"] (defScope s_sent) := ⟨rfl, rfl, rfl, by decide +kernel, rfl, by decide +kernel, by decide +kernel⟩
theorem sc_is_ask : FnScope ["ask"] ["ask"] (defScope s_is_ask) := ⟨rfl, rfl, rfl, by decide +kernel, rfl, by decide +kernel, by decide +kernel⟩
theorem sc_passed : FnScope ["rule", "asks", "number", "ask"] ["rule", "asks"] (defScope s_passed) := ⟨rfl, rfl, rfl, by decide +kernel, rfl, by decide +kernel, by decide +kernel⟩
theorem sc__law_taken : FnScope ["_law_row", "_law_many", "_law_cell_here"] ["_law_row", "_law_many"] (defScope s__law_taken) := ⟨rfl, rfl, rfl, by decide +kernel, rfl, by decide +kernel, by decide +kernel⟩
theorem sc__law_alike : FnScope ["_law_found", "_law_due_here", "_law_k"] ["_law_found", "_law_due_here"] (defScope s__law_alike) := ⟨rfl, rfl, rfl, by decide +kernel, rfl, by decide +kernel, by decide +kernel⟩
theorem sc__law_word : FnScope ["_law_work", "_law_kinds", "e", "_law_word_here"] ["_law_work"] (defScope s__law_word) := ⟨rfl, rfl, rfl, by decide +kernel, rfl, by decide +kernel, by decide +kernel⟩
theorem sc__law_rule : FnScope ["_law_row", "_law_write", "_law_take"] ["_law_row"] (defScope s__law_rule) := ⟨rfl, rfl, rfl, by decide +kernel, rfl, by decide +kernel, by decide +kernel⟩
theorem sc__law_place : FnScope ["_law_row", "_law_most"] ["_law_row", "_law_most"] (defScope s__law_place) := ⟨rfl, rfl, rfl, by decide +kernel, rfl, by decide +kernel, by decide +kernel⟩
theorem sc__law_hall : FnScope ["_law_rules", "_law_hands", "_law_rooms", "_law_level", "_law_hand", "_law_number"] ["_law_rules", "_law_hands"] (defScope s__law_hall) := ⟨rfl, rfl, rfl, by decide +kernel, rfl, by decide +kernel, by decide +kernel⟩
theorem sc__law_spot : FnScope ["_law_h", "_law_key", "_law_block", "_law_lines", "_law_some", "_law_k"] ["_law_h", "_law_key", "_law_block"] (defScope s__law_spot) := ⟨rfl, rfl, rfl, by decide +kernel, rfl, by decide +kernel, by decide +kernel⟩
theorem sc__law_behind : FnScope ["_law_h", "_law_key"] ["_law_h", "_law_key"] (defScope s__law_behind) := ⟨rfl, rfl, rfl, by decide +kernel, rfl, by decide +kernel, by decide +kernel⟩
theorem sc__law_home : FnScope ["_law_h", "_law_key", "_law_line"] ["_law_h", "_law_key", "_law_line"] (defScope s__law_home) := ⟨rfl, rfl, rfl, by decide +kernel, rfl, by decide +kernel, by decide +kernel⟩
theorem sc__law_comes : FnScope ["_law_h", "_law_key", "_law_block", "_law_numbers", "_law_lines", "_law_at", "_law_rule_here"] ["_law_h", "_law_key", "_law_block", "_law_numbers"] (defScope s__law_comes) := ⟨rfl, rfl, rfl, by decide +kernel, rfl, by decide +kernel, by decide +kernel⟩
theorem sc__law_way : FnScope ["_law_h", "_law_key", "_law_lines", "_law_line"] ["_law_h", "_law_key", "_law_lines"] (defScope s__law_way) := ⟨rfl, rfl, rfl, by decide +kernel, rfl, by decide +kernel, by decide +kernel⟩
theorem sc__law_reached : FnScope ["_law_h", "_law_key", "_law_block", "_law_lines", "_law_at", "_law_numbers"] ["_law_h", "_law_key", "_law_block"] (defScope s__law_reached) := ⟨rfl, rfl, rfl, by decide +kernel, rfl, by decide +kernel, by decide +kernel⟩
theorem sc__law_cell : FnScope ["_law_h", "_law_key", "_law_place_here", "_law_number", "_law_block", "_law_rule_here", "_law_is_on", "_law_line"] ["_law_h", "_law_key", "_law_place_here", "_law_number"] (defScope s__law_cell) := ⟨rfl, rfl, rfl, by decide +kernel, rfl, by decide +kernel, by decide +kernel⟩
theorem sc__law_due : FnScope ["_law_rule_here", "_law_asks", "_law_h", "_law_word_here", "_law_number", "_law_one"] ["_law_rule_here", "_law_asks"] (defScope s__law_due) := ⟨rfl, rfl, rfl, by decide +kernel, rfl, by decide +kernel, by decide +kernel⟩
theorem sc_law : FnScope ["_law_script", "_law_row", "_law_turn", "_law_rule_here", "_law_asks", "_law_few", "_law_k", "_law_word_here", "_law_place_here", "_law_due_here", "_law_handed", "_law_again", "_law_found", "_law_far", "_law_odd", "_law_at", "_law_spoilt", "_law_bad"] ["_law_script"] (defScope s_law) := ⟨rfl, rfl, rfl, by decide +kernel, rfl, by decide +kernel, by decide +kernel⟩
structure Txt (K : PySem.W.Frag) (mg : Str → Option Value) where
  g_is_number : mg "is_number" = some (.ref (He.ga K "is_number"))
  g_is_rule : mg "is_rule" = some (.ref (He.ga K "is_rule"))
  g_block_of : mg "block_of" = some (.ref (He.ga K "block_of"))
  g_sent : mg "sent" = some (.ref (He.ga K "sent"))
  g_is_ask : mg "is_ask" = some (.ref (He.ga K "is_ask"))
  g_passed : mg "passed" = some (.ref (He.ga K "passed"))
  g__law_taken : mg "_law_taken" = some (.ref (He.ga K "_law_taken"))
  g__law_alike : mg "_law_alike" = some (.ref (He.ga K "_law_alike"))
  g__law_word : mg "_law_word" = some (.ref (He.ga K "_law_word"))
  g__law_rule : mg "_law_rule" = some (.ref (He.ga K "_law_rule"))
  g__law_place : mg "_law_place" = some (.ref (He.ga K "_law_place"))
  g__law_hall : mg "_law_hall" = some (.ref (He.ga K "_law_hall"))
  g__law_spot : mg "_law_spot" = some (.ref (He.ga K "_law_spot"))
  g__law_behind : mg "_law_behind" = some (.ref (He.ga K "_law_behind"))
  g__law_home : mg "_law_home" = some (.ref (He.ga K "_law_home"))
  g__law_comes : mg "_law_comes" = some (.ref (He.ga K "_law_comes"))
  g__law_way : mg "_law_way" = some (.ref (He.ga K "_law_way"))
  g__law_reached : mg "_law_reached" = some (.ref (He.ga K "_law_reached"))
  g__law_cell : mg "_law_cell" = some (.ref (He.ga K "_law_cell"))
  g__law_due : mg "_law_due" = some (.ref (He.ga K "_law_due"))
  g_law : mg "law" = some (.ref (He.ga K "law"))
  g_WayError : mg "WayError" = some (.ref (He.ga K "WayError"))
  g_BadRule : mg "BadRule" = some (.ref (He.ga K "BadRule"))
  g_BadHands : mg "BadHands" = some (.ref (He.ga K "BadHands"))
  g_BadHand : mg "BadHand" = some (.ref (He.ga K "BadHand"))
  g_BadPlace : mg "BadPlace" = some (.ref (He.ga K "BadPlace"))
  g_BadNumber : mg "BadNumber" = some (.ref (He.ga K "BadNumber"))
  g_BadDeed : mg "BadDeed" = some (.ref (He.ga K "BadDeed"))
  g_BadRoom : mg "BadRoom" = some (.ref (He.ga K "BadRoom"))
  g_BadWays : mg "BadWays" = some (.ref (He.ga K "BadWays"))
  g_BadLeavings : mg "BadLeavings" = some (.ref (He.ga K "BadLeavings"))
  g_BadText : mg "BadText" = some (.ref (He.ga K "BadText"))
  g_Far : mg "Far" = some (.ref (He.ga K "Far"))
  g_Line : mg "Line" = some (.ref (He.ga K "Line"))
  g_Room : mg "Room" = some (.ref (He.ga K "Room"))
  cl_Far : Cls K (He.ga K "Far")
  na_Far_held : NoAttr K (He.ga K "Far") "held"
  mk_Far : Mk K (He.ga K "Far") (He.ma K (He.ga K "Far") "__init__")
  m_Far_bring : Meth K (He.ga K "Far") "bring" (He.ma K (He.ga K "Far") "bring")
  m_Far_home : Meth K (He.ga K "Far") "home" (He.ma K (He.ga K "Far") "home")
  m_Far_change : Meth K (He.ga K "Far") "change" (He.ma K (He.ga K "Far") "change")
  cl_Line : Cls K (He.ga K "Line")
  na_Line_block : NoAttr K (He.ga K "Line") "block"
  na_Line_numbers : NoAttr K (He.ga K "Line") "numbers"
  na_Line_is_dirty : NoAttr K (He.ga K "Line") "is_dirty"
  mk_Line : Mk K (He.ga K "Line") (He.ma K (He.ga K "Line") "__init__")
  cl_Room : Cls K (He.ga K "Room")
  na_Room_ways : NoAttr K (He.ga K "Room") "ways"
  na_Room_is_back : NoAttr K (He.ga K "Room") "is_back"
  na_Room_is_in : NoAttr K (He.ga K "Room") "is_in"
  na_Room_is_late : NoAttr K (He.ga K "Room") "is_late"
  na_Room_behind : NoAttr K (He.ga K "Room") "behind"
  na_Room_title : NoAttr K (He.ga K "Room") "title"
  na_Room_diary : NoAttr K (He.ga K "Room") "diary"
  na_Room_sets : NoAttr K (He.ga K "Room") "sets"
  mk_Room : Mk K (He.ga K "Room") (He.ma K (He.ga K "Room") "__init__")
  m_Room_lines_of : Meth K (He.ga K "Room") "lines_of" (He.ma K (He.ga K "Room") "lines_of")
  m_Room_line_of : Meth K (He.ga K "Room") "line_of" (He.ma K (He.ga K "Room") "line_of")
  m_Room_note : Meth K (He.ga K "Room") "note" (He.ma K (He.ga K "Room") "note")
  m_Room_pass_home : Meth K (He.ga K "Room") "pass_home" (He.ma K (He.ga K "Room") "pass_home")
  m_Room_pass_cell : Meth K (He.ga K "Room") "pass_cell" (He.ma K (He.ga K "Room") "pass_cell")
  m_Room_make_way : Meth K (He.ga K "Room") "make_way" (He.ma K (He.ga K "Room") "make_way")
  m_Room_touch : Meth K (He.ga K "Room") "touch" (He.ma K (He.ga K "Room") "touch")
  m_Room_reach : Meth K (He.ga K "Room") "reach" (He.ma K (He.ga K "Room") "reach")
  m_Room_bring : Meth K (He.ga K "Room") "bring" (He.ma K (He.ga K "Room") "bring")
  m_Room_look : Meth K (He.ga K "Room") "look" (He.ma K (He.ga K "Room") "look")
  m_Room_change : Meth K (He.ga K "Room") "change" (He.ma K (He.ga K "Room") "change")
  m_Room_home : Meth K (He.ga K "Room") "home" (He.ma K (He.ga K "Room") "home")
  m_Room_holds : Meth K (He.ga K "Room") "holds" (He.ma K (He.ga K "Room") "holds")
  g_CELLS : ∃ t, mg "CELLS" = some (.int 64 t)
  g_BLOCK : ∃ t, mg "BLOCK" = some (.int 4 t)
  g_MOST_WAYS : ∃ t, mg "MOST_WAYS" = some (.int 4 t)
  g_SETS : mg "SETS" = some (.ref (He.ga K "SETS"))
  g_WRITES : mg "WRITES" = some (.ref (He.ga K "WRITES"))
  g_TAKES : mg "TAKES" = some (.ref (He.ga K "TAKES"))
  g_LEAVES : mg "LEAVES" = some (.ref (He.ga K "LEAVES"))
  g_LOOK : ∃ t, mg "LOOK" = some (.str "look" t)
  g_BRING : ∃ t, mg "BRING" = some (.str "bring" t)
  g_HOME : ∃ t, mg "HOME" = some (.str "home" t)
  g_CELL : ∃ t, mg "CELL" = some (.str "cell" t)
  g_MOST_ASKS : ∃ t, mg "MOST_ASKS" = some (.int 400 t)
  n_ValueError : mg "ValueError" = none
  n_len : mg "len" = none
  n_isinstance : mg "isinstance" = none
  n_range : mg "range" = none
  n_list : mg "list" = none
  n_tuple : mg "tuple" = none
  n_enumerate : mg "enumerate" = none
  n_int : mg "int" = none
  n_bool : mg "bool" = none
  n_str : mg "str" = none
  m_BadRule___init__ : Meth K (He.ga K "BadRule") "__init__" (He.ma K (He.ga K "BadRule") "__init__")
  na_BadRule_number : NoAttr K (He.ga K "BadRule") "number"
  xe_BadHands : PySem.W.excIn K (He.ga K "BadHands") He.veBase "ValueError.__new__" = true ∧ PySem.W.keepIn K (.ref (He.ga K "BadHands")) = true ∧ PySem.W.subIn K (.ref (He.ga K "BadHands")) (.type "BaseException") = some true ∧ PySem.W.typeIn K (.ref (He.ga K "BadHands")) = some (.type "type")
  xe_BadHand : PySem.W.excIn K (He.ga K "BadHand") He.veBase "ValueError.__new__" = true ∧ PySem.W.keepIn K (.ref (He.ga K "BadHand")) = true ∧ PySem.W.subIn K (.ref (He.ga K "BadHand")) (.type "BaseException") = some true ∧ PySem.W.typeIn K (.ref (He.ga K "BadHand")) = some (.type "type")
  xe_BadPlace : PySem.W.excIn K (He.ga K "BadPlace") He.veBase "ValueError.__new__" = true ∧ PySem.W.keepIn K (.ref (He.ga K "BadPlace")) = true ∧ PySem.W.subIn K (.ref (He.ga K "BadPlace")) (.type "BaseException") = some true ∧ PySem.W.typeIn K (.ref (He.ga K "BadPlace")) = some (.type "type")
  xe_BadNumber : PySem.W.excIn K (He.ga K "BadNumber") He.veBase "ValueError.__new__" = true ∧ PySem.W.keepIn K (.ref (He.ga K "BadNumber")) = true ∧ PySem.W.subIn K (.ref (He.ga K "BadNumber")) (.type "BaseException") = some true ∧ PySem.W.typeIn K (.ref (He.ga K "BadNumber")) = some (.type "type")
  m_BadDeed___init__ : Meth K (He.ga K "BadDeed") "__init__" (He.ma K (He.ga K "BadDeed") "__init__")
  na_BadDeed_number : NoAttr K (He.ga K "BadDeed") "number"
  xe_BadRoom : PySem.W.excIn K (He.ga K "BadRoom") He.veBase "ValueError.__new__" = true ∧ PySem.W.keepIn K (.ref (He.ga K "BadRoom")) = true ∧ PySem.W.subIn K (.ref (He.ga K "BadRoom")) (.type "BaseException") = some true ∧ PySem.W.typeIn K (.ref (He.ga K "BadRoom")) = some (.type "type")
  xe_BadWays : PySem.W.excIn K (He.ga K "BadWays") He.veBase "ValueError.__new__" = true ∧ PySem.W.keepIn K (.ref (He.ga K "BadWays")) = true ∧ PySem.W.subIn K (.ref (He.ga K "BadWays")) (.type "BaseException") = some true ∧ PySem.W.typeIn K (.ref (He.ga K "BadWays")) = some (.type "type")
  m_BadLeavings___init__ : Meth K (He.ga K "BadLeavings") "__init__" (He.ma K (He.ga K "BadLeavings") "__init__")
  na_BadLeavings_number : NoAttr K (He.ga K "BadLeavings") "number"
  m_BadText___init__ : Meth K (He.ga K "BadText") "__init__" (He.ma K (He.ga K "BadText") "__init__")
  na_BadText_row : NoAttr K (He.ga K "BadText") "row"
  t_SETS : ∀ H : Hp, SqT K H (He.ga K "SETS") [V.int 1, V.int 2, V.int 4]
  t_WRITES : ∀ H : Hp, SqT K H (He.ga K "WRITES") [V.str "through", V.str "back"]
  t_TAKES : ∀ H : Hp, SqT K H (He.ga K "TAKES") [V.str "in", V.str "by"]
  t_LEAVES : ∀ H : Hp, SqT K H (He.ga K "LEAVES") [V.str "first", V.str "late"]
  cmp_Line : CmpC K (He.ga K "Line")
  xt : ExcT K bads
  ox_BadRule : oexB K (He.ga K "BadRule") = true
  ox_BadDeed : oexB K (He.ga K "BadDeed") = true
  ox_BadLeavings : oexB K (He.ga K "BadLeavings") = true
  ox_BadText : oexB K (He.ga K "BadText") = true
  fd_BadRule___init__ : FuncData
  F_BadRule___init__ : FunD K "__init__" "BadRule.__init__" (defArgs s_BadRule___init__) (defBody s_BadRule___init__) (defScope s_BadRule___init__) [] [] (He.fAd K ("BadRule", some "__init__")) fd_BadRule___init__
  b_BadRule___init__ : Binds K fd_BadRule___init__ ["self", "number"] []
  k_BadRule___init__ : PySem.W.keepIn K (.ref (He.fAd K ("BadRule", some "__init__"))) = true
  fd_BadDeed___init__ : FuncData
  F_BadDeed___init__ : FunD K "__init__" "BadDeed.__init__" (defArgs s_BadDeed___init__) (defBody s_BadDeed___init__) (defScope s_BadDeed___init__) [] [] (He.fAd K ("BadDeed", some "__init__")) fd_BadDeed___init__
  b_BadDeed___init__ : Binds K fd_BadDeed___init__ ["self", "number"] []
  k_BadDeed___init__ : PySem.W.keepIn K (.ref (He.fAd K ("BadDeed", some "__init__"))) = true
  fd_BadLeavings___init__ : FuncData
  F_BadLeavings___init__ : FunD K "__init__" "BadLeavings.__init__" (defArgs s_BadLeavings___init__) (defBody s_BadLeavings___init__) (defScope s_BadLeavings___init__) [] [] (He.fAd K ("BadLeavings", some "__init__")) fd_BadLeavings___init__
  b_BadLeavings___init__ : Binds K fd_BadLeavings___init__ ["self", "number"] []
  k_BadLeavings___init__ : PySem.W.keepIn K (.ref (He.fAd K ("BadLeavings", some "__init__"))) = true
  fd_BadText___init__ : FuncData
  F_BadText___init__ : FunD K "__init__" "BadText.__init__" (defArgs s_BadText___init__) (defBody s_BadText___init__) (defScope s_BadText___init__) [] [] (He.fAd K ("BadText", some "__init__")) fd_BadText___init__
  b_BadText___init__ : Binds K fd_BadText___init__ ["self", "row"] []
  k_BadText___init__ : PySem.W.keepIn K (.ref (He.fAd K ("BadText", some "__init__"))) = true
  fd_is_number : FuncData
  F_is_number : FunD K "is_number" "is_number" (defArgs s_is_number) (defBody s_is_number) (defScope s_is_number) [] [] (He.fAd K ("is_number", none)) fd_is_number
  b_is_number : Binds K fd_is_number ["part", "low", "high"] []
  k_is_number : PySem.W.keepIn K (.ref (He.fAd K ("is_number", none))) = true
  fd_is_rule : FuncData
  F_is_rule : FunD K "is_rule" "is_rule" (defArgs s_is_rule) (defBody s_is_rule) (defScope s_is_rule) [] [] (He.fAd K ("is_rule", none)) fd_is_rule
  b_is_rule : Binds K fd_is_rule ["rule"] []
  k_is_rule : PySem.W.keepIn K (.ref (He.fAd K ("is_rule", none))) = true
  fd_block_of : FuncData
  F_block_of : FunD K "block_of" "block_of" (defArgs s_block_of) (defBody s_block_of) (defScope s_block_of) [] [] (He.fAd K ("block_of", none)) fd_block_of
  b_block_of : Binds K fd_block_of ["place"] []
  k_block_of : PySem.W.keepIn K (.ref (He.fAd K ("block_of", none))) = true
  fd_Far___init__ : FuncData
  F_Far___init__ : FunD K "__init__" "Far.__init__" (defArgs s_Far___init__) (defBody s_Far___init__) (defScope s_Far___init__) [] [] (He.fAd K ("Far", some "__init__")) fd_Far___init__
  b_Far___init__ : Binds K fd_Far___init__ ["self"] []
  k_Far___init__ : PySem.W.keepIn K (.ref (He.fAd K ("Far", some "__init__"))) = true
  fd_Far_bring : FuncData
  F_Far_bring : FunD K "bring" "Far.bring" (defArgs s_Far_bring) (defBody s_Far_bring) (defScope s_Far_bring) [] [] (He.fAd K ("Far", some "bring")) fd_Far_bring
  b_Far_bring : Binds K fd_Far_bring ["self", "block"] []
  k_Far_bring : PySem.W.keepIn K (.ref (He.fAd K ("Far", some "bring"))) = true
  fd_Far_home : FuncData
  F_Far_home : FunD K "home" "Far.home" (defArgs s_Far_home) (defBody s_Far_home) (defScope s_Far_home) [] [] (He.fAd K ("Far", some "home")) fd_Far_home
  b_Far_home : Binds K fd_Far_home ["self", "block", "numbers"] []
  k_Far_home : PySem.W.keepIn K (.ref (He.fAd K ("Far", some "home"))) = true
  fd_Far_change : FuncData
  F_Far_change : FunD K "change" "Far.change" (defArgs s_Far_change) (defBody s_Far_change) (defScope s_Far_change) [] [] (He.fAd K ("Far", some "change")) fd_Far_change
  b_Far_change : Binds K fd_Far_change ["self", "place", "number"] []
  k_Far_change : PySem.W.keepIn K (.ref (He.fAd K ("Far", some "change"))) = true
  fd_Line___init__ : FuncData
  F_Line___init__ : FunD K "__init__" "Line.__init__" (defArgs s_Line___init__) (defBody s_Line___init__) (defScope s_Line___init__) [] [] (He.fAd K ("Line", some "__init__")) fd_Line___init__
  b_Line___init__ : Binds K fd_Line___init__ ["self", "block", "numbers"] []
  k_Line___init__ : PySem.W.keepIn K (.ref (He.fAd K ("Line", some "__init__"))) = true
  fd_Room___init__ : FuncData
  F_Room___init__ : FunD K "__init__" "Room.__init__" (defArgs s_Room___init__) (defBody s_Room___init__) (defScope s_Room___init__) [] [] (He.fAd K ("Room", some "__init__")) fd_Room___init__
  b_Room___init__ : Binds K fd_Room___init__ ["self", "rule", "behind", "title", "diary"] []
  k_Room___init__ : PySem.W.keepIn K (.ref (He.fAd K ("Room", some "__init__"))) = true
  fd_Room_lines_of : FuncData
  F_Room_lines_of : FunD K "lines_of" "Room.lines_of" (defArgs s_Room_lines_of) (defBody s_Room_lines_of) (defScope s_Room_lines_of) [] [] (He.fAd K ("Room", some "lines_of")) fd_Room_lines_of
  b_Room_lines_of : Binds K fd_Room_lines_of ["self", "block"] []
  k_Room_lines_of : PySem.W.keepIn K (.ref (He.fAd K ("Room", some "lines_of"))) = true
  fd_Room_line_of : FuncData
  F_Room_line_of : FunD K "line_of" "Room.line_of" (defArgs s_Room_line_of) (defBody s_Room_line_of) (defScope s_Room_line_of) [] [] (He.fAd K ("Room", some "line_of")) fd_Room_line_of
  b_Room_line_of : Binds K fd_Room_line_of ["self", "block"] []
  k_Room_line_of : PySem.W.keepIn K (.ref (He.fAd K ("Room", some "line_of"))) = true
  fd_Room_note : FuncData
  F_Room_note : FunD K "note" "Room.note" (defArgs s_Room_note) (defBody s_Room_note) (defScope s_Room_note) [] [] (He.fAd K ("Room", some "note")) fd_Room_note
  b_Room_note : Binds K fd_Room_note ["self", "word", "number"] []
  k_Room_note : PySem.W.keepIn K (.ref (He.fAd K ("Room", some "note"))) = true
  fd_Room_pass_home : FuncData
  F_Room_pass_home : FunD K "pass_home" "Room.pass_home" (defArgs s_Room_pass_home) (defBody s_Room_pass_home) (defScope s_Room_pass_home) [] [] (He.fAd K ("Room", some "pass_home")) fd_Room_pass_home
  b_Room_pass_home : Binds K fd_Room_pass_home ["self", "line"] []
  k_Room_pass_home : PySem.W.keepIn K (.ref (He.fAd K ("Room", some "pass_home"))) = true
  fd_Room_pass_cell : FuncData
  F_Room_pass_cell : FunD K "pass_cell" "Room.pass_cell" (defArgs s_Room_pass_cell) (defBody s_Room_pass_cell) (defScope s_Room_pass_cell) [] [] (He.fAd K ("Room", some "pass_cell")) fd_Room_pass_cell
  b_Room_pass_cell : Binds K fd_Room_pass_cell ["self", "place", "number"] []
  k_Room_pass_cell : PySem.W.keepIn K (.ref (He.fAd K ("Room", some "pass_cell"))) = true
  fd_Room_make_way : FuncData
  F_Room_make_way : FunD K "make_way" "Room.make_way" (defArgs s_Room_make_way) (defBody s_Room_make_way) (defScope s_Room_make_way) [] [] (He.fAd K ("Room", some "make_way")) fd_Room_make_way
  b_Room_make_way : Binds K fd_Room_make_way ["self", "block"] []
  k_Room_make_way : PySem.W.keepIn K (.ref (He.fAd K ("Room", some "make_way"))) = true
  fd_Room_touch : FuncData
  F_Room_touch : FunD K "touch" "Room.touch" (defArgs s_Room_touch) (defBody s_Room_touch) (defScope s_Room_touch) [] [] (He.fAd K ("Room", some "touch")) fd_Room_touch
  b_Room_touch : Binds K fd_Room_touch ["self", "line"] []
  k_Room_touch : PySem.W.keepIn K (.ref (He.fAd K ("Room", some "touch"))) = true
  fd_Room_reach : FuncData
  F_Room_reach : FunD K "reach" "Room.reach" (defArgs s_Room_reach) (defBody s_Room_reach) (defScope s_Room_reach) [] [] (He.fAd K ("Room", some "reach")) fd_Room_reach
  b_Room_reach : Binds K fd_Room_reach ["self", "block"] []
  k_Room_reach : PySem.W.keepIn K (.ref (He.fAd K ("Room", some "reach"))) = true
  fd_Room_bring : FuncData
  F_Room_bring : FunD K "bring" "Room.bring" (defArgs s_Room_bring) (defBody s_Room_bring) (defScope s_Room_bring) [] [] (He.fAd K ("Room", some "bring")) fd_Room_bring
  b_Room_bring : Binds K fd_Room_bring ["self", "block"] []
  k_Room_bring : PySem.W.keepIn K (.ref (He.fAd K ("Room", some "bring"))) = true
  fd_Room_look : FuncData
  F_Room_look : FunD K "look" "Room.look" (defArgs s_Room_look) (defBody s_Room_look) (defScope s_Room_look) [] [] (He.fAd K ("Room", some "look")) fd_Room_look
  b_Room_look : Binds K fd_Room_look ["self", "place"] []
  k_Room_look : PySem.W.keepIn K (.ref (He.fAd K ("Room", some "look"))) = true
  fd_Room_change : FuncData
  F_Room_change : FunD K "change" "Room.change" (defArgs s_Room_change) (defBody s_Room_change) (defScope s_Room_change) [] [] (He.fAd K ("Room", some "change")) fd_Room_change
  b_Room_change : Binds K fd_Room_change ["self", "place", "number"] []
  k_Room_change : PySem.W.keepIn K (.ref (He.fAd K ("Room", some "change"))) = true
  fd_Room_home : FuncData
  F_Room_home : FunD K "home" "Room.home" (defArgs s_Room_home) (defBody s_Room_home) (defScope s_Room_home) [] [] (He.fAd K ("Room", some "home")) fd_Room_home
  b_Room_home : Binds K fd_Room_home ["self", "block", "numbers"] []
  k_Room_home : PySem.W.keepIn K (.ref (He.fAd K ("Room", some "home"))) = true
  fd_Room_holds : FuncData
  F_Room_holds : FunD K "holds" "Room.holds" (defArgs s_Room_holds) (defBody s_Room_holds) (defScope s_Room_holds) [] [] (He.fAd K ("Room", some "holds")) fd_Room_holds
  b_Room_holds : Binds K fd_Room_holds ["self"] []
  k_Room_holds : PySem.W.keepIn K (.ref (He.fAd K ("Room", some "holds"))) = true
  fd_sent : FuncData
  F_sent : FunD K "sent" "sent" (defArgs s_sent) (defBody s_sent) (defScope s_sent) [] [] (He.fAd K ("sent", none)) fd_sent
  b_sent : Binds K fd_sent ["rule", "asks"] []
  k_sent : PySem.W.keepIn K (.ref (He.fAd K ("sent", none))) = true
  fd_is_ask : FuncData
  F_is_ask : FunD K "is_ask" "is_ask" (defArgs s_is_ask) (defBody s_is_ask) (defScope s_is_ask) [] [] (He.fAd K ("is_ask", none)) fd_is_ask
  b_is_ask : Binds K fd_is_ask ["ask"] []
  k_is_ask : PySem.W.keepIn K (.ref (He.fAd K ("is_ask", none))) = true
  fd_passed : FuncData
  F_passed : FunD K "passed" "passed" (defArgs s_passed) (defBody s_passed) (defScope s_passed) [] [] (He.fAd K ("passed", none)) fd_passed
  b_passed : Binds K fd_passed ["rule", "asks"] []
  k_passed : PySem.W.keepIn K (.ref (He.fAd K ("passed", none))) = true
  fd__law_taken : FuncData
  F__law_taken : FunD K "_law_taken" "_law_taken" (defArgs s__law_taken) (defBody s__law_taken) (defScope s__law_taken) [] [] (He.fAd K ("_law_taken", none)) fd__law_taken
  b__law_taken : Binds K fd__law_taken ["_law_row", "_law_many"] []
  k__law_taken : PySem.W.keepIn K (.ref (He.fAd K ("_law_taken", none))) = true
  fd__law_alike : FuncData
  F__law_alike : FunD K "_law_alike" "_law_alike" (defArgs s__law_alike) (defBody s__law_alike) (defScope s__law_alike) [] [] (He.fAd K ("_law_alike", none)) fd__law_alike
  b__law_alike : Binds K fd__law_alike ["_law_found", "_law_due_here"] []
  k__law_alike : PySem.W.keepIn K (.ref (He.fAd K ("_law_alike", none))) = true
  fd__law_word : FuncData
  F__law_word : FunD K "_law_word" "_law_word" (defArgs s__law_word) (defBody s__law_word) (defScope s__law_word) [] [] (He.fAd K ("_law_word", none)) fd__law_word
  b__law_word : Binds K fd__law_word ["_law_work"] []
  k__law_word : PySem.W.keepIn K (.ref (He.fAd K ("_law_word", none))) = true
  fd__law_rule : FuncData
  F__law_rule : FunD K "_law_rule" "_law_rule" (defArgs s__law_rule) (defBody s__law_rule) (defScope s__law_rule) [] [] (He.fAd K ("_law_rule", none)) fd__law_rule
  b__law_rule : Binds K fd__law_rule ["_law_row"] []
  k__law_rule : PySem.W.keepIn K (.ref (He.fAd K ("_law_rule", none))) = true
  fd__law_place : FuncData
  F__law_place : FunD K "_law_place" "_law_place" (defArgs s__law_place) (defBody s__law_place) (defScope s__law_place) [] [] (He.fAd K ("_law_place", none)) fd__law_place
  b__law_place : Binds K fd__law_place ["_law_row", "_law_most"] []
  k__law_place : PySem.W.keepIn K (.ref (He.fAd K ("_law_place", none))) = true
  fd__law_hall : FuncData
  F__law_hall : FunD K "_law_hall" "_law_hall" (defArgs s__law_hall) (defBody s__law_hall) (defScope s__law_hall) [] [] (He.fAd K ("_law_hall", none)) fd__law_hall
  b__law_hall : Binds K fd__law_hall ["_law_rules", "_law_hands"] []
  k__law_hall : PySem.W.keepIn K (.ref (He.fAd K ("_law_hall", none))) = true
  fd__law_spot : FuncData
  F__law_spot : FunD K "_law_spot" "_law_spot" (defArgs s__law_spot) (defBody s__law_spot) (defScope s__law_spot) [] [] (He.fAd K ("_law_spot", none)) fd__law_spot
  b__law_spot : Binds K fd__law_spot ["_law_h", "_law_key", "_law_block"] []
  k__law_spot : PySem.W.keepIn K (.ref (He.fAd K ("_law_spot", none))) = true
  fd__law_behind : FuncData
  F__law_behind : FunD K "_law_behind" "_law_behind" (defArgs s__law_behind) (defBody s__law_behind) (defScope s__law_behind) [] [] (He.fAd K ("_law_behind", none)) fd__law_behind
  b__law_behind : Binds K fd__law_behind ["_law_h", "_law_key"] []
  k__law_behind : PySem.W.keepIn K (.ref (He.fAd K ("_law_behind", none))) = true
  fd__law_home : FuncData
  F__law_home : FunD K "_law_home" "_law_home" (defArgs s__law_home) (defBody s__law_home) (defScope s__law_home) [] [] (He.fAd K ("_law_home", none)) fd__law_home
  b__law_home : Binds K fd__law_home ["_law_h", "_law_key", "_law_line"] []
  k__law_home : PySem.W.keepIn K (.ref (He.fAd K ("_law_home", none))) = true
  fd__law_comes : FuncData
  F__law_comes : FunD K "_law_comes" "_law_comes" (defArgs s__law_comes) (defBody s__law_comes) (defScope s__law_comes) [] [] (He.fAd K ("_law_comes", none)) fd__law_comes
  b__law_comes : Binds K fd__law_comes ["_law_h", "_law_key", "_law_block", "_law_numbers"] []
  k__law_comes : PySem.W.keepIn K (.ref (He.fAd K ("_law_comes", none))) = true
  fd__law_way : FuncData
  F__law_way : FunD K "_law_way" "_law_way" (defArgs s__law_way) (defBody s__law_way) (defScope s__law_way) [] [] (He.fAd K ("_law_way", none)) fd__law_way
  b__law_way : Binds K fd__law_way ["_law_h", "_law_key", "_law_lines"] []
  k__law_way : PySem.W.keepIn K (.ref (He.fAd K ("_law_way", none))) = true
  fd__law_reached : FuncData
  F__law_reached : FunD K "_law_reached" "_law_reached" (defArgs s__law_reached) (defBody s__law_reached) (defScope s__law_reached) [] [] (He.fAd K ("_law_reached", none)) fd__law_reached
  b__law_reached : Binds K fd__law_reached ["_law_h", "_law_key", "_law_block"] []
  k__law_reached : PySem.W.keepIn K (.ref (He.fAd K ("_law_reached", none))) = true
  fd__law_cell : FuncData
  F__law_cell : FunD K "_law_cell" "_law_cell" (defArgs s__law_cell) (defBody s__law_cell) (defScope s__law_cell) [] [] (He.fAd K ("_law_cell", none)) fd__law_cell
  b__law_cell : Binds K fd__law_cell ["_law_h", "_law_key", "_law_place_here", "_law_number"] []
  k__law_cell : PySem.W.keepIn K (.ref (He.fAd K ("_law_cell", none))) = true
  fd__law_due : FuncData
  F__law_due : FunD K "_law_due" "_law_due" (defArgs s__law_due) (defBody s__law_due) (defScope s__law_due) [] [] (He.fAd K ("_law_due", none)) fd__law_due
  b__law_due : Binds K fd__law_due ["_law_rule_here", "_law_asks"] []
  k__law_due : PySem.W.keepIn K (.ref (He.fAd K ("_law_due", none))) = true
  fd_law : FuncData
  F_law : FunD K "law" "law" (defArgs s_law) (defBody s_law) (defScope s_law) [] [] (He.fAd K ("law", none)) fd_law
  b_law : Binds K fd_law ["_law_script"] []
  k_law : PySem.W.keepIn K (.ref (He.fAd K ("law", none))) = true
-- WwDa
theorem size1 {n : Nat} (h : n ≤ 1000000) : n < sizeLine := Nat.lt_of_le_of_lt h (by decide)
theorem tYes_go {σ : L2.St} {H : Hp} {Q : Bool → Hp → Prop} (h : Q true H) : tYes σ H Q := h
/-! ### data by cells -/
mutual
inductive DpL (L : List Cell) : V → PyData → Prop
  | non : DpL L .non .none
  | bl (b : Bool) : DpL L (.bl b) (.bool b)
  | int (i : Int) : DpL L (.int i) (.int i)
  | str (x : Str) : DpL L (.str x) (.str x)
  | lst {a : Addr} {xs : List V} {ds : List PyData} : (a, HO.lst xs) ∈ L → DpsL L xs ds → DpL L (.ref a) (.list ds)
  | tup {a : Addr} {xs : List V} {ds : List PyData} : (a, HO.tup xs) ∈ L → DpsL L xs ds → DpL L (.ref a) (.tuple ds)
inductive DpsL (L : List Cell) : List V → List PyData → Prop
  | nil : DpsL L [] []
  | cons {v : V} {vs : List V} {d : PyData} {ds : List PyData} : DpL L v d → DpsL L vs ds → DpsL L (v :: vs) (d :: ds)
end
mutual
theorem DpL.mono {L L' : List Cell} (hs : ∀ c ∈ L, c ∈ L') : ∀ {v : V} {d : PyData}, DpL L v d → DpL L' v d
  | _, _, .non => .non
  | _, _, .bl b => .bl b
  | _, _, .int i => .int i
  | _, _, .str x => .str x
  | _, _, .lst h r => .lst (hs _ h) (DpsL.mono hs r)
  | _, _, .tup h r => .tup (hs _ h) (DpsL.mono hs r)
theorem DpsL.mono {L L' : List Cell} (hs : ∀ c ∈ L, c ∈ L') : ∀ {vs : List V} {ds : List PyData}, DpsL L vs ds → DpsL L' vs ds
  | _, _, .nil => .nil
  | _, _, .cons h r => .cons (DpL.mono hs h) (DpsL.mono hs r)
end
mutual
theorem DpL.dp {K : PySem.W.Frag} {H : Hp} {L : List Cell} (O : ∀ c ∈ L, H c.1 = some c.2) : ∀ {v : V} {d : PyData}, DpL L v d → Dp K H v d
  | _, _, .non => .non
  | _, _, .bl b => .bl b
  | _, _, .int i => .int i
  | _, _, .str x => .str x
  | _, _, .lst h r => .lst (SqL.of (O _ h)) (DpsL.dps O r)
  | _, _, .tup h r => .tup (SqT.of (O _ h)) (DpsL.dps O r)
theorem DpsL.dps {K : PySem.W.Frag} {H : Hp} {L : List Cell} (O : ∀ c ∈ L, H c.1 = some c.2) : ∀ {vs : List V} {ds : List PyData}, DpsL L vs ds → DpAll K H vs ds
  | _, _, .nil => .nil
  | _, _, .cons h r => .cons (DpL.dp O h) (DpsL.dps O r)
end
theorem DpsL.app {L : List Cell} : ∀ {vs ws : List V} {ds es : List PyData}, DpsL L vs ds → DpsL L ws es → DpsL L (vs ++ ws) (ds ++ es)
  | _, _, _, _, .nil, k => k
  | _, _, _, _, .cons h r, k => .cons h (DpsL.app r k)
theorem DpsL.ints {L : List Cell} : ∀ ns : List Int, DpsL L (ns.map V.int) (ns.map PyData.int)
  | [] => .nil
  | n :: ns => .cons (.int n) (DpsL.ints ns)
theorem DpsL.len {L : List Cell} : ∀ {vs : List V} {ds : List PyData}, DpsL L vs ds → vs.length = ds.length
  | _, _, .nil => rfl
  | _, _, .cons _ r => congrArg (· + 1) r.len
theorem DpsL.get {L : List Cell} : ∀ {vs : List V} {ds : List PyData} {i : Nat} {v : V}, DpsL L vs ds → vs[i]? = some v → ∃ d, ds[i]? = some d ∧ DpL L v d
  | _, _, i, v, .nil, e => by simp at e
  | _, _, 0, v, .cons h _, e => by
    simp at e
    subst e
    exact ⟨_, rfl, h⟩
  | _, _, i + 1, v, .cons _ r, e => by
    obtain ⟨d, h1, h2⟩ := DpsL.get (i := i) (v := v) r (by simpa using e)
    exact ⟨d, by simpa using h1, h2⟩
theorem DpsL.get' {L : List Cell} : ∀ {vs : List V} {ds : List PyData} {i : Nat} {d : PyData}, DpsL L vs ds → ds[i]? = some d → ∃ v, vs[i]? = some v ∧ DpL L v d
  | _, _, i, v, .nil, e => by simp at e
  | _, _, 0, v, .cons h _, e => by
    simp at e
    subst e
    exact ⟨_, rfl, h⟩
  | _, _, i + 1, v, .cons _ r, e => by
    obtain ⟨d, h1, h2⟩ := DpsL.get' (i := i) (d := v) r (by simpa using e)
    exact ⟨d, by simpa using h1, h2⟩

theorem noPart {σ : L2.St} {H : Hp} {Q : Option Int → Hp → Prop} (h : Q none H) : tNoPart σ H Q := h
theorem take_snoc {α : Type} {xs : List α} {i : Nat} {x : α} (h : xs[i]? = some x) : xs.take (i + 1) = xs.take i ++ [x] := by
  rw [List.take_succ, h]
  rfl
theorem DpL.lstI {N : List Cell} {v : V} {ds : List PyData} (h : DpL N v (.list ds)) : ∃ p vs, v = .ref p ∧ (p, HO.lst vs) ∈ N ∧ DpsL N vs ds := by
  cases h with
  | lst h r => exact ⟨_, _, rfl, h, r⟩
theorem DpL.tupI {N : List Cell} {v : V} {ds : List PyData} (h : DpL N v (.tuple ds)) : ∃ p vs, v = .ref p ∧ (p, HO.tup vs) ∈ N ∧ DpsL N vs ds := by
  cases h with
  | tup h r => exact ⟨_, _, rfl, h, r⟩
theorem DpsL.intsI {N : List Cell} : ∀ {ns : List Int} {vs : List V}, DpsL N vs (ns.map PyData.int) → vs = ns.map V.int
  | [], _, .nil => rfl
  | n :: ns, _, .cons h r => by
    cases h with
    | int => rw [DpsL.intsI r]; rfl
theorem not_eqv_nil : (!PyData.eqv (.list []) (.list [])) = false := by decide +kernel
theorem eqv_self (d : PyData) (h : SeqAt.shaped d = true) : (!PyData.eqv d d) = false := by rw [SeqAt.eqv_refl d (SeqAt.canLay_of_shaped h)]; rfl
theorem dpInts {K : PySem.W.Frag} {H : Hp} (ns : List Int) : DpAll K H (ns.map V.int) (ns.map PyData.int) := (DpsL.ints (L := []) ns).dps fun c hc => absurd hc List.not_mem_nil
theorem shaped_of {d : PyData} (h1 : d.canLay0 = true) (h2 : d.depth ≤ 64) : SeqAt.shaped d = true := by
  unfold SeqAt.shaped
  rw [h1, decide_eq_true h2]
  rfl
theorem layAll {α : Type} {f : α → PyData} {k : Nat} : ∀ {xs : List α}, (∀ a ∈ xs, (f a).canLay0 = true ∧ (f a).depth ≤ k) → PyData.canLayAll0 (xs.map f) = true ∧ PyData.depthAll (xs.map f) ≤ k
  | [], _ => ⟨rfl, Nat.zero_le _⟩
  | a :: xs, h => by
    obtain ⟨a1, a2⟩ := h a List.mem_cons_self
    obtain ⟨b1, b2⟩ := layAll (xs := xs) fun b hb => h b (List.mem_cons_of_mem _ hb)
    refine ⟨?_, ?_⟩
    · show (PyData.canLay0 (f a) && PyData.canLayAll0 (xs.map f)) = true
      rw [a1, b1]
      rfl
    · show max (PyData.depth (f a)) (PyData.depthAll (xs.map f)) ≤ k
      omega
theorem layL {α : Type} {f : α → PyData} {k : Nat} {xs : List α} (h : ∀ a ∈ xs, (f a).canLay0 = true ∧ (f a).depth ≤ k) : (PyData.list (xs.map f)).canLay0 = true ∧ (PyData.list (xs.map f)).depth ≤ k + 1 := by
  obtain ⟨h1, h2⟩ := layAll h
  refine ⟨h1, ?_⟩
  show PyData.depthAll (xs.map f) + 1 ≤ k + 1
  omega
theorem layT {α : Type} {f : α → PyData} {k : Nat} {xs : List α} (h : ∀ a ∈ xs, (f a).canLay0 = true ∧ (f a).depth ≤ k) : (PyData.tuple (xs.map f)).canLay0 = true ∧ (PyData.tuple (xs.map f)).depth ≤ k + 1 := by
  obtain ⟨h1, h2⟩ := layAll h
  refine ⟨h1, ?_⟩
  show PyData.depthAll (xs.map f) + 1 ≤ k + 1
  omega
theorem layI (i : Int) : (PyData.int i).canLay0 = true ∧ (PyData.int i).depth ≤ 0 := ⟨rfl, Nat.le_refl _⟩
theorem layIs (ns : List Int) : (PyData.list (ns.map .int)).canLay0 = true ∧ (PyData.list (ns.map .int)).depth ≤ 1 := layL fun i _ => layI i
/-- tuples, by their addresses -/
def TA (R : List Cell) : List Addr → List (List V) → Prop
  | [], [] => True
  | a :: as, u :: us => (a, HO.tup u) ∈ R ∧ TA R as us
  | _, _ => False
theorem TA.len {R : List Cell} : ∀ {as : List Addr} {us : List (List V)}, TA R as us → as.length = us.length
  | [], [], _ => rfl
  | [], _ :: _, h => h.elim
  | _ :: _, [], h => h.elim
  | _ :: _, _ :: _, h => congrArg (· + 1) (TA.len h.2)
theorem TA.get {R : List Cell} : ∀ {as : List Addr} {us : List (List V)} {i : Nat} {a : Addr}, TA R as us → as[i]? = some a → ∃ u, us[i]? = some u ∧ (a, HO.tup u) ∈ R
  | [], _, i, a, _, e => by simp at e
  | _ :: _, [], _, _, h, _ => h.elim
  | b :: as, u :: us, 0, a, h, e => by
    simp at e
    subst e
    exact ⟨u, rfl, h.1⟩
  | b :: as, u :: us, i + 1, a, h, e => by
    obtain ⟨v, h1, h2⟩ := TA.get (i := i) (a := a) h.2 (by simpa using e)
    exact ⟨v, by simpa using h1, h2⟩
theorem TA.mono {R R' : List Cell} (hs : ∀ c ∈ R, c ∈ R') : ∀ {as : List Addr} {us : List (List V)}, TA R as us → TA R' as us
  | [], [], _ => trivial
  | [], _ :: _, h => h.elim
  | _ :: _, [], h => h.elim
  | _ :: _, _ :: _, h => ⟨hs _ h.1, TA.mono hs h.2⟩
theorem TA.app {R : List Cell} : ∀ {as bs : List Addr} {us vs : List (List V)}, TA R as us → TA R bs vs → TA R (as ++ bs) (us ++ vs)
  | [], _, [], _, _, k => k
  | [], _, _ :: _, _, h, _ => h.elim
  | _ :: _, _, [], _, h, _ => h.elim
  | _ :: _, _, _ :: _, _, h, k => ⟨h.1, TA.app h.2 k⟩
theorem pick3 {v : Int} {a b c : V} (h0 : 0 ≤ v) (h3 : v < 3) : ∃ y, atI [a, b, c] v = some y ∧ (y = a ∨ y = b ∨ y = c) := by
  have : v = 0 ∨ v = 1 ∨ v = 2 := by omega
  rcases this with e | e | e <;> subst e
  · exact ⟨a, rfl, .inl rfl⟩
  · exact ⟨b, rfl, .inr (.inl rfl)⟩
  · exact ⟨c, rfl, .inr (.inr rfl)⟩
theorem pick2 {v : Int} {a b : V} (h0 : 0 ≤ v) (h3 : v < 2) : ∃ y, atI [a, b] v = some y ∧ (y = a ∨ y = b) := by
  have : v = 0 ∨ v = 1 := by omega
  rcases this with e | e <;> subst e
  · exact ⟨a, rfl, .inl rfl⟩
  · exact ⟨b, rfl, .inr rfl⟩
theorem pick4 {v : Int} {a b c d : V} (h0 : 0 ≤ v) (h3 : v < 4) : ∃ y, atI [a, b, c, d] v = some y ∧ (y = a ∨ y = b ∨ y = c ∨ y = d) := by
  have : v = 0 ∨ v = 1 ∨ v = 2 ∨ v = 3 := by omega
  rcases this with e | e | e | e <;> subst e
  · exact ⟨a, rfl, .inl rfl⟩
  · exact ⟨b, rfl, .inr (.inl rfl)⟩
  · exact ⟨c, rfl, .inr (.inr (.inl rfl))⟩
  · exact ⟨d, rfl, .inr (.inr (.inr rfl))⟩
theorem ixN_nat {n k : Nat} (h : k < n) : ixN n (k : Int) = some k := by
  unfold ixN
  rw [if_pos (by omega), if_pos (by omega), Int.toNat_natCast]
theorem seqIx {n k : Nat} (h : k < n) : seqIndex? (k : Int) n = some k := (ixN_seq (ixN_nat h)).1
theorem seqIxN {n k : Nat} (h : k < n) : seqIndex? (k : Int) n = some k := seqIx h
/-! ### list.count of truth values -/
def eqBl (k : Bool) (v : Value) : Bool := match v with
  | .bool n => n == k
  | _ => false
inductive BlAre : List Value → List Bool → Prop
  | nil : BlAre [] []
  | cons {us : List Value} {ns : List Bool} (x : Bool) : BlAre us ns → BlAre (.bool x :: us) (x :: ns)
theorem blAre_of : ∀ {ns : List Bool} {us : List Value}, Vals (ns.map V.bl) us → BlAre us ns
  | [], _, .nil => .nil
  | n :: ns, _, .cons r h => by
    cases r
    exact .cons n (blAre_of h)
theorem eqBl_at {A : Around} {s : Shared} {k : Bool} : ∀ {us : List Value} {ns : List Bool}, BlAre us ns → ∀ y ∈ us, SeqAt.EqAt A s y (.bool k) (eqBl k y)
  | _, _, .nil => fun y hy => by cases hy
  | _, _, .cons n h => fun y hy => by
    rcases List.mem_cons.mp hy with e | e
    · rw [e]
      exact SeqAt.EqAt.bool_bool n k
    · exact eqBl_at h y e
theorem eqBl_count {k : Bool} : ∀ {us : List Value} {ns : List Bool}, BlAre us ns → us.countP (eqBl k) = ns.countP (· == k)
  | _, _, .nil => rfl
  | _, _, .cons n h => by
    have ih := eqBl_count (k := k) h
    rw [List.countP_cons, List.countP_cons, ih] <;> rfl
def rCntB (K : PySem.W.Frag) : V → List V → Hp → VK → Prop := fun x xs H Q => ∃ (p : Addr) (ns : List Bool) (k : Bool), x = .ref p ∧ xs = [.bl k] ∧ SqL K H p (ns.map V.bl) ∧ Q (.int (ns.countP (· == k) : Nat)) H
theorem mt_lcountB {X : Cx} : MtR X "list.count" (rCntB X.K) := by
  intro pins s σ H x xs v us Q I rx rxs h
  obtain ⟨p, ns, k, rfl, rfl, hs, q⟩ := h
  cases rx
  obtain ⟨u, rfl, ru⟩ := rxs.one
  cases ru
  obtain ⟨its, rv, ⟨⟨cls, dd, data, sl⟩, n, ho, hc, hdn, hd⟩, hlen⟩ := I.list hs
  simp only at hc hd
  subst hc hd
  have hi := blAre_of rv
  refine call_meets PySem.F.slot_list_count ⟨_, ho, rfl⟩ PySem.F.entry_list_count (PySem.F.args_list_count_2 _ _) (SeqAt.list_countAt p its.toArray n dd sl (.bool k) (eqBl k)) ⟨ho, fun y hy => eqBl_at hi y (by simpa using hy), ?_⟩
  have ec : its.toArray.toList.countP (eqBl k) = ns.countP (· == k) := eqBl_count hi
  refine ⟨.int (ns.countP (· == k) : Nat), H, I.tok _, ⟨s.toks, ?_⟩, q⟩
  show Value.int ((its.toArray.toList.countP (eqBl k) : Nat) : Int) s.toks = _
  rw [ec]
/-! ### len(set(..)) of a list of ints -/
theorem dedup_nodup (val : Nat → Int) : ∀ i, (PyProof.Rows.firstMet val i).Nodup
  | 0 => by
    rw [PyProof.Rows.firstMet_zero]
    exact List.nodup_nil
  | i + 1 => by
    have ih := dedup_nodup val i
    rw [PyProof.Rows.firstMet_succ]
    unfold PyProof.Rows.step_dedup
    split
    · exact ih
    · rename_i h
      refine List.nodup_append.mpr ⟨ih, List.nodup_cons.mpr ⟨(fun q => by cases q), List.nodup_nil⟩, fun a ha b hb e => h ?_⟩
      rw [List.mem_singleton.mp hb] at e
      subst e
      exact List.any_eq_true.mpr ⟨_, ha, beq_self_eq_true _⟩
theorem range_getD (ns : List Int) : (List.range ns.length).map (fun i => ns.getD i 0) = ns := by
  refine List.ext_getElem? fun i => ?_
  rw [List.getElem?_map]
  by_cases h : i < ns.length
  · rw [List.getElem?_range h, List.getElem?_eq_getElem h]
    show some (ns.getD i 0) = _
    rw [List.getD_eq_getElem?_getD, List.getElem?_eq_getElem h]
    rfl
  · rw [List.getElem?_eq_none (by rw [List.length_range]; omega), List.getElem?_eq_none (by omega)]
    rfl
theorem dedup_mem (ns : List Int) (k : Int) : k ∈ PyProof.Rows.firstMet (fun i => ns.getD i 0) ns.length ↔ k ∈ ns := by
  have h := PyProof.Rows.firstMet_any (fun i => ns.getD i 0) ns.length k
  rw [range_getD] at h
  constructor
  · intro q
    have : (PyProof.Rows.firstMet (fun i => ns.getD i 0) ns.length).any (· == k) = true := List.any_eq_true.mpr ⟨k, q, beq_self_eq_true _⟩
    rw [h] at this
    obtain ⟨x, hx, e⟩ := List.any_eq_true.mp this
    rw [← eq_of_beq e]
    exact hx
  · intro q
    have : ns.any (· == k) = true := List.any_eq_true.mpr ⟨k, q, beq_self_eq_true _⟩
    rw [← h] at this
    obtain ⟨x, hx, e⟩ := List.any_eq_true.mp this
    rw [← eq_of_beq e]
    exact hx
def tLenSet (K : PySem.W.Frag) (ta : TE) : TE := fun σ H Q => ta σ H fun x H1 => ∃ (l : Addr) (ns : List Int), x = .ref l ∧ SqL K H1 l (ns.map V.int) ∧ ns.length ≤ 4000 ∧ ∀ us : List Int, us.Nodup → (∀ k, k ∈ us ↔ k ∈ ns) → Q (.int (us.length : Nat)) H1
theorem pe_lenSet {X : Cx} {a : Expr} {ta : TE} {p p2 q pos : Pos} (hg : Gl X "len") (hm : X.mg "len" = none) (hg2 : Gl X "set") (hm2 : X.mg "set" = none) (ha : PE X a ta) (hc : X.calm = true := by rfl)
    (na : starEach [a] X.env = (false, eval a X.env) :: starEach [] X.env := by rfl) : PE X (.Call (.Name "len" p) [.Call (.Name "set" p2) [a] [] q] [] pos) (tLenSet X.K ta) := by
  refine ⟨fun pins s σ H Q I h => ?_⟩
  refine Call_ (ld_blt I hg hm boot_len ?_)
  refine PyProof.Rows.callWith_builtin1 (PyProof.Rows.args_cons ?_ rfl) rfl rfl
  refine Call_ (ld_blt I hg2 hm2 boot_set ?_)
  refine PyProof.Rows.callWith_type1 (PyProof.Rows.args_cons (thn (ha.run pins s σ H _ I h) fun v s1 ⟨x, H1, I1, r1, q1⟩ => PyProof.Rows.args_nil ?_) na) na rfl
  obtain ⟨l, ns, rfl, hq, hl, q1⟩ := q1
  cases r1
  obtain ⟨its, r, pl, hz⟩ := I1.list hq
  have hlen : its.toArray.size = ns.length := by rw [List.size_toArray, ← r.length, List.length_map]
  refine call_set_list (I1.ok.hd hc) pl.isList (by simpa using RZ.intsAre_vals r) (by rw [hlen]; unfold scanBound; omega) fun h' tk hS hk => ?_
  refine PyProof.Rows.args_nil ?_
  rw [hlen] at hS
  have hle := PyProof.Rows.firstMet_length_le (fun i => ns.getD i 0) ns.length
  obtain ⟨o, es, ep, t, ho, hex, hd, _, _, _, hf, hn⟩ := hS
  have I2 : Inv X pins σ H1 { s1 with heap := h', toks := tk } := I1.kept fun b o e => hk b o (Heap.lt_size e) e
  exact call_len_set ho hex hd hf (by rw [hn] <;> omega) ⟨.int (PyProof.Rows.firstMet (fun i => ns.getD i 0) ns.length).length, H1, I2.tok _, ⟨_, by rw [hn]⟩, q1 _ (dedup_nodup _ _) (dedup_mem ns)⟩
abbrev rIsNo : R2 := fun x y H Q => y = .non ∧ Q (.bl (decide (x = .non))) H
/-! ### blocks, their depths -/

def blV (bs : List Nat) : List V := bs.map fun b => V.int (b : Nat)
theorem blV_len (bs : List Nat) : (blV bs).length = bs.length := List.length_map _
theorem blV_flat (bs : List Nat) : (blV bs).all flatV = true := List.all_eq_true.mpr fun x hx => by
  obtain ⟨b, _, rfl⟩ := List.mem_map.mp hx
  rfl
theorem eqV_int (a b : Int) : eqV (.int a) (.int b) = (a == b) := rfl
theorem inV_bl (b : Nat) (bs : List Nat) : inV (.int (b : Nat)) (blV bs) = decide (b ∈ bs) := by
  unfold inV
  by_cases h : b ∈ bs
  · rw [decide_eq_true h]
    exact List.any_eq_true.mpr ⟨.int (b : Nat), List.mem_map.mpr ⟨b, h, rfl⟩, beq_self_eq_true (b : Int)⟩
  · rw [decide_eq_false h]
    refine Bool.eq_false_iff.mpr fun q => h ?_
    obtain ⟨x, hx, e⟩ := List.any_eq_true.mp q
    obtain ⟨c, hc, rfl⟩ := List.mem_map.mp hx
    have e : ((c : Nat) : Int) = ((b : Nat) : Int) := eq_of_beq e
    rw [← Int.ofNat.inj e]
    exact hc
theorem inV_is (b : Int) (bs : List Int) : inV (.int b) (bs.map V.int) = decide (b ∈ bs) := by
  unfold inV
  by_cases h : b ∈ bs
  · rw [decide_eq_true h]
    exact List.any_eq_true.mpr ⟨.int b, List.mem_map.mpr ⟨b, h, rfl⟩, beq_self_eq_true b⟩
  · rw [decide_eq_false h]
    refine Bool.eq_false_iff.mpr fun q => h ?_
    obtain ⟨x, hx, e⟩ := List.any_eq_true.mp q
    obtain ⟨c, hc, rfl⟩ := List.mem_map.mp hx
    have e : (c == b) = true := e
    rw [← eq_of_beq e]
    exact hc
theorem isV_flat (bs : List Int) : (bs.map V.int).all flatV = true := List.all_eq_true.mpr fun x hx => by
  obtain ⟨b, _, rfl⟩ := List.mem_map.mp hx
  rfl
def intsOf (bs : List Nat) : List Int := bs.map fun b => ((b : Nat) : Int)
theorem blV_is (bs : List Nat) : blV bs = (intsOf bs).map V.int := by
  unfold blV intsOf
  rw [List.map_map]
  rfl
theorem sh0 : SeqAt.shaped (.list []) = true := PySem.W.shaped_ints []
theorem cutTake {xs : List V} {k : Nat} (h : k ≤ xs.length) : cutV xs none (some (k : Int)) = xs.take k := by
  unfold cutV
  rw [HT.sIx_none, HT.sIx_nat, Nat.min_eq_left h, List.drop_zero, Nat.sub_zero]
theorem cutDrop {xs : List V} {k : Nat} (h : k ≤ xs.length) : cutV xs (some (k : Int)) none = xs.drop k := by
  unfold cutV
  rw [HT.sIx_none, HT.sIx_nat, Nat.min_eq_left h]
  exact List.take_of_length_le (by rw [List.length_drop]; omega)
/-- a slice of a list of ints -/
def cutI (ns : List Int) (lo hi : Option Int) : List Int := (ns.drop (HT.sIx ns.length 0 lo)).take (HT.sIx ns.length ns.length hi - HT.sIx ns.length 0 lo)
theorem cutI_eq (ns : List Int) (lo hi : Option Int) : cutV (ns.map V.int) lo hi = (cutI ns lo hi).map V.int := by
  unfold cutV cutI
  rw [List.length_map, List.map_take, List.map_drop]
theorem cutI_len (ns : List Int) (lo hi : Option Int) : (cutI ns lo hi).length ≤ ns.length := by
  unfold cutI
  rw [List.length_take, List.length_drop]
  omega
-- WwT0
/-! ### the law's draws -/
/-- the script, as cells S -/
def Scr (K : PySem.W.Frag) (sc : Addr) (ns : List Int) (S : List Cell) : Prop := ∀ H : Hp, (∀ c ∈ S, H c.1 = some c.2) → SqL K H sc (ns.map V.int)
/-- the row of a law: the script, how many cells were taken, what is mixed -/
def RowC (K : PySem.W.Frag) (rw : Addr) (S : List Cell) (c : Cell) : Prop := ∃ (sc : Addr) (ns : List Int) (i : Nat) (z : Int), Scr K sc ns S ∧ 0 ≤ z ∧ z < 2147483647 ∧ c = (rw, .lst [.ref sc, .int i, .int z])
theorem Own.scr {K : PySem.W.Frag} {H : Hp} {sc : Addr} {ns : List Int} {S R : List Cell} {c : Cell} (h : Scr K sc ns S) (O : Own H (c :: (S ++ R))) : SqL K H sc (ns.map V.int) := h H fun d hd => O.2 d (List.mem_cons_of_mem _ (List.mem_append_left _ hd))
def spTaken (K : PySem.W.Frag) : Sp := fun vs H Q _ => ∃ (rw : Addr) (S : List Cell) (c : Cell) (many : Int) (R : List Cell), vs = [.ref rw, .int many] ∧ RowC K rw S c ∧ 0 < many ∧ Own H (c :: (S ++ R)) ∧
  ∀ (v : Int) (c' : Cell) (H' : Hp), 0 ≤ v → v < many → RowC K rw S c' → Own H' (c' :: (S ++ R)) → Q (.int v) H'
def spIsNum : Sp := fun vs H Q _ => ∃ (x lo hi : Int), vs = [.int x, .int lo, .int hi] ∧ Q (.bl (decide (lo ≤ x ∧ x ≤ hi))) H
section
variable {P : Program} {w : World} {K : PySem.W.Frag} {mg : Str → Option Value} {base : Heap} {n lv : Nat}
theorem okOf {x qual : Str} {params : Arguments} {body : List Stmt} {scope : Scope} {f : Addr} {fd : FuncData} {N ps : List Str} {k : Nat} {sp : Sp} (F : FunD K x qual params body scope [] [] f fd) (S : FnScope N ps scope) (len : ∀ vs H Q E, sp vs H Q E → vs.length = ps.length)
    (hbody : ∀ (cdv : Value) (A : Around) (outer : List Env) (s : Shared) (H : Hp) (vs : List V) (Q : VK) (E : XK), Room k (A.deeper (envOfC qual scope s.heap.objs.size f cdv)) → sp vs H Q E →
      ∃ t, PSs (cxOf CX0 P w K mg base N qual scope f cdv A outer s H E).nox body t ∧ t { nx := fun _ H' => Q .non H', rt := Q } (start N vs) H) : FnOk P w K mg base CX0 (k + 1) f fd ps sp :=
  F.ok S len fun cdv A outer s H vs Q E hr h => by
    obtain ⟨t, h1, h2⟩ := hbody cdv A outer s H vs Q E hr h
    exact ⟨t, h1.nox, h2⟩
theorem okX {x qual : Str} {params : Arguments} {body : List Stmt} {scope : Scope} {f : Addr} {fd : FuncData} {N ps : List Str} {k : Nat} {sp : Sp} (F : FunD K x qual params body scope [] [] f fd) (S : FnScope N ps scope) (len : ∀ vs H Q E, sp vs H Q E → vs.length = ps.length)
    (hb : ∀ (cdv : Value) (A : Around) (outer : List Env) (s : Shared) (H : Hp) (vs : List V) (Q : VK) (E : XK), Room k (A.deeper (envOfC qual scope s.heap.objs.size f cdv)) → sp vs H Q E →
      ∃ t, PSs (cxOf (L2.CX P w) P w K mg base N qual scope f cdv A outer s H E) body t ∧ t { nx := fun _ H' => Q .non H', rt := Q } (start N vs) H) : FnOk P w K mg base (L2.CX P w) (k + 1) f fd ps sp := F.ok S len hb
/-- a def whose code object and table are told -/
theorem okTab {p : He.Defn} {x qual : Str} {params : Arguments} {body : List Stmt} {scope : Scope} {fd : FuncData} {N ps : List Str} {k : Nat} {sp : Sp} (F : FunD K x qual params body scope [] [] (He.fAd K p) fd) (S : FnScope N ps scope) (len : ∀ vs H Q E, sp vs H Q E → vs.length = ps.length)
    (hb : ∀ (A : Around) (outer : List Env) (s : Shared) (H : Hp) (vs : List V) (Q : VK) (E : XK), Room k (A.deeper (envOfC qual scope s.heap.objs.size (He.fAd K p) (.ref (He.codeOf K p)))) → sp vs H Q E →
      ∃ t, PSs (cxOf CX0 P w K mg base N qual scope (He.fAd K p) (.ref (He.codeOf K p)) A outer s H E).nox body t ∧ t { nx := fun _ H' => Q .non H', rt := Q } (start N vs) H) : FnOk P w K mg base CX0 (k + 1) (He.fAd K p) fd ps sp := by
  obtain ⟨oc, od, dV, kV, doc, pm, an, cdv, ct, osl, rfl, lk, hcd, _, _⟩ := F.ex
  obtain ⟨c, rfl⟩ := He.codeIn_ref hcd
  have e := He.codeOf_eq lk rfl
  rw [e] at hb
  refine fn_of lk hcd S len fun A outer s H vs Q E hr hsp => ?_
  obtain ⟨t, h1, h2⟩ := hb A outer s H vs Q E hr hsp
  exact ⟨t, h1.nox, h2⟩
theorem ok_taken (T : Txt K mg) : FnOk P w K mg base CX0 1 (He.fAd K ("_law_taken", none)) T.fd__law_taken ["_law_row", "_law_many"] (spTaken K) := by
  refine okOf T.F__law_taken sc__law_taken (fun vs H Q E h => ?_) (fun cdv A outer s H vs Q E hr h => ?_)
  · obtain ⟨_, _, _, _, _, rfl, _⟩ := h
    rfl
  · obtain ⟨rw, S, c, many, R, rfl, ⟨sc, ns, i, z, hsc, hz0, hz1, rfl⟩, hm, O, k⟩ := h
    refine ⟨_, (pss_cons (ps_asg (pe_op op_add (pe_ix ix_list (pv 0) pe_int (fun _ _ => rfl)) pe_int) (pg_sub (pv 0) pe_int set_list)) (pss_cons (ps_if (pt_cmpR op_gt (pe_ix ix_list (pv 0) pe_int (fun _ _ => rfl)) (pe_callB call_len_seq (by rfl) T.n_len PySem.boot_len (pa_cons (pe_ix ix_list (pv 0) pe_int (fun _ _ => rfl)) pa_nil)) (nomark _)) (pss_cons (ps_asg (pe_op op_mod (pe_op op_add (pe_op op_mul (pe_ix ix_list (pv 0) pe_int (fun _ _ => rfl)) pe_int) pe_int) pe_int) (pg_sub (pv 0) pe_int set_list)) (pss_one (ps_ret (pe_op op_mod (pe_op op_fdiv (pe_ix ix_list (pv 0) pe_int (fun _ _ => rfl)) pe_int) (pv 1))))) pss_nil) (pss_cons (ps_set (i := 2) sc__law_taken.nd rfl (Or.inl rfl) (pe_ix ix_list (pe_ix ix_list (pv 0) pe_int (fun _ _ => rfl)) (pe_op op_sub (pe_ix ix_list (pv 0) pe_int (fun _ _ => rfl)) pe_int) (fun _ _ => rfl))) (pss_cons (ps_asg (pe_op op_mod (pe_op op_add (pe_op op_add (pe_op op_mul (pe_ix ix_list (pv 0) pe_int (fun _ _ => rfl)) pe_int) (pv 2)) pe_int) pe_int) (pg_sub (pv 0) pe_int set_list)) (pss_one (ps_ret (pe_op op_mod (pv 2) (pv 1)))))))), ?_⟩
    refine ⟨_, rfl, rw, _, 1, .int i, rfl, rfl, SqL.of O.a0, rfl, _, _, rfl, rfl, _, rfl, rw, _, 1, 1, rfl, rfl, O.a0, rfl, ?_⟩
    have O1 := O.set (o' := .lst [.ref sc, .int ((i : Int) + 1), .int z])
    refine ⟨_, rfl, rw, _, 1, .int ((i : Int) + 1), rfl, rfl, SqL.of O1.a0, rfl, _, rfl, rw, _, 0, .ref sc, rfl, rfl, SqL.of O1.a0, rfl, sc, _, rfl, .inl (O1.scr hsc), _, _, rfl, rfl, _, rfl, ?_⟩
    have hi1 : (i : Int) + 1 = ((i + 1 : Nat) : Int) := by omega
    refine ite2 (fun e => ?_) (fun e => ?_)
    · refine ⟨_, rfl, rw, _, 2, .int z, rfl, rfl, SqL.of O1.a0, rfl, _, _, rfl, rfl, .inr ⟨by decide, by decide⟩, _, _, rfl, rfl, _, _, rfl, rfl, (by show (0 : Int) < 2147483647; decide), _, rfl, rw, _, 2, 2, rfl, rfl, O1.a0, rfl, ?_⟩
      have O2 := O1.set (o' := .lst [.ref sc, .int ((i : Int) + 1), .int ((z * 48271 + 11) % 2147483647)])
      have hz2 := Int.emod_nonneg (z * 48271 + 11) (by decide : (2147483647 : Int) ≠ 0)
      have hz3 := Int.emod_lt_of_pos (z * 48271 + 11) (by decide : (0 : Int) < 2147483647)
      refine ⟨_, rfl, rw, _, 2, .int ((z * 48271 + 11) % 2147483647), rfl, rfl, SqL.of O2.a0, rfl, _, _, rfl, rfl, ⟨by decide, by decide⟩, _, rfl, _, _, rfl, rfl, hm, ?_⟩
      exact k _ _ _ (Int.emod_nonneg _ (by omega)) (Int.emod_lt_of_pos _ hm) ⟨sc, ns, i + 1, _, hsc, hz2, hz3, rfl⟩ O2
    · have hlt : i < ns.length := by
        have e' : ¬ decide ((((ns.map V.int).length : Nat) : Int) < (i : Int) + 1) = true := e
        rw [List.length_map] at e'
        have := of_decide_eq_false (Bool.eq_false_iff.mpr e')
        omega
      refine ⟨_, rfl, rw, _, 0, .ref sc, rfl, rfl, SqL.of O1.a0, rfl, _, rfl, rw, _, 1, .int ((i : Int) + 1), rfl, rfl, SqL.of O1.a0, rfl, _, _, rfl, rfl, sc, _, _, .int ns[i], rfl, rfl, O1.scr hsc, ?_, ?_⟩
      · have e1 : (i : Int) + 1 - 1 = (i : Int) := by omega
        rw [e1]
        refine atI_nat ?_
        rw [List.getElem?_map, List.getElem?_eq_getElem hlt]
        rfl
      · refine ⟨_, rfl, rw, _, 2, .int z, rfl, rfl, SqL.of O1.a0, rfl, _, _, rfl, rfl, .inr ⟨by decide, by decide⟩, _, rfl, _, _, rfl, rfl, _, _, rfl, rfl, _, _, rfl, rfl, (by show (0 : Int) < 2147483647; decide), _, rfl, rw, _, 2, 2, rfl, rfl, O1.a0, rfl, ?_⟩
        have O2 := O1.set (o' := .lst [.ref sc, .int ((i : Int) + 1), .int ((z * 48271 + ns[i] + 11) % 2147483647)])
        have hz2 := Int.emod_nonneg (z * 48271 + ns[i] + 11) (by decide : (2147483647 : Int) ≠ 0)
        have hz3 := Int.emod_lt_of_pos (z * 48271 + ns[i] + 11) (by decide : (0 : Int) < 2147483647)
        refine ⟨_, rfl, _, rfl, _, _, rfl, rfl, hm, ?_⟩
        exact k _ _ _ (Int.emod_nonneg _ (by omega)) (Int.emod_lt_of_pos _ hm) ⟨sc, ns, i + 1, _, hsc, hz2, hz3, rfl⟩ O2
theorem ok_is_number (T : Txt K mg) : FnOk P w K mg base CX0 1 (He.fAd K ("is_number", none)) T.fd_is_number ["part", "low", "high"] spIsNum := by
  refine okOf T.F_is_number sc_is_number (fun vs H Q E h => ?_) (fun cdv A outer s H vs Q E hr h => ?_)
  · obtain ⟨_, _, _, rfl, _⟩ := h
    rfl
  · obtain ⟨x, lo, hi, rfl, k⟩ := h
    refine ⟨_, (pss_one (ps_ret (pe_and (pe_callB call_isi (by rfl) T.n_isinstance (by decide +kernel) (pa_cons (pv 0) (pa_cons (pe_bltn (v := .ty "int") (by rfl) T.n_int (by decide +kernel) rfl) pa_nil))) (pe_and (pe_not (pe_callB call_isi (by rfl) T.n_isinstance (by decide +kernel) (pa_cons (pv 0) (pa_cons (pe_bltn (v := .ty "bool") (by rfl) T.n_bool (by decide +kernel) rfl) pa_nil)))) (pe_one (pe_chain op_le op_le (pv 1) (pv 0) (pv 2))))))), ?_⟩
    refine ⟨_, rfl, _, _, _, _, true, rfl, ClsV.ty _, TyX.base (.int x), kit_ty (by decide +kernel), true, rfl, iteT ?_⟩
    refine ⟨_, rfl, _, _, _, _, false, rfl, ClsV.ty _, TyX.base (.int x), kit_ty (by decide +kernel), false, rfl, true, rfl, iteT ?_⟩
    refine ⟨_, rfl, _, rfl, lo, x, rfl, rfl, _, rfl, ?_⟩
    by_cases h1 : lo ≤ x
    · rw [decide_eq_true h1]
      refine iteT ⟨_, rfl, x, hi, rfl, rfl, ?_⟩
      have e : decide (x ≤ hi) = decide (lo ≤ x ∧ x ≤ hi) := by simp [h1]
      show Q (.bl (decide (x ≤ hi))) H
      rw [e]
      exact k
    · rw [decide_eq_false h1]
      refine iteF ?_
      have e : decide (lo ≤ x ∧ x ≤ hi) = false := by simp [h1]
      rw [e] at k
      exact k
end
-- WwWd
/-! ### rules whose reading names the written part by itself -/
theorem mt_cntK (K : PySem.W.Frag) {X : Cx} (hK : X.K = K) : MtR X "list.count" (rCntB K) := by
  subst hK
  exact mt_lcountB
theorem mt_idxK (K : PySem.W.Frag) {X : Cx} (hK : X.K = K) : MtR X "list.index" (rIndex K) := by
  subst hK
  exact mt_index
theorem ix_listK (K : PySem.W.Frag) {X : Cx} (hK : X.K = K) : IxR X (rIxL K) := by
  subst hK
  exact ix_list
theorem op_inK (K : PySem.W.Frag) {X : Cx} (hK : X.K = K) : OpR X (compareOp .In) (rIn K false) := by
  subst hK
  exact op_in_seq
theorem pe_bmK (K : PySem.W.Frag) {X : Cx} (hK : X.K = K) {o e : Expr} {es : List Expr} {to : TE} {t : L2.TA} {name : Str} {apos cpos : Pos} {T id : String} {r : V → List V → Hp → VK → Prop} (pa : PlainAttrs T) (slot : Slot T name id) (hty : typeOf (.builtin id) = pure (.type "method_descriptor")) (hm : MtR X id r) (ho : PE X o to) (ha : PA X (e :: es) t)
    (h1 : attributeBase o name X.env (eval o X.env) = eval o X.env := by rfl)
    (h2 : ((backTo cpos (starEach (e :: es) X.env)).all (fun x => !x.1) && (backToKw cpos (keywordEach [] X.env)).all (fun x => x.1.isSome) && decide ((e :: es).length + ([] : List Keyword).length + (if ([] : List Keyword).isEmpty then 0 else 1) < 30)) = true := by rfl)
    (h3 : (apos.endLine == cpos.line) = true := by rfl) (h4 : starEach (e :: es) X.env = (false, eval e X.env) :: starEach es X.env := by rfl) (h5 : (backTo cpos (starEach es X.env)).any (·.1) = false := by rfl) :
    PE X (.Call (.Attribute o name apos) (e :: es) [] cpos) (tBM K T r to t) := by
  subst hK
  exact pe_bm pa slot hty hm ho ha h1 h2 h3 h4 h5
/-! ### refusals, and the word of a refusal -/
section
variable {P : Program} {w : World} {K : PySem.W.Frag} {mg : Str → Option Value} {base : Heap} {n lv : Nat}
theorem ok_BadRule (T : Txt K mg) : FnOk P w K mg base CX0 1 (He.ma K (He.ga K "BadRule") "__init__") T.fd_BadRule___init__ ["self", "number"] (spExI K (He.ga K "BadRule") "number") := by
  refine okOf T.F_BadRule___init__ sc_BadRule___init__ (fun vs H Q E h => ?_) (fun cdv A outer s H vs Q E hr h => ?_)
  · obtain ⟨_, _, rfl, _⟩ := h
    rfl
  · obtain ⟨a, n, rfl, hn, ha, k⟩ := h
    have T1 := (T.xt.xc "BadRule" (by decide)).oex T.ox_BadRule
    refine ⟨_, (pss_cons (ps_expr (pe_weinit (by rfl) T.g_WayError T.xt.sg T.xt.rd T.xt.fc (pa_cons (pv 0) (pa_cons (pe_joined (.cons pe_str (.cons (pe_fmt (pv 1)) .nil))) pa_nil)))) (pss_one (ps_ost (pv 0) (pv 1)))), ?_⟩
    refine ⟨_, rfl, ⟨"rule ", rfl, by decide, _, rfl, .inr ⟨n, rfl, log60 hn, _, rfl, int_fits60 hn (by decide), ?_⟩⟩⟩
    refine ⟨a, _, _, rfl, by show 1 ≤ 1000; decide, T1, ha, ?_⟩
    exact ⟨_, rfl, _, rfl, a, _, rfl, T1, T.na_BadRule_number, .inl ⟨ha, fun dx h1 h2 => k dx h1 h2⟩⟩
theorem ok_BadDeed (T : Txt K mg) : FnOk P w K mg base CX0 1 (He.ma K (He.ga K "BadDeed") "__init__") T.fd_BadDeed___init__ ["self", "number"] (spExI K (He.ga K "BadDeed") "number") := by
  refine okOf T.F_BadDeed___init__ sc_BadDeed___init__ (fun vs H Q E h => ?_) (fun cdv A outer s H vs Q E hr h => ?_)
  · obtain ⟨_, _, rfl, _⟩ := h
    rfl
  · obtain ⟨a, n, rfl, hn, ha, k⟩ := h
    have T1 := (T.xt.xc "BadDeed" (by decide)).oex T.ox_BadDeed
    refine ⟨_, (pss_cons (ps_expr (pe_weinit (by rfl) T.g_WayError T.xt.sg T.xt.rd T.xt.fc (pa_cons (pv 0) (pa_cons (pe_joined (.cons pe_str (.cons (pe_fmt (pv 1)) .nil))) pa_nil)))) (pss_one (ps_ost (pv 0) (pv 1)))), ?_⟩
    refine ⟨_, rfl, ⟨"deed ", rfl, by decide, _, rfl, .inr ⟨n, rfl, log60 hn, _, rfl, int_fits60 hn (by decide), ?_⟩⟩⟩
    refine ⟨a, _, _, rfl, by show 1 ≤ 1000; decide, T1, ha, ?_⟩
    exact ⟨_, rfl, _, rfl, a, _, rfl, T1, T.na_BadDeed_number, .inl ⟨ha, fun dx h1 h2 => k dx h1 h2⟩⟩
theorem ok_BadLeavings (T : Txt K mg) : FnOk P w K mg base CX0 1 (He.ma K (He.ga K "BadLeavings") "__init__") T.fd_BadLeavings___init__ ["self", "number"] (spExI K (He.ga K "BadLeavings") "number") := by
  refine okOf T.F_BadLeavings___init__ sc_BadLeavings___init__ (fun vs H Q E h => ?_) (fun cdv A outer s H vs Q E hr h => ?_)
  · obtain ⟨_, _, rfl, _⟩ := h
    rfl
  · obtain ⟨a, n, rfl, hn, ha, k⟩ := h
    have T1 := (T.xt.xc "BadLeavings" (by decide)).oex T.ox_BadLeavings
    refine ⟨_, (pss_cons (ps_expr (pe_weinit (by rfl) T.g_WayError T.xt.sg T.xt.rd T.xt.fc (pa_cons (pv 0) (pa_cons (pe_joined (.cons pe_str (.cons (pe_fmt (pv 1)) .nil))) pa_nil)))) (pss_one (ps_ost (pv 0) (pv 1)))), ?_⟩
    refine ⟨_, rfl, ⟨"leaving ", rfl, by decide, _, rfl, .inr ⟨n, rfl, log60 hn, _, rfl, int_fits60 hn (by decide), ?_⟩⟩⟩
    refine ⟨a, _, _, rfl, by show 1 ≤ 1000; decide, T1, ha, ?_⟩
    exact ⟨_, rfl, _, rfl, a, _, rfl, T1, T.na_BadLeavings_number, .inl ⟨ha, fun dx h1 h2 => k dx h1 h2⟩⟩
theorem ok_BadText (T : Txt K mg) : FnOk P w K mg base CX0 1 (He.ma K (He.ga K "BadText") "__init__") T.fd_BadText___init__ ["self", "row"] (spExI K (He.ga K "BadText") "row") := by
  refine okOf T.F_BadText___init__ sc_BadText___init__ (fun vs H Q E h => ?_) (fun cdv A outer s H vs Q E hr h => ?_)
  · obtain ⟨_, _, rfl, _⟩ := h
    rfl
  · obtain ⟨a, n, rfl, hn, ha, k⟩ := h
    have T1 := (T.xt.xc "BadText" (by decide)).oex T.ox_BadText
    refine ⟨_, (pss_cons (ps_expr (pe_weinit (by rfl) T.g_WayError T.xt.sg T.xt.rd T.xt.fc (pa_cons (pv 0) (pa_cons (pe_joined (.cons pe_str (.cons (pe_fmt (pv 1)) .nil))) pa_nil)))) (pss_one (ps_ost (pv 0) (pv 1)))), ?_⟩
    refine ⟨_, rfl, ⟨"row ", rfl, by decide, _, rfl, .inr ⟨n, rfl, log60 hn, _, rfl, int_fits60 hn (by decide), ?_⟩⟩⟩
    refine ⟨a, _, _, rfl, by show 1 ≤ 1000; decide, T1, ha, ?_⟩
    exact ⟨_, rfl, _, rfl, a, _, rfl, T1, T.na_BadText_row, .inl ⟨ha, fun dx h1 h2 => k dx h1 h2⟩⟩
end
def wordsL : List Str := ["rule", "hands", "hand", "place", "number", "deed", "room", "ways", "leavings", "text"]
def fldOf (i : Nat) : Option Str := if i = 0 ∨ i = 5 ∨ i = 8 then some "number" else if i = 9 then some "row" else none
/-- what the word of a refusal asks of the exception -/
def wishW (K : PySem.W.Frag) (Q : VK) : XK := fun cls d H => ∃ (i : Nat) (c wd : Str) (L : List Cell), bads[i]? = some c ∧ wordsL[i]? = some wd ∧ cls = .ref (He.ga K c) ∧ Own H L ∧
  ((d = none ∧ fldOf i = none ∧ ∀ H', Own H' L → Q (.str wd) H') ∨
    ∃ (dd : Addr) (f : Str) (n : Int), d = some dd ∧ fldOf i = some f ∧ (dd, HO.xd [(f, .int n)]) ∈ L ∧ ∀ (t : Addr) (H' : Hp), Own H' ((t, .tup [.str wd, .int n]) :: L) → Q (.ref t) H')
def TTword (K : PySem.W.Frag) : (XK → Hp → VK → Prop) → Hp → VK → Prop := fun tl H Q => tl (wishW K Q) H fun _ H' => Q (.str "") H'
def kindsL (c : Str) : List Bool := bads.map fun d => decide (c = d)
theorem kinds_of {i : Nat} {c : Str} (h : bads[i]? = some c) : (kindsL c).countP (· == true) = 1 ∧ (kindsL c)[i]? = some true ∧ (∀ m z, m < i → (kindsL c)[m]? = some z → z = false) ∧ i < 10 := by
  have hi : i < 10 := (List.getElem?_eq_some_iff.mp h).1
  have : i = 0 ∨ i = 1 ∨ i = 2 ∨ i = 3 ∨ i = 4 ∨ i = 5 ∨ i = 6 ∨ i = 7 ∨ i = 8 ∨ i = 9 := by omega
  have key : ∀ (j : Nat), j < 10 → ∀ c, bads[j]? = some c → (kindsL c).countP (· == true) = 1 ∧ (kindsL c)[j]? = some true ∧ ∀ m, m < j → (kindsL c)[m]? = some false := by
    intro j hj c hc
    rcases (show j = 0 ∨ j = 1 ∨ j = 2 ∨ j = 3 ∨ j = 4 ∨ j = 5 ∨ j = 6 ∨ j = 7 ∨ j = 8 ∨ j = 9 by omega) with e | e | e | e | e | e | e | e | e | e <;> subst e <;> obtain rfl := Option.some.inj hc <;> decide +kernel
  obtain ⟨h1, h2, h3⟩ := key i hi c h
  refine ⟨h1, h2, fun m z hm hz => ?_, hi⟩
  rw [h3 m hm] at hz
  exact (Option.some.inj hz).symm
theorem wordIn {i : Nat} {wd : Str} (h : wordsL[i]? = some wd) : inV (.str wd) [.str "rule", .str "deed", .str "leavings"] = decide (i = 0 ∨ i = 5 ∨ i = 8) ∧ decide (V.str wd = V.str "text") = decide (i = 9) := by
  have hi : i < 10 := (List.getElem?_eq_some_iff.mp h).1
  rcases (show i = 0 ∨ i = 1 ∨ i = 2 ∨ i = 3 ∨ i = 4 ∨ i = 5 ∨ i = 6 ∨ i = 7 ∨ i = 8 ∨ i = 9 by omega) with e | e | e | e | e | e | e | e | e | e <;> subst e <;> obtain rfl := Option.some.inj h <;> decide +kernel
theorem len4 {σ : L2.St} (h : σ.length = 4) : ∃ a b c d, σ = [a, b, c, d] := by
  match σ, h with
  | [a, b, c, d], _ => exact ⟨a, b, c, d, rfl⟩
theorem shapedWI {x : Str} {n : Int} (h : PyData.canLay0 (.str x) = true) : SeqAt.shaped (.tuple [.str x, .int n]) = true := by
  refine shaped_of ?_ ?_
  · show (PyData.canLay0 (.str x) && (true && true)) = true
    rw [h]
    rfl
  · show max 0 (max 0 0) + 1 ≤ 64
    decide
theorem pss_ex {X : Cx} {α : Type _} {c : α → Prop} {t : α → TS} {body : List Stmt} (h : ∀ x, c x → PSs X body (t x)) : PSs X body (fun D σ H => ∃ x, c x ∧ t x D σ H) :=
  ⟨fun pins s σ H D I ⟨x, hc, ht⟩ => (h x hc).run pins s σ H D I ht⟩
theorem iteTo {b : Bool} {p q : Prop} (e : b = true) (h : p) : if b = true then p else q := by
  rw [if_pos e]
  exact h
theorem iteFo {b : Bool} {p q : Prop} (e : b = false) (h : q) : if b = true then p else q := by
  rw [if_neg (by rw [e]; decide)]
  exact h
theorem word_gives {X : Cx} (T : Txt X.K X.mg) {cdg : Value} {q : Str} : LamX.GivesTo X ["_law_work", "_law_kinds", "e", "_law_word_here"] "_law_word" (defScope s__law_word) (He.fAd X.K ("_law_word", none)) cdg (defBody s__law_word) "_law_work" q (TTword X.K) := by
  intro f c' s H Q tl act hc h
  refine ⟨_, pss_cons (ps_try_as (X := (cxOf C8.CX0 X.prog X.w X.K X.mg X.base ["_law_work", "_law_kinds", "e", "_law_word_here"] "_law_word" (defScope s__law_word) (He.fAd X.K ("_law_word", none)) cdg X.A X.stack s H C8.E0).nox) (c := .ref (He.ga X.K "WayError")) (i := 2)
      (tb := fun W D σ H => ∃ Ech : XK, (∀ cls d σ' H', σ'.length = 4 → Ech cls d H' → W cls d σ' H') ∧ σ[0]? = some (some (.ref f)) ∧ H c' = some (LamX.CodeO c' q) ∧ tl Ech H fun _ H' => D.nx σ H')
      rfl rfl sc__law_word.nd rfl rfl ⟨rfl, by decide, .inl T.g_WayError⟩ LamX.takes0 (fun W pn xe tk _ => ?_) (fun a oe cls d pn hz hf => (pss_cons (ps_set (i := 1) sc__law_word.nd rfl (Or.inl rfl) (pe_lst (pa_cons (pe_callB (call_isX hz hf) (by rfl) T.n_isinstance (by decide +kernel) (pa_cons (pv 2) (pa_cons (pe_globR rfl T.g_BadRule) pa_nil))) (pa_cons (pe_callB (call_isX hz hf) (by rfl) T.n_isinstance (by decide +kernel) (pa_cons (pv 2) (pa_cons (pe_globR rfl T.g_BadHands) pa_nil))) (pa_cons (pe_callB (call_isX hz hf) (by rfl) T.n_isinstance (by decide +kernel) (pa_cons (pv 2) (pa_cons (pe_globR rfl T.g_BadHand) pa_nil))) (pa_cons (pe_callB (call_isX hz hf) (by rfl) T.n_isinstance (by decide +kernel) (pa_cons (pv 2) (pa_cons (pe_globR rfl T.g_BadPlace) pa_nil))) pa_nil)))))) (pss_cons (ps_set (i := 1) sc__law_word.nd rfl (Or.inl rfl) (pe_op op_cat (pv 1) (pe_lst (pa_cons (pe_callB (call_isX hz hf) (by rfl) T.n_isinstance (by decide +kernel) (pa_cons (pv 2) (pa_cons (pe_globR rfl T.g_BadNumber) pa_nil))) (pa_cons (pe_callB (call_isX hz hf) (by rfl) T.n_isinstance (by decide +kernel) (pa_cons (pv 2) (pa_cons (pe_globR rfl T.g_BadDeed) pa_nil))) (pa_cons (pe_callB (call_isX hz hf) (by rfl) T.n_isinstance (by decide +kernel) (pa_cons (pv 2) (pa_cons (pe_globR rfl T.g_BadRoom) pa_nil))) pa_nil)))))) (pss_cons (ps_set (i := 1) sc__law_word.nd rfl (Or.inl rfl) (pe_op op_cat (pv 1) (pe_lst (pa_cons (pe_callB (call_isX hz hf) (by rfl) T.n_isinstance (by decide +kernel) (pa_cons (pv 2) (pa_cons (pe_globR rfl T.g_BadWays) pa_nil))) (pa_cons (pe_callB (call_isX hz hf) (by rfl) T.n_isinstance (by decide +kernel) (pa_cons (pv 2) (pa_cons (pe_globR rfl T.g_BadLeavings) pa_nil))) (pa_cons (pe_callB (call_isX hz hf) (by rfl) T.n_isinstance (by decide +kernel) (pa_cons (pv 2) (pa_cons (pe_globR rfl T.g_BadText) pa_nil))) pa_nil)))))) (pss_cons (ps_if (PW.pt (pw_or (pt_cmpR op_ne (pe_bmK X.K (by rfl) PySem.F.plainAttrs_list PySem.F.slot_list_count PySem.F.type_list_count (mt_cntK X.K (by rfl)) (pv 1) (pa_cons pe_bl pa_nil)) pe_int (nomark _)) (pw_or1 (pt_not (pt_val (pe_callB (call_isX hz hf) (by rfl) T.n_isinstance (by decide +kernel) (pa_cons (pv 2) (pa_cons (pe_bltn (v := .ty "ValueError") (by rfl) T.n_ValueError (by decide +kernel) rfl) pa_nil)))))))) (pss_one (ps_ret pe_str)) pss_nil) (pss_cons (ps_set (i := 3) sc__law_word.nd rfl (Or.inl rfl) (pe_lst (pa_cons pe_str (pa_cons pe_str (pa_cons pe_str (pa_cons pe_str (pa_cons pe_str (pa_cons pe_str (pa_cons pe_str (pa_cons pe_str (pa_cons pe_str (pa_cons pe_str pa_nil)))))))))))) (pss_cons (ps_set (i := 3) sc__law_word.nd rfl (Or.inl rfl) (pe_ix (ix_listK X.K (by rfl)) (pv 3) (pe_bmK X.K (by rfl) PySem.F.plainAttrs_list PySem.F.slot_list_index PySem.F.type_list_index (mt_idxK X.K (by rfl)) (pv 1) (pa_cons pe_bl pa_nil)) (fun _ _ => rfl))) (pss_cons (ps_if (pt_cmpR (op_inK X.K (by rfl)) (pv 3) (pe_tup (pa_cons pe_str (pa_cons pe_str (pa_cons pe_str pa_nil)))) (by rfl)) (pss_one (ps_ret (pe_tup (pa_cons (pv 3) (pa_cons (pe_xg hz hf (pv 2)) pa_nil))))) pss_nil) (pss_one (ps_ret (pe_ifExp (pt_cmpR op_eq (pv 3) pe_str (nomark _)) (pe_tup (pa_cons (pv 3) (pa_cons (pe_xg hz hf (pv 2)) pa_nil))) (pv 3))))))))))))) (pss_one (ps_ret pe_str)), ?_⟩
  · refine pss_ex (c := fun Ech : XK => ∀ cls d (σ' : L2.St) H', σ'.length = 4 → Ech cls d H' → W cls d σ' H') fun Ech hW => pss_one (ps_expr (act _ pn xe Ech _ _ (takesLen tk) fun cls d σ' H' e l => hW cls d σ' H' l e))
  · refine ⟨wishW X.K Q, fun cls d σ' H' hl hw => ?_, rfl, hc, h⟩
    obtain ⟨b0, b1, b2, b3, rfl⟩ := len4 hl
    obtain ⟨i, c, wd, L, hi, hwd, rfl, O, hk⟩ := hw
    have hcm : c ∈ bads := List.mem_of_getElem? hi
    have hdd : ∀ dd, d = some dd → ∃ fs, (dd, HO.xd fs) ∈ L := fun dd e => by
      rcases hk with ⟨e2, _⟩ | ⟨d2, f2, n2, e2, _, hm, _⟩
      · rw [e2] at e
        cases e
      · rw [e2] at e
        cases e
        exact ⟨_, hm⟩
    refine ⟨true, T.xt.ex c hcm, fun _ a ha => ?_, fun z => nomatch z⟩
    have hx := T.xt.xc c hcm
    have hd0 : ∀ {HH : Hp} {LL : List Cell}, Own HH (LL ++ L) → ∀ dd, d = some dd → ∃ fs, HH dd = some (.xd fs) := fun O dd e => by
      obtain ⟨fs, hm⟩ := hdd dd e
      exact ⟨fs, O.mem (List.mem_append_right _ hm)⟩
    have hd1 := hd0 (LL := []) O
    refine ⟨_, rfl, _, _, _, _, rfl, hx, hd1, rfl, fun u r => r, T.xt.kit c hcm "BadRule" (by decide), ?_⟩
    refine ⟨_, rfl, _, _, _, _, rfl, hx, hd1, rfl, fun u r => r, T.xt.kit c hcm "BadHands" (by decide), ?_⟩
    refine ⟨_, rfl, _, _, _, _, rfl, hx, hd1, rfl, fun u r => r, T.xt.kit c hcm "BadHand" (by decide), ?_⟩
    refine ⟨_, rfl, _, _, _, _, rfl, hx, hd1, rfl, fun u r => r, T.xt.kit c hcm "BadPlace" (by decide), ?_⟩
    refine ⟨by show 4 ≤ sizeLine; decide, fun p1 hp1 => ?_⟩
    have O1 := O.new (o := .lst ([decide (c = "BadRule"), decide (c = "BadHands"), decide (c = "BadHand"), decide (c = "BadPlace")].map V.bl)) hp1
    have hd2 := hd0 (LL := [_]) O1
    refine ⟨_, rfl, ?_⟩
    refine ⟨_, rfl, _, _, _, _, rfl, hx, hd2, rfl, fun u r => r, T.xt.kit c hcm "BadNumber" (by decide), ?_⟩
    refine ⟨_, rfl, _, _, _, _, rfl, hx, hd2, rfl, fun u r => r, T.xt.kit c hcm "BadDeed" (by decide), ?_⟩
    refine ⟨_, rfl, _, _, _, _, rfl, hx, hd2, rfl, fun u r => r, T.xt.kit c hcm "BadRoom" (by decide), ?_⟩
    refine ⟨by show 3 ≤ sizeLine; decide, fun p2 hp2 => ?_⟩
    have O2 := O1.new (o := .lst ([decide (c = "BadNumber"), decide (c = "BadDeed"), decide (c = "BadRoom")].map V.bl)) hp2
    refine ⟨p1, p2, _, _, rfl, rfl, O2.a1, O2.a0, by show 4 + 3 ≤ sizeLine; decide, fun p3 hp3 => ?_⟩
    have O3 := O2.new (o := .lst ([decide (c = "BadRule"), decide (c = "BadHands"), decide (c = "BadHand"), decide (c = "BadPlace"), decide (c = "BadNumber"), decide (c = "BadDeed"), decide (c = "BadRoom")].map V.bl)) hp3
    have hd3 := hd0 (LL := [_, _, _]) O3
    refine ⟨_, rfl, ?_⟩
    refine ⟨_, rfl, _, _, _, _, rfl, hx, hd3, rfl, fun u r => r, T.xt.kit c hcm "BadWays" (by decide), ?_⟩
    refine ⟨_, rfl, _, _, _, _, rfl, hx, hd3, rfl, fun u r => r, T.xt.kit c hcm "BadLeavings" (by decide), ?_⟩
    refine ⟨_, rfl, _, _, _, _, rfl, hx, hd3, rfl, fun u r => r, T.xt.kit c hcm "BadText" (by decide), ?_⟩
    refine ⟨by show 3 ≤ sizeLine; decide, fun p4 hp4 => ?_⟩
    have O4 := O3.new (o := .lst ([decide (c = "BadWays"), decide (c = "BadLeavings"), decide (c = "BadText")].map V.bl)) hp4
    refine ⟨p3, p4, _, _, rfl, rfl, O4.a1, O4.a0, by show 7 + 3 ≤ sizeLine; decide, fun p5 hp5 => ?_⟩
    have O5 := O4.new (o := .lst ((kindsL c).map V.bl)) hp5
    have hd5 := hd0 (LL := [_, _, _, _, _]) O5
    obtain ⟨k1, k2, k3, hi10⟩ := kinds_of hi
    refine ⟨_, rfl, .inl ⟨rfl, _, SqL.of O5.a0⟩, p5, kindsL c, true, rfl, rfl, SqL.of O5.a0, ?_⟩
    rw [k1]
    refine ⟨rfl, false, rfl, iteF ?_⟩
    refine ⟨_, rfl, _, _, _, _, rfl, hx, hd5, rfl, fun u r => r, T.xt.kv c hcm, _, rfl, iteF ?_⟩
    refine ⟨by show 10 ≤ sizeLine; decide, fun p6 hp6 => ?_⟩
    have O6 := O5.new (o := .lst (wordsL.map V.str)) hp6
    refine ⟨_, rfl, _, rfl, .inl ⟨rfl, _, SqL.of O6.a1⟩, p5, _, _, i, .bl true, rfl, rfl, SqL.of O6.a1, rfl, ?_, by rw [List.getElem?_map, k2]; rfl, rfl, fun m z hm hz => ?_, ?_⟩
    · rw [List.all_eq_true]
      intro x hx2
      obtain ⟨b, _, rfl⟩ := List.mem_map.mp hx2
      rfl
    · rw [List.getElem?_map] at hz
      cases e : (kindsL c)[m]? with
      | none =>
        rw [e] at hz
        cases hz
      | some b =>
        rw [e] at hz
        have ez : V.bl b = z := Option.some.inj hz
        rw [← ez, k3 m b hm e]
        rfl
    refine ⟨p6, _, _, .str wd, rfl, rfl, SqL.of O6.a0, atI_nat (by rw [List.getElem?_map, hwd]; rfl), ?_⟩
    obtain ⟨w1, w2⟩ := wordIn hwd
    have hpar : ∀ {f : Str}, fldOf i = some f → PySem.W.findIn X.K (.ref (He.ga X.K c)) f = some none := fun {f} hf => by
      unfold fldOf at hf
      split at hf
      · rename_i h3
        obtain rfl := Option.some.inj hf
        rcases h3 with e | e | e <;> subst e <;> obtain rfl := Option.some.inj hi
        · exact T.na_BadRule_number
        · exact T.na_BadDeed_number
        · exact T.na_BadLeavings_number
      · split at hf
        · rename_i e
          subst e
          obtain rfl := Option.some.inj hf
          obtain rfl := Option.some.inj hi
          exact T.na_BadText_row
        · cases hf
    refine ⟨_, rfl, by show 3 ≤ sizeLine; decide, fun p7 hp7 => ?_⟩
    have O7 := O6.new (o := .tup [.str "rule", .str "deed", .str "leavings"]) hp7
    refine ⟨p7, _, rfl, .inr (SqT.of O7.a0), rfl, rfl, ?_⟩
    rw [w1]
    have OL : ∀ {HH : Hp} {LL : List Cell}, Own HH (LL ++ L) → Own HH L := fun O => Own.right O
    refine ⟨_, rfl, ?_⟩
    by_cases h3 : i = 0 ∨ i = 5 ∨ i = 8
    · refine iteTo (decide_eq_true h3) ?_
      rcases hk with ⟨_, e2, _⟩ | ⟨dd, f2, n2, rfl, e2, hm, k⟩
      · unfold fldOf at e2
        rw [if_pos h3] at e2
        cases e2
      have e3 := e2
      unfold fldOf at e3
      rw [if_pos h3] at e3
      obtain rfl := Option.some.inj e3
      refine ⟨_, rfl, _, rfl, rfl, _, dd, _, .int n2, rfl, hx, hpar e2, rfl, O7.mem (show (dd, HO.xd [("number", V.int n2)]) ∈ _ by simp [hm]), rfl, by show 2 ≤ sizeLine; decide, fun p8 hp8 => ?_⟩
      have O8 := O7.new (o := .tup [.str wd, .int n2]) hp8
      exact k p8 _ (O8.sub (List.Sublist.cons_cons _ (List.sublist_append_right [_, _, _, _, _, _, _] L)))
    · refine iteFo (decide_eq_false h3) ?_
      refine ⟨_, rfl, ?_⟩
      refine ⟨rfl, _, rfl, ?_⟩
      rw [w2]
      by_cases h9 : i = 9
      · refine iteTo (decide_eq_true h9) ?_
        rcases hk with ⟨_, e2, _⟩ | ⟨dd, f2, n2, rfl, e2, hm, k⟩
        · unfold fldOf at e2
          rw [if_neg h3, if_pos h9] at e2
          cases e2
        have e3 := e2
        unfold fldOf at e3
        rw [if_neg h3, if_pos h9] at e3
        obtain rfl := Option.some.inj e3
        refine ⟨_, rfl, _, rfl, rfl, _, dd, _, .int n2, rfl, hx, hpar e2, rfl, O7.mem (show (dd, HO.xd [("row", V.int n2)]) ∈ _ by simp [hm]), rfl, by show 2 ≤ sizeLine; decide, fun p8 hp8 => ?_⟩
        have O8 := O7.new (o := .tup [.str wd, .int n2]) hp8
        exact k p8 _ (O8.sub (List.Sublist.cons_cons _ (List.sublist_append_right [_, _, _, _, _, _, _] L)))
      · refine iteFo (decide_eq_false h9) ⟨_, rfl, ?_⟩
        rcases hk with ⟨rfl, e2, k⟩ | ⟨dd, f2, n2, rfl, e2, hm, k⟩
        · exact k _ (O7.sub (List.sublist_append_right [_, _, _, _, _, _, _] L))
        · unfold fldOf at e2
          rw [if_neg h3, if_neg h9] at e2
          cases e2
-- WwA
/-! ### words for the walk -/
section
variable {P : Program} {w : World} {K : PySem.W.Frag} {mg : Str → Option Value} {base : Heap}
end
abbrev cF (K : PySem.W.Frag) : Addr := He.ga K "Far"
abbrev cL (K : PySem.W.Frag) : Addr := He.ga K "Line"
abbrev cR (K : PySem.W.Frag) : Addr := He.ga K "Room"
abbrev cH (K : PySem.W.Frag) : Addr := He.ga K "Hall"
abbrev RepK (K : PySem.W.Frag) (di : Addr) := Rep (cF K) (cL K) (cR K) di
abbrev RmRepK (K : PySem.W.Frag) (di : Addr) := RmRep (cL K) (cR K) di
def SqO (o : HO) (xs : List V) : Prop := o = .lst xs ∨ o = .tup xs
theorem SqO.seq {K : PySem.W.Frag} {H : Hp} {a : Addr} {o : HO} {xs : List V} (s : SqO o xs) (h : H a = some o) : SqL K H a xs ∨ SqT K H a xs := by
  rcases s with e | e
  · rw [e] at h
    exact .inl (SqL.of h)
  · rw [e] at h
    exact .inr (SqT.of h)
/-- room in the log -/
def LB (n : Nat) (t : Ta) : Prop := n ≤ 3 ∧ t.log.length + 200 * (n + 1) ≤ 1000000
theorem size2 {n : Nat} (h : n ≤ 1000000) : n ≤ sizeLine := Nat.le_of_lt (size1 h)
theorem cutV_nat {xs : List V} {i j : Nat} (hij : i ≤ j) (hj : j ≤ xs.length) : cutV xs (some (i : Int)) (some (j : Int)) = (xs.drop i).take (j - i) := by
  unfold cutV
  rw [HT.sIx_nat, HT.sIx_nat, Nat.min_eq_left (Nat.le_trans hij hj), Nat.min_eq_left hj]
/-! ### promises: the far room, what stands behind -/
def spFarInit (K : PySem.W.Frag) : Sp := fun vs H Q _ => ∃ (x dx : Addr) (R : List Cell), vs = [.ref x] ∧ Own H ((x, .ins (cF K) dx []) :: R) ∧
  ∀ (fl : Addr) (H' : Hp), Own H' ((x, .ins (cF K) dx (fFar (.ref fl))) :: (fl, .lst ((List.replicate 64 (0 : Int)).map V.int)) :: R) → Q .non H'
def spBring (K : PySem.W.Frag) (n : Nat) : Sp := fun vs H Q _ => ∃ (be : Pa) (di : Addr) (b : Nat) (t : Ta) (C D R : List Cell), vs = [.ref be.ad, .int b] ∧ b < 16 ∧ TaOk n t ∧ LB n t ∧ RepK K di be t.rs t.far C ∧ DRep di t.log D ∧ Own H (C ++ (D ++ R)) ∧
  ∀ (p : Addr) (H' : Hp) (C' D' : List Cell), RepK K di be ((ops n).br t b).2.rs ((ops n).br t b).2.far C' → DRep di ((ops n).br t b).2.log D' → Own H' ((p, .tup (((ops n).br t b).1.map V.int)) :: (C' ++ (D' ++ R))) → Q (.ref p) H'
def spHome (K : PySem.W.Frag) (n : Nat) : Sp := fun vs H Q _ => ∃ (be : Pa) (di na : Addr) (no : HO) (b : Nat) (ns : List Int) (t : Ta) (C D R : List Cell), vs = [.ref be.ad, .int b, .ref na] ∧ b < 16 ∧ ns.length = 4 ∧ SqO no (ns.map V.int) ∧ TaOk n t ∧ LB n t ∧ RepK K di be t.rs t.far C ∧ DRep di t.log D ∧ Own H ((na, no) :: (C ++ (D ++ R))) ∧
  ∀ (H' : Hp) (C' D' : List Cell), RepK K di be ((ops n).hm t b ns).rs ((ops n).hm t b ns).far C' → DRep di ((ops n).hm t b ns).log D' → Own H' ((na, no) :: (C' ++ (D' ++ R))) → Q .non H'
def spChange (K : PySem.W.Frag) (n : Nat) : Sp := fun vs H Q _ => ∃ (be : Pa) (di : Addr) (p : Nat) (v : Int) (t : Ta) (C D R : List Cell), vs = [.ref be.ad, .int p, .int v] ∧ p < 64 ∧ TaOk n t ∧ LB n t ∧ RepK K di be t.rs t.far C ∧ DRep di t.log D ∧ Own H (C ++ (D ++ R)) ∧
  ∀ (H' : Hp) (C' D' : List Cell), RepK K di be ((ops n).ch t p v).rs ((ops n).ch t p v).far C' → DRep di ((ops n).ch t p v).log D' → Own H' (C' ++ (D' ++ R)) → Q .non H'
section
variable {P : Program} {w : World} {K : PySem.W.Frag} {mg : Str → Option Value} {base : Heap}
theorem ok_Far_init (T : Txt K mg) : FnOk P w K mg base CX0 1 (He.fAd K ("Far", some "__init__")) T.fd_Far___init__ ["self"] (spFarInit K) := by
  refine okOf T.F_Far___init__ sc_Far___init__ (fun vs H Q E h => ?_) (fun cdv A outer s H vs Q E hr h => ?_)
  · obtain ⟨x, dx, R, rfl, _⟩ := h
    rfl
  · obtain ⟨x, dx, R, rfl, O, k⟩ := h
    refine ⟨_, (pss_one (ps_fld (pv 0) (pe_op op_rep (pe_lst (pa_cons pe_int pa_nil)) (pe_globI rfl T.g_CELLS)) rfl)), ?_⟩
    refine ⟨by show 1 ≤ sizeLine; decide, fun p hp => ?_⟩
    have O1 := O.new (o := .lst [.int 0]) hp
    refine ⟨p, 64, [.int 0], rfl, rfl, O1.a0, by decide, by decide, by show 1 * 64 ≤ sizeLine; decide, fun q hq => ?_⟩
    have O2 := (O1.tail).new (o := .lst (List.replicate (64 : Int).toNat [V.int 0]).flatten) hq
    refine ⟨_, rfl, x, cF K, dx, [], rfl, O2.a1, T.cl_Far, T.na_Far_held, by show 0 < 1000; decide, ?_⟩
    have e : (List.replicate (64 : Int).toNat [V.int 0]).flatten = (List.replicate 64 (0 : Int)).map V.int := by decide
    rw [e] at O2 ⊢
    have O3 := (O2.perm (L' := (x, .ins (cF K) dx []) :: (q, .lst ((List.replicate 64 (0 : Int)).map V.int)) :: R) (by walk_at "perm")).set (o' := .ins (cF K) dx (putF "held" (.ref q) []))
    exact k q _ O3
theorem mul4 {b : Nat} (h : b < 64) : CMul (b : Int) 4 := .inr ⟨by decide, by decide⟩
theorem ok_Far_bring (T : Txt K mg) : FnOk P w K mg base CX0 1 (He.fAd K ("Far", some "bring")) T.fd_Far_bring ["self", "block"] (spBring K 0) := by
  refine okOf T.F_Far_bring sc_Far_bring (fun vs H Q E h => ?_) (fun cdv A outer s H vs Q E hr h => ?_)
  · obtain ⟨_, _, _, _, _, _, _, rfl, _⟩ := h
    rfl
  · obtain ⟨be, di, b, t, C, D, R, rfl, hb, ht, hlb, hC, hD, O, k⟩ := h
    have ers : t.rs = [] := List.length_eq_zero_iff.mp ht.len
    have hC0 := hC
    rw [ers] at hC
    obtain ⟨la, rfl⟩ : ∃ la, be = .far la := by
      cases be with
      | far la => exact ⟨la, rfl⟩
      | room a be => exact hC.elim
    obtain ⟨dx, fl, rfl⟩ := hC
    refine ⟨_, (pss_one (ps_ret (pe_callTy call_tuple_of (by rfl) T.n_tuple (by decide +kernel) (pa_cons (pe_slice sl_list (pe_fld (pv 0) rfl) (po_some (pe_op op_mul (pv 1) (pe_globI rfl T.g_BLOCK))) (po_some (pe_op op_add (pe_op op_mul (pv 1) (pe_globI rfl T.g_BLOCK)) (pe_globI rfl T.g_BLOCK)))) pa_nil)))), ?_⟩
    refine ⟨_, rfl, la, cF K, dx, _, _, rfl, O.a0, T.cl_Far, T.na_Far_held, lk_Far_held, _, rfl, _, _, rfl, rfl, .inr ⟨by decide, by decide⟩, _, rfl, _, rfl, _, _, rfl, rfl, .inr ⟨by decide, by decide⟩, _, _, rfl, rfl, _, rfl, fl, _, rfl, SqL.of O.a1, fun p hp => ?_⟩
    have O1 := O.new (o := .lst (cutV (t.far.map V.int) (some ((b : Int) * 4)) (some ((b : Int) * 4 + 4)))) hp
    refine ⟨p, _, rfl, .inl ⟨SqL.of O1.a0, fun q hq => ?_⟩⟩
    have O2 := O1.tail.new (o := .tup (cutV (t.far.map V.int) (some ((b : Int) * 4)) (some ((b : Int) * 4 + 4)))) hq
    have e : cutV (t.far.map V.int) (some ((b : Int) * 4)) (some ((b : Int) * 4 + 4)) = (getBlk t.far b).map V.int := by
      have e1 : (b : Int) * 4 = ((b * 4 : Nat) : Int) := by omega
      have e2 : (b : Int) * 4 + 4 = ((b * 4 + 4 : Nat) : Int) := by omega
      have hf := ht.far
      rw [e2, e1, cutV_nat (by omega) (by rw [List.length_map]; omega)]
      unfold getBlk
      rw [List.map_take, List.map_drop, Nat.add_sub_cancel_left]
    rw [e] at O2 ⊢
    exact k q _ _ _ hC0 hD O2
theorem ok_Far_change (T : Txt K mg) : FnOk P w K mg base CX0 1 (He.fAd K ("Far", some "change")) T.fd_Far_change ["self", "place", "number"] (spChange K 0) := by
  refine okOf T.F_Far_change sc_Far_change (fun vs H Q E h => ?_) (fun cdv A outer s H vs Q E hr h => ?_)
  · obtain ⟨_, _, _, _, _, _, _, _, rfl, _⟩ := h
    rfl
  · obtain ⟨be, di, p, v, t, C, D, R, rfl, hp, ht, hlb, hC, hD, O, k⟩ := h
    have ers : t.rs = [] := List.length_eq_zero_iff.mp ht.len
    rw [ers] at hC
    obtain ⟨la, rfl⟩ : ∃ la, be = .far la := by
      cases be with
      | far la => exact ⟨la, rfl⟩
      | room a be => exact hC.elim
    obtain ⟨dx, fl, rfl⟩ := hC
    refine ⟨_, (pss_one (ps_asg (pv 2) (pg_sub (pe_fld (pv 0) rfl) (pv 1) set_list))), ?_⟩
    have hf := ht.far
    refine ⟨_, rfl, _, rfl, la, cF K, dx, _, _, rfl, O.a0, T.cl_Far, T.na_Far_held, lk_Far_held, _, rfl, fl, _, _, p, rfl, rfl, O.a1, ?_, ?_⟩
    · rw [List.length_map, hf]
      unfold ixN
      rw [if_pos (by omega), if_pos (by omega), Int.toNat_natCast]
    · have O1 := (O.perm (L' := (fl, .lst (t.far.map V.int)) :: (la, .ins (cF K) dx (fFar (.ref fl))) :: (D ++ R)) (by walk_at "perm")).set (o' := .lst ((t.far.map V.int).set p (.int v)))
      refine k _ [(la, .ins (cF K) dx (fFar (.ref fl))), (fl, .lst ((t.far.set p v).map V.int))] D ?_ hD (O1.perm ?_)
      · show RepK K di (.far la) t.rs (t.far.set p v) _
        rw [ers]
        exact ⟨dx, fl, rfl⟩
      · rw [List.map_set]
        walk_at "perm"
theorem ok_Far_home (T : Txt K mg) : FnOk P w K mg base CX0 1 (He.fAd K ("Far", some "home")) T.fd_Far_home ["self", "block", "numbers"] (spHome K 0) := by
  refine okOf T.F_Far_home sc_Far_home (fun vs H Q E h => ?_) (fun cdv A outer s H vs Q E hr h => ?_)
  · obtain ⟨_, _, _, _, _, _, _, _, _, _, rfl, _⟩ := h
    rfl
  · obtain ⟨be, di, na, no, b, ns, t, C, D, R, rfl, hb, hn, hno, ht, hlb, hC, hD, O, k⟩ := h
    have ers : t.rs = [] := List.length_eq_zero_iff.mp ht.len
    rw [ers] at hC
    obtain ⟨la, rfl⟩ : ∃ la, be = .far la := by
      cases be with
      | far la => exact ⟨la, rfl⟩
      | room a be => exact hC.elim
    obtain ⟨dx, fl, rfl⟩ := hC
    have hf := ht.far
    refine ⟨_, (pss_one (ps_asg (pe_callTy call_list_of (by rfl) T.n_list (by decide +kernel) (pa_cons (pv 2) pa_nil)) (pg_slice (pe_fld (pv 0) rfl) (po_some (pe_op op_mul (pv 1) (pe_globI rfl T.g_BLOCK))) (po_some (pe_op op_add (pe_op op_mul (pv 1) (pe_globI rfl T.g_BLOCK)) (pe_globI rfl T.g_BLOCK)))))), ?_⟩
    refine ⟨_, rfl, na, _, rfl, hno.seq O.a0, fun q hq => ?_⟩
    have O1 := O.new (o := .lst (ns.map V.int)) hq
    refine ⟨_, rfl, la, cF K, dx, _, _, rfl, O1.a2, T.cl_Far, T.na_Far_held, lk_Far_held, _, rfl, _, _, rfl, rfl, .inr ⟨by decide, by decide⟩, _, rfl, _, rfl, _, _, rfl, rfl, .inr ⟨by decide, by decide⟩, _, _, rfl, rfl, _, rfl, fl, q, _, _, _, _, rfl, rfl, rfl, rfl, O1.a3, O1.a0, ?_, by omega, by omega, ?_, ?_, ?_⟩
    · have nd := O1.1
      simp only [List.map_cons, List.nodup_cons, List.mem_cons, not_or, List.cons_append, List.nil_append] at nd
      exact fun z => nd.1.2.2.1 z.symm
    · rw [List.length_map, hf]
      omega
    · rw [List.length_map, List.length_map, hf, hn]
      decide
    · have e1 : ((b : Int) * 4).toNat = b * 4 := by omega
      have e2 : ((b : Int) * 4 + 4).toNat = b * 4 + 4 := by omega
      rw [e1, e2]
      have O2 := (O1.perm (L' := (fl, .lst (t.far.map V.int)) :: (na, no) :: (la, .ins (cF K) dx (fFar (.ref fl))) :: (q, .lst (ns.map V.int)) :: (D ++ R)) (by walk_at "perm")).set (o' := .lst ((t.far.map V.int).take (b * 4) ++ ns.map V.int ++ (t.far.map V.int).drop (b * 4 + 4)))
      refine k _ [(la, .ins (cF K) dx (fFar (.ref fl))), (fl, .lst ((setBlk t.far b ns).map V.int))] D ?_ hD ?_
      · show RepK K di (.far la) t.rs (setBlk t.far b ns) _
        rw [ers]
        exact ⟨dx, fl, rfl⟩
      · have e3 : (t.far.map V.int).take (b * 4) ++ ns.map V.int ++ (t.far.map V.int).drop (b * 4 + 4) = (setBlk t.far b ns).map V.int := by
          unfold setBlk
          rw [List.map_append, List.map_append, List.map_take, List.map_drop]
        rw [e3] at O2 ⊢
        refine (O2.perm (L' := (q, .lst (ns.map V.int)) :: ((na, no) :: ([(la, .ins (cF K) dx (fFar (.ref fl))), (fl, .lst ((setBlk t.far b ns).map V.int))] ++ (D ++ R)))) ?_).tail
        walk_at "perm"
end
-- WwB
/-! ### cells of lines, sets, logs -/
theorem lns_mem {CL : Addr} : ∀ {ls : List LnA} {i : Nat} {l : LnA}, ls[i]? = some l → ∀ c ∈ lnC CL l, c ∈ lnsC CL ls
  | [], i, l, h, c, hc => by simp at h
  | a :: r, 0, l, h, c, hc => by
    have e : a = l := by simpa using h
    rw [e]
    exact List.mem_append_left _ hc
  | a :: r, i + 1, l, h, c, hc => List.mem_append_right _ (lns_mem (by simpa using h) c hc)
theorem lns_app (CL : Addr) : ∀ (ls r : List LnA), lnsC CL (ls ++ r) = lnsC CL ls ++ lnsC CL r
  | [], r => rfl
  | a :: ls, r => by
    show lnC CL a ++ lnsC CL (ls ++ r) = (lnC CL a ++ lnsC CL ls) ++ lnsC CL r
    rw [lns_app CL ls r, List.append_assoc]
theorem lns_focus {CL : Addr} : ∀ {ls : List LnA} {i : Nat} {l : LnA}, ls[i]? = some l → (lnsC CL ls).Perm (lnC CL l ++ lnsC CL (ls.eraseIdx i))
  | [], i, l, h => by simp at h
  | a :: r, 0, l, h => by
    have e : a = l := by simpa using h
    rw [e]
    exact List.Perm.refl _
  | a :: r, i + 1, l, h => by
    have ih := lns_focus (CL := CL) (ls := r) (i := i) (l := l) (by simpa using h)
    show (lnC CL a ++ lnsC CL r).Perm (lnC CL l ++ (lnC CL a ++ lnsC CL (r.eraseIdx i)))
    refine (List.Perm.append_left _ ih).trans ?_
    walk_at "perm"
theorem lns_set {CL : Addr} : ∀ {ls : List LnA} {i : Nat} {l : LnA}, i < ls.length → (lnsC CL (ls.set i l)).Perm (lnC CL l ++ lnsC CL (ls.eraseIdx i))
  | [], i, l, h => by simp at h
  | a :: r, 0, l, h => List.Perm.refl _
  | a :: r, i + 1, l, h => by
    have ih := lns_set (CL := CL) (ls := r) (i := i) (l := l) (by simpa using h)
    show (lnC CL a ++ lnsC CL (r.set i l)).Perm (lnC CL l ++ (lnC CL a ++ lnsC CL (r.eraseIdx i)))
    refine (List.Perm.append_left _ ih).trans ?_
    walk_at "perm"
theorem lns_touch {CL : Addr} {lt : Bool} {ls : List LnA} {i : Nat} (h : i < ls.length) : (lnsC CL (touchL lt ls i)).Perm (lnsC CL ls) := by
  unfold touchL
  split
  · rw [lns_app, List.getElem?_eq_getElem h]
    refine List.Perm.trans ?_ (lns_focus (List.getElem?_eq_getElem h)).symm
    show (lnsC CL (ls.eraseIdx i) ++ (lnC CL ls[i] ++ [])).Perm _
    walk_at "perm"
  · exact List.Perm.refl _
theorem sts_focus {CL : Addr} : ∀ {ss : List (Addr × List LnA)} {i : Nat} {s : Addr × List LnA}, ss[i]? = some s → (stsC CL ss).Perm (stC CL s ++ stsC CL (ss.eraseIdx i))
  | [], i, s, h => by simp at h
  | a :: r, 0, s, h => by
    have e : a = s := by simpa using h
    rw [e]
    exact List.Perm.refl _
  | a :: r, i + 1, s, h => by
    have ih := sts_focus (CL := CL) (ss := r) (i := i) (s := s) (by simpa using h)
    show (stC CL a ++ stsC CL r).Perm (stC CL s ++ (stC CL a ++ stsC CL (r.eraseIdx i)))
    refine (List.Perm.append_left _ ih).trans ?_
    walk_at "perm"
theorem sts_set {CL : Addr} : ∀ {ss : List (Addr × List LnA)} {i : Nat} {s : Addr × List LnA}, i < ss.length → (stsC CL (ss.set i s)).Perm (stC CL s ++ stsC CL (ss.eraseIdx i))
  | [], i, s, h => by simp at h
  | a :: r, 0, s, h => List.Perm.refl _
  | a :: r, i + 1, s, h => by
    have ih := sts_set (CL := CL) (ss := r) (i := i) (s := s) (by simpa using h)
    show (stC CL a ++ stsC CL (r.set i s)).Perm (stC CL s ++ (stC CL a ++ stsC CL (r.eraseIdx i)))
    refine (List.Perm.append_left _ ih).trans ?_
    walk_at "perm"
theorem log_app : ∀ {as : List Addr} {log : List Ent} (p : Addr) (e : Ent), as.length = log.length → logC (as ++ [p]) (log ++ [e]) = logC as log ++ [(p, .tup e.vs)]
  | [], [], p, e, _ => rfl
  | [], _ :: _, p, e, h => by simp at h
  | _ :: _, [], p, e, h => by simp at h
  | a :: as, x :: log, p, e, h => by
    show (a, HO.tup x.vs) :: logC (as ++ [p]) (log ++ [e]) = (a, HO.tup x.vs) :: (logC as log ++ [(p, .tup e.vs)])
    rw [log_app p e (by simpa using h)]
/-- a room seen at one block's set -/
theorem RmRep.at {CL CR di a : Addr} {be : Pa} {r : Rm} {C : List Cell} (h : RmRep CL CR di a be r C) (h0 : 0 < r.ss.length) (b : Nat) :
    ∃ (hd : Hd) (sa : Addr) (ls : List LnA) (Z : List Cell), hd.a = a ∧ hd.be = be ∧ hd.di = di ∧ hd.u = r.ru ∧ hd.sas.length = r.ss.length ∧ hd.sas[b % hd.sas.length]? = some sa ∧ ls.map (·.l) = r.ls b ∧ C.Perm (hdC CR hd ++ (stC CL (sa, ls) ++ Z)) ∧
      ∀ ls' : List LnA, ∃ C', RmRep CL CR di a be (r.put b (ls'.map (·.l))) C' ∧ C'.Perm (hdC CR hd ++ (stC CL (sa, ls') ++ Z)) := by
  obtain ⟨hd, ss, h1, h2, h3, h4, h5, h6, rfl⟩ := h
  have hlen : ss.length = r.ss.length := by rw [h6, List.length_map]
  have hk : b % ss.length < ss.length := Nat.mod_lt _ (by omega)
  have hg := List.getElem?_eq_getElem hk
  have ix : r.ix b = b % ss.length := by unfold Rm.ix; rw [hlen]
  refine ⟨hd, ss[b % ss.length].1, ss[b % ss.length].2, stsC CL (ss.eraseIdx (b % ss.length)), h1, h2, h3, h4, by rw [h5, List.length_map]; exact hlen, ?_, ?_, ?_, fun ls' => ⟨hdC CR hd ++ stsC CL (ss.set (b % ss.length) (ss[b % ss.length].1, ls')), ⟨hd, _, h1, h2, h3, h4, ?_, ?_, rfl⟩, List.Perm.append_left _ (sts_set hk)⟩⟩
  · rw [h5, List.length_map, List.getElem?_map, hg]
    rfl
  · unfold Rm.ls
    rw [ix, h6, List.getD_eq_getElem?_getD, List.getElem?_map, hg]
    rfl
  · exact List.Perm.append_left _ (sts_focus hg)
  · rw [List.map_set, h5]
    apply List.ext_getElem?
    intro i
    by_cases e : b % ss.length = i
    · rw [← e, List.getElem?_set_self (by rw [List.length_map]; exact hk), List.getElem?_map, hg]
      rfl
    · rw [List.getElem?_set_ne e]
  · unfold Rm.put
    dsimp only
    rw [ix, h6, List.map_set]
def LBk (n k : Nat) (t : Ta) : Prop := n ≤ 3 ∧ t.log.length + 200 * (n + 1) + k ≤ 1000000
theorem LBk.lb {n k : Nat} {t : Ta} (h : LBk n k t) : LB n t := ⟨h.1, by have := h.2; omega⟩
theorem LBk.le {n k j : Nat} {t t' : Ta} (h : LBk n k t) (hl : t'.log.length + j ≤ t.log.length + k) : LBk n j t' := ⟨h.1, by have := h.2; omega⟩
/-! ### promises of a room's own steps -/
def spLineInit (K : PySem.W.Frag) : Sp := fun vs H Q _ => ∃ (x dx na : Addr) (no : HO) (b : Nat) (ns : List Int) (R : List Cell), vs = [.ref x, .int b, .ref na] ∧ SqO no (ns.map V.int) ∧ Own H ((x, .ins (cL K) dx []) :: (na, no) :: R) ∧
  ∀ (q : Addr) (H' : Hp), Own H' (lnC (cL K) ⟨x, dx, q, ⟨b, ns, false⟩⟩ ++ ((na, no) :: R)) → Q .non H'
def spLinesOf (K : PySem.W.Frag) : Sp := fun vs H Q _ => ∃ (h : Hd) (b : Nat) (sa : Addr) (R : List Cell), vs = [.ref h.a, .int b] ∧ h.sas[b % h.sas.length]? = some sa ∧ Own H (hdC (cR K) h ++ R) ∧ Q (.ref sa) H
def spLineOf (K : PySem.W.Frag) : Sp := fun vs H Q _ => ∃ (h : Hd) (b : Nat) (sa : Addr) (ls : List LnA) (R : List Cell), vs = [.ref h.a, .int b] ∧ h.sas[b % h.sas.length]? = some sa ∧ Own H (hdC (cR K) h ++ (stC (cL K) (sa, ls) ++ R)) ∧
  (∀ (i : Nat) (l : LnA), fnd b (ls.map (·.l)) = some i → ls[i]? = some l → Q (.ref l.a) H) ∧ (fnd b (ls.map (·.l)) = none → Q .non H)
def spNote (K : PySem.W.Frag) : Sp := fun vs H Q _ => ∃ (h : Hd) (w : Str) (n : Nat) (log : List Ent) (D R : List Cell), vs = [.ref h.a, .str w, .int n] ∧ log.length < 1000000 ∧ h.u.tl.length ≤ 4 ∧ DRep h.di log D ∧ Own H (hdC (cR K) h ++ (D ++ R)) ∧
  ∀ (H' : Hp) (D' : List Cell), DRep h.di (log ++ [⟨h.u.tl, w, n⟩]) D' → Own H' (hdC (cR K) h ++ (D' ++ R)) → Q .non H'
def spPassHome (K : PySem.W.Frag) (n : Nat) : Sp := fun vs H Q _ => ∃ (h : Hd) (l : LnA) (t : Ta) (C D R : List Cell), vs = [.ref h.a, .ref l.a] ∧ LnOk l.l ∧ RuOk h.u ∧ TaOk n t ∧ LBk n 1 t ∧ RepK K h.di h.be t.rs t.far C ∧ DRep h.di t.log D ∧ Own H (hdC (cR K) h ++ (lnC (cL K) l ++ (C ++ (D ++ R)))) ∧
  ∀ (H' : Hp) (C' D' : List Cell), RepK K h.di h.be (passH (ops n) h.u.tl t l.l.b l.l.ns).rs (passH (ops n) h.u.tl t l.l.b l.l.ns).far C' → DRep h.di (passH (ops n) h.u.tl t l.l.b l.l.ns).log D' →
    Own H' (hdC (cR K) h ++ (lnC (cL K) { l with l := { l.l with d := false } } ++ (C' ++ (D' ++ R)))) → Q .non H'
def spPassCell (K : PySem.W.Frag) (n : Nat) : Sp := fun vs H Q _ => ∃ (h : Hd) (p : Nat) (v : Int) (t : Ta) (C D R : List Cell), vs = [.ref h.a, .int p, .int v] ∧ p < 64 ∧ RuOk h.u ∧ TaOk n t ∧ LBk n 1 t ∧ RepK K h.di h.be t.rs t.far C ∧ DRep h.di t.log D ∧ Own H (hdC (cR K) h ++ (C ++ (D ++ R))) ∧
  ∀ (H' : Hp) (C' D' : List Cell), RepK K h.di h.be (passC (ops n) h.u.tl t p v).rs (passC (ops n) h.u.tl t p v).far C' → DRep h.di (passC (ops n) h.u.tl t p v).log D' → Own H' (hdC (cR K) h ++ (C' ++ (D' ++ R))) → Q .non H'
def spMakeWay (K : PySem.W.Frag) (n : Nat) : Sp := fun vs H Q _ => ∃ (h : Hd) (b : Nat) (sa : Addr) (ls : List LnA) (t : Ta) (C D R : List Cell), vs = [.ref h.a, .int b] ∧ h.sas[b % h.sas.length]? = some sa ∧ RuOk h.u ∧ LsOk h.u (ls.map (·.l)) ∧ TaOk n t ∧ LBk n 1 t ∧ RepK K h.di h.be t.rs t.far C ∧ DRep h.di t.log D ∧ Own H (hdC (cR K) h ++ (stC (cL K) (sa, ls) ++ (C ++ (D ++ R)))) ∧
  ∀ (H' : Hp) (ls' : List LnA) (C' D' : List Cell), ls'.map (·.l) = (mkWay (ops n) h.u (ls.map (·.l)) t).1 → RepK K h.di h.be (mkWay (ops n) h.u (ls.map (·.l)) t).2.rs (mkWay (ops n) h.u (ls.map (·.l)) t).2.far C' → DRep h.di (mkWay (ops n) h.u (ls.map (·.l)) t).2.log D' →
    Own H' (hdC (cR K) h ++ (stC (cL K) (sa, ls') ++ (C' ++ (D' ++ R)))) → Q .non H'
def spTouch (K : PySem.W.Frag) : Sp := fun vs H Q _ => ∃ (h : Hd) (sa : Addr) (ls : List LnA) (i : Nat) (l : LnA) (R : List Cell), vs = [.ref h.a, .ref l.a] ∧ ls[i]? = some l ∧ h.sas[l.l.b % h.sas.length]? = some sa ∧ ls.length ≤ 4 ∧ Own H (hdC (cR K) h ++ (stC (cL K) (sa, ls) ++ R)) ∧
  ∀ H' : Hp, Own H' (hdC (cR K) h ++ (stC (cL K) (sa, touchL h.u.lt ls i) ++ R)) → Q .non H'
def spReach (K : PySem.W.Frag) (n : Nat) : Sp := fun vs H Q _ => ∃ (h : Hd) (b : Nat) (sa : Addr) (ls : List LnA) (t : Ta) (C D R : List Cell), vs = [.ref h.a, .int b] ∧ b < 16 ∧ h.sas[b % h.sas.length]? = some sa ∧ RuOk h.u ∧ LsOk h.u (ls.map (·.l)) ∧ TaOk n t ∧ LBk n 60 t ∧ RepK K h.di h.be t.rs t.far C ∧ DRep h.di t.log D ∧ Own H (hdC (cR K) h ++ (stC (cL K) (sa, ls) ++ (C ++ (D ++ R)))) ∧
  ∀ (H' : Hp) (ls' : List LnA) (l : LnA) (C' D' : List Cell), ls'.map (·.l) = (reachL (ops n) h.u (ls.map (·.l)) t b).1 → ls'[(reachL (ops n) h.u (ls.map (·.l)) t b).2.2]? = some l → RepK K h.di h.be (reachL (ops n) h.u (ls.map (·.l)) t b).2.1.rs (reachL (ops n) h.u (ls.map (·.l)) t b).2.1.far C' → DRep h.di (reachL (ops n) h.u (ls.map (·.l)) t b).2.1.log D' →
    Own H' (hdC (cR K) h ++ (stC (cL K) (sa, ls') ++ (C' ++ (D' ++ R)))) → Q (.ref l.a) H'
/-- what stands behind at depth n: its class and its three steps -/
structure Beh (P : Program) (w : World) (K : PySem.W.Frag) (mg : Str → Option Value) (base : Heap) (n lv : Nat) where
  C : Addr
  cl : Cls K C
  fh : Addr
  fb : Addr
  fc : Addr
  fdh : FuncData
  fdb : FuncData
  fdc : FuncData
  m_home : Meth K C "home" fh
  m_bring : Meth K C "bring" fb
  m_change : Meth K C "change" fc
  b_home : Binds K fdh ["self", "block", "numbers"] []
  b_bring : Binds K fdb ["self", "block"] []
  b_change : Binds K fdc ["self", "place", "number"] []
  G_home : FnOk P w K mg base CX0 lv fh fdh ["self", "block", "numbers"] (spHome K n)
  G_bring : FnOk P w K mg base CX0 lv fb fdb ["self", "block"] (spBring K n)
  G_change : FnOk P w K mg base CX0 lv fc fdc ["self", "place", "number"] (spChange K n)
  at_ : ∀ (di : Addr) (be : Pa) (t : Ta) (Z : List Cell), TaOk n t → RepK K di be t.rs t.far Z → ∃ dx fs, (be.ad, HO.ins C dx fs) ∈ Z ∧ fs.lookup ("home" : Str) = none ∧ fs.lookup ("bring" : Str) = none ∧ fs.lookup ("change" : Str) = none
section
variable {P : Program} {w : World} {K : PySem.W.Frag} {mg : Str → Option Value} {base : Heap} {n lv : Nat}
theorem ok_Line_init (T : Txt K mg) : FnOk P w K mg base CX0 1 (He.fAd K ("Line", some "__init__")) T.fd_Line___init__ ["self", "block", "numbers"] (spLineInit K) := by
  refine okOf T.F_Line___init__ sc_Line___init__ (fun vs H Q E h => ?_) (fun cdv A outer s H vs Q E hr h => ?_)
  · obtain ⟨_, _, _, _, _, _, _, rfl, _⟩ := h
    rfl
  · obtain ⟨x, dx, na, no, b, ns, R, rfl, hno, O, k⟩ := h
    refine ⟨_, (pss_cons (ps_fld (pv 0) (pv 1) rfl) (pss_cons (ps_fld (pv 0) (pe_callTy call_list_of (by rfl) T.n_list (by decide +kernel) (pa_cons (pv 2) pa_nil)) rfl) (pss_one (ps_fld (pv 0) pe_bl rfl)))), ?_⟩
    refine ⟨_, rfl, _, rfl, x, cL K, dx, [], rfl, O.a0, T.cl_Line, T.na_Line_block, by show 0 < 1000; decide, ?_⟩
    have O1 := O.set (o' := .ins (cL K) dx (putF "block" (.int b) []))
    generalize upd H x _ = H1 at O1 ⊢
    refine ⟨_, rfl, na, _, rfl, hno.seq O1.a1, fun q hq => ?_⟩
    have O2 := O1.new (o := .lst (ns.map V.int)) hq
    generalize upd H1 q _ = H2 at O2 ⊢
    refine ⟨_, rfl, x, cL K, dx, _, rfl, O2.a1, T.cl_Line, T.na_Line_numbers, by show 1 < 1000; decide, ?_⟩
    have O3 := (O2.perm (L' := (x, .ins (cL K) dx (putF "block" (.int b) [])) :: (q, .lst (ns.map V.int)) :: (na, no) :: R) (by walk_at "perm")).set (o' := .ins (cL K) dx (putF "numbers" (.ref q) (putF "block" (.int b) [])))
    generalize upd H2 x _ = H3 at O3 ⊢
    have e1 : putF "numbers" (.ref q) (putF "block" (.int b) []) = ([("block", V.int b), ("numbers", .ref q)] : List (Str × V)) := by
      show putF "numbers" (.ref q) ([("block", V.int b)] : List (Str × V)) = _
      rw [pf_tl ne_numbers_block]
      rfl
    rw [e1] at O3
    refine ⟨_, rfl, x, cL K, dx, _, rfl, O3.a0, T.cl_Line, T.na_Line_is_dirty, by show 2 < 1000; decide, ?_⟩
    have O4 := O3.set (o' := .ins (cL K) dx (putF "is_dirty" (.bl false) ([("block", V.int b), ("numbers", .ref q)] : List (Str × V))))
    have e2 : putF "is_dirty" (.bl false) ([("block", V.int b), ("numbers", .ref q)] : List (Str × V)) = fLine (.int b) (.ref q) (.bl false) := by
      rw [pf_tl ne_is_dirty_block, pf_tl ne_is_dirty_numbers]
      rfl
    rw [e2] at O4 ⊢
    exact k q _ O4
theorem ok_lines_of (T : Txt K mg) : FnOk P w K mg base CX0 1 (He.fAd K ("Room", some "lines_of")) T.fd_Room_lines_of ["self", "block"] (spLinesOf K) := by
  refine okOf T.F_Room_lines_of sc_Room_lines_of (fun vs H Q E h => ?_) (fun cdv A outer s H vs Q E hr h => ?_)
  · obtain ⟨_, _, _, _, rfl, _⟩ := h
    rfl
  · obtain ⟨h, b, sa, R, rfl, hix, O, k⟩ := h
    refine ⟨_, (pss_one (ps_ret (pe_ix ix_list (pe_fld (pv 0) rfl) (pe_op op_mod (pv 1) (pe_callB call_len_seq (by rfl) T.n_len PySem.boot_len (pa_cons (pe_fld (pv 0) rfl) pa_nil))) (fun _ _ => rfl)))), ?_⟩
    have hl : 0 < h.sas.length := by
      have := (List.getElem?_eq_some_iff.mp hix).1
      omega
    refine ⟨_, rfl, h.a, cR K, h.dx, _, _, rfl, O.a0, T.cl_Room, T.na_Room_sets, lk_Room_sets, _, rfl, _, rfl, h.a, cR K, h.dx, _, _, rfl, O.a0, T.cl_Room, T.na_Room_sets, lk_Room_sets, h.sl, _, rfl, .inl (SqL.of O.a1), _, _, rfl, rfl, ?_, h.sl, _, _, .ref sa, rfl, rfl, SqL.of O.a1, ?_, k⟩
    · rw [List.length_map]
      omega
    · have e : (b : Int) % (((h.sas.map V.ref).length : Nat) : Int) = ((b % h.sas.length : Nat) : Int) := by
        rw [List.length_map]
        rfl
      rw [e]
      refine atI_nat ?_
      rw [List.getElem?_map, hix]
      rfl
theorem ok_line_of (T : Txt K mg) : FnOk P w K mg base CX0 2 (He.fAd K ("Room", some "line_of")) T.fd_Room_line_of ["self", "block"] (spLineOf K) := by
  have G_Room_lines_of := ok_lines_of (P := P) (w := w) (base := base) T
  refine okOf T.F_Room_line_of sc_Room_line_of (fun vs H Q E h => ?_) (fun cdv A outer s H vs Q E hr h => ?_)
  · obtain ⟨_, _, _, _, _, rfl, _⟩ := h
    rfl
  · obtain ⟨h, b, sa, ls, R, rfl, hix, O, k1, k2⟩ := h
    refine ⟨_, (pss_cons (ps_for PassesOwn.never rfl (pi_list (pe_meth (pv 0) T.cl_Room T.m_Room_lines_of G_Room_lines_of (hr.mono (by omega)) T.b_Room_lines_of .nil pass0 (pa_cons (pv 1) pa_nil))) (pg_name (i := 2) sc_Room_line_of.nd rfl (Or.inl rfl)) (pss_one (ps_if (pt_cmpR op_eq (pe_fld (pv 2) rfl) (pv 1) (nomark _)) (pss_one (ps_ret (pv 2))) pss_nil))) (pss_one (ps_ret pe_non))), ?_⟩
    have hsa : H sa = some (.lst (ls.map fun l => V.ref l.a)) := O.a3
    refine ⟨_, rfl, h.a, h.dx, _, rfl, O.a0, no_Room_lines_of, _, rfl, h, b, sa, _, rfl, hix, O, sa, rfl, ⟨_, SqL.of hsa⟩, ?_⟩
    refine for_list (K := K) (a := sa) (xs := ls.map fun l => V.ref l.a) (fun i σ H' => H' = H ∧ (∃ v, σ = [some (.ref h.a), some (.int b), v]) ∧ ∀ (m : Nat) (l : LnA), m < i → ls[m]? = some l → l.l.b ≠ b)
      ⟨rfl, ⟨none, rfl⟩, fun m l hm => by omega⟩ (fun i σ H' _ ⟨e, _⟩ => by rw [e]; exact SqL.of hsa) ?_ ?_
    · rintro i x σ H' hi ⟨rfl, ⟨v, rfl⟩, hno⟩
      rw [List.getElem?_map] at hi
      cases hl : ls[i]? with
      | none =>
        rw [hl] at hi
        cases hi
      | some l =>
        rw [hl] at hi
        have ex : V.ref l.a = x := Option.some.inj hi
        subst ex
        have hO : H' l.a = some (.ins (cL K) l.dx (fLine (.int l.l.b) (.ref l.na) (.bl l.l.d))) := O.mem (List.mem_append_right _ (List.mem_append_left _ (List.mem_cons_of_mem _ (lns_mem hl _ List.mem_cons_self))))
        refine ⟨_, rfl, l.a, cL K, l.dx, _, _, rfl, hO, T.cl_Line, T.na_Line_block, lk_Line_block, _, rfl, rfl, _, rfl, ?_⟩
        refine ite2 (fun e => ?_) (fun e => ?_)
        · have eb : l.l.b = b := by
            have := of_decide_eq_true e
            injection this with z
            omega
          refine ⟨_, rfl, k1 i l ?_ hl⟩
          have key : ∀ (ls : List LnA) (i : Nat), ls[i]? = some l → (∀ (m : Nat) (l' : LnA), m < i → ls[m]? = some l' → l'.l.b ≠ b) → fnd b (ls.map (·.l)) = some i := by
            intro ls
            induction ls with
            | nil =>
              intro i hi
              simp at hi
            | cons a r ih =>
              intro i hi hno
              show (if a.l.b = b then some 0 else (fnd b (r.map (·.l))).map (· + 1)) = some i
              cases i with
              | zero =>
                have : a = l := by simpa using hi
                rw [this, if_pos eb]
              | succ i =>
                rw [if_neg (hno 0 a (by omega) rfl), ih i (by simpa using hi) fun m l' hm hl' => hno (m + 1) l' (by omega) (by simpa using hl')]
                rfl
          exact key ls i hl hno
        · refine ⟨rfl, ⟨_, rfl⟩, fun m l' hm hl' => ?_⟩
          by_cases em : m = i
          · rw [em, hl] at hl'
            cases hl'
            intro z
            exact e (decide_eq_true (by rw [z]))
          · exact hno m l' (by omega) hl'
    · rintro σ H' ⟨rfl, ⟨v, rfl⟩, hno⟩
      refine k2 ?_
      have key : ∀ ls : List LnA, (∀ (m : Nat) (l' : LnA), ls[m]? = some l' → l'.l.b ≠ b) → fnd b (ls.map (·.l)) = none := by
        intro ls
        induction ls with
        | nil =>
          intro _
          rfl
        | cons a r ih =>
          intro hno
          show (if a.l.b = b then some 0 else (fnd b (r.map (·.l))).map (· + 1)) = none
          rw [if_neg (hno 0 a rfl), ih fun m l' hl' => hno (m + 1) l' (by simpa using hl')]
          rfl
      exact key ls fun m l' hl' => hno m l' (by
        rw [List.length_map]
        exact (List.getElem?_eq_some_iff.mp hl').1) hl'
theorem ok_note (T : Txt K mg) : FnOk P w K mg base CX0 1 (He.fAd K ("Room", some "note")) T.fd_Room_note ["self", "word", "number"] (spNote K) := by
  refine okOf T.F_Room_note sc_Room_note (fun vs H Q E h => ?_) (fun cdv A outer s H vs Q E hr h => ?_)
  · obtain ⟨_, _, _, _, _, _, rfl, _⟩ := h
    rfl
  · obtain ⟨h, z, n, log, D, R, rfl, hlog, htl, ⟨as, has, rfl⟩, O, k⟩ := h
    refine ⟨_, (pss_one (ps_expr (pe_bm PySem.F.plainAttrs_list PySem.F.slot_list_append PySem.F.type_list_append mt_append (pe_fld (pv 0) rfl) (pa_cons (pe_op op_catA (pe_fld (pv 0) rfl) (pe_tup (pa_cons (pv 1) (pa_cons (pv 2) pa_nil)))) pa_nil)))), ?_⟩
    refine ⟨_, rfl, h.a, cR K, h.dx, _, _, rfl, O.a0, T.cl_Room, T.na_Room_diary, lk_Room_diary, .inl ⟨rfl, _, SqL.of O.a3⟩, _, rfl, h.a, cR K, h.dx, _, _, rfl, O.a0, T.cl_Room, T.na_Room_title, lk_Room_title, _, rfl, _, rfl, by show 2 ≤ sizeLine; decide, fun p hp => ?_⟩
    have O1 := O.new (o := .tup [.str z, .int n]) hp
    generalize upd H p _ = H1 at O1 ⊢
    have fin : ∀ (q : Addr) (H2 : Hp), Own H2 ((q, .tup (Ent.vs ⟨h.u.tl, z, n⟩)) :: (hdC (cR K) h ++ (((h.di, .lst (as.map V.ref)) :: logC as log) ++ R))) → rAppend (.ref h.di) [.ref q] H2 (fun _ H3 => Q .non H3) := by
      intro q H2 O2
      refine ⟨h.di, _, _, rfl, rfl, O2.a4, ?_, ?_⟩
      · rw [List.length_map, has]
        exact size1 (Nat.le_of_lt hlog)
      · have O3 := (O2.perm (L' := (h.di, .lst (as.map V.ref)) :: (hdC (cR K) h ++ (((q, .tup (Ent.vs ⟨h.u.tl, z, n⟩)) :: logC as log) ++ R))) (by walk_at "perm")).set (o' := .lst (as.map V.ref ++ [.ref q]))
        refine k _ ((h.di, .lst ((as ++ [q]).map V.ref)) :: logC (as ++ [q]) (log ++ [⟨h.u.tl, z, n⟩])) ⟨as ++ [q], by simp [has], rfl⟩ ?_
        rw [log_app _ _ has]
        simp only [List.map_append, List.map_cons, List.map_nil]
        exact O3.perm (by walk_at "perm")
    refine ⟨h.ti, p, _, _, rfl, rfl, SqT.of O1.a3, SqT.of O1.a0, by show h.u.tl.length + 2 ≤ sizeLine; exact size2 (by omega), fun e => ?_, (fun _ e => nomatch e), fun e _ q hq => ?_⟩
    · refine fin p H1 ?_
      have : Ent.vs ⟨h.u.tl, z, n⟩ = [.str z, .int n] := by
        unfold Ent.vs
        rw [e]
        rfl
      rw [this]
      exact O1
    · exact fin q _ (O1.tail.new hq)
theorem ok_pass_home (T : Txt K mg) (B : Beh P w K mg base n lv) (hv : 1 ≤ lv) : FnOk P w K mg base CX0 (lv + 1) (He.fAd K ("Room", some "pass_home")) T.fd_Room_pass_home ["self", "line"] (spPassHome K n) := by
  have G_Room_note := ok_note (P := P) (w := w) (base := base) T
  refine okOf T.F_Room_pass_home sc_Room_pass_home (fun vs H Q E h => ?_) (fun cdv A outer s H vs Q E hr h => ?_)
  · obtain ⟨_, _, _, _, _, _, rfl, _⟩ := h
    rfl
  · obtain ⟨h, l, t, C, D, R, rfl, hlo, hu, ht, hlb, hC, hD, O, k⟩ := h
    refine ⟨_, (pss_cons (ps_expr (pe_meth (pv 0) T.cl_Room T.m_Room_note G_Room_note (hr.mono (by omega)) T.b_Room_note .nil pass0 (pa_cons (pe_globS rfl T.g_HOME) (pa_cons (pe_fld (pv 1) rfl) pa_nil)))) (pss_cons (ps_expr (pe_meth (pe_fld (pv 0) rfl) B.cl B.m_home B.G_home (hr.mono (by omega)) B.b_home .nil pass0 (pa_cons (pe_fld (pv 1) rfl) (pa_cons (pe_fld (pv 1) rfl) pa_nil)))) (pss_one (ps_fld (pv 1) pe_bl rfl)))), ?_⟩
    have hl2 := hlb.2
    refine ⟨_, rfl, h.a, h.dx, _, rfl, O.a0, no_Room_note, _, rfl, l.a, cL K, l.dx, _, _, rfl, O.a3, T.cl_Line, T.na_Line_block, lk_Line_block, h, "home", l.l.b, t.log, D, lnC (cL K) l ++ (C ++ R), rfl, by omega, hu.t4, hD, O.perm (by walk_at "perm"), fun H1 D1 hD1 O1 => ?_⟩
    have ht1 := note_ok ht h.u.tl "home" l.l.b
    obtain ⟨dx, fs, hbe, nh, nb, nc⟩ := B.at_ h.di h.be (t.note h.u.tl "home" l.l.b) C ht1 hC
    have O2 := O1.perm (L' := (h.a, hdO (cR K) h) :: (l.a, .ins (cL K) l.dx (fLine (.int l.l.b) (.ref l.na) (.bl l.l.d))) :: (l.na, .lst (l.l.ns.map V.int)) :: (C ++ (D1 ++ ((h.sl, .lst (h.sas.map V.ref)) :: (h.ti, .tup h.u.tl) :: R)))) (by unfold hdC lnC; walk_at "perm")
    refine ⟨_, rfl, h.a, cR K, h.dx, _, _, rfl, O2.a0, T.cl_Room, T.na_Room_behind, lk_Room_behind, h.be.ad, dx, fs, rfl, O2.mem (by simp only [List.mem_cons, List.mem_append]; exact .inr (.inr (.inr (.inl hbe)))), nh, ?_⟩
    refine ⟨_, rfl, l.a, cL K, l.dx, _, _, rfl, O2.a1, T.cl_Line, T.na_Line_block, lk_Line_block, _, rfl, l.a, cL K, l.dx, _, _, rfl, O2.a1, T.cl_Line, T.na_Line_numbers, lk_Line_numbers, ?_⟩
    refine ⟨h.be, h.di, l.na, _, l.l.b, l.l.ns, t.note h.u.tl "home" l.l.b, C, D1, (h.a, hdO (cR K) h) :: (l.a, .ins (cL K) l.dx (fLine (.int l.l.b) (.ref l.na) (.bl l.l.d))) :: (h.sl, .lst (h.sas.map V.ref)) :: (h.ti, .tup h.u.tl) :: R, rfl, hlo.b, hlo.ns, .inl rfl, ht1, ⟨hlb.1, by rw [note_len]; omega⟩, hC, hD1, O2.perm (by walk_at "perm"), fun H3 C3 D3 hC3 hD3 O3 => ?_⟩
    have O4 := O3.perm (L' := (l.a, .ins (cL K) l.dx (fLine (.int l.l.b) (.ref l.na) (.bl l.l.d))) :: ((l.na, .lst (l.l.ns.map V.int)) :: (hdC (cR K) h ++ (C3 ++ (D3 ++ R))))) (by unfold hdC; walk_at "perm")
    refine ⟨_, rfl, l.a, cL K, l.dx, _, rfl, O4.a0, T.cl_Line, T.na_Line_is_dirty, by show 3 < 1000; decide, ?_⟩
    have O5 := O4.set (o' := .ins (cL K) l.dx (putF "is_dirty" (.bl false) (fLine (.int l.l.b) (.ref l.na) (.bl l.l.d))))
    rw [pf_Line_is_dirty] at O5 ⊢
    exact k _ C3 D3 hC3 hD3 (O5.perm (by unfold hdC lnC; walk_at "perm"))
theorem ok_pass_cell (T : Txt K mg) (B : Beh P w K mg base n lv) (hv : 1 ≤ lv) : FnOk P w K mg base CX0 (lv + 1) (He.fAd K ("Room", some "pass_cell")) T.fd_Room_pass_cell ["self", "place", "number"] (spPassCell K n) := by
  have G_Room_note := ok_note (P := P) (w := w) (base := base) T
  refine okOf T.F_Room_pass_cell sc_Room_pass_cell (fun vs H Q E h => ?_) (fun cdv A outer s H vs Q E hr h => ?_)
  · obtain ⟨_, _, _, _, _, _, _, rfl, _⟩ := h
    rfl
  · obtain ⟨h, p, v, t, C, D, R, rfl, hp, hu, ht, hlb, hC, hD, O, k⟩ := h
    refine ⟨_, (pss_cons (ps_expr (pe_meth (pv 0) T.cl_Room T.m_Room_note G_Room_note (hr.mono (by omega)) T.b_Room_note .nil pass0 (pa_cons (pe_globS rfl T.g_CELL) (pa_cons (pv 1) pa_nil)))) (pss_one (ps_expr (pe_meth (pe_fld (pv 0) rfl) B.cl B.m_change B.G_change (hr.mono (by omega)) B.b_change .nil pass0 (pa_cons (pv 1) (pa_cons (pv 2) pa_nil)))))), ?_⟩
    have hl2 := hlb.2
    refine ⟨_, rfl, h.a, h.dx, _, rfl, O.a0, no_Room_note, _, rfl, h, "cell", p, t.log, D, C ++ R, rfl, by omega, hu.t4, hD, O.perm (by walk_at "perm"), fun H1 D1 hD1 O1 => ?_⟩
    have ht1 := note_ok ht h.u.tl "cell" p
    obtain ⟨dx, fs, hbe, nh, nb, nc⟩ := B.at_ h.di h.be (t.note h.u.tl "cell" p) C ht1 hC
    have O2 := O1.perm (L' := (h.a, hdO (cR K) h) :: (C ++ (D1 ++ ((h.sl, .lst (h.sas.map V.ref)) :: (h.ti, .tup h.u.tl) :: R)))) (by unfold hdC; walk_at "perm")
    refine ⟨_, rfl, h.a, cR K, h.dx, _, _, rfl, O2.a0, T.cl_Room, T.na_Room_behind, lk_Room_behind, h.be.ad, dx, fs, rfl, O2.mem (by simp only [List.mem_cons, List.mem_append]; exact .inr (.inl hbe)), nc, _, rfl, _, rfl, ?_⟩
    refine ⟨h.be, h.di, p, v, t.note h.u.tl "cell" p, C, D1, hdC (cR K) h ++ R, rfl, hp, ht1, ⟨hlb.1, by rw [note_len]; omega⟩, hC, hD1, O2.perm (by unfold hdC; walk_at "perm"), fun H3 C3 D3 hC3 hD3 O3 => ?_⟩
    exact k _ C3 D3 hC3 hD3 (O3.perm (by walk_at "perm"))
end
-- WwC
theorem mkWay_full {o : Ops} {u : Ru} {l : Ln} {rest : List Ln} {t : Ta} (h : (l :: rest).length = u.ways) : mkWay o u (l :: rest) t = (rest, if l.d = true then passH o u.tl t l.b l.ns else t) := by
  unfold mkWay
  rw [if_pos h]
theorem mkWay_no {o : Ops} {u : Ru} {ls : List Ln} {t : Ta} (h : ¬ ls.length = u.ways) : mkWay o u ls t = (ls, t) := by
  unfold mkWay
  rw [if_neg h]
theorem lns_keys {CL : Addr} : ∀ ls : List LnA, (ls.map (·.a)).Sublist ((lnsC CL ls).map (·.1))
  | [] => List.Sublist.refl _
  | l :: r => by
    show (l.a :: r.map (·.a)).Sublist (l.a :: l.na :: (lnsC CL r).map (·.1))
    exact List.Sublist.cons_cons _ (List.Sublist.cons _ (lns_keys r))
theorem Own.lnsNd {H : Hp} {CL : Addr} {ls : List LnA} {L : List Cell} (h : Own H (lnsC CL ls ++ L)) : (ls.map (·.a)).Nodup := List.Nodup.sublist (lns_keys ls) h.left.1
theorem isN_ref (a : Addr) : decide (V.ref a = V.non) = false := decide_eq_false (by intro z; cases z)
theorem ite_notN {a : Addr} {A B : Prop} (h : A) : if (!decide (V.ref a = V.non)) = true then A else B := by
  rw [isN_ref]
  exact h
theorem ite_notN0 {A B : Prop} (h : B) : if (!decide (V.non = V.non)) = true then A else B := by
  rw [decide_eq_true rfl]
  exact h
theorem seqIx0 {n : Nat} (h : 0 < n) : seqIndex? 0 n = some 0 := (ixN_seq (by
  unfold ixN
  rw [if_pos (by decide), if_pos (by omega)]
  rfl)).1
section
variable {P : Program} {w : World} {K : PySem.W.Frag} {mg : Str → Option Value} {base : Heap} {n lv : Nat}
theorem ok_make_way (T : Txt K mg) (B : Beh P w K mg base n lv) (hv : 1 ≤ lv) : FnOk P w K mg base CX0 (lv + 2) (He.fAd K ("Room", some "make_way")) T.fd_Room_make_way ["self", "block"] (spMakeWay K n) := by
  have G_Room_lines_of := ok_lines_of (P := P) (w := w) (base := base) T
  have G_Room_pass_home := ok_pass_home T B hv
  refine okOf T.F_Room_make_way sc_Room_make_way (fun vs H Q E h => ?_) (fun cdv A outer s H vs Q E hr h => ?_)
  · obtain ⟨_, _, _, _, _, _, _, _, rfl, _⟩ := h
    rfl
  · obtain ⟨h, b, sa, ls, t, C, D, R, rfl, hix, hu, hls, ht, hlb, hC, hD, O, k⟩ := h
    refine ⟨_, (pss_cons (ps_set (i := 2) sc_Room_make_way.nd rfl (Or.inl rfl) (pe_meth (pv 0) T.cl_Room T.m_Room_lines_of G_Room_lines_of (hr.mono (by omega)) T.b_Room_lines_of .nil pass0 (pa_cons (pv 1) pa_nil))) (pss_one (ps_if (pt_cmpR op_eq (pe_callB call_len_seq (by rfl) T.n_len PySem.boot_len (pa_cons (pv 2) pa_nil)) (pe_fld (pv 0) rfl) (nomark _)) (pss_cons (ps_set (i := 3) sc_Room_make_way.nd rfl (Or.inl rfl) (pe_bm PySem.F.plainAttrs_list PySem.F.slot_list_pop PySem.F.type_list_pop mt_popAt (pv 2) (pa_cons pe_int pa_nil))) (pss_one (ps_if (pt_val (pe_fld (pv 3) rfl)) (pss_one (ps_expr (pe_meth (pv 0) T.cl_Room T.m_Room_pass_home G_Room_pass_home (hr.mono (by omega)) T.b_Room_pass_home .nil pass0 (pa_cons (pv 3) pa_nil)))) pss_nil))) pss_nil))), ?_⟩
    refine ⟨_, rfl, h.a, h.dx, _, rfl, O.a0, no_Room_lines_of, _, rfl, h, b, sa, _, rfl, hix, O, ?_⟩
    have hlen := hls.len
    rw [List.length_map] at hlen
    have hw0 := hu.w0
    have hsa : H sa = some (.lst (ls.map fun l => V.ref l.a)) := O.a3
    refine ⟨_, rfl, sa, _, rfl, .inl (SqL.of hsa), _, rfl, h.a, cR K, h.dx, _, _, rfl, O.a0, T.cl_Room, T.na_Room_ways, lk_Room_ways, rfl, _, rfl, ?_⟩
    refine ite2 (fun e => ?_) (fun e => ?_)
    · have el : ls.length = h.u.ways := by
        have := of_decide_eq_true e
        injection this with z
        rw [List.length_map] at z
        omega
      obtain ⟨l, rest, rfl⟩ : ∃ l rest, ls = l :: rest := by
        cases ls with
        | nil =>
          simp at el
          omega
        | cons l rest => exact ⟨l, rest, rfl⟩
      refine ⟨_, rfl, .inl ⟨rfl, _, SqL.of hsa⟩, sa, _, 0, 0, .ref l.a, rfl, rfl, hsa, by decide, by decide, seqIx0 (by simp), rfl, ?_⟩
      have O1 := (O.perm (L' := (sa, .lst ((l :: rest).map fun l => V.ref l.a)) :: (hdC (cR K) h ++ (lnC (cL K) l ++ (lnsC (cL K) rest ++ (C ++ (D ++ R)))))) (by
        show (hdC (cR K) h ++ (((sa, HO.lst ((l :: rest).map fun l => V.ref l.a)) :: (lnC (cL K) l ++ lnsC (cL K) rest)) ++ (C ++ (D ++ R)))).Perm _
        walk_at "perm")).set (o' := .lst (rest.map fun l => V.ref l.a))
      have em := mkWay_full (o := ops n) (u := h.u) (l := l.l) (rest := rest.map (·.l)) (t := t) (by rw [List.length_cons, List.length_map]; exact el)
      have k2 := fun H' C' D' => k H' rest C' D' (by show _ = (mkWay (ops n) h.u (l.l :: rest.map (·.l)) t).1; rw [em])
      have em2 : (mkWay (ops n) h.u ((l :: rest).map (·.l)) t).2 = if l.l.d = true then passH (ops n) h.u.tl t l.l.b l.l.ns else t := by
        show (mkWay (ops n) h.u (l.l :: rest.map (·.l)) t).2 = _
        rw [em]
      rw [em2] at k2
      show (fun _ => _) _
      refine ⟨_, rfl, l.a, cL K, l.dx, _, _, rfl, O1.a4, T.cl_Line, T.na_Line_is_dirty, lk_Line_is_dirty, _, rfl, ?_⟩
      cases hd : l.l.d with
      | true =>
        rw [hd, if_pos rfl] at k2
        refine iteT ⟨_, rfl, h.a, h.dx, _, rfl, O1.a1, no_Room_pass_home, _, rfl, h, l, t, C, D, (sa, .lst (rest.map fun l => V.ref l.a)) :: (lnsC (cL K) rest ++ R), rfl, hls.ok _ (by simp), hu, ht, hlb, hC, hD, O1.perm (by walk_at "perm"), fun H3 C3 D3 hC3 hD3 O3 => ?_⟩
        refine k2 _ C3 D3 hC3 hD3 (Own.right (L' := lnC (cL K) { l with l := { l.l with d := false } }) (O3.perm ?_))
        unfold stC
        walk_at "perm"
      | false =>
        rw [hd, if_neg Bool.false_ne_true] at k2
        refine iteF (k2 _ C D hC hD (Own.right (L' := lnC (cL K) l) (O1.perm ?_)))
        unfold stC
        walk_at "perm"
    · have el : ¬ (ls.map (·.l)).length = h.u.ways := fun z => e (decide_eq_true (by
        rw [List.length_map] at z
        rw [List.length_map, z]))
      have em := mkWay_no (o := ops n) (t := t) el
      have k2 := k H ls C D
      rw [em] at k2
      exact k2 rfl hC hD O
theorem ok_touch (T : Txt K mg) : FnOk P w K mg base CX0 2 (He.fAd K ("Room", some "touch")) T.fd_Room_touch ["self", "line"] (spTouch K) := by
  have G_Room_lines_of := ok_lines_of (P := P) (w := w) (base := base) T
  refine okOf T.F_Room_touch sc_Room_touch (fun vs H Q E h => ?_) (fun cdv A outer s H vs Q E hr h => ?_)
  · obtain ⟨_, _, _, _, _, _, rfl, _⟩ := h
    rfl
  · obtain ⟨h, sa, ls, i, l, R, rfl, hl, hix, h4, O, k⟩ := h
    refine ⟨_, (pss_one (ps_if (pt_val (pe_fld (pv 0) rfl)) (pss_cons (ps_set (i := 2) sc_Room_touch.nd rfl (Or.inl rfl) (pe_meth (pv 0) T.cl_Room T.m_Room_lines_of G_Room_lines_of (hr.mono (by omega)) T.b_Room_lines_of .nil pass0 (pa_cons (pe_fld (pv 1) rfl) pa_nil))) (pss_cons (ps_expr (pe_bm PySem.F.plainAttrs_list PySem.F.slot_list_remove PySem.F.type_list_remove (mt_removeO T.cmp_Line (hu_of hr)) (pv 2) (pa_cons (pv 1) pa_nil))) (pss_one (ps_expr (pe_bm PySem.F.plainAttrs_list PySem.F.slot_list_append PySem.F.type_list_append mt_append (pv 2) (pa_cons (pv 1) pa_nil)))))) pss_nil)), ?_⟩
    refine ⟨_, rfl, h.a, cR K, h.dx, _, _, rfl, O.a0, T.cl_Room, T.na_Room_is_late, lk_Room_is_late, _, rfl, ?_⟩
    have hi : i < ls.length := (List.getElem?_eq_some_iff.mp hl).1
    cases hlt : h.u.lt with
    | false =>
      refine iteF (k H ?_)
      unfold touchL
      rw [hlt, if_neg Bool.false_ne_true]
      exact O
    | true =>
      refine iteT ?_
      have hO : H l.a = some (.ins (cL K) l.dx (fLine (.int l.l.b) (.ref l.na) (.bl l.l.d))) := O.mem (List.mem_append_right _ (List.mem_append_left _ (List.mem_cons_of_mem _ (lns_mem hl _ List.mem_cons_self))))
      refine ⟨_, rfl, h.a, h.dx, _, rfl, O.a0, no_Room_lines_of, _, rfl, l.a, cL K, l.dx, _, _, rfl, hO, T.cl_Line, T.na_Line_block, lk_Line_block, h, l.l.b, sa, _, rfl, hix, O, ?_⟩
      have hsa : H sa = some (.lst ((ls.map (·.a)).map V.ref)) := by
        rw [List.map_map]
        exact O.a3
      have nd : (ls.map (·.a)).Nodup := Own.lnsNd (O.perm (L' := lnsC (cL K) ls ++ (hdC (cR K) h ++ ((sa, .lst (ls.map fun l => V.ref l.a)) :: R))) (by unfold stC; walk_at "perm"))
      have hg : (ls.map (·.a))[i]? = some l.a := by rw [List.getElem?_map, hl]; rfl
      refine ⟨_, rfl, .inl ⟨rfl, _, SqL.of hsa⟩, _, rfl, sa, ls.map (·.a), l.a, i, rfl, rfl, hsa, fun b hb => ?_, hg, fun m hm z => ?_, ?_⟩
      · obtain ⟨l', hl', rfl⟩ := List.mem_map.mp hb
        obtain ⟨j, hj, ej⟩ := List.mem_iff_getElem.mp hl'
        exact ⟨l'.dx, _, O.mem (List.mem_append_right _ (List.mem_append_left _ (List.mem_cons_of_mem _ (lns_mem (i := j) (by rw [List.getElem?_eq_getElem hj, ej]) _ List.mem_cons_self))))⟩
      · have := nd_ix nd z hg
        omega
      · have O1 := (O.perm (L' := (sa, .lst (ls.map fun l => V.ref l.a)) :: (hdC (cR K) h ++ (lnsC (cL K) ls ++ R))) (by unfold stC; walk_at "perm")).set (o' := .lst (((ls.map (·.a)).eraseIdx i).map V.ref))
        generalize upd H sa _ = H1 at O1 ⊢
        refine ⟨_, rfl, .inl ⟨rfl, _, SqL.of O1.a0⟩, _, rfl, sa, _, _, rfl, rfl, O1.a0, ?_, ?_⟩
        · rw [List.length_map]
          refine size1 (Nat.le_trans (List.length_eraseIdx_le ..) ?_)
          rw [List.length_map]
          omega
        · have O2 := O1.set (o' := .lst (((ls.map (·.a)).eraseIdx i).map V.ref ++ [.ref l.a]))
          have e : ((ls.map (·.a)).eraseIdx i).map V.ref ++ [.ref l.a] = (touchL h.u.lt ls i).map fun l => V.ref l.a := by
            unfold touchL
            rw [hlt, if_pos rfl, hl, erase_map, List.map_map, List.map_append]
            rfl
          rw [e] at O2 ⊢
          refine k _ (Own.perm (L := (sa, .lst ((touchL h.u.lt ls i).map fun l => V.ref l.a)) :: (hdC (cR K) h ++ (lnsC (cL K) (touchL h.u.lt ls i) ++ R))) (O2.perm ?_) (by unfold stC; walk_at "perm"))
          exact List.Perm.cons _ (List.Perm.append_left _ (List.Perm.append_right _ (lns_touch hi).symm))
theorem reachL_hit {o : Ops} {u : Ru} {ls : List Ln} {t : Ta} {b i : Nat} (e : fnd b ls = some i) : reachL o u ls t b = (touchL u.lt ls i, t, touchI u.lt ls i) := by
  unfold reachL
  rw [e]
theorem reachL_miss {o : Ops} {u : Ru} {ls : List Ln} {t : Ta} {b : Nat} (e : fnd b ls = none) : reachL o u ls t b = ((mkWay o u ls t).1 ++ [⟨b, (o.br ((mkWay o u ls t).2.note u.tl "bring" b) b).1, false⟩], (o.br ((mkWay o u ls t).2.note u.tl "bring" b) b).2, (mkWay o u ls t).1.length) := by
  unfold reachL
  rw [e]
theorem ok_reach (T : Txt K mg) (B : Beh P w K mg base n lv) (hv : 1 ≤ lv) : FnOk P w K mg base CX0 (lv + 3) (He.fAd K ("Room", some "reach")) T.fd_Room_reach ["self", "block"] (spReach K n) := by
  have G_Room_lines_of := ok_lines_of (P := P) (w := w) (base := base) T
  have G_Room_line_of := ok_line_of (P := P) (w := w) (base := base) T
  have G_Room_note := ok_note (P := P) (w := w) (base := base) T
  have G_Room_touch := ok_touch (P := P) (w := w) (base := base) T
  have G_Line___init__ := ok_Line_init (P := P) (w := w) (base := base) T
  have G_Room_make_way := ok_make_way T B hv
  refine okOf T.F_Room_reach sc_Room_reach (fun vs H Q E h => ?_) (fun cdv A outer s H vs Q E hr h => ?_)
  · obtain ⟨_, _, _, _, _, _, _, _, rfl, _⟩ := h
    rfl
  · obtain ⟨h, b, sa, ls, t, C, D, R, rfl, hb, hix, hu, hls, ht, hlb, hC, hD, O, k⟩ := h
    have hlen := hls.len
    have hw4 := hu.w4
    rw [List.length_map] at hlen
    have hg39 := gOf_le hlb.1
    refine ⟨_, (pss_cons (ps_set (i := 2) sc_Room_reach.nd rfl (Or.inl rfl) (pe_meth (pv 0) T.cl_Room T.m_Room_line_of G_Room_line_of (hr.mono (by omega)) T.b_Room_line_of .nil pass0 (pa_cons (pv 1) pa_nil))) (pss_cons (ps_if (pt_cmpR op_notN (pv 2) pe_non (nomark _)) (pss_cons (ps_expr (pe_meth (pv 0) T.cl_Room T.m_Room_touch G_Room_touch (hr.mono (by omega)) T.b_Room_touch .nil pass0 (pa_cons (pv 2) pa_nil))) (pss_one (ps_ret (pv 2)))) pss_nil) (pss_cons (ps_expr (pe_meth (pv 0) T.cl_Room T.m_Room_make_way G_Room_make_way (hr.mono (by omega)) T.b_Room_make_way .nil pass0 (pa_cons (pv 1) pa_nil))) (pss_cons (ps_expr (pe_meth (pv 0) T.cl_Room T.m_Room_note G_Room_note (hr.mono (by omega)) T.b_Room_note .nil pass0 (pa_cons (pe_globS rfl T.g_BRING) (pa_cons (pv 1) pa_nil)))) (pss_cons (ps_set (i := 2) sc_Room_reach.nd rfl (Or.inl rfl) (pe_make T.mk_Line G_Line___init__ (hr.mono (by omega)) rfl T.g_Line T.b_Line___init__ .nil pass0 (pa_cons (pv 1) (pa_cons (pe_meth (pe_fld (pv 0) rfl) B.cl B.m_bring B.G_bring (hr.mono (by omega)) B.b_bring .nil pass0 (pa_cons (pv 1) pa_nil)) pa_nil)))) (pss_cons (ps_expr (pe_bm PySem.F.plainAttrs_list PySem.F.slot_list_append PySem.F.type_list_append mt_append (pe_meth (pv 0) T.cl_Room T.m_Room_lines_of G_Room_lines_of (hr.mono (by omega)) T.b_Room_lines_of .nil pass0 (pa_cons (pv 1) pa_nil)) (pa_cons (pv 2) pa_nil))) (pss_one (ps_ret (pv 2))))))))), ?_⟩
    refine ⟨_, rfl, h.a, h.dx, _, rfl, O.a0, no_Room_line_of, _, rfl, h, b, sa, ls, C ++ (D ++ R), rfl, hix, O, fun i l hf hl => ?_, fun hf => ?_⟩
    · refine ⟨_, rfl, rfl, _, rfl, ite_notN ?_⟩
      have eb : l.l.b = b := by
        obtain ⟨l2, h2, h3, _⟩ := fnd_some hf
        rw [List.getElem?_map, hl] at h2
        have : l.l = l2 := Option.some.inj h2
        rw [this]
        exact h3
      have k2 := fun H' ls' l' => k H' ls' l' C D
      rw [reachL_hit hf] at k2
      have hi : i < ls.length := (List.getElem?_eq_some_iff.mp hl).1
      refine ⟨_, rfl, h.a, h.dx, _, rfl, O.a0, no_Room_touch, _, rfl, h, sa, ls, i, l, C ++ (D ++ R), rfl, hl, by rw [eb]; exact hix, by omega, O, fun H1 O1 => ⟨_, rfl, ?_⟩⟩
      refine k2 H1 (touchL h.u.lt ls i) l ?_ ?_ hC hD O1
      · rw [touch_map]
      · show (touchL h.u.lt ls i)[touchI h.u.lt (ls.map (·.l)) i]? = some l
        rw [touchI_map, touch_get hi, hl]
    · refine ⟨_, rfl, rfl, _, rfl, ite_notN0 ?_⟩
      refine ⟨_, rfl, h.a, h.dx, _, rfl, O.a0, no_Room_make_way, _, rfl, h, b, sa, ls, t, C, D, R, rfl, hix, hu, hls, ht, hlb.le (by omega), hC, hD, O, fun H1 ls1 C1 D1 hls1 hC1 hD1 O1 => ?_⟩
      obtain ⟨m1, m2, m3, m4⟩ := mkWay_ok (ops_ok n) hu hls ht
      have k2 := fun H' ls' l' C' D' => k H' ls' l' C' D'
      rw [reachL_miss hf] at k2
      generalize mkWay (ops n) h.u (ls.map (·.l)) t = mw at m1 m2 m3 m4 hls1 hC1 hD1 k2
      have hl2 := hlb.2
      refine ⟨_, rfl, h.a, h.dx, _, rfl, O1.a0, no_Room_note, _, rfl, h, "bring", b, mw.2.log, D1, stC (cL K) (sa, ls1) ++ (C1 ++ R), rfl, by omega, hu.t4, hD1, O1.perm (by walk_at "perm"), fun H2 D2 hD2 O2 => ?_⟩
      have ht2 := note_ok m2 h.u.tl "bring" b
      obtain ⟨dxb, fsb, hbe, nh, nb, nc⟩ := B.at_ h.di h.be (mw.2.note h.u.tl "bring" b) C1 ht2 hC1
      refine ⟨_, rfl, _, rfl, h.a, cR K, h.dx, _, _, rfl, O2.a0, T.cl_Room, T.na_Room_behind, lk_Room_behind, h.be.ad, dxb, fsb, rfl, O2.mem (by simp only [List.mem_append]; exact .inr (.inr (.inr (.inl hbe)))), nb, _, rfl, ?_⟩
      refine ⟨h.be, h.di, b, mw.2.note h.u.tl "bring" b, C1, D2, hdC (cR K) h ++ (stC (cL K) (sa, ls1) ++ R), rfl, hb, ht2, ⟨hlb.1, by rw [note_len]; omega⟩, hC1, hD2, O2.perm (by walk_at "perm"), fun p H3 C3 D3 hC3 hD3 O3 => ?_⟩
      intro x dx hx hdx hne
      have O4 := (O3.keepNew (o := .own x) hdx).new (p := x) (o := .ins (cL K) dx []) (by rw [upd_ne (Ne.symm hne)]; exact hx)
      refine ⟨x, dx, p, _, b, _, _, rfl, .inr rfl, O4, fun q H5 O5 => ⟨rfl, ?_⟩⟩
      have O6 := O5.perm (L' := hdC (cR K) h ++ ((sa, .lst (ls1.map fun l => V.ref l.a)) :: (lnsC (cL K) ls1 ++ (lnC (cL K) ⟨x, dx, q, ⟨b, ((ops n).br (mw.2.note h.u.tl "bring" b) b).1, false⟩⟩ ++ (C3 ++ (D3 ++ ((p, .tup (((ops n).br (mw.2.note h.u.tl "bring" b) b).1.map V.int)) :: R))))))) (by unfold stC; walk_at "perm")
      have hl1 : ls1.length = mw.1.length := by rw [← hls1, List.length_map]
      refine ⟨_, rfl, h.a, h.dx, _, rfl, O6.a0, no_Room_lines_of, _, rfl, h, b, sa, _, rfl, hix, O6, .inl ⟨rfl, _, SqL.of O6.a3⟩, _, rfl, sa, _, _, rfl, rfl, O6.a3, ?_, ?_⟩
      · rw [List.length_map]
        exact size1 (by omega)
      · have O7 := (O6.perm (L' := (sa, .lst (ls1.map fun l => V.ref l.a)) :: (hdC (cR K) h ++ (lnsC (cL K) ls1 ++ (lnC (cL K) ⟨x, dx, q, ⟨b, ((ops n).br (mw.2.note h.u.tl "bring" b) b).1, false⟩⟩ ++ (C3 ++ (D3 ++ ((p, .tup (((ops n).br (mw.2.note h.u.tl "bring" b) b).1.map V.int)) :: R))))))) (by walk_at "perm")).set (o' := .lst (ls1.map (fun l => V.ref l.a) ++ [.ref x]))
        refine ⟨_, rfl, ?_⟩
        refine k2 _ (ls1 ++ [⟨x, dx, q, ⟨b, ((ops n).br (mw.2.note h.u.tl "bring" b) b).1, false⟩⟩]) ⟨x, dx, q, ⟨b, ((ops n).br (mw.2.note h.u.tl "bring" b) b).1, false⟩⟩ C3 D3 ?_ ?_ hC3 hD3 ?_
        · rw [List.map_append, hls1]
          rfl
        · rw [← hl1, List.getElem?_append_right (Nat.le_refl _), Nat.sub_self]
          rfl
        · refine Own.right (L' := [(p, .tup (((ops n).br (mw.2.note h.u.tl "bring" b) b).1.map V.int))]) (O7.perm ?_)
          unfold stC
          dsimp only
          rw [lns_app, List.map_append]
          simp only [lnsC, List.map_cons, List.map_nil]
          walk_at "perm"
end
-- WwD
/-! ### promises of a room as a whole: C1 the room's cells, C those behind, D the diary's -/
def spBlockOf : Sp := fun vs H Q _ => ∃ p : Nat, vs = [.int p] ∧ Q (.int ((p / 4 : Nat) : Int)) H
def RPre (K : PySem.W.Frag) (n : Nat) (H : Hp) (di a : Addr) (be : Pa) (r : Rm) (t : Ta) (C1 C D R : List Cell) : Prop :=
  RmOk r ∧ TaOk n t ∧ LBk n 200 t ∧ RmRepK K di a be r C1 ∧ RepK K di be t.rs t.far C ∧ DRep di t.log D ∧ Own H (C1 ++ (C ++ (D ++ R)))
def RPost (K : PySem.W.Frag) (di a : Addr) (be : Pa) (R : List Cell) (r : Rm) (t : Ta) (H' : Hp) : Prop :=
  ∃ C1 C D : List Cell, RmRepK K di a be r C1 ∧ RepK K di be t.rs t.far C ∧ DRep di t.log D ∧ Own H' (C1 ++ (C ++ (D ++ R)))
def spRBring (K : PySem.W.Frag) (n : Nat) : Sp := fun vs H Q _ => ∃ (a : Addr) (be : Pa) (di : Addr) (b : Nat) (r : Rm) (t : Ta) (C1 C D R : List Cell), vs = [.ref a, .int b] ∧ b < 16 ∧ RPre K n H di a be r t C1 C D R ∧
  ∀ (p : Addr) (H' : Hp), RPost K di a be ((p, .tup ((bringL (ops n) r.ru (r.ls b) t b).1.map V.int)) :: R) (r.put b (bringL (ops n) r.ru (r.ls b) t b).2.1) (bringL (ops n) r.ru (r.ls b) t b).2.2 H' → Q (.ref p) H'
def spRLook (K : PySem.W.Frag) (n : Nat) : Sp := fun vs H Q _ => ∃ (a : Addr) (be : Pa) (di : Addr) (p : Nat) (r : Rm) (t : Ta) (C1 C D R : List Cell), vs = [.ref a, .int p] ∧ p < 64 ∧ RPre K n H di a be r t C1 C D R ∧
  ∀ H' : Hp, RPost K di a be R (r.put (p / 4) (lookL (ops n) r.ru (r.ls (p / 4)) t p).2.1) (lookL (ops n) r.ru (r.ls (p / 4)) t p).2.2 H' → Q (.int (lookL (ops n) r.ru (r.ls (p / 4)) t p).1) H'
def spRChange (K : PySem.W.Frag) (n : Nat) : Sp := fun vs H Q _ => ∃ (a : Addr) (be : Pa) (di : Addr) (p : Nat) (v : Int) (r : Rm) (t : Ta) (C1 C D R : List Cell), vs = [.ref a, .int p, .int v] ∧ p < 64 ∧ RPre K n H di a be r t C1 C D R ∧
  ∀ H' : Hp, RPost K di a be R (r.put (p / 4) (changeL (ops n) r.ru (r.ls (p / 4)) t p v).1) (changeL (ops n) r.ru (r.ls (p / 4)) t p v).2 H' → Q .non H'
def spRHome (K : PySem.W.Frag) (n : Nat) : Sp := fun vs H Q _ => ∃ (a : Addr) (be : Pa) (di na : Addr) (no : HO) (b : Nat) (ns : List Int) (r : Rm) (t : Ta) (C1 C D R : List Cell), vs = [.ref a, .int b, .ref na] ∧ b < 16 ∧ ns.length = 4 ∧ SqO no (ns.map V.int) ∧ RPre K n H di a be r t C1 C D ((na, no) :: R) ∧
  ∀ H' : Hp, RPost K di a be ((na, no) :: R) (r.put b (homeL (ops n) r.ru (r.ls b) t b ns).1) (homeL (ops n) r.ru (r.ls b) t b ns).2 H' → Q .non H'
def spRYield (K : PySem.W.Frag) (n : Nat) : Sp := fun vs H Q _ => ∃ (a : Addr) (be : Pa) (di : Addr) (b : Nat) (g : Bool) (r : Rm) (t : Ta) (C1 C D R : List Cell), vs = [.ref a, .int b, .bl g] ∧ b < 16 ∧ RPre K n H di a be r t C1 C D R ∧
  ∀ H' : Hp, RPost K di a be R (r.put b (yieldL (ops n) r.ru (r.ls b) t b g).1) (yieldL (ops n) r.ru (r.ls b) t b g).2 H' → Q .non H'
section
variable {P : Program} {w : World} {K : PySem.W.Frag} {mg : Str → Option Value} {base : Heap} {n lv : Nat}
theorem ok_block_of (T : Txt K mg) : FnOk P w K mg base CX0 1 (He.fAd K ("block_of", none)) T.fd_block_of ["place"] spBlockOf := by
  refine okOf T.F_block_of sc_block_of (fun vs H Q E h => ?_) (fun cdv A outer s H vs Q E hr h => ?_)
  · obtain ⟨_, rfl, _⟩ := h
    rfl
  · obtain ⟨p, rfl, k⟩ := h
    refine ⟨_, (pss_one (ps_ret (pe_op op_fdiv (pv 0) (pe_globI rfl T.g_BLOCK)))), ?_⟩
    refine ⟨_, rfl, _, _, rfl, rfl, ⟨by decide, by decide⟩, ?_⟩
    have e : (p : Int) / 4 = ((p / 4 : Nat) : Int) := by omega
    show Q (.int ((p : Int) / 4)) H
    rw [e]
    exact k
/-- a room opened at a block's set -/
theorem RPre.open {H : Hp} {di a : Addr} {be : Pa} {r : Rm} {t : Ta} {C1 C D R : List Cell} (h : RPre K n H di a be r t C1 C D R) (b : Nat) :
    ∃ (hd : Hd) (sa : Addr) (ls : List LnA) (Z : List Cell), hd.a = a ∧ hd.be = be ∧ hd.di = di ∧ hd.u = r.ru ∧ hd.sas[b % hd.sas.length]? = some sa ∧ ls.map (·.l) = r.ls b ∧ RuOk hd.u ∧ LsOk hd.u (ls.map (·.l)) ∧ TaOk n t ∧ LBk n 200 t ∧ RepK K di be t.rs t.far C ∧ DRep di t.log D ∧
      Own H (hdC (cR K) hd ++ (stC (cL K) (sa, ls) ++ (C ++ (D ++ (Z ++ R))))) ∧
      ∀ (ls' : List LnA) (t' : Ta) (C' D' R' : List Cell) (H' : Hp), RepK K di be t'.rs t'.far C' → DRep di t'.log D' → Own H' (hdC (cR K) hd ++ (stC (cL K) (sa, ls') ++ (C' ++ (D' ++ (Z ++ R'))))) → RPost K di a be R' (r.put b (ls'.map (·.l))) t' H' := by
  obtain ⟨hr, ht, hlb, h1, hC, hD, O⟩ := h
  obtain ⟨hd, sa, ls, Z, e1, e2, e3, e4, e5, hix, els, hp, hback⟩ := h1.at hr.s0 b
  refine ⟨hd, sa, ls, Z, e1, e2, e3, e4, hix, els, by rw [e4]; exact hr.ru, by rw [e4, els]; exact hr.ls b, ht, hlb, hC, hD, O.perm ?_, fun ls' t' C' D' R' H' hC' hD' O' => ?_⟩
  · refine (List.Perm.append_right _ hp).trans ?_
    walk_at "perm"
  · obtain ⟨C1', h1', hp'⟩ := hback ls'
    refine ⟨C1', C', D', h1', hC', hD', O'.perm ?_⟩
    refine List.Perm.trans ?_ (List.Perm.append_right _ hp').symm
    walk_at "perm"
theorem ok_R_bring (T : Txt K mg) (B : Beh P w K mg base n lv) (hv : 1 ≤ lv) : FnOk P w K mg base CX0 (lv + 4) (He.fAd K ("Room", some "bring")) T.fd_Room_bring ["self", "block"] (spRBring K n) := by
  have G_Room_reach := ok_reach T B hv
  refine okOf T.F_Room_bring sc_Room_bring (fun vs H Q E h => ?_) (fun cdv A outer s H vs Q E hr h => ?_)
  · obtain ⟨_, _, _, _, _, _, _, _, _, _, rfl, _⟩ := h
    rfl
  · obtain ⟨a, be, di, b, r, t, C1, C, D, R, rfl, hb, hpre, k⟩ := h
    obtain ⟨hd, sa, ls, Z, rfl, rfl, rfl, eu, hix, els, hu, hls, ht, hlb, hC, hD, O, hback⟩ := hpre.open b
    rw [← eu, ← els] at k
    refine ⟨_, (pss_one (ps_ret (pe_callTy call_tuple_of (by rfl) T.n_tuple (by decide +kernel) (pa_cons (pe_fld (pe_meth (pv 0) T.cl_Room T.m_Room_reach G_Room_reach (hr.mono (by omega)) T.b_Room_reach .nil pass0 (pa_cons (pv 1) pa_nil)) rfl) pa_nil)))), ?_⟩
    refine ⟨_, rfl, hd.a, hd.dx, _, rfl, O.a0, no_Room_reach, _, rfl, hd, b, sa, ls, t, C, D, Z ++ R, rfl, hb, hix, hu, hls, ht, hlb.le (by omega), hC, hD, O, fun H1 ls1 l C1' D1 hls1 hl1 hC1 hD1 O1 => ?_⟩
    have hm := fun c hc => O1.mem (List.mem_append_right _ (List.mem_append_left _ (List.mem_cons_of_mem _ (lns_mem hl1 c hc))))
    have h1 : H1 l.a = some (.ins (cL K) l.dx (fLine (.int l.l.b) (.ref l.na) (.bl l.l.d))) := hm (_, _) List.mem_cons_self
    have h2 : H1 l.na = some (.lst (l.l.ns.map V.int)) := hm (_, _) (List.mem_cons_of_mem _ List.mem_cons_self)
    refine ⟨l.a, cL K, l.dx, _, _, rfl, h1, T.cl_Line, T.na_Line_numbers, lk_Line_numbers, l.na, _, rfl, .inl ⟨SqL.of h2, fun q hq => ?_⟩⟩
    have O2 := O1.new (o := .tup (l.l.ns.map V.int)) hq
    have e : (bringL (ops n) hd.u (ls.map (·.l)) t b).1 = l.l.ns := by
      unfold bringL
      dsimp only
      rw [lnAt_get (l := l.l)]
      rw [← hls1, List.getElem?_map, hl1]
      rfl
    have k2 := k q (upd H1 q (.tup (l.l.ns.map V.int)))
    rw [e] at k2
    refine k2 ?_
    show RPost K hd.di hd.a hd.be _ (r.put b (reachL (ops n) hd.u (ls.map (·.l)) t b).1) _ _
    rw [← hls1]
    exact hback ls1 _ C1' D1 _ _ hC1 hD1 (O2.perm (by walk_at "perm"))
theorem ok_R_look (T : Txt K mg) (B : Beh P w K mg base n lv) (hv : 1 ≤ lv) : FnOk P w K mg base CX0 (lv + 4) (He.fAd K ("Room", some "look")) T.fd_Room_look ["self", "place"] (spRLook K n) := by
  have G_Room_reach := ok_reach T B hv
  have G_block_of := ok_block_of (P := P) (w := w) (base := base) T
  refine okOf T.F_Room_look sc_Room_look (fun vs H Q E h => ?_) (fun cdv A outer s H vs Q E hr h => ?_)
  · obtain ⟨_, _, _, _, _, _, _, _, _, _, rfl, _⟩ := h
    rfl
  · obtain ⟨a, be, di, p, r, t, C1, C, D, R, rfl, hp, hpre, k⟩ := h
    obtain ⟨hd, sa, ls, Z, rfl, rfl, rfl, eu, hix, els, hu, hls, ht, hlb, hC, hD, O, hback⟩ := hpre.open (p / 4)
    rw [← eu, ← els] at k
    have hb : p / 4 < 16 := by omega
    refine ⟨_, (pss_one (ps_ret (pe_ix ix_list (pe_fld (pe_meth (pv 0) T.cl_Room T.m_Room_reach G_Room_reach (hr.mono (by omega)) T.b_Room_reach .nil pass0 (pa_cons (pe_call G_block_of (hr.mono (by omega)) rfl T.g_block_of T.k_block_of T.b_block_of .nil pass0 (pa_cons (pv 1) pa_nil)) pa_nil)) rfl) (pe_op op_mod (pv 1) (pe_globI rfl T.g_BLOCK)) (fun _ _ => rfl)))), ?_⟩
    refine ⟨_, rfl, hd.a, hd.dx, _, rfl, O.a0, no_Room_reach, _, rfl, p, rfl, hd, p / 4, sa, ls, t, C, D, Z ++ R, rfl, hb, hix, hu, hls, ht, hlb.le (by omega), hC, hD, O, fun H1 ls1 l C1' D1 hls1 hl1 hC1 hD1 O1 => ?_⟩
    have hm := fun c hc => O1.mem (List.mem_append_right _ (List.mem_append_left _ (List.mem_cons_of_mem _ (lns_mem hl1 c hc))))
    have h1 : H1 l.a = some (.ins (cL K) l.dx (fLine (.int l.l.b) (.ref l.na) (.bl l.l.d))) := hm (_, _) List.mem_cons_self
    have h2 : H1 l.na = some (.lst (l.l.ns.map V.int)) := hm (_, _) (List.mem_cons_of_mem _ List.mem_cons_self)
    obtain ⟨_, _, ⟨l2, hl2, _, hlo⟩, _⟩ := reachL_ok (ops_ok n) hu hls ht hb
    have el2 : l2 = l.l := by
      rw [← hls1, List.getElem?_map, hl1] at hl2
      exact (Option.some.inj hl2).symm
    subst el2
    have h4 := hlo.ns
    have hpl : p % 4 < l.l.ns.length := by omega
    refine ⟨l.a, cL K, l.dx, _, _, rfl, h1, T.cl_Line, T.na_Line_numbers, lk_Line_numbers, _, rfl, _, _, rfl, rfl, (by show (0 : Int) < 4; decide), l.na, _, _, .int (l.l.ns.getD (p % 4) 0), rfl, rfl, SqL.of h2, ?_, ?_⟩
    · have e : (p : Int) % 4 = ((p % 4 : Nat) : Int) := by omega
      rw [e]
      refine atI_nat ?_
      rw [List.getElem?_map, List.getD_eq_getElem?_getD, List.getElem?_eq_getElem hpl]
      rfl
    · have e : (lookL (ops n) hd.u (ls.map (·.l)) t p).1 = l.l.ns.getD (p % 4) 0 := by
        unfold lookL
        dsimp only
        rw [lnAt_get hl2]
      have k2 := k H1
      rw [e] at k2
      refine k2 ?_
      show RPost K hd.di hd.a hd.be R (r.put (p / 4) (reachL (ops n) hd.u (ls.map (·.l)) t (p / 4)).1) _ _
      rw [← hls1]
      exact hback ls1 _ C1' D1 _ _ hC1 hD1 O1
theorem isN_ite {a : Addr} {A B : Prop} (h : B) : if (decide (V.ref a = V.non)) = true then A else B := by
  rw [isN_ref]
  exact h
theorem isN_ite0 {A B : Prop} (h : A) : if (decide (V.non = V.non)) = true then A else B := by
  rw [decide_eq_true rfl]
  exact h
theorem changeL_by {o : Ops} {u : Ru} {ls : List Ln} {t : Ta} {p : Nat} {v : Int} (h1 : u.inn = false) (h2 : fnd (p / 4) ls = none) : changeL o u ls t p v = (ls, passC o u.tl t p v) := by
  unfold changeL
  rw [if_pos ⟨h1, h2⟩]
theorem changeL_in {o : Ops} {u : Ru} {ls : List Ln} {t : Ta} {p : Nat} {v : Int} (h : ¬ (u.inn = false ∧ fnd (p / 4) ls = none)) : changeL o u ls t p v =
    ((reachL o u ls t (p / 4)).1.set (reachL o u ls t (p / 4)).2.2 (setCell u.bk (lnAt (reachL o u ls t (p / 4)).1 (reachL o u ls t (p / 4)).2.2) p v),
      if u.bk = true then (reachL o u ls t (p / 4)).2.1 else passC o u.tl (reachL o u ls t (p / 4)).2.1 p v) := by
  unfold changeL
  rw [if_neg h]
theorem ok_R_change (T : Txt K mg) (B : Beh P w K mg base n lv) (hv : 1 ≤ lv) : FnOk P w K mg base CX0 (lv + 4) (He.fAd K ("Room", some "change")) T.fd_Room_change ["self", "place", "number"] (spRChange K n) := by
  have G_Room_reach := ok_reach T B hv
  have G_block_of := ok_block_of (P := P) (w := w) (base := base) T
  have G_Room_line_of := ok_line_of (P := P) (w := w) (base := base) T
  have G_Room_pass_cell := ok_pass_cell T B hv
  refine okOf T.F_Room_change sc_Room_change (fun vs H Q E h => ?_) (fun cdv A outer s H vs Q E hr h => ?_)
  · obtain ⟨_, _, _, _, _, _, _, _, _, _, _, rfl, _⟩ := h
    rfl
  · obtain ⟨a, be, di, p, v, r, t, C1, C, D, R, rfl, hp, hpre, k⟩ := h
    obtain ⟨hd, sa, ls, Z, rfl, rfl, rfl, eu, hix, els, hu, hls, ht, hlb, hC, hD, O, hback⟩ := hpre.open (p / 4)
    rw [← eu, ← els] at k
    have hb : p / 4 < 16 := by omega
    have hg39 := gOf_le hlb.1
    refine ⟨_, (pss_cons (ps_if (PW.pt (pw_and (pt_not (pt_val (pe_fld (pv 0) rfl))) (pw_and1 (pt_cmpR op_isN (pe_meth (pv 0) T.cl_Room T.m_Room_line_of G_Room_line_of (hr.mono (by omega)) T.b_Room_line_of .nil pass0 (pa_cons (pe_call G_block_of (hr.mono (by omega)) rfl T.g_block_of T.k_block_of T.b_block_of .nil pass0 (pa_cons (pv 1) pa_nil)) pa_nil)) pe_non (nomark _))))) (pss_cons (ps_expr (pe_meth (pv 0) T.cl_Room T.m_Room_pass_cell G_Room_pass_cell (hr.mono (by omega)) T.b_Room_pass_cell .nil pass0 (pa_cons (pv 1) (pa_cons (pv 2) pa_nil)))) (pss_one ps_retN)) pss_nil) (pss_cons (ps_set (i := 3) sc_Room_change.nd rfl (Or.inl rfl) (pe_meth (pv 0) T.cl_Room T.m_Room_reach G_Room_reach (hr.mono (by omega)) T.b_Room_reach .nil pass0 (pa_cons (pe_call G_block_of (hr.mono (by omega)) rfl T.g_block_of T.k_block_of T.b_block_of .nil pass0 (pa_cons (pv 1) pa_nil)) pa_nil))) (pss_cons (ps_asg (pv 2) (pg_sub (pe_fld (pv 3) rfl) (pe_op op_mod (pv 1) (pe_globI rfl T.g_BLOCK)) set_list)) (pss_one (ps_if (pt_val (pe_fld (pv 0) rfl)) (pss_one (ps_fld (pv 3) pe_bl rfl)) (pss_one (ps_expr (pe_meth (pv 0) T.cl_Room T.m_Room_pass_cell G_Room_pass_cell (hr.mono (by omega)) T.b_Room_pass_cell .nil pass0 (pa_cons (pv 1) (pa_cons (pv 2) pa_nil)))))))))), ?_⟩
    refine ⟨_, rfl, hd.a, cR K, hd.dx, _, _, rfl, O.a0, T.cl_Room, T.na_Room_is_in, lk_Room_is_in, _, rfl, ?_⟩
    -- the other way: the block is reached
    have main : ¬ (hd.u.inn = false ∧ fnd (p / 4) (ls.map (·.l)) = none) → tSeq (tAsg (tMeth (cR K) "reach" (spReach K n) [] E0 (tVar 0) (tCons (tCall spBlockOf [] E0 (tCons (tVar 1) tNil)) tNil)) (gName 3))
        (tSeq (tAsg (tVar 2) (gSub (tFld K (tVar 3) "numbers") (tOp (rI (fun _ j => 0 < j) fun i j => .int (i % j)) (tVar 1) (tC (.int 4))) rSetL))
          (tIfS (tB (tFld K (tVar 0) "is_back")) (sFld K (tVar 3) (tC (.bl true)) "is_dirty") (tDrop (tMeth (cR K) "pass_cell" (spPassCell K n) [] E0 (tVar 0) (tCons (tVar 1) (tCons (tVar 2) tNil))))))
        { nx := fun _ H' => Q .non H', rt := Q } [some (.ref hd.a), some (.int p), some (.int v), none] H := by
      intro hnot
      rw [changeL_in hnot] at k
      refine ⟨_, rfl, hd.a, hd.dx, _, rfl, O.a0, no_Room_reach, _, rfl, p, rfl, hd, p / 4, sa, ls, t, C, D, Z ++ R, rfl, hb, hix, hu, hls, ht, hlb.le (by omega), hC, hD, O, fun H1 ls1 l C1' D1 hls1 hl1 hC1 hD1 O1 => ?_⟩
      obtain ⟨q1, q2, ⟨l2, hl2, _, hlo⟩, q4⟩ := reachL_ok (ops_ok n) hu hls ht hb
      have el2 : l2 = l.l := by
        rw [← hls1, List.getElem?_map, hl1] at hl2
        exact (Option.some.inj hl2).symm
      subst el2
      rw [lnAt_get hl2, ← hls1] at k
      generalize reachL (ops n) hd.u (ls.map (·.l)) t (p / 4) = rr at *
      have h4 := hlo.ns
      have hpl : p % 4 < l.l.ns.length := by omega
      have hi1 : rr.2.2 < ls1.length := (List.getElem?_eq_some_iff.mp hl1).1
      have hlb2 := hlb.2
      -- the line in front
      have O2 := O1.perm (L' := (l.a, .ins (cL K) l.dx (fLine (.int l.l.b) (.ref l.na) (.bl l.l.d))) :: (l.na, .lst (l.l.ns.map V.int)) :: (hdC (cR K) hd ++ (((sa, .lst (ls1.map fun l => V.ref l.a)) :: lnsC (cL K) (ls1.eraseIdx rr.2.2)) ++ (C1' ++ (D1 ++ (Z ++ R)))))) (by
        refine (List.Perm.append_left _ (List.Perm.append_right _ (List.Perm.cons _ (lns_focus hl1)))).trans ?_
        unfold lnC
        walk_at "perm")
      refine ⟨_, rfl, _, rfl, l.a, cL K, l.dx, _, _, rfl, O2.a0, T.cl_Line, T.na_Line_numbers, lk_Line_numbers, _, rfl, _, _, rfl, rfl, (by show (0 : Int) < 4; decide), l.na, _, _, p % 4, rfl, rfl, O2.a1, ?_, ?_⟩
      · rw [List.length_map]
        unfold ixN
        rw [if_pos (by omega), if_pos (by omega)]
        congr 1
      · have O3 := (O2.perm (L' := (l.na, .lst (l.l.ns.map V.int)) :: (l.a, .ins (cL K) l.dx (fLine (.int l.l.b) (.ref l.na) (.bl l.l.d))) :: (hdC (cR K) hd ++ (((sa, .lst (ls1.map fun l => V.ref l.a)) :: lnsC (cL K) (ls1.eraseIdx rr.2.2)) ++ (C1' ++ (D1 ++ (Z ++ R)))))) (by walk_at "perm")).set (o' := .lst ((l.l.ns.map V.int).set (p % 4) (.int v)))
        generalize upd H1 l.na _ = H3 at O3 ⊢
        rw [show (l.l.ns.map V.int).set (p % 4) (.int v) = (l.l.ns.set (p % 4) v).map V.int from (List.map_set ..).symm] at O3
        -- the set as it stands with the line l'
        have fin : ∀ (d : Bool) (H4 : Hp) (t' : Ta) (C4 D4 : List Cell), d = (hd.u.bk || l.l.d) → RepK K hd.di hd.be t'.rs t'.far C4 → DRep hd.di t'.log D4 →
            Own H4 ((l.na, .lst ((l.l.ns.set (p % 4) v).map V.int)) :: (l.a, .ins (cL K) l.dx (fLine (.int l.l.b) (.ref l.na) (.bl d))) :: (hdC (cR K) hd ++ (((sa, .lst (ls1.map fun l => V.ref l.a)) :: lnsC (cL K) (ls1.eraseIdx rr.2.2)) ++ (C4 ++ (D4 ++ (Z ++ R)))))) →
            RPost K hd.di hd.a hd.be R (r.put (p / 4) ((ls1.map (·.l)).set rr.2.2 (setCell hd.u.bk l.l p v))) t' H4 := by
          intro d H4 t' C4 D4 ed hC4 hD4 O4
          have e1 : (ls1.map (·.l)).set rr.2.2 (setCell hd.u.bk l.l p v) = (ls1.set rr.2.2 ⟨l.a, l.dx, l.na, setCell hd.u.bk l.l p v⟩).map (·.l) := by rw [List.map_set]
          rw [e1]
          refine hback _ t' C4 D4 R H4 hC4 hD4 (O4.perm ?_)
          have e2 : (ls1.set rr.2.2 ⟨l.a, l.dx, l.na, setCell hd.u.bk l.l p v⟩).map (fun l => V.ref l.a) = ls1.map fun l => V.ref l.a := by
            rw [List.map_set]
            apply List.ext_getElem?
            intro i
            by_cases e : rr.2.2 = i
            · subst e
              rw [List.getElem?_set_self (by rw [List.length_map]; exact hi1), List.getElem?_map, hl1]
              rfl
            · rw [List.getElem?_set_ne e]
          refine List.Perm.trans ?_ (List.Perm.append_left _ (List.Perm.append_right _ (List.Perm.cons _ (lns_set (CL := cL K) (l := ⟨l.a, l.dx, l.na, setCell hd.u.bk l.l p v⟩) hi1)))).symm
          rw [e2]
          unfold lnC setCell
          dsimp only
          rw [ed]
          walk_at "perm"
        refine ⟨_, rfl, hd.a, cR K, hd.dx, _, _, rfl, O3.a2, T.cl_Room, T.na_Room_is_back, lk_Room_is_back, _, rfl, ?_⟩
        cases hbk : hd.u.bk with
        | true =>
          rw [hbk, if_pos rfl] at k
          refine iteT ⟨_, rfl, l.a, cL K, l.dx, _, rfl, O3.a1, T.cl_Line, T.na_Line_is_dirty, by show 3 < 1000; decide, ?_⟩
          have O4 := (O3.perm (L' := (l.a, .ins (cL K) l.dx (fLine (.int l.l.b) (.ref l.na) (.bl l.l.d))) :: (l.na, .lst ((l.l.ns.set (p % 4) v).map V.int)) :: (hdC (cR K) hd ++ (((sa, .lst (ls1.map fun l => V.ref l.a)) :: lnsC (cL K) (ls1.eraseIdx rr.2.2)) ++ (C1' ++ (D1 ++ (Z ++ R)))))) (by walk_at "perm")).set (o' := .ins (cL K) l.dx (putF "is_dirty" (.bl true) (fLine (.int l.l.b) (.ref l.na) (.bl l.l.d))))
          rw [pf_Line_is_dirty] at O4 ⊢
          have f2 := fin true _ rr.2.1 C1' D1 (by rw [hbk]; rfl) hC1 hD1 (O4.perm (by walk_at "perm"))
          rw [hbk] at f2
          exact k _ f2
        | false =>
          rw [hbk, if_neg Bool.false_ne_true] at k
          refine iteF ⟨_, rfl, hd.a, hd.dx, _, rfl, O3.a2, no_Room_pass_cell, _, rfl, _, rfl, hd, p, v, rr.2.1, C1', D1, (l.na, .lst ((l.l.ns.set (p % 4) v).map V.int)) :: (l.a, .ins (cL K) l.dx (fLine (.int l.l.b) (.ref l.na) (.bl l.l.d))) :: (((sa, .lst (ls1.map fun l => V.ref l.a)) :: lnsC (cL K) (ls1.eraseIdx rr.2.2)) ++ (Z ++ R)), rfl, hp, hu, q2, ⟨hlb.1, by omega⟩, hC1, hD1, O3.perm (by walk_at "perm"), fun H5 C5 D5 hC5 hD5 O5 => ?_⟩
          have f2 := fin l.l.d _ (passC (ops n) hd.u.tl rr.2.1 p v) C5 D5 (by rw [hbk]; rfl) hC5 hD5 (O5.perm (by walk_at "perm"))
          rw [hbk] at f2
          exact k _ f2
    cases hin : hd.u.inn with
    | true => exact iteF (iteF (main (by rw [hin]; exact fun z => nomatch z.1)))
    | false =>
      refine iteT ⟨_, rfl, hd.a, hd.dx, _, rfl, O.a0, no_Room_line_of, _, rfl, p, rfl, hd, p / 4, sa, ls, C ++ (D ++ (Z ++ R)), rfl, hix, O, fun i l hf hl => ?_, fun hf => ?_⟩
      · exact ⟨rfl, _, rfl, isN_ite (main (by rw [hf]; exact fun z => nomatch z.2))⟩
      · refine ⟨rfl, _, rfl, isN_ite0 ?_⟩
        rw [changeL_by hin hf] at k
        refine ⟨_, rfl, hd.a, hd.dx, _, rfl, O.a0, no_Room_pass_cell, _, rfl, _, rfl, hd, p, v, t, C, D, stC (cL K) (sa, ls) ++ (Z ++ R), rfl, hp, hu, ht, hlb.le (by omega), hC, hD, O.perm (by walk_at "perm"), fun H5 C5 D5 hC5 hD5 O5 => ?_⟩
        exact k _ (hback ls _ C5 D5 R H5 hC5 hD5 (O5.perm (by walk_at "perm")))
end
-- WwE
theorem homeL_by {o : Ops} {u : Ru} {ls : List Ln} {t : Ta} {b : Nat} {ns : List Int} (h1 : fnd b ls = none) (h2 : u.inn = false) : homeL o u ls t b ns = (ls, passH o u.tl t b ns) := by
  unfold homeL
  rw [h1]
  dsimp only
  rw [h2, if_neg Bool.false_ne_true]
theorem homeL_new {o : Ops} {u : Ru} {ls : List Ln} {t : Ta} {b : Nat} {ns : List Int} (h1 : fnd b ls = none) (h2 : u.inn = true) : homeL o u ls t b ns = ((mkWay o u ls t).1 ++ [⟨b, ns, u.bk⟩], if u.bk = true then (mkWay o u ls t).2 else passH o u.tl (mkWay o u ls t).2 b ns) := by
  unfold homeL
  rw [h1]
  dsimp only
  rw [h2, if_pos rfl]
theorem homeL_hit {o : Ops} {u : Ru} {ls : List Ln} {t : Ta} {b i : Nat} {ns : List Int} (h1 : fnd b ls = some i) : homeL o u ls t b ns = ((touchL u.lt ls i).set (touchI u.lt ls i) ⟨b, ns, u.bk⟩, if u.bk = true then t else passH o u.tl t b ns) := by
  unfold homeL
  rw [h1]
theorem refs_set {ls : List LnA} {i : Nat} {l l' : LnA} (h : ls[i]? = some l) (e : l'.a = l.a) : (ls.set i l').map (fun l => V.ref l.a) = ls.map fun l => V.ref l.a := by
  have hi : i < ls.length := (List.getElem?_eq_some_iff.mp h).1
  rw [List.map_set]
  apply List.ext_getElem?
  intro j
  by_cases ej : i = j
  · subst ej
    rw [List.getElem?_set_self (by rw [List.length_map]; exact hi), List.getElem?_map, h, e]
    rfl
  · rw [List.getElem?_set_ne ej]
/-- a set's cells with one line in front -/
theorem st_focus {CL sa : Addr} {ls : List LnA} {i : Nat} {l : LnA} (h : ls[i]? = some l) : (stC CL (sa, ls)).Perm (lnC CL l ++ ((sa, .lst (ls.map fun l => V.ref l.a)) :: lnsC CL (ls.eraseIdx i))) := by
  unfold stC
  refine (List.Perm.cons _ (lns_focus h)).trans ?_
  walk_at "perm"
theorem st_back {CL sa : Addr} {ls : List LnA} {i : Nat} {l l' : LnA} (h : ls[i]? = some l) (e : l'.a = l.a) : (lnC CL l' ++ ((sa, .lst (ls.map fun l => V.ref l.a)) :: lnsC CL (ls.eraseIdx i))).Perm (stC CL (sa, ls.set i l')) := by
  have hi : i < ls.length := (List.getElem?_eq_some_iff.mp h).1
  unfold stC
  dsimp only
  rw [refs_set h e]
  refine List.Perm.trans ?_ (List.Perm.cons _ (lns_set hi)).symm
  walk_at "perm"
section
variable {P : Program} {w : World} {K : PySem.W.Frag} {mg : Str → Option Value} {base : Heap} {n lv : Nat}
theorem ok_R_home (T : Txt K mg) (B : Beh P w K mg base n lv) (hv : 1 ≤ lv) : FnOk P w K mg base CX0 (lv + 4) (He.fAd K ("Room", some "home")) T.fd_Room_home ["self", "block", "numbers"] (spRHome K n) := by
  have G_Room_line_of := ok_line_of (P := P) (w := w) (base := base) T
  have G_Room_lines_of := ok_lines_of (P := P) (w := w) (base := base) T
  have G_Room_touch := ok_touch (P := P) (w := w) (base := base) T
  have G_Line___init__ := ok_Line_init (P := P) (w := w) (base := base) T
  have G_Room_pass_home := ok_pass_home T B hv
  have G_Room_make_way := ok_make_way T B hv
  refine okOf T.F_Room_home sc_Room_home (fun vs H Q E h => ?_) (fun cdv A outer s H vs Q E hr h => ?_)
  · obtain ⟨_, _, _, _, _, _, _, _, _, _, _, _, _, rfl, _⟩ := h
    rfl
  · obtain ⟨a, be, di, na, no, b, ns, r, t, C1, C, D, R, rfl, hb, hn, hno, hpre, k⟩ := h
    obtain ⟨hd, sa, ls, Z, rfl, rfl, rfl, eu, hix, els, hu, hls, ht, hlb, hC, hD, O, hback⟩ := hpre.open b
    rw [← eu, ← els] at k
    have hg39 := gOf_le hlb.1
    have hlen := hls.len
    have hw4 := hu.w4
    rw [List.length_map] at hlen
    refine ⟨_, (pss_cons (ps_set (i := 3) sc_Room_home.nd rfl (Or.inl rfl) (pe_meth (pv 0) T.cl_Room T.m_Room_line_of G_Room_line_of (hr.mono (by omega)) T.b_Room_line_of .nil pass0 (pa_cons (pv 1) pa_nil))) (pss_cons (ps_if (PW.pt (pw_and (pt_cmpR op_isN (pv 3) pe_non (nomark _)) (pw_and1 (pt_not (pt_val (pe_fld (pv 0) rfl)))))) (pss_cons (ps_expr (pe_meth (pv 0) T.cl_Room T.m_Room_pass_home G_Room_pass_home (hr.mono (by omega)) T.b_Room_pass_home .nil pass0 (pa_cons (pe_make T.mk_Line G_Line___init__ (hr.mono (by omega)) rfl T.g_Line T.b_Line___init__ .nil pass0 (pa_cons (pv 1) (pa_cons (pv 2) pa_nil))) pa_nil))) (pss_one ps_retN)) pss_nil) (pss_cons (ps_if (pt_cmpR op_isN (pv 3) pe_non (nomark _)) (pss_cons (ps_expr (pe_meth (pv 0) T.cl_Room T.m_Room_make_way G_Room_make_way (hr.mono (by omega)) T.b_Room_make_way .nil pass0 (pa_cons (pv 1) pa_nil))) (pss_cons (ps_set (i := 3) sc_Room_home.nd rfl (Or.inl rfl) (pe_make T.mk_Line G_Line___init__ (hr.mono (by omega)) rfl T.g_Line T.b_Line___init__ .nil pass0 (pa_cons (pv 1) (pa_cons (pv 2) pa_nil)))) (pss_one (ps_expr (pe_bm PySem.F.plainAttrs_list PySem.F.slot_list_append PySem.F.type_list_append mt_append (pe_meth (pv 0) T.cl_Room T.m_Room_lines_of G_Room_lines_of (hr.mono (by omega)) T.b_Room_lines_of .nil pass0 (pa_cons (pv 1) pa_nil)) (pa_cons (pv 3) pa_nil)))))) (pss_cons (ps_expr (pe_meth (pv 0) T.cl_Room T.m_Room_touch G_Room_touch (hr.mono (by omega)) T.b_Room_touch .nil pass0 (pa_cons (pv 3) pa_nil))) (pss_one (ps_fld (pv 3) (pe_callTy call_list_of (by rfl) T.n_list (by decide +kernel) (pa_cons (pv 2) pa_nil)) rfl)))) (pss_cons (ps_fld (pv 3) pe_bl rfl) (pss_one (ps_if (pt_not (pt_val (pe_fld (pv 0) rfl))) (pss_one (ps_expr (pe_meth (pv 0) T.cl_Room T.m_Room_pass_home G_Room_pass_home (hr.mono (by omega)) T.b_Room_pass_home .nil pass0 (pa_cons (pv 3) pa_nil)))) pss_nil)))))), ?_⟩
    -- line.is_dirty = True; if not self.is_back: self.pass_home(line)
    have rest : ∀ (H1 : Hp) (ls1 : List LnA) (j : Nat) (l : LnA) (t1 : Ta) (C1 D1 : List Cell), ls1[j]? = some l → LnOk l.l → TaOk n t1 → LBk n 1 t1 → RepK K hd.di hd.be t1.rs t1.far C1 → DRep hd.di t1.log D1 →
        Own H1 (hdC (cR K) hd ++ (stC (cL K) (sa, ls1) ++ (C1 ++ (D1 ++ (Z ++ ((na, no) :: R)))))) →
        (∀ H' : Hp, RPost K hd.di hd.a hd.be ((na, no) :: R) (r.put b ((ls1.map (·.l)).set j { l.l with d := hd.u.bk })) (if hd.u.bk = true then t1 else passH (ops n) hd.u.tl t1 l.l.b l.l.ns) H' → Q .non H') →
        tSeq (sFld K (tVar 3) (tC (.bl true)) "is_dirty") (tIfS (tNot (tB (tFld K (tVar 0) "is_back"))) (tDrop (tMeth (cR K) "pass_home" (spPassHome K n) [] E0 (tVar 0) (tCons (tVar 3) tNil))) tNext)
          { nx := fun _ H' => Q .non H', rt := Q } [some (.ref hd.a), some (.int b), some (.ref na), some (.ref l.a)] H1 := by
      intro H1 ls1 j l t1 C1 D1 hl hlo ht1 hlb1 hC1 hD1 O1 k1
      have O2 := O1.perm (L' := (l.a, .ins (cL K) l.dx (fLine (.int l.l.b) (.ref l.na) (.bl l.l.d))) :: (l.na, .lst (l.l.ns.map V.int)) :: (hdC (cR K) hd ++ (((sa, .lst (ls1.map fun l => V.ref l.a)) :: lnsC (cL K) (ls1.eraseIdx j)) ++ (C1 ++ (D1 ++ (Z ++ ((na, no) :: R))))))) (by
        refine (List.Perm.append_left _ (List.Perm.append_right _ (st_focus hl))).trans ?_
        unfold lnC
        walk_at "perm")
      refine ⟨_, rfl, l.a, cL K, l.dx, _, rfl, O2.a0, T.cl_Line, T.na_Line_is_dirty, by show 3 < 1000; decide, ?_⟩
      have O3 := O2.set (o' := .ins (cL K) l.dx (putF "is_dirty" (.bl true) (fLine (.int l.l.b) (.ref l.na) (.bl l.l.d))))
      rw [pf_Line_is_dirty] at O3 ⊢
      generalize upd H1 l.a _ = H3 at O3 ⊢
      have fin : ∀ (d : Bool) (H4 : Hp) (t' : Ta) (C4 D4 : List Cell), RepK K hd.di hd.be t'.rs t'.far C4 → DRep hd.di t'.log D4 →
          Own H4 (lnC (cL K) ⟨l.a, l.dx, l.na, { l.l with d := d }⟩ ++ (hdC (cR K) hd ++ (((sa, .lst (ls1.map fun l => V.ref l.a)) :: lnsC (cL K) (ls1.eraseIdx j)) ++ (C4 ++ (D4 ++ (Z ++ ((na, no) :: R))))))) →
          RPost K hd.di hd.a hd.be ((na, no) :: R) (r.put b ((ls1.map (·.l)).set j { l.l with d := d })) t' H4 := by
        intro d H4 t' C4 D4 hC4 hD4 O4
        have e1 : (ls1.map (·.l)).set j { l.l with d := d } = (ls1.set j ⟨l.a, l.dx, l.na, { l.l with d := d }⟩).map (·.l) := by rw [List.map_set]
        rw [e1]
        refine hback _ t' C4 D4 _ H4 hC4 hD4 (O4.perm ?_)
        refine List.Perm.trans ?_ (List.Perm.append_left _ (List.Perm.append_right _ (st_back (CL := cL K) (sa := sa) (l' := ⟨l.a, l.dx, l.na, { l.l with d := d }⟩) hl rfl)))
        walk_at "perm"
      refine ⟨_, rfl, hd.a, cR K, hd.dx, _, _, rfl, O3.a2, T.cl_Room, T.na_Room_is_back, lk_Room_is_back, _, rfl, ?_⟩
      cases hbk : hd.u.bk with
      | true =>
        rw [hbk, if_pos rfl] at k1
        exact iteF (k1 _ (fin true H3 t1 C1 D1 hC1 hD1 O3))
      | false =>
        rw [hbk, if_neg Bool.false_ne_true] at k1
        refine iteT ⟨_, rfl, hd.a, hd.dx, _, rfl, O3.a2, no_Room_pass_home, _, rfl, hd, ⟨l.a, l.dx, l.na, { l.l with d := true }⟩, t1, C1, D1, ((sa, .lst (ls1.map fun l => V.ref l.a)) :: lnsC (cL K) (ls1.eraseIdx j)) ++ (Z ++ ((na, no) :: R)), rfl, ⟨hlo.b, hlo.ns⟩, hu, ht1, hlb1, hC1, hD1, O3.perm (by unfold lnC; walk_at "perm"), fun H5 C5 D5 hC5 hD5 O5 => ?_⟩
        exact k1 _ (fin false H5 _ C5 D5 hC5 hD5 (O5.perm (by walk_at "perm")))
    refine ⟨_, rfl, hd.a, hd.dx, _, rfl, O.a0, no_Room_line_of, _, rfl, hd, b, sa, ls, C ++ (D ++ (Z ++ ((na, no) :: R))), rfl, hix, O, fun i l hf hl => ?_, fun hf => ?_⟩
    · -- it is there
      refine ⟨_, rfl, rfl, _, rfl, isN_ite (iteF ⟨_, rfl, rfl, _, rfl, isN_ite ?_⟩)⟩
      have eb : l.l.b = b := by
        obtain ⟨l2, h2, h3, _⟩ := fnd_some hf
        rw [List.getElem?_map, hl] at h2
        have : l.l = l2 := Option.some.inj h2
        rw [this]
        exact h3
      have hi : i < ls.length := (List.getElem?_eq_some_iff.mp hl).1
      rw [homeL_hit hf, touch_map, touchI_map] at k
      refine ⟨_, rfl, hd.a, hd.dx, _, rfl, O.a0, no_Room_touch, _, rfl, hd, sa, ls, i, l, C ++ (D ++ (Z ++ ((na, no) :: R))), rfl, hl, by rw [eb]; exact hix, by omega, O, fun H1 O1 => ?_⟩
      have hl1 : (touchL hd.u.lt ls i)[touchI hd.u.lt ls i]? = some l := (touch_get hi).trans hl
      generalize touchL hd.u.lt ls i = ls1 at O1 hl1 k
      generalize touchI hd.u.lt ls i = j at hl1 k
      have hj : j < ls1.length := (List.getElem?_eq_some_iff.mp hl1).1
      have hna : H1 na = some no := O1.mem (by simp)
      refine ⟨_, rfl, na, _, rfl, hno.seq hna, fun q hq => ?_⟩
      have O2 := O1.new (o := .lst (ns.map V.int)) hq
      generalize upd H1 q _ = H2 at O2 ⊢
      have O3 := O2.perm (L' := (l.a, .ins (cL K) l.dx (fLine (.int l.l.b) (.ref l.na) (.bl l.l.d))) :: (l.na, .lst (l.l.ns.map V.int)) :: (q, .lst (ns.map V.int)) :: (hdC (cR K) hd ++ (((sa, .lst (ls1.map fun l => V.ref l.a)) :: lnsC (cL K) (ls1.eraseIdx j)) ++ (C ++ (D ++ (Z ++ ((na, no) :: R))))))) (by
        refine (List.Perm.cons _ (List.Perm.append_left _ (List.Perm.append_right _ (st_focus hl1)))).trans ?_
        unfold lnC
        walk_at "perm")
      refine ⟨_, rfl, l.a, cL K, l.dx, _, rfl, O3.a0, T.cl_Line, T.na_Line_numbers, by show 3 < 1000; decide, ?_⟩
      have O4 := O3.set (o' := .ins (cL K) l.dx (putF "numbers" (.ref q) (fLine (.int l.l.b) (.ref l.na) (.bl l.l.d))))
      rw [pf_Line_numbers] at O4 ⊢
      have hlo : LnOk l.l := hls.ok _ (List.mem_map.mpr ⟨l, List.mem_of_getElem? hl, rfl⟩)
      refine rest _ (ls1.set j ⟨l.a, l.dx, q, ⟨l.l.b, ns, l.l.d⟩⟩) j ⟨l.a, l.dx, q, ⟨l.l.b, ns, l.l.d⟩⟩ t C D (by rw [List.getElem?_set_self hj]) ⟨hlo.b, hn⟩ ht (hlb.le (by omega)) hC hD ?_ ?_
      · refine Own.right (L' := [(l.na, .lst (l.l.ns.map V.int))]) (O4.perm ?_)
        refine List.Perm.trans ?_ (List.Perm.append_left _ (List.Perm.append_left _ (List.Perm.append_right _ (st_back (CL := cL K) (sa := sa) (l' := ⟨l.a, l.dx, q, ⟨l.l.b, ns, l.l.d⟩⟩) hl1 rfl))))
        unfold lnC
        walk_at "perm"
      · intro H' hp
        refine k H' ?_
        rw [List.map_set, List.set_set] at hp
        dsimp only at hp
        rw [eb] at hp
        exact hp
    · -- it isn't there
      refine ⟨_, rfl, rfl, _, rfl, isN_ite0 ?_⟩
      refine ⟨_, rfl, hd.a, cR K, hd.dx, _, _, rfl, O.a0, T.cl_Room, T.na_Room_is_in, lk_Room_is_in, _, rfl, ?_⟩
      cases hin : hd.u.inn with
      | false =>
        rw [homeL_by hf hin] at k
        refine iteT ⟨_, rfl, hd.a, hd.dx, _, rfl, O.a0, no_Room_pass_home, _, rfl, _, rfl, fun x dx hx hdx hne => ?_⟩
        have O4 := (O.keepNew (o := .own x) hdx).new (p := x) (o := .ins (cL K) dx []) (by rw [upd_ne (Ne.symm hne)]; exact hx)
        refine ⟨x, dx, na, no, b, ns, hdC (cR K) hd ++ (stC (cL K) (sa, ls) ++ (C ++ (D ++ (Z ++ R)))), rfl, hno, O4.perm (by walk_at "perm"), fun q H1 O1 => ⟨rfl, ?_⟩⟩
        refine ⟨hd, ⟨x, dx, q, ⟨b, ns, false⟩⟩, t, C, D, stC (cL K) (sa, ls) ++ (Z ++ ((na, no) :: R)), rfl, ⟨hb, hn⟩, hu, ht, hlb.le (by omega), hC, hD, O1.perm (by walk_at "perm"), fun H2 C2 D2 hC2 hD2 O2 => ?_⟩
        refine k H2 (hback ls _ C2 D2 _ H2 hC2 hD2 (Own.right (L' := lnC (cL K) ⟨x, dx, q, ⟨b, ns, false⟩⟩) (O2.perm ?_)))
        walk_at "perm"
      | true =>
        rw [homeL_new hf hin] at k
        refine iteF ⟨_, rfl, rfl, _, rfl, isN_ite0 ?_⟩
        refine ⟨_, rfl, hd.a, hd.dx, _, rfl, O.a0, no_Room_make_way, _, rfl, hd, b, sa, ls, t, C, D, Z ++ ((na, no) :: R), rfl, hix, hu, hls, ht, hlb.le (by omega), hC, hD, O, fun H1 ls1 C1 D1 hls1 hC1 hD1 O1 => ?_⟩
        obtain ⟨m1, m2, m3, m4⟩ := mkWay_ok (ops_ok n) hu hls ht
        generalize mkWay (ops n) hd.u (ls.map (·.l)) t = mw at m1 m2 m3 m4 hls1 hC1 hD1 k
        have hl1 : ls1.length = mw.1.length := by rw [← hls1, List.length_map]
        refine ⟨_, rfl, _, rfl, fun x dx hx hdx hne => ?_⟩
        have O2 := (O1.keepNew (o := .own x) hdx).new (p := x) (o := .ins (cL K) dx []) (by rw [upd_ne (Ne.symm hne)]; exact hx)
        refine ⟨x, dx, na, no, b, ns, hdC (cR K) hd ++ (stC (cL K) (sa, ls1) ++ (C1 ++ (D1 ++ (Z ++ R)))), rfl, hno, O2.perm (by walk_at "perm"), fun q H3 O3 => ⟨rfl, ?_⟩⟩
        have O4 := O3.perm (L' := hdC (cR K) hd ++ ((sa, .lst (ls1.map fun l => V.ref l.a)) :: (lnsC (cL K) ls1 ++ (lnC (cL K) ⟨x, dx, q, ⟨b, ns, false⟩⟩ ++ (C1 ++ (D1 ++ (Z ++ ((na, no) :: R)))))))) (by unfold stC; walk_at "perm")
        refine ⟨_, rfl, hd.a, hd.dx, _, rfl, O4.a0, no_Room_lines_of, _, rfl, hd, b, sa, _, rfl, hix, O4, .inl ⟨rfl, _, SqL.of O4.a3⟩, _, rfl, sa, _, _, rfl, rfl, O4.a3, ?_, ?_⟩
        · rw [List.length_map]
          exact size1 (by omega)
        · have O5 := (O4.perm (L' := (sa, .lst (ls1.map fun l => V.ref l.a)) :: (hdC (cR K) hd ++ (lnsC (cL K) ls1 ++ (lnC (cL K) ⟨x, dx, q, ⟨b, ns, false⟩⟩ ++ (C1 ++ (D1 ++ (Z ++ ((na, no) :: R)))))))) (by walk_at "perm")).set (o' := .lst (ls1.map (fun l => V.ref l.a) ++ [.ref x]))
          have hlb2 := hlb.2
          refine rest _ (ls1 ++ [⟨x, dx, q, ⟨b, ns, false⟩⟩]) ls1.length ⟨x, dx, q, ⟨b, ns, false⟩⟩ mw.2 C1 D1 ?_ ⟨hb, hn⟩ m2 ⟨hlb.1, by omega⟩ hC1 hD1 (O5.perm ?_) ?_
          · rw [List.getElem?_append_right (Nat.le_refl _), Nat.sub_self]
            rfl
          · unfold stC
            dsimp only
            rw [lns_app, List.map_append]
            simp only [lnsC, List.map_cons, List.map_nil]
            walk_at "perm"
          · intro H' hp
            refine k H' ?_
            have e : ((ls1 ++ [(⟨x, dx, q, ⟨b, ns, false⟩⟩ : LnA)]).map (·.l)).set ls1.length ⟨b, ns, hd.u.bk⟩ = mw.1 ++ [⟨b, ns, hd.u.bk⟩] := by
              rw [List.map_append, hls1, List.set_append_right _ _ (by omega), hl1, Nat.sub_self]
              rfl
            dsimp only at hp
            rw [e] at hp
            exact hp
theorem yieldL_no {o : Ops} {u : Ru} {ls : List Ln} {t : Ta} {b : Nat} {g : Bool} (h1 : fnd b ls = none) : yieldL o u ls t b g = (ls, t) := by
  unfold yieldL
  rw [h1]
theorem yieldL_hit {o : Ops} {u : Ru} {ls : List Ln} {t : Ta} {b i : Nat} {g : Bool} {l : Ln} (h1 : fnd b ls = some i) (h2 : ls[i]? = some l) : yieldL o u ls t b g = (if g = true then ls.eraseIdx i else ls.set i { l with d := false }, if l.d = true then passH o u.tl t b l.ns else t) := by
  unfold yieldL
  rw [h1]
  dsimp only
  rw [lnAt_get h2]
end
-- WwF
/-! ### what stands behind, by depth -/
def lvOf (n : Nat) : Nat := 4 * n + 1
section
variable {P : Program} {w : World} {K : PySem.W.Frag} {mg : Str → Option Value} {base : Heap} {n lv : Nat}
def beh0 (T : Txt K mg) : Beh P w K mg base 0 1 where
  C := cF K
  cl := T.cl_Far
  fh := _
  fb := _
  fc := _
  fdh := _
  fdb := _
  fdc := _
  m_home := T.m_Far_home
  m_bring := T.m_Far_bring
  m_change := T.m_Far_change
  b_home := T.b_Far_home
  b_bring := T.b_Far_bring
  b_change := T.b_Far_change
  G_home := ok_Far_home T
  G_bring := ok_Far_bring T
  G_change := ok_Far_change T
  at_ := fun di be t Z ht hC => by
    have ers : t.rs = [] := List.length_eq_zero_iff.mp ht.len
    rw [ers] at hC
    obtain ⟨la, rfl⟩ : ∃ la, be = .far la := by
      cases be with
      | far la => exact ⟨la, rfl⟩
      | room a be => exact hC.elim
    obtain ⟨dx, fl, rfl⟩ := hC
    exact ⟨dx, _, List.mem_cons_self, no_Far_home, no_Far_bring, no_Far_change⟩
theorem pre_of {H : Hp} {di : Addr} {be : Pa} {t : Ta} {C D R : List Cell} (ht : TaOk (n + 1) t) (hlb : LB (n + 1) t) (hC : RepK K di be t.rs t.far C) (hD : DRep di t.log D) (O : Own H (C ++ (D ++ R))) :
    ∃ (r : Rm) (rs : List Rm) (a : Addr) (be' : Pa) (C1 C2 : List Cell), t.rs = r :: rs ∧ be = .room a be' ∧ RPre K n H di a be' r { t with rs := rs } C1 C2 D R := by
  obtain ⟨r, rs, e, hr, ht2⟩ := ht.uncons
  rw [e] at hC
  obtain ⟨a, be', rfl⟩ : ∃ a be', be = .room a be' := by
    cases be with
    | far la => exact hC.elim
    | room a be' => exact ⟨a, be', rfl⟩
  obtain ⟨C1, C2, h1, h2, rfl⟩ := hC
  refine ⟨r, rs, a, be', C1, C2, e, rfl, hr, ht2, ⟨by have := hlb.1; omega, by have := hlb.2; show t.log.length + _ + _ ≤ _; omega⟩, h1, h2, hD, O.perm (by walk_at "perm")⟩
def behS (T : Txt K mg) (B : Beh P w K mg base n lv) (hv : 1 ≤ lv) : Beh P w K mg base (n + 1) (lv + 4) where
  C := cR K
  cl := T.cl_Room
  fh := _
  fb := _
  fc := _
  fdh := _
  fdb := _
  fdc := _
  m_home := T.m_Room_home
  m_bring := T.m_Room_bring
  m_change := T.m_Room_change
  b_home := T.b_Room_home
  b_bring := T.b_Room_bring
  b_change := T.b_Room_change
  G_home := (ok_R_home T B hv).imp fun vs H Q E h => by
    obtain ⟨be, di, na, no, b, ns, t, C, D, R, rfl, hb, hn, hno, ht, hlb, hC, hD, O, k⟩ := h
    obtain ⟨r, rs, a, be', C1, C2, e, rfl, hpre⟩ := pre_of (R := (na, no) :: R) ht hlb hC hD (O.perm (by walk_at "perm"))
    refine ⟨a, be', di, na, no, b, ns, r, { t with rs := rs }, C1, C2, D, R, rfl, hb, hn, hno, hpre, fun H' hp => ?_⟩
    obtain ⟨C1', C2', D', h1, h2, h3, O'⟩ := hp
    have eo : (ops (n + 1)).hm t b ns = Ta.cons (r.put b (homeL (ops n) r.ru (r.ls b) { t with rs := rs } b ns).1) (homeL (ops n) r.ru (r.ls b) { t with rs := rs } b ns).2 := by
      show (match t.rs with | [] => t | r :: rs => _) = _
      rw [e]
    rw [eo] at k
    exact k H' (C1' ++ C2') D' ⟨C1', C2', h1, h2, rfl⟩ h3 (O'.perm (by walk_at "perm"))
  G_bring := (ok_R_bring T B hv).imp fun vs H Q E h => by
    obtain ⟨be, di, b, t, C, D, R, rfl, hb, ht, hlb, hC, hD, O, k⟩ := h
    obtain ⟨r, rs, a, be', C1, C2, e, rfl, hpre⟩ := pre_of ht hlb hC hD O
    refine ⟨a, be', di, b, r, { t with rs := rs }, C1, C2, D, R, rfl, hb, hpre, fun p H' hp => ?_⟩
    obtain ⟨C1', C2', D', h1, h2, h3, O'⟩ := hp
    have eo : (ops (n + 1)).br t b = ((bringL (ops n) r.ru (r.ls b) { t with rs := rs } b).1, Ta.cons (r.put b (bringL (ops n) r.ru (r.ls b) { t with rs := rs } b).2.1) (bringL (ops n) r.ru (r.ls b) { t with rs := rs } b).2.2) := by
      show (match t.rs with | [] => ([], t) | r :: rs => _) = _
      rw [e]
    rw [eo] at k
    exact k p H' (C1' ++ C2') D' ⟨C1', C2', h1, h2, rfl⟩ h3 (O'.perm (by walk_at "perm"))
  G_change := (ok_R_change T B hv).imp fun vs H Q E h => by
    obtain ⟨be, di, p, v, t, C, D, R, rfl, hp, ht, hlb, hC, hD, O, k⟩ := h
    obtain ⟨r, rs, a, be', C1, C2, e, rfl, hpre⟩ := pre_of ht hlb hC hD O
    refine ⟨a, be', di, p, v, r, { t with rs := rs }, C1, C2, D, R, rfl, hp, hpre, fun H' hp => ?_⟩
    obtain ⟨C1', C2', D', h1, h2, h3, O'⟩ := hp
    have eo : (ops (n + 1)).ch t p v = Ta.cons (r.put (p / 4) (changeL (ops n) r.ru (r.ls (p / 4)) { t with rs := rs } p v).1) (changeL (ops n) r.ru (r.ls (p / 4)) { t with rs := rs } p v).2 := by
      show (match t.rs with | [] => t | r :: rs => _) = _
      rw [e]
    rw [eo] at k
    exact k H' (C1' ++ C2') D' ⟨C1', C2', h1, h2, rfl⟩ h3 (O'.perm (by walk_at "perm"))
  at_ := fun di be t Z ht hC => by
    obtain ⟨r, rs, e, _, _⟩ := ht.uncons
    rw [e] at hC
    obtain ⟨a, be', rfl⟩ : ∃ a be', be = .room a be' := by
      cases be with
      | far la => exact hC.elim
      | room a be' => exact ⟨a, be', rfl⟩
    obtain ⟨C1, C2, ⟨h, ss, rfl, _, _, _, _, _, rfl⟩, _, rfl⟩ := hC
    exact ⟨h.dx, _, List.mem_append_left _ (List.mem_append_left _ List.mem_cons_self), no_Room_home, no_Room_bring, no_Room_change⟩
def behN (T : Txt K mg) : (n : Nat) → Beh P w K mg base n (lvOf n)
  | 0 => beh0 T
  | n + 1 => behS T (behN T n) (by show 1 ≤ 4 * n + 1; omega)
end
def lnD (l : Ln) : PyData := .tuple [.int l.b, .tuple (l.ns.map .int), .bool l.d]
def lsD (ls : List Ln) : PyData := .list (ls.map lnD)
def ssD (ss : List (List Ln)) : PyData := .list (ss.map lsD)
theorem sts_mem {CL : Addr} : ∀ {ss : List (Addr × List LnA)} {i : Nat} {s : Addr × List LnA}, ss[i]? = some s → ∀ c ∈ stC CL s, c ∈ stsC CL ss
  | [], i, s, h, c, hc => by simp at h
  | a :: r, 0, s, h, c, hc => by
    have e : a = s := by simpa using h
    rw [e]
    exact List.mem_append_left _ hc
  | a :: r, i + 1, s, h, c, hc => List.mem_append_right _ (sts_mem (by simpa using h) c hc)
def spHolds (K : PySem.W.Frag) : Sp := fun vs H Q _ => ∃ (a : Addr) (be : Pa) (di : Addr) (r : Rm) (C1 R : List Cell), vs = [.ref a] ∧ RmOk r ∧ RmRepK K di a be r C1 ∧ Own H (C1 ++ R) ∧
  ∀ (p : Addr) (N : List Cell) (H' : Hp), DpL N (.ref p) (ssD r.ss) → Own H' (N ++ (C1 ++ R)) → Q (.ref p) H'
section
variable {P : Program} {w : World} {K : PySem.W.Frag} {mg : Str → Option Value} {base : Heap} {n lv : Nat}
theorem ok_R_holds (T : Txt K mg) : FnOk P w K mg base CX0 1 (He.fAd K ("Room", some "holds")) T.fd_Room_holds ["self"] (spHolds K) := by
  refine okOf T.F_Room_holds sc_Room_holds (fun vs H Q E h => ?_) (fun cdv A outer s H vs Q E hr h => ?_)
  · obtain ⟨_, _, _, _, _, _, rfl, _⟩ := h
    rfl
  · obtain ⟨a, be, di, r, C1, R, rfl, hrm, ⟨hd, ss, rfl, rfl, rfl, eu, esas, ess, rfl⟩, O, k⟩ := h
    refine ⟨_, (pss_one (ps_ret (pe_lc (te := (tLc (iList K (tVar 1)) (gName 2) tYes (tTup (tCons (tFld K (tVar 2) "block") (tCons (tCB (rTupQ K) (tCons (tFld K (tVar 2) "numbers") tNil)) (tCons (tFld K (tVar 2) "is_dirty") tNil)))) [2])) (own := [("lines", 1)]) (by rfl) sc_Room_holds.nd (pi_list (pe_fld (pv 0) rfl)) (blkOk_by (own := [("lines", 1)]) (by kernel_rfl)) (fun _ _ _ _ _ => (pg_name (i := 1) sc_Room_holds.nd rfl (Or.inl rfl))) (fun _ _ _ _ _ => pts_nil) (fun _ _ _ _ _ => (pe_lc (te := (tTup (tCons (tFld K (tVar 2) "block") (tCons (tCB (rTupQ K) (tCons (tFld K (tVar 2) "numbers") tNil)) (tCons (tFld K (tVar 2) "is_dirty") tNil))))) (own := [("line", 2)]) (by rfl) sc_Room_holds.nd (pi_list (pv 1)) (blkOk_by (own := [("line", 2)]) (by kernel_rfl)) (fun _ _ _ _ _ => (pg_name (i := 2) sc_Room_holds.nd rfl (Or.inl rfl))) (fun _ _ _ _ _ => pts_nil) (fun _ _ _ _ _ => (pe_tup (pa_cons (pe_fld (pv 2) rfl) (pa_cons (pe_callTy call_tuple_of (by rfl) T.n_tuple (by decide +kernel) (pa_cons (pe_fld (pv 2) rfl) pa_nil)) (pa_cons (pe_fld (pv 2) rfl) pa_nil)))))))))), ?_⟩
    have hlen : ss.length = r.ss.length := by rw [ess, List.length_map]
    have hs4 := hrm.s4
    refine ⟨_, rfl, hd.a, cR K, hd.dx, _, _, rfl, O.a0, T.cl_Room, T.na_Room_sets, lk_Room_sets, hd.sl, rfl, ⟨_, SqL.of O.a1⟩, fun D hD => ?_⟩
    refine lc_list (K := K) (a := hd.sl) (xs := hd.sas.map V.ref) (fun i H' => ∃ (N : List Cell) (acc : List V), Own H' ((D, .lst acc) :: (N ++ ((hdC (cR K) hd ++ stsC (cL K) ss) ++ R))) ∧ DpsL N acc ((r.ss.take i).map lsD))
      ⟨[], [], O.new hD, .nil⟩ (fun i H' _ ⟨N, acc, O1, _⟩ => SqL.of (O1.mem (by simp [hdC]))) ?_ ?_
    · rintro i x H1 hi ⟨N, acc, O1, hdp⟩
      rw [esas, List.map_map, List.getElem?_map] at hi
      cases hs : ss[i]? with
      | none =>
        rw [hs] at hi
        cases hi
      | some s =>
        rw [hs] at hi
        have ex : V.ref s.1 = x := Option.some.inj hi
        subst ex
        have hil : i < ss.length := (List.getElem?_eq_some_iff.mp hs).1
        have hsm : ∀ c ∈ stC (cL K) s, c ∈ ((D, HO.lst acc) :: (N ++ ((hdC (cR K) hd ++ stsC (cL K) ss) ++ R))) := fun c hc => List.mem_cons_of_mem _ (List.mem_append_right _ (List.mem_append_left _ (List.mem_append_right _ (sts_mem hs c hc))))
        have hrs : r.ss[i]? = some (s.2.map (·.l)) := by rw [ess, List.getElem?_map, hs]; rfl
        have hlso := hrm.ln _ (List.mem_of_getElem? hrs)
        have hls4 : s.2.length ≤ 4 := by
          have := hlso.len
          have := hrm.ru.w4
          rw [List.length_map] at *
          omega
        refine ⟨rfl, tYes_go (iteT ?_)⟩
        refine ⟨_, rfl, s.1, rfl, ⟨_, SqL.of (O1.mem (hsm _ List.mem_cons_self))⟩, fun D2 hD2 => ?_⟩
        refine lc_list (K := K) (a := s.1) (xs := s.2.map fun l => V.ref l.a) (fun j H' => ∃ (N2 : List Cell) (acc2 : List V), Own H' ((D2, .lst acc2) :: (N2 ++ ((D, .lst acc) :: (N ++ ((hdC (cR K) hd ++ stsC (cL K) ss) ++ R))))) ∧ DpsL N2 acc2 (((s.2.map (·.l)).take j).map lnD))
          ⟨[], [], O1.new hD2, .nil⟩ (fun j H' _ ⟨N2, acc2, O2, _⟩ => SqL.of (O2.mem (List.mem_cons_of_mem _ (List.mem_append_right _ (hsm _ List.mem_cons_self))))) ?_ ?_
        · rintro j y H2 hj ⟨N2, acc2, O2, hdp2⟩
          rw [List.getElem?_map] at hj
          cases hl : s.2[j]? with
          | none =>
            rw [hl] at hj
            cases hj
          | some l =>
            rw [hl] at hj
            have ey : V.ref l.a = y := Option.some.inj hj
            subst ey
            have hm := fun c hc => O2.mem (List.mem_cons_of_mem _ (List.mem_append_right _ (hsm _ (List.mem_cons_of_mem _ (lns_mem hl c hc)))))
            have h1 : H2 l.a = some (.ins (cL K) l.dx (fLine (.int l.l.b) (.ref l.na) (.bl l.l.d))) := hm (_, _) List.mem_cons_self
            have h2 : H2 l.na = some (.lst (l.l.ns.map V.int)) := hm (_, _) (List.mem_cons_of_mem _ List.mem_cons_self)
            refine ⟨rfl, tYes_go (iteT ?_)⟩
            refine ⟨_, rfl, l.a, cL K, l.dx, _, _, rfl, h1, T.cl_Line, T.na_Line_block, lk_Line_block, _, rfl, l.a, cL K, l.dx, _, _, rfl, h1, T.cl_Line, T.na_Line_numbers, lk_Line_numbers, l.na, _, rfl, .inl ⟨SqL.of h2, fun p hp => ?_⟩⟩
            have O3 := O2.new (o := .tup (l.l.ns.map V.int)) hp
            have h1' : upd H2 p (.tup (l.l.ns.map V.int)) l.a = some (.ins (cL K) l.dx (fLine (.int l.l.b) (.ref l.na) (.bl l.l.d))) := by
              rw [upd_ne (ne_of_none h1 hp)]
              exact h1
            refine ⟨_, rfl, l.a, cL K, l.dx, _, _, rfl, h1', T.cl_Line, T.na_Line_is_dirty, lk_Line_is_dirty, by show 3 ≤ sizeLine; decide, fun q hq => ?_⟩
            have O4 := O3.new (o := .tup [.int l.l.b, .ref p, .bl l.l.d]) hq
            refine ⟨acc2, O4.a2, ?_, ?_⟩
            · have e := hdp2.len
              simp only [List.length_map, List.length_take] at e
              exact size1 (by omega)
            · have O5 := (O4.perm (L' := (D2, .lst acc2) :: (((q, .tup [.int l.l.b, .ref p, .bl l.l.d]) :: (p, .tup (l.l.ns.map V.int)) :: N2) ++ ((D, .lst acc) :: (N ++ ((hdC (cR K) hd ++ stsC (cL K) ss) ++ R))))) (by walk_at "perm")).set (o' := .lst (acc2 ++ [.ref q]))
              refine ⟨_, _, O5, ?_⟩
              rw [take_snoc (x := l.l) (by rw [List.getElem?_map, hl]; rfl), List.map_append]
              refine DpsL.app (hdp2.mono fun c hc => by simp [hc]) (.cons ?_ .nil)
              exact .tup List.mem_cons_self (.cons (.int _) (.cons (.tup (List.mem_cons_of_mem _ List.mem_cons_self) (DpsL.ints _)) (.cons (.bl _) .nil)))
        · rintro H2 ⟨N2, acc2, O2, hdp2⟩
          rw [List.length_map, List.take_of_length_le (by rw [List.length_map]; exact Nat.le_refl _)] at hdp2
          refine ⟨acc, O2.mem (by simp), ?_, ?_⟩
          · have e := hdp.len
            rw [List.length_map, List.length_take] at e
            exact size1 (by omega)
          · have O3 := (O2.perm (L' := (D, .lst acc) :: (((D2, .lst acc2) :: (N2 ++ N)) ++ ((hdC (cR K) hd ++ stsC (cL K) ss) ++ R))) (by walk_at "perm")).set (o' := .lst (acc ++ [.ref D2]))
            refine ⟨_, _, O3, ?_⟩
            rw [take_snoc hrs, List.map_append]
            refine DpsL.app (hdp.mono fun c hc => by simp [hc]) (.cons ?_ .nil)
            exact .lst List.mem_cons_self (hdp2.mono fun c hc => by simp [hc])
    · rintro H1 ⟨N, acc, O1, hdp⟩
      rw [esas, List.length_map, List.length_map, hlen, List.take_length] at hdp
      refine k D ((D, .lst acc) :: N) H1 (.lst List.mem_cons_self (hdp.mono fun c hc => List.mem_cons_of_mem _ hc)) (O1.perm ?_)
      walk_at "perm"
end
-- WwG
/-! ### rules -/
structure Rul where
  s : Nat
  w : Nat
  bk : Bool
  inn : Bool
  lt : Bool
def sBk (b : Bool) : Str := if b = true then "back" else "through"
def sIn (b : Bool) : Str := if b = true then "in" else "by"
def sLt (b : Bool) : Str := if b = true then "late" else "first"
def Rul.vs (u : Rul) : List V := [.int u.s, .int u.w, .str (sBk u.bk), .str (sIn u.inn), .str (sLt u.lt)]
structure RulOk (u : Rul) : Prop where
  s : u.s = 1 ∨ u.s = 2 ∨ u.s = 4
  w0 : 1 ≤ u.w
  w4 : u.w ≤ 4
def mkRm (u : Rul) (tl : List V) : Rm := ⟨⟨u.w, u.bk, u.inn, u.lt, tl⟩, List.replicate u.s []⟩
theorem mkRm_ok {u : Rul} (h : RulOk u) {tl : List V} (ht : tl.length ≤ 4) : RmOk (mkRm u tl) := by
  refine ⟨?_, ?_, ⟨h.w0, h.w4, ht⟩, fun ls hm => ?_⟩
  · show 0 < (List.replicate u.s []).length
    rw [List.length_replicate]
    rcases h.s with e | e | e <;> omega
  · show (List.replicate u.s []).length ≤ 4
    rw [List.length_replicate]
    rcases h.s with e | e | e <;> omega
  · rw [List.eq_of_mem_replicate hm]
    exact ⟨Nat.zero_le _, fun l hm => by cases hm⟩
theorem dec_bk (b : Bool) : decide (V.str (sBk b) = V.str "back") = b := by cases b <;> decide +kernel
theorem dec_in (b : Bool) : decide (V.str (sIn b) = V.str "in") = b := by cases b <;> decide +kernel
theorem dec_lt (b : Bool) : decide (V.str (sLt b) = V.str "late") = b := by cases b <;> decide +kernel
theorem sts_nil (CL : Addr) : ∀ as : List Addr, stsC CL (as.map fun a => (a, ([] : List LnA))) = as.map fun a => (a, HO.lst [])
  | [] => rfl
  | a :: as => by
    show (a, HO.lst []) :: stsC CL (as.map fun a => (a, ([] : List LnA))) = _
    rw [sts_nil CL as]
    rfl
def spRoomInit (K : PySem.W.Frag) : Sp := fun vs H Q _ => ∃ (x dx ra ti di : Addr) (be : Pa) (u : Rul) (tl : List V) (R : List Cell), vs = [.ref x, .ref ra, .ref be.ad, .ref ti, .ref di] ∧ RulOk u ∧ (ra, HO.tup u.vs) ∈ R ∧ Own H ((x, .ins (cR K) dx []) :: (ti, .tup tl) :: R) ∧
  ∀ (C1 : List Cell) (H' : Hp), RmRepK K di x be (mkRm u tl) C1 → Own H' (C1 ++ R) → Q .non H'
def spIsRule : Sp := fun vs H Q _ => ∃ (ra : Addr) (u : Rul), vs = [.ref ra] ∧ RulOk u ∧ H ra = some (.tup u.vs) ∧ Q (.bl true) H
/-- tuples of rules, by their addresses -/
def RA (R : List Cell) : List Addr → List Rul → Prop
  | [], [] => True
  | a :: as, u :: us => (a, HO.tup u.vs) ∈ R ∧ RA R as us
  | _, _ => False
theorem RA.len {R : List Cell} : ∀ {as : List Addr} {us : List Rul}, RA R as us → as.length = us.length
  | [], [], _ => rfl
  | [], _ :: _, h => h.elim
  | _ :: _, [], h => h.elim
  | _ :: _, _ :: _, h => congrArg (· + 1) (RA.len h.2)
theorem RA.get {R : List Cell} : ∀ {as : List Addr} {us : List Rul} {i : Nat} {a : Addr}, RA R as us → as[i]? = some a → ∃ u, us[i]? = some u ∧ (a, HO.tup u.vs) ∈ R
  | [], _, i, a, _, e => by simp at e
  | _ :: _, [], _, _, h, _ => h.elim
  | b :: as, u :: us, 0, a, h, e => by
    simp at e
    subst e
    exact ⟨u, rfl, h.1⟩
  | b :: as, u :: us, i + 1, a, h, e => by
    obtain ⟨v, h1, h2⟩ := RA.get (i := i) (a := a) h.2 (by simpa using e)
    exact ⟨v, by simpa using h1, h2⟩
theorem RA.get' {R : List Cell} : ∀ {as : List Addr} {us : List Rul} {i : Nat} {u : Rul}, RA R as us → us[i]? = some u → ∃ a, as[i]? = some a ∧ (a, HO.tup u.vs) ∈ R
  | [], [], i, a, _, e => by simp at e
  | [], _ :: _, _, _, h, _ => h.elim
  | _ :: _, [], _, _, h, _ => h.elim
  | b :: as, u :: us, 0, v, h, e => by
    simp at e
    subst e
    exact ⟨b, rfl, h.1⟩
  | b :: as, u :: us, i + 1, v, h, e => by
    obtain ⟨a, h1, h2⟩ := RA.get' (i := i) (u := v) h.2 (by simpa using e)
    exact ⟨a, by simpa using h1, h2⟩
theorem RA.mono {R R' : List Cell} (hs : ∀ c ∈ R, c ∈ R') : ∀ {as : List Addr} {us : List Rul}, RA R as us → RA R' as us
  | [], [], _ => trivial
  | [], _ :: _, h => h.elim
  | _ :: _, [], h => h.elim
  | _ :: _, _ :: _, h => ⟨hs _ h.1, RA.mono hs h.2⟩
/-- a list of rules -/
def RulesAt (R : List Cell) (rl : Addr) (us : List Rul) : Prop := ∃ ras : List Addr, (rl, HO.lst (ras.map V.ref)) ∈ R ∧ RA R ras us
structure RulesOk (us : List Rul) : Prop where
  ok : ∀ u ∈ us, RulOk u
  l1 : 1 ≤ us.length
  l3 : us.length ≤ 3
def spNeedRules : Sp := fun vs H Q _ => ∃ (rl : Addr) (us : List Rul) (R : List Cell), vs = [.ref rl] ∧ RulesOk us ∧ RulesAt R rl us ∧ Own H R ∧ ∀ H' : Hp, Own H' R → Q .non H'
def spNeedHands : Sp := fun vs H Q _ => ∃ n : Nat, vs = [.int n] ∧ 1 ≤ n ∧ n ≤ 3 ∧ Q .non H
section
variable {P : Program} {w : World} {K : PySem.W.Frag} {mg : Str → Option Value} {base : Heap} {n lv : Nat}
theorem ok_Room_init (T : Txt K mg) : FnOk P w K mg base CX0 1 (He.fAd K ("Room", some "__init__")) T.fd_Room___init__ ["self", "rule", "behind", "title", "diary"] (spRoomInit K) := by
  refine okOf T.F_Room___init__ sc_Room___init__ (fun vs H Q E h => ?_) (fun cdv A outer s H vs Q E hr h => ?_)
  · obtain ⟨_, _, _, _, _, _, _, _, _, rfl, _⟩ := h
    rfl
  · obtain ⟨x, dx, ra, ti, di, be, u, tl, R, rfl, hu, hra, O, k⟩ := h
    have hm : ∀ {fs : List (Str × V)} {H : Hp}, Own H ((x, .ins (cR K) dx fs) :: (ti, .tup tl) :: R) → H ra = some (.tup u.vs) := fun O => O.mem (List.mem_cons_of_mem _ (List.mem_cons_of_mem _ hra))
    refine ⟨_, (pss_cons (ps_fld (pv 0) (pe_ix ix_tup (pv 1) pe_int (fun _ _ => rfl)) rfl) (pss_cons (ps_fld (pv 0) (pe_cmpR op_eq (pe_ix ix_tup (pv 1) pe_int (fun _ _ => rfl)) pe_str (nomark _)) rfl) (pss_cons (ps_fld (pv 0) (pe_cmpR op_eq (pe_ix ix_tup (pv 1) pe_int (fun _ _ => rfl)) pe_str (nomark _)) rfl) (pss_cons (ps_fld (pv 0) (pe_cmpR op_eq (pe_ix ix_tup (pv 1) pe_int (fun _ _ => rfl)) pe_str (nomark _)) rfl) (pss_cons (ps_fld (pv 0) (pv 2) rfl) (pss_cons (ps_fld (pv 0) (pv 3) rfl) (pss_cons (ps_fld (pv 0) (pv 4) rfl) (pss_one (ps_fld (pv 0) (pe_lc (te := (tLst tNil)) (own := [("number", 5)]) (by rfl) sc_Room___init__.nd (pi_range1 (by rfl) T.n_range (pa_cons (pe_ix ix_tup (pv 1) pe_int (fun _ _ => rfl)) pa_nil)) (blkOk_by (own := [("number", 5)]) (by kernel_rfl)) (fun _ _ _ _ _ => (pg_name (i := 5) sc_Room___init__.nd rfl (Or.inl rfl))) (fun _ _ _ _ _ => pts_nil) (fun _ _ _ _ _ => (pe_lst pa_nil))) rfl))))))))), ?_⟩
    refine ⟨_, rfl, ra, _, 1, .int u.w, rfl, rfl, SqT.of (hm O), rfl, _, rfl, x, cR K, dx, _, rfl, O.a0, T.cl_Room, T.na_Room_ways, by show 0 < 1000; decide, ?_⟩
    replace O := O.set (o' := .ins (cR K) dx (putF "ways" (.int u.w) []))
    generalize upd H x _ = H1 at O ⊢
    refine ⟨_, rfl, ra, _, 2, _, rfl, rfl, SqT.of (hm O), rfl, rfl, _, rfl, x, cR K, dx, _, rfl, O.a0, T.cl_Room, T.na_Room_is_back, by show 1 < 1000; decide, ?_⟩
    rw [dec_bk]
    replace O := O.set (o' := .ins (cR K) dx (putF "is_back" (.bl u.bk) (putF "ways" (.int u.w) [])))
    generalize upd H1 x _ = H2 at O ⊢
    simp only [pf_nil, pf_tl ne_is_back_ways] at O ⊢
    refine ⟨_, rfl, ra, _, 3, _, rfl, rfl, SqT.of (hm O), rfl, rfl, _, rfl, x, cR K, dx, _, rfl, O.a0, T.cl_Room, T.na_Room_is_in, by show 2 < 1000; decide, ?_⟩
    rw [dec_in]
    replace O := O.set (o' := .ins (cR K) dx (putF "is_in" (.bl u.inn) [("ways", .int u.w), ("is_back", .bl u.bk)]))
    generalize upd H2 x _ = H3 at O ⊢
    simp only [pf_nil, pf_tl ne_is_in_ways, pf_tl ne_is_in_is_back] at O ⊢
    refine ⟨_, rfl, ra, _, 4, _, rfl, rfl, SqT.of (hm O), rfl, rfl, _, rfl, x, cR K, dx, _, rfl, O.a0, T.cl_Room, T.na_Room_is_late, by show 3 < 1000; decide, ?_⟩
    rw [dec_lt]
    replace O := O.set (o' := .ins (cR K) dx (putF "is_late" (.bl u.lt) [("ways", .int u.w), ("is_back", .bl u.bk), ("is_in", .bl u.inn)]))
    generalize upd H3 x _ = H4 at O ⊢
    simp only [pf_nil, pf_tl ne_is_late_ways, pf_tl ne_is_late_is_back, pf_tl ne_is_late_is_in] at O ⊢
    refine ⟨_, rfl, _, rfl, x, cR K, dx, _, rfl, O.a0, T.cl_Room, T.na_Room_behind, by show 4 < 1000; decide, ?_⟩
    replace O := O.set (o' := .ins (cR K) dx (putF "behind" (.ref be.ad) [("ways", .int u.w), ("is_back", .bl u.bk), ("is_in", .bl u.inn), ("is_late", .bl u.lt)]))
    generalize upd H4 x _ = H5 at O ⊢
    simp only [pf_nil, pf_tl ne_behind_ways, pf_tl ne_behind_is_back, pf_tl ne_behind_is_in, pf_tl ne_behind_is_late] at O ⊢
    refine ⟨_, rfl, _, rfl, x, cR K, dx, _, rfl, O.a0, T.cl_Room, T.na_Room_title, by show 5 < 1000; decide, ?_⟩
    replace O := O.set (o' := .ins (cR K) dx (putF "title" (.ref ti) [("ways", .int u.w), ("is_back", .bl u.bk), ("is_in", .bl u.inn), ("is_late", .bl u.lt), ("behind", .ref be.ad)]))
    generalize upd H5 x _ = H6 at O ⊢
    simp only [pf_nil, pf_tl ne_title_ways, pf_tl ne_title_is_back, pf_tl ne_title_is_in, pf_tl ne_title_is_late, pf_tl ne_title_behind] at O ⊢
    refine ⟨_, rfl, _, rfl, x, cR K, dx, _, rfl, O.a0, T.cl_Room, T.na_Room_diary, by show 6 < 1000; decide, ?_⟩
    replace O := O.set (o' := .ins (cR K) dx (putF "diary" (.ref di) [("ways", .int u.w), ("is_back", .bl u.bk), ("is_in", .bl u.inn), ("is_late", .bl u.lt), ("behind", .ref be.ad), ("title", .ref ti)]))
    generalize upd H6 x _ = H7 at O ⊢
    simp only [pf_nil, pf_tl ne_diary_ways, pf_tl ne_diary_is_back, pf_tl ne_diary_is_in, pf_tl ne_diary_is_late, pf_tl ne_diary_behind, pf_tl ne_diary_title] at O ⊢
    refine ⟨_, rfl, ra, _, 0, .int u.s, rfl, rfl, SqT.of (hm O), rfl, u.s, rfl, by omega, by rcases hu.s with e | e | e <;> omega, fun D hD => ?_⟩
    refine lc_range (lo := 0) (n := u.s) (fun i H' => ∃ as : List Addr, as.length = i ∧ Own H' ((D, .lst (as.map V.ref)) :: ((as.map fun a => (a, HO.lst [])) ++ ((x, .ins (cR K) dx [("ways", .int u.w), ("is_back", .bl u.bk), ("is_in", .bl u.inn), ("is_late", .bl u.lt), ("behind", .ref be.ad), ("title", .ref ti), ("diary", .ref di)]) :: (ti, .tup tl) :: R))))
      ⟨[], rfl, O.new hD⟩ ?_ ?_
    · rintro i H8 hi ⟨as, has, O8⟩
      refine ⟨rfl, tYes_go (iteT ⟨by show 0 ≤ sizeLine; decide, fun p hp => ?_⟩)⟩
      have O9 := O8.new (o := .lst []) hp
      refine ⟨as.map V.ref, O9.a1, ?_, as ++ [p], by simp [has], ?_⟩
      · rw [List.length_map]
        exact size1 (by rcases hu.s with e | e | e <;> omega)
      · have O10 := (O9.perm (L' := (D, .lst (as.map V.ref)) :: ((p, .lst []) :: ((as.map fun a => (a, HO.lst [])) ++ ((x, .ins (cR K) dx [("ways", .int u.w), ("is_back", .bl u.bk), ("is_in", .bl u.inn), ("is_late", .bl u.lt), ("behind", .ref be.ad), ("title", .ref ti), ("diary", .ref di)]) :: (ti, .tup tl) :: R)))) (by walk_at "perm")).set (o' := .lst (as.map V.ref ++ [.ref p]))
        simp only [List.map_append, List.map_cons, List.map_nil]
        exact O10.perm (by walk_at "perm")
    · rintro H8 ⟨as, has, O8⟩
      have O9 := O8.perm (L' := (x, .ins (cR K) dx [("ways", .int u.w), ("is_back", .bl u.bk), ("is_in", .bl u.inn), ("is_late", .bl u.lt), ("behind", .ref be.ad), ("title", .ref ti), ("diary", .ref di)]) :: ((D, .lst (as.map V.ref)) :: ((as.map fun a => (a, HO.lst [])) ++ ((ti, .tup tl) :: R)))) (by walk_at "perm")
      refine ⟨_, rfl, x, cR K, dx, _, rfl, O9.a0, T.cl_Room, T.na_Room_sets, by show 7 < 1000; decide, ?_⟩
      have O10 := O9.set (o' := .ins (cR K) dx (putF "sets" (.ref D) [("ways", .int u.w), ("is_back", .bl u.bk), ("is_in", .bl u.inn), ("is_late", .bl u.lt), ("behind", .ref be.ad), ("title", .ref ti), ("diary", .ref di)]))
      generalize upd H8 x _ = H9 at O10 ⊢
      simp only [pf_nil, pf_tl ne_sets_ways, pf_tl ne_sets_is_back, pf_tl ne_sets_is_in, pf_tl ne_sets_is_late, pf_tl ne_sets_behind, pf_tl ne_sets_title, pf_tl ne_sets_diary] at O10
      refine k (hdC (cR K) ⟨x, dx, D, ti, ⟨u.w, u.bk, u.inn, u.lt, tl⟩, be, di, as⟩ ++ stsC (cL K) (as.map fun a => (a, []))) H9 ⟨⟨x, dx, D, ti, ⟨u.w, u.bk, u.inn, u.lt, tl⟩, be, di, as⟩, as.map fun a => (a, []), rfl, rfl, rfl, rfl, ?_, ?_, rfl⟩ ?_
      · rw [List.map_map]
        exact (List.map_id as).symm
      · show List.replicate u.s [] = _
        rw [List.map_map, ← has]
        exact (List.map_const' ..).symm
      · rw [sts_nil]
        exact O10.perm (by unfold hdC hdO fRoom; walk_at "perm")
theorem in3 (u : Rul) (h : RulOk u) : inV (.int u.s) [V.int 1, .int 2, .int 4] = true := by
  rcases h.s with e | e | e <;> rw [e] <;> decide
theorem inBk (b : Bool) : inV (.str (sBk b)) [V.str "through", .str "back"] = true := by cases b <;> decide +kernel
theorem inIn (b : Bool) : inV (.str (sIn b)) [V.str "in", .str "by"] = true := by cases b <;> decide +kernel
theorem inLt (b : Bool) : inV (.str (sLt b)) [V.str "first", .str "late"] = true := by cases b <;> decide +kernel
theorem ok_is_rule (T : Txt K mg) : FnOk P w K mg base CX0 2 (He.fAd K ("is_rule", none)) T.fd_is_rule ["rule"] spIsRule := by
  have G_is_number := ok_is_number (P := P) (w := w) (base := base) T
  refine okOf T.F_is_rule sc_is_rule (fun vs H Q E h => ?_) (fun cdv A outer s H vs Q E hr h => ?_)
  · obtain ⟨_, _, rfl, _⟩ := h
    rfl
  · obtain ⟨ra, u, rfl, hu, hra, k⟩ := h
    have hs : (1 : Int) ≤ u.s ∧ (u.s : Int) ≤ 64 := by rcases hu.s with e | e | e <;> omega
    have hw : (1 : Int) ≤ u.w ∧ (u.w : Int) ≤ 4 := by have := hu.w0; have := hu.w4; omega
    refine ⟨_, (pss_cons (ps_if (PW.pt (pw_or (pt_not (pt_val (pe_callB call_isi (by rfl) T.n_isinstance (by decide +kernel) (pa_cons (pv 0) (pa_cons (pe_bltn (v := .ty "tuple") (by rfl) T.n_tuple (by decide +kernel) rfl) pa_nil))))) (pw_or (pt_cmpR op_ne (pe_callB call_len_seq (by rfl) T.n_len PySem.boot_len (pa_cons (pv 0) pa_nil)) pe_int (nomark _)) (pw_or (pt_not (pt_val (pe_call G_is_number (hr.mono (by omega)) rfl T.g_is_number T.k_is_number T.b_is_number .nil pass0 (pa_cons (pe_ix ix_tup (pv 0) pe_int (fun _ _ => rfl)) (pa_cons pe_int (pa_cons (pe_globI rfl T.g_CELLS) pa_nil)))))) (pw_or1 (pt_cmpR op_notIn_seq (pe_ix ix_tup (pv 0) pe_int (fun _ _ => rfl)) (pe_globR rfl T.g_SETS) (by rfl))))))) (pss_one (ps_ret pe_bl)) pss_nil) (pss_one (ps_ret (pe_and (pe_call G_is_number (hr.mono (by omega)) rfl T.g_is_number T.k_is_number T.b_is_number .nil pass0 (pa_cons (pe_ix ix_tup (pv 0) pe_int (fun _ _ => rfl)) (pa_cons pe_int (pa_cons (pe_globI rfl T.g_MOST_WAYS) pa_nil)))) (pe_and (pe_cmpR op_in_seq (pe_ix ix_tup (pv 0) pe_int (fun _ _ => rfl)) (pe_globR rfl T.g_WRITES) (by rfl)) (pe_and (pe_cmpR op_in_seq (pe_ix ix_tup (pv 0) pe_int (fun _ _ => rfl)) (pe_globR rfl T.g_TAKES) (by rfl)) (pe_one (pe_cmpR op_in_seq (pe_ix ix_tup (pv 0) pe_int (fun _ _ => rfl)) (pe_globR rfl T.g_LEAVES) (by rfl))))))))), ?_⟩
    refine ⟨_, rfl, _, _, _, _, true, rfl, ClsV.ty _, TyX.base (.tup hra), kit_ty (by decide +kernel), true, rfl, iteF ?_⟩
    refine ⟨_, rfl, ra, _, rfl, .inr (SqT.of hra), rfl, false, rfl, iteF ?_⟩
    refine ⟨_, rfl, ra, _, 0, .int u.s, rfl, rfl, SqT.of hra, rfl, u.s, 1, 64, rfl, true, by rw [decide_eq_true hs], iteF ?_⟩
    refine ⟨_, rfl, ra, _, 0, .int u.s, rfl, rfl, SqT.of hra, rfl, _, _, rfl, .inr (T.t_SETS H), rfl, rfl, false, by rw [in3 u hu]; rfl, iteF ?_⟩
    refine ⟨_, rfl, ra, _, 1, .int u.w, rfl, rfl, SqT.of hra, rfl, u.w, 1, 4, rfl, true, by rw [decide_eq_true hw], iteT ?_⟩
    refine ⟨_, rfl, ra, _, 2, _, rfl, rfl, SqT.of hra, rfl, _, _, rfl, .inr (T.t_WRITES H), rfl, rfl, true, by rw [inBk]; rfl, iteT ?_⟩
    refine ⟨_, rfl, ra, _, 3, _, rfl, rfl, SqT.of hra, rfl, _, _, rfl, .inr (T.t_TAKES H), rfl, rfl, true, by rw [inIn]; rfl, iteT ?_⟩
    refine ⟨_, rfl, ra, _, 4, _, rfl, rfl, SqT.of hra, rfl, _, _, rfl, .inr (T.t_LEAVES H), rfl, rfl, ?_⟩
    rw [inLt]
    exact k
end
-- WwH
/-! ### halls -/
structure Ha where
  own : List Rm
  t : Ta
def Pa.rooms : Pa → List Addr
  | .far _ => []
  | .room a be => a :: be.rooms
def Pa.last : Pa → Addr
  | .far la => la
  | .room _ be => be.last
structure HaA where
  x : Addr
  dx : Addr
  di : Addr
  sl : Addr
  ol : Addr
  sh : Pa
  owns : List Addr
def hallC (K : PySem.W.Frag) (A : HaA) : List Cell := [(A.x, .ins (cH K) A.dx (fHall (.ref A.di) (.ref A.sh.last) (.ref A.sl) (.ref A.ol))), (A.sl, .lst (A.sh.rooms.map V.ref)), (A.ol, .lst (A.owns.map V.ref))]
def OwnsRep (K : PySem.W.Frag) (di : Addr) (be : Pa) : List Addr → List Rm → List Cell → Prop
  | [], [], C => C = []
  | a :: as, r :: rs, C => ∃ C1 C2 : List Cell, RmRepK K di a be r C1 ∧ OwnsRep K di be as rs C2 ∧ C = C1 ++ C2
  | _, _, _ => False
def HallRepA (K : PySem.W.Frag) (A : HaA) (ha : Ha) (C : List Cell) : Prop := ∃ Co Cb D : List Cell, OwnsRep K A.di A.sh A.owns ha.own Co ∧ RepK K A.di A.sh ha.t.rs ha.t.far Cb ∧ DRep A.di ha.t.log D ∧ C = hallC K A ++ (Co ++ (Cb ++ D))
def HallRep (K : PySem.W.Frag) (x : Addr) (ha : Ha) (C : List Cell) : Prop := ∃ A : HaA, A.x = x ∧ HallRepA K A ha C
structure HaOk (n m : Nat) (ha : Ha) : Prop where
  t : TaOk n ha.t
  len : ha.own.length = m
  own : ∀ r ∈ ha.own, RmOk r
  n2 : n ≤ 2
  m1 : 1 ≤ m
  m3 : m ≤ 3
section
variable {K : PySem.W.Frag} {di : Addr} {be : Pa}
theorem OwnsRep.len : ∀ {as : List Addr} {rs : List Rm} {C : List Cell}, OwnsRep K di be as rs C → as.length = rs.length
  | [], [], _, _ => rfl
  | [], _ :: _, _, h => h.elim
  | _ :: _, [], _, h => h.elim
  | _ :: _, _ :: _, _, ⟨_, _, _, h, _⟩ => congrArg (· + 1) h.len
theorem OwnsRep.app : ∀ {as : List Addr} {rs : List Rm} {C C1 : List Cell} {a : Addr} {r : Rm}, OwnsRep K di be as rs C → RmRepK K di a be r C1 → OwnsRep K di be (as ++ [a]) (rs ++ [r]) (C ++ C1)
  | [], [], _, C1, a, r, h, k => by
    have h : _ = [] := h
    rw [h]
    exact ⟨C1, [], k, rfl, by simp⟩
  | [], _ :: _, _, _, _, _, h, _ => h.elim
  | _ :: _, [], _, _, _, _, h, _ => h.elim
  | b :: as, q :: rs, _, C1, a, r, ⟨D1, D2, h1, h2, e⟩, k => ⟨D1, D2 ++ C1, h1, OwnsRep.app h2 k, by rw [e, List.append_assoc]⟩
theorem OwnsRep.at : ∀ {as : List Addr} {rs : List Rm} {C : List Cell} {i : Nat} {r : Rm}, OwnsRep K di be as rs C → rs[i]? = some r →
    ∃ (a : Addr) (C1 Z : List Cell), as[i]? = some a ∧ RmRepK K di a be r C1 ∧ C.Perm (C1 ++ Z) ∧ ∀ (r' : Rm) (C1' : List Cell), RmRepK K di a be r' C1' → ∃ C', OwnsRep K di be as (rs.set i r') C' ∧ C'.Perm (C1' ++ Z)
  | [], [], _, i, r, _, e => by simp at e
  | [], _ :: _, _, _, _, h, _ => h.elim
  | _ :: _, [], _, _, _, h, _ => h.elim
  | b :: as, q :: rs, _, 0, r, ⟨D1, D2, h1, h2, e⟩, e0 => by
    have eq : q = r := by simpa using e0
    subst eq
    exact ⟨b, D1, D2, rfl, h1, by rw [e], fun r' C1' hr' => ⟨C1' ++ D2, ⟨C1', D2, hr', h2, rfl⟩, List.Perm.refl _⟩⟩
  | b :: as, q :: rs, _, i + 1, r, ⟨D1, D2, h1, h2, e⟩, e0 => by
    obtain ⟨a, C1, Z, g1, g2, g3, g4⟩ := OwnsRep.at (i := i) (r := r) h2 (by simpa using e0)
    refine ⟨a, C1, D1 ++ Z, by simpa using g1, g2, ?_, fun r' C1' hr' => ?_⟩
    · rw [e]
      refine (List.Perm.append_left _ g3).trans ?_
      walk_at "perm"
    · obtain ⟨C', k1, k2⟩ := g4 r' C1' hr'
      refine ⟨D1 ++ C', ⟨D1, C', h1, k1, rfl⟩, ?_⟩
      refine (List.Perm.append_left _ k2).trans ?_
      walk_at "perm"
end
def shRs : Nat → List Rul → List Rm
  | _, [] => []
  | lev, u :: us => mkRm u [.int lev, .int 0] :: shRs (lev + 1) us
def ownRs (u : Rul) (m : Nat) : List Rm := (List.range m).map fun h => mkRm u [.int 0, .int (h : Nat)]
def rul0 (us : List Rul) : Rul := us.getD 0 ⟨1, 1, true, true, true⟩
def hall0 (us : List Rul) (m : Nat) : Ha := ⟨ownRs (rul0 us) m, ⟨shRs 1 (us.drop 1), List.replicate 64 0, []⟩⟩
theorem shRs_len : ∀ (lev : Nat) (us : List Rul), (shRs lev us).length = us.length
  | _, [] => rfl
  | lev, u :: us => congrArg (· + 1) (shRs_len (lev + 1) us)
theorem shRs_ok : ∀ (lev : Nat) {us : List Rul}, (∀ u ∈ us, RulOk u) → ∀ r ∈ shRs lev us, RmOk r
  | _, [], _, r, hr => by cases hr
  | lev, u :: us, h, r, hr => by
    rcases List.mem_cons.mp hr with e | hr
    · rw [e]
      exact mkRm_ok (h u List.mem_cons_self) (by show 2 ≤ 4; omega)
    · exact shRs_ok (lev + 1) (fun v hv => h v (List.mem_cons_of_mem _ hv)) r hr
theorem rul0_ok {us : List Rul} (h : RulesOk us) : RulOk (rul0 us) ∧ us[0]? = some (rul0 us) := by
  cases us with
  | nil =>
    have := h.l1
    simp at this
  | cons u us => exact ⟨h.ok u List.mem_cons_self, rfl⟩
theorem hall0_ok {us : List Rul} (h : RulesOk us) {m : Nat} (h1 : 1 ≤ m) (h3 : m ≤ 3) : HaOk (us.length - 1) m (hall0 us m) := by
  refine ⟨⟨?_, ?_, rfl⟩, ?_, ?_, by have := h.l3; omega, h1, h3⟩
  · show (shRs 1 (us.drop 1)).length = _
    rw [shRs_len, List.length_drop]
  · exact shRs_ok 1 fun u hu => h.ok u (List.mem_of_mem_drop hu)
  · show (ownRs (rul0 us) m).length = m
    unfold ownRs
    rw [List.length_map, List.length_range]
  · intro r hr
    obtain ⟨i, _, rfl⟩ := List.mem_map.mp hr
    exact mkRm_ok (rul0_ok h).1 (by show 2 ≤ 4; omega)
def spHallInit (K : PySem.W.Frag) : Sp := fun vs H Q _ => ∃ (x dx rl : Addr) (us : List Rul) (m : Nat) (R : List Cell), vs = [.ref x, .ref rl, .int m] ∧ RulesOk us ∧ 1 ≤ m ∧ m ≤ 3 ∧ RulesAt R rl us ∧ Own H ((x, .ins (cH K) dx []) :: R) ∧
  ∀ (C : List Cell) (H' : Hp), HallRep K x (hall0 us m) C → Own H' (C ++ R) → Q .non H'
section
variable {P : Program} {w : World} {K : PySem.W.Frag} {mg : Str → Option Value} {base : Heap} {n lv : Nat}
end
-- WwI
/-! ### what a hall does, plainly -/
def yieldAt (n : Nat) (ha : Ha) (b : Nat) (g : Bool) (i : Nat) : Ha := match ha.own[i]? with
  | none => ha
  | some r => ⟨ha.own.set i (r.put b (yieldL (ops n) r.ru (r.ls b) ha.t b g).1), (yieldL (ops n) r.ru (r.ls b) ha.t b g).2⟩
def askN (n hand b : Nat) (g : Bool) : Nat → Ha → Ha
  | 0, ha => ha
  | k + 1, ha => if k = hand then askN n hand b g k ha else yieldAt n (askN n hand b g k ha) b g k
def ask (n : Nat) (ha : Ha) (hand b : Nat) (g : Bool) : Ha := askN n hand b g ha.own.length ha
def lookAt (n : Nat) (ha : Ha) (hand p : Nat) : Int × Ha := match ha.own[hand]? with
  | none => (0, ha)
  | some r => ((lookL (ops n) r.ru (r.ls (p / 4)) ha.t p).1, ⟨ha.own.set hand (r.put (p / 4) (lookL (ops n) r.ru (r.ls (p / 4)) ha.t p).2.1), (lookL (ops n) r.ru (r.ls (p / 4)) ha.t p).2.2⟩)
def changeAt (n : Nat) (ha : Ha) (hand p : Nat) (v : Int) : Ha := match ha.own[hand]? with
  | none => ha
  | some r => ⟨ha.own.set hand (r.put (p / 4) (changeL (ops n) r.ru (r.ls (p / 4)) ha.t p v).1), (changeL (ops n) r.ru (r.ls (p / 4)) ha.t p v).2⟩
def hLook (n : Nat) (ha : Ha) (hand p : Nat) : Int × Ha := lookAt n (ask n ha hand (p / 4) false) hand p
def hChange (n : Nat) (ha : Ha) (hand p : Nat) (v : Int) : Ha := changeAt n (ask n ha hand (p / 4) true) hand p v
section
variable {n m : Nat} {ha : Ha}
theorem HaOk.set (h : HaOk n m ha) {i : Nat} {r : Rm} {t : Ta} (hr : RmOk r) (ht : TaOk n t) : HaOk n m ⟨ha.own.set i r, t⟩ :=
  ⟨ht, by show (ha.own.set i r).length = m; rw [List.length_set]; exact h.len, fun r' hm => by
    rcases List.mem_or_eq_of_mem_set hm with hm | e
    · exact h.own r' hm
    · rw [e]
      exact hr, h.n2, h.m1, h.m3⟩
theorem g12 (h : n ≤ 2) : gOf n ≤ 12 := by
  match n, h with
  | 0, _ => decide
  | 1, _ => decide
  | 2, _ => decide
theorem yieldAt_ok (h : HaOk n m ha) {b : Nat} (hb : b < 16) (g : Bool) (i : Nat) : HaOk n m (yieldAt n ha b g i) ∧ (yieldAt n ha b g i).t.log.length ≤ ha.t.log.length + 13 := by
  unfold yieldAt
  cases e : ha.own[i]? with
  | none => exact ⟨h, by show ha.t.log.length ≤ _; omega⟩
  | some r =>
    have hr := h.own r (List.mem_of_getElem? e)
    obtain ⟨h1, h2, h3⟩ := yieldL_ok (ops_ok n) (hr.ls b) h.t hb (gone := g)
    have := g12 h.n2
    exact ⟨h.set (put_ok hr h1) h2, by show (yieldL (ops n) r.ru (r.ls b) ha.t b g).2.log.length ≤ _; omega⟩
theorem askN_ok (h : HaOk n m ha) {b : Nat} (hb : b < 16) (hand : Nat) (g : Bool) : ∀ k, HaOk n m (askN n hand b g k ha) ∧ (askN n hand b g k ha).t.log.length ≤ ha.t.log.length + 13 * k
  | 0 => ⟨h, Nat.le_refl _⟩
  | k + 1 => by
    obtain ⟨h1, h2⟩ := askN_ok h hb hand g k
    unfold askN
    split
    · exact ⟨h1, by omega⟩
    · obtain ⟨h3, h4⟩ := yieldAt_ok h1 hb g k
      exact ⟨h3, by omega⟩
theorem ask_ok (h : HaOk n m ha) {b : Nat} (hb : b < 16) (hand : Nat) (g : Bool) : HaOk n m (ask n ha hand b g) ∧ (ask n ha hand b g).t.log.length ≤ ha.t.log.length + 39 := by
  obtain ⟨h1, h2⟩ := askN_ok h hb hand g ha.own.length
  have := h.len
  have := h.m3
  exact ⟨h1, by show (askN n hand b g ha.own.length ha).t.log.length ≤ _; omega⟩
theorem lookAt_ok (h : HaOk n m ha) (hand : Nat) {p : Nat} (hp : p < 64) : HaOk n m (lookAt n ha hand p).2 ∧ (lookAt n ha hand p).2.t.log.length ≤ ha.t.log.length + 26 := by
  unfold lookAt
  cases e : ha.own[hand]? with
  | none => exact ⟨h, by show ha.t.log.length ≤ _; omega⟩
  | some r =>
    have hr := h.own r (List.mem_of_getElem? e)
    obtain ⟨h1, h2, h3⟩ := lookL_ok (ops_ok n) hr.ru (hr.ls (p / 4)) h.t hp
    have := g12 h.n2
    exact ⟨h.set (put_ok hr h1) h2, by show (lookL (ops n) r.ru (r.ls (p / 4)) ha.t p).2.2.log.length ≤ _; omega⟩
theorem changeAt_ok (h : HaOk n m ha) (hand : Nat) {p : Nat} (hp : p < 64) (v : Int) : HaOk n m (changeAt n ha hand p v) ∧ (changeAt n ha hand p v).t.log.length ≤ ha.t.log.length + 39 := by
  unfold changeAt
  cases e : ha.own[hand]? with
  | none => exact ⟨h, by show ha.t.log.length ≤ _; omega⟩
  | some r =>
    have hr := h.own r (List.mem_of_getElem? e)
    obtain ⟨h1, h2, h3⟩ := changeL_ok (v := v) (ops_ok n) hr.ru (hr.ls (p / 4)) h.t hp
    have := g12 h.n2
    exact ⟨h.set (put_ok hr h1) h2, by show (changeL (ops n) r.ru (r.ls (p / 4)) ha.t p v).2.log.length ≤ _; omega⟩
theorem hLook_ok (h : HaOk n m ha) (hand : Nat) {p : Nat} (hp : p < 64) : HaOk n m (hLook n ha hand p).2 ∧ (hLook n ha hand p).2.t.log.length ≤ ha.t.log.length + 100 := by
  obtain ⟨h1, h2⟩ := ask_ok h (show p / 4 < 16 by omega) hand false
  obtain ⟨h3, h4⟩ := lookAt_ok h1 hand hp
  exact ⟨h3, by show (lookAt n _ hand p).2.t.log.length ≤ _; omega⟩
theorem hChange_ok (h : HaOk n m ha) (hand : Nat) {p : Nat} (hp : p < 64) (v : Int) : HaOk n m (hChange n ha hand p v) ∧ (hChange n ha hand p v).t.log.length ≤ ha.t.log.length + 100 := by
  obtain ⟨h1, h2⟩ := ask_ok h (show p / 4 < 16 by omega) hand true
  obtain ⟨h3, h4⟩ := changeAt_ok h1 hand hp v
  exact ⟨h3, by show (changeAt n _ hand p v).t.log.length ≤ _; omega⟩
end
/-! ### promises of a hall -/
def LH (ha : Ha) : Prop := ha.t.log.length ≤ 900000
def spHNeed (K : PySem.W.Frag) : Sp := fun vs H Q _ => ∃ (A : HaA) (hand p : Nat) (R : List Cell), vs = [.ref A.x, .int hand, .int p] ∧ hand < A.owns.length ∧ p < 64 ∧ Own H (hallC K A ++ R) ∧ Q .non H
def spHAsk (K : PySem.W.Frag) : Sp := fun vs H Q _ => ∃ (A : HaA) (n m hand p : Nat) (g : Bool) (ha : Ha) (C R : List Cell), vs = [.ref A.x, .int hand, .int p, .bl g] ∧ p < 64 ∧ HaOk n m ha ∧ LH ha ∧ HallRepA K A ha C ∧ Own H (C ++ R) ∧
  ∀ (C' : List Cell) (H' : Hp), HallRepA K A (ask n ha hand (p / 4) g) C' → Own H' (C' ++ R) → Q .non H'
def spHLook (K : PySem.W.Frag) : Sp := fun vs H Q _ => ∃ (x : Addr) (n m hand p : Nat) (ha : Ha) (C R : List Cell), vs = [.ref x, .int hand, .int p] ∧ hand < m ∧ p < 64 ∧ HaOk n m ha ∧ LH ha ∧ HallRep K x ha C ∧ Own H (C ++ R) ∧
  ∀ (C' : List Cell) (H' : Hp), HallRep K x (hLook n ha hand p).2 C' → Own H' (C' ++ R) → Q (.int (hLook n ha hand p).1) H'
def spHChange (K : PySem.W.Frag) : Sp := fun vs H Q _ => ∃ (x : Addr) (n m hand p : Nat) (v : Int) (ha : Ha) (C R : List Cell), vs = [.ref x, .int hand, .int p, .int v] ∧ hand < m ∧ p < 64 ∧ 0 ≤ v ∧ v ≤ 999 ∧ HaOk n m ha ∧ LH ha ∧ HallRep K x ha C ∧ Own H (C ++ R) ∧
  ∀ (C' : List Cell) (H' : Hp), HallRep K x (hChange n ha hand p v) C' → Own H' (C' ++ R) → Q .non H'
def spHFar (K : PySem.W.Frag) : Sp := fun vs H Q _ => ∃ (x : Addr) (n m : Nat) (ha : Ha) (C R : List Cell), vs = [.ref x] ∧ HaOk n m ha ∧ HallRep K x ha C ∧ Own H (C ++ R) ∧
  ∀ (p : Addr) (H' : Hp), Own H' ((p, .lst (ha.t.far.map V.int)) :: (C ++ R)) → Q (.ref p) H'
/-- the room of a level, as a hand sees it -/
def roomAt (ha : Ha) (level hand : Nat) : Option Rm := if level = 0 then ha.own[hand]? else ha.t.rs[level - 1]?
def spHNear (K : PySem.W.Frag) : Sp := fun vs H Q _ => ∃ (x : Addr) (n m level hand : Nat) (ha : Ha) (r : Rm) (C R : List Cell), vs = [.ref x, .int level, .int hand] ∧ level ≤ n ∧ hand < m ∧ HaOk n m ha ∧ HallRep K x ha C ∧ roomAt ha level hand = some r ∧ Own H (C ++ R) ∧
  ∀ (p : Addr) (N : List Cell) (H' : Hp), DpL N (.ref p) (ssD r.ss) → Own H' (N ++ (C ++ R)) → Q (.ref p) H'
theorem Rep.rooms {CF CL CR di : Addr} : ∀ {be : Pa} {rs : List Rm} {far : List Int} {C : List Cell}, Rep CF CL CR di be rs far C → be.rooms.length = rs.length
  | .far _, [], _, _, _ => rfl
  | .far _, _ :: _, _, _, h => h.elim
  | .room _ _, [], _, _, h => h.elim
  | .room _ be, _ :: _, _, _, ⟨_, _, _, h, _⟩ => congrArg (· + 1) (Rep.rooms h)
theorem Rep.at {CF CL CR di : Addr} : ∀ {be : Pa} {rs : List Rm} {far : List Int} {C : List Cell} {j : Nat} {r : Rm}, Rep CF CL CR di be rs far C → rs[j]? = some r → ∃ (a : Addr) (be' : Pa) (C1 Z : List Cell), be.rooms[j]? = some a ∧ RmRep CL CR di a be' r C1 ∧ C.Perm (C1 ++ Z)
  | .far _, [], _, _, j, r, _, e => by simp at e
  | .far _, _ :: _, _, _, _, _, h, _ => h.elim
  | .room _ _, [], _, _, _, _, h, _ => h.elim
  | .room a be, q :: rs, _, _, 0, r, ⟨C1, C2, h1, h2, e⟩, e0 => by
    have eq : q = r := by simpa using e0
    subst eq
    exact ⟨a, be, C1, C2, rfl, h1, by rw [e]⟩
  | .room a be, q :: rs, _, _, j + 1, r, ⟨C1, C2, h1, h2, e⟩, e0 => by
    obtain ⟨a', be', D1, Z, g1, g2, g3⟩ := Rep.at (j := j) (r := r) h2 (by simpa using e0)
    refine ⟨a', be', D1, C1 ++ Z, by simpa [Pa.rooms] using g1, g2, ?_⟩
    rw [e]
    refine (List.Perm.append_left _ g3).trans ?_
    walk_at "perm"
theorem Rep.last {CF CL CR di : Addr} : ∀ {be : Pa} {rs : List Rm} {far : List Int} {C : List Cell}, Rep CF CL CR di be rs far C → ∃ (dx fl : Addr) (Z : List Cell), C.Perm ((be.last, .ins CF dx (fFar (.ref fl))) :: (fl, .lst (far.map V.int)) :: Z)
  | .far _, [], _, _, ⟨dx, fl, e⟩ => ⟨dx, fl, [], by rw [e]; exact List.Perm.refl _⟩
  | .far _, _ :: _, _, _, h => h.elim
  | .room _ _, [], _, _, h => h.elim
  | .room _ be, _ :: _, _, _, ⟨C1, C2, _, h, e⟩ => by
    obtain ⟨dx, fl, Z, g⟩ := Rep.last h
    refine ⟨dx, fl, C1 ++ Z, ?_⟩
    rw [e]
    refine (List.Perm.append_left _ g).trans ?_
    show (C1 ++ ((be.last, _) :: _ :: Z)).Perm ((be.last, _) :: _ :: (C1 ++ Z))
    walk_at "perm"
section
variable {P : Program} {w : World} {K : PySem.W.Frag} {mg : Str → Option Value} {base : Heap} {n lv : Nat}
theorem HallRepA.own {A : HaA} {ha : Ha} {C : List Cell} (h : HallRepA K A ha C) : A.owns.length = ha.own.length := by
  obtain ⟨Co, Cb, D, h1, _⟩ := h
  exact h1.len
/-- one own room taken out: what a step of it asks, and what it leaves -/
theorem HallRepA.at {A : HaA} {ha : Ha} {C R : List Cell} {H : Hp} {n m i : Nat} {r : Rm} (h : HallRepA K A ha C) (hk : HaOk n m ha) (hl : ha.t.log.length ≤ 999000) (e : ha.own[i]? = some r) (O : Own H (C ++ R)) :
    ∃ (a : Addr) (C1 Cb D R' : List Cell), A.owns[i]? = some a ∧ RPre K n H A.di a A.sh r ha.t C1 Cb D (hallC K A ++ R') ∧
      ∀ (r' : Rm) (t' : Ta) (H' : Hp), RPost K A.di a A.sh (hallC K A ++ R') r' t' H' → ∃ C', HallRepA K A ⟨ha.own.set i r', t'⟩ C' ∧ Own H' (C' ++ R) := by
  obtain ⟨Co, Cb, D, h1, h2, h3, rfl⟩ := h
  obtain ⟨a, C1, Z, g1, g2, g3, g4⟩ := h1.at e
  refine ⟨a, C1, Cb, D, Z ++ R, g1, ⟨hk.own r (List.mem_of_getElem? e), hk.t, ⟨by have := hk.n2; omega, ?_⟩, g2, h2, h3, O.perm ?_⟩, fun r' t' H' hp => ?_⟩
  · have := hk.n2
    omega
  · refine (List.Perm.append_right R (List.Perm.append_left (hallC K A) (List.Perm.append_right (Cb ++ D) g3))).trans ?_
    walk_at "perm"
  · obtain ⟨C1', Cb', D', k1, k2, k3, O'⟩ := hp
    obtain ⟨C', j1, j2⟩ := g4 r' C1' k1
    refine ⟨hallC K A ++ (C' ++ (Cb' ++ D')), ⟨C', Cb', D', j1, k2, k3, rfl⟩, O'.perm ?_⟩
    refine List.Perm.trans ?_ (List.Perm.append_right R (List.Perm.append_left (hallC K A) (List.Perm.append_right (Cb' ++ D') j2))).symm
    walk_at "perm"
theorem room_obj {A : HaA} {a : Addr} {be : Pa} {r : Rm} {C1 : List Cell} (h : RmRepK K A.di a be r C1) : ∃ (dx : Addr) (w bk inn lt b ti di ss : V), (a, HO.ins (cR K) dx (fRoom w bk inn lt b ti di ss)) ∈ C1 := by
  obtain ⟨hdr, ssr, ea, _, _, _, _, _, eD1⟩ := h
  rw [← ea, eD1]
  exact ⟨_, _, _, _, _, _, _, _, _, List.mem_append_left _ List.mem_cons_self⟩
end
-- WwJ
/-! ### the law's draws -/
def spRule (K : PySem.W.Frag) : Sp := fun vs H Q _ => ∃ (rw : Addr) (S : List Cell) (c : Cell) (R : List Cell), vs = [.ref rw] ∧ RowC K rw S c ∧ Own H (c :: (S ++ R)) ∧
  ∀ (u : Rul) (p : Addr) (c' : Cell) (H' : Hp), RulOk u → RowC K rw S c' → Own H' (c' :: (S ++ ((p, .tup u.vs) :: R))) → Q (.ref p) H'
def spRules (K : PySem.W.Frag) : Sp := fun vs H Q _ => ∃ (rw : Addr) (S : List Cell) (c : Cell) (R : List Cell), vs = [.ref rw] ∧ RowC K rw S c ∧ Own H (c :: (S ++ R)) ∧
  ∀ (us : List Rul) (p : Addr) (N : List Cell) (c' : Cell) (H' : Hp), RulesOk us → RulesAt N p us → RowC K rw S c' → Own H' (c' :: (S ++ (N ++ R))) → Q (.ref p) H'
def spPlace (K : PySem.W.Frag) : Sp := fun vs H Q _ => ∃ (rw : Addr) (S : List Cell) (c : Cell) (most : Int) (R : List Cell), vs = [.ref rw, .int most] ∧ 0 < most ∧ most ≤ 64 ∧ RowC K rw S c ∧ Own H (c :: (S ++ R)) ∧
  ∀ (v : Int) (c' : Cell) (H' : Hp), 0 ≤ v → v < 64 → RowC K rw S c' → Own H' (c' :: (S ++ R)) → Q (.int v) H'
inductive Deed where
  | look (h p : Nat)
  | set (h p : Nat) (v : Int)
def Deed.vs : Deed → List V
  | .look h p => [.str "look", .int h, .int p]
  | .set h p v => [.str "set", .int h, .int p, .int v]
def Deed.ok (m : Nat) : Deed → Prop
  | .look h p => h < m ∧ p < 64
  | .set h p v => h < m ∧ p < 64 ∧ 0 ≤ v ∧ v ≤ 999
def Deed.h : Deed → Nat
  | .look h _ => h
  | .set h _ _ => h
def Deed.p : Deed → Nat
  | .look _ p => p
  | .set _ p _ => p
theorem RA.app {R : List Cell} : ∀ {as bs : List Addr} {us vs : List Rul}, RA R as us → RA R bs vs → RA R (as ++ bs) (us ++ vs)
  | [], _, [], _, _, k => k
  | [], _, _ :: _, _, h, _ => h.elim
  | _ :: _, _, [], _, h, _ => h.elim
  | _ :: _, _, _ :: _, _, h, k => ⟨h.1, RA.app h.2 k⟩
def DeedsAt (N : List Cell) (p : Addr) (ds : List Deed) : Prop := ∃ as : List Addr, (p, HO.lst (as.map V.ref)) ∈ N ∧ TA N as (ds.map Deed.vs)
def spDeeds (K : PySem.W.Frag) : Sp := fun vs H Q _ => ∃ (rw : Addr) (S : List Cell) (c : Cell) (m most : Nat) (R : List Cell), vs = [.ref rw, .int m, .int most] ∧ 1 ≤ m ∧ m ≤ 3 ∧ most ≤ 200 ∧ RowC K rw S c ∧ Own H (c :: (S ++ R)) ∧
  ∀ (ds : List Deed) (p : Addr) (N : List Cell) (c' : Cell) (H' : Hp), (∀ d ∈ ds, d.ok m) → ds.length ≤ most → DeedsAt N p ds → RowC K rw S c' → Own H' (c' :: (S ++ (N ++ R))) → Q (.ref p) H'
def doDeed (n : Nat) (ha : Ha) : Deed → V × Ha
  | .look h p => (.int (hLook n ha h p).1, (hLook n ha h p).2)
  | .set h p v => (.non, hChange n ha h p v)
theorem doDeed_ok {n m : Nat} {ha : Ha} (h : HaOk n m ha) {d : Deed} (hd : d.ok m) : HaOk n m (doDeed n ha d).2 ∧ (doDeed n ha d).2.t.log.length ≤ ha.t.log.length + 100 := by
  cases d with
  | look hh p => exact hLook_ok h hh hd.2
  | set hh p v => exact hChange_ok h hh hd.2.1 v
def spUse (K : PySem.W.Frag) : Sp := fun vs H Q _ => ∃ (x da : Addr) (n m : Nat) (d : Deed) (ha : Ha) (C R : List Cell), vs = [.ref x, .ref da] ∧ d.ok m ∧ (da, HO.tup d.vs) ∈ R ∧ HaOk n m ha ∧ LH ha ∧ HallRep K x ha C ∧ Own H (C ++ R) ∧
  ∀ (C' : List Cell) (H' : Hp), HallRep K x (doDeed n ha d).2 C' → Own H' (C' ++ R) → Q (doDeed n ha d).1 H'
section
variable {P : Program} {w : World} {K : PySem.W.Frag} {mg : Str → Option Value} {base : Heap} {n lv : Nat}
theorem ok_rule (T : Txt K mg) : FnOk P w K mg base CX0 2 (He.fAd K ("_law_rule", none)) T.fd__law_rule ["_law_row"] (spRule K) := by
  have G__law_taken := ok_taken (P := P) (w := w) (base := base) T
  refine okOf T.F__law_rule sc__law_rule (fun vs H Q E h => ?_) (fun cdv A outer s H vs Q E hr h => ?_)
  · obtain ⟨_, _, _, _, rfl, _⟩ := h
    rfl
  · obtain ⟨rw, S, c, R, rfl, hc, O, k⟩ := h
    refine ⟨_, (pss_cons (ps_par (by rfl) sc__law_rule.nd (i := 1) (j := 2) rfl rfl (by decide) rfl rfl (pa_cons (pe_ix ix_list (pe_lst (pa_cons pe_str (pa_cons pe_str (pa_cons pe_str pa_nil)))) (pe_call G__law_taken (hr.mono (by omega)) rfl T.g__law_taken T.k__law_taken T.b__law_taken .nil pass0 (pa_cons (pv 0) (pa_cons pe_int pa_nil))) (fun _ _ => rfl)) (pa_cons (pe_ix ix_list (pe_lst (pa_cons pe_str (pa_cons pe_str (pa_cons pe_str pa_nil)))) (pe_call G__law_taken (hr.mono (by omega)) rfl T.g__law_taken T.k__law_taken T.b__law_taken .nil pass0 (pa_cons (pv 0) (pa_cons pe_int pa_nil))) (fun _ _ => rfl)) pa_nil)) (by rfl)) (pss_one (ps_ret (pe_tup (pa_cons (pe_ix ix_list (pe_lst (pa_cons pe_int (pa_cons pe_int (pa_cons pe_int pa_nil)))) (pe_call G__law_taken (hr.mono (by omega)) rfl T.g__law_taken T.k__law_taken T.b__law_taken .nil pass0 (pa_cons (pv 0) (pa_cons pe_int pa_nil))) (fun _ _ => rfl)) (pa_cons (pe_op op_add pe_int (pe_call G__law_taken (hr.mono (by omega)) rfl T.g__law_taken T.k__law_taken T.b__law_taken .nil pass0 (pa_cons (pv 0) (pa_cons pe_int pa_nil)))) (pa_cons (pv 1) (pa_cons (pv 2) (pa_cons (pe_ix ix_list (pe_lst (pa_cons pe_str (pa_cons pe_str pa_nil))) (pe_call G__law_taken (hr.mono (by omega)) rfl T.g__law_taken T.k__law_taken T.b__law_taken .nil pass0 (pa_cons (pv 0) (pa_cons pe_int pa_nil))) (fun _ _ => rfl)) pa_nil))))))))), ?_⟩
    refine ⟨by show 3 ≤ sizeLine; decide, fun p1 hp1 => ?_⟩
    have O1 := O.new (o := .lst [.str "through", .str "back", .str "back"]) hp1
    refine ⟨_, rfl, rw, S, c, 3, (p1, .lst [.str "through", .str "back", .str "back"]) :: R, rfl, hc, by decide, O1.perm (by walk_at "perm"), fun v1 c1 H1 h10 h11 hc1 O2 => ?_⟩
    obtain ⟨y1, ey1, hy1⟩ := pick3 (a := V.str "through") (b := .str "back") (c := .str "back") h10 h11
    obtain ⟨bk, rfl⟩ : ∃ bk, y1 = .str (sBk bk) := by
      rcases hy1 with e | e | e
      · exact ⟨false, e⟩
      · exact ⟨true, e⟩
      · exact ⟨true, e⟩
    refine ⟨p1, _, _, _, rfl, rfl, SqL.of (O2.mem (by simp)), ey1, ?_⟩
    replace O2 := Own.right (L' := [(p1, .lst [.str "through", .str "back", .str "back"])]) (O2.perm (L' := [(p1, .lst [.str "through", .str "back", .str "back"])] ++ (c1 :: (S ++ R))) (by walk_at "perm"))
    refine ⟨by show 3 ≤ sizeLine; decide, fun p2 hp2 => ?_⟩
    have O3 := O2.new (o := .lst [.str "in", .str "in", .str "by"]) hp2
    refine ⟨_, rfl, rw, S, c1, 3, (p2, .lst [.str "in", .str "in", .str "by"]) :: R, rfl, hc1, by decide, O3.perm (by walk_at "perm"), fun v2 c2 H2 h20 h21 hc2 O4 => ?_⟩
    obtain ⟨y2, ey2, hy2⟩ := pick3 (a := V.str "in") (b := .str "in") (c := .str "by") h20 h21
    obtain ⟨inn, rfl⟩ : ∃ inn, y2 = .str (sIn inn) := by
      rcases hy2 with e | e | e
      · exact ⟨true, e⟩
      · exact ⟨true, e⟩
      · exact ⟨false, e⟩
    refine ⟨p2, _, _, _, rfl, rfl, SqL.of (O4.mem (by simp)), ey2, _, _, rfl, ?_⟩
    replace O4 := Own.right (L' := [(p2, .lst [.str "in", .str "in", .str "by"])]) (O4.perm (L' := [(p2, .lst [.str "in", .str "in", .str "by"])] ++ (c2 :: (S ++ R))) (by walk_at "perm"))
    refine ⟨by show 3 ≤ sizeLine; decide, fun p3 hp3 => ?_⟩
    have O5 := O4.new (o := .lst [.int 1, .int 2, .int 4]) hp3
    refine ⟨_, rfl, rw, S, c2, 3, (p3, .lst [.int 1, .int 2, .int 4]) :: R, rfl, hc2, by decide, O5.perm (by walk_at "perm"), fun v3 c3 H3 h30 h31 hc3 O6 => ?_⟩
    obtain ⟨y3, ey3, hy3⟩ := pick3 (a := V.int 1) (b := .int 2) (c := .int 4) h30 h31
    obtain ⟨sn, rfl, hsn⟩ : ∃ sn : Nat, y3 = .int sn ∧ (sn = 1 ∨ sn = 2 ∨ sn = 4) := by
      rcases hy3 with e | e | e
      · exact ⟨1, e, .inl rfl⟩
      · exact ⟨2, e, .inr (.inl rfl)⟩
      · exact ⟨4, e, .inr (.inr rfl)⟩
    refine ⟨p3, _, _, _, rfl, rfl, SqL.of (O6.mem (by simp)), ey3, ?_⟩
    replace O6 := Own.right (L' := [(p3, .lst [.int 1, .int 2, .int 4])]) (O6.perm (L' := [(p3, .lst [.int 1, .int 2, .int 4])] ++ (c3 :: (S ++ R))) (by walk_at "perm"))
    refine ⟨_, rfl, rw, S, c3, 4, R, rfl, hc3, by decide, O6, fun v4 c4 H4 h40 h41 hc4 O7 => ?_⟩
    refine ⟨_, _, rfl, rfl, _, rfl, _, rfl, by show 2 ≤ sizeLine; decide, fun p5 hp5 => ?_⟩
    have O8 := O7.new (o := .lst [.str "first", .str "late"]) hp5
    refine ⟨_, rfl, rw, S, c4, 2, (p5, .lst [.str "first", .str "late"]) :: R, rfl, hc4, by decide, O8.perm (by walk_at "perm"), fun v5 c5 H5 h50 h51 hc5 O9 => ?_⟩
    obtain ⟨y5, ey5, hy5⟩ := pick2 (a := V.str "first") (b := .str "late") h50 h51
    obtain ⟨lt, rfl⟩ : ∃ lt, y5 = .str (sLt lt) := by
      rcases hy5 with e | e
      · exact ⟨false, e⟩
      · exact ⟨true, e⟩
    refine ⟨p5, _, _, _, rfl, rfl, SqL.of (O9.mem (by simp)), ey5, by show 5 ≤ sizeLine; decide, fun q hq => ?_⟩
    replace O9 := Own.right (L' := [(p5, .lst [.str "first", .str "late"])]) (O9.perm (L' := [(p5, .lst [.str "first", .str "late"])] ++ (c5 :: (S ++ R))) (by walk_at "perm"))
    have e4 : (1 : Int) + v4 = ((v4.toNat + 1 : Nat) : Int) := by omega
    have O10 := O9.new (o := .tup [.int sn, .int ((1 : Int) + v4), .str (sBk bk), .str (sIn inn), .str (sLt lt)]) hq
    refine k ⟨sn, v4.toNat + 1, bk, inn, lt⟩ q c5 _ ⟨hsn, by show 1 ≤ v4.toNat + 1; omega, by show v4.toNat + 1 ≤ 4; omega⟩ hc5 ?_
    unfold Rul.vs
    dsimp only
    rw [← e4]
    exact O10.perm (by walk_at "perm")
theorem ok_place (T : Txt K mg) : FnOk P w K mg base CX0 2 (He.fAd K ("_law_place", none)) T.fd__law_place ["_law_row", "_law_most"] (spPlace K) := by
  have G__law_taken := ok_taken (P := P) (w := w) (base := base) T
  refine okOf T.F__law_place sc__law_place (fun vs H Q E h => ?_) (fun cdv A outer s H vs Q E hr h => ?_)
  · obtain ⟨_, _, _, _, _, rfl, _⟩ := h
    rfl
  · obtain ⟨rw, S, c, most, R, rfl, hm0, hm64, hc, O, k⟩ := h
    refine ⟨_, (pss_one (ps_ret (pe_ix ix_list (pe_lst (pa_cons (pe_call G__law_taken (hr.mono (by omega)) rfl T.g__law_taken T.k__law_taken T.b__law_taken .nil pass0 (pa_cons (pv 0) (pa_cons (pv 1) pa_nil))) (pa_cons (pe_call G__law_taken (hr.mono (by omega)) rfl T.g__law_taken T.k__law_taken T.b__law_taken .nil pass0 (pa_cons (pv 0) (pa_cons (pv 1) pa_nil))) (pa_cons (pe_call G__law_taken (hr.mono (by omega)) rfl T.g__law_taken T.k__law_taken T.b__law_taken .nil pass0 (pa_cons (pv 0) (pa_cons pe_int pa_nil))) pa_nil)))) (pe_call G__law_taken (hr.mono (by omega)) rfl T.g__law_taken T.k__law_taken T.b__law_taken .nil pass0 (pa_cons (pv 0) (pa_cons pe_int pa_nil))) (fun _ _ => rfl)))), ?_⟩
    refine ⟨_, rfl, _, rfl, rw, S, c, most, R, rfl, hc, hm0, O, fun v1 c1 H1 h10 h11 hc1 O1 => ?_⟩
    refine ⟨_, rfl, _, rfl, rw, S, c1, most, R, rfl, hc1, hm0, O1, fun v2 c2 H2 h20 h21 hc2 O2 => ?_⟩
    refine ⟨_, rfl, rw, S, c2, 64, R, rfl, hc2, by decide, O2, fun v3 c3 H3 h30 h31 hc3 O3 => ?_⟩
    refine ⟨by show 3 ≤ sizeLine; decide, fun p hp => ?_⟩
    have O4 := O3.new (o := .lst [.int v1, .int v2, .int v3]) hp
    refine ⟨_, rfl, rw, S, c3, 3, (p, .lst [.int v1, .int v2, .int v3]) :: R, rfl, hc3, by decide, O4.perm (by walk_at "perm"), fun v4 c4 H4 h40 h41 hc4 O5 => ?_⟩
    obtain ⟨y, ey, hy⟩ := pick3 (a := V.int v1) (b := .int v2) (c := .int v3) h40 h41
    obtain ⟨v, rfl, hv0, hv1⟩ : ∃ v : Int, y = .int v ∧ 0 ≤ v ∧ v < 64 := by
      rcases hy with e | e | e
      · exact ⟨v1, e, h10, by omega⟩
      · exact ⟨v2, e, h20, by omega⟩
      · exact ⟨v3, e, h30, by omega⟩
    refine ⟨p, _, _, _, rfl, rfl, SqL.of (O5.mem (by simp)), ey, ?_⟩
    exact k v c4 H4 hv0 hv1 hc4 (Own.right (L' := [(p, .lst [.int v1, .int v2, .int v3])]) (O5.perm (by walk_at "perm")))
end
-- WwCoh
/-! ### what a room's lines tell -/
def lnOf (c : Nat) : List Ln → Option Ln
  | [] => none
  | l :: r => if l.b = c then some l else lnOf c r
theorem lnOf_mem {c : Nat} : ∀ {ls : List Ln} {l : Ln}, lnOf c ls = some l → l ∈ ls ∧ l.b = c
  | [], l, h => by cases h
  | a :: r, l, h => by
    unfold lnOf at h
    by_cases e : a.b = c
    · rw [if_pos e] at h
      cases h
      exact ⟨List.mem_cons_self, e⟩
    · rw [if_neg e] at h
      obtain ⟨h1, h2⟩ := lnOf_mem h
      exact ⟨List.mem_cons_of_mem _ h1, h2⟩
theorem lnOf_none {c : Nat} : ∀ {ls : List Ln}, lnOf c ls = none → ∀ l ∈ ls, l.b ≠ c
  | [], _, l, hl => by cases hl
  | a :: r, h, l, hl => by
    unfold lnOf at h
    by_cases e : a.b = c
    · rw [if_pos e] at h
      cases h
    · rw [if_neg e] at h
      rcases List.mem_cons.mp hl with e' | hm
      · rw [e']
        exact e
      · exact lnOf_none h l hm
theorem lnOf_iff {c : Nat} : ∀ {ls : List Ln} {l : Ln}, (ls.map (·.b)).Nodup → l ∈ ls → l.b = c → lnOf c ls = some l
  | [], l, _, hl, _ => by cases hl
  | a :: r, l, hn, hl, e => by
    rw [List.map_cons] at hn
    obtain ⟨h1, h2⟩ := List.nodup_cons.mp hn
    unfold lnOf
    rcases List.mem_cons.mp hl with e' | hm
    · rw [← e', if_pos e]
    · have : a.b ≠ c := fun z => h1 (List.mem_map.mpr ⟨l, hm, by rw [e, z]⟩)
      rw [if_neg this]
      exact lnOf_iff h2 hm e
theorem lnOf_no {c : Nat} {ls : List Ln} (h : ∀ l ∈ ls, l.b ≠ c) : lnOf c ls = none := by
  cases e : lnOf c ls with
  | none => rfl
  | some l =>
    obtain ⟨h1, h2⟩ := lnOf_mem e
    exact absurd h2 (h l h1)
theorem fnd_lnOf {c : Nat} {ls : List Ln} {i : Nat} {l : Ln} (h : fnd c ls = some i) (hl : ls[i]? = some l) : lnOf c ls = some l := by
  induction ls generalizing i with
  | nil => simp at hl
  | cons a r ih =>
    unfold fnd at h
    unfold lnOf
    by_cases e : a.b = c
    · rw [if_pos e] at h ⊢
      cases h
      simpa using hl
    · rw [if_neg e] at h ⊢
      cases hr : fnd c r with
      | none =>
        rw [hr] at h
        cases h
      | some j =>
        rw [hr] at h
        have : j + 1 = i := Option.some.inj h
        subst this
        exact ih hr (by simpa using hl)
/-- one set: each block once, and in its own set -/
structure SetW (s k : Nat) (ls : List Ln) : Prop where
  nd : (ls.map (·.b)).Nodup
  ix : ∀ l ∈ ls, l.b % s = k
def effS (ls : List Ln) (e : Nat → List Int) (c : Nat) : List Int := match lnOf c ls with
  | some l => l.ns
  | none => e c
/-- clean lines have what is behind -/
def Cln (ls : List Ln) (e : Nat → List Int) : Prop := ∀ l ∈ ls, l.d = false → l.ns = e l.b
def effC : List Rm → List Int → Nat → List Int
  | [], far, c => getBlk far c
  | r :: rs, far, c => effS (r.ls c) (effC rs far) c
def RmW (r : Rm) : Prop := ∀ k ls, r.ss[k]? = some ls → SetW r.ss.length k ls
def ChW : List Rm → List Int → Prop
  | [], _ => True
  | r :: rs, far => RmW r ∧ (∀ ls ∈ r.ss, Cln ls (effC rs far) ∧ (r.ru.bk = false → ∀ l ∈ ls, l.d = false)) ∧ ChW rs far
abbrev eff (t : Ta) : Nat → List Int := effC t.rs t.far
abbrev TaW (t : Ta) : Prop := ChW t.rs t.far
structure OpsC (n : Nat) (o : Ops) : Prop where
  hm : ∀ t b ns, TaOk n t → TaW t → b < 16 → ns.length = 4 → TaW (o.hm t b ns) ∧ ∀ c, eff (o.hm t b ns) c = if c = b then ns else eff t c
  br : ∀ t b, TaOk n t → TaW t → b < 16 → (o.br t b).1 = eff t b ∧ TaW (o.br t b).2 ∧ ∀ c, eff (o.br t b).2 c = eff t c
  ch : ∀ t p v, TaOk n t → TaW t → p < 64 → TaW (o.ch t p v) ∧ ∀ c, eff (o.ch t p v) c = if c = p / 4 then (eff t c).set (p % 4) v else eff t c
/-- what one step of a set's lines leaves: b the block, f what becomes of its numbers -/
structure Sem (s k : Nat) (ls : List Ln) (t : Ta) (ls' : List Ln) (t' : Ta) (b : Nat) (f : List Int → List Int) : Prop where
  w : SetW s k ls'
  cln : Cln ls' (eff t')
  tw : TaW t'
  out : ∀ c, c % s ≠ k → eff t' c = eff t c
  ef : ∀ c, c % s = k → effS ls' (eff t') c = if c = b then f (effS ls (eff t) b) else effS ls (eff t) c
  dom : ∀ l' ∈ ls', l'.b = b ∨ ∃ l ∈ ls, l.b = l'.b ∧ (l'.d = true → l.d = true)
section
variable {n : Nat} {o : Ops} {u : Ru} {s k : Nat} {ls : List Ln} {t : Ta}
theorem effS_mem (w : SetW s k ls) {l : Ln} (h : l ∈ ls) (e : Nat → List Int) : effS ls e l.b = l.ns := by
  unfold effS
  rw [lnOf_iff w.nd h rfl]
theorem effS_no {c : Nat} (h : ∀ l ∈ ls, l.b ≠ c) (e : Nat → List Int) : effS ls e c = e c := by
  unfold effS
  rw [lnOf_no h]
/-- two sets of lines tell the same of c -/
theorem effS_same {ls' : List Ln} {e e' : Nat → List Int} {c : Nat} (h : lnOf c ls' = lnOf c ls) (he : lnOf c ls = none → e' c = e c) : effS ls' e' c = effS ls e c := by
  unfold effS
  rw [h]
  cases q : lnOf c ls with
  | some l => rfl
  | none => exact he q
theorem SetW.tail {l : Ln} {r : List Ln} (w : SetW s k (l :: r)) : SetW s k r := ⟨(List.nodup_cons.mp (by simpa using w.nd)).2, fun l' hm => w.ix l' (List.mem_cons_of_mem _ hm)⟩
theorem SetW.head {l : Ln} {r : List Ln} (w : SetW s k (l :: r)) : ∀ l' ∈ r, l'.b ≠ l.b := fun l' hm e => by
  have h := w.nd
  rw [List.map_cons] at h
  exact (List.nodup_cons.mp h).1 (List.mem_map.mpr ⟨l', hm, e⟩)
/-- a dirty line goes home, and nothing else changes -/
theorem passH_eff (O : OpsC n o) (h : TaOk n t) (hw : TaW t) {tl : List V} {b : Nat} (hb : b < 16) {ns : List Int} (hn : ns.length = 4) : TaW (passH o tl t b ns) ∧ ∀ c, eff (passH o tl t b ns) c = if c = b then ns else eff t c := O.hm _ b ns (note_ok h tl "home" b) hw hb hn
theorem passC_eff (O : OpsC n o) (h : TaOk n t) (hw : TaW t) {tl : List V} {p : Nat} (hp : p < 64) {v : Int} : TaW (passC o tl t p v) ∧ ∀ c, eff (passC o tl t p v) c = if c = p / 4 then (eff t c).set (p % 4) v else eff t c := O.ch _ p v (note_ok h tl "cell" p) hw hp
/-- make_way: nothing that is told changes -/
theorem mkWay_sem (O : OpsC n o) (w : SetW s k ls) (hl : LsOk u ls) (hc : Cln ls (eff t)) (h : TaOk n t) (hw : TaW t) :
    SetW s k (mkWay o u ls t).1 ∧ Cln (mkWay o u ls t).1 (eff (mkWay o u ls t).2) ∧ TaW (mkWay o u ls t).2 ∧ (∀ c, c % s ≠ k → eff (mkWay o u ls t).2 c = eff t c) ∧ (∀ c, effS (mkWay o u ls t).1 (eff (mkWay o u ls t).2) c = effS ls (eff t) c) ∧ ∀ l ∈ (mkWay o u ls t).1, l ∈ ls := by
  unfold mkWay
  split
  · cases ls with
    | nil => exact ⟨w, hc, hw, fun _ _ => rfl, fun _ => rfl, fun _ h => h⟩
    | cons l rest =>
      have hlo := hl.ok l List.mem_cons_self
      have hd : ∀ l' ∈ rest, l'.b ≠ l.b := w.head
      -- what is behind tells l's numbers then
      have key : ∀ t' : Ta, (∀ c, eff t' c = if c = l.b then l.ns else eff t c) → TaW t' →
          SetW s k rest ∧ Cln rest (eff t') ∧ TaW t' ∧ (∀ c, c % s ≠ k → eff t' c = eff t c) ∧ (∀ c, effS rest (eff t') c = effS (l :: rest) (eff t) c) ∧ ∀ l' ∈ rest, l' ∈ l :: rest := by
        intro t' he hw'
        refine ⟨w.tail, fun l' hm hd' => ?_, hw', fun c hcs => ?_, fun c => ?_, fun l' hm => List.mem_cons_of_mem _ hm⟩
        · rw [he, if_neg (hd l' hm)]
          exact hc l' (List.mem_cons_of_mem _ hm) hd'
        · rw [he, if_neg]
          intro e
          rw [e] at hcs
          exact hcs (w.ix l List.mem_cons_self)
        · by_cases e : c = l.b
          · subst e
            rw [effS_no hd, he, if_pos rfl, effS_mem w List.mem_cons_self]
          · refine effS_same ?_ fun _ => by rw [he, if_neg e]
            show _ = (if l.b = c then some l else lnOf c rest)
            rw [if_neg (Ne.symm e)]
      dsimp only
      split
      · obtain ⟨p1, p2⟩ := passH_eff (tl := u.tl) O h hw hlo.b hlo.ns
        exact key _ p2 p1
      · rename_i hdf
        refine key t (fun c => ?_) hw
        split
        · rename_i e
          rw [e]
          exact (hc l List.mem_cons_self (by simpa using hdf)).symm
        · rfl
  · exact ⟨w, hc, hw, fun _ _ => rfl, fun _ => rfl, fun _ h => h⟩
theorem SetW.perm {ls' : List Ln} (w : SetW s k ls) (p : ls'.Perm ls) : SetW s k ls' := ⟨((p.map _).nodup_iff).mpr w.nd, fun l hm => w.ix l (p.mem_iff.mp hm)⟩
theorem lnOf_perm {ls' : List Ln} (w : SetW s k ls) (p : ls'.Perm ls) (c : Nat) : lnOf c ls' = lnOf c ls := by
  cases e : lnOf c ls with
  | none => exact lnOf_no fun l hm => lnOf_none e l (p.mem_iff.mp hm)
  | some l =>
    obtain ⟨h1, h2⟩ := lnOf_mem e
    exact lnOf_iff (w.perm p).nd (p.mem_iff.mpr h1) h2
theorem perm_erase {α : Type} : ∀ {ls : List α} {i : Nat} (h : i < ls.length), (ls[i] :: ls.eraseIdx i).Perm ls
  | [], i, h => by simp at h
  | a :: r, 0, h => List.Perm.refl _
  | a :: r, i + 1, h => by
    have ih := perm_erase (ls := r) (i := i) (by simpa using h)
    show (r[i]'(by simpa using h) :: a :: r.eraseIdx i).Perm (a :: r)
    exact (List.Perm.swap ..).trans (ih.cons a)
theorem touch_perm {lt : Bool} {i : Nat} (h : i < ls.length) : (touchL lt ls i).Perm ls := by
  unfold touchL
  split
  · rw [List.getElem?_eq_getElem h]
    show (ls.eraseIdx i ++ [ls[i]]).Perm ls
    have := perm_erase h
    exact (List.perm_append_comm (l₁ := ls.eraseIdx i) (l₂ := [ls[i]])).trans this
  · exact List.Perm.refl _
theorem reach_sem (O : OpsC n o) (Ok : OpsOk n (gOf n) o) (hu : RuOk u) (w : SetW s k ls) (hl : LsOk u ls) (hc : Cln ls (eff t)) (h : TaOk n t) (hw : TaW t) {b : Nat} (hb : b < 16) (hbk : b % s = k) :
    Sem s k ls t (reachL o u ls t b).1 (reachL o u ls t b).2.1 b (fun x => x) ∧ (∀ l' ∈ (reachL o u ls t b).1, l'.d = true → ∃ l ∈ ls, l.b = l'.b ∧ l.d = true) ∧
      (∀ l, (reachL o u ls t b).1[(reachL o u ls t b).2.2]? = some l → l.b = b ∧ l.ns = effS ls (eff t) b) := by
  cases e : fnd b ls with
  | some i =>
    have e1 : reachL o u ls t b = (touchL u.lt ls i, t, touchI u.lt ls i) := by
      unfold reachL
      rw [e]
    rw [e1]
    have hi := fnd_lt e
    have p : (touchL u.lt ls i).Perm ls := touch_perm hi
    have hm := fun l (q : l ∈ touchL u.lt ls i) => p.mem_iff.mp q
    refine ⟨⟨w.perm p, fun l hq => hc l (hm l hq), hw, fun _ _ => rfl, fun c _ => ?_, fun l' hq => .inr ⟨l', hm l' hq, rfl, fun z => z⟩⟩, fun l' hq hd => ⟨l', hm l' hq, rfl, hd⟩, fun l hlg => ?_⟩
    · have : effS (touchL u.lt ls i) (eff t) c = effS ls (eff t) c := effS_same (lnOf_perm w p c) fun _ => rfl
      rw [this]
      split
      · rename_i q
        rw [q]
      · rfl
    · have hlg : (touchL u.lt ls i)[touchI u.lt ls i]? = some l := hlg
      rw [touch_get hi] at hlg
      obtain ⟨l2, g1, g2, _⟩ := fnd_some e
      rw [hlg] at g1
      cases g1
      refine ⟨g2, ?_⟩
      rw [← g2]
      exact (effS_mem w (List.mem_of_getElem? hlg) _).symm
  | none =>
    have e1 : reachL o u ls t b = ((mkWay o u ls t).1 ++ [⟨b, (o.br ((mkWay o u ls t).2.note u.tl "bring" b) b).1, false⟩], (o.br ((mkWay o u ls t).2.note u.tl "bring" b) b).2, (mkWay o u ls t).1.length) := by
      unfold reachL
      rw [e]
    rw [e1]
    obtain ⟨m1, m2, m3, m4, m5, m6⟩ := mkWay_sem (u := u) O w hl hc h hw
    obtain ⟨k1, k2, k3, k4⟩ := mkWay_ok Ok hu hl h
    have hno : ∀ l ∈ (mkWay o u ls t).1, l.b ≠ b := fun l hq => fnd_none e l (m6 l hq)
    obtain ⟨b1, b2, b3⟩ := O.br _ b (note_ok k2 u.tl "bring" b) (show TaW ((mkWay o u ls t).2.note u.tl "bring" b) from m3) hb
    have b1 : (o.br ((mkWay o u ls t).2.note u.tl "bring" b) b).1 = eff (mkWay o u ls t).2 b := b1
    have b3 : ∀ c, eff (o.br ((mkWay o u ls t).2.note u.tl "bring" b) b).2 c = eff (mkWay o u ls t).2 c := b3
    generalize o.br ((mkWay o u ls t).2.note u.tl "bring" b) b = br at *
    generalize mkWay o u ls t = mw at *
    have hval : br.1 = effS ls (eff t) b := by rw [b1, ← m5 b, effS_no hno]
    have w' : SetW s k (mw.1 ++ [⟨b, br.1, false⟩]) := by
      refine ⟨?_, fun l hq => ?_⟩
      · rw [List.map_append]
        refine List.nodup_append.mpr ⟨m1.nd, by simp, fun x hx y hy => ?_⟩
        obtain ⟨l, hq, rfl⟩ := List.mem_map.mp hx
        have : y = b := by simpa using hy
        rw [this]
        exact hno l hq
      · rcases List.mem_append.mp hq with hq | hq
        · exact m1.ix l hq
        · rw [List.mem_singleton.mp hq]
          exact hbk
    refine ⟨⟨w', fun l hq hd => ?_, b2, fun c hcs => ?_, fun c hcs => ?_, fun l' hq => ?_⟩, fun l' hq hd => ?_, fun l hlg => ?_⟩
    · rw [b3]
      rcases List.mem_append.mp hq with hq | hq
      · exact m2 l hq hd
      · rw [List.mem_singleton.mp hq]
        exact b1
    · rw [b3]
      exact m4 c hcs
    · by_cases ec : c = b
      · rw [if_pos ec]
        subst ec
        have := effS_mem w' (l := ⟨c, br.1, false⟩) (by simp) (eff br.2)
        rw [← hval]
        exact this
      · rw [if_neg ec, ← m5 c]
        refine effS_same ?_ fun _ => b3 c
        cases q : lnOf c mw.1 with
        | none =>
          refine lnOf_no fun l hq => ?_
          rcases List.mem_append.mp hq with hq | hq
          · exact lnOf_none q l hq
          · rw [List.mem_singleton.mp hq]
            exact Ne.symm ec
        | some l =>
          obtain ⟨g1, g2⟩ := lnOf_mem q
          exact lnOf_iff w'.nd (List.mem_append_left _ g1) g2
    · rcases List.mem_append.mp hq with hq | hq
      · exact .inr ⟨l', m6 l' hq, rfl, fun z => z⟩
      · rw [List.mem_singleton.mp hq]
        exact .inl rfl
    · rcases List.mem_append.mp hq with hq | hq
      · exact ⟨l', m6 l' hq, rfl, hd⟩
      · rw [List.mem_singleton.mp hq] at hd
        cases hd
    · have hlg : (mw.1 ++ [(⟨b, br.1, false⟩ : Ln)])[mw.1.length]? = some l := hlg
      rw [List.getElem?_append_right (Nat.le_refl _), Nat.sub_self] at hlg
      have : l = ⟨b, br.1, false⟩ := by simpa using hlg.symm
      rw [this]
      exact ⟨rfl, hval⟩
/-- one line is changed in its place: x has the same block -/
theorem set_w (w : SetW s k ls) {i : Nat} {l x : Ln} (hi : ls[i]? = some l) (hx : x.b = l.b) : SetW s k (ls.set i x) := by
  have hlt : i < ls.length := (List.getElem?_eq_some_iff.mp hi).1
  have em : (ls.set i x).map (·.b) = ls.map (·.b) := by
    rw [List.map_set]
    apply List.ext_getElem?
    intro j
    by_cases e : i = j
    · subst e
      rw [List.getElem?_set_self (by rw [List.length_map]; exact hlt), List.getElem?_map, hi, hx]
      rfl
    · rw [List.getElem?_set_ne e]
  refine ⟨by rw [em]; exact w.nd, fun l' hm => ?_⟩
  rcases List.mem_or_eq_of_mem_set hm with hm | e
  · exact w.ix l' hm
  · rw [e, hx]
    exact w.ix l (List.mem_of_getElem? hi)
theorem set_mem {i : Nat} {l x l' : Ln} (w : SetW s k ls) (hi : ls[i]? = some l) (hx : x.b = l.b) (h : l' ∈ ls.set i x) : l' = x ∨ (l' ∈ ls ∧ l'.b ≠ l.b) := by
  have hlt : i < ls.length := (List.getElem?_eq_some_iff.mp hi).1
  have w' := set_w w hi hx
  have hxm : x ∈ ls.set i x := List.mem_of_getElem? (List.getElem?_set_self hlt)
  by_cases e : l'.b = l.b
  · left
    have h1 := lnOf_iff w'.nd h e
    have h2 := lnOf_iff w'.nd hxm hx
    rw [h1] at h2
    exact Option.some.inj h2
  · right
    rcases List.mem_or_eq_of_mem_set h with hm | e2
    · exact ⟨hm, e⟩
    · exact absurd (by rw [e2, hx]) e
theorem set_other {i : Nat} {l x : Ln} {c : Nat} (w : SetW s k ls) (hi : ls[i]? = some l) (hx : x.b = l.b) (hc : c ≠ l.b) : lnOf c (ls.set i x) = lnOf c ls := by
  have w' := set_w w hi hx
  cases q : lnOf c ls with
  | none =>
    refine lnOf_no fun l' hm => ?_
    rcases set_mem w hi hx hm with e | ⟨hm, _⟩
    · rw [e, hx]
      exact Ne.symm hc
    · exact lnOf_none q l' hm
  | some l' =>
    obtain ⟨g1, g2⟩ := lnOf_mem q
    refine lnOf_iff w'.nd ?_ g2
    obtain ⟨j, hj, ej⟩ := List.mem_iff_getElem.mp g1
    have : i ≠ j := fun z => by
      subst z
      rw [List.getElem?_eq_getElem hj, ej] at hi
      cases hi
      exact hc g2.symm
    exact List.mem_of_getElem? (i := j) (by rw [List.getElem?_set_ne this, List.getElem?_eq_getElem hj, ej])
/-- a line of block b gets other numbers; what is behind agrees with it unless it is dirty -/
theorem set_sem {i : Nat} {l x : Ln} {t' : Ta} (w : SetW s k ls) (hi : ls[i]? = some l) (hx : x.b = l.b) (hc : Cln ls (eff t)) (hw' : TaW t') (he : ∀ c, c ≠ l.b → eff t' c = eff t c) (hcx : x.d = false → x.ns = eff t' l.b) :
    SetW s k (ls.set i x) ∧ Cln (ls.set i x) (eff t') ∧ (∀ c, effS (ls.set i x) (eff t') c = if c = l.b then x.ns else effS ls (eff t) c) := by
  have w' := set_w w hi hx
  have hlt : i < ls.length := (List.getElem?_eq_some_iff.mp hi).1
  have hxm : x ∈ ls.set i x := List.mem_of_getElem? (List.getElem?_set_self hlt)
  refine ⟨w', fun l' hm hd => ?_, fun c => ?_⟩
  · rcases set_mem w hi hx hm with e | ⟨hm, hne⟩
    · rw [e, hx]
      exact hcx (by rw [← e]; exact hd)
    · rw [he _ hne]
      exact hc l' hm hd
  · by_cases ec : c = l.b
    · rw [if_pos ec, ec, ← hx]
      exact effS_mem w' hxm _
    · rw [if_neg ec]
      exact effS_same (set_other w hi hx ec) fun _ => he c ec
theorem change_sem (O : OpsC n o) (Ok : OpsOk n (gOf n) o) (hu : RuOk u) (w : SetW s k ls) (hl : LsOk u ls) (hc : Cln ls (eff t)) (h : TaOk n t) (hw : TaW t) {p : Nat} (hp : p < 64) (hbk : (p / 4) % s = k) (v : Int) (hdt : u.bk = false → ∀ l ∈ ls, l.d = false) :
    Sem s k ls t (changeL o u ls t p v).1 (changeL o u ls t p v).2 (p / 4) (fun x => x.set (p % 4) v) ∧ (u.bk = false → ∀ l ∈ (changeL o u ls t p v).1, l.d = false) := by
  have hb : p / 4 < 16 := by omega
  unfold changeL
  split
  · rename_i hin
    obtain ⟨q1, q2⟩ := passC_eff (tl := u.tl) (v := v) O h hw hp
    have hno := fnd_none hin.2
    refine ⟨⟨w, fun l hm hd => ?_, q1, fun c hcs => ?_, fun c hcs => ?_, fun l' hm => .inr ⟨l', hm, rfl, fun z => z⟩⟩, hdt⟩
    · rw [q2, if_neg (hno l hm)]
      exact hc l hm hd
    · rw [q2, if_neg]
      intro e
      rw [e] at hcs
      exact hcs hbk
    · by_cases ec : c = p / 4
      · rw [if_pos ec, ec, effS_no hno, effS_no hno, q2, if_pos rfl]
      · rw [if_neg ec]
        exact effS_same rfl fun _ => by rw [q2, if_neg ec]
  · obtain ⟨S, hdirt, hat⟩ := reach_sem O Ok hu w hl hc h hw hb hbk
    obtain ⟨r1, r2, ⟨l, hlg, hlb, hlo⟩, r4⟩ := reachL_ok Ok hu hl h hb
    obtain ⟨_, hlns⟩ := hat l hlg
    rw [lnAt_get hlg]
    generalize reachL o u ls t (p / 4) = rr at *
    have hx : (setCell u.bk l p v).b = l.b := rfl
    have ef0 : ∀ c, c % s = k → effS rr.1 (eff rr.2.1) c = effS ls (eff t) c := fun c hcs => by
      rw [S.ef c hcs]
      split
      · rename_i q
        rw [q]
      · rfl
    have hdl : u.bk = false → l.d = false := fun hb' => by
      cases hd : l.d with
      | false => rfl
      | true =>
        obtain ⟨l0, g1, _, g3⟩ := hdirt l (List.mem_of_getElem? hlg) hd
        rw [hdt hb' l0 g1] at g3
        cases g3
    have fin : ∀ t' : Ta, TaW t' → (∀ c, c ≠ l.b → eff t' c = eff rr.2.1 c) → ((setCell u.bk l p v).d = false → (setCell u.bk l p v).ns = eff t' l.b) →
        Sem s k ls t (rr.1.set rr.2.2 (setCell u.bk l p v)) t' (p / 4) (fun x => x.set (p % 4) v) ∧ (u.bk = false → ∀ l' ∈ rr.1.set rr.2.2 (setCell u.bk l p v), l'.d = false) := by
      intro t' hw' he hcx
      obtain ⟨s1, s2, s3⟩ := set_sem S.w hlg hx S.cln hw' he hcx
      refine ⟨⟨s1, s2, hw', fun c hcs => ?_, fun c hcs => ?_, fun l' hm => ?_⟩, fun hb' l' hm => ?_⟩
      · rw [he c, S.out c hcs]
        intro e
        rw [e, hlb] at hcs
        exact hcs hbk
      · rw [s3 c, hlb]
        by_cases ec : c = p / 4
        · rw [if_pos ec, if_pos ec]
          show l.ns.set (p % 4) v = _
          rw [hlns]
        · rw [if_neg ec, if_neg ec]
          exact ef0 c hcs
      · rcases set_mem S.w hlg hx hm with e | ⟨hm, hne⟩
        · rw [e]
          exact .inl hlb
        · exact S.dom l' hm
      · rcases set_mem S.w hlg hx hm with e | ⟨hm, hne⟩
        · rw [e]
          show (u.bk || l.d) = false
          rw [hb', hdl hb']
          rfl
        · cases hd : l'.d with
          | false => rfl
          | true =>
            obtain ⟨l0, g1, _, g3⟩ := hdirt l' hm hd
            rw [hdt hb' l0 g1] at g3
            cases g3
    dsimp only
    split
    · rename_i hbk1
      refine fin _ S.tw (fun _ _ => rfl) fun hd => ?_
      have hd : (u.bk || l.d) = false := hd
      rw [hbk1] at hd
      cases hd
    · rename_i hbk1
      have hbf : u.bk = false := by simpa using hbk1
      obtain ⟨q1, q2⟩ := passC_eff (tl := u.tl) (v := v) O r2 S.tw hp
      refine fin _ q1 (fun c hne => ?_) fun _ => ?_
      · rw [q2, if_neg (by rw [← hlb]; exact hne)]
      · show l.ns.set (p % 4) v = _
        rw [q2, if_pos hlb]
        congr 1
        exact S.cln l (List.mem_of_getElem? hlg) (hdl hbf)
theorem home_sem (O : OpsC n o) (Ok : OpsOk n (gOf n) o) (hu : RuOk u) (w : SetW s k ls) (hl : LsOk u ls) (hc : Cln ls (eff t)) (h : TaOk n t) (hw : TaW t) {b : Nat} (hb : b < 16) (hbk : b % s = k) {ns : List Int} (hn : ns.length = 4) (hdt : u.bk = false → ∀ l ∈ ls, l.d = false) :
    Sem s k ls t (homeL o u ls t b ns).1 (homeL o u ls t b ns).2 b (fun _ => ns) ∧ (u.bk = false → ∀ l ∈ (homeL o u ls t b ns).1, l.d = false) := by
  unfold homeL
  cases e : fnd b ls with
  | none =>
    have hno := fnd_none e
    dsimp only
    split
    · obtain ⟨m1, m2, m3, m4, m5, m6⟩ := mkWay_sem (u := u) O w hl hc h hw
      obtain ⟨k1, k2, k3, k4⟩ := mkWay_ok Ok hu hl h
      have hno2 : ∀ l ∈ (mkWay o u ls t).1, l.b ≠ b := fun l hq => hno l (m6 l hq)
      generalize mkWay o u ls t = mw at *
      have w' : SetW s k (mw.1 ++ [⟨b, ns, u.bk⟩]) := by
        refine ⟨?_, fun l hq => ?_⟩
        · rw [List.map_append]
          refine List.nodup_append.mpr ⟨m1.nd, by simp, fun x hx y hy => ?_⟩
          obtain ⟨l, hq, rfl⟩ := List.mem_map.mp hx
          have : y = b := by simpa using hy
          rw [this]
          exact hno2 l hq
        · rcases List.mem_append.mp hq with hq | hq
          · exact m1.ix l hq
          · rw [List.mem_singleton.mp hq]
            exact hbk
      have fin : ∀ t' : Ta, TaW t' → (∀ c, c ≠ b → eff t' c = eff mw.2 c) → (u.bk = false → ns = eff t' b) →
          Sem s k ls t (mw.1 ++ [⟨b, ns, u.bk⟩]) t' b (fun _ => ns) ∧ (u.bk = false → ∀ l ∈ mw.1 ++ [⟨b, ns, u.bk⟩], l.d = false) := by
        intro t' hw' he hcx
        refine ⟨⟨w', fun l hq hd => ?_, hw', fun c hcs => ?_, fun c hcs => ?_, fun l' hq => ?_⟩, fun hb' l hq => ?_⟩
        · rcases List.mem_append.mp hq with hq | hq
          · rw [he _ (hno2 l hq)]
            exact m2 l hq hd
          · rw [List.mem_singleton.mp hq] at hd ⊢
            exact hcx hd
        · rw [he c, m4 c hcs]
          intro z
          rw [z] at hcs
          exact hcs hbk
        · by_cases ec : c = b
          · rw [if_pos ec, ec]
            exact effS_mem w' (l := ⟨b, ns, u.bk⟩) (by simp) _
          · rw [if_neg ec, ← m5 c]
            refine effS_same ?_ fun _ => he c ec
            cases q : lnOf c mw.1 with
            | none =>
              refine lnOf_no fun l hq => ?_
              rcases List.mem_append.mp hq with hq | hq
              · exact lnOf_none q l hq
              · rw [List.mem_singleton.mp hq]
                exact Ne.symm ec
            | some l =>
              obtain ⟨g1, g2⟩ := lnOf_mem q
              exact lnOf_iff w'.nd (List.mem_append_left _ g1) g2
        · rcases List.mem_append.mp hq with hq | hq
          · exact .inr ⟨l', m6 l' hq, rfl, fun z => z⟩
          · rw [List.mem_singleton.mp hq]
            exact .inl rfl
        · rcases List.mem_append.mp hq with hq | hq
          · exact hdt hb' l (m6 l hq)
          · rw [List.mem_singleton.mp hq]
            exact hb'
      split
      · rename_i hbk1
        exact fin _ m3 (fun _ _ => rfl) fun z => by rw [hbk1] at z; cases z
      · obtain ⟨q1, q2⟩ := passH_eff (tl := u.tl) O k2 m3 hb hn
        exact fin _ q1 (fun c hne => by rw [q2, if_neg hne]) fun _ => by rw [q2, if_pos rfl]
    · obtain ⟨q1, q2⟩ := passH_eff (tl := u.tl) O h hw hb hn
      refine ⟨⟨w, fun l hm hd => ?_, q1, fun c hcs => ?_, fun c hcs => ?_, fun l' hm => .inr ⟨l', hm, rfl, fun z => z⟩⟩, hdt⟩
      · rw [q2, if_neg (hno l hm)]
        exact hc l hm hd
      · rw [q2, if_neg]
        intro z
        rw [z] at hcs
        exact hcs hbk
      · by_cases ec : c = b
        · rw [if_pos ec, ec, effS_no hno, q2, if_pos rfl]
        · rw [if_neg ec]
          exact effS_same rfl fun _ => by rw [q2, if_neg ec]
  | some i =>
    have hi := fnd_lt e
    obtain ⟨l, g1, g2, _⟩ := fnd_some e
    have p : (touchL u.lt ls i).Perm ls := touch_perm hi
    have hm := fun l (q : l ∈ touchL u.lt ls i) => p.mem_iff.mp q
    have w1 := w.perm p
    have hlg : (touchL u.lt ls i)[touchI u.lt ls i]? = some l := (touch_get hi).trans g1
    have hc1 : Cln (touchL u.lt ls i) (eff t) := fun l' q => hc l' (hm l' q)
    have hx : (⟨b, ns, u.bk⟩ : Ln).b = l.b := g2.symm
    dsimp only
    have fin : ∀ t' : Ta, TaW t' → (∀ c, c ≠ b → eff t' c = eff t c) → (u.bk = false → ns = eff t' b) →
        Sem s k ls t ((touchL u.lt ls i).set (touchI u.lt ls i) ⟨b, ns, u.bk⟩) t' b (fun _ => ns) ∧ (u.bk = false → ∀ l' ∈ (touchL u.lt ls i).set (touchI u.lt ls i) ⟨b, ns, u.bk⟩, l'.d = false) := by
      intro t' hw' he hcx
      obtain ⟨s1, s2, s3⟩ := set_sem (x := ⟨b, ns, u.bk⟩) w1 hlg hx hc1 hw' (fun c hne => he c (by rw [← g2]; exact hne)) (fun hd => by rw [g2]; exact hcx hd)
      refine ⟨⟨s1, s2, hw', fun c hcs => he c ?_, fun c hcs => ?_, fun l' hq => ?_⟩, fun hb' l' hq => ?_⟩
      · intro z
        rw [z] at hcs
        exact hcs hbk
      · rw [s3 c, g2]
        by_cases ec : c = b
        · rw [if_pos ec, if_pos ec]
        · rw [if_neg ec, if_neg ec]
          exact effS_same (lnOf_perm w p c) fun _ => rfl
      · rcases set_mem w1 hlg hx hq with z | ⟨hq, hne⟩
        · rw [z]
          exact .inl rfl
        · exact .inr ⟨l', hm l' hq, rfl, fun z => z⟩
      · rcases set_mem w1 hlg hx hq with z | ⟨hq, hne⟩
        · rw [z]
          exact hb'
        · exact hdt hb' l' (hm l' hq)
    split
    · rename_i hbk1
      exact fin _ hw (fun _ _ => rfl) fun z => by rw [hbk1] at z; cases z
    · obtain ⟨q1, q2⟩ := passH_eff (tl := u.tl) O h hw hb hn
      exact fin _ q1 (fun c hne => by rw [q2, if_neg hne]) fun _ => by rw [q2, if_pos rfl]
end
-- WwCoh2
/-! ### from one set to the room and what is behind -/
/-- a room over what is behind it -/
structure RW (r : Rm) (t : Ta) : Prop where
  w : RmW r
  c : ∀ ls ∈ r.ss, Cln ls (eff t) ∧ (r.ru.bk = false → ∀ l ∈ ls, l.d = false)
  t : TaW t
abbrev effR (r : Rm) (t : Ta) (c : Nat) : List Int := effS (r.ls c) (eff t) c
abbrev lookR (r : Rm) (c : Nat) : Option Ln := lnOf c (r.ls c)
theorem ls_put_if {r : Rm} (h : 0 < r.ss.length) (b c : Nat) (ls : List Ln) : (r.put b ls).ls c = if r.ix c = r.ix b then ls else r.ls c := by
  split
  · rename_i e
    have : (r.put b ls).ls c = (r.put b ls).ls b := by
      unfold Rm.ls
      rw [put_ix, put_ix, e]
    rw [this, ls_put h]
  · rename_i e
    exact ls_put_ne e
theorem ls_same {r : Rm} {b c : Nat} (h : r.ix c = r.ix b) : r.ls c = r.ls b := by
  unfold Rm.ls
  rw [h]
theorem RW.set {r : Rm} {t : Ta} (h : RW r t) (h0 : 0 < r.ss.length) (b : Nat) : SetW r.ss.length (r.ix b) (r.ls b) ∧ Cln (r.ls b) (eff t) ∧ (r.ru.bk = false → ∀ l ∈ r.ls b, l.d = false) :=
  ⟨h.w _ _ (ls_get h0 b), (h.c _ (ls_mem h0 b)).1, (h.c _ (ls_mem h0 b)).2⟩
theorem RW.step {r : Rm} {t t' : Ta} {ls' : List Ln} {b : Nat} {f : List Int → List Int} (h : RW r t) (h0 : 0 < r.ss.length) (S : Sem r.ss.length (r.ix b) (r.ls b) t ls' t' b f) (hd : r.ru.bk = false → ∀ l ∈ ls', l.d = false) :
    RW (r.put b ls') t' ∧ ∀ c, effR (r.put b ls') t' c = if c = b then f (effR r t b) else effR r t c := by
  refine ⟨⟨fun k ls hk => ?_, fun ls hm => ?_, S.tw⟩, fun c => ?_⟩
  · rw [put_len]
    by_cases e : r.ix b = k
    · subst e
      have hk : (r.ss.set (r.ix b) ls')[r.ix b]? = some ls := hk
      rw [List.getElem?_set_self (ix_lt h0 b)] at hk
      cases hk
      exact S.w
    · have hk : (r.ss.set (r.ix b) ls')[k]? = some ls := hk
      rw [List.getElem?_set_ne e] at hk
      exact h.w k ls hk
  · obtain ⟨k, hk, ek⟩ := List.mem_iff_getElem.mp hm
    have hg : (r.ss.set (r.ix b) ls')[k]? = some ls := by
      show (r.put b ls').ss[k]? = some ls
      rw [List.getElem?_eq_getElem hk, ek]
    by_cases e : r.ix b = k
    · subst e
      rw [List.getElem?_set_self (ix_lt h0 b)] at hg
      cases hg
      exact ⟨S.cln, hd⟩
    · rw [List.getElem?_set_ne e] at hg
      have hmo := List.mem_of_getElem? hg
      obtain ⟨c1, c2⟩ := h.c ls hmo
      refine ⟨fun l hl hdl => ?_, c2⟩
      rw [S.out l.b]
      · exact c1 l hl hdl
      · rw [(h.w k ls hg).ix l hl]
        exact Ne.symm e
  · show effS ((r.put b ls').ls c) (eff t') c = _
    rw [ls_put_if h0]
    by_cases e : r.ix c = r.ix b
    · rw [if_pos e, S.ef c e]
      show _ = if c = b then f (effS (r.ls b) (eff t) b) else effS (r.ls c) (eff t) c
      rw [ls_same e]
    · rw [if_neg e]
      have ec : c ≠ b := fun z => e (by rw [z])
      rw [if_neg ec]
      exact effS_same rfl fun _ => S.out c e
theorem RW.cons {r : Rm} {t : Ta} (h : RW r t) : TaW (Ta.cons r t) := ⟨h.w, h.c, h.t⟩
theorem eff_cons (r : Rm) (t : Ta) (c : Nat) : eff (Ta.cons r t) c = effR r t c := rfl
theorem blk_get {far : List Int} (hf : far.length = 64) {b : Nat} (hb : b < 16) {ns : List Int} (hn : ns.length = 4) (c : Nat) : getBlk (setBlk far b ns) c = if c = b then ns else getBlk far c := by
  unfold getBlk setBlk
  have h1 : (far.take (b * 4)).length = b * 4 := by rw [List.length_take]; omega
  apply List.ext_getElem?
  intro i
  by_cases hi : i < 4
  · rw [List.getElem?_take_of_lt hi, List.getElem?_drop]
    by_cases ec : c = b
    · subst ec
      rw [if_pos rfl, List.append_assoc, List.getElem?_append_right (by omega), h1, List.getElem?_append_left (by omega)]
      congr 1
      omega
    · rw [if_neg ec, List.getElem?_take_of_lt hi, List.getElem?_drop]
      by_cases hl : c < b
      · rw [List.append_assoc, List.getElem?_append_left (by omega), List.getElem?_take_of_lt (by omega)]
      · rw [List.getElem?_append_right (by rw [List.length_append]; omega), List.length_append, h1, hn, List.getElem?_drop]
        congr 1
        omega
  · rw [List.getElem?_eq_none (by rw [List.length_take]; omega)]
    split
    · rw [List.getElem?_eq_none (by omega)]
    · rw [List.getElem?_eq_none (by rw [List.length_take]; omega)]
theorem cell_get {far : List Int} (hf : far.length = 64) {p : Nat} (hp : p < 64) (v : Int) (c : Nat) : getBlk (far.set p v) c = if c = p / 4 then (getBlk far c).set (p % 4) v else getBlk far c := by
  unfold getBlk
  apply List.ext_getElem?
  intro i
  by_cases hi : i < 4
  · rw [List.getElem?_take_of_lt hi, List.getElem?_drop]
    by_cases ec : c = p / 4
    · rw [if_pos ec]
      by_cases ei : p % 4 = i
      · have e1 : c * 4 + i = p := by omega
        rw [e1, List.getElem?_set_self (by omega), ei, List.getElem?_set_self]
        rw [List.length_take, List.length_drop]
        omega
      · rw [List.getElem?_set_ne (by omega), List.getElem?_set_ne ei, List.getElem?_take_of_lt hi, List.getElem?_drop]
    · rw [if_neg ec, List.getElem?_take_of_lt hi, List.getElem?_drop, List.getElem?_set_ne (by omega)]
  · rw [List.getElem?_eq_none (by rw [List.length_take]; omega)]
    split
    · rw [List.getElem?_eq_none (by rw [List.length_set, List.length_take]; omega)]
    · rw [List.getElem?_eq_none (by rw [List.length_take]; omega)]
theorem TaW.uncons {t : Ta} {r : Rm} {rs : List Rm} (h : TaW t) (e : t.rs = r :: rs) : RW r { t with rs := rs } := by
  have h : ChW t.rs t.far := h
  rw [e] at h
  exact ⟨h.1, h.2.1, h.2.2⟩
theorem eff_uncons {t : Ta} {r : Rm} {rs : List Rm} (e : t.rs = r :: rs) (c : Nat) : eff t c = effR r { t with rs := rs } c := by
  show effC t.rs t.far c = _
  rw [e]
  rfl
theorem ops_c : ∀ n, OpsC n (ops n)
  | 0 => {
    hm := fun t b ns h hw hb hn => by
      have ers : t.rs = [] := List.length_eq_zero_iff.mp h.len
      refine ⟨?_, fun c => ?_⟩
      · show ChW t.rs _
        rw [ers]
        trivial
      · show effC t.rs (setBlk t.far b ns) c = if c = b then ns else effC t.rs t.far c
        rw [ers]
        exact blk_get h.far hb hn c
    br := fun t b h hw hb => by
      have ers : t.rs = [] := List.length_eq_zero_iff.mp h.len
      refine ⟨?_, hw, fun c => rfl⟩
      show getBlk t.far b = effC t.rs t.far b
      rw [ers]
      rfl
    ch := fun t p v h hw hp => by
      have ers : t.rs = [] := List.length_eq_zero_iff.mp h.len
      refine ⟨?_, fun c => ?_⟩
      · show ChW t.rs _
        rw [ers]
        trivial
      · show effC t.rs (t.far.set p v) c = if c = p / 4 then (effC t.rs t.far c).set (p % 4) v else effC t.rs t.far c
        rw [ers]
        exact cell_get h.far hp v c }
  | n + 1 => {
    hm := fun t b ns h hw hb hn => by
      obtain ⟨r, rs, e, hr, ht⟩ := h.uncons
      have R := hw.uncons e
      obtain ⟨s1, s2, s3⟩ := R.set hr.s0 b
      obtain ⟨S, sd⟩ := home_sem (ops_c n) (ops_ok n) hr.ru s1 (hr.ls b) s2 ht R.t hb rfl hn s3
      obtain ⟨R', he⟩ := R.step hr.s0 S sd
      have eo : (ops (n + 1)).hm t b ns = Ta.cons (r.put b (homeL (ops n) r.ru (r.ls b) { t with rs := rs } b ns).1) (homeL (ops n) r.ru (r.ls b) { t with rs := rs } b ns).2 := by
        show (match t.rs with | [] => t | r :: rs => _) = _
        rw [e]
      rw [eo]
      refine ⟨R'.cons, fun c => ?_⟩
      rw [eff_cons, he c, eff_uncons e c]
    br := fun t b h hw hb => by
      obtain ⟨r, rs, e, hr, ht⟩ := h.uncons
      have R := hw.uncons e
      obtain ⟨s1, s2, s3⟩ := R.set hr.s0 b
      obtain ⟨S, hdirt, hat⟩ := reach_sem (ops_c n) (ops_ok n) hr.ru s1 (hr.ls b) s2 ht R.t hb rfl
      obtain ⟨_, _, ⟨l, hlg, hlb, hlo⟩, _⟩ := reachL_ok (ops_ok n) hr.ru (hr.ls b) ht hb
      obtain ⟨_, hns⟩ := hat l hlg
      obtain ⟨R', he⟩ := R.step hr.s0 S fun hbk l' hm => by
        cases hd : l'.d with
        | false => rfl
        | true =>
          obtain ⟨l0, g1, _, g3⟩ := hdirt l' hm hd
          rw [s3 hbk l0 g1] at g3
          cases g3
      have eo : (ops (n + 1)).br t b = ((bringL (ops n) r.ru (r.ls b) { t with rs := rs } b).1, Ta.cons (r.put b (bringL (ops n) r.ru (r.ls b) { t with rs := rs } b).2.1) (bringL (ops n) r.ru (r.ls b) { t with rs := rs } b).2.2) := by
        show (match t.rs with | [] => ([], t) | r :: rs => _) = _
        rw [e]
      rw [eo]
      refine ⟨?_, R'.cons, fun c => ?_⟩
      · rw [eff_uncons e b]
        show (lnAt _ _).ns = _
        rw [lnAt_get hlg]
        exact hns
      · rw [eff_uncons e c]
        refine (he c).trans ?_
        split
        · rename_i z
          rw [z]
        · rfl
    ch := fun t p v h hw hp => by
      obtain ⟨r, rs, e, hr, ht⟩ := h.uncons
      have R := hw.uncons e
      obtain ⟨s1, s2, s3⟩ := R.set hr.s0 (p / 4)
      obtain ⟨S, sd⟩ := change_sem (ops_c n) (ops_ok n) hr.ru s1 (hr.ls (p / 4)) s2 ht R.t hp rfl v s3
      obtain ⟨R', he⟩ := R.step hr.s0 S sd
      have eo : (ops (n + 1)).ch t p v = Ta.cons (r.put (p / 4) (changeL (ops n) r.ru (r.ls (p / 4)) { t with rs := rs } p v).1) (changeL (ops n) r.ru (r.ls (p / 4)) { t with rs := rs } p v).2 := by
        show (match t.rs with | [] => t | r :: rs => _) = _
        rw [e]
      rw [eo]
      refine ⟨R'.cons, fun c => ?_⟩
      rw [eff_cons, he c, eff_uncons e c]
      split
      · rename_i z
        rw [z]
      · rfl }
-- WwCoh3
/-! ### halls: what the hands' rooms tell -/
section
variable {n : Nat} {o : Ops} {u : Ru} {s k : Nat} {ls : List Ln} {t : Ta}
theorem lnOf_erase (w : SetW s k ls) {i : Nat} {l : Ln} (hl : ls[i]? = some l) (c : Nat) : lnOf c (ls.eraseIdx i) = if c = l.b then none else lnOf c ls := by
  obtain ⟨hi, e⟩ := List.getElem?_eq_some_iff.mp hl
  have p := perm_erase hi
  rw [e] at p
  have w2 := w.perm p
  split
  · rename_i z
    subst z
    exact lnOf_no w2.head
  · rename_i z
    rw [← lnOf_perm w p c]
    show _ = if l.b = c then some l else lnOf c (ls.eraseIdx i)
    rw [if_neg (Ne.symm z)]
theorem lnOf_set : ∀ {ls : List Ln} {i : Nat} {l l2 : Ln}, ls[i]? = some l → l2.b = l.b → (ls.map (·.b)).Nodup → ∀ c, lnOf c (ls.set i l2) = if c = l.b then some l2 else lnOf c ls
  | [], i, l, l2, h, _, _, c => by simp at h
  | a :: r, 0, l, l2, h, e, hn, c => by
    have : a = l := by simpa using h
    subst this
    show (if l2.b = c then some l2 else lnOf c r) = if c = a.b then some l2 else if a.b = c then some a else lnOf c r
    rw [e]
    by_cases z : a.b = c
    · rw [if_pos z, if_pos z.symm]
    · rw [if_neg z, if_neg (Ne.symm z), if_neg z]
  | a :: r, i + 1, l, l2, h, e, hn, c => by
    rw [List.map_cons] at hn
    obtain ⟨h1, h2⟩ := List.nodup_cons.mp hn
    have hl : r[i]? = some l := by simpa using h
    have ih := lnOf_set hl e h2 c
    show (if a.b = c then some a else lnOf c (r.set i l2)) = if c = l.b then some l2 else if a.b = c then some a else lnOf c r
    rw [ih]
    by_cases z : a.b = c
    · have : c ≠ l.b := fun q => h1 (List.mem_map.mpr ⟨l, List.mem_of_getElem? hl, by rw [← q, z]⟩)
      rw [if_pos z, if_neg this, if_pos z]
    · rw [if_neg z, if_neg z]
theorem set_map_b {ls : List Ln} {i : Nat} {l l2 : Ln} (h : ls[i]? = some l) (e : l2.b = l.b) : (ls.set i l2).map (·.b) = ls.map (·.b) := by
  rw [List.map_set]
  apply List.ext_getElem?
  intro j
  by_cases z : i = j
  · subst z
    have hi := (List.getElem?_eq_some_iff.mp h).1
    rw [List.getElem?_set_self (by simpa using hi), List.getElem?_map, h, e]
    rfl
  · rw [List.getElem?_set_ne z]
theorem yield_sem (O : OpsC n o) (w : SetW s k ls) (hl : LsOk u ls) (hc : Cln ls (eff t)) (h : TaOk n t) (hw : TaW t) {b : Nat} (hb : b < 16) (gone : Bool) :
    Sem s k ls t (yieldL o u ls t b gone).1 (yieldL o u ls t b gone).2 b (fun x => x) ∧ (∀ l' ∈ (yieldL o u ls t b gone).1, l'.d = true → l'.b ≠ b ∧ l' ∈ ls) ∧ (gone = true → ∀ l' ∈ (yieldL o u ls t b gone).1, l'.b ≠ b) := by
  unfold yieldL
  cases e : fnd b ls with
  | none =>
    have hno := fnd_none e
    refine ⟨⟨w, hc, hw, fun _ _ => rfl, fun c _ => ?_, fun l hm => .inr ⟨l, hm, rfl, fun z => z⟩⟩, fun l hm _ => ⟨hno l hm, hm⟩, fun _ l hm => hno l hm⟩
    show effS ls (eff t) c = _
    split
    · rename_i z
      rw [z]
    · rfl
  | some i =>
    obtain ⟨l, hlg, hlb, _⟩ := fnd_some e
    have hlm := List.mem_of_getElem? hlg
    have hlo := hl.ok l hlm
    dsimp only
    rw [lnAt_get hlg]
    -- what is behind afterwards
    have hef : TaW (if l.d = true then passH o u.tl t b l.ns else t) ∧ ∀ c, eff (if l.d = true then passH o u.tl t b l.ns else t) c = if c = b then l.ns else eff t c := by
      split
      · exact passH_eff (tl := u.tl) O h hw hb hlo.ns
      · rename_i hd
        refine ⟨hw, fun c => ?_⟩
        split
        · rename_i z
          rw [z, ← hlb]
          exact (hc l hlm (by simpa using hd)).symm
        · rfl
    generalize (if l.d = true then passH o u.tl t b l.ns else t) = t' at hef ⊢
    obtain ⟨hw', he⟩ := hef
    have hout : ∀ c, c % s ≠ k → eff t' c = eff t c := fun c hcs => by
      rw [he, if_neg]
      intro z
      apply hcs
      rw [z, ← hlb]
      exact w.ix l hlm
    have heb : effS ls (eff t) b = l.ns := by
      rw [← hlb]
      exact effS_mem w hlm _
    cases gone with
    | true =>
      have hmem : ∀ l' ∈ ls.eraseIdx i, l' ∈ ls ∧ l'.b ≠ b := fun l' hm => by
        have hi := (List.getElem?_eq_some_iff.mp hlg)
        obtain ⟨hi, ei⟩ := hi
        have p := perm_erase hi
        rw [ei] at p
        exact ⟨p.mem_iff.mp (List.mem_cons_of_mem _ hm), by rw [← hlb]; exact (w.perm p).head l' hm⟩
      refine ⟨⟨⟨?_, fun l' hm => w.ix l' (hmem l' hm).1⟩, fun l' hm hd => ?_, hw', hout, fun c hcs => ?_, fun l' hm => .inr ⟨l', (hmem l' hm).1, rfl, fun z => z⟩⟩, fun l' hm _ => ⟨(hmem l' hm).2, (hmem l' hm).1⟩, fun _ l' hm => (hmem l' hm).2⟩
      · have hi := (List.getElem?_eq_some_iff.mp hlg)
        obtain ⟨hi, ei⟩ := hi
        have p := perm_erase hi
        rw [ei] at p
        exact (w.perm p).tail.nd
      · show l'.ns = eff t' l'.b
        rw [he, if_neg (hmem l' hm).2]
        exact hc l' (hmem l' hm).1 hd
      · show effS (ls.eraseIdx i) (eff t') c = _
        unfold effS
        rw [lnOf_erase w hlg c, hlb]
        by_cases z : c = b
        · rw [if_pos z, if_pos z]
          show eff t' c = _
          rw [he, if_pos z]
          exact heb.symm
        · rw [if_neg z, if_neg z, he, if_neg z]
    | false =>
      have hmem : ∀ l' ∈ ls.set i { l with d := false }, l' ∈ ls ∧ l'.b ≠ b ∨ l' = { l with d := false } := fun l' hm => by
        by_cases z : l'.b = b
        · right
          have w2 : SetW s k (ls.set i { l with d := false }) := ⟨by rw [set_map_b (l2 := { l with d := false }) hlg rfl]; exact w.nd, fun q hq => by
            rcases List.mem_or_eq_of_mem_set hq with hq | eq
            · exact w.ix q hq
            · rw [eq]
              exact w.ix l hlm⟩
          have h1 := lnOf_iff w2.nd hm z
          rw [lnOf_set (l2 := { l with d := false }) hlg rfl w.nd, if_pos hlb.symm] at h1
          exact (Option.some.inj h1).symm
        · rcases List.mem_or_eq_of_mem_set hm with hm | eq
          · exact .inl ⟨hm, z⟩
          · exact .inr eq
      refine ⟨⟨⟨?_, fun l' hm => ?_⟩, fun l' hm hd => ?_, hw', hout, fun c hcs => ?_, fun l' hm => ?_⟩, fun l' hm hd => ?_, fun z => by cases z⟩
      · show ((ls.set i { l with d := false }).map (·.b)).Nodup
        rw [set_map_b (l2 := { l with d := false }) hlg rfl]
        exact w.nd
      · rcases hmem l' hm with ⟨hm, _⟩ | eq
        · exact w.ix l' hm
        · rw [eq]
          exact w.ix l hlm
      · show l'.ns = eff t' l'.b
        rcases hmem l' hm with ⟨hm, hne⟩ | eq
        · rw [he, if_neg hne]
          exact hc l' hm hd
        · rw [eq, he, if_pos hlb]
      · show effS (ls.set i { l with d := false }) (eff t') c = _
        unfold effS
        rw [lnOf_set (l2 := { l with d := false }) hlg rfl w.nd c, hlb]
        by_cases z : c = b
        · rw [if_pos z, if_pos z]
          exact heb.symm
        · rw [if_neg z, if_neg z, he, if_neg z]
      · rcases hmem l' hm with ⟨hm, hne⟩ | eq
        · exact .inr ⟨l', hm, rfl, fun z => z⟩
        · left
          rw [eq]
          exact hlb
      · rcases hmem l' hm with ⟨hm, hne⟩ | eq
        · exact ⟨hne, hm⟩
        · rw [eq] at hd
          cases hd
end
def InR (l : Ln) (r : Rm) : Prop := ∃ ls ∈ r.ss, l ∈ ls
structure HCoh (ha : Ha) (pl : Nat → List Int) : Prop where
  w : ∀ r ∈ ha.own, RmW r
  th : ∀ r ∈ ha.own, r.ru.bk = false → ∀ l, InR l r → l.d = false
  t : TaW ha.t
  pn : ∀ r ∈ ha.own, ∀ l, InR l r → l.ns = pl l.b
  one : ∀ (i j : Nat) (r q : Rm), i ≠ j → ha.own[i]? = some r → ha.own[j]? = some q → ∀ l m, InR l r → InR m q → l.d = true → l.b ≠ m.b
  ef : ∀ c, (∀ r ∈ ha.own, ∀ l, InR l r → l.b = c → l.d = false) → eff ha.t c = pl c
theorem InR.ls {l : Ln} {r : Rm} (h : InR l r) (w : RmW r) : l ∈ r.ls l.b := by
  obtain ⟨ls, hm, hl⟩ := h
  obtain ⟨k, hk, e⟩ := List.mem_iff_getElem.mp hm
  have hg : r.ss[k]? = some ls := by rw [List.getElem?_eq_getElem hk, e]
  have := (w k ls hg).ix l hl
  unfold Rm.ls Rm.ix
  rw [this, List.getD_eq_getElem?_getD, hg]
  exact hl
theorem InR.of {l : Ln} {r : Rm} {b : Nat} (h0 : 0 < r.ss.length) (h : l ∈ r.ls b) : InR l r := ⟨_, ls_mem h0 b, h⟩
theorem InR.uniq {l m : Ln} {r : Rm} (h0 : 0 < r.ss.length) (w : RmW r) (hl : InR l r) (hm : InR m r) (e : l.b = m.b) : l = m := by
  have h1 := hl.ls w
  have h2 := hm.ls w
  rw [← e] at h2
  have W := w _ _ (ls_get h0 l.b)
  have e1 := lnOf_iff W.nd h1 rfl
  have e2 := lnOf_iff W.nd h2 e.symm
  rw [e1] at e2
  exact Option.some.inj e2
theorem InR.put {l : Ln} {r : Rm} {b : Nat} {ls : List Ln} (h : InR l (r.put b ls)) : l ∈ ls ∨ InR l r := by
  obtain ⟨ls', hm, hl⟩ := h
  rcases List.mem_or_eq_of_mem_set hm with hm | e
  · exact .inr ⟨ls', hm, hl⟩
  · rw [e] at hl
    exact .inl hl
theorem InR.put_of {l : Ln} {r : Rm} {b : Nat} {ls : List Ln} (h0 : 0 < r.ss.length) (h : l ∈ ls) : InR l (r.put b ls) := ⟨_, List.mem_set (ix_lt h0 b) _, h⟩
section
variable {ha : Ha} {pl : Nat → List Int} {n m : Nat} {i : Nat} {r : Rm}
theorem HCoh.eff_of (h : HCoh ha pl) (e : ha.own[i]? = some r) (h0 : 0 < r.ss.length) {c : Nat} (A : ∀ (j : Nat) (q : Rm), j ≠ i → ha.own[j]? = some q → ∀ l, InR l q → l.b = c → l.d = false) : effR r ha.t c = pl c := by
  have hr := List.mem_of_getElem? e
  show effS (r.ls c) (eff ha.t) c = pl c
  cases q : lnOf c (r.ls c) with
  | some l =>
    obtain ⟨h1, h2⟩ := lnOf_mem q
    unfold effS
    rw [q, ← h2]
    exact h.pn r hr l (.of h0 h1)
  | none =>
    unfold effS
    rw [q]
    refine h.ef c fun q' hq' l hl hc => ?_
    obtain ⟨j, hj, ej⟩ := List.mem_iff_getElem.mp hq'
    have hg : ha.own[j]? = some q' := by rw [List.getElem?_eq_getElem hj, ej]
    by_cases z : j = i
    · subst z
      rw [e] at hg
      cases hg
      have := hl.ls (h.w r hr)
      rw [hc] at this
      exact absurd hc (lnOf_none q l this)
    · exact A j q' z hg l hl hc
theorem HCoh.rw (h : HCoh ha pl) (e : ha.own[i]? = some r) (h0 : 0 < r.ss.length) : RW r ha.t := by
  have hr := List.mem_of_getElem? e
  refine ⟨h.w r hr, fun ls hm => ⟨fun l hl hd => ?_, fun hb l hl => h.th r hr hb l ⟨ls, hm, hl⟩⟩, h.t⟩
  have hi : InR l r := ⟨ls, hm, hl⟩
  rw [h.pn r hr l hi]
  refine (h.ef l.b fun q' hq' l2 hl2 hc => ?_).symm
  obtain ⟨j, hj, ej⟩ := List.mem_iff_getElem.mp hq'
  have hg : ha.own[j]? = some q' := by rw [List.getElem?_eq_getElem hj, ej]
  by_cases z : j = i
  · subst z
    rw [e] at hg
    cases hg
    rw [hl2.uniq h0 (h.w r hr) hi hc]
    exact hd
  · cases q : l2.d with
    | false => rfl
    | true => exact absurd hc (h.one j i q' r z hg e l2 l hl2 hi q)
theorem HCoh.step (h : HCoh ha pl) (e : ha.own[i]? = some r) (h0 : 0 < r.ss.length) {b : Nat} {ls' : List Ln} {t' : Ta} {f : List Int → List Int}
    (S : Sem r.ss.length (r.ix b) (r.ls b) ha.t ls' t' b f) (hd : r.ru.bk = false → ∀ l ∈ ls', l.d = false)
    (A : ∀ (j : Nat) (q : Rm), j ≠ i → ha.own[j]? = some q → ∀ l, InR l q → l.b = b → l.d = false)
    (B : ((∀ x, f x = x) ∧ ∀ l' ∈ ls', l'.d = true → ∃ l ∈ r.ls b, l.b = l'.b ∧ l.d = true) ∨ ∀ (j : Nat) (q : Rm), j ≠ i → ha.own[j]? = some q → ∀ l, InR l q → l.b ≠ b) :
    HCoh ⟨ha.own.set i (r.put b ls'), t'⟩ (fun c => if c = b then f (pl b) else pl c) := by
  have hr := List.mem_of_getElem? e
  have hi := (List.getElem?_eq_some_iff.mp e).1
  obtain ⟨R', he⟩ := (h.rw e h0).step h0 S hd
  have h0' : 0 < (r.put b ls').ss.length := by
    rw [put_len]
    exact h0
  -- a line of the new room stood there before, or is b's
  have dom : ∀ l', InR l' (r.put b ls') → l'.b = b ∨ ∃ l, InR l r ∧ l.b = l'.b ∧ (l'.d = true → l.d = true) := fun l' hl' => by
    rcases hl'.put with hl' | hl'
    · rcases S.dom l' hl' with z | ⟨l, hl, h1, h2⟩
      · exact .inl z
      · exact .inr ⟨l, .of h0 hl, h1, h2⟩
    · exact .inr ⟨l', hl', rfl, fun z => z⟩
  have oth : ∀ j, j ≠ i → (ha.own.set i (r.put b ls'))[j]? = ha.own[j]? := fun j z => List.getElem?_set_ne (Ne.symm z)
  have mine : (ha.own.set i (r.put b ls'))[i]? = some (r.put b ls') := List.getElem?_set_self hi
  have memC : ∀ q ∈ ha.own.set i (r.put b ls'), q = r.put b ls' ∨ ∃ j, j ≠ i ∧ ha.own[j]? = some q := fun q hq => by
    obtain ⟨j, hj, ej⟩ := List.mem_iff_getElem.mp hq
    have hg : (ha.own.set i (r.put b ls'))[j]? = some q := by rw [List.getElem?_eq_getElem hj, ej]
    by_cases z : j = i
    · subst z
      rw [mine] at hg
      exact .inl (Option.some.inj hg).symm
    · rw [oth j z] at hg
      exact .inr ⟨j, z, hg⟩
  have eb : effR r ha.t b = pl b := h.eff_of e h0 A
  have pl' : ∀ l, InR l (r.put b ls') → l.ns = if l.b = b then f (pl b) else pl l.b := fun l hl => by
    have h1 : effR (r.put b ls') t' l.b = l.ns := effS_mem (R'.w _ _ (ls_get h0' l.b)) (hl.ls R'.w) _
    rw [he, eb] at h1
    rw [← h1]
    by_cases z : l.b = b
    · rw [if_pos z, if_pos z]
    · rw [if_neg z, if_neg z]
      refine h.eff_of e h0 fun j q zj hg l2 hl2 hc => ?_
      rcases dom l hl with z2 | ⟨l0, h3, h4, _⟩
      · exact absurd z2 z
      · cases q2 : l2.d with
        | false => rfl
        | true => exact absurd (hc.trans h4.symm) (h.one j i q r zj hg e l2 l0 hl2 h3 q2)
  refine ⟨fun q hq => ?_, fun q hq hb l hl => ?_, R'.t, fun q hq l hl => ?_, fun j1 j2 q1 q2 hne g1 g2 l l2 hl hl2 hdl => ?_, fun c hc => ?_⟩
  · rcases memC q hq with z | ⟨j, _, hg⟩
    · rw [z]
      exact R'.w
    · exact h.w q (List.mem_of_getElem? hg)
  · rcases memC q hq with z | ⟨j, _, hg⟩
    · rw [z] at hl hb
      obtain ⟨lsx, hm, hl⟩ := hl
      exact (R'.c lsx hm).2 hb l hl
    · exact h.th q (List.mem_of_getElem? hg) hb l hl
  · rcases memC q hq with z | ⟨j, zj, hg⟩
    · rw [z] at hl
      exact pl' l hl
    · show l.ns = if l.b = b then f (pl b) else pl l.b
      rw [h.pn q (List.mem_of_getElem? hg) l hl]
      split
      · rename_i z
        rcases B with ⟨hf, _⟩ | B
        · rw [hf, z]
        · exact absurd z (B j q zj hg l hl)
      · rfl
  · have g1 : (ha.own.set i (r.put b ls'))[j1]? = some q1 := g1
    have g2 : (ha.own.set i (r.put b ls'))[j2]? = some q2 := g2
    intro hbb
    by_cases z1 : j1 = i
    · have z2 : j2 ≠ i := fun z => hne (z1.trans z.symm)
      rw [z1, mine] at g1
      rw [oth j2 z2] at g2
      cases g1
      rcases hl.put with hl' | hl'
      · rcases B with ⟨_, hdirt⟩ | B
        · obtain ⟨l0, h3, h4, h5⟩ := hdirt l hl' hdl
          exact h.one i j2 r q2 (Ne.symm z2) e g2 l0 l2 (.of h0 h3) hl2 h5 (h4.trans hbb)
        · rcases S.dom l hl' with z | ⟨l0, h3, h4, h5⟩
          · exact B j2 q2 z2 g2 l2 hl2 (hbb.symm.trans z)
          · exact h.one i j2 r q2 (Ne.symm z2) e g2 l0 l2 (.of h0 h3) hl2 (h5 hdl) (h4.trans hbb)
      · exact h.one i j2 r q2 (Ne.symm z2) e g2 l l2 hl' hl2 hdl hbb
    · rw [oth j1 z1] at g1
      by_cases z2 : j2 = i
      · rw [z2, mine] at g2
        cases g2
        rcases dom l2 hl2 with z | ⟨l0, h3, h4, _⟩
        · have := A j1 q1 z1 g1 l hl (hbb.trans z)
          rw [this] at hdl
          cases hdl
        · exact h.one j1 i q1 r z1 g1 e l l0 hl h3 hdl (hbb.trans h4.symm)
      · rw [oth j2 z2] at g2
        exact h.one j1 j2 q1 q2 hne g1 g2 l l2 hl hl2 hdl hbb
  · show eff t' c = if c = b then f (pl b) else pl c
    have hc : ∀ q ∈ ha.own.set i (r.put b ls'), ∀ l, InR l q → l.b = c → l.d = false := hc
    cases q : lnOf c ((r.put b ls').ls c) with
    | some l =>
      obtain ⟨h1, h2⟩ := lnOf_mem q
      have hin : InR l (r.put b ls') := .of h0' h1
      have h3 := (R'.c _ (ls_mem h0' c)).1 l h1 (hc _ (List.mem_of_getElem? mine) l hin h2)
      rw [← h2, ← h3]
      exact pl' l hin
    | none =>
      have h1 : effR (r.put b ls') t' c = eff t' c := by
        show effS _ _ c = _
        unfold effS
        rw [q]
      rw [← h1, he, eb]
      split
      · rfl
      · refine h.eff_of e h0 fun j q' zj hg l hl hcl => ?_
        refine hc q' ?_ l hl hcl
        have : (ha.own.set i (r.put b ls'))[j]? = some q' := by
          rw [oth j zj]
          exact hg
        exact List.mem_of_getElem? this
theorem HCoh.id (h : HCoh ha (fun c => if c = i then pl i else pl c)) : HCoh ha pl := by
  have : (fun c => if c = i then pl i else pl c) = pl := by
    funext c
    split
    · rename_i z
      rw [z]
    · rfl
  rw [this] at h
  exact h
/-- a hand that is asked yields -/
theorem HCoh.yieldAt (h : HCoh ha pl) (hk : HaOk n m ha) {b : Nat} (hb : b < 16) (g : Bool) (i : Nat) : HCoh (yieldAt n ha b g i) pl ∧ (∀ j, j ≠ i → (Ww.yieldAt n ha b g i).own[j]? = ha.own[j]?) ∧ (∀ q, (Ww.yieldAt n ha b g i).own[i]? = some q → ∃ r, ha.own[i]? = some r ∧ (∀ l, InR l q → (l.b = b → l.d = false) ∧ (g = true → l.b ≠ b) ∧ ∃ l0, InR l0 r ∧ l0.b = l.b)) := by
  unfold Ww.yieldAt
  cases e : ha.own[i]? with
  | none => exact ⟨h, fun _ _ => rfl, fun q hq => by rw [show ha.own[i]? = none from e] at hq; cases hq⟩
  | some r =>
    have hr := hk.own r (List.mem_of_getElem? e)
    have R := h.rw e hr.s0
    obtain ⟨s1, s2, s3⟩ := R.set hr.s0 b
    obtain ⟨S, sd, sg⟩ := yield_sem (ops_c n) s1 (hr.ls b) s2 hk.t R.t hb g
    have hold : (∃ l, InR l r ∧ l.b = b) ∨ (yieldL (ops n) r.ru (r.ls b) ha.t b g) = (r.ls b, ha.t) := by
      cases q : fnd b (r.ls b) with
      | none =>
        right
        unfold yieldL
        rw [q]
      | some j =>
        obtain ⟨l, hl, hlb, _⟩ := fnd_some q
        exact .inl ⟨l, .of hr.s0 (List.mem_of_getElem? hl), hlb⟩
    have hi := (List.getElem?_eq_some_iff.mp e).1
    refine ⟨?_, fun j z => List.getElem?_set_ne (Ne.symm z), fun q hq => ?_⟩
    · rcases hold with ⟨l, hl, hlb⟩ | hid
      · refine HCoh.id (i := b) (h.step e hr.s0 S (fun hbk l' hl' => ?_) (fun j q z hg l2 hl2 hb2 => ?_) (.inl ⟨fun _ => rfl, fun l' hl' hd' => ⟨l', (sd l' hl' hd').2, rfl, hd'⟩⟩))
        · cases q : l'.d with
          | false => rfl
          | true =>
            have := s3 hbk l' (sd l' hl' q).2
            rw [this] at q
            cases q
        · cases q2 : l2.d with
          | false => rfl
          | true => exact absurd (hb2.trans hlb.symm) (h.one j i q r z hg e l2 l hl2 hl q2)
      · show HCoh ⟨ha.own.set i (r.put b (yieldL (ops n) r.ru (r.ls b) ha.t b g).1), (yieldL (ops n) r.ru (r.ls b) ha.t b g).2⟩ pl
        rw [hid]
        show HCoh ⟨ha.own.set i (r.put b (r.ls b)), ha.t⟩ pl
        rw [put_self hr.s0]
        have : ha.own.set i r = ha.own := by
          apply List.ext_getElem?
          intro j
          by_cases z : i = j
          · subst z
            rw [List.getElem?_set_self hi, e]
          · rw [List.getElem?_set_ne z]
        rw [this]
        exact h
    · have hq : (ha.own.set i (r.put b (yieldL (ops n) r.ru (r.ls b) ha.t b g).1))[i]? = some q := hq
      rw [List.getElem?_set_self hi] at hq
      cases hq
      refine ⟨r, rfl, fun l hl => ?_⟩
      have S' := R.step hr.s0 S (fun hbk l' hl' => by
        cases q : l'.d with
        | false => rfl
        | true =>
          have := s3 hbk l' (sd l' hl' q).2
          rw [this] at q
          cases q)
      have hin : l.b = b → l ∈ (yieldL (ops n) r.ru (r.ls b) ha.t b g).1 := fun z => by
        have := hl.ls S'.1.w
        rw [z, ls_put hr.s0] at this
        exact this
      refine ⟨fun z => ?_, fun hg z => sg hg l (hin z) z, ?_⟩
      · cases q : l.d with
        | false => rfl
        | true => exact absurd z (sd l (hin z) q).1
      · rcases hl.put with hl | hl
        · rcases S.dom l hl with z | ⟨l0, h3, h4, _⟩
          · rcases hold with ⟨l0, h3, h4⟩ | hid
            · exact ⟨l0, h3, h4.trans z.symm⟩
            · rw [hid] at hl
              exact ⟨l, .of hr.s0 hl, rfl⟩
          · exact ⟨l0, .of hr.s0 h3, h4⟩
        · exact ⟨l, hl, rfl⟩
/-- all others asked -/
theorem HCoh.askN (h : HCoh ha pl) (hk : HaOk n m ha) {b : Nat} (hb : b < 16) (hand : Nat) (g : Bool) : ∀ k, HCoh (askN n hand b g k ha) pl ∧ HaOk n m (Ww.askN n hand b g k ha) ∧ (∀ j, k ≤ j ∨ j = hand → (Ww.askN n hand b g k ha).own[j]? = ha.own[j]?) ∧
    ∀ j, j < k → j ≠ hand → ∀ q, (Ww.askN n hand b g k ha).own[j]? = some q → ∃ r, ha.own[j]? = some r ∧ (∀ l, InR l q → (l.b = b → l.d = false) ∧ (g = true → l.b ≠ b) ∧ ∃ l0, InR l0 r ∧ l0.b = l.b)
  | 0 => ⟨h, hk, fun _ _ => rfl, fun j hj => absurd hj (Nat.not_lt_zero _)⟩
  | k + 1 => by
    obtain ⟨h1, h2, h3, h4⟩ := HCoh.askN h hk hb hand g k
    unfold Ww.askN
    split
    · rename_i z
      refine ⟨h1, h2, fun j hj => h3 j (by omega), fun j hj hne => h4 j (by omega) hne⟩
    · rename_i z
      obtain ⟨y1, y2, y3⟩ := h1.yieldAt h2 hb g k
      refine ⟨y1, (yieldAt_ok h2 hb g k).1, fun j hj => ?_, fun j hj hne q hq => ?_⟩
      · rw [y2 j (by omega)]
        exact h3 j (by omega)
      · by_cases ek : j = k
        · subst ek
          obtain ⟨r, g1, g2⟩ := y3 q hq
          rw [h3 j (by omega)] at g1
          exact ⟨r, g1, g2⟩
        · rw [y2 j ek] at hq
          exact h4 j (by omega) hne q hq
theorem HCoh.ask (h : HCoh ha pl) (hk : HaOk n m ha) {b : Nat} (hb : b < 16) (hand : Nat) (g : Bool) : HCoh (ask n ha hand b g) pl ∧ HaOk n m (Ww.ask n ha hand b g) ∧ (Ww.ask n ha hand b g).own[hand]? = ha.own[hand]? ∧
    ∀ j, j ≠ hand → ∀ q, (Ww.ask n ha hand b g).own[j]? = some q → ∃ r, ha.own[j]? = some r ∧ (∀ l, InR l q → (l.b = b → l.d = false) ∧ (g = true → l.b ≠ b) ∧ ∃ l0, InR l0 r ∧ l0.b = l.b) := by
  obtain ⟨h1, h2, h3, h4⟩ := h.askN hk hb hand g ha.own.length
  refine ⟨h1, h2, h3 hand (.inr rfl), fun j hne q hq => ?_⟩
  have hj : j < ha.own.length := by
    have := (List.getElem?_eq_some_iff.mp hq).1
    have e : (Ww.ask n ha hand b g).own.length = m := h2.len
    have e2 := hk.len
    omega
  exact h4 j hj hne q hq
def empty (ha : Ha) (i : Nat) : Prop := ∀ r, ha.own[i]? = some r → ∀ l, ¬ InR l r
/-- a look -/
theorem HCoh.look (h : HCoh ha pl) (hk : HaOk n m ha) {hand p : Nat} (hh : hand < m) (hp : p < 64) :
    HCoh (hLook n ha hand p).2 pl ∧ (hLook n ha hand p).1 = (pl (p / 4)).getD (p % 4) 0 ∧ (∀ i, i ≠ hand → empty ha i → empty (hLook n ha hand p).2 i) ∧ ∀ j, j ≠ hand → ∀ q, (hLook n ha hand p).2.own[j]? = some q → ∀ l, InR l q → l.b = p / 4 → l.d = false := by
  have hb : p / 4 < 16 := by omega
  obtain ⟨a1, a2, a3, a4⟩ := h.ask hk hb hand false
  unfold hLook
  have hlt : hand < ha.own.length := by rw [hk.len]; exact hh
  generalize Ww.ask n ha hand (p / 4) false = hb' at a1 a2 a3 a4 ⊢
  unfold lookAt
  have e : hb'.own[hand]? = some ha.own[hand] := by rw [a3, List.getElem?_eq_getElem hlt]
  rw [e]
  generalize ha.own[hand] = r at e ⊢
  have hr := a2.own r (List.mem_of_getElem? e)
  have R := a1.rw e hr.s0
  obtain ⟨s1, s2, s3⟩ := R.set hr.s0 (p / 4)
  obtain ⟨S, hdirt, hat⟩ := reach_sem (ops_c n) (ops_ok n) hr.ru s1 (hr.ls (p / 4)) s2 a2.t R.t hb rfl
  obtain ⟨_, _, ⟨l, hlg, hlb, hlo⟩, _⟩ := reachL_ok (ops_ok n) hr.ru (hr.ls (p / 4)) a2.t hb
  obtain ⟨_, hns⟩ := hat l hlg
  have A : ∀ (j : Nat) (q : Rm), j ≠ hand → hb'.own[j]? = some q → ∀ l, InR l q → l.b = p / 4 → l.d = false := fun j q z hg l hl hlb => by
    obtain ⟨_, _, g⟩ := a4 j z q hg
    exact (g l hl).1 hlb
  refine ⟨HCoh.id (i := p / 4) (a1.step e hr.s0 S (fun hbk l' hl' => ?_) A (.inl ⟨fun _ => rfl, fun l' hl' hd' => hdirt l' hl' hd'⟩)), ?_, fun i hne hem q hq l' hl' => ?_, fun j hne q hq => ?_⟩
  · cases q : l'.d with
    | false => rfl
    | true =>
      obtain ⟨l0, g1, _, g3⟩ := hdirt l' hl' q
      rw [s3 hbk l0 g1] at g3
      cases g3
  · show (lnAt _ _).ns.getD (p % 4) 0 = _
    rw [lnAt_get hlg, hns]
    have := a1.eff_of e hr.s0 (c := p / 4) fun j q z hg => A j q z hg
    rw [← this]
  · have hq : (hb'.own.set hand _)[i]? = some q := hq
    rw [List.getElem?_set_ne (Ne.symm hne)] at hq
    obtain ⟨r0, g1, g2⟩ := a4 i hne q hq
    obtain ⟨_, _, l0, g3, _⟩ := g2 l' hl'
    exact hem r0 g1 l0 g3
  · have hq : (hb'.own.set hand _)[j]? = some q := hq
    rw [List.getElem?_set_ne (Ne.symm hne)] at hq
    exact A j q hne hq
theorem HCoh.change (h : HCoh ha pl) (hk : HaOk n m ha) {hand p : Nat} (hh : hand < m) (hp : p < 64) (v : Int) :
    HCoh (hChange n ha hand p v) (fun c => if c = p / 4 then (pl (p / 4)).set (p % 4) v else pl c) ∧ (∀ i, i ≠ hand → empty ha i → empty (hChange n ha hand p v) i) ∧ ∀ j, j ≠ hand → ∀ q, (hChange n ha hand p v).own[j]? = some q → ∀ l, InR l q → l.b ≠ p / 4 := by
  have hb : p / 4 < 16 := by omega
  obtain ⟨a1, a2, a3, a4⟩ := h.ask hk hb hand true
  unfold hChange
  have hlt : hand < ha.own.length := by rw [hk.len]; exact hh
  generalize Ww.ask n ha hand (p / 4) true = hb' at a1 a2 a3 a4 ⊢
  unfold changeAt
  have e : hb'.own[hand]? = some ha.own[hand] := by rw [a3, List.getElem?_eq_getElem hlt]
  rw [e]
  generalize ha.own[hand] = r at e ⊢
  have hr := a2.own r (List.mem_of_getElem? e)
  have R := a1.rw e hr.s0
  obtain ⟨s1, s2, s3⟩ := R.set hr.s0 (p / 4)
  obtain ⟨S, sd⟩ := change_sem (ops_c n) (ops_ok n) hr.ru s1 (hr.ls (p / 4)) s2 a2.t R.t hp rfl v s3
  have A : ∀ (j : Nat) (q : Rm), j ≠ hand → hb'.own[j]? = some q → ∀ l, InR l q → l.b ≠ p / 4 := fun j q z hg l hl => by
    obtain ⟨_, _, g⟩ := a4 j z q hg
    exact (g l hl).2.1 rfl
  refine ⟨a1.step e hr.s0 S sd (fun j q z hg l hl hlb => absurd hlb (A j q z hg l hl)) (.inr A), fun i hne hem q hq l' hl' => ?_, fun j hne q hq => ?_⟩
  · have hq : (hb'.own.set hand _)[i]? = some q := hq
    rw [List.getElem?_set_ne (Ne.symm hne)] at hq
    obtain ⟨r0, g1, g2⟩ := a4 i hne q hq
    obtain ⟨_, _, l0, g3, _⟩ := g2 l' hl'
    exact hem r0 g1 l0 g3
  · have hq : (hb'.own.set hand _)[j]? = some q := hq
    rw [List.getElem?_set_ne (Ne.symm hne)] at hq
    exact A j q hne hq
end
/-! ### a new hall -/
theorem mkRm_none {u : Rul} {tl : List V} {l : Ln} : ¬ InR l (mkRm u tl) := by
  rintro ⟨ls, hm, hl⟩
  have : ls = [] := (List.mem_replicate.mp hm).2
  rw [this] at hl
  cases hl
theorem mkRm_w (u : Rul) (tl : List V) : RmW (mkRm u tl) := fun k ls hk => by
  have := (List.mem_replicate.mp (List.mem_of_getElem? hk)).2
  rw [this]
  exact ⟨List.nodup_nil, fun l hl => by cases hl⟩
theorem shRs_w : ∀ (lev : Nat) (us : List Rul) (far : List Int), ChW (shRs lev us) far ∧ ∀ c, effC (shRs lev us) far c = getBlk far c
  | _, [], far => ⟨trivial, fun _ => rfl⟩
  | lev, u :: us, far => by
    obtain ⟨h1, h2⟩ := shRs_w (lev + 1) us far
    refine ⟨⟨mkRm_w u _, fun ls hm => ⟨fun l hl => absurd ⟨ls, hm, hl⟩ mkRm_none, fun _ l hl => absurd ⟨ls, hm, hl⟩ mkRm_none⟩, h1⟩, fun c => ?_⟩
    show effS ((mkRm u [.int lev, .int 0]).ls c) (effC (shRs (lev + 1) us) far) c = _
    have : (mkRm u [.int lev, .int 0]).ls c = [] := by
      unfold Rm.ls
      rw [List.getD_eq_getElem?_getD]
      cases q : (mkRm u [.int lev, .int 0]).ss[(mkRm u [.int lev, .int 0]).ix c]? with
      | none => rfl
      | some x => exact (List.mem_replicate.mp (List.mem_of_getElem? q)).2
    rw [this]
    exact h2 c
theorem hall0_coh (us : List Rul) (m : Nat) : HCoh (hall0 us m) (getBlk (List.replicate 64 0)) ∧ ∀ i, empty (hall0 us m) i := by
  have hno : ∀ r ∈ (hall0 us m).own, ∀ l, ¬ InR l r := fun r hr l => by
    obtain ⟨i, _, rfl⟩ := List.mem_map.mp hr
    exact mkRm_none
  obtain ⟨h1, h2⟩ := shRs_w 1 (us.drop 1) (List.replicate 64 0)
  refine ⟨⟨fun r hr => ?_, fun r hr _ l hl => absurd hl (hno r hr l), h1, fun r hr l hl => absurd hl (hno r hr l), fun i j r q _ hr _ l _ hl => absurd hl (hno r (List.mem_of_getElem? hr) l), fun c _ => h2 c⟩, fun i r hr l => hno r (List.mem_of_getElem? hr) l⟩
  obtain ⟨i, _, rfl⟩ := List.mem_map.mp hr
  exact mkRm_w _ _
-- WwP
/-! ### the hands' lines, one behind the other -/
def linesOf (own : List Rm) : Nat → List (Nat × Ln)
  | 0 => []
  | i + 1 => linesOf own i ++ (match own[i]? with
    | none => []
    | some r => r.ss.flatten.map (Prod.mk i))
theorem linesOf_succ {own : List Rm} {i : Nat} {r : Rm} (e : own[i]? = some r) : linesOf own (i + 1) = linesOf own i ++ r.ss.flatten.map (Prod.mk i) := by
  show linesOf own i ++ _ = _
  rw [e]
theorem linesOf_mem {own : List Rm} : ∀ {i : Nat} {x : Nat × Ln}, x ∈ linesOf own i → ∃ r, own[x.1]? = some r ∧ InR x.2 r ∧ x.1 < i
  | 0, x, h => by cases h
  | i + 1, x, h => by
    rcases List.mem_append.mp h with h | h
    · obtain ⟨r, h1, h2, h3⟩ := linesOf_mem h
      exact ⟨r, h1, h2, by omega⟩
    · cases e : own[i]? with
      | none =>
        rw [e] at h
        cases h
      | some r =>
        rw [e] at h
        obtain ⟨l, hl, rfl⟩ := List.mem_map.mp h
        obtain ⟨ls, hm, hl⟩ := List.mem_flatten.mp hl
        exact ⟨r, e, ⟨ls, hm, hl⟩, by show i < i + 1; omega⟩
theorem flat_le : ∀ {ss : List (List Ln)}, (∀ ls ∈ ss, ls.length ≤ 4) → ss.flatten.length ≤ 4 * ss.length
  | [], _ => by simp
  | ls :: ss, h => by
    have := flat_le (ss := ss) fun l hl => h l (List.mem_cons_of_mem _ hl)
    have := h ls List.mem_cons_self
    simp only [List.flatten_cons, List.length_append, List.length_cons]
    omega
theorem rm_flat {r : Rm} (h : RmOk r) : r.ss.flatten.length ≤ 16 := by
  have := flat_le (ss := r.ss) fun ls hl => by
    have := (h.ln ls hl).len
    have := h.ru.w4
    omega
  have := h.s4
  omega
theorem linesOf_len {own : List Rm} (h : ∀ r ∈ own, RmOk r) : ∀ i, (linesOf own i).length ≤ 16 * i
  | 0 => by simp [linesOf]
  | i + 1 => by
    have ih := linesOf_len h i
    cases e : own[i]? with
    | none =>
      show (linesOf own i ++ _).length ≤ _
      rw [e, List.append_nil]
      omega
    | some r =>
      have := rm_flat (h r (List.mem_of_getElem? e))
      rw [linesOf_succ e, List.length_append, List.length_map]
      omega
theorem flat_nodup {s : Nat} : ∀ (off : Nat) {ss : List (List Ln)}, (∀ k ls, ss[k]? = some ls → SetW s (off + k) ls) → (ss.flatten.map (·.b)).Nodup
  | _, [], _ => List.nodup_nil
  | off, ls :: ss, h => by
    have h0 := h 0 ls rfl
    have ht := flat_nodup (off + 1) (ss := ss) fun k l hl => by
      have := h (k + 1) l (by simpa using hl)
      rwa [show off + 1 + k = off + (k + 1) by omega]
    rw [List.flatten_cons, List.map_append]
    refine List.nodup_append.mpr ⟨h0.nd, ht, fun a ha b hb e => ?_⟩
    obtain ⟨l, hl, rfl⟩ := List.mem_map.mp ha
    obtain ⟨l2, hl2, rfl⟩ := List.mem_map.mp hb
    obtain ⟨ls2, hm2, hl2⟩ := List.mem_flatten.mp hl2
    obtain ⟨k, hk, ek⟩ := List.mem_iff_getElem.mp hm2
    have g : ss[k]? = some ls2 := by rw [List.getElem?_eq_getElem hk, ek]
    have a1 := h0.ix l hl
    have a2 := (h (k + 1) ls2 (by simpa using g)).ix l2 hl2
    have e : l.b = l2.b := e
    rw [e] at a1
    omega
theorem rm_nodup {r : Rm} (w : RmW r) : (r.ss.flatten.map (·.b)).Nodup := flat_nodup (s := r.ss.length) 0 fun k ls hk => by
  rw [Nat.zero_add]
  exact w k ls hk
def dirtyB (L : List (Nat × Ln)) : List Int := (L.filter (·.2.d)).map fun x => (x.2.b : Int)
theorem dirtyB_nodup {ha : Ha} {pl : Nat → List Int} (h : HCoh ha pl) : ∀ i, (dirtyB (linesOf ha.own i)).Nodup
  | 0 => List.nodup_nil
  | i + 1 => by
    have ih := dirtyB_nodup h i
    cases e : ha.own[i]? with
    | none =>
      have : linesOf ha.own (i + 1) = linesOf ha.own i := by
        show linesOf ha.own i ++ _ = _
        rw [e, List.append_nil]
      rw [this]
      exact ih
    | some r =>
      rw [linesOf_succ e]
      unfold dirtyB
      rw [List.filter_append, List.map_append]
      refine List.nodup_append.mpr ⟨ih, ?_, fun a ha b hb eq => ?_⟩
      · rw [List.filter_map, List.map_map]
        have : ((fun x : Nat × Ln => (x.2.b : Int)) ∘ Prod.mk i) = ((fun n : Nat => (n : Int)) ∘ fun l : Ln => l.b) := rfl
        rw [this, ← List.map_map]
        refine List.Pairwise.map _ (S := fun a b : Int => a ≠ b) (R := fun a b : Nat => a ≠ b) (fun a b hab z => hab (Int.ofNat.inj z)) ?_
        exact List.Nodup.sublist (List.filter_sublist.map _) (rm_nodup (h.w r (List.mem_of_getElem? e)))
      · obtain ⟨x, hx, rfl⟩ := List.mem_map.mp ha
        obtain ⟨y, hy, rfl⟩ := List.mem_map.mp hb
        obtain ⟨hx1, hx2⟩ := List.mem_filter.mp hx
        obtain ⟨hy1, hy2⟩ := List.mem_filter.mp hy
        obtain ⟨l, hl, rfl⟩ := List.mem_map.mp hy1
        obtain ⟨ls, hm, hl⟩ := List.mem_flatten.mp hl
        obtain ⟨q, g1, g2, g3⟩ := linesOf_mem hx1
        have eq : (x.2.b : Int) = (l.b : Int) := eq
        exact h.one x.1 i q r (by omega) g1 e x.2 l g2 ⟨ls, hm, hl⟩ hx2 (by omega)
def LnsAt (N : List Cell) : List Addr → List (Nat × Ln) → Prop
  | [], [] => True
  | a :: as, x :: xs => (∃ na, (a, HO.tup [.int x.1, .int x.2.b, .ref na, .bl x.2.d]) ∈ N ∧ (na, HO.tup (x.2.ns.map V.int)) ∈ N) ∧ LnsAt N as xs
  | _, _ => False
theorem LnsAt.len {N : List Cell} : ∀ {as : List Addr} {xs : List (Nat × Ln)}, LnsAt N as xs → as.length = xs.length
  | [], [], _ => rfl
  | [], _ :: _, h => h.elim
  | _ :: _, [], h => h.elim
  | _ :: _, _ :: _, h => congrArg (· + 1) (LnsAt.len h.2)
theorem LnsAt.get {N : List Cell} : ∀ {as : List Addr} {xs : List (Nat × Ln)} {i : Nat} {a : Addr}, LnsAt N as xs → as[i]? = some a → ∃ x, xs[i]? = some x ∧ ∃ na, (a, HO.tup [.int x.1, .int x.2.b, .ref na, .bl x.2.d]) ∈ N ∧ (na, HO.tup (x.2.ns.map V.int)) ∈ N
  | [], _, i, a, _, e => by simp at e
  | _ :: _, [], _, _, h, _ => h.elim
  | b :: as, u :: us, 0, a, h, e => by
    simp at e
    subst e
    exact ⟨u, rfl, h.1⟩
  | b :: as, u :: us, i + 1, a, h, e => by
    obtain ⟨v, h1, h2⟩ := LnsAt.get (i := i) (a := a) h.2 (by simpa using e)
    exact ⟨v, by simpa using h1, h2⟩
theorem LnsAt.mono {N N' : List Cell} (hs : ∀ c ∈ N, c ∈ N') : ∀ {as : List Addr} {xs : List (Nat × Ln)}, LnsAt N as xs → LnsAt N' as xs
  | [], [], _ => trivial
  | [], _ :: _, h => h.elim
  | _ :: _, [], h => h.elim
  | _ :: _, _ :: _, h => ⟨let ⟨na, h1, h2⟩ := h.1; ⟨na, hs _ h1, hs _ h2⟩, LnsAt.mono hs h.2⟩
theorem LnsAt.app {N : List Cell} : ∀ {as bs : List Addr} {xs ys : List (Nat × Ln)}, LnsAt N as xs → LnsAt N bs ys → LnsAt N (as ++ bs) (xs ++ ys)
  | [], _, [], _, _, k => k
  | [], _, _ :: _, _, h, _ => h.elim
  | _ :: _, _, [], _, h, _ => h.elim
  | _ :: _, _, _ :: _, _, h, k => ⟨h.1, LnsAt.app h.2 k⟩
theorem DpL.lnI {N : List Cell} {v : V} {l : Ln} (h : DpL N v (lnD l)) : ∃ p na, v = .ref p ∧ (p, HO.tup [.int l.b, .ref na, .bl l.d]) ∈ N ∧ (na, HO.tup (l.ns.map V.int)) ∈ N := by
  obtain ⟨p, vs, rfl, h1, h2⟩ := h.tupI
  cases h2 with
  | cons a h2 =>
    cases h2 with
    | cons b h2 =>
      cases h2 with
      | cons c h2 =>
        cases h2
        cases a
        cases c
        obtain ⟨na, ws, rfl, h3, h4⟩ := b.tupI
        rw [h4.intsI] at h3
        exact ⟨p, na, rfl, h1, h3⟩
def dCells (cs : List Int) : Deed → List Int
  | .look _ _ => cs
  | .set _ p v => cs.set p v
theorem dCells_len {cs : List Int} {d : Deed} : (dCells cs d).length = cs.length := by
  cases d with
  | look => rfl
  | set h p v => exact List.length_set
theorem deed_coh {n m : Nat} {ha : Ha} {cs : List Int} {d : Deed} (h : HCoh ha (getBlk cs)) (hk : HaOk n m ha) (hcs : cs.length = 64) (hd : d.ok m) :
    HCoh (doDeed n ha d).2 (getBlk (dCells cs d)) ∧ (∀ i, i ≠ d.h → empty ha i → empty (doDeed n ha d).2 i) ∧
      ∀ j, j ≠ d.h → ∀ q, (doDeed n ha d).2.own[j]? = some q → ∀ l, InR l q → l.b = d.p / 4 → l.d = false ∧ ∃ h p, d = .look h p := by
  cases d with
  | look hh p =>
    obtain ⟨h1, _, h3, h4⟩ := h.look hk hd.1 hd.2
    exact ⟨h1, h3, fun j hj q hq l hl hb => ⟨h4 j hj q hq l hl hb, hh, p, rfl⟩⟩
  | set hh p v =>
    obtain ⟨h1, h3, h4⟩ := h.change hk hd.1 hd.2.1 v
    refine ⟨?_, h3, fun j hj q hq l hl hb => absurd hb (h4 j hj q hq l hl)⟩
    have : (fun c => if c = p / 4 then (getBlk cs (p / 4)).set (p % 4) v else getBlk cs c) = getBlk (cs.set p v) := by
      funext c
      rw [cell_get hcs hd.2.1 v c]
      split
      · rename_i z
        rw [z]
      · rfl
    rw [this] at h1
    exact h1
theorem cut_blk {cs : List Int} (h : cs.length = 64) {b : Nat} (hb : b < 16) : cutV (cs.map V.int) (some ((4 : Int) * (b : Int))) (some ((4 : Int) * (b : Int) + 4)) = (getBlk cs b).map V.int := by
  have e1 : (4 : Int) * (b : Int) = ((b * 4 : Nat) : Int) := by omega
  have e2 : (4 : Int) * (b : Int) + 4 = ((b * 4 + 4 : Nat) : Int) := by omega
  rw [e2, e1, cutV_nat (by omega) (by rw [List.length_map]; omega)]
  unfold getBlk
  rw [List.map_take, List.map_drop]
  congr 1
  omega
theorem fnOr {P : Program} {w : World} {K : PySem.W.Frag} {mg : Str → Option Value} {base : Heap} {CX : CXT} {k : Nat} {f : Addr} {fd : FuncData} {ps : List Str} {sp sp' : Sp} (F : FnOk P w K mg base CX k f fd ps sp) (G : FnOk P w K mg base CX k f fd ps sp') :
    FnOk P w K mg base CX k f fd ps (fun vs H Q E => sp vs H Q E ∨ sp' vs H Q E) :=
  ⟨fun vs H Q E h => h.elim (F.len vs H Q E) (G.len vs H Q E), fun A outer s H args us vs Q E hr he hb hv hs => hs.elim (F.run A outer s H args us vs Q E hr he hb hv) (G.run A outer s H args us vs Q E hr he hb hv)⟩
theorem Deed.at1 (d : Deed) : atI d.vs 1 = some (.int d.h) := by cases d <;> rfl
theorem Deed.at2 (d : Deed) : atI d.vs 2 = some (.int d.p) := by cases d <;> rfl
theorem DeedsAt.mono {R R' : List Cell} {p : Addr} {ds : List Deed} (h : DeedsAt R p ds) (hs : ∀ c ∈ R, c ∈ R') : DeedsAt R' p ds := by
  obtain ⟨as, h1, h2⟩ := h
  exact ⟨as, hs _ h1, h2.mono hs⟩
theorem DeedsAt.get {R : List Cell} {p : Addr} {ds : List Deed} (h : DeedsAt R p ds) : ∃ as : List Addr, as.length = ds.length ∧ (p, HO.lst (as.map V.ref)) ∈ R ∧ ∀ {i : Nat} {x : V}, (as.map V.ref)[i]? = some x → ∃ (a : Addr) (d : Deed), x = .ref a ∧ as[i]? = some a ∧ ds[i]? = some d ∧ (a, HO.tup d.vs) ∈ R := by
  obtain ⟨as, h1, h2⟩ := h
  refine ⟨as, by have := h2.len; rwa [List.length_map] at this, h1, fun {i x} hi => ?_⟩
  rw [List.getElem?_map] at hi
  cases e : as[i]? with
  | none =>
    rw [e] at hi
    cases hi
  | some a =>
    rw [e] at hi
    obtain ⟨u, hu1, hu2⟩ := h2.get e
    rw [List.getElem?_map] at hu1
    cases e2 : ds[i]? with
    | none =>
      rw [e2] at hu1
      cases hu1
    | some d =>
      rw [e2] at hu1
      have : d.vs = u := Option.some.inj hu1
      subst this
      exact ⟨a, d, (Option.some.inj hi).symm, rfl, rfl, hu2⟩
-- WwS
/-! ### settling -/
section
variable {o : Ops} {u : Ru}
theorem settleL_app : ∀ (a b : List Ln) (t : Ta), settleL o u (a ++ b) t = ((settleL o u a t).1 ++ (settleL o u b (settleL o u a t).2).1, (settleL o u b (settleL o u a t).2).2)
  | [], b, t => rfl
  | l :: a, b, t => by
    have ih := settleL_app a b (if l.d = true then passH o u.tl t l.b l.ns else t)
    show (_ :: (settleL o u (a ++ b) _).1, (settleL o u (a ++ b) _).2) = _
    rw [ih]
    rfl
theorem settleS_app : ∀ (a b : List (List Ln)) (t : Ta), settleS o u (a ++ b) t = ((settleS o u a t).1 ++ (settleS o u b (settleS o u a t).2).1, (settleS o u b (settleS o u a t).2).2)
  | [], b, t => rfl
  | l :: a, b, t => by
    have ih := settleS_app a b (settleL o u l t).2
    show (_ :: (settleS o u (a ++ b) _).1, (settleS o u (a ++ b) _).2) = _
    rw [ih]
    rfl
theorem settleL_fst : ∀ (ls : List Ln) (t : Ta), (settleL o u ls t).1 = ls.map fun l => { l with d := false }
  | [], t => rfl
  | l :: r, t => by
    show _ :: (settleL o u r _).1 = _
    rw [settleL_fst r]
    rfl
theorem settleS_fst : ∀ (ss : List (List Ln)) (t : Ta), (settleS o u ss t).1 = ss.map fun ls => ls.map fun l => { l with d := false }
  | [], t => rfl
  | ls :: r, t => by
    show (settleL o u ls t).1 :: (settleS o u r _).1 = _
    rw [settleS_fst r, settleL_fst]
    rfl
end
def cleanR (r : Rm) : Rm := { r with ss := r.ss.map fun ls => ls.map fun l => { l with d := false } }
def settleR (n : Nat) (r : Rm) (t : Ta) : Rm × Ta := (cleanR r, (settleS (ops n) r.ru r.ss t).2)
theorem settleS_ok {n g : Nat} {o : Ops} {u : Ru} (O : OpsOk n g o) : ∀ {ss : List (List Ln)} {t : Ta}, (∀ ls ∈ ss, ls.length ≤ 4 ∧ ∀ l ∈ ls, LnOk l) → TaOk n t → TaOk n (settleS o u ss t).2 ∧ (settleS o u ss t).2.log.length ≤ t.log.length + 4 * ss.length * (g + 1)
  | [], t, _, h => ⟨h, by show t.log.length ≤ _; omega⟩
  | ls :: r, t, hs, h => by
    obtain ⟨h1, h2⟩ := hs ls List.mem_cons_self
    obtain ⟨_, _, s3, s4⟩ := settleL_ok (u := u) O h2 h
    obtain ⟨i1, i2⟩ := settleS_ok (u := u) O (ss := r) (fun l hl => hs l (List.mem_cons_of_mem _ hl)) s3
    refine ⟨i1, ?_⟩
    show (settleS o u r (settleL o u ls t).2).2.log.length ≤ _
    have e : ls.length * (g + 1) ≤ 4 * (g + 1) := Nat.mul_le_mul_right _ h1
    have e2 : 4 * (ls :: r).length * (g + 1) = 4 * r.length * (g + 1) + 4 * (g + 1) := by
      rw [List.length_cons, show 4 * (r.length + 1) = 4 * r.length + 4 by omega, Nat.add_mul]
    omega
theorem settleR_ok {n : Nat} {r : Rm} {t : Ta} (hr : RmOk r) (h : TaOk n t) (hn : n ≤ 2) : RmOk (settleR n r t).1 ∧ TaOk n (settleR n r t).2 ∧ (settleR n r t).2.log.length ≤ t.log.length + 208 := by
  obtain ⟨h1, h2⟩ := settleS_ok (u := r.ru) (ops_ok n) (ss := r.ss) (fun ls hl => ⟨by have := (hr.ln ls hl).len; have := hr.ru.w4; omega, (hr.ln ls hl).ok⟩) h
  refine ⟨⟨?_, ?_, hr.ru, fun ls hl => ?_⟩, h1, ?_⟩
  · show 0 < (r.ss.map _).length
    rw [List.length_map]
    exact hr.s0
  · show (r.ss.map _).length ≤ 4
    rw [List.length_map]
    exact hr.s4
  · obtain ⟨ls0, h0, rfl⟩ := List.mem_map.mp hl
    refine ⟨by rw [List.length_map]; exact (hr.ln ls0 h0).len, fun l hl => ?_⟩
    obtain ⟨l0, hl0, rfl⟩ := List.mem_map.mp hl
    have := (hr.ln ls0 h0).ok l0 hl0
    exact ⟨this.b, this.ns⟩
  · show (settleS (ops n) r.ru r.ss t).2.log.length ≤ _
    have := g12 hn
    have := hr.s4
    have e : 4 * r.ss.length * (gOf n + 1) ≤ 16 * 13 := Nat.mul_le_mul (by omega) (by omega)
    omega
def spRSettle (K : PySem.W.Frag) : Sp := fun vs H Q _ => ∃ (n : Nat) (a : Addr) (be : Pa) (di : Addr) (r : Rm) (t : Ta) (C1 C D R : List Cell), vs = [.ref a] ∧ n ≤ 2 ∧ RmOk r ∧ TaOk n t ∧ t.log.length ≤ 990000 ∧ RmRepK K di a be r C1 ∧ RepK K di be t.rs t.far C ∧ DRep di t.log D ∧ Own H (C1 ++ (C ++ (D ++ R))) ∧
  ∀ H' : Hp, RPost K di a be R (settleR n r t).1 (settleR n r t).2 H' → Q .non H'
section
variable {P : Program} {w : World} {K : PySem.W.Frag} {mg : Str → Option Value} {base : Heap} {n lv : Nat}
theorem get_mid {α : Type} {a b : List α} {i : Nat} (h : a.length = i) : (a ++ b)[i]? = b[0]? := by
  rw [List.getElem?_append_right (by omega), h, Nat.sub_self]
end
-- WwS2
/-! ### a hall settles -/
def ownT (n : Nat) : List Rm → Ta → Ta
  | [], t => t
  | r :: rs, t => ownT n rs (settleR n r t).2
def shT : Nat → Ta → Ta
  | 0, t => t
  | n + 1, t => match t.rs with
    | [] => t
    | r :: rs => Ta.cons (cleanR r) (shT n (settleR n r { t with rs := rs }).2)
def hSettle (n : Nat) (ha : Ha) : Ha := ⟨ha.own.map cleanR, shT n (ownT n ha.own ha.t)⟩
theorem shT_cons {n : Nat} {t : Ta} {r : Rm} {rs : List Rm} (e : t.rs = r :: rs) : shT (n + 1) t = Ta.cons (cleanR r) (shT n (settleR n r { t with rs := rs }).2) := by
  show (match t.rs with | [] => t | r :: rs => _) = _
  rw [e]
theorem ownT_snoc {n : Nat} : ∀ (a : List Rm) (r : Rm) (t : Ta), ownT n (a ++ [r]) t = (settleR n r (ownT n a t)).2
  | [], r, t => rfl
  | b :: a, r, t => ownT_snoc a r _
theorem ownT_ok {n : Nat} (hn : n ≤ 2) : ∀ {rs : List Rm} {t : Ta}, (∀ r ∈ rs, RmOk r) → TaOk n t → TaOk n (ownT n rs t) ∧ (ownT n rs t).log.length ≤ t.log.length + 208 * rs.length
  | [], t, _, h => ⟨h, by show t.log.length ≤ _; omega⟩
  | r :: rs, t, hr, h => by
    obtain ⟨_, h2, h3⟩ := settleR_ok (hr r List.mem_cons_self) h hn
    obtain ⟨i1, i2⟩ := ownT_ok hn (rs := rs) (fun q hq => hr q (List.mem_cons_of_mem _ hq)) h2
    refine ⟨i1, ?_⟩
    show (ownT n rs (settleR n r t).2).log.length ≤ _
    rw [List.length_cons]
    omega
theorem cleanR_ok {r : Rm} (hr : RmOk r) : RmOk (cleanR r) := by
  refine ⟨?_, ?_, hr.ru, fun ls hl => ?_⟩
  · show 0 < (r.ss.map _).length
    rw [List.length_map]
    exact hr.s0
  · show (r.ss.map _).length ≤ 4
    rw [List.length_map]
    exact hr.s4
  · obtain ⟨ls0, h0, rfl⟩ := List.mem_map.mp hl
    refine ⟨by rw [List.length_map]; exact (hr.ln ls0 h0).len, fun l hl => ?_⟩
    obtain ⟨l0, hl0, rfl⟩ := List.mem_map.mp hl
    have := (hr.ln ls0 h0).ok l0 hl0
    exact ⟨this.b, this.ns⟩
theorem shT_ok : ∀ {n : Nat} {t : Ta}, n ≤ 2 → TaOk n t → TaOk n (shT n t) ∧ (shT n t).log.length ≤ t.log.length + 208 * n
  | 0, t, _, h => ⟨h, by show t.log.length ≤ _; omega⟩
  | n + 1, t, hn, h => by
    obtain ⟨r, rs, e, hr, ht⟩ := h.uncons
    obtain ⟨_, h2, h3⟩ := settleR_ok hr ht (by omega)
    obtain ⟨i1, i2⟩ := shT_ok (n := n) (by omega) h2
    rw [shT_cons e]
    refine ⟨cons_ok (cleanR_ok hr) i1, ?_⟩
    show (shT n _).log.length ≤ _
    have : ({ t with rs := rs } : Ta).log.length = t.log.length := rfl
    omega
theorem hSettle_ok {n m : Nat} {ha : Ha} (h : HaOk n m ha) : HaOk n m (hSettle n ha) ∧ (hSettle n ha).t.log.length ≤ ha.t.log.length + 1100 := by
  obtain ⟨h1, h2⟩ := ownT_ok h.n2 h.own h.t
  obtain ⟨h3, h4⟩ := shT_ok h.n2 h1
  have e1 := h.len
  have e2 := h.n2
  have e3 := h.m3
  refine ⟨⟨h3, by show (ha.own.map _).length = m; rw [List.length_map]; exact h.len, fun r hr => ?_, h.n2, h.m1, h.m3⟩, ?_⟩
  · obtain ⟨q, hq, rfl⟩ := List.mem_map.mp hr
    exact cleanR_ok (h.own q hq)
  · show (shT n (ownT n ha.own ha.t)).log.length ≤ _
    omega
def spHSettle (K : PySem.W.Frag) : Sp := fun vs H Q _ => ∃ (x : Addr) (n m : Nat) (ha : Ha) (C R : List Cell), vs = [.ref x] ∧ HaOk n m ha ∧ LH ha ∧ HallRep K x ha C ∧ Own H (C ++ R) ∧
  ∀ (C' : List Cell) (H' : Hp), HallRep K x (hSettle n ha) C' → Own H' (C' ++ R) → Q .non H'
def spHLog (K : PySem.W.Frag) : Sp := fun vs H Q _ => ∃ (x : Addr) (n m : Nat) (ha : Ha) (C R : List Cell), vs = [.ref x] ∧ HaOk n m ha ∧ LH ha ∧ HallRep K x ha C ∧ Own H (C ++ R) ∧
  ∀ (p : Addr) (as : List Addr) (H' : Hp), TA C as (ha.t.log.map Ent.vs) → Own H' ((p, .lst (as.map V.ref)) :: (C ++ R)) → Q (.ref p) H'
theorem logC_TA : ∀ {as : List Addr} {es : List Ent}, as.length = es.length → TA (logC as es) as (es.map Ent.vs)
  | [], [], _ => trivial
  | [], _ :: _, h => by cases h
  | _ :: _, [], h => by cases h
  | a :: as, e :: es, h => ⟨List.mem_cons_self, (logC_TA (as := as) (es := es) (by simpa using h)).mono fun c hc => List.mem_cons_of_mem _ hc⟩
section
variable {P : Program} {w : World} {K : PySem.W.Frag} {mg : Str → Option Value} {base : Heap} {n lv : Nat}
end
-- WwCoh4
/-! ### what settling means -/
section
variable {n : Nat} {o : Ops} {u : Ru} {s : Nat}
theorem settleL_sem (O : OpsC n o) (Ok : OpsOk n (gOf n) o) : ∀ {k : Nat} {ls : List Ln} {t : Ta}, SetW s k ls → (∀ l ∈ ls, LnOk l) → Cln ls (eff t) → TaOk n t → TaW t → TaW (settleL o u ls t).2 ∧ ∀ c, eff (settleL o u ls t).2 c = effS ls (eff t) c
  | k, [], t, w, hl, hc, h, hw => ⟨hw, fun c => rfl⟩
  | k, l :: r, t, w, hl, hc, h, hw => by
    have hlo := hl l List.mem_cons_self
    have key : TaOk n (if l.d = true then passH o u.tl t l.b l.ns else t) ∧ TaW (if l.d = true then passH o u.tl t l.b l.ns else t) ∧ ∀ c, eff (if l.d = true then passH o u.tl t l.b l.ns else t) c = if c = l.b then l.ns else eff t c := by
      split
      · obtain ⟨h1, h2⟩ := passH_eff (tl := u.tl) O h hw hlo.b hlo.ns
        exact ⟨(passH_ok Ok h hlo.b hlo.ns).1, h1, h2⟩
      · rename_i hd
        refine ⟨h, hw, fun c => ?_⟩
        split
        · rename_i e
          rw [e]
          exact (hc l List.mem_cons_self (by simpa using hd)).symm
        · rfl
    show TaW (settleL o u r _).2 ∧ ∀ c, eff (settleL o u r _).2 c = _
    generalize (if l.d = true then passH o u.tl t l.b l.ns else t) = t1 at key ⊢
    obtain ⟨h1, h2, h3⟩ := key
    have hne : ∀ l' ∈ r, l'.b ≠ l.b := w.head
    obtain ⟨i1, i2⟩ := settleL_sem O Ok w.tail (fun l' hm => hl l' (List.mem_cons_of_mem _ hm)) (fun l' hm hd => by
      rw [h3, if_neg (hne l' hm)]
      exact hc l' (List.mem_cons_of_mem _ hm) hd) h1 h2
    refine ⟨i1, fun c => ?_⟩
    rw [i2]
    by_cases e : c = l.b
    · subst e
      rw [effS_no hne, h3, if_pos rfl, effS_mem w List.mem_cons_self]
    · refine effS_same ?_ fun _ => by rw [h3, if_neg e]
      show _ = (if l.b = c then some l else lnOf c r)
      rw [if_neg (Ne.symm e)]
theorem effS_out {k : Nat} {ls : List Ln} (w : SetW s k ls) {c : Nat} (h : c % s ≠ k) (e : Nat → List Int) : effS ls e c = e c := effS_no (fun l hl z => h (by rw [← z]; exact w.ix l hl)) e
theorem settleS_sem (O : OpsC n o) (Ok : OpsOk n (gOf n) o) : ∀ {off : Nat} {ss : List (List Ln)} {t : Ta}, (∀ k ls, ss[k]? = some ls → SetW s (off + k) ls) → (∀ ls ∈ ss, (∀ l ∈ ls, LnOk l) ∧ Cln ls (eff t)) → TaOk n t → TaW t →
    TaW (settleS o u ss t).2 ∧ ∀ c, (∀ k ls, ss[k]? = some ls → c % s = off + k → eff (settleS o u ss t).2 c = effS ls (eff t) c) ∧ ((∀ k, k < ss.length → c % s ≠ off + k) → eff (settleS o u ss t).2 c = eff t c)
  | off, [], t, w, hl, h, hw => ⟨hw, fun c => ⟨fun k ls hk => by simp at hk, fun _ => rfl⟩⟩
  | off, ls :: r, t, w, hl, h, hw => by
    have w0 : SetW s off ls := w 0 ls rfl
    obtain ⟨l1, l2⟩ := hl ls List.mem_cons_self
    obtain ⟨a1, a2⟩ := settleL_sem O Ok (u := u) w0 l1 l2 h hw
    obtain ⟨_, _, a3, _⟩ := settleL_ok (u := u) Ok l1 h
    have wr : ∀ k l, r[k]? = some l → SetW s (off + 1 + k) l := fun k l hk => by
      have := w (k + 1) l (by simpa using hk)
      rwa [show off + 1 + k = off + (k + 1) by omega]
    show TaW (settleS o u r (settleL o u ls t).2).2 ∧ _
    generalize ht1 : (settleL o u ls t).2 = t1 at a1 a2 a3
    obtain ⟨i1, i2⟩ := settleS_sem O Ok (off := off + 1) (ss := r) (t := t1) wr (fun l' hm => ⟨(hl l' (List.mem_cons_of_mem _ hm)).1, fun q hq hd => by
      obtain ⟨k, hk, ek⟩ := List.mem_iff_getElem.mp hm
      have hg : r[k]? = some l' := by rw [List.getElem?_eq_getElem hk, ek]
      have := (wr k l' hg).ix q hq
      rw [a2, effS_out w0 (by omega)]
      exact (hl l' (List.mem_cons_of_mem _ hm)).2 q hq hd⟩) a3 a1
    have es : settleS o u (ls :: r) t = ((settleL o u ls t).1 :: (settleS o u r t1).1, (settleS o u r t1).2) := by
      rw [← ht1]
      rfl
    rw [es]
    refine ⟨i1, fun c => ⟨fun k l hk hc => ?_, fun hc => ?_⟩⟩
    · show eff (settleS o u r t1).2 c = _
      cases k with
      | zero =>
        have : ls = l := by simpa using hk
        subst this
        rw [(i2 c).2 (fun k _ => by omega), a2]
      | succ k =>
        have hk : r[k]? = some l := by simpa using hk
        rw [(i2 c).1 k l hk (by omega)]
        exact effS_same rfl fun _ => by rw [a2, effS_out w0 (by omega)]
    · show eff (settleS o u r t1).2 c = _
      have h0 : c % s ≠ off := by
        have := hc 0 (by simp)
        omega
      rw [(i2 c).2 (fun k hk => by have := hc (k + 1) (by simp; omega); omega), a2, effS_out w0 h0]
end
section
variable {n m : Nat} {r : Rm} {t : Ta}
theorem settleR_sem (R : RW r t) (hr : RmOk r) (h : TaOk n t) : TaW (settleR n r t).2 ∧ ∀ c, eff (settleR n r t).2 c = effR r t c := by
  obtain ⟨h1, h2⟩ := settleS_sem (s := r.ss.length) (ops_c n) (ops_ok n) (u := r.ru) (off := 0) (ss := r.ss) (t := t) (fun k ls hk => by rw [Nat.zero_add]; exact R.w k ls hk) (fun ls hm => ⟨(hr.ln ls hm).ok, (R.c ls hm).1⟩) h R.t
  refine ⟨h1, fun c => ?_⟩
  refine (h2 c).1 (r.ix c) (r.ls c) (ls_get hr.s0 c) ?_
  rw [Nat.zero_add]
  rfl
theorem clean_len (r : Rm) : (cleanR r).ss.length = r.ss.length := by
  show (r.ss.map _).length = _
  rw [List.length_map]
theorem InR.unclean {l : Ln} (h : InR l (cleanR r)) : l.d = false ∧ ∃ l0, InR l0 r ∧ l0.b = l.b ∧ l0.ns = l.ns := by
  obtain ⟨ls, hm, hl⟩ := h
  obtain ⟨ls0, h0, rfl⟩ := List.mem_map.mp hm
  obtain ⟨l0, hl0, rfl⟩ := List.mem_map.mp hl
  exact ⟨rfl, l0, ⟨ls0, h0, hl0⟩, rfl, rfl⟩
theorem InR.clean {l : Ln} (h : InR l r) : InR { l with d := false } (cleanR r) := by
  obtain ⟨ls, hm, hl⟩ := h
  exact ⟨_, List.mem_map.mpr ⟨ls, hm, rfl⟩, List.mem_map.mpr ⟨l, hl, rfl⟩⟩
theorem clean_w (w : RmW r) : RmW (cleanR r) := fun k ls hk => by
  have hk : (r.ss.map fun ls => ls.map fun l => { l with d := false })[k]? = some ls := hk
  rw [List.getElem?_map] at hk
  cases e : r.ss[k]? with
  | none =>
    rw [e] at hk
    cases hk
  | some ls0 =>
    rw [e] at hk
    have := w k ls0 e
    rw [← Option.some.inj hk, clean_len]
    refine ⟨?_, fun l hl => ?_⟩
    · rw [List.map_map]
      exact this.nd
    · obtain ⟨l0, hl0, rfl⟩ := List.mem_map.mp hl
      exact this.ix l0 hl0
theorem clean_eff (R : RW r t) (hr : RmOk r) {t' : Ta} (he : ∀ c, eff t' c = effR r t c) : (∀ l, InR l (cleanR r) → l.ns = eff t' l.b) ∧ ∀ c, effR (cleanR r) t' c = effR r t c := by
  have h1 : ∀ l, InR l (cleanR r) → l.ns = eff t' l.b := fun l hl => by
    obtain ⟨_, l0, h0, e1, e2⟩ := hl.unclean
    rw [he, ← e1, ← e2]
    exact (effS_mem (R.w _ _ (ls_get hr.s0 l0.b)) (h0.ls R.w) _).symm
  refine ⟨h1, fun c => ?_⟩
  show effS ((cleanR r).ls c) (eff t') c = _
  cases q : lnOf c ((cleanR r).ls c) with
  | some l =>
    obtain ⟨g1, g2⟩ := lnOf_mem q
    unfold effS
    rw [q]
    show l.ns = _
    have h0 : 0 < (cleanR r).ss.length := by rw [clean_len]; exact hr.s0
    rw [h1 l (.of h0 g1), g2]
    exact he c
  | none =>
    unfold effS
    rw [q]
    exact he c
end
section
variable {n m : Nat} {ha : Ha} {pl : Nat → List Int}
theorem HCoh.settle1 (h : HCoh ha pl) (hk : HaOk n m ha) {i : Nat} {r : Rm} (e : ha.own[i]? = some r) : HCoh ⟨ha.own.set i (cleanR r), (settleR n r ha.t).2⟩ pl := by
  have hr := hk.own r (List.mem_of_getElem? e)
  have R := h.rw e hr.s0
  obtain ⟨s1, s2⟩ := settleR_sem R hr hk.t
  have hi := (List.getElem?_eq_some_iff.mp e).1
  have hrm := List.mem_of_getElem? e
  have oth : ∀ j, j ≠ i → (ha.own.set i (cleanR r))[j]? = ha.own[j]? := fun j z => List.getElem?_set_ne (Ne.symm z)
  have mine : (ha.own.set i (cleanR r))[i]? = some (cleanR r) := List.getElem?_set_self hi
  have memC : ∀ q ∈ ha.own.set i (cleanR r), q = cleanR r ∨ ∃ j, j ≠ i ∧ ha.own[j]? = some q := fun q hq => by
    obtain ⟨j, hj, ej⟩ := List.mem_iff_getElem.mp hq
    have hg : (ha.own.set i (cleanR r))[j]? = some q := by rw [List.getElem?_eq_getElem hj, ej]
    by_cases z : j = i
    · subst z
      rw [mine] at hg
      exact .inl (Option.some.inj hg).symm
    · rw [oth j z] at hg
      exact .inr ⟨j, z, hg⟩
  refine ⟨fun q hq => ?_, fun q hq hb l hl => ?_, s1, fun q hq l hl => ?_, fun j1 j2 q1 q2 hne g1 g2 l l2 hl hl2 hdl => ?_, fun c hc => ?_⟩
  · rcases memC q hq with z | ⟨j, _, hg⟩
    · rw [z]
      exact clean_w (h.w r hrm)
    · exact h.w q (List.mem_of_getElem? hg)
  · rcases memC q hq with z | ⟨j, _, hg⟩
    · rw [z] at hl
      exact hl.unclean.1
    · exact h.th q (List.mem_of_getElem? hg) hb l hl
  · rcases memC q hq with z | ⟨j, _, hg⟩
    · rw [z] at hl
      obtain ⟨_, l0, h0, e1, e2⟩ := hl.unclean
      rw [← e1, ← e2]
      exact h.pn r hrm l0 h0
    · exact h.pn q (List.mem_of_getElem? hg) l hl
  · have g1 : (ha.own.set i (cleanR r))[j1]? = some q1 := g1
    have g2 : (ha.own.set i (cleanR r))[j2]? = some q2 := g2
    by_cases z1 : j1 = i
    · rw [z1, mine] at g1
      cases g1
      rw [hl.unclean.1] at hdl
      cases hdl
    · rw [oth j1 z1] at g1
      by_cases z2 : j2 = i
      · rw [z2, mine] at g2
        cases g2
        obtain ⟨_, l0, h0, e1, _⟩ := hl2.unclean
        rw [← e1]
        exact h.one j1 i q1 r z1 g1 e l l0 hl h0 hdl
      · rw [oth j2 z2] at g2
        exact h.one j1 j2 q1 q2 hne g1 g2 l l2 hl hl2 hdl
  · show eff (settleR n r ha.t).2 c = pl c
    rw [s2]
    refine h.eff_of e hr.s0 fun j q zj hg l hl hcl => ?_
    refine hc q ?_ l hl hcl
    have : (ha.own.set i (cleanR r))[j]? = some q := by
      rw [oth j zj]
      exact hg
    exact List.mem_of_getElem? this
theorem own_ok {i : Nat} (hk : HaOk n m ha) (hi : i ≤ m) : HaOk n m ⟨(ha.own.take i).map cleanR ++ ha.own.drop i, ownT n (ha.own.take i) ha.t⟩ := by
  obtain ⟨g1, g2⟩ := ownT_ok hk.n2 (rs := ha.own.take i) (fun r hr => hk.own r (List.mem_of_mem_take hr)) hk.t
  have := hk.len
  refine ⟨g1, ?_, fun r hr => ?_, hk.n2, hk.m1, hk.m3⟩
  · show ((ha.own.take i).map cleanR ++ ha.own.drop i).length = m
    rw [List.length_append, List.length_map, List.length_take, List.length_drop]
    omega
  · rcases List.mem_append.mp hr with hr | hr
    · obtain ⟨r0, h0, rfl⟩ := List.mem_map.mp hr
      exact cleanR_ok (hk.own r0 (List.mem_of_mem_take h0))
    · exact hk.own r (List.mem_of_mem_drop hr)
theorem HCoh.settleN (h : HCoh ha pl) (hk : HaOk n m ha) : ∀ i, i ≤ m → HCoh ⟨(ha.own.take i).map cleanR ++ ha.own.drop i, ownT n (ha.own.take i) ha.t⟩ pl
  | 0, _ => h
  | i + 1, hi => by
    have ih := HCoh.settleN h hk i (by omega)
    have hio : i < ha.own.length := by rw [hk.len]; omega
    obtain ⟨r, er0⟩ : ∃ r, ha.own[i]? = some r := ⟨_, List.getElem?_eq_getElem hio⟩
    have hpl : ((ha.own.take i).map cleanR).length = i := by
      rw [List.length_map, List.length_take]
      omega
    have er : ((ha.own.take i).map cleanR ++ ha.own.drop i)[i]? = some r := by
      rw [get_mid hpl, List.getElem?_drop, Nat.add_zero, er0]
    have := ih.settle1 (own_ok hk (by omega)) er
    have et : ha.own.take (i + 1) = ha.own.take i ++ [r] := take_snoc er0
    have eo : ((ha.own.take i).map cleanR ++ ha.own.drop i).set i (cleanR r) = (ha.own.take (i + 1)).map cleanR ++ ha.own.drop (i + 1) := by
      rw [List.set_append_right _ _ (by omega), hpl, Nat.sub_self, et, List.map_append, List.append_assoc]
      have hdr : ha.own.drop i = r :: ha.own.drop (i + 1) := by
        rw [List.drop_eq_getElem_cons hio]
        congr 1
        rw [List.getElem?_eq_getElem hio] at er0
        exact Option.some.inj er0
      rw [hdr]
      rfl
    have et2 : ownT n (ha.own.take (i + 1)) ha.t = (settleR n r (ownT n (ha.own.take i) ha.t)).2 := by
      rw [et, ownT_snoc]
    have this : HCoh ⟨((ha.own.take i).map cleanR ++ ha.own.drop i).set i (cleanR r), (settleR n r (ownT n (ha.own.take i) ha.t)).2⟩ pl := this
    rw [eo, ← et2] at this
    exact this
/-- the shared rooms settle -/
theorem shT_sem : ∀ {n : Nat} {t : Ta}, n ≤ 2 → TaOk n t → TaW t → TaW (shT n t) ∧ (∀ c, eff (shT n t) c = eff t c) ∧ (∀ c, getBlk (shT n t).far c = eff t c) ∧ ∀ r ∈ (shT n t).rs, ∀ l, InR l r → l.d = false ∧ l.ns = getBlk (shT n t).far l.b
  | 0, t, _, h, hw => by
    have ers : t.rs = [] := List.length_eq_zero_iff.mp h.len
    refine ⟨hw, fun _ => rfl, fun c => ?_, fun r hr => ?_⟩
    · show getBlk t.far c = effC t.rs t.far c
      rw [ers]
      rfl
    · have hr : r ∈ t.rs := hr
      rw [ers] at hr
      cases hr
  | n + 1, t, hn, h, hw => by
    obtain ⟨r, rs, e, hr, ht⟩ := h.uncons
    have R := hw.uncons e
    obtain ⟨s1, s2⟩ := settleR_sem R hr ht
    obtain ⟨_, s3, _⟩ := settleR_ok hr ht (by omega)
    obtain ⟨i1, i2, i3, i4⟩ := shT_sem (n := n) (by omega) s3 s1
    rw [shT_cons e]
    have he : ∀ c, eff (shT n (settleR n r { t with rs := rs }).2) c = effR r { t with rs := rs } c := fun c => by rw [i2, s2]
    obtain ⟨c1, c2⟩ := clean_eff R hr he
    have hfar : ∀ c, getBlk (shT n (settleR n r { t with rs := rs }).2).far c = effR r { t with rs := rs } c := fun c => by rw [i3, s2]
    refine ⟨RW.cons ⟨clean_w R.w, fun ls hm => ⟨fun l hl _ => c1 l ⟨ls, hm, hl⟩, fun _ l hl => (InR.unclean ⟨ls, hm, hl⟩).1⟩, i1⟩, fun c => ?_, fun c => ?_, fun q hq l hl => ?_⟩
    · rw [eff_cons, c2, eff_uncons e]
    · rw [eff_uncons e]
      exact hfar c
    · show l.d = false ∧ l.ns = getBlk (shT n (settleR n r { t with rs := rs }).2).far l.b
      rcases List.mem_cons.mp hq with z | hq
      · rw [z] at hl
        refine ⟨hl.unclean.1, ?_⟩
        rw [c1 l hl, he, hfar]
      · exact i4 q hq l hl
theorem blk_ext {a b : List Int} (ha : a.length = 64) (hb : b.length = 64) (h : ∀ c, c < 16 → getBlk a c = getBlk b c) : a = b := by
  apply List.ext_getElem?
  intro i
  by_cases hi : i < 64
  · have := congrArg (fun z : List Int => z[i % 4]?) (h (i / 4) (by omega))
    unfold getBlk at this
    rw [List.getElem?_take_of_lt (by omega), List.getElem?_take_of_lt (by omega), List.getElem?_drop, List.getElem?_drop] at this
    have e : i / 4 * 4 + i % 4 = i := by omega
    rw [e] at this
    exact this
  · rw [List.getElem?_eq_none (by omega), List.getElem?_eq_none (by omega)]
/-- all settled: the far room is as plainly, each line has what it has, none is dirty -/
theorem HCoh.settled {cs : List Int} (h : HCoh ha (getBlk cs)) (hk : HaOk n m ha) (hcs : cs.length = 64) : HCoh (hSettle n ha) (getBlk cs) ∧ (hSettle n ha).t.far = cs ∧ (∀ r ∈ (hSettle n ha).own ++ (hSettle n ha).t.rs, RmW r ∧ ∀ l, InR l r → l.d = false ∧ l.ns = getBlk cs l.b) := by
  have h1 := h.settleN hk m (Nat.le_refl _)
  rw [List.take_of_length_le (by rw [hk.len]; exact Nat.le_refl _), List.drop_of_length_le (by rw [hk.len]; exact Nat.le_refl _), List.append_nil] at h1
  obtain ⟨g1, g2⟩ := ownT_ok hk.n2 hk.own hk.t
  obtain ⟨s1, s2, s3, s4⟩ := shT_sem hk.n2 g1 h1.t
  have hcl : ∀ r ∈ ha.own.map cleanR, ∀ l, InR l r → l.d = false := fun r hr l hl => by
    obtain ⟨r0, _, rfl⟩ := List.mem_map.mp hr
    exact hl.unclean.1
  have hef : ∀ c, eff (ownT n ha.own ha.t) c = getBlk cs c := fun c => h1.ef c fun r hr l hl _ => hcl r hr l hl
  obtain ⟨ok1, _⟩ := shT_ok hk.n2 g1
  have hfar : (hSettle n ha).t.far = cs := blk_ext ok1.far hcs fun c _ => (s3 c).trans (hef c)
  refine ⟨⟨h1.w, h1.th, s1, h1.pn, h1.one, fun c hc => (s2 c).trans (hef c)⟩, hfar, fun r hr => ?_⟩
  rcases List.mem_append.mp hr with hr | hr
  · exact ⟨h1.w r hr, fun l hl => ⟨hcl r hr l hl, h1.pn r hr l hl⟩⟩
  · have hw : ∀ (rs : List Rm) (far : List Int), ChW rs far → ∀ r ∈ rs, RmW r := by
      intro rs
      induction rs with
      | nil => intro far _ r hr; cases hr
      | cons a rs ih =>
        intro far hw r hr
        rcases List.mem_cons.mp hr with e | hr
        · rw [e]
          exact hw.1
        · exact ih far hw.2.2 r hr
    refine ⟨hw _ _ s1 r hr, fun l hl => ?_⟩
    obtain ⟨d1, d2⟩ := s4 r hr l hl
    refine ⟨d1, d2.trans ?_⟩
    have : (shT n (ownT n ha.own ha.t)).far = cs := hfar
    rw [this]
end
-- WwLog
/-! ### what stands in the log -/
def WdOk (w : Str) : Prop := w = "home" ∨ w = "bring" ∨ w = "cell"
def RuP (P : Ent → Prop) (u : Ru) : Prop := ∀ w k, WdOk w → P ⟨u.tl, w, k⟩
structure LogP (P : Ent → Prop) (t : Ta) : Prop where
  rs : ∀ r ∈ t.rs, RuP P r.ru
  log : ∀ e ∈ t.log, P e
structure OpsP (P : Ent → Prop) (o : Ops) : Prop where
  hm : ∀ t b ns, LogP P t → LogP P (o.hm t b ns)
  br : ∀ t b, LogP P t → LogP P (o.br t b).2
  ch : ∀ t p v, LogP P t → LogP P (o.ch t p v)
section
variable {P : Ent → Prop} {o : Ops} {u : Ru} {ls : List Ln} {t : Ta}
theorem note_p (h : LogP P t) (hu : RuP P u) (w : Str) (k : Nat) (hw : WdOk w) : LogP P (t.note u.tl w k) := ⟨h.rs, fun e he => by
  rcases List.mem_append.mp he with he | he
  · exact h.log e he
  · rw [List.mem_singleton.mp he]
    exact hu w k hw⟩
theorem passH_p (O : OpsP P o) (h : LogP P t) (hu : RuP P u) (b : Nat) (ns : List Int) : LogP P (passH o u.tl t b ns) := O.hm _ b ns (note_p h hu "home" b (.inl rfl))
theorem passC_p (O : OpsP P o) (h : LogP P t) (hu : RuP P u) (p : Nat) (v : Int) : LogP P (passC o u.tl t p v) := O.ch _ p v (note_p h hu "cell" p (.inr (.inr rfl)))
theorem mkWay_p (O : OpsP P o) (h : LogP P t) (hu : RuP P u) : LogP P (mkWay o u ls t).2 := by
  unfold mkWay
  split
  · cases ls with
    | nil => exact h
    | cons l rest =>
      dsimp only
      split
      · exact passH_p O h hu _ _
      · exact h
  · exact h
theorem reach_p (O : OpsP P o) (h : LogP P t) (hu : RuP P u) (b : Nat) : LogP P (reachL o u ls t b).2.1 := by
  unfold reachL
  split
  · exact h
  · exact O.br _ b (note_p (mkWay_p O h hu) hu "bring" b (.inr (.inl rfl)))
theorem change_p (O : OpsP P o) (h : LogP P t) (hu : RuP P u) (p : Nat) (v : Int) : LogP P (changeL o u ls t p v).2 := by
  unfold changeL
  split
  · exact passC_p O h hu p v
  · dsimp only
    split
    · exact reach_p O h hu _
    · exact passC_p O (reach_p O h hu _) hu p v
theorem home_p (O : OpsP P o) (h : LogP P t) (hu : RuP P u) (b : Nat) (ns : List Int) : LogP P (homeL o u ls t b ns).2 := by
  unfold homeL
  split
  · split
    · dsimp only
      split
      · exact mkWay_p O h hu
      · exact passH_p O (mkWay_p O h hu) hu b ns
    · exact passH_p O h hu b ns
  · dsimp only
    split
    · exact h
    · exact passH_p O h hu b ns
theorem yield_p (O : OpsP P o) (h : LogP P t) (hu : RuP P u) (b : Nat) (g : Bool) : LogP P (yieldL o u ls t b g).2 := by
  unfold yieldL
  split
  · exact h
  · dsimp only
    split
    · exact passH_p O h hu b _
    · exact h
theorem settleL_p (O : OpsP P o) (hu : RuP P u) : ∀ {ls : List Ln} {t : Ta}, LogP P t → LogP P (settleL o u ls t).2
  | [], t, h => h
  | l :: r, t, h => by
    refine settleL_p O hu (ls := r) ?_
    split
    · exact passH_p O h hu _ _
    · exact h
theorem settleS_p (O : OpsP P o) (hu : RuP P u) : ∀ {ss : List (List Ln)} {t : Ta}, LogP P t → LogP P (settleS o u ss t).2
  | [], t, h => h
  | ls :: r, t, h => settleS_p O hu (ss := r) (settleL_p O hu h)
theorem LogP.tail {r : Rm} {rs : List Rm} (h : LogP P t) (e : t.rs = r :: rs) : RuP P r.ru ∧ LogP P { t with rs := rs } := ⟨h.rs r (by rw [e]; exact List.mem_cons_self), fun q hq => h.rs q (by rw [e]; exact List.mem_cons_of_mem _ hq), h.log⟩
theorem LogP.cons {r : Rm} (h : LogP P t) (hr : RuP P r.ru) : LogP P (Ta.cons r t) := ⟨fun q hq => by
  rcases List.mem_cons.mp hq with e | hq
  · rw [e]
    exact hr
  · exact h.rs q hq, h.log⟩
end
theorem ops_p {P : Ent → Prop} : ∀ n, OpsP P (ops n)
  | 0 => ⟨fun t b ns h => ⟨h.rs, h.log⟩, fun t b h => h, fun t p v h => ⟨h.rs, h.log⟩⟩
  | n + 1 => {
    hm := fun t b ns h => by
      show LogP P (match t.rs with | [] => t | r :: rs => _)
      cases e : t.rs with
      | nil => exact h
      | cons r rs =>
        obtain ⟨h1, h2⟩ := h.tail e
        exact LogP.cons (home_p (ops_p n) h2 h1 b ns) h1
    br := fun t b h => by
      show LogP P (match t.rs with | [] => ([], t) | r :: rs => _ : List Int × Ta).2
      cases e : t.rs with
      | nil => exact h
      | cons r rs =>
        obtain ⟨h1, h2⟩ := h.tail e
        exact LogP.cons (reach_p (ops_p n) h2 h1 b) h1
    ch := fun t p v h => by
      show LogP P (match t.rs with | [] => t | r :: rs => _)
      cases e : t.rs with
      | nil => exact h
      | cons r rs =>
        obtain ⟨h1, h2⟩ := h.tail e
        exact LogP.cons (change_p (ops_p n) h2 h1 p v) h1 }
-- WwS3
/-! ### a hall's log -/
structure HaP (P : Ent → Prop) (ha : Ha) : Prop where
  own : ∀ r ∈ ha.own, RuP P r.ru
  t : LogP P ha.t
section
variable {P : Ent → Prop} {ha : Ha} {n : Nat}
theorem HaP.set (h : HaP P ha) {i : Nat} {r : Rm} {t : Ta} (hr : RuP P r.ru) (ht : LogP P t) : HaP P ⟨ha.own.set i r, t⟩ := ⟨fun q hq => by
  rcases List.mem_or_eq_of_mem_set hq with hq | e
  · exact h.own q hq
  · rw [e]
    exact hr, ht⟩
theorem HaP.yieldAt (h : HaP P ha) (b : Nat) (g : Bool) (i : Nat) : HaP P (yieldAt n ha b g i) := by
  unfold Ww.yieldAt
  cases e : ha.own[i]? with
  | none => exact h
  | some r =>
    have hr := h.own r (List.mem_of_getElem? e)
    exact h.set hr (yield_p (ops_p n) h.t hr b g)
theorem HaP.askN (h : HaP P ha) (b hand : Nat) (g : Bool) : ∀ k, HaP P (askN n hand b g k ha)
  | 0 => h
  | k + 1 => by
    unfold Ww.askN
    split
    · exact HaP.askN h b hand g k
    · exact (HaP.askN h b hand g k).yieldAt b g k
theorem HaP.deed (h : HaP P ha) (d : Deed) : HaP P (doDeed n ha d).2 := by
  cases d with
  | look hh p =>
    show HaP P (lookAt n (ask n ha hh (p / 4) false) hh p).2
    have h1 : HaP P (ask n ha hh (p / 4) false) := h.askN (p / 4) hh false _
    unfold lookAt
    cases e : (ask n ha hh (p / 4) false).own[hh]? with
    | none => exact h1
    | some r =>
      have hr := h1.own r (List.mem_of_getElem? e)
      exact h1.set hr (reach_p (ops_p n) h1.t hr _)
  | set hh p v =>
    show HaP P (changeAt n (ask n ha hh (p / 4) true) hh p v)
    have h1 : HaP P (ask n ha hh (p / 4) true) := h.askN (p / 4) hh true _
    unfold changeAt
    cases e : (ask n ha hh (p / 4) true).own[hh]? with
    | none => exact h1
    | some r =>
      have hr := h1.own r (List.mem_of_getElem? e)
      exact h1.set hr (change_p (ops_p n) h1.t hr p v)
theorem ownT_p : ∀ {rs : List Rm} {t : Ta}, (∀ r ∈ rs, RuP P r.ru) → LogP P t → LogP P (ownT n rs t)
  | [], t, _, h => h
  | r :: rs, t, hr, h => ownT_p (rs := rs) (fun q hq => hr q (List.mem_cons_of_mem _ hq)) (settleS_p (ops_p n) (hr r List.mem_cons_self) h)
theorem shT_p : ∀ {n : Nat} {t : Ta}, LogP P t → LogP P (shT n t)
  | 0, t, h => h
  | n + 1, t, h => by
    show LogP P (match t.rs with | [] => t | r :: rs => _)
    cases e : t.rs with
    | nil => exact h
    | cons r rs =>
      obtain ⟨h1, h2⟩ := h.tail e
      exact LogP.cons (shT_p (n := n) (settleS_p (ops_p n) h1 h2)) h1
theorem HaP.settle (h : HaP P ha) : HaP P (hSettle n ha) := ⟨fun r hr => by
  obtain ⟨q, hq, rfl⟩ := List.mem_map.mp hr
  exact h.own q hq, shT_p (ownT_p h.own h.t)⟩
end
def EntI (e : Ent) : Prop := (∃ a b : Nat, e.tl = [.int a, .int b]) ∧ WdOk e.w
theorem hall0_p (us : List Rul) (m : Nat) : HaP EntI (hall0 us m) := by
  refine ⟨fun r hr => ?_, ⟨?_, fun e he => by cases he⟩⟩
  · obtain ⟨h, _, rfl⟩ := List.mem_map.mp hr
    exact fun w k hw => ⟨⟨0, h, rfl⟩, hw⟩
  · have : ∀ (us : List Rul) (lev : Nat), ∀ r ∈ shRs lev us, RuP EntI r.ru := by
      intro us
      induction us with
      | nil => intro lev r hr; cases hr
      | cons u us ih =>
        intro lev r hr
        rcases List.mem_cons.mp hr with e | hr
        · rw [e]
          exact fun w k hw => ⟨⟨lev, 0, rfl⟩, hw⟩
        · exact ih (lev + 1) r hr
    exact this _ _
def vD : V → PyData
  | .int i => .int i
  | _ => .none
def entD (e : Ent) : PyData := .tuple (e.tl.map vD ++ [.str e.w, .int e.n])
theorem entD_dp {C : List Cell} {a : Addr} {e : Ent} (h : (a, HO.tup e.vs) ∈ C) (he : EntI e) : DpL C (.ref a) (entD e) := by
  obtain ⟨⟨x, y, e1⟩, _⟩ := he
  unfold Ent.vs at h
  unfold entD
  rw [e1] at h ⊢
  exact .tup h (.cons (.int _) (.cons (.int _) (.cons (.str _) (.cons (.int _) .nil))))
theorem logD {C : List Cell} : ∀ {as : List Addr} {es : List Ent}, TA C as (es.map Ent.vs) → (∀ e ∈ es, EntI e) → DpsL C (as.map V.ref) (es.map entD)
  | [], [], _, _ => .nil
  | [], _ :: _, h, _ => h.elim
  | _ :: _, [], h, _ => h.elim
  | a :: as, e :: es, h, he => .cons (entD_dp h.1 (he e List.mem_cons_self)) (logD h.2 fun q hq => he q (List.mem_cons_of_mem _ hq))
theorem wd_ok {w : Str} (h : WdOk w) : PyData.canLay0 (.str w) = true := by
  rcases h with e | e | e <;> subst e <;> decide +kernel
theorem entD_lay {e : Ent} (h : EntI e) : (entD e).canLay0 = true ∧ (entD e).depth ≤ 1 := by
  obtain ⟨⟨x, y, e1⟩, hw⟩ := h
  unfold entD
  rw [e1]
  refine ⟨?_, ?_⟩
  · show (PyData.canLay0 (.int x) && (PyData.canLay0 (.int y) && (PyData.canLay0 (.str e.w) && (PyData.canLay0 (.int e.n) && true)))) = true
    rw [wd_ok hw]
    rfl
  · show PyData.depthAll [.int x, .int y, .str e.w, .int e.n] + 1 ≤ 1
    simp [PyData.depthAll, PyData.depth]
theorem logs_shaped {es : List Ent} (h : ∀ e ∈ es, EntI e) : SeqAt.shaped (.list (es.map entD)) = true := by
  have key : ∀ es : List Ent, (∀ e ∈ es, EntI e) → PyData.canLayAll0 (es.map entD) = true ∧ PyData.depthAll (es.map entD) ≤ 1 := by
    intro es
    induction es with
    | nil => intro _; exact ⟨rfl, by show 0 ≤ 1; omega⟩
    | cons e es ih =>
      intro h
      obtain ⟨i1, i2⟩ := ih fun q hq => h q (List.mem_cons_of_mem _ hq)
      obtain ⟨a1, a2⟩ := entD_lay (h e List.mem_cons_self)
      refine ⟨?_, ?_⟩
      · show (PyData.canLay0 (entD e) && PyData.canLayAll0 (es.map entD)) = true
        rw [a1, i1]
        rfl
      · show max (PyData.depth (entD e)) (PyData.depthAll (es.map entD)) ≤ 1
        omega
  obtain ⟨h1, h2⟩ := key es h
  refine shaped_of h1 ?_
  show PyData.depthAll (es.map entD) + 1 ≤ 64
  omega
/-! ### nothing to settle -/
def Clean (r : Rm) : Prop := ∀ l, InR l r → l.d = false
theorem cleanR_self {r : Rm} (h : Clean r) : cleanR r = r := by
  have : (r.ss.map fun ls => ls.map fun l => ({ l with d := false } : Ln)) = r.ss := by
    have h2 : ∀ ls ∈ r.ss, (ls.map fun l => ({ l with d := false } : Ln)) = ls := fun ls hm => by
      have : ∀ l ∈ ls, ({ l with d := false } : Ln) = l := fun l hl => by
        have hd := h l ⟨ls, hm, hl⟩
        cases l with
        | mk b ns d =>
          have hd : d = false := hd
          rw [hd]
      exact List.map_congr_left this |>.trans (List.map_id' ls)
    exact List.map_congr_left h2 |>.trans (List.map_id' r.ss)
  unfold cleanR
  rw [this]
theorem settleL_clean {o : Ops} {u : Ru} : ∀ {ls : List Ln} {t : Ta}, (∀ l ∈ ls, l.d = false) → (settleL o u ls t).2 = t
  | [], t, _ => rfl
  | l :: r, t, h => by
    show (settleL o u r (if l.d = true then _ else t)).2 = t
    rw [h l List.mem_cons_self, if_neg Bool.false_ne_true]
    exact settleL_clean fun q hq => h q (List.mem_cons_of_mem _ hq)
theorem settleS_clean {o : Ops} {u : Ru} : ∀ {ss : List (List Ln)} {t : Ta}, (∀ ls ∈ ss, ∀ l ∈ ls, l.d = false) → (settleS o u ss t).2 = t
  | [], t, _ => rfl
  | ls :: r, t, h => by
    show (settleS o u r (settleL o u ls t).2).2 = t
    rw [settleL_clean (h ls List.mem_cons_self)]
    exact settleS_clean fun q hq => h q (List.mem_cons_of_mem _ hq)
theorem settleR_clean {n : Nat} {r : Rm} {t : Ta} (h : Clean r) : (settleR n r t).2 = t := settleS_clean fun ls hm l hl => h l ⟨ls, hm, hl⟩
def spRSettle0 (K : PySem.W.Frag) : Sp := fun vs H Q _ => ∃ (a : Addr) (be : Pa) (di : Addr) (r : Rm) (C1 R : List Cell), vs = [.ref a] ∧ RmRepK K di a be r C1 ∧ Clean r ∧ Own H (C1 ++ R) ∧ Q .non H
def spHSettle0 (K : PySem.W.Frag) : Sp := fun vs H Q _ => ∃ (x : Addr) (n m : Nat) (ha : Ha) (C R : List Cell), vs = [.ref x] ∧ HaOk n m ha ∧ HallRep K x ha C ∧ (∀ r ∈ ha.own ++ ha.t.rs, Clean r) ∧ Own H (C ++ R) ∧ ∀ H' : Hp, Own H' (C ++ R) → Q .non H'
section
variable {P : Program} {w : World} {K : PySem.W.Frag} {mg : Str → Option Value} {base : Heap} {n lv : Nat}
end
-- WwShp
/-! ### rooms keep their rules and their number of sets -/
def shp (r : Rm) : Ru × Nat := (r.ru, r.ss.length)
def Ta.sh (t : Ta) : List (Ru × Nat) := t.rs.map shp
structure OpsS (o : Ops) : Prop where
  hm : ∀ t b ns, (o.hm t b ns).sh = t.sh
  br : ∀ t b, (o.br t b).2.sh = t.sh
  ch : ∀ t p v, (o.ch t p v).sh = t.sh
section
variable {o : Ops} {u : Ru} {ls : List Ln} {t : Ta}
theorem put_shp (r : Rm) (b : Nat) (ls : List Ln) : shp (r.put b ls) = shp r := by
  unfold shp
  rw [put_len]
  rfl
theorem passH_s (O : OpsS o) (t : Ta) (tl : List V) (b : Nat) (ns : List Int) : (passH o tl t b ns).sh = t.sh := O.hm _ b ns
theorem passC_s (O : OpsS o) (t : Ta) (tl : List V) (p : Nat) (v : Int) : (passC o tl t p v).sh = t.sh := O.ch _ p v
theorem mkWay_s (O : OpsS o) : (mkWay o u ls t).2.sh = t.sh := by
  unfold mkWay
  split
  · cases ls with
    | nil => rfl
    | cons l rest =>
      dsimp only
      split
      · exact passH_s O t _ _ _
      · rfl
  · rfl
theorem reach_s (O : OpsS o) (b : Nat) : (reachL o u ls t b).2.1.sh = t.sh := by
  unfold reachL
  split
  · rfl
  · exact (O.br _ b).trans (mkWay_s (u := u) (ls := ls) (t := t) O)
theorem change_s (O : OpsS o) (p : Nat) (v : Int) : (changeL o u ls t p v).2.sh = t.sh := by
  unfold changeL
  split
  · exact passC_s O t _ p v
  · dsimp only
    split
    · exact reach_s O _
    · exact (passC_s O _ _ p v).trans (reach_s O _)
theorem home_s (O : OpsS o) (b : Nat) (ns : List Int) : (homeL o u ls t b ns).2.sh = t.sh := by
  unfold homeL
  split
  · split
    · dsimp only
      split
      · exact mkWay_s O
      · exact (passH_s O _ _ b ns).trans (mkWay_s O)
    · exact passH_s O t _ b ns
  · dsimp only
    split
    · rfl
    · exact passH_s O t _ b ns
theorem yield_s (O : OpsS o) (b : Nat) (g : Bool) : (yieldL o u ls t b g).2.sh = t.sh := by
  unfold yieldL
  split
  · rfl
  · dsimp only
    split
    · exact passH_s O t _ b _
    · rfl
theorem settleL_s (O : OpsS o) : ∀ {ls : List Ln} {t : Ta}, (settleL o u ls t).2.sh = t.sh
  | [], t => rfl
  | l :: r, t => by
    show (settleL o u r _).2.sh = _
    rw [settleL_s O (ls := r)]
    split
    · exact passH_s O t _ _ _
    · rfl
theorem settleS_s (O : OpsS o) : ∀ {ss : List (List Ln)} {t : Ta}, (settleS o u ss t).2.sh = t.sh
  | [], t => rfl
  | ls :: r, t => (settleS_s O (ss := r)).trans (settleL_s O)
theorem sh_cons (r : Rm) (t : Ta) : (Ta.cons r t).sh = shp r :: t.sh := rfl
theorem sh_uncons {r : Rm} {rs : List Rm} (e : t.rs = r :: rs) : t.sh = shp r :: ({ t with rs := rs } : Ta).sh := by
  unfold Ta.sh
  rw [e]
  rfl
end
theorem ops_s : ∀ n, OpsS (ops n)
  | 0 => ⟨fun t b ns => rfl, fun t b => rfl, fun t p v => rfl⟩
  | n + 1 => {
    hm := fun t b ns => by
      show (match t.rs with | [] => t | r :: rs => _ : Ta).sh = _
      cases e : t.rs with
      | nil => rfl
      | cons r rs =>
        rw [sh_uncons e]
        show shp (r.put b _) :: (homeL (ops n) r.ru (r.ls b) { t with rs := rs } b ns).2.sh = _
        rw [put_shp, home_s (ops_s n)]
    br := fun t b => by
      show (match t.rs with | [] => ([], t) | r :: rs => _ : List Int × Ta).2.sh = _
      cases e : t.rs with
      | nil => rfl
      | cons r rs =>
        rw [sh_uncons e]
        show shp (r.put b _) :: (reachL (ops n) r.ru (r.ls b) { t with rs := rs } b).2.1.sh = _
        rw [put_shp, reach_s (ops_s n)]
    ch := fun t p v => by
      show (match t.rs with | [] => t | r :: rs => _ : Ta).sh = _
      cases e : t.rs with
      | nil => rfl
      | cons r rs =>
        rw [sh_uncons e]
        show shp (r.put (p / 4) _) :: (changeL (ops n) r.ru (r.ls (p / 4)) { t with rs := rs } p v).2.sh = _
        rw [put_shp, change_s (ops_s n)] }
-- WwM
/-! ### list.count of texts -/
def eqTx (k : Str) (v : Value) : Bool := match v with
  | .str n _ => n == k
  | _ => false
inductive TxAre : List Value → List Str → Prop
  | nil : TxAre [] []
  | cons {us : List Value} {ns : List Str} (x : Str) (t : Tok) : TxAre us ns → TxAre (.str x t :: us) (x :: ns)
theorem txAre_of : ∀ {ns : List Str} {us : List Value}, Vals (ns.map V.str) us → TxAre us ns
  | [], _, .nil => .nil
  | n :: ns, _, .cons r h => by
    obtain ⟨t, rfl⟩ := r
    exact .cons n t (txAre_of h)
theorem eqTx_at {A : Around} {s : Shared} {k : Str} {t : Tok} : ∀ {us : List Value} {ns : List Str}, TxAre us ns → ∀ y ∈ us, SeqAt.EqAt A s y (.str k t) (eqTx k y)
  | _, _, .nil => fun y hy => by cases hy
  | _, _, .cons n t' h => fun y hy => by
    rcases List.mem_cons.mp hy with e | e
    · rw [e]
      exact SeqAt.EqAt.str_str n t' k t
    · exact eqTx_at h y e
theorem eqTx_count {k : Str} : ∀ {us : List Value} {ns : List Str}, TxAre us ns → us.countP (eqTx k) = ns.countP (· == k)
  | _, _, .nil => rfl
  | _, _, .cons n t h => by
    have ih := eqTx_count (k := k) h
    rw [List.countP_cons, List.countP_cons, ih] <;> rfl
def rCntS (K : PySem.W.Frag) : V → List V → Hp → VK → Prop := fun x xs H Q => ∃ (p : Addr) (ns : List Str) (k : Str), x = .ref p ∧ xs = [.str k] ∧ SqL K H p (ns.map V.str) ∧ Q (.int (ns.countP (· == k) : Nat)) H
theorem mt_lcountS {X : Cx} : MtR X "list.count" (rCntS X.K) := by
  intro pins s σ H x xs v us Q I rx rxs h
  obtain ⟨p, ns, k, rfl, rfl, hs, q⟩ := h
  cases rx
  obtain ⟨u, rfl, ru⟩ := rxs.one
  obtain ⟨t, rfl⟩ := ru
  obtain ⟨its, rv, ⟨⟨cls, dd, data, sl⟩, n, ho, hc, hdn, hd⟩, hlen⟩ := I.list hs
  simp only at hc hd
  subst hc hd
  have hi := txAre_of rv
  refine call_meets PySem.F.slot_list_count ⟨_, ho, rfl⟩ PySem.F.entry_list_count (PySem.F.args_list_count_2 _ _) (SeqAt.list_countAt p its.toArray n dd sl (.str k t) (eqTx k)) ⟨ho, fun y hy => eqTx_at hi y (by simpa using hy), ?_⟩
  have ec : its.toArray.toList.countP (eqTx k) = ns.countP (· == k) := eqTx_count hi
  refine ⟨.int (ns.countP (· == k) : Nat), H, I.tok _, ⟨s.toks, ?_⟩, q⟩
  show Value.int ((its.toArray.toList.countP (eqTx k) : Nat) : Int) s.toks = _
  rw [ec]
/-! ### moves -/
def lvW (log : List Ent) (lev : Nat) : List Str := (log.filter fun e => decide (e.tl.head? = some (V.int lev))).map (·.w)
def mvOf (log : List Ent) (lev : Nat) : List Int := [((lvW log lev).countP (· == ("bring" : Str)) : Nat), ((lvW log lev).countP (· == ("home" : Str)) : Nat), ((lvW log lev).countP (· == ("cell" : Str)) : Nat)]
def spMoves (K : PySem.W.Frag) : Sp := fun vs H Q _ => ∃ (x : Addr) (n m : Nat) (ha : Ha) (C R : List Cell), vs = [.ref x] ∧ HaOk n m ha ∧ ha.t.log.length ≤ 990000 ∧ HaP EntI ha ∧ HallRep K x ha C ∧ Own H (C ++ R) ∧
  ∀ (p : Addr) (as : List Addr) (N : List Cell) (H' : Hp), TA N as ((List.range (n + 1)).map fun lev => (mvOf ha.t.log lev).map V.int) → Own H' ((p, .lst (as.map V.ref)) :: (N ++ (C ++ R))) → Q (.ref p) H'
section
variable {P : Program} {w : World} {K : PySem.W.Frag} {mg : Str → Option Value} {base : Heap} {n lv : Nat}
end
-- WwAl
/-! ### alike -/
def rIxS (K : PySem.W.Frag) : R2 := fun x y H Q => rIxL K x y H Q ∨ rIxT K x y H Q
theorem ix_sq {X : Cx} : IxR X (rIxS X.K) := fun value slice pins s σ H x y v u Q I rx ry h hs => h.elim (fun h => ix_list value slice pins s σ H x y v u Q I rx ry h hs) (fun h => ix_tup value slice pins s σ H x y v u Q I rx ry h hs)
/-- data of at most so many layers, of lists that are not too long -/
def AlD : Nat → PyData → Prop
  | 0, _ => False
  | n + 1, .list ds => ds.length ≤ 100000 ∧ ∀ d ∈ ds, AlD n d
  | n + 1, .tuple ds => ds.length ≤ 100000 ∧ ∀ d ∈ ds, AlD n d
  | _ + 1, .dict _ => False
  | _ + 1, _ => True
def spAlike (n : Nat) : Sp := fun vs H Q _ => ∃ (x y : V) (d : PyData) (L : List Cell), vs = [x, y] ∧ DpL L x d ∧ DpL L y d ∧ AlD n d ∧ Own H L ∧ ∀ H', Own H' L → Q (.bl true) H'
theorem kit_anylst {K : PySem.W.Frag} : PySem.W.kitAny K (.type "list") [.type "tuple", .type "list"] = some true :=
  kitAny_cons (b := false) (kit_ty (by decide +kernel)) (fun _ => kitAny_cons (b := true) (kit_ty (by decide +kernel)) (fun z => nomatch z) fun _ => rfl) (fun z => nomatch z)
theorem kit_anytup {K : PySem.W.Frag} : PySem.W.kitAny K (.type "tuple") [.type "tuple", .type "list"] = some true :=
  kitAny_cons (b := true) (kit_ty (by decide +kernel)) (fun z => nomatch z) fun _ => rfl
section
variable {P : Program} {w : World} {K : PySem.W.Frag} {mg : Str → Option Value} {base : Heap} {n lv : Nat}
theorem ok_alike (T : Txt K mg) : ∀ n, FnOk P w K mg base CX0 n (He.fAd K ("_law_alike", none)) T.fd__law_alike ["_law_found", "_law_due_here"] (spAlike n)
  | 0 => ⟨fun vs H Q E ⟨_, _, _, _, _, _, _, h, _⟩ => h.elim, fun A outer s H args us vs Q E hr he hb hv ⟨_, _, _, _, _, _, _, h, _⟩ => h.elim⟩
  | n + 1 => by
    have G__law_alike := ok_alike T n
    refine okOf T.F__law_alike sc__law_alike (fun vs H Q E h => ?_) (fun cdv A outer s H vs Q E hr h => ?_)
    · obtain ⟨_, _, _, _, rfl, _⟩ := h
      rfl
    · obtain ⟨x, y, d, L, rfl, hx, hy, hd, O, k⟩ := h
      refine ⟨_, (pss_cons (ps_if (PW.pt (pw_or (pt_val (pe_callB call_isi (by rfl) T.n_isinstance (by decide +kernel) (pa_cons (pv 1) (pa_cons (pe_bltn (v := .ty "tuple") (by rfl) T.n_tuple (by decide +kernel) rfl) pa_nil)))) (pw_or1 (pt_val (pe_callB call_isi (by rfl) T.n_isinstance (by decide +kernel) (pa_cons (pv 1) (pa_cons (pe_bltn (v := .ty "list") (by rfl) T.n_list (by decide +kernel) rfl) pa_nil))))))) (pss_cons (ps_if (PW.pt (pw_or (pt_cmpR op_ne (pe_callB call_isi (by rfl) T.n_isinstance (by decide +kernel) (pa_cons (pv 0) (pa_cons (pe_bltn (v := .ty "tuple") (by rfl) T.n_tuple (by decide +kernel) rfl) pa_nil))) (pe_callB call_isi (by rfl) T.n_isinstance (by decide +kernel) (pa_cons (pv 1) (pa_cons (pe_bltn (v := .ty "tuple") (by rfl) T.n_tuple (by decide +kernel) rfl) pa_nil))) (nomark _)) (pw_or1 (pt_not (pt_val (pe_callB call_isiT (by rfl) T.n_isinstance (by decide +kernel) (pa_cons (pv 0) (pa_cons (pe_tup (pa_cons (pe_bltn (v := .ty "tuple") (by rfl) T.n_tuple (by decide +kernel) rfl) (pa_cons (pe_bltn (v := .ty "list") (by rfl) T.n_list (by decide +kernel) rfl) pa_nil))) pa_nil)))))))) (pss_one (ps_ret pe_bl)) pss_nil) (pss_cons (ps_if (pt_cmpR op_ne (pe_callB call_len_seq (by rfl) T.n_len PySem.boot_len (pa_cons (pv 0) pa_nil)) (pe_callB call_len_seq (by rfl) T.n_len PySem.boot_len (pa_cons (pv 1) pa_nil)) (nomark _)) (pss_one (ps_ret pe_bl)) pss_nil) (pss_one (ps_ret (pe_cmpR (op_eqD hr.units) (pe_lc (tt := (tNot (tB (tCall (spAlike n) [] E0 (tCons (tOp (rIxS K) (tVar 0) (tVar 2)) (tCons (tOp (rIxS K) (tVar 1) (tVar 2)) tNil)))))) (own := [("_law_k", 2)]) (by rfl) sc__law_alike.nd (pi_range1 (by rfl) T.n_range (pa_cons (pe_callB call_len_seq (by rfl) T.n_len PySem.boot_len (pa_cons (pv 1) pa_nil)) pa_nil)) (blkOk_by (own := [("_law_k", 2)]) (by kernel_rfl)) (fun _ _ _ _ _ => (pg_name (i := 2) sc__law_alike.nd rfl (Or.inl rfl))) (fun _ _ _ _ _ => (pts_one (pt_not (pt_val (pe_call G__law_alike (hr.mono (by omega)) rfl T.g__law_alike T.k__law_alike T.b__law_alike .nil pass0 (pa_cons (pe_ix ix_sq (pv 0) (pv 2) (fun _ _ => rfl)) (pa_cons (pe_ix ix_sq (pv 1) (pv 2) (fun _ _ => rfl)) pa_nil))))))) (fun _ _ _ _ _ => (pv 2))) (pe_lst pa_nil) (nomark _)))))) pss_nil) (pss_cons (ps_if (PW.pt (pw_or (pt_cmpR op_isN (pv 1) pe_non (nomark _)) (pw_or1 (pt_cmpR op_isN (pv 0) pe_non (nomark _))))) (pss_one (ps_ret (pe_and (pe_cmpR op_isN (pv 1) pe_non (nomark _)) (pe_one (pe_cmpR op_isN (pv 0) pe_non (nomark _)))))) pss_nil) (pss_cons (ps_if (PW.pt (pw_or (pt_val (pe_callB call_isi (by rfl) T.n_isinstance (by decide +kernel) (pa_cons (pv 1) (pa_cons (pe_bltn (v := .ty "bool") (by rfl) T.n_bool (by decide +kernel) rfl) pa_nil)))) (pw_or1 (pt_val (pe_callB call_isi (by rfl) T.n_isinstance (by decide +kernel) (pa_cons (pv 0) (pa_cons (pe_bltn (v := .ty "bool") (by rfl) T.n_bool (by decide +kernel) rfl) pa_nil))))))) (pss_one (ps_ret (pe_and (pe_callB call_isi (by rfl) T.n_isinstance (by decide +kernel) (pa_cons (pv 1) (pa_cons (pe_bltn (v := .ty "bool") (by rfl) T.n_bool (by decide +kernel) rfl) pa_nil))) (pe_and (pe_callB call_isi (by rfl) T.n_isinstance (by decide +kernel) (pa_cons (pv 0) (pa_cons (pe_bltn (v := .ty "bool") (by rfl) T.n_bool (by decide +kernel) rfl) pa_nil))) (pe_one (pe_cmpR op_eq (pv 0) (pv 1) (nomark _))))))) pss_nil) (pss_cons (ps_if (pt_val (pe_callB call_isi (by rfl) T.n_isinstance (by decide +kernel) (pa_cons (pv 1) (pa_cons (pe_bltn (v := .ty "str") (by rfl) T.n_str (by decide +kernel) rfl) pa_nil)))) (pss_one (ps_ret (pe_and (pe_callB call_isi (by rfl) T.n_isinstance (by decide +kernel) (pa_cons (pv 0) (pa_cons (pe_bltn (v := .ty "str") (by rfl) T.n_str (by decide +kernel) rfl) pa_nil))) (pe_one (pe_cmpR op_eq (pv 0) (pv 1) (nomark _)))))) pss_nil) (pss_one (ps_ret (pe_and (pe_callB call_isi (by rfl) T.n_isinstance (by decide +kernel) (pa_cons (pv 0) (pa_cons (pe_bltn (v := .ty "int") (by rfl) T.n_int (by decide +kernel) rfl) pa_nil))) (pe_one (pe_cmpR op_eq (pv 0) (pv 1) (nomark _)))))))))), ?_⟩
      cases hx with
      | non =>
        cases hy
        refine ⟨_, rfl, _, _, _, _, false, rfl, ClsV.ty _, TyX.base (.non), kit_ty (by decide +kernel), _, rfl, iteF ?_⟩
        refine ⟨_, rfl, _, _, _, _, false, rfl, ClsV.ty _, TyX.base (.non), kit_ty (by decide +kernel), _, rfl, iteF ?_⟩
        refine ⟨_, rfl, rfl, true, by rw [decide_eq_true rfl], iteT (iteT ?_)⟩
        refine ⟨_, rfl, rfl, true, by rw [decide_eq_true rfl], iteT ⟨_, rfl, rfl, ?_⟩⟩
        rw [decide_eq_true rfl]
        exact k H O
      | bl b =>
        cases hy
        refine ⟨_, rfl, _, _, _, _, false, rfl, ClsV.ty _, TyX.base (.bl b), kit_ty (by decide +kernel), _, rfl, iteF ?_⟩
        refine ⟨_, rfl, _, _, _, _, false, rfl, ClsV.ty _, TyX.base (.bl b), kit_ty (by decide +kernel), _, rfl, iteF ?_⟩
        refine ⟨_, rfl, rfl, false, by rw [decide_eq_false (fun e => nomatch e)], iteF ?_⟩
        refine ⟨_, rfl, rfl, false, by rw [decide_eq_false (fun e => nomatch e)], iteF ?_⟩
        refine ⟨_, rfl, _, _, _, _, true, rfl, ClsV.ty _, TyX.base (.bl b), kit_ty (by decide +kernel), _, rfl, iteT (iteT ?_)⟩
        refine ⟨_, rfl, _, _, _, _, true, rfl, ClsV.ty _, TyX.base (.bl b), kit_ty (by decide +kernel), _, rfl, iteT ?_⟩
        refine ⟨_, rfl, _, _, _, _, true, rfl, ClsV.ty _, TyX.base (.bl b), kit_ty (by decide +kernel), _, rfl, iteT ?_⟩
        refine ⟨_, rfl, _, rfl, rfl, ?_⟩
        rw [decide_eq_true rfl]
        exact k H O
      | int i =>
        cases hy
        refine ⟨_, rfl, _, _, _, _, false, rfl, ClsV.ty _, TyX.base (.int i), kit_ty (by decide +kernel), _, rfl, iteF ?_⟩
        refine ⟨_, rfl, _, _, _, _, false, rfl, ClsV.ty _, TyX.base (.int i), kit_ty (by decide +kernel), _, rfl, iteF ?_⟩
        refine ⟨_, rfl, rfl, false, by rw [decide_eq_false (fun e => nomatch e)], iteF ?_⟩
        refine ⟨_, rfl, rfl, false, by rw [decide_eq_false (fun e => nomatch e)], iteF ?_⟩
        refine ⟨_, rfl, _, _, _, _, false, rfl, ClsV.ty _, TyX.base (.int i), kit_ty (by decide +kernel), _, rfl, iteF ?_⟩
        refine ⟨_, rfl, _, _, _, _, false, rfl, ClsV.ty _, TyX.base (.int i), kit_ty (by decide +kernel), _, rfl, iteF ?_⟩
        refine ⟨_, rfl, _, _, _, _, false, rfl, ClsV.ty _, TyX.base (.int i), kit_ty (by decide +kernel), _, rfl, iteF ?_⟩
        refine ⟨_, rfl, _, _, _, _, true, rfl, ClsV.ty _, TyX.base (.int i), kit_ty (by decide +kernel), _, rfl, iteT ?_⟩
        refine ⟨_, rfl, _, rfl, rfl, ?_⟩
        rw [decide_eq_true rfl]
        exact k H O
      | str z =>
        cases hy
        refine ⟨_, rfl, _, _, _, _, false, rfl, ClsV.ty _, TyX.base (.str z), kit_ty (by decide +kernel), _, rfl, iteF ?_⟩
        refine ⟨_, rfl, _, _, _, _, false, rfl, ClsV.ty _, TyX.base (.str z), kit_ty (by decide +kernel), _, rfl, iteF ?_⟩
        refine ⟨_, rfl, rfl, false, by rw [decide_eq_false (fun e => nomatch e)], iteF ?_⟩
        refine ⟨_, rfl, rfl, false, by rw [decide_eq_false (fun e => nomatch e)], iteF ?_⟩
        refine ⟨_, rfl, _, _, _, _, false, rfl, ClsV.ty _, TyX.base (.str z), kit_ty (by decide +kernel), _, rfl, iteF ?_⟩
        refine ⟨_, rfl, _, _, _, _, false, rfl, ClsV.ty _, TyX.base (.str z), kit_ty (by decide +kernel), _, rfl, iteF ?_⟩
        refine ⟨_, rfl, _, _, _, _, true, rfl, ClsV.ty _, TyX.base (.str z), kit_ty (by decide +kernel), _, rfl, iteT ?_⟩
        refine ⟨_, rfl, _, _, _, _, true, rfl, ClsV.ty _, TyX.base (.str z), kit_ty (by decide +kernel), _, rfl, iteT ?_⟩
        refine ⟨_, rfl, _, rfl, rfl, ?_⟩
        rw [decide_eq_true rfl]
        exact k H O
      | @lst a1 xs1 ds h1 r1 =>
        cases hy with
        | @lst a2 xs2 _ h2 r2 =>
          have m1 := O.mem h1
          have m2 := O.mem h2
          have e1 := r1.len
          have e2 := r2.len
          obtain ⟨hd1, hd2⟩ : ds.length ≤ 100000 ∧ ∀ d ∈ ds, AlD n d := hd
          refine ⟨_, rfl, _, _, _, _, false, rfl, ClsV.ty _, TyX.base (.lst m2), kit_ty (by decide +kernel), _, rfl, iteF ?_⟩
          refine ⟨_, rfl, _, _, _, _, true, rfl, ClsV.ty _, TyX.base (.lst m2), kit_ty (by decide +kernel), _, rfl, iteT ?_⟩
          refine ⟨_, rfl, _, _, _, _, false, rfl, ClsV.ty _, TyX.base (.lst m1), kit_ty (by decide +kernel), ?_⟩
          refine ⟨_, rfl, _, _, _, _, false, rfl, ClsV.ty _, TyX.base (.lst m2), kit_ty (by decide +kernel), rfl, false, by rw [decide_eq_true rfl]; rfl, iteF ?_⟩
          refine ⟨_, rfl, by show 2 ≤ sizeLine; decide, fun tp htp => ?_⟩
          have O1 := O.new (o := .tup [.ty "tuple", .ty "list"]) htp
          refine ⟨_, tp, _, _, [.type "tuple", .type "list"], true, rfl, O1.a0, ?_, TyX.base (.lst (O1.tail.mem h1)), ?_, _, rfl, iteF ?_⟩
          · exact .cons (ClsV.ty _) (.cons (ClsV.ty _) .nil)
          · exact kit_anylst
          replace O1 := O1.tail
          generalize upd H tp _ = H1 at O1 ⊢
          refine ⟨_, rfl, a1, _, rfl, .inl (SqL.of (O1.mem h1)), _, rfl, a2, _, rfl, .inl (SqL.of (O1.mem h2)), rfl, false, by rw [e1, e2, decide_eq_true rfl]; rfl, iteF ?_⟩
          refine ⟨_, rfl, a2, _, rfl, .inl (SqL.of (O1.mem h2)), (xs2.length : Int), rfl, by omega, by omega, fun D hD => ?_⟩
          refine lc_range (lo := 0) (n := xs2.length) (fun i H' => Own H' ((D, .lst []) :: L)) (O1.new hD) ?_ ?_
          · rintro i H2 hi O2
            have ei : (0 : Int) + (i : Int) = ((i : Nat) : Int) := by omega
            rw [ei]
            obtain ⟨d, hdi⟩ : ∃ d, ds[i]? = some d := ⟨_, List.getElem?_eq_getElem (by omega)⟩
            obtain ⟨v1, hv1, p1⟩ := r1.get' hdi
            obtain ⟨v2, hv2, p2⟩ := r2.get' hdi
            have hs : ∀ c ∈ L, c ∈ (D, HO.lst []) :: L := fun c hc => List.mem_cons_of_mem _ hc
            exact ⟨rfl, _, rfl, _, rfl, .inl ⟨a1, _, _, v1, rfl, rfl, SqL.of (O2.mem (hs _ h1)), atI_nat hv1, _, rfl, _, rfl, .inl ⟨a2, _, _, v2, rfl, rfl, SqL.of (O2.mem (hs _ h2)), atI_nat hv2, v1, v2, d, _, rfl, p1.mono hs, p2.mono hs, hd2 d (List.mem_of_getElem? hdi), O2, fun H3 O3 => ⟨_, rfl, iteF O3⟩⟩⟩⟩
          · intro H2 O2
            refine ⟨by show 0 ≤ sizeLine; decide, fun e he => ?_⟩
            have O3 := O2.new (o := .lst []) he
            refine ⟨.list [], .list [], .lst (SqL.of O3.a1) .nil, .lst (SqL.of O3.a0) .nil, sh0, sh0, ?_⟩
            have ee : PyData.eqv (.list []) (.list []) = true := by decide +kernel
            rw [ee]
            exact k _ O3.tail.tail
      | @tup a1 xs1 ds h1 r1 =>
        cases hy with
        | @tup a2 xs2 _ h2 r2 =>
          have m1 := O.mem h1
          have m2 := O.mem h2
          have e1 := r1.len
          have e2 := r2.len
          obtain ⟨hd1, hd2⟩ : ds.length ≤ 100000 ∧ ∀ d ∈ ds, AlD n d := hd
          refine ⟨_, rfl, _, _, _, _, true, rfl, ClsV.ty _, TyX.base (.tup m2), kit_ty (by decide +kernel), _, rfl, iteT (iteT ?_)⟩
          refine ⟨_, rfl, _, _, _, _, true, rfl, ClsV.ty _, TyX.base (.tup m1), kit_ty (by decide +kernel), ?_⟩
          refine ⟨_, rfl, _, _, _, _, true, rfl, ClsV.ty _, TyX.base (.tup m2), kit_ty (by decide +kernel), rfl, false, by rw [decide_eq_true rfl]; rfl, iteF ?_⟩
          refine ⟨_, rfl, by show 2 ≤ sizeLine; decide, fun tp htp => ?_⟩
          have O1 := O.new (o := .tup [.ty "tuple", .ty "list"]) htp
          refine ⟨_, tp, _, _, [.type "tuple", .type "list"], true, rfl, O1.a0, ?_, TyX.base (.tup (O1.tail.mem h1)), ?_, _, rfl, iteF ?_⟩
          · exact .cons (ClsV.ty _) (.cons (ClsV.ty _) .nil)
          · exact kit_anytup
          replace O1 := O1.tail
          generalize upd H tp _ = H1 at O1 ⊢
          refine ⟨_, rfl, a1, _, rfl, .inr (SqT.of (O1.mem h1)), _, rfl, a2, _, rfl, .inr (SqT.of (O1.mem h2)), rfl, false, by rw [e1, e2, decide_eq_true rfl]; rfl, iteF ?_⟩
          refine ⟨_, rfl, a2, _, rfl, .inr (SqT.of (O1.mem h2)), (xs2.length : Int), rfl, by omega, by omega, fun D hD => ?_⟩
          refine lc_range (lo := 0) (n := xs2.length) (fun i H' => Own H' ((D, .lst []) :: L)) (O1.new hD) ?_ ?_
          · rintro i H2 hi O2
            have ei : (0 : Int) + (i : Int) = ((i : Nat) : Int) := by omega
            rw [ei]
            obtain ⟨d, hdi⟩ : ∃ d, ds[i]? = some d := ⟨_, List.getElem?_eq_getElem (by omega)⟩
            obtain ⟨v1, hv1, p1⟩ := r1.get' hdi
            obtain ⟨v2, hv2, p2⟩ := r2.get' hdi
            have hs : ∀ c ∈ L, c ∈ (D, HO.lst []) :: L := fun c hc => List.mem_cons_of_mem _ hc
            exact ⟨rfl, _, rfl, _, rfl, .inr ⟨a1, _, _, v1, rfl, rfl, SqT.of (O2.mem (hs _ h1)), atI_nat hv1, _, rfl, _, rfl, .inr ⟨a2, _, _, v2, rfl, rfl, SqT.of (O2.mem (hs _ h2)), atI_nat hv2, v1, v2, d, _, rfl, p1.mono hs, p2.mono hs, hd2 d (List.mem_of_getElem? hdi), O2, fun H3 O3 => ⟨_, rfl, iteF O3⟩⟩⟩⟩
          · intro H2 O2
            refine ⟨by show 0 ≤ sizeLine; decide, fun e he => ?_⟩
            have O3 := O2.new (o := .lst []) he
            refine ⟨.list [], .list [], .lst (SqL.of O3.a1) .nil, .lst (SqL.of O3.a0) .nil, sh0, sh0, ?_⟩
            have ee : PyData.eqv (.list []) (.list []) = true := by decide +kernel
            rw [ee]
            exact k _ O3.tail.tail
end
-- WwSe
/-! ### what a room passes on -/
def Ask.vs : Ask → List V
  | .look p => [.str "look", .int (p : Nat)]
  | .cell p => [.str "cell", .int (p : Nat)]
  | .bring b => [.str "bring", .int (b : Nat)]
  | .home b => [.str "home", .int (b : Nat)]
def Ask.ok : Ask → Prop
  | .look p => p < 64
  | .cell p => p < 64
  | .bring b => b < 16
  | .home b => b < 16
def AsksAt (R : List Cell) (p : Addr) (asks : List Ask) : Prop := ∃ as : List Addr, (p, HO.lst (as.map V.ref)) ∈ R ∧ TA R as (asks.map Ask.vs)
theorem AsksAt.get {R : List Cell} {p : Addr} {ds : List Ask} (h : AsksAt R p ds) : ∃ as : List Addr, as.length = ds.length ∧ (p, HO.lst (as.map V.ref)) ∈ R ∧ ∀ {i : Nat} {x : V}, (as.map V.ref)[i]? = some x → ∃ (a : Addr) (d : Ask), x = .ref a ∧ as[i]? = some a ∧ ds[i]? = some d ∧ (a, HO.tup d.vs) ∈ R := by
  obtain ⟨as, h1, h2⟩ := h
  refine ⟨as, by have := h2.len; rwa [List.length_map] at this, h1, fun {i x} hi => ?_⟩
  rw [List.getElem?_map] at hi
  cases e : as[i]? with
  | none =>
    rw [e] at hi
    cases hi
  | some a =>
    rw [e] at hi
    obtain ⟨u, hu1, hu2⟩ := h2.get e
    rw [List.getElem?_map] at hu1
    cases e2 : ds[i]? with
    | none =>
      rw [e2] at hu1
      cases hu1
    | some d =>
      rw [e2] at hu1
      have : d.vs = u := Option.some.inj hu1
      subst this
      exact ⟨a, d, (Option.some.inj hi).symm, rfl, rfl, hu2⟩
def ru0 (u : Rul) : Ru := ⟨u.w, u.bk, u.inn, u.lt, []⟩
def ss0 (u : Rul) : ASs := List.replicate u.s []
def outV (o : Out) : List V := [.str o.1, .int (o.2 : Nat)]
def sentOf (u : Rul) (asks : List Ask) : List Out := (aRun (ru0 u) (ss0 u) asks).2
/-- a room before the far one, asked so many times -/
structure SeS (u : Rul) (asks : List Ask) (r : Rm) (t : Ta) : Prop where
  rm : RmOk r
  tk : TaOk 0 t
  ru : r.ru = ru0 u
  ss : absS r = (aRun (ru0 u) (ss0 u) asks).1
  lg : t.log = ents [] (sentOf u asks)
  ln : t.log.length ≤ 3 * asks.length
theorem SeS.zero {u : Rul} (hu : RulOk u) : SeS u [] (mkRm u []) ⟨[], List.replicate 64 0, []⟩ := ⟨mkRm_ok hu (by show 0 ≤ 4; omega), ⟨rfl, (fun r hr => by cases hr), rfl⟩, rfl, by
  show (List.replicate u.s ([] : List Ln)).map abL = List.replicate u.s []
  rw [List.map_replicate]
  rfl, rfl, Nat.le_refl _⟩
theorem sent_snoc (u : Rul) (as : List Ask) (a : Ask) : aRun (ru0 u) (ss0 u) (as ++ [a]) = ((aStep (ru0 u) (aRun (ru0 u) (ss0 u) as).1 a).1, (aRun (ru0 u) (ss0 u) as).2 ++ (aStep (ru0 u) (aRun (ru0 u) (ss0 u) as).1 a).2) := by
  rw [aRun_app, aRun_one]
theorem ents_app (tl : List V) (a b : List Out) : ents tl (a ++ b) = ents tl a ++ ents tl b := List.map_append
section
variable {u : Rul} {as : List Ask} {r : Rm} {t : Ta}
theorem SeS.reach (h : SeS u as r t) {b : Nat} (hb : b < 16) {a : Ask} (ha : aStep (ru0 u) (absS r) a = (aPut (absS r) b (aReach (ru0 u) (aGet (absS r) b) b).1, (aReach (ru0 u) (aGet (absS r) b) b).2.1)) : SeS u (as ++ [a]) (r.put b (reachL (ops 0) r.ru (r.ls b) t b).1) (reachL (ops 0) r.ru (r.ls b) t b).2.1 := by
  have T := far_tr []
  have e0 : ([] : List V) = r.ru.tl := by rw [h.ru]; rfl
  rw [e0] at T
  obtain ⟨g1, g2, _⟩ := reach_tr (ls := r.ls b) T trivial b (t := t)
  obtain ⟨k1, k2, _, k4⟩ := reachL_ok (ops_ok 0) h.rm.ru (h.rm.ls b) h.tk hb
  have hg : gOf 0 = 0 := rfl
  rw [h.ru, ← absS_get] at g1 g2
  rw [h.ru] at k1 k2 k4 ⊢
  have hss := h.ss
  refine ⟨put_ok h.rm (by rw [h.ru]; exact k1), k2, h.ru, ?_, ?_, ?_⟩
  · rw [sent_snoc, ← h.ss, ha, absS_put, g2]
  · unfold sentOf
    rw [sent_snoc, ← h.ss, ha, g1, h.lg]
    show _ = ents [] ((aRun (ru0 u) (ss0 u) as).2 ++ _)
    rw [ents_app]
    rfl
  · have := h.ln
    rw [List.length_append, List.length_singleton]
    omega
theorem SeS.change (h : SeS u as r t) {p : Nat} (hp : p < 64) (v : Int) : SeS u (as ++ [.cell p]) (r.put (p / 4) (changeL (ops 0) r.ru (r.ls (p / 4)) t p v).1) (changeL (ops 0) r.ru (r.ls (p / 4)) t p v).2 := by
  have T := far_tr []
  have e0 : ([] : List V) = r.ru.tl := by rw [h.ru]; rfl
  rw [e0] at T
  obtain ⟨g1, g2⟩ := change_tr (ls := r.ls (p / 4)) T trivial p v (t := t)
  obtain ⟨k1, k2, k4⟩ := changeL_ok (v := v) (ops_ok 0) h.rm.ru (h.rm.ls (p / 4)) h.tk hp
  rw [h.ru, ← absS_get] at g1 g2
  have hg : gOf 0 = 0 := rfl
  rw [h.ru] at k1 k2 k4 ⊢
  refine ⟨put_ok h.rm (by rw [h.ru]; exact k1), k2, h.ru, ?_, ?_, ?_⟩
  · rw [sent_snoc, ← h.ss, absS_put, g2]
    rfl
  · unfold sentOf
    rw [sent_snoc, ← h.ss, g1, h.lg]
    show _ = ents [] ((aRun (ru0 u) (ss0 u) as).2 ++ _)
    rw [ents_app]
    rfl
  · have := h.ln
    rw [List.length_append, List.length_singleton]
    omega
theorem SeS.home (h : SeS u as r t) {b : Nat} (hb : b < 16) {ns : List Int} (hn : ns.length = 4) : SeS u (as ++ [.home b]) (r.put b (homeL (ops 0) r.ru (r.ls b) t b ns).1) (homeL (ops 0) r.ru (r.ls b) t b ns).2 := by
  have T := far_tr []
  have e0 : ([] : List V) = r.ru.tl := by rw [h.ru]; rfl
  rw [e0] at T
  obtain ⟨g1, g2⟩ := home_tr (ls := r.ls b) T trivial b ns (t := t)
  obtain ⟨k1, k2, k4⟩ := homeL_ok (ops_ok 0) h.rm.ru (h.rm.ls b) h.tk hb hn
  rw [h.ru, ← absS_get] at g1 g2
  have hg : gOf 0 = 0 := rfl
  rw [h.ru] at k1 k2 k4 ⊢
  refine ⟨put_ok h.rm (by rw [h.ru]; exact k1), k2, h.ru, ?_, ?_, ?_⟩
  · rw [sent_snoc, ← h.ss, absS_put, g2]
    rfl
  · unfold sentOf
    rw [sent_snoc, ← h.ss, g1, h.lg]
    show _ = ents [] ((aRun (ru0 u) (ss0 u) as).2 ++ _)
    rw [ents_app]
    rfl
  · have := h.ln
    rw [List.length_append, List.length_singleton]
    omega
end
def spIsAsk : Sp := fun vs H Q _ => ∃ (da : Addr) (a : Ask) (R : List Cell), vs = [.ref da] ∧ a.ok ∧ (da, HO.tup a.vs) ∈ R ∧ Own H R ∧ ∀ H' : Hp, Own H' R → Q (.bl true) H'
def spPassed (K : PySem.W.Frag) : Sp := fun vs H Q _ => ∃ (ra pa : Addr) (u : Rul) (asks : List Ask) (R : List Cell), vs = [.ref ra, .ref pa] ∧ RulOk u ∧ (ra, HO.tup u.vs) ∈ R ∧ (∀ a ∈ asks, a.ok) ∧ asks.length ≤ 400 ∧ AsksAt R pa asks ∧ Own H R ∧
  ∀ (p : Addr) (as : List Addr) (N : List Cell) (H' : Hp), TA N as ((sentOf u asks).map outV) → Own H' ((p, .lst (as.map V.ref)) :: (N ++ R)) → Q (.ref p) H'
theorem in_lc1 : inV (.str "look") [V.str "look", .str "cell"] = true := by decide +kernel
theorem in_lc2 : inV (.str "cell") [V.str "look", .str "cell"] = true := by decide +kernel
theorem in_lc3 : inV (.str "bring") [V.str "look", .str "cell"] = false := by decide +kernel
theorem in_lc4 : inV (.str "home") [V.str "look", .str "cell"] = false := by decide +kernel
theorem in_bh1 : inV (.str "bring") [V.str "bring", .str "home"] = true := by decide +kernel
theorem in_bh2 : inV (.str "home") [V.str "bring", .str "home"] = true := by decide +kernel
def spSent (K : PySem.W.Frag) : Sp := fun vs H Q _ => ∃ (ra pa : Addr) (u : Rul) (asks : List Ask) (R : List Cell), vs = [.ref ra, .ref pa] ∧ RulOk u ∧ (ra, HO.tup u.vs) ∈ R ∧ (∀ a ∈ asks, a.ok) ∧ asks.length ≤ 400 ∧ AsksAt R pa asks ∧ Own H R ∧
  ∀ (p : Addr) (as : List Addr) (N : List Cell) (H' : Hp), TA N as ((sentOf u asks).map outV) → Own H' ((p, .lst (as.map V.ref)) :: (N ++ R)) → Q (.ref p) H'
section
variable {P : Program} {w : World} {K : PySem.W.Frag} {mg : Str → Option Value} {base : Heap} {n lv : Nat}
theorem ok_sent (T : Txt K mg) : FnOk P w K mg base CX0 6 (He.fAd K ("sent", none)) T.fd_sent ["rule", "asks"] (spSent K) := by
  have G_Room_look := ok_R_look T (beh0 (P := P) (w := w) (base := base) T) (Nat.le_refl 1)
  have G_Room_change := ok_R_change T (beh0 (P := P) (w := w) (base := base) T) (Nat.le_refl 1)
  have G_Room_bring := ok_R_bring T (beh0 (P := P) (w := w) (base := base) T) (Nat.le_refl 1)
  have G_Room_home := ok_R_home T (beh0 (P := P) (w := w) (base := base) T) (Nat.le_refl 1)
  have G_Room___init__ := ok_Room_init (P := P) (w := w) (base := base) T
  have G_Far___init__ := ok_Far_init (P := P) (w := w) (base := base) T
  refine okOf T.F_sent sc_sent (fun vs H Q E h => ?_) (fun cdv A outer s H vs Q E hr h => ?_)
  · obtain ⟨_, _, _, _, _, rfl, _⟩ := h
    rfl
  · obtain ⟨ra, pa, u, asks, R, rfl, hu, hra, haok, hal, hat, O, k⟩ := h
    obtain ⟨aas, haal, hpa, hget⟩ := hat.get
    refine ⟨_, (pss_cons (ps_set (i := 2) sc_sent.nd rfl (Or.inl rfl) (pe_lst pa_nil)) (pss_cons (ps_set (i := 3) sc_sent.nd rfl (Or.inl rfl) (pe_make T.mk_Room G_Room___init__ (hr.mono (by omega)) rfl T.g_Room T.b_Room___init__ .nil pass0 (pa_cons (pv 0) (pa_cons (pe_make0 T.mk_Far G_Far___init__ (hr.mono (by omega)) rfl T.g_Far T.b_Far___init__ .nil pass0) (pa_cons (pe_tup pa_nil) (pa_cons (pv 2) pa_nil)))))) (pss_cons (ps_for PassesOwn.never rfl (pi_list (pv 1)) (pg_tup (by rfl) (pgs_cons (pg_name (i := 4) sc_sent.nd rfl (Or.inl rfl)) (pgs_cons (pg_name (i := 5) sc_sent.nd rfl (Or.inl rfl)) pgs_nil))) (pss_one (ps_if (pt_cmpR op_eq (pv 4) pe_str (nomark _)) (pss_one (ps_expr (pe_meth (pv 3) T.cl_Room T.m_Room_look G_Room_look (hr.mono (by omega)) T.b_Room_look .nil pass0 (pa_cons (pv 5) pa_nil)))) (pss_one (ps_if (pt_cmpR op_eq (pv 4) (pe_globS rfl T.g_CELL) (nomark _)) (pss_one (ps_expr (pe_meth (pv 3) T.cl_Room T.m_Room_change G_Room_change (hr.mono (by omega)) T.b_Room_change .nil pass0 (pa_cons (pv 5) (pa_cons pe_int pa_nil))))) (pss_one (ps_if (pt_cmpR op_eq (pv 4) (pe_globS rfl T.g_BRING) (nomark _)) (pss_one (ps_expr (pe_meth (pv 3) T.cl_Room T.m_Room_bring G_Room_bring (hr.mono (by omega)) T.b_Room_bring .nil pass0 (pa_cons (pv 5) pa_nil)))) (pss_one (ps_expr (pe_meth (pv 3) T.cl_Room T.m_Room_home G_Room_home (hr.mono (by omega)) T.b_Room_home .nil pass0 (pa_cons (pv 5) (pa_cons (pe_op op_repT (pe_tup (pa_cons pe_int pa_nil)) (pe_globI rfl T.g_BLOCK)) pa_nil)))))))))))) (pss_one (ps_ret (pv 2)))))), ?_⟩
    refine ⟨by show 0 ≤ sizeLine; decide, fun di hdi => ?_⟩
    have O1 := O.new (o := .lst []) hdi
    -- the far room
    refine ⟨_, rfl, fun fa dxf hfa hdxf hnef => ?_⟩
    have O2 := (O1.keepNew (o := .own fa) hdxf).new (p := fa) (o := .ins (cF K) dxf []) (by rw [upd_ne (Ne.symm hnef)]; exact hfa)
    refine ⟨fa, dxf, (di, .lst []) :: R, rfl, O2, fun fl H3 O3 => ⟨rfl, ?_⟩⟩
    -- its title
    refine ⟨by show 0 ≤ sizeLine; decide, fun ti hti => ?_⟩
    have O4 := O3.new (o := .tup []) hti
    refine ⟨_, rfl, fun x dx hx hdx hne => ?_⟩
    have O5 := (O4.keepNew (o := .own x) hdx).new (p := x) (o := .ins (cR K) dx []) (by rw [upd_ne (Ne.symm hne)]; exact hx)
    refine ⟨x, dx, ra, ti, di, .far fa, u, [], _, rfl, hu, (by simp [hra] : (ra, HO.tup u.vs) ∈ (fa, HO.ins (cF K) dxf (fFar (.ref fl))) :: (fl, .lst ((List.replicate 64 (0 : Int)).map V.int)) :: (di, .lst []) :: R), O5, fun C1 H6 hC1 O6 => ⟨rfl, ?_⟩⟩
    have hC0 : RepK K di (.far fa) [] (List.replicate 64 0) [(fa, .ins (cF K) dxf (fFar (.ref fl))), (fl, .lst ((List.replicate 64 (0 : Int)).map V.int))] := ⟨dxf, fl, rfl⟩
    have O7 : Own H6 (C1 ++ ([(fa, .ins (cF K) dxf (fFar (.ref fl))), (fl, .lst ((List.replicate 64 (0 : Int)).map V.int))] ++ ([(di, .lst [])] ++ R))) := O6.perm (by walk_at "perm")
    have hsq : ∀ {H : Hp} {C1 C D : List Cell}, Own H (C1 ++ (C ++ (D ++ R))) → SqL K H pa (aas.map V.ref) := fun O => SqL.of (O.mem (by simp [hpa]))
    refine ⟨_, rfl, pa, rfl, ⟨_, hsq O7⟩, ?_⟩
    refine for_list (K := K) (a := pa) (xs := aas.map V.ref) (fun i σ H' => (∃ v4 v5, σ = [some (.ref ra), some (.ref pa), some (.ref di), some (.ref x), v4, v5]) ∧ ∃ (r : Rm) (t : Ta) (C1 C D : List Cell), SeS u (asks.take i) r t ∧ RmRepK K di x (.far fa) r C1 ∧ RepK K di (.far fa) t.rs t.far C ∧ DRep di t.log D ∧ Own H' (C1 ++ (C ++ (D ++ R))))
      ⟨⟨_, _, rfl⟩, mkRm u [], ⟨[], List.replicate 64 0, []⟩, C1, _, [(di, .lst [])], SeS.zero hu, hC1, hC0, ⟨[], rfl, rfl⟩, O7⟩ (fun i σ H' _ ⟨_, _, _, _, _, _, _, _, _, _, O'⟩ => hsq O') ?_ ?_
    · rintro i y σ H8 hi ⟨⟨v4, v5, rfl⟩, r, t, Ca, Cb, D, hS, hCa, hCb, hD, O8⟩
      obtain ⟨a, d, rfl, _, hd1, hd2⟩ := hget hi
      have hil : i < asks.length := (List.getElem?_eq_some_iff.mp hd1).1
      have hdok := haok d (List.mem_of_getElem? hd1)
      have hda := O8.mem (show (a, HO.tup d.vs) ∈ _ by simp [hd2])
      have hln := hS.ln
      rw [List.length_take] at hln
      rw [take_snoc hd1]
      obtain ⟨hdr, _, h1, h2, h3, h4, _, _, eC⟩ := id hCa
      have hx : ∃ dxr fs, H8 x = some (.ins (cR K) dxr fs) ∧ fs = fRoom (.int hdr.u.ways) (.bl hdr.u.bk) (.bl hdr.u.inn) (.bl hdr.u.lt) (.ref hdr.be.ad) (.ref hdr.ti) (.ref hdr.di) (.ref hdr.sl) := ⟨hdr.dx, _, O8.mem (List.mem_append_left _ (by rw [eC, ← h1]; exact List.mem_append_left _ List.mem_cons_self)), rfl⟩
      obtain ⟨dxr, fs, hx, rfl⟩ := hx
      have hpre : RPre K 0 H8 di x (.far fa) r t Ca Cb D R := ⟨hS.rm, hS.tk, ⟨by omega, by omega⟩, hCa, hCb, hD, O8⟩
      cases d with
      | look p =>
        have s1 : SqT K H8 a [.str "look", .int (p : Nat)] := SqT.of hda
        refine ⟨a, _, rfl, s1, rfl, _, _, rfl, _, _, rfl, rfl, ?_⟩
        refine ⟨_, rfl, rfl, true, by rw [decide_eq_true rfl], iteT ?_⟩
        refine ⟨_, rfl, x, dxr, _, rfl, hx, no_Room_look, _, rfl, x, .far fa, di, p, r, t, Ca, Cb, D, R, rfl, hdok, hpre, fun H9 hp => ?_⟩
        obtain ⟨Ca', Cb', D', q1, q2, q3, q4⟩ := hp
        have hp64 : p < 64 := hdok
        exact ⟨⟨_, _, rfl⟩, _, _, Ca', Cb', D', hS.reach (b := p / 4) (by omega) (a := .look p) rfl, q1, q2, q3, q4⟩
      | cell p =>
        have s1 : SqT K H8 a [.str "cell", .int (p : Nat)] := SqT.of hda
        refine ⟨a, _, rfl, s1, rfl, _, _, rfl, _, _, rfl, rfl, ?_⟩
        refine ⟨_, rfl, rfl, false, by decide +kernel, iteF ?_⟩
        refine ⟨_, rfl, rfl, true, by rw [decide_eq_true rfl], iteT ?_⟩
        refine ⟨_, rfl, x, dxr, _, rfl, hx, no_Room_change, _, rfl, x, .far fa, di, p, 0, r, t, Ca, Cb, D, R, rfl, hdok, hpre, fun H9 hp => ?_⟩
        obtain ⟨Ca', Cb', D', q1, q2, q3, q4⟩ := hp
        exact ⟨⟨_, _, rfl⟩, _, _, Ca', Cb', D', hS.change hdok 0, q1, q2, q3, q4⟩
      | bring b =>
        have s1 : SqT K H8 a [.str "bring", .int (b : Nat)] := SqT.of hda
        refine ⟨a, _, rfl, s1, rfl, _, _, rfl, _, _, rfl, rfl, ?_⟩
        refine ⟨_, rfl, rfl, false, by decide +kernel, iteF ?_⟩
        refine ⟨_, rfl, rfl, false, by decide +kernel, iteF ?_⟩
        refine ⟨_, rfl, rfl, true, by rw [decide_eq_true rfl], iteT ?_⟩
        refine ⟨_, rfl, x, dxr, _, rfl, hx, no_Room_bring, _, rfl, x, .far fa, di, b, r, t, Ca, Cb, D, R, rfl, hdok, hpre, fun pq H9 hp => ?_⟩
        obtain ⟨Ca', Cb', D', q1, q2, q3, q4⟩ := hp
        refine ⟨⟨_, _, rfl⟩, _, _, Ca', Cb', D', hS.reach (b := b) hdok (a := .bring b) rfl, q1, q2, q3, ?_⟩
        exact Own.right (L' := [(pq, .tup ((bringL (ops 0) r.ru (r.ls b) t b).1.map V.int))]) (q4.perm (by walk_at "perm"))
      | home b =>
        have s1 : SqT K H8 a [.str "home", .int (b : Nat)] := SqT.of hda
        refine ⟨a, _, rfl, s1, rfl, _, _, rfl, _, _, rfl, rfl, ?_⟩
        refine ⟨_, rfl, rfl, false, by decide +kernel, iteF ?_⟩
        refine ⟨_, rfl, rfl, false, by decide +kernel, iteF ?_⟩
        refine ⟨_, rfl, rfl, false, by decide +kernel, iteF ?_⟩
        refine ⟨_, rfl, x, dxr, _, rfl, hx, no_Room_home, _, rfl, by show 1 ≤ sizeLine; decide, fun q0 hq0 => ?_⟩
        have O9 := O8.new (o := .tup [.int 0]) hq0
        refine ⟨q0, 4, [.int 0], rfl, rfl, SqT.of O9.a0, (fun z => nomatch z), by decide, by decide, by decide, fun q1 hq1 => ?_⟩
        have O10 := O9.new (o := .tup (([0, 0, 0, 0] : List Int).map V.int)) hq1
        refine ⟨x, .far fa, di, q1, .tup (([0, 0, 0, 0] : List Int).map V.int), b, [0, 0, 0, 0], r, t, Ca, Cb, D, (q0, .tup [.int 0]) :: R, rfl, hdok, rfl, .inr rfl, ⟨hS.rm, hS.tk, ⟨by omega, by omega⟩, hCa, hCb, hD, O10.perm (by walk_at "perm")⟩, fun H9 hp => ?_⟩
        obtain ⟨Ca', Cb', D', q1', q2', q3', q4'⟩ := hp
        refine ⟨⟨_, _, rfl⟩, _, _, Ca', Cb', D', hS.home hdok rfl, q1', q2', q3', ?_⟩
        exact Own.right (L' := [(q1, .tup (([0, 0, 0, 0] : List Int).map V.int)), (q0, .tup [.int 0])]) (q4'.perm (by walk_at "perm"))
    · rintro σ H8 ⟨⟨v4, v5, rfl⟩, r, t, Ca, Cb, D, hS, hCa, hCb, ⟨das, hdl, rfl⟩, O8⟩
      rw [List.length_map, haal, List.take_length] at hS
      refine ⟨_, rfl, k di das (logC das t.log) H8 ?_ ?_⟩
      · have h1 := logC_TA hdl
        have e1 : t.log.map Ent.vs = (sentOf u asks).map outV := by
          rw [hS.lg]
          unfold ents
          rw [List.map_map]
          rfl
        rw [e1] at h1
        exact h1
      · exact Own.right (L' := Ca ++ Cb) (O8.perm (by walk_at "perm"))
theorem ok_is_ask (T : Txt K mg) : FnOk P w K mg base CX0 2 (He.fAd K ("is_ask", none)) T.fd_is_ask ["ask"] spIsAsk := by
  have G_is_number := ok_is_number (P := P) (w := w) (base := base) T
  refine okOf T.F_is_ask sc_is_ask (fun vs H Q E h => ?_) (fun cdv A outer s H vs Q E hr h => ?_)
  · obtain ⟨_, _, _, rfl, _⟩ := h
    rfl
  · obtain ⟨da, d, R, rfl, hd, hda0, O, k⟩ := h
    have hda : H da = some (.tup d.vs) := O.mem hda0
    obtain ⟨wd, nn, hvs, hcase⟩ : ∃ (wd : Str) (nn : Nat), d.vs = [.str wd, .int (nn : Nat)] ∧ ((inV (.str wd) [V.str "look", .str "cell"] = true ∧ nn < 64) ∨ (inV (.str wd) [V.str "look", .str "cell"] = false ∧ inV (.str wd) [V.str "bring", .str "home"] = true ∧ nn < 16)) := by
      cases d with
      | look p => exact ⟨_, p, rfl, .inl ⟨in_lc1, hd⟩⟩
      | cell p => exact ⟨_, p, rfl, .inl ⟨in_lc2, hd⟩⟩
      | bring b => exact ⟨_, b, rfl, .inr ⟨in_lc3, in_bh1, hd⟩⟩
      | home b => exact ⟨_, b, rfl, .inr ⟨in_lc4, in_bh2, hd⟩⟩
    rw [hvs] at hda hda0
    refine ⟨_, (pss_cons (ps_if (PW.pt (pw_or (pt_not (pt_val (pe_callB call_isi (by rfl) T.n_isinstance (by decide +kernel) (pa_cons (pv 0) (pa_cons (pe_bltn (v := .ty "tuple") (by rfl) T.n_tuple (by decide +kernel) rfl) pa_nil))))) (pw_or (pt_cmpR op_ne (pe_callB call_len_seq (by rfl) T.n_len PySem.boot_len (pa_cons (pv 0) pa_nil)) pe_int (nomark _)) (pw_or1 (pt_not (pt_val (pe_callB call_isi (by rfl) T.n_isinstance (by decide +kernel) (pa_cons (pe_ix ix_tup (pv 0) pe_int (fun _ _ => rfl)) (pa_cons (pe_bltn (v := .ty "str") (by rfl) T.n_str (by decide +kernel) rfl) pa_nil))))))))) (pss_one (ps_ret pe_bl)) pss_nil) (pss_cons (ps_if (pt_cmpR op_in_seq (pe_ix ix_tup (pv 0) pe_int (fun _ _ => rfl)) (pe_tup (pa_cons (pe_globS rfl T.g_LOOK) (pa_cons (pe_globS rfl T.g_CELL) pa_nil))) (by rfl)) (pss_one (ps_ret (pe_call G_is_number (hr.mono (by omega)) rfl T.g_is_number T.k_is_number T.b_is_number .nil pass0 (pa_cons (pe_ix ix_tup (pv 0) pe_int (fun _ _ => rfl)) (pa_cons pe_int (pa_cons (pe_op op_sub (pe_globI rfl T.g_CELLS) pe_int) pa_nil)))))) pss_nil) (pss_one (ps_ret (pe_and (pe_cmpR op_in_seq (pe_ix ix_tup (pv 0) pe_int (fun _ _ => rfl)) (pe_tup (pa_cons (pe_globS rfl T.g_BRING) (pa_cons (pe_globS rfl T.g_HOME) pa_nil))) (by rfl)) (pe_one (pe_call G_is_number (hr.mono (by omega)) rfl T.g_is_number T.k_is_number T.b_is_number .nil pass0 (pa_cons (pe_ix ix_tup (pv 0) pe_int (fun _ _ => rfl)) (pa_cons pe_int (pa_cons (pe_op op_sub (pe_op op_fdiv (pe_globI rfl T.g_CELLS) (pe_globI rfl T.g_BLOCK)) pe_int) pa_nil)))))))))), ?_⟩
    refine ⟨_, rfl, _, _, _, _, true, rfl, ClsV.ty _, TyX.base (.tup hda), kit_ty (by decide +kernel), true, rfl, iteF ?_⟩
    refine ⟨_, rfl, da, _, rfl, .inr (SqT.of hda), rfl, false, rfl, iteF ?_⟩
    refine ⟨_, rfl, da, _, 0, .str wd, rfl, rfl, SqT.of hda, rfl, _, _, _, _, true, rfl, ClsV.ty _, TyX.base (.str wd), kit_ty (by decide +kernel), true, rfl, iteF ?_⟩
    refine ⟨_, rfl, da, _, 0, .str wd, rfl, rfl, SqT.of hda, rfl, by show 2 ≤ sizeLine; decide, fun q hq => ?_⟩
    have O1 := O.new (o := .tup [.str "look", .str "cell"]) hq
    have hda1 : SqT K _ da [.str wd, .int (nn : Nat)] := SqT.of (O1.mem (List.mem_cons_of_mem _ hda0))
    rcases hcase with ⟨h1, h2⟩ | ⟨h1, h2, h3⟩
    · refine ⟨q, _, rfl, .inr (SqT.of O1.a0), rfl, rfl, true, by rw [h1]; rfl, iteT ?_⟩
      refine ⟨_, rfl, da, _, 1, .int (nn : Nat), rfl, rfl, hda1, rfl, _, _, rfl, rfl, nn, 0, 63, rfl, ?_⟩
      rw [decide_eq_true (by omega)]
      exact k _ O1.tail
    · refine ⟨q, _, rfl, .inr (SqT.of O1.a0), rfl, rfl, false, by rw [h1]; rfl, iteF ?_⟩
      refine ⟨_, rfl, da, _, 0, .str wd, rfl, rfl, hda1, rfl, by show 2 ≤ sizeLine; decide, fun q2 hq2 => ?_⟩
      have O2 := O1.new (o := .tup [.str "bring", .str "home"]) hq2
      have hda2 : SqT K _ da [.str wd, .int (nn : Nat)] := SqT.of (O2.mem (List.mem_cons_of_mem _ (List.mem_cons_of_mem _ hda0)))
      refine ⟨q2, _, rfl, .inr (SqT.of O2.a0), rfl, rfl, true, by rw [h2]; rfl, iteT ?_⟩
      refine ⟨_, rfl, da, _, 1, .int (nn : Nat), rfl, rfl, hda2, rfl, _, _, rfl, rfl, ⟨by decide, by decide⟩, _, _, rfl, rfl, nn, 0, 15, rfl, ?_⟩
      rw [decide_eq_true (by omega)]
      exact k _ O2.tail.tail
theorem ok_passed (T : Txt K mg) : FnOk P w K mg base CX0 7 (He.fAd K ("passed", none)) T.fd_passed ["rule", "asks"] (spPassed K) := by
  have G_is_rule := ok_is_rule (P := P) (w := w) (base := base) T
  have G_is_ask := ok_is_ask (P := P) (w := w) (base := base) T
  have G_sent := ok_sent (P := P) (w := w) (base := base) T
  refine okOf T.F_passed sc_passed (fun vs H Q E h => ?_) (fun cdv A outer s H vs Q E hr h => ?_)
  · obtain ⟨_, _, _, _, _, rfl, _⟩ := h
    rfl
  · obtain ⟨ra, pa, u, asks, R, rfl, hu, hra, haok, hal, hat, O, k⟩ := h
    obtain ⟨aas, haal, hpa, hget⟩ := hat.get
    refine ⟨_, (pss_cons (ps_if (pt_not (pt_val (pe_call G_is_rule (hr.mono (by omega)) rfl T.g_is_rule T.k_is_rule T.b_is_rule .nil pass0 (pa_cons (pv 0) pa_nil)))) (pss_one ps_never) pss_nil) (pss_cons (ps_for PassesOwn.never rfl (pi_enum (by rfl) T.n_enumerate (pa_cons (pv 1) pa_nil)) (pg_tup (by rfl) (pgs_cons (pg_name (i := 2) sc_passed.nd rfl (Or.inl rfl)) (pgs_cons (pg_name (i := 3) sc_passed.nd rfl (Or.inl rfl)) pgs_nil))) (pss_one (ps_if (PW.pt (pw_or (pt_cmpR op_ge (pv 2) (pe_globI rfl T.g_MOST_ASKS) (nomark _)) (pw_or1 (pt_not (pt_val (pe_call G_is_ask (hr.mono (by omega)) rfl T.g_is_ask T.k_is_ask T.b_is_ask .nil pass0 (pa_cons (pv 3) pa_nil))))))) (pss_one ps_never) pss_nil))) (pss_one (ps_ret (pe_call G_sent (hr.mono (by omega)) rfl T.g_sent T.k_sent T.b_sent .nil pass0 (pa_cons (pv 0) (pa_cons (pv 1) pa_nil))))))), ?_⟩
    refine ⟨_, rfl, ra, u, rfl, hu, O.mem hra, true, rfl, iteF ?_⟩
    refine ⟨_, rfl, pa, _, rfl, SqL.of (O.mem hpa), ?_⟩
    refine for_enum (K := K) (a := pa) (xs := aas.map V.ref) (fun i σ H' => (∃ v1 v2, σ = [some (.ref ra), some (.ref pa), v1, v2]) ∧ Own H' R) ⟨⟨none, none, rfl⟩, O⟩ (fun i σ H' _ ⟨_, O'⟩ => SqL.of (O'.mem hpa)) ?_ ?_
    · rintro i x σ H1 p hi ⟨⟨v1, v2, rfl⟩, O1⟩ hp
      obtain ⟨a, d, rfl, _, hd1, hd2⟩ := hget hi
      have hil : i < asks.length := (List.getElem?_eq_some_iff.mp hd1).1
      have O2 := O1.new (o := .tup [.int (i : Nat), .ref a]) hp
      refine ⟨p, _, rfl, SqT.of O2.a0, rfl, _, _, rfl, _, _, rfl, rfl, ?_⟩
      refine ⟨_, rfl, i, 400, rfl, rfl, false, ?_, iteF ?_⟩
      · show V.bl (decide ((400 : Int) ≤ (i : Int))) = V.bl false
        rw [decide_eq_false (by omega)]
      · exact ⟨_, rfl, a, d, _, rfl, haok d (List.mem_of_getElem? hd1), List.mem_cons_of_mem _ hd2, O2, fun H3 O3 => ⟨true, rfl, iteF ⟨⟨_, _, rfl⟩, O3.tail⟩⟩⟩
    · rintro σ H1 ⟨⟨v1, v2, rfl⟩, O1⟩
      exact ⟨_, rfl, _, rfl, ra, pa, u, asks, R, rfl, hu, hra, haok, hal, hat, O1, k⟩
end
-- WwO1
/-! ### the law's own rooms: cells -/
structure OLn where
  a : Addr
  na : Addr
  l : Ln
def olnC (l : OLn) : List Cell := [(l.a, .lst [.int l.l.b, .ref l.na, .bl l.l.d]), (l.na, .lst (l.l.ns.map V.int))]
def olnsC : List OLn → List Cell
  | [] => []
  | l :: r => olnC l ++ olnsC r
def ostC (s : Addr × List OLn) : List Cell := (s.1, .lst (s.2.map fun l => V.ref l.a)) :: olnsC s.2
def ostsC : List (Addr × List OLn) → List Cell
  | [] => []
  | s :: r => ostC s ++ ostsC r
theorem olns_mem : ∀ {ls : List OLn} {i : Nat} {l : OLn}, ls[i]? = some l → ∀ c ∈ olnC l, c ∈ olnsC ls
  | [], i, l, h, c, hc => by simp at h
  | a :: r, 0, l, h, c, hc => by
    have e : a = l := by simpa using h
    rw [e]
    exact List.mem_append_left _ hc
  | a :: r, i + 1, l, h, c, hc => List.mem_append_right _ (olns_mem (by simpa using h) c hc)
theorem olns_app : ∀ (ls r : List OLn), olnsC (ls ++ r) = olnsC ls ++ olnsC r
  | [], r => rfl
  | a :: ls, r => by
    show olnC a ++ olnsC (ls ++ r) = (olnC a ++ olnsC ls) ++ olnsC r
    rw [olns_app ls r, List.append_assoc]
theorem olns_focus : ∀ {ls : List OLn} {i : Nat} {l : OLn}, ls[i]? = some l → (olnsC ls).Perm (olnC l ++ olnsC (ls.eraseIdx i))
  | [], i, l, h => by simp at h
  | a :: r, 0, l, h => by
    have e : a = l := by simpa using h
    rw [e]
    exact List.Perm.refl _
  | a :: r, i + 1, l, h => by
    have ih := olns_focus (ls := r) (i := i) (l := l) (by simpa using h)
    show (olnC a ++ olnsC r).Perm (olnC l ++ (olnC a ++ olnsC (r.eraseIdx i)))
    refine (List.Perm.append_left _ ih).trans ?_
    walk_at "perm"
theorem olns_set : ∀ {ls : List OLn} {i : Nat} {l : OLn}, i < ls.length → (olnsC (ls.set i l)).Perm (olnC l ++ olnsC (ls.eraseIdx i))
  | [], i, l, h => by simp at h
  | a :: r, 0, l, h => List.Perm.refl _
  | a :: r, i + 1, l, h => by
    have ih := olns_set (ls := r) (i := i) (l := l) (by simpa using h)
    show (olnC a ++ olnsC (r.set i l)).Perm (olnC l ++ (olnC a ++ olnsC (r.eraseIdx i)))
    refine (List.Perm.append_left _ ih).trans ?_
    walk_at "perm"
theorem olns_touch {lt : Bool} {ls : List OLn} {i : Nat} (h : i < ls.length) : (olnsC (touchL lt ls i)).Perm (olnsC ls) := by
  unfold touchL
  split
  · rw [olns_app, List.getElem?_eq_getElem h]
    refine List.Perm.trans ?_ (olns_focus (List.getElem?_eq_getElem h)).symm
    show (olnsC (ls.eraseIdx i) ++ (olnC ls[i] ++ [])).Perm _
    walk_at "perm"
  · exact List.Perm.refl _
theorem osts_focus : ∀ {ss : List (Addr × List OLn)} {i : Nat} {s : Addr × List OLn}, ss[i]? = some s → (ostsC ss).Perm (ostC s ++ ostsC (ss.eraseIdx i))
  | [], i, s, h => by simp at h
  | a :: r, 0, s, h => by
    have e : a = s := by simpa using h
    rw [e]
    exact List.Perm.refl _
  | a :: r, i + 1, s, h => by
    have ih := osts_focus (ss := r) (i := i) (s := s) (by simpa using h)
    show (ostC a ++ ostsC r).Perm (ostC s ++ (ostC a ++ ostsC (r.eraseIdx i)))
    refine (List.Perm.append_left _ ih).trans ?_
    walk_at "perm"
theorem osts_set : ∀ {ss : List (Addr × List OLn)} {i : Nat} {s : Addr × List OLn}, i < ss.length → (ostsC (ss.set i s)).Perm (ostC s ++ ostsC (ss.eraseIdx i))
  | [], i, s, h => by simp at h
  | a :: r, 0, s, h => List.Perm.refl _
  | a :: r, i + 1, s, h => by
    have ih := osts_set (ss := r) (i := i) (s := s) (by simpa using h)
    show (ostC a ++ ostsC (r.set i s)).Perm (ostC s ++ (ostC a ++ ostsC (r.eraseIdx i)))
    refine (List.Perm.append_left _ ih).trans ?_
    walk_at "perm"
theorem orefs_set {ls : List OLn} {i : Nat} {l l' : OLn} (h : ls[i]? = some l) (e : l'.a = l.a) : (ls.set i l').map (fun l => V.ref l.a) = ls.map fun l => V.ref l.a := by
  apply List.ext_getElem?
  intro j
  rw [List.getElem?_map, List.getElem?_map]
  by_cases q : i = j
  · subst q
    rw [List.getElem?_set_self (List.getElem?_eq_some_iff.mp h).1, h]
    show some (V.ref l'.a) = some (V.ref l.a)
    rw [e]
  · rw [List.getElem?_set_ne q]
theorem ost_focus {sa : Addr} {ls : List OLn} {i : Nat} {l : OLn} (h : ls[i]? = some l) : (ostC (sa, ls)).Perm (olnC l ++ ((sa, .lst (ls.map fun l => V.ref l.a)) :: olnsC (ls.eraseIdx i))) := by
  unfold ostC
  refine (List.Perm.cons _ (olns_focus h)).trans ?_
  walk_at "perm"
theorem ost_back {sa : Addr} {ls : List OLn} {i : Nat} {l l' : OLn} (h : ls[i]? = some l) (e : l'.a = l.a) : (olnC l' ++ ((sa, .lst (ls.map fun l => V.ref l.a)) :: olnsC (ls.eraseIdx i))).Perm (ostC (sa, ls.set i l')) := by
  have hi : i < ls.length := (List.getElem?_eq_some_iff.mp h).1
  unfold ostC
  dsimp only
  rw [orefs_set h e]
  refine List.Perm.trans ?_ (List.Perm.cons _ (olns_set hi)).symm
  walk_at "perm"
/-! ### what stays: the dicts, the rules -/
structure Fx where
  h : Addr
  rl : Addr
  rd : Addr
  fl : Addr
  lg : Addr
  us : List Rul
  m : Nat
  es : List ((Nat × Nat) × Addr)
def fxH (f : Fx) : List (Key × V) := [(Sum.inr "rules", .ref f.rl), (Sum.inr "hands", .int f.m), (Sum.inr "rooms", .ref f.rd), (Sum.inr "far", .ref f.fl), (Sum.inr "log", .ref f.lg)]
def keyOf (lev hand : Nat) : List Key := [Sum.inl (lev : Int), Sum.inl (hand : Int)]
def fxE (es : List ((Nat × Nat) × Addr)) : List (List Key × V) := es.map fun e => (keyOf e.1.1 e.1.2, .ref e.2)
structure FxAt (f : Fx) (R : List Cell) : Prop where
  h : (f.h, HO.dK (fxH f)) ∈ R
  rd : (f.rd, HO.dT (fxE f.es)) ∈ R
  ru : RulesAt R f.rl f.us
  ok : RulesOk f.us
theorem RulesAt.mono {R R' : List Cell} {rl : Addr} {us : List Rul} (h : RulesAt R rl us) (hs : ∀ c ∈ R, c ∈ R') : RulesAt R' rl us := by
  obtain ⟨ras, h1, h2⟩ := h
  exact ⟨ras, hs _ h1, h2.mono hs⟩
theorem FxAt.mono {f : Fx} {R R' : List Cell} (h : FxAt f R) (hs : ∀ c ∈ R, c ∈ R') : FxAt f R' := ⟨hs _ h.h, hs _ h.rd, h.ru.mono hs, h.ok⟩
def KeyAt (R : List Cell) (ka : Addr) (lev hand : Nat) : Prop := (ka, HO.tup [.int lev, .int hand]) ∈ R
theorem KeyAt.mono {R R' : List Cell} {ka : Addr} {lev hand : Nat} (h : KeyAt R ka lev hand) (hs : ∀ c ∈ R, c ∈ R') : KeyAt R' ka lev hand := hs _ h
/-- the set of a block -/
def OSet (f : Fx) (lev hand b : Nat) (sa : Addr) (R : List Cell) : Prop := ∃ (sl : Addr) (sas : List Addr) (u : Rul), valV (fxE f.es) (keyOf lev hand) = some (.ref sl) ∧ (sl, HO.lst (sas.map V.ref)) ∈ R ∧ f.us[lev]? = some u ∧ sas.length = u.s ∧ sas[b % u.s]? = some sa
theorem OSet.mono {f : Fx} {lev hand b : Nat} {sa : Addr} {R R' : List Cell} (h : OSet f lev hand b sa R) (hs : ∀ c ∈ R, c ∈ R') : OSet f lev hand b sa R' := by
  obtain ⟨sl, sas, u, h1, h2, h3⟩ := h
  exact ⟨sl, sas, u, h1, hs _ h2, h3⟩
theorem nz1 : ¬ (Sum.inr ("rules" : Str) : Key) = Sum.inr ("hands" : Str) := by decide +kernel
theorem nz2 : ¬ (Sum.inr ("rules" : Str) : Key) = Sum.inr ("rooms" : Str) := by decide +kernel
theorem nz3 : ¬ (Sum.inr ("hands" : Str) : Key) = Sum.inr ("rooms" : Str) := by decide +kernel
theorem nz4 : ¬ (Sum.inr ("rules" : Str) : Key) = Sum.inr ("far" : Str) := by decide +kernel
theorem nz5 : ¬ (Sum.inr ("hands" : Str) : Key) = Sum.inr ("far" : Str) := by decide +kernel
theorem nz6 : ¬ (Sum.inr ("rooms" : Str) : Key) = Sum.inr ("far" : Str) := by decide +kernel
theorem nz7 : ¬ (Sum.inr ("rules" : Str) : Key) = Sum.inr ("log" : Str) := by decide +kernel
theorem nz8 : ¬ (Sum.inr ("hands" : Str) : Key) = Sum.inr ("log" : Str) := by decide +kernel
theorem nz9 : ¬ (Sum.inr ("rooms" : Str) : Key) = Sum.inr ("log" : Str) := by decide +kernel
theorem nz0 : ¬ (Sum.inr ("far" : Str) : Key) = Sum.inr ("log" : Str) := by decide +kernel
section
variable {f : Fx} {R : List Cell} {H : Hp}
theorem FxAt.gRules (h : FxAt f R) (hH : H f.h = some (.dK (fxH f))) : DGet H f.h (.str "rules") (some (.ref f.rl)) := by
  have := DGet.k (k := Sum.inr "rules") hH
  rwa [show valV (fxH f) (Sum.inr "rules") = some (V.ref f.rl) from valV_pos rfl] at this
theorem FxAt.gHands (h : FxAt f R) (hH : H f.h = some (.dK (fxH f))) : DGet H f.h (.str "hands") (some (.int f.m)) := by
  have := DGet.k (k := Sum.inr "hands") hH
  rwa [show valV (fxH f) (Sum.inr "hands") = some (V.int f.m) from (valV_neg nz1).trans (valV_pos rfl)] at this
theorem FxAt.gRooms (h : FxAt f R) (hH : H f.h = some (.dK (fxH f))) : DGet H f.h (.str "rooms") (some (.ref f.rd)) := by
  have := DGet.k (k := Sum.inr "rooms") hH
  rwa [show valV (fxH f) (Sum.inr "rooms") = some (V.ref f.rd) from (valV_neg nz2).trans ((valV_neg nz3).trans (valV_pos rfl))] at this
theorem FxAt.gFar (h : FxAt f R) (hH : H f.h = some (.dK (fxH f))) : DGet H f.h (.str "far") (some (.ref f.fl)) := by
  have := DGet.k (k := Sum.inr "far") hH
  rwa [show valV (fxH f) (Sum.inr "far") = some (V.ref f.fl) from (valV_neg nz4).trans ((valV_neg nz5).trans ((valV_neg nz6).trans (valV_pos rfl)))] at this
theorem FxAt.gLog (h : FxAt f R) (hH : H f.h = some (.dK (fxH f))) : DGet H f.h (.str "log") (some (.ref f.lg)) := by
  have := DGet.k (k := Sum.inr "log") hH
  rwa [show valV (fxH f) (Sum.inr "log") = some (V.ref f.lg) from (valV_neg nz7).trans ((valV_neg nz8).trans ((valV_neg nz9).trans ((valV_neg nz0).trans (valV_pos rfl))))] at this
theorem key_get {ka : Addr} {lev hand : Nat} {v : V} (hr : H f.rd = some (.dT (fxE f.es))) (hk : H ka = some (.tup [.int lev, .int hand])) (hv : valV (fxE f.es) (keyOf lev hand) = some v) : DGet H f.rd (.ref ka) (some v) := by
  have := DGet.t (k := keyOf lev hand) hr (b := ka) hk
  rwa [hv] at this
end
theorem RulesAt.at {R : List Cell} {rl : Addr} {us : List Rul} (h : RulesAt R rl us) {i : Nat} {u : Rul} (hu : us[i]? = some u) : ∃ (ras : List Addr) (ua : Addr), (rl, HO.lst (ras.map V.ref)) ∈ R ∧ atI (ras.map V.ref) (i : Int) = some (.ref ua) ∧ (ua, HO.tup u.vs) ∈ R := by
  obtain ⟨ras, h1, h2⟩ := h
  have hl := h2.len
  have hi : i < ras.length := by
    have := (List.getElem?_eq_some_iff.mp hu).1
    omega
  obtain ⟨u', e1, e2⟩ := h2.get (List.getElem?_eq_getElem hi)
  rw [hu] at e1
  have e3 : u = u' := Option.some.inj e1
  subst e3
  refine ⟨ras, ras[i], h1, ?_, e2⟩
  exact atI_nat (by rw [List.getElem?_map, List.getElem?_eq_getElem hi]; rfl)
def atV (b : Nat) (ls : List Ln) : V := match fnd b ls with
  | none => .non
  | some i => .int i
def spOSpot (K : PySem.W.Frag) : Sp := fun vs H Q _ => ∃ (f : Fx) (ka : Addr) (lev hand b : Nat) (sa : Addr) (ls : List OLn) (R : List Cell), vs = [.ref f.h, .ref ka, .int b] ∧ FxAt f R ∧ KeyAt R ka lev hand ∧ OSet f lev hand b sa R ∧ ls.length ≤ 4 ∧ Own H (ostC (sa, ls) ++ R) ∧
  ∀ (p : Addr) (H' : Hp), Own H' ((p, .tup [.ref sa, atV b (ls.map (·.l))]) :: (ostC (sa, ls) ++ R)) → Q (.ref p) H'
/-- the key of a room behind; None if there is none -/
def KvAt (R : List Cell) (lev : Nat) (kv : V) : Nat → Prop
  | 0 => kv = .non
  | _ + 1 => ∃ ka, kv = .ref ka ∧ KeyAt R ka lev 0
theorem KvAt.mono {R R' : List Cell} {lev : Nat} {kv : V} : ∀ {n : Nat}, KvAt R lev kv n → (∀ c ∈ R, c ∈ R') → KvAt R' lev kv n
  | 0, h, _ => h
  | _ + 1, ⟨ka, e, h⟩, hs => ⟨ka, e, hs _ h⟩
def spOBehind (K : PySem.W.Frag) : Sp := fun vs H Q _ => ∃ (f : Fx) (ka : Addr) (lev hand n : Nat) (R : List Cell), vs = [.ref f.h, .ref ka] ∧ lev + 1 + n = f.us.length ∧ FxAt f R ∧ KeyAt R ka lev hand ∧ Own H R ∧
  ∀ (kv : V) (N : List Cell) (H' : Hp), KvAt N (lev + 1) kv n → Own H' (N ++ R) → Q kv H'
theorem fnd_step {b : Nat} {ls : List Ln} {t : Nat} {l : Ln} (hl : ls[t]? = some l) (is : List Nat) (h : match fnd b ls with | none => is = [] | some i => if i < t then is.head? = some i else is = []) :
    (l.b = b → match fnd b ls with | none => is ++ [t] = [] | some i => if i < t + 1 then (is ++ [t]).head? = some i else is ++ [t] = []) ∧ (l.b ≠ b → match fnd b ls with | none => is = [] | some i => if i < t + 1 then is.head? = some i else is = []) := by
  cases e : fnd b ls with
  | none =>
    refine ⟨fun q => absurd q (fnd_none e l (List.mem_of_getElem? hl)), fun _ => ?_⟩
    rw [e] at h
    exact h
  | some i =>
    rw [e] at h
    dsimp only at h ⊢
    obtain ⟨l2, h2, h3, h4⟩ := fnd_some e
    by_cases hit : i < t
    · rw [if_pos hit] at h
      refine ⟨fun _ => ?_, fun _ => ?_⟩
      · rw [if_pos (by omega)]
        cases is with
        | nil => simp at h
        | cons a r => simpa using h
      · rw [if_pos (by omega)]
        exact h
    · rw [if_neg hit] at h
      subst h
      refine ⟨fun q => ?_, fun q => ?_⟩
      · have : i = t := by
          rcases Nat.lt_or_ge t i with z | z
          · exact absurd q (h4 t l z hl)
          · omega
        subst this
        rw [if_pos (by omega)]
        rfl
      · have : ¬ i < t + 1 := fun z => by
          have : i = t := by omega
          subst this
          rw [hl] at h2
          have : l = l2 := Option.some.inj h2
          subst this
          exact q h3
        rw [if_neg this]
section
variable {P : Program} {w : World} {K : PySem.W.Frag} {mg : Str → Option Value} {base : Heap} {n lv : Nat}
theorem ok_o_spot (T : Txt K mg) : FnOk P w K mg base CX0 1 (He.fAd K ("_law_spot", none)) T.fd__law_spot ["_law_h", "_law_key", "_law_block"] (spOSpot K) := by
  refine okOf T.F__law_spot sc__law_spot (fun vs H Q E h => ?_) (fun cdv A outer s H vs Q E hr h => ?_)
  · obtain ⟨_, _, _, _, _, _, _, _, rfl, _⟩ := h
    rfl
  · obtain ⟨f, ka, lev, hand, b, sa, ls, R, rfl, hf, hka, ⟨sl, sas, u, hv, hsl, hu, hsu, hsa⟩, hl4, O, k⟩ := h
    have hH : H f.h = some (.dK (fxH f)) := O.mem (List.mem_append_right _ hf.h)
    have hR : H f.rd = some (.dT (fxE f.es)) := O.mem (List.mem_append_right _ hf.rd)
    have hK : H ka = some (.tup [.int lev, .int hand]) := O.mem (List.mem_append_right _ hka)
    obtain ⟨ras, ua, hra, hai, hua⟩ := hf.ru.at hu
    have hus : 0 < u.s := by
      have := (hf.ok.ok u (List.mem_of_getElem? hu)).s
      omega
    refine ⟨_, (pss_cons (ps_set (i := 3) sc__law_spot.nd rfl (Or.inr rfl) (pe_ix ix_list (pe_dget (hu_of hr) (pe_dget (hu_of hr) (pv 0) pe_str (fun _ _ => rfl)) (pv 1) (fun _ _ => rfl)) (pe_op op_mod (pv 2) (pe_ix ix_tup (pe_ix ix_list (pe_dget (hu_of hr) (pv 0) pe_str (fun _ _ => rfl)) (pe_ix ix_tup (pv 1) pe_int (fun _ _ => rfl)) (fun _ _ => rfl)) pe_int (fun _ _ => rfl))) (fun _ _ => rfl))) (pss_cons (ps_setLc (i := 4) (tt := (tTest (tOp rEq (tOp (rIxL K) (tOp (rIxL K) (tVar 3) (tVar 5)) (tC (.int 0))) (tVar 2)))) (own := [("_law_k", 5)]) (by rfl) sc__law_spot.nd rfl rfl (sw_true rfl rfl rfl (by decide +kernel)) (pi_range1 (by rfl) T.n_range (pa_cons (pe_callB call_len_seq (by rfl) T.n_len PySem.boot_len (pa_cons (pv 3) pa_nil)) pa_nil)) (blkOk_by (own := [("_law_k", 5)]) (by kernel_rfl)) (fun _ _ _ _ _ => (pg_name (i := 5) sc__law_spot.nd rfl (Or.inl rfl))) (fun _ _ _ _ _ => (pts_one (pt_cmpR op_eq (pe_ix ix_list (pe_ix ix_list (pv 3) (pv 5) (fun _ _ => rfl)) pe_int (fun _ _ => rfl)) (pv 2) (nomark _)))) (fun _ _ _ _ _ => (pv 5))) (pss_one (ps_ret (pe_tup (pa_cons (pv 3) (pa_cons (pe_ifExp (pt_cmpR (op_neD hr.units) (pv 4) (pe_lst pa_nil) (nomark _)) (pe_ix ix_list (pv 4) pe_int (fun _ _ => rfl)) pe_non) pa_nil))))))), ?_⟩
    refine ⟨_, rfl, f.h, _, rfl, hf.gRooms hH, _, rfl, f.rd, _, rfl, key_get hR hK hv, _, rfl, _, rfl, f.h, _, rfl, hf.gRules hH, _, rfl, ka, _, 0, .int lev, rfl, rfl, SqT.of hK, rfl, f.rl, _, lev, .ref ua, rfl, rfl, SqL.of (O.mem (List.mem_append_right _ hra)), hai, ua, _, 0, .int u.s, rfl, rfl, SqT.of (O.mem (List.mem_append_right _ hua)), rfl, b, u.s, rfl, rfl, (by show (0 : Int) < (u.s : Int); omega), ?_⟩
    have emod : (b : Int) % (u.s : Int) = ((b % u.s : Nat) : Int) := (Int.natCast_emod b u.s).symm
    refine ⟨sl, _, _, .ref sa, rfl, rfl, SqL.of (O.mem (List.mem_append_right _ hsl)), by rw [emod]; exact atI_nat (by rw [List.getElem?_map, hsa]; rfl), ?_⟩
    refine ⟨_, rfl, sa, _, rfl, .inl (SqL.of O.a0), ((ls.map fun l => V.ref l.a).length : Int), rfl, by omega, by rw [List.length_map]; omega, fun D hD => ?_⟩
    refine lc_range (lo := 0) (n := (ls.map fun l => V.ref l.a).length) (fun t H' => ∃ is : List Nat, is.length ≤ t ∧ (match fnd b (ls.map (·.l)) with | none => is = [] | some i => if i < t then is.head? = some i else is = []) ∧ Own H' ((D, .lst (is.map fun i => V.int (i : Nat))) :: (ostC (sa, ls) ++ R)))
      ⟨[], Nat.le_refl _, ?_, O.new hD⟩ ?_ ?_
    · cases fnd b (ls.map (·.l)) with
      | none => rfl
      | some i =>
        show if i < 0 then _ else _
        rw [if_neg (Nat.not_lt_zero i)]
    · rintro t H1 ht ⟨is, hil, hj, O1⟩
      rw [List.length_map] at ht
      have hl := List.getElem?_eq_getElem ht
      generalize ls[t] = l at hl
      have e0 : (0 : Int) + (t : Int) = ((t : Nat) : Int) := by omega
      rw [e0]
      have hla : SqL K H1 l.a [.int l.l.b, .ref l.na, .bl l.l.d] := SqL.of (O1.mem (List.mem_cons_of_mem _ (List.mem_append_left _ (List.mem_cons_of_mem _ (olns_mem hl _ List.mem_cons_self)))))
      obtain ⟨j1, j2⟩ := fnd_step (b := b) (ls := ls.map (·.l)) (t := t) (l := l.l) (by rw [List.getElem?_map, hl]; rfl) is hj
      refine ⟨rfl, _, rfl, _, rfl, sa, _, t, .ref l.a, rfl, rfl, SqL.of O1.a1, atI_nat (by rw [List.getElem?_map, hl]; rfl), l.a, _, 0, .int l.l.b, rfl, rfl, hla, rfl, _, rfl, rfl, decide (l.l.b = b), ?_, ?_⟩
      · refine congrArg V.bl ?_
        by_cases q : l.l.b = b
        · rw [q, decide_eq_true rfl, decide_eq_true rfl]
        · rw [decide_eq_false q, decide_eq_false (fun z => q (by injection z with z; omega))]
      by_cases q : l.l.b = b
      · rw [decide_eq_true q]
        refine iteT ⟨_, rfl, _, O1.a0, by rw [List.length_map]; exact size1 (by omega), is ++ [t], by rw [List.length_append]; simp; omega, j1 q, ?_⟩
        rw [List.map_append]
        exact O1.set
      · rw [decide_eq_false q]
        exact iteF ⟨is, by omega, j2 q, O1⟩
    · rintro H1 ⟨is, hil, hj, O1⟩
      have hlt : ∀ i, fnd b (ls.map (·.l)) = some i → i < (ls.map fun l => V.ref l.a).length := fun i e => by
        have := fnd_lt e
        rw [List.length_map] at this ⊢
        exact this
      refine ⟨_, rfl, _, rfl, by show 0 ≤ sizeLine; decide, fun e1 he1 => ?_⟩
      have O2 := O1.new (o := .lst []) he1
      have hsq : SqL K _ D (is.map fun i => V.int (i : Nat)) := SqL.of O2.a1
      cases ef : fnd b (ls.map (·.l)) with
      | none =>
        rw [ef] at hj
        have hj : is = [] := hj
        subst hj
        refine ⟨.list [], .list [], .lst hsq .nil, .lst (SqL.of O2.a0) .nil, sh0, sh0, false, by rw [not_eqv_nil], iteF ?_⟩
        refine ⟨by show 2 ≤ sizeLine; decide, fun p hp => ?_⟩
        have O3 := O2.new (o := .tup [.ref sa, .non]) hp
        have ea : atV b (ls.map (·.l)) = .non := by unfold atV; rw [ef]
        rw [ea] at k
        exact k p _ (Own.right (L' := [(e1, .lst []), (D, .lst (([] : List Nat).map fun i => V.int (i : Nat)))]) (O3.perm (by walk_at "perm")))
      | some i =>
        rw [ef] at hj
        dsimp only at hj
        rw [if_pos (hlt i ef)] at hj
        obtain ⟨r, rfl⟩ : ∃ r, is = i :: r := by
          cases is with
          | nil => simp at hj
          | cons a r =>
            have : a = i := by simpa using hj
            exact ⟨r, by rw [this]⟩
        have hdp : Dp K _ (.ref D) (.list ((i :: r).map fun i : Nat => PyData.int (i : Nat))) := .lst hsq (by
          have := dpInts (K := K) (H := upd H1 e1 (.lst [])) (((i :: r).map fun i : Nat => ((i : Nat) : Int)))
          rw [List.map_map, List.map_map] at this
          exact this)
        have hsh : SeqAt.shaped (.list ((i :: r).map fun i : Nat => PyData.int (i : Nat))) = true := by
          have := PySem.W.shaped_ints ((i :: r).map fun i : Nat => ((i : Nat) : Int))
          rw [List.map_map] at this
          exact this
        refine ⟨_, .list [], hdp, .lst (SqL.of O2.a0) .nil, hsh, sh0, true, rfl, iteT ?_⟩
        refine ⟨_, rfl, D, _, 0, .int (i : Nat), rfl, rfl, hsq, atI_nat (j := 0) rfl, by show 2 ≤ sizeLine; decide, fun p hp => ?_⟩
        have O3 := O2.new (o := .tup [.ref sa, .int (i : Nat)]) hp
        have ea : atV b (ls.map (·.l)) = .int (i : Nat) := by unfold atV; rw [ef]
        rw [ea] at k
        exact k p _ (Own.right (L' := [(e1, .lst []), (D, .lst ((i :: r).map fun i => V.int (i : Nat)))]) (O3.perm (by walk_at "perm")))
theorem ok_o_behind (T : Txt K mg) : FnOk P w K mg base CX0 1 (He.fAd K ("_law_behind", none)) T.fd__law_behind ["_law_h", "_law_key"] (spOBehind K) := by
  refine okOf T.F__law_behind sc__law_behind (fun vs H Q E h => ?_) (fun cdv A outer s H vs Q E hr h => ?_)
  · obtain ⟨_, _, _, _, _, _, rfl, _⟩ := h
    rfl
  · obtain ⟨f, ka, lev, hand, n, R, rfl, hn, hf, hka, O, k⟩ := h
    have hH : H f.h = some (.dK (fxH f)) := O.mem hf.h
    have hK : H ka = some (.tup [.int lev, .int hand]) := O.mem hka
    obtain ⟨ras, hra1, hra2⟩ := hf.ru
    have hral := hra2.len
    refine ⟨_, (pss_one (ps_ret (pe_ifExp (pt_cmpR op_lt (pe_op op_add (pe_ix ix_tup (pv 1) pe_int (fun _ _ => rfl)) pe_int) (pe_callB call_len_seq (by rfl) T.n_len PySem.boot_len (pa_cons (pe_dget (hu_of hr) (pv 0) pe_str (fun _ _ => rfl)) pa_nil)) (nomark _)) (pe_tup (pa_cons (pe_op op_add (pe_ix ix_tup (pv 1) pe_int (fun _ _ => rfl)) pe_int) (pa_cons pe_int pa_nil))) pe_non))), ?_⟩
    refine ⟨_, rfl, ka, _, 0, .int lev, rfl, rfl, SqT.of hK, rfl, _, _, rfl, rfl, _, rfl, f.h, _, rfl, hf.gRules hH, f.rl, _, rfl, .inl (SqL.of (O.mem hra1)), _, _, rfl, rfl, _, rfl, ?_⟩
    refine ite2 (fun e => ?_) (fun e => ?_)
    · have e1 := of_decide_eq_true e
      rw [List.length_map, hral] at e1
      obtain ⟨n, rfl⟩ : ∃ n', n = n' + 1 := ⟨n - 1, by omega⟩
      refine ⟨_, rfl, ka, _, 0, .int lev, rfl, rfl, SqT.of hK, rfl, _, _, rfl, rfl, by show 2 ≤ sizeLine; decide, fun p hp => ?_⟩
      have O1 := O.new (o := .tup [.int ((lev : Int) + 1), .int 0]) hp
      exact k (.ref p) [(p, .tup [.int ((lev : Int) + 1), .int 0])] _ ⟨p, rfl, List.mem_cons_self⟩ O1
    · have e1 : n = 0 := by
        rcases Nat.eq_zero_or_pos n with z | z
        · exact z
        · exact absurd (decide_eq_true (by rw [List.length_map, hral]; omega)) e
      subst e1
      exact k .non [] H rfl O
end
-- WwO2
/-! ### rooms of the law's own, one behind the other -/
def ruOf (u : Rul) (lev hand : Nat) : Ru := ⟨u.w, u.bk, u.inn, u.lt, [.int lev, .int hand]⟩
def ORm (f : Fx) (lev hand : Nat) (r : Rm) (C : List Cell) : Prop := ∃ (sl : Addr) (ss : List (Addr × List OLn)) (u : Rul), valV (fxE f.es) (keyOf lev hand) = some (.ref sl) ∧ f.us[lev]? = some u ∧ r.ru = ruOf u lev hand ∧ ss.length = u.s ∧ r.ss = ss.map (fun s => s.2.map (·.l)) ∧ C = (sl, .lst (ss.map fun s => V.ref s.1)) :: ostsC ss
def ORep (f : Fx) : Nat → List Rm → List Cell → Prop
  | _, [], C => C = []
  | lev, r :: rs, C => ∃ C1 C2 : List Cell, ORm f lev 0 r C1 ∧ ORep f (lev + 1) rs C2 ∧ C = C1 ++ C2
def OT (f : Fx) (lev : Nat) (t : Ta) (C : List Cell) : Prop := ∃ C1 D : List Cell, ORep f lev t.rs C1 ∧ DRep f.lg t.log D ∧ C = C1 ++ ((f.fl, .lst (t.far.map V.int)) :: D)
theorem ORm.at {f : Fx} {lev hand : Nat} {r : Rm} {C : List Cell} (h : ORm f lev hand r C) (h0 : 0 < r.ss.length) (b : Nat) :
    ∃ (sa : Addr) (ls : List OLn) (W : List Cell) (u : Rul), OSet f lev hand b sa W ∧ f.us[lev]? = some u ∧ r.ru = ruOf u lev hand ∧ ls.map (·.l) = r.ls b ∧ C.Perm (ostC (sa, ls) ++ W) ∧
      ∀ ls' : List OLn, ∃ C', ORm f lev hand (r.put b (ls'.map (·.l))) C' ∧ C'.Perm (ostC (sa, ls') ++ W) := by
  obtain ⟨sl, ss, u, h1, h2, h3, h4, h5, rfl⟩ := h
  have hlen : ss.length = r.ss.length := by rw [h5, List.length_map]
  have hk : b % ss.length < ss.length := Nat.mod_lt _ (by omega)
  have hg := List.getElem?_eq_getElem hk
  have ix : r.ix b = b % ss.length := by unfold Rm.ix; rw [hlen]
  refine ⟨ss[b % ss.length].1, ss[b % ss.length].2, (sl, .lst (ss.map fun s => V.ref s.1)) :: ostsC (ss.eraseIdx (b % ss.length)), u, ⟨sl, ss.map (·.1), u, h1, ?_, h2, ?_, ?_⟩, h2, h3, ?_, ?_, fun ls' => ⟨_, ⟨sl, ss.set (b % ss.length) (ss[b % ss.length].1, ls'), u, h1, h2, h3, ?_, ?_, rfl⟩, ?_⟩⟩
  · rw [List.map_map]
    exact List.mem_cons_self
  · rw [List.length_map]
    exact h4
  · rw [← h4, List.getElem?_map, hg]
    rfl
  · unfold Rm.ls
    rw [ix, h5, List.getD_eq_getElem?_getD, List.getElem?_map, hg]
    rfl
  · refine (List.Perm.cons _ (osts_focus hg)).trans ?_
    show ((sl, HO.lst (ss.map fun s => V.ref s.1)) :: (ostC (ss[b % ss.length].1, ss[b % ss.length].2) ++ ostsC (ss.eraseIdx (b % ss.length)))).Perm _
    walk_at "perm"
  · rw [List.length_set]
    exact h4
  · unfold Rm.put
    dsimp only
    rw [ix, h5, List.map_set]
  · have e : (ss.set (b % ss.length) (ss[b % ss.length].1, ls')).map (fun s => V.ref s.1) = ss.map fun s => V.ref s.1 := by
      apply List.ext_getElem?
      intro j
      rw [List.getElem?_map, List.getElem?_map]
      by_cases q : b % ss.length = j
      · rw [← q, List.getElem?_set_self hk, hg]
        rfl
      · rw [List.getElem?_set_ne q]
    rw [e]
    refine (List.Perm.cons _ (osts_set hk)).trans ?_
    walk_at "perm"
def spOHome (K : PySem.W.Frag) (n : Nat) : Sp := fun vs H Q _ => ∃ (f : Fx) (ka : Addr) (lev hand : Nat) (l : OLn) (t : Ta) (C R : List Cell), vs = [.ref f.h, .ref ka, .ref l.a] ∧ lev + 1 + n = f.us.length ∧ LnOk l.l ∧ FxAt f R ∧ KeyAt R ka lev hand ∧ TaOk n t ∧ LBk n 1 t ∧ OT f (lev + 1) t C ∧ Own H (olnC l ++ (C ++ R)) ∧
  ∀ (H' : Hp) (C' : List Cell), OT f (lev + 1) (passH (ops n) [.int lev, .int hand] t l.l.b l.l.ns) C' → Own H' (olnC { l with l := { l.l with d := false } } ++ (C' ++ R)) → Q .non H'
def spOComes (K : PySem.W.Frag) (n : Nat) : Sp := fun vs H Q _ => ∃ (f : Fx) (kv : V) (lev b : Nat) (na : Addr) (ns : List Int) (t : Ta) (C R : List Cell), vs = [.ref f.h, kv, .int b, .ref na] ∧ lev + n = f.us.length ∧ KvAt R lev kv n ∧ b < 16 ∧ ns.length = 4 ∧ FxAt f R ∧ TaOk n t ∧ LB n t ∧ OT f lev t C ∧ Own H ((na, .lst (ns.map V.int)) :: (C ++ R)) ∧
  ∀ (H' : Hp) (C' : List Cell), OT f lev ((ops n).hm t b ns) C' → Own H' (C' ++ R) → Q .non H'
def spOWay (K : PySem.W.Frag) (n : Nat) : Sp := fun vs H Q _ => ∃ (f : Fx) (ka : Addr) (lev hand : Nat) (sa : Addr) (ls : List OLn) (u : Rul) (t : Ta) (C R : List Cell), vs = [.ref f.h, .ref ka, .ref sa] ∧ lev + 1 + n = f.us.length ∧ f.us[lev]? = some u ∧ FxAt f R ∧ KeyAt R ka lev hand ∧ LsOk (ruOf u lev hand) (ls.map (·.l)) ∧ TaOk n t ∧ LBk n 1 t ∧ OT f (lev + 1) t C ∧ Own H (ostC (sa, ls) ++ (C ++ R)) ∧
  ∀ (H' : Hp) (ls' : List OLn) (C' : List Cell), ls'.map (·.l) = (mkWay (ops n) (ruOf u lev hand) (ls.map (·.l)) t).1 → OT f (lev + 1) (mkWay (ops n) (ruOf u lev hand) (ls.map (·.l)) t).2 C' → Own H' (ostC (sa, ls') ++ (C' ++ R)) → Q .non H'
/-- a row of the log -/
theorem OT.log {f : Fx} {lev : Nat} {t : Ta} {C : List Cell} (h : OT f lev t C) : ∃ (as : List Addr) (Z : List Cell), as.length = t.log.length ∧ C.Perm ((f.lg, .lst (as.map V.ref)) :: Z) ∧
    ∀ (p : Addr) (tl : List V) (w : Str) (n : Nat), ∃ C', OT f lev (t.note tl w n) C' ∧ C'.Perm ((f.lg, .lst (as.map V.ref ++ [.ref p])) :: (p, .tup (tl ++ [.str w, .int n])) :: Z) := by
  obtain ⟨C1, D, h1, ⟨as, h2, rfl⟩, rfl⟩ := h
  refine ⟨as, C1 ++ ((f.fl, .lst (t.far.map V.int)) :: logC as t.log), h2, by walk_at "perm", fun p tl w n => ⟨_, ⟨C1, _, h1, ⟨as ++ [p], ?_, rfl⟩, rfl⟩, ?_⟩⟩
  · show (as ++ [p]).length = (t.log ++ [(⟨tl, w, n⟩ : Ent)]).length
    rw [List.length_append, List.length_append, h2]
    rfl
  · show (C1 ++ ((f.fl, HO.lst (t.far.map V.int)) :: (f.lg, .lst ((as ++ [p]).map V.ref)) :: logC (as ++ [p]) (t.log ++ [(⟨tl, w, n⟩ : Ent)]))).Perm _
    rw [log_app p _ h2, List.map_append]
    show (C1 ++ ((f.fl, HO.lst (t.far.map V.int)) :: (f.lg, .lst (as.map V.ref ++ [.ref p])) :: (logC as t.log ++ [(p, .tup (tl ++ [.str w, .int n]))]))).Perm _
    walk_at "perm"
theorem OT.farC {f : Fx} {lev : Nat} {t : Ta} {C : List Cell} (h : OT f lev t C) : ∃ Z : List Cell, C.Perm ((f.fl, .lst (t.far.map V.int)) :: Z) ∧ ∀ far' : List Int, ∃ C', OT f lev { t with far := far' } C' ∧ C'.Perm ((f.fl, .lst (far'.map V.int)) :: Z) := by
  obtain ⟨C1, D, h1, h2, rfl⟩ := h
  exact ⟨C1 ++ D, by walk_at "perm", fun far' => ⟨_, ⟨C1, D, h1, h2, rfl⟩, by walk_at "perm"⟩⟩
theorem OT.uncons {f : Fx} {lev : Nat} {t : Ta} {C : List Cell} {r : Rm} {rs : List Rm} (h : OT f lev t C) (e : t.rs = r :: rs) : ∃ C1 C2 : List Cell, ORm f lev 0 r C1 ∧ OT f (lev + 1) { t with rs := rs } C2 ∧ C = C1 ++ C2 := by
  obtain ⟨C1, D, h1, h2, rfl⟩ := h
  rw [e] at h1
  obtain ⟨C3, C4, h3, h4, rfl⟩ := h1
  exact ⟨C3, _, h3, ⟨C4, D, h4, h2, rfl⟩, List.append_assoc ..⟩
theorem OT.cons {f : Fx} {lev : Nat} {t : Ta} {C1 C2 : List Cell} {r : Rm} (h1 : ORm f lev 0 r C1) (h2 : OT f (lev + 1) t C2) : OT f lev (Ta.cons r t) (C1 ++ C2) := by
  obtain ⟨C3, D, h3, h4, rfl⟩ := h2
  exact ⟨C1 ++ C3, D, ⟨C1, C3, h1, h3, rfl⟩, h4, (List.append_assoc ..).symm⟩
theorem ruOf_ok {u : Rul} (h : RulOk u) (lev hand : Nat) : RuOk (ruOf u lev hand) := ⟨h.w0, h.w4, by show 2 ≤ 4; omega⟩
section
variable {P : Program} {w : World} {K : PySem.W.Frag} {mg : Str → Option Value} {base : Heap} {n lv : Nat}
theorem ok_o_home (T : Txt K mg) (hv : 1 ≤ lv) (G__law_comes : FnOk P w K mg base CX0 lv (He.fAd K ("_law_comes", none)) T.fd__law_comes ["_law_h", "_law_key", "_law_block", "_law_numbers"] (spOComes K n)) :
    FnOk P w K mg base CX0 (lv + 1) (He.fAd K ("_law_home", none)) T.fd__law_home ["_law_h", "_law_key", "_law_line"] (spOHome K n) := by
  have G__law_behind := ok_o_behind (P := P) (w := w) (base := base) T
  refine okOf T.F__law_home sc__law_home (fun vs H Q E h => ?_) (fun cdv A outer s H vs Q E hr h => ?_)
  · obtain ⟨_, _, _, _, _, _, _, _, rfl, _⟩ := h
    rfl
  · obtain ⟨f, ka, lev, hand, l, t, C, R, rfl, hn, hlo, hf, hka, ht, hlb, hC, O, k⟩ := h
    obtain ⟨as, Z, hal, hCp, hnote⟩ := hC.log
    have O0 := O.perm (L' := (f.lg, .lst (as.map V.ref)) :: (olnC l ++ (Z ++ R))) ((List.Perm.append_left _ (List.Perm.append_right _ hCp)).trans (by walk_at "perm"))
    have hH : H f.h = some (.dK (fxH f)) := O.mem (List.mem_append_right _ (List.mem_append_right _ hf.h))
    have hK : H ka = some (.tup [.int lev, .int hand]) := O.mem (List.mem_append_right _ (List.mem_append_right _ hka))
    have hlb2 := hlb.2
    refine ⟨_, (pss_cons (ps_expr (pe_bm PySem.F.plainAttrs_list PySem.F.slot_list_append PySem.F.type_list_append mt_append (pe_dget (hu_of hr) (pv 0) pe_str (fun _ _ => rfl)) (pa_cons (pe_op op_catA (pv 1) (pe_tup (pa_cons pe_str (pa_cons (pe_ix ix_list (pv 2) pe_int (fun _ _ => rfl)) pa_nil)))) pa_nil))) (pss_cons (ps_expr (pe_call G__law_comes (hr.mono (by omega)) rfl T.g__law_comes T.k__law_comes T.b__law_comes .nil pass0 (pa_cons (pv 0) (pa_cons (pe_call G__law_behind (hr.mono (by omega)) rfl T.g__law_behind T.k__law_behind T.b__law_behind .nil pass0 (pa_cons (pv 0) (pa_cons (pv 1) pa_nil))) (pa_cons (pe_ix ix_list (pv 2) pe_int (fun _ _ => rfl)) (pa_cons (pe_callTy call_list_of (by rfl) T.n_list (by decide +kernel) (pa_cons (pe_ix ix_list (pv 2) pe_int (fun _ _ => rfl)) pa_nil)) pa_nil)))))) (pss_one (ps_asg pe_bl (pg_sub (pv 2) pe_int set_list))))), ?_⟩
    refine ⟨_, rfl, f.h, _, rfl, hf.gLog hH, .inl ⟨rfl, _, SqL.of O0.a0⟩, _, rfl, _, rfl, l.a, _, 0, .int l.l.b, rfl, rfl, SqL.of O0.a1, rfl, by show 2 ≤ sizeLine; decide, fun q1 hq1 => ?_⟩
    have O1 := O0.new (o := .tup [.str "home", .int l.l.b]) hq1
    refine ⟨ka, q1, [.int lev, .int hand], [.str "home", .int l.l.b], rfl, rfl, SqT.of (O1.mem (by simp [show (ka, HO.tup [.int lev, .int hand]) ∈ R from hka])), SqT.of O1.a0, by show 4 ≤ sizeLine; decide, (fun z => nomatch z), (fun _ z => nomatch z), fun _ _ q2 hq2 => ?_⟩
    have O2 := O1.new (p := q2) (o := .tup ([.int lev, .int hand] ++ [.str "home", .int l.l.b])) hq2
    refine ⟨f.lg, _, _, rfl, rfl, O2.a2, by rw [List.length_map]; exact size1 (by omega), ?_⟩
    have O3 := (O2.perm (L' := (f.lg, .lst (as.map V.ref)) :: (q1, .tup [.str "home", .int l.l.b]) :: (q2, .tup ([.int lev, .int hand] ++ [.str "home", .int l.l.b])) :: (olnC l ++ (Z ++ R))) (by walk_at "perm")).set (o' := .lst (as.map V.ref ++ [.ref q2]))
    generalize upd _ f.lg _ = H3 at O3 ⊢
    obtain ⟨C1, hC1, hC1p⟩ := hnote q2 [.int lev, .int hand] "home" l.l.b
    have O4 : Own H3 (C1 ++ (olnC l ++ R)) := Own.perm (Own.right (L' := [(q1, .tup [.str "home", .int l.l.b])]) (O3.perm (L' := [(q1, .tup [.str "home", .int l.l.b])] ++ (((f.lg, .lst (as.map V.ref ++ [.ref q2])) :: (q2, .tup ([.int lev, .int hand] ++ [.str "home", .int l.l.b])) :: Z) ++ (olnC l ++ R))) (by walk_at "perm"))) (List.Perm.append_right _ hC1p.symm)
    clear O3 O2 O1 O0
    have hs1 : ∀ c ∈ R, c ∈ C1 ++ (olnC l ++ R) := fun c hc => by simp [hc]
    refine ⟨_, rfl, _, rfl, _, rfl, f, ka, lev, hand, n, C1 ++ (olnC l ++ R), rfl, hn, hf.mono hs1, hs1 _ hka, O4, fun kv N H4 hkv O5 => ?_⟩
    have hl5 : SqL K H4 l.a [.int l.l.b, .ref l.na, .bl l.l.d] := SqL.of (O5.mem (by simp [olnC]))
    refine ⟨_, rfl, l.a, _, 0, .int l.l.b, rfl, rfl, hl5, rfl, _, rfl, l.a, _, 1, .ref l.na, rfl, rfl, hl5, rfl, l.na, _, rfl, .inl (SqL.of (O5.mem (show (l.na, HO.lst (l.l.ns.map V.int)) ∈ _ from by simp [olnC]))), fun q3 hq3 => ?_⟩
    have O6 := O5.new (o := .lst (l.l.ns.map V.int)) hq3
    refine ⟨f, kv, lev + 1, l.l.b, q3, l.l.ns, t.note [.int lev, .int hand] "home" l.l.b, C1, N ++ (olnC l ++ R), rfl, by omega, hkv.mono fun c hc => by simp [hc], hlo.b, hlo.ns, hf.mono fun c hc => by simp [hc], note_ok ht _ _ _, ⟨hlb.1, by rw [note_len]; omega⟩, hC1, O6.perm (by walk_at "perm"), fun H5 C5 hC5 O7 => ?_⟩
    have O8 := O7.perm (L' := (l.a, .lst [.int l.l.b, .ref l.na, .bl l.l.d]) :: (l.na, .lst (l.l.ns.map V.int)) :: (N ++ (C5 ++ R))) (by unfold olnC; walk_at "perm")
    refine ⟨_, rfl, l.a, _, 2, 2, rfl, rfl, O8.a0, rfl, ?_⟩
    have O9 := O8.set (o' := .lst [.int l.l.b, .ref l.na, .bl false])
    exact k _ C5 hC5 (Own.right (L' := N) (O9.perm (by unfold olnC; walk_at "perm")))
theorem ok_o_way (T : Txt K mg) (hv : 1 ≤ lv) (G__law_comes : FnOk P w K mg base CX0 lv (He.fAd K ("_law_comes", none)) T.fd__law_comes ["_law_h", "_law_key", "_law_block", "_law_numbers"] (spOComes K n)) :
    FnOk P w K mg base CX0 (lv + 2) (He.fAd K ("_law_way", none)) T.fd__law_way ["_law_h", "_law_key", "_law_lines"] (spOWay K n) := by
  have G__law_home := ok_o_home T hv G__law_comes
  refine okOf T.F__law_way sc__law_way (fun vs H Q E h => ?_) (fun cdv A outer s H vs Q E hr h => ?_)
  · obtain ⟨_, _, _, _, _, _, _, _, _, _, rfl, _⟩ := h
    rfl
  · obtain ⟨f, ka, lev, hand, sa, ls, u, t, C, R, rfl, hn, hu, hf, hka, hls, ht, hlb, hC, O, k⟩ := h
    have hH : H f.h = some (.dK (fxH f)) := O.mem (List.mem_append_right _ (List.mem_append_right _ hf.h))
    have hK : H ka = some (.tup [.int lev, .int hand]) := O.mem (List.mem_append_right _ (List.mem_append_right _ hka))
    obtain ⟨ras, ua, hra, hai, hua⟩ := hf.ru.at hu
    have hsa : H sa = some (.lst (ls.map fun l => V.ref l.a)) := O.a0
    have huo := hf.ok.ok u (List.mem_of_getElem? hu)
    have hlen := hls.len
    rw [List.length_map] at hlen
    refine ⟨_, (pss_one (ps_if (pt_cmpR op_eq (pe_callB call_len_seq (by rfl) T.n_len PySem.boot_len (pa_cons (pv 2) pa_nil)) (pe_ix ix_tup (pe_ix ix_list (pe_dget (hu_of hr) (pv 0) pe_str (fun _ _ => rfl)) (pe_ix ix_tup (pv 1) pe_int (fun _ _ => rfl)) (fun _ _ => rfl)) pe_int (fun _ _ => rfl)) (nomark _)) (pss_cons (ps_set (i := 3) sc__law_way.nd rfl (Or.inl rfl) (pe_bm PySem.F.plainAttrs_list PySem.F.slot_list_pop PySem.F.type_list_pop mt_popAt (pv 2) (pa_cons pe_int pa_nil))) (pss_one (ps_if (pt_val (pe_ix ix_list (pv 3) pe_int (fun _ _ => rfl))) (pss_one (ps_expr (pe_call G__law_home (hr.mono (by omega)) rfl T.g__law_home T.k__law_home T.b__law_home .nil pass0 (pa_cons (pv 0) (pa_cons (pv 1) (pa_cons (pv 3) pa_nil)))))) pss_nil))) pss_nil)), ?_⟩
    refine ⟨_, rfl, sa, _, rfl, .inl (SqL.of hsa), _, rfl, f.h, _, rfl, hf.gRules hH, _, rfl, ka, _, 0, .int lev, rfl, rfl, SqT.of hK, rfl, f.rl, _, lev, .ref ua, rfl, rfl, SqL.of (O.mem (List.mem_append_right _ (List.mem_append_right _ hra))), hai, ua, _, 1, .int u.w, rfl, rfl, SqT.of (O.mem (List.mem_append_right _ (List.mem_append_right _ hua))), rfl, rfl, _, rfl, ?_⟩
    refine ite2 (fun e => ?_) (fun e => ?_)
    · have el : ls.length = u.w := by
        have := of_decide_eq_true e
        injection this with z
        rw [List.length_map] at z
        omega
      obtain ⟨l, rest, rfl⟩ : ∃ l rest, ls = l :: rest := by
        cases ls with
        | nil =>
          have := huo.w0
          simp at el
          omega
        | cons l rest => exact ⟨l, rest, rfl⟩
      refine ⟨_, rfl, .inl ⟨rfl, _, SqL.of hsa⟩, sa, _, 0, 0, .ref l.a, rfl, rfl, hsa, by decide, by decide, seqIx0 (by simp), rfl, ?_⟩
      have O1 := (O.perm (L' := (sa, .lst ((l :: rest).map fun l => V.ref l.a)) :: (olnC l ++ (olnsC rest ++ (C ++ R)))) (by
        show (((sa, HO.lst ((l :: rest).map fun l => V.ref l.a)) :: (olnC l ++ olnsC rest)) ++ (C ++ R)).Perm _
        walk_at "perm")).set (o' := .lst (rest.map fun l => V.ref l.a))
      have em := mkWay_full (o := ops n) (u := ruOf u lev hand) (l := l.l) (rest := rest.map (·.l)) (t := t) (by rw [List.length_cons, List.length_map]; exact el)
      have k2 := fun H' C' => k H' rest C' (by show _ = (mkWay (ops n) (ruOf u lev hand) (l.l :: rest.map (·.l)) t).1; rw [em])
      have em2 : (mkWay (ops n) (ruOf u lev hand) ((l :: rest).map (·.l)) t).2 = if l.l.d = true then passH (ops n) [.int lev, .int hand] t l.l.b l.l.ns else t := by
        show (mkWay (ops n) (ruOf u lev hand) (l.l :: rest.map (·.l)) t).2 = _
        rw [em]
        rfl
      rw [em2] at k2
      show (fun _ => _) _
      refine ⟨_, rfl, l.a, _, 2, .bl l.l.d, rfl, rfl, SqL.of O1.a1, rfl, _, rfl, ?_⟩
      cases hd : l.l.d with
      | true =>
        rw [hd, if_pos rfl] at k2
        have hlo := hls.ok l.l (by simp)
        refine iteT ⟨_, rfl, _, rfl, _, rfl, f, ka, lev, hand, l, t, C, (sa, .lst (rest.map fun l => V.ref l.a)) :: (olnsC rest ++ R), rfl, hn, hlo, hf.mono fun c hc => by simp [hc], (by simp [KeyAt, show (ka, HO.tup [.int lev, .int hand]) ∈ R from hka]), ht, hlb, hC, O1.perm (by walk_at "perm"), fun H3 C3 hC3 O3 => ?_⟩
        refine k2 _ C3 hC3 (Own.right (L' := olnC { l with l := { l.l with d := false } }) (O3.perm ?_))
        unfold ostC
        walk_at "perm"
      | false =>
        rw [hd, if_neg Bool.false_ne_true] at k2
        refine iteF (k2 _ C hC (Own.right (L' := olnC l) (O1.perm ?_)))
        unfold ostC
        walk_at "perm"
    · have el : ¬ (ls.map (·.l)).length = (ruOf u lev hand).ways := fun z => e (decide_eq_true (by
        rw [List.length_map] at z
        rw [List.length_map, z]
        rfl))
      have em := mkWay_no (o := ops n) (t := t) el
      have k2 := k H ls C
      rw [em] at k2
      exact k2 rfl hC O
theorem ok_o_comes0 (T : Txt K mg) : FnOk P w K mg base CX0 1 (He.fAd K ("_law_comes", none)) T.fd__law_comes ["_law_h", "_law_key", "_law_block", "_law_numbers"] (spOComes K 0) := by
  refine okOf T.F__law_comes sc__law_comes (fun vs H Q E h => ?_) (fun cdv A outer s H vs Q E hr h => ?_)
  · obtain ⟨_, _, _, _, _, _, _, _, _, rfl, _⟩ := h
    rfl
  · obtain ⟨f, kv, lev, b, na, ns, t, C, R, rfl, hn, hkv, hb, hns, hf, ht, hlb, hC, O, k⟩ := h
    obtain rfl : kv = .non := hkv
    obtain ⟨Z, hCp, hfar⟩ := hC.farC
    have hH : H f.h = some (.dK (fxH f)) := O.mem (List.mem_cons_of_mem _ (List.mem_append_right _ hf.h))
    have O0 := O.perm (L' := (na, .lst (ns.map V.int)) :: (f.fl, .lst (t.far.map V.int)) :: (Z ++ R)) (List.Perm.cons _ (List.Perm.append_right _ hCp))
    have hft := ht.far
    refine ⟨_, (pss_cons (ps_if (pt_cmpR op_isN (pv 1) pe_non (nomark _)) (pss_cons (ps_asg (pv 3) (pg_slice (pe_dget (hu_of hr) (pv 0) pe_str (fun _ _ => rfl)) (po_some (pe_op op_mul pe_int (pv 2))) (po_some (pe_op op_add (pe_op op_mul pe_int (pv 2)) pe_int)))) (pss_one ps_retN)) pss_nil) (pss_cons ps_never (pss_cons ps_never (pss_cons ps_never (pss_cons ps_never (pss_cons ps_never (pss_cons ps_never (pss_one ps_never)))))))), ?_⟩
    refine ⟨_, rfl, rfl, true, by rw [decide_eq_true rfl], iteT ?_⟩
    refine ⟨_, rfl, _, rfl, f.h, _, rfl, hf.gFar hH, _, rfl, _, _, rfl, rfl, .inl ⟨by decide, by decide⟩, _, rfl, _, rfl, _, _, rfl, rfl, .inl ⟨by decide, by decide⟩, _, _, rfl, rfl, _, rfl, f.fl, na, _, _, _, _, rfl, rfl, rfl, rfl, O0.a1, O0.a0, ?_, by omega, by omega, ?_, ?_, ?_⟩
    · have nd := O0.1
      simp only [List.map_cons, List.nodup_cons, List.mem_cons, not_or] at nd
      exact fun z => nd.1.1 z.symm
    · rw [List.length_map, hft]
      omega
    · rw [List.length_map, List.length_map, hft, hns]
      decide
    · have e1 : (4 * (b : Int)).toNat = b * 4 := by omega
      have e2 : (4 * (b : Int) + 4).toNat = b * 4 + 4 := by omega
      rw [e1, e2]
      have O2 := (O0.perm (L' := (f.fl, .lst (t.far.map V.int)) :: (na, .lst (ns.map V.int)) :: (Z ++ R)) (by walk_at "perm")).set (o' := .lst ((t.far.map V.int).take (b * 4) ++ ns.map V.int ++ (t.far.map V.int).drop (b * 4 + 4)))
      have e3 : (t.far.map V.int).take (b * 4) ++ ns.map V.int ++ (t.far.map V.int).drop (b * 4 + 4) = (setBlk t.far b ns).map V.int := by
        unfold setBlk
        rw [List.map_append, List.map_append, List.map_take, List.map_drop]
      rw [e3] at O2 ⊢
      obtain ⟨C', hC', hCp'⟩ := hfar (setBlk t.far b ns)
      refine k _ C' hC' (Own.right (L' := [(na, .lst (ns.map V.int))]) (O2.perm ?_))
      refine List.Perm.trans ?_ (List.Perm.append_left _ (List.Perm.append_right _ hCp'.symm))
      walk_at "perm"
end
-- WwO3
theorem dec_by (b : Bool) : decide (V.str (sIn b) = V.str "by") = !b := by cases b <;> decide +kernel
theorem dec_th (b : Bool) : decide (V.str (sBk b) = V.str "through") = !b := by cases b <;> decide +kernel
theorem atV_none {b : Nat} {ls : List Ln} (h : fnd b ls = none) : atV b ls = .non := by unfold atV; rw [h]
theorem atV_some {b i : Nat} {ls : List Ln} (h : fnd b ls = some i) : atV b ls = .int i := by unfold atV; rw [h]
theorem hm_cons {n : Nat} {t : Ta} {r : Rm} {rs : List Rm} (e : t.rs = r :: rs) (b : Nat) (ns : List Int) : (ops (n + 1)).hm t b ns = Ta.cons (r.put b (homeL (ops n) r.ru (r.ls b) { t with rs := rs } b ns).1) (homeL (ops n) r.ru (r.ls b) { t with rs := rs } b ns).2 := by
  show (match t.rs with | [] => t | r :: rs => Ta.cons (r.put b (homeL (ops n) r.ru (r.ls b) { t with rs := rs } b ns).1) (homeL (ops n) r.ru (r.ls b) { t with rs := rs } b ns).2) = _
  rw [e]
section
variable {P : Program} {w : World} {K : PySem.W.Frag} {mg : Str → Option Value} {base : Heap} {n lv : Nat}
theorem ok_o_comes (T : Txt K mg) (hv : 1 ≤ lv) (Gc : FnOk P w K mg base CX0 lv (He.fAd K ("_law_comes", none)) T.fd__law_comes ["_law_h", "_law_key", "_law_block", "_law_numbers"] (spOComes K n)) :
    FnOk P w K mg base CX0 (lv + 3) (He.fAd K ("_law_comes", none)) T.fd__law_comes ["_law_h", "_law_key", "_law_block", "_law_numbers"] (spOComes K (n + 1)) := by
  have G__law_home := ok_o_home T hv Gc
  have G__law_way := ok_o_way T hv Gc
  have G__law_spot := ok_o_spot (P := P) (w := w) (base := base) T
  refine okOf T.F__law_comes sc__law_comes (fun vs H Q E h => ?_) (fun cdv A outer s H vs Q E hr h => ?_)
  · obtain ⟨_, _, _, _, _, _, _, _, _, rfl, _⟩ := h
    rfl
  · obtain ⟨f, kv, lev, b, na, ns, t, C, R, rfl, hn, ⟨ka, rfl, hka⟩, hb, hns, hf, ht, hlb, hC, O, k⟩ := h
    obtain ⟨r, rs, ers, hr0, ht2⟩ := ht.uncons
    obtain ⟨C1, C2, hC1, hC2, rfl⟩ := hC.uncons ers
    obtain ⟨sa, ls, W, u, hset, hu, eru, els, hCp, hput⟩ := hC1.at hr0.s0 b
    rw [hm_cons ers, ← els, eru] at k
    have hls : LsOk (ruOf u lev 0) (ls.map (·.l)) := by rw [← eru, els]; exact hr0.ls b
    have huo := hf.ok.ok u (List.mem_of_getElem? hu)
    have hw4 := huo.w4
    have hlen : ls.length ≤ u.w := by
      have := hls.len
      rw [List.length_map] at this
      exact this
    have hlb2 := hlb.2
    have hlb1 := hlb.1
    obtain ⟨ras, ua, hra, hai, hua⟩ := hf.ru.at hu
    -- the end: what is told
    have fin : ∀ (H' : Hp) (ls' : List OLn) (t' : Ta) (C' : List Cell), OT f (lev + 1) t' C' → homeL (ops n) (ruOf u lev 0) (ls.map (·.l)) { t with rs := rs } b ns = (ls'.map (·.l), t') → Own H' (ostC (sa, ls') ++ (C' ++ (W ++ R))) → Q .non H' := fun H' ls' t' C' h1 h2 h3 => by
      obtain ⟨C3, hC3, hp3⟩ := hput ls'
      rw [h2] at k
      refine k H' (C3 ++ C') (OT.cons hC3 h1) (h3.perm ?_)
      refine List.Perm.trans ?_ (List.Perm.append_right _ (List.Perm.append_right _ hp3.symm))
      walk_at "perm"
    have O0 : Own H (ostC (sa, ls) ++ (C2 ++ (W ++ ((na, .lst (ns.map V.int)) :: R)))) := O.perm ((List.Perm.cons _ (List.Perm.append_right _ (List.Perm.append_right _ hCp))).trans (by walk_at "perm"))
    clear O
    have hsR : ∀ {c : Cell}, c ∈ R → ∀ X : List Cell, c ∈ X ++ (W ++ ((na, .lst (ns.map V.int)) :: R)) := fun hc X => by simp [hc]
    refine ⟨_, (pss_cons (ps_if (pt_cmpR op_isN (pv 1) pe_non (nomark _)) (pss_cons (ps_asg (pv 3) (pg_slice (pe_dget (hu_of hr) (pv 0) pe_str (fun _ _ => rfl)) (po_some (pe_op op_mul pe_int (pv 2))) (po_some (pe_op op_add (pe_op op_mul pe_int (pv 2)) pe_int)))) (pss_one ps_retN)) pss_nil) (pss_cons (ps_asg (pe_call G__law_spot (hr.mono (by omega)) rfl T.g__law_spot T.k__law_spot T.b__law_spot .nil pass0 (pa_cons (pv 0) (pa_cons (pv 1) (pa_cons (pv 2) pa_nil)))) (pg_tup (by rfl) (pgs_cons (pg_name (i := 4) sc__law_comes.nd rfl (Or.inl rfl)) (pgs_cons (pg_name (i := 5) sc__law_comes.nd rfl (Or.inl rfl)) pgs_nil)))) (pss_cons (ps_set (i := 6) sc__law_comes.nd rfl (Or.inl rfl) (pe_ix ix_list (pe_dget (hu_of hr) (pv 0) pe_str (fun _ _ => rfl)) (pe_ix ix_tup (pv 1) pe_int (fun _ _ => rfl)) (fun _ _ => rfl))) (Evl.pss_cut (ps_if (PW.pt (pw_and (pt_cmpR op_isN (pv 5) pe_non (nomark _)) (pw_and1 (pt_cmpR op_eq (pe_ix ix_tup (pv 6) pe_int (fun _ _ => rfl)) pe_str (nomark _))))) (pss_cons (ps_expr (pe_call G__law_home (hr.mono (by omega)) rfl T.g__law_home T.k__law_home T.b__law_home .nil pass0 (pa_cons (pv 0) (pa_cons (pv 1) (pa_cons (pe_lst (pa_cons (pv 2) (pa_cons (pv 3) (pa_cons pe_bl pa_nil)))) pa_nil))))) (pss_one ps_retN)) pss_nil) (Evl.pss_cut (ps_if (pt_cmpR op_isN (pv 5) pe_non (nomark _)) (pss_cons (ps_expr (pe_call G__law_way (hr.mono (by omega)) rfl T.g__law_way T.k__law_way T.b__law_way .nil pass0 (pa_cons (pv 0) (pa_cons (pv 1) (pa_cons (pv 4) pa_nil))))) (pss_cons (ps_expr (pe_bm PySem.F.plainAttrs_list PySem.F.slot_list_append PySem.F.type_list_append mt_append (pv 4) (pa_cons (pe_lst (pa_cons (pv 2) (pa_cons (pv 3) (pa_cons pe_bl pa_nil)))) pa_nil))) (pss_one (ps_set (i := 5) sc__law_comes.nd rfl (Or.inl rfl) (pe_op op_sub (pe_callB call_len_seq (by rfl) T.n_len PySem.boot_len (pa_cons (pv 4) pa_nil)) pe_int))))) (pss_one (ps_if (pt_cmpR op_eq (pe_ix ix_tup (pv 6) pe_int (fun _ _ => rfl)) pe_str (nomark _)) (pss_cons (ps_expr (pe_bm PySem.F.plainAttrs_list PySem.F.slot_list_append PySem.F.type_list_append mt_append (pv 4) (pa_cons (pe_bm PySem.F.plainAttrs_list PySem.F.slot_list_pop PySem.F.type_list_pop mt_popAt (pv 4) (pa_cons (pv 5) pa_nil)) pa_nil))) (pss_one (ps_set (i := 5) sc__law_comes.nd rfl (Or.inl rfl) (pe_op op_sub (pe_callB call_len_seq (by rfl) T.n_len PySem.boot_len (pa_cons (pv 4) pa_nil)) pe_int)))) pss_nil))) (pss_cons (ps_asg (pv 3) (pg_sub (pe_ix ix_list (pv 4) (pv 5) (fun _ _ => rfl)) pe_int set_list)) (pss_cons (ps_asg pe_bl (pg_sub (pe_ix ix_list (pv 4) (pv 5) (fun _ _ => rfl)) pe_int set_list)) (pss_one (ps_if (pt_cmpR op_eq (pe_ix ix_tup (pv 6) pe_int (fun _ _ => rfl)) pe_str (nomark _)) (pss_one (ps_expr (pe_call G__law_home (hr.mono (by omega)) rfl T.g__law_home T.k__law_home T.b__law_home .nil pass0 (pa_cons (pv 0) (pa_cons (pv 1) (pa_cons (pe_ix ix_list (pv 4) (pv 5) (fun _ _ => rfl)) pa_nil)))))) pss_nil))))))))), ?_⟩
    refine ⟨_, rfl, rfl, _, rfl, isN_ite ?_⟩
    refine ⟨_, rfl, _, rfl, _, rfl, f, ka, lev, 0, b, sa, ls, C2 ++ (W ++ ((na, .lst (ns.map V.int)) :: R)), rfl, hf.mono fun c hc => hsR hc _, hsR hka _, hset.mono fun c hc => by simp [hc], by omega, O0, fun p H1 O1 => ?_⟩
    refine ⟨p, _, rfl, SqT.of O1.a0, rfl, _, _, rfl, _, _, rfl, rfl, ?_⟩
    replace O1 := O1.tail
    have m1 : ∀ {c : Cell}, c ∈ R → H1 c.1 = some c.2 := fun hc => O1.2 _ (by simp [hc])
    have hH : H1 f.h = some (.dK (fxH f)) := m1 hf.h
    have hK : H1 ka = some (.tup [.int lev, .int (0 : Nat)]) := m1 hka
    have hU : SqT K H1 ua u.vs := SqT.of (m1 hua)
    refine ⟨_, rfl, f.h, _, rfl, hf.gRules hH, _, rfl, ka, _, 0, .int lev, rfl, rfl, SqT.of hK, rfl, f.rl, _, lev, .ref ua, rfl, rfl, SqL.of (m1 hra), hai, ?_⟩
    -- if _law_at is None and ..
    refine ⟨fun σ' H' => σ' = [some (.ref f.h), some (.ref ka), some (.int b), some (.ref na), some (.ref sa), some (atV b (ls.map (·.l))), some (.ref ua)] ∧ Own H' (ostC (sa, ls) ++ (C2 ++ (W ++ ((na, .lst (ns.map V.int)) :: R)))) ∧ (fnd b (ls.map (·.l)) = none → u.inn = true), ?_, ?_⟩
    · cases ef : fnd b (ls.map (·.l)) with
      | some i =>
        refine ⟨_, rfl, rfl, false, by rw [atV_some ef]; exact congrArg V.bl (decide_eq_false (by intro z; cases z)), iteF ⟨rfl, O1, fun z => nomatch z⟩⟩
      | none =>
        refine ⟨_, rfl, rfl, true, by rw [atV_none ef, decide_eq_true rfl], iteT ?_⟩
        refine ⟨_, rfl, ua, _, 3, .str (sIn u.inn), rfl, rfl, hU, rfl, rfl, !u.inn, by rw [dec_by], ?_⟩
        cases hin : u.inn with
        | true => exact iteF ⟨rfl, O1, fun _ => rfl⟩
        | false =>
          refine iteT ⟨_, rfl, _, rfl, _, rfl, _, rfl, by show 3 ≤ sizeLine; decide, fun x hx => ?_⟩
          have O2 := O1.new (o := .lst [.int b, .ref na, .bl true]) hx
          refine ⟨f, ka, lev, 0, ⟨x, na, ⟨b, ns, true⟩⟩, { t with rs := rs }, C2, ostC (sa, ls) ++ (W ++ R), rfl, by omega, ⟨hb, hns⟩, hf.mono fun c hc => by simp [hc], hka.mono fun c hc => by simp [hc], ht2, ⟨by omega, by show t.log.length + _ + _ ≤ _; omega⟩, hC2, O2.perm (by unfold olnC; walk_at "perm"), fun H3 C3 hC3 O3 => ?_⟩
          refine fin H3 ls _ C3 hC3 (homeL_by ef hin) (Own.right (L' := olnC ⟨x, na, ⟨b, ns, false⟩⟩) (O3.perm ?_))
          walk_at "perm"
    rintro σ' H2 ⟨rfl, O2, hnb⟩
    have m2 : ∀ {c : Cell}, c ∈ R → H2 c.1 = some c.2 := fun hc => O2.2 _ (by simp [hc])
    have hU2 : SqT K H2 ua u.vs := SqT.of (m2 hua)
    have hsa : H2 sa = some (.lst (ls.map fun l => V.ref l.a)) := O2.a0
    refine ⟨fun σ' H' => ∃ (j : Nat) (l1 : OLn) (ls1 : List OLn) (t1 : Ta) (C1 : List Cell) (q d : V), σ' = [some (.ref f.h), some (.ref ka), some (.int b), some (.ref na), some (.ref sa), some (.int (j : Nat)), some (.ref ua)] ∧ ls1[j]? = some l1 ∧ OT f (lev + 1) t1 C1 ∧ TaOk n t1 ∧ LBk n 1 t1 ∧
        homeL (ops n) (ruOf u lev 0) (ls.map (·.l)) { t with rs := rs } b ns = ((ls1.map (·.l)).set j ⟨b, ns, u.bk⟩, if u.bk = true then t1 else passH (ops n) [.int lev, .int (0 : Nat)] t1 b ns) ∧
        Own H' ((l1.a, .lst [.int b, q, d]) :: (na, .lst (ns.map V.int)) :: (sa, .lst (ls1.map fun l => V.ref l.a)) :: (olnsC (ls1.eraseIdx j) ++ (C1 ++ (W ++ R)))), ?_, ?_⟩
    · cases ef : fnd b (ls.map (·.l)) with
      | none =>
        have hin := hnb ef
        refine ⟨_, rfl, rfl, true, by rw [atV_none ef, decide_eq_true rfl], iteT ?_⟩
        refine ⟨_, rfl, _, rfl, _, rfl, f, ka, lev, 0, sa, ls, u, { t with rs := rs }, C2, W ++ ((na, .lst (ns.map V.int)) :: R), rfl, by omega, hu, hf.mono fun c hc => by simp [hc], hka.mono fun c hc => by simp [hc], hls, ht2, ⟨by omega, by show t.log.length + _ + _ ≤ _; omega⟩, hC2, O2, fun H3 ls1 C3 hls1 hC3 O3 => ?_⟩
        obtain ⟨w1, w2, w3, w4⟩ := mkWay_ok (ops_ok n) (ruOf_ok huo lev 0) hls ht2
        have eh := homeL_new (o := ops n) (u := ruOf u lev 0) (ls := ls.map (·.l)) (t := { t with rs := rs }) (b := b) (ns := ns) ef hin
        generalize mkWay (ops n) (ruOf u lev 0) (ls.map (·.l)) { t with rs := rs } = mw at w1 w2 w3 w4 hls1 hC3 eh
        have hl1 : ls1.length = mw.1.length := by rw [← hls1, List.length_map]
        have hw3 : mw.1.length < u.w := w3
        have hsa3 : H3 sa = some (.lst (ls1.map fun l => V.ref l.a)) := O3.a0
        refine ⟨_, rfl, .inl ⟨rfl, _, SqL.of hsa3⟩, _, rfl, _, rfl, by show 3 ≤ sizeLine; decide, fun x hx => ?_⟩
        have O4 := O3.new (o := .lst [.int b, .ref na, .bl false]) hx
        refine ⟨sa, ls1.map (fun l => V.ref l.a), _, rfl, rfl, O4.a1, by rw [List.length_map]; exact size1 (by omega), ?_⟩
        have O5 := (O4.perm (L' := (sa, .lst (ls1.map fun l => V.ref l.a)) :: (x, .lst [.int b, .ref na, .bl false]) :: (na, .lst (ns.map V.int)) :: (olnsC ls1 ++ (C3 ++ (W ++ R)))) (by unfold ostC; walk_at "perm")).set (o' := .lst (ls1.map (fun l => V.ref l.a) ++ [.ref x]))
        refine ⟨_, rfl, sa, _, rfl, .inl (SqL.of O5.a0), _, _, rfl, rfl, ls1.length, ⟨x, na, ⟨b, ns, false⟩⟩, ls1 ++ [⟨x, na, ⟨b, ns, false⟩⟩], mw.2, C3, .ref na, .bl false, ?_, ?_, hC3, w2, ⟨by omega, ?_⟩, ?_, ?_⟩
        · have e : (((ls1.map (fun l : OLn => V.ref l.a) ++ [V.ref x]).length : Nat) : Int) - 1 = ((ls1.length : Nat) : Int) := by rw [List.length_append, List.length_map, List.length_singleton]; omega
          rw [← e]
          rfl
        · rw [List.getElem?_append_right (Nat.le_refl _), Nat.sub_self]
          rfl
        · have w4' : mw.2.log.length ≤ t.log.length + gOf n + 1 := w4
          have := gOf_le (n := n) (by omega)
          omega
        · rw [eh, List.map_append, hls1, List.set_append_right _ _ (by omega), hl1, Nat.sub_self]
          rfl
        · rw [List.map_append]
          have ee : (ls1 ++ [(⟨x, na, ⟨b, ns, false⟩⟩ : OLn)]).eraseIdx ls1.length = ls1 := by
            rw [List.eraseIdx_append_of_length_le (Nat.le_refl _), Nat.sub_self]
            simp
          rw [ee]
          exact O5.perm (by
            show ((sa, HO.lst (ls1.map (fun l => V.ref l.a) ++ [.ref x])) :: _).Perm (_ :: _ :: (sa, HO.lst (ls1.map (fun l => V.ref l.a) ++ [.ref x])) :: _)
            walk_at "perm")
      | some i =>
        refine ⟨_, rfl, rfl, false, by rw [atV_some ef]; exact congrArg V.bl (decide_eq_false (by intro z; cases z)), iteF ?_⟩
        rw [atV_some ef]
        obtain ⟨l, hl⟩ : ∃ l, ls[i]? = some l := ⟨_, List.getElem?_eq_getElem (by have := fnd_lt ef; rw [List.length_map] at this; exact this)⟩
        have hi : i < ls.length := (List.getElem?_eq_some_iff.mp hl).1
        have eb : l.l.b = b := by
          obtain ⟨l2, h2, h3, _⟩ := fnd_some ef
          rw [List.getElem?_map, hl] at h2
          have : l.l = l2 := Option.some.inj h2
          rw [this]
          exact h3
        have eh := homeL_hit (o := ops n) (u := ruOf u lev 0) (ls := ls.map (·.l)) (t := { t with rs := rs }) (b := b) (ns := ns) ef
        rw [touch_map, touchI_map] at eh
        have hgo : ∀ H' : Hp, Own H' ((sa, .lst ((touchL u.lt ls i).map fun l => V.ref l.a)) :: (olnsC ls ++ (C2 ++ (W ++ ((na, .lst (ns.map V.int)) :: R))))) →
            Own H' ((l.a, .lst [.int b, .ref l.na, .bl l.l.d]) :: (na, .lst (ns.map V.int)) :: (sa, .lst ((touchL u.lt ls i).map fun l => V.ref l.a)) :: (olnsC ((touchL u.lt ls i).eraseIdx (touchI u.lt ls i)) ++ (C2 ++ (W ++ R)))) := fun H' O' => by
          have hp1 := (olns_touch (lt := u.lt) hi).symm.trans (olns_focus ((touch_get (lt := u.lt) hi).trans hl))
          refine Own.right (L' := [(l.na, .lst (l.l.ns.map V.int))]) (O'.perm ((List.Perm.cons _ (List.Perm.append_right _ hp1)).trans ?_))
          unfold olnC
          rw [eb]
          walk_at "perm"
        refine ⟨_, rfl, ua, _, 4, .str (sLt u.lt), rfl, rfl, hU2, rfl, rfl, u.lt, by rw [dec_lt], ?_⟩
        cases hlt : u.lt with
        | false =>
          rw [hlt] at hgo
          have e2 : (ruOf u lev 0).lt = false := hlt
          rw [e2] at eh
          refine iteF ⟨i, l, ls, { t with rs := rs }, C2, .ref l.na, .bl l.l.d, rfl, hl, hC2, ht2, ⟨by omega, by show t.log.length + _ + _ ≤ _; omega⟩, eh, hgo H2 O2⟩
        | true =>
          rw [hlt] at hgo
          have e2 : (ruOf u lev 0).lt = true := hlt
          rw [e2] at eh
          refine iteT ?_
          refine ⟨_, rfl, .inl ⟨rfl, _, SqL.of hsa⟩, _, rfl, .inl ⟨rfl, _, SqL.of hsa⟩, _, rfl, sa, _, (i : Nat), i, .ref l.a, rfl, rfl, hsa, by omega, by omega, by rw [List.length_map]; exact seqIxN hi, by rw [List.getElem?_map, hl]; rfl, ?_⟩
          have O3 := (O2.perm (L' := (sa, .lst (ls.map fun l => V.ref l.a)) :: (olnsC ls ++ (C2 ++ (W ++ ((na, .lst (ns.map V.int)) :: R))))) (by unfold ostC; walk_at "perm")).set (o' := .lst ((ls.map fun l => V.ref l.a).eraseIdx i))
          refine ⟨sa, _, _, rfl, rfl, O3.a0, ?_, ?_⟩
          · refine size1 (Nat.le_trans (List.length_eraseIdx_le ..) ?_)
            rw [List.length_map]
            omega
          have O4 := O3.set (o' := .lst ((ls.map fun l => V.ref l.a).eraseIdx i ++ [.ref l.a]))
          have e : (ls.map fun l => V.ref l.a).eraseIdx i ++ [.ref l.a] = (touchL true ls i).map fun l => V.ref l.a := by
            unfold touchL
            rw [if_pos rfl, hl, erase_map, List.map_append]
            rfl
          have elen : (((ls.map fun l => V.ref l.a).eraseIdx i ++ [V.ref l.a]).length : Int) - 1 = ((touchI true ls i : Nat) : Int) := by
            rw [e, List.length_map, touch_len hi]
            unfold touchI
            rw [if_pos rfl]
            omega
          refine ⟨_, rfl, sa, _, rfl, .inl (SqL.of O4.a0), _, _, rfl, rfl, touchI true ls i, l, touchL true ls i, { t with rs := rs }, C2, .ref l.na, .bl l.l.d, ?_, (touch_get hi).trans hl, hC2, ht2, ⟨by omega, by show t.log.length + _ + _ ≤ _; omega⟩, eh, ?_⟩
          · rw [← elen]
            rfl
          · rw [e] at O4 ⊢
            exact hgo _ O4
    rintro σ' H3 ⟨j, l1, ls1, t1, C1, q, d, rfl, hl1, hC3, ht1, hlb3, eh, O3⟩
    have hj : j < ls1.length := (List.getElem?_eq_some_iff.mp hl1).1
    have haj : atI (ls1.map fun l => V.ref l.a) ((j : Nat) : Int) = some (.ref l1.a) := atI_nat (by rw [List.getElem?_map, hl1]; rfl)
    refine ⟨_, rfl, _, rfl, _, rfl, sa, _, _, .ref l1.a, rfl, rfl, SqL.of O3.a2, haj, l1.a, _, 1, 1, rfl, rfl, O3.a0, rfl, ?_⟩
    have O4 := O3.set (o' := .lst [.int b, .ref na, d])
    refine ⟨_, rfl, _, rfl, sa, _, _, .ref l1.a, rfl, rfl, SqL.of O4.a2, haj, l1.a, _, 2, 2, rfl, rfl, O4.a0, rfl, ?_⟩
    have O5 := O4.set (o' := .lst [.int b, .ref na, .bl true])
    have hU5 : SqT K _ ua u.vs := SqT.of (O5.mem (by simp [hua]))
    refine ⟨_, rfl, ua, _, 2, .str (sBk u.bk), rfl, rfl, hU5, rfl, rfl, !u.bk, by rw [dec_th], ?_⟩
    have fin2 : ∀ (d' : Bool) (H' : Hp) (t' : Ta) (C' : List Cell), OT f (lev + 1) t' C' → d' = u.bk → t' = (if u.bk = true then t1 else passH (ops n) [.int lev, .int (0 : Nat)] t1 b ns) → Own H' ((l1.a, .lst [.int b, .ref na, .bl d']) :: (na, .lst (ns.map V.int)) :: (sa, .lst (ls1.map fun l => V.ref l.a)) :: (olnsC (ls1.eraseIdx j) ++ (C' ++ (W ++ R)))) → Q .non H' := by
      intro d' H' t' C' h1 h2 h3 h4
      subst h2 h3
      refine fin H' (ls1.set j ⟨l1.a, na, ⟨b, ns, u.bk⟩⟩) _ C' h1 ?_ (h4.perm ?_)
      · rw [eh, List.map_set]
      · refine List.Perm.trans ?_ (List.Perm.append_right _ (ost_back (sa := sa) (l' := ⟨l1.a, na, ⟨b, ns, u.bk⟩⟩) hl1 rfl))
        unfold olnC
        walk_at "perm"
    cases hbk : u.bk with
    | true =>
      exact iteF (fin2 true _ t1 C1 hC3 hbk.symm (by rw [hbk, if_pos rfl]) O5)
    | false =>
      refine iteT ⟨_, rfl, _, rfl, _, rfl, _, rfl, sa, _, _, .ref l1.a, rfl, rfl, SqL.of O5.a2, haj, ?_⟩
      refine ⟨f, ka, lev, 0, ⟨l1.a, na, ⟨b, ns, true⟩⟩, t1, C1, (sa, .lst (ls1.map fun l => V.ref l.a)) :: (olnsC (ls1.eraseIdx j) ++ (W ++ R)), rfl, by omega, ⟨hb, hns⟩, hf.mono fun c hc => by simp [hc], hka.mono fun c hc => by simp [hc], ht1, hlb3, hC3, O5.perm (by unfold olnC; walk_at "perm"), fun H6 C6 hC6 O6 => ?_⟩
      refine fin2 false H6 _ C6 hC6 hbk.symm (by rw [hbk, if_neg Bool.false_ne_true]) (O6.perm ?_)
      unfold olnC
      walk_at "perm"
end
-- WwO4
def spOReach (K : PySem.W.Frag) (n : Nat) : Sp := fun vs H Q _ => ∃ (f : Fx) (ka : Addr) (lev hand b : Nat) (sa : Addr) (ls : List OLn) (u : Rul) (t : Ta) (C R : List Cell), vs = [.ref f.h, .ref ka, .int b] ∧ lev + 1 + n = f.us.length ∧ b < 16 ∧ f.us[lev]? = some u ∧ FxAt f R ∧ KeyAt R ka lev hand ∧ OSet f lev hand b sa R ∧ LsOk (ruOf u lev hand) (ls.map (·.l)) ∧ TaOk n t ∧ LBk n 60 t ∧ OT f (lev + 1) t C ∧ Own H (ostC (sa, ls) ++ (C ++ R)) ∧
  ∀ (H' : Hp) (ls' : List OLn) (l : OLn) (C' : List Cell), ls'.map (·.l) = (reachL (ops n) (ruOf u lev hand) (ls.map (·.l)) t b).1 → ls'[(reachL (ops n) (ruOf u lev hand) (ls.map (·.l)) t b).2.2]? = some l → OT f (lev + 1) (reachL (ops n) (ruOf u lev hand) (ls.map (·.l)) t b).2.1 C' → Own H' (ostC (sa, ls') ++ (C' ++ R)) → Q (.ref l.a) H'
def spOBr (K : PySem.W.Frag) (n : Nat) : Sp := fun vs H Q _ => ∃ (f : Fx) (kv : V) (lev b : Nat) (t : Ta) (C R : List Cell), vs = [.ref f.h, kv, .int b] ∧ lev + n = f.us.length ∧ KvAt R lev kv n ∧ b < 16 ∧ FxAt f R ∧ TaOk n t ∧ LB n t ∧ OT f lev t C ∧ Own H (C ++ R) ∧
  ∀ (p q : Addr) (d : Bool) (N : List Cell) (H' : Hp) (C' : List Cell), OT f lev ((ops n).br t b).2 C' → (p, HO.lst [.int b, .ref q, .bl d]) ∈ N ++ C' → (q, HO.lst (((ops n).br t b).1.map V.int)) ∈ N ++ C' → Own H' (N ++ (C' ++ R)) → Q (.ref p) H'
theorem br_cons {n : Nat} {t : Ta} {r : Rm} {rs : List Rm} (e : t.rs = r :: rs) (b : Nat) : (ops (n + 1)).br t b = ((bringL (ops n) r.ru (r.ls b) { t with rs := rs } b).1, Ta.cons (r.put b (bringL (ops n) r.ru (r.ls b) { t with rs := rs } b).2.1) (bringL (ops n) r.ru (r.ls b) { t with rs := rs } b).2.2) := by
  show (match t.rs with | [] => (([] : List Int), t) | r :: rs => ((bringL (ops n) r.ru (r.ls b) { t with rs := rs } b).1, Ta.cons (r.put b (bringL (ops n) r.ru (r.ls b) { t with rs := rs } b).2.1) (bringL (ops n) r.ru (r.ls b) { t with rs := rs } b).2.2)) = _
  rw [e]
section
variable {P : Program} {w : World} {K : PySem.W.Frag} {mg : Str → Option Value} {base : Heap} {n lv : Nat}
theorem ok_o_br0 (T : Txt K mg) : FnOk P w K mg base CX0 1 (He.fAd K ("_law_reached", none)) T.fd__law_reached ["_law_h", "_law_key", "_law_block"] (spOBr K 0) := by
  refine okOf T.F__law_reached sc__law_reached (fun vs H Q E h => ?_) (fun cdv A outer s H vs Q E hr h => ?_)
  · obtain ⟨_, _, _, _, _, _, _, rfl, _⟩ := h
    rfl
  · obtain ⟨f, kv, lev, b, t, C, R, rfl, hn, hkv, hb, hf, ht, hlb, hC, O, k⟩ := h
    obtain rfl : kv = .non := hkv
    obtain ⟨Z, hCp, hfar⟩ := hC.farC
    have hH : H f.h = some (.dK (fxH f)) := O.mem (List.mem_append_right _ hf.h)
    have O0 := O.perm (L' := (f.fl, .lst (t.far.map V.int)) :: (Z ++ R)) (List.Perm.append_right _ hCp)
    have hft := ht.far
    refine ⟨_, (pss_cons (ps_if (pt_cmpR op_isN (pv 1) pe_non (nomark _)) (pss_one (ps_ret (pe_lst (pa_cons (pv 2) (pa_cons (pe_slice sl_list (pe_dget (hu_of hr) (pv 0) pe_str (fun _ _ => rfl)) (po_some (pe_op op_mul pe_int (pv 2))) (po_some (pe_op op_add (pe_op op_mul pe_int (pv 2)) pe_int))) (pa_cons pe_bl pa_nil)))))) pss_nil) (pss_cons ps_never (pss_cons ps_never (pss_cons ps_never (pss_one ps_never))))), ?_⟩
    refine ⟨_, rfl, rfl, true, by rw [decide_eq_true rfl], iteT ?_⟩
    refine ⟨_, rfl, _, rfl, f.h, _, rfl, hf.gFar hH, _, rfl, _, _, rfl, rfl, .inl ⟨by decide, by decide⟩, _, rfl, _, rfl, _, _, rfl, rfl, .inl ⟨by decide, by decide⟩, _, _, rfl, rfl, _, rfl, f.fl, _, rfl, SqL.of O0.a0, fun q hq => ?_⟩
    have e : cutV (t.far.map V.int) (some (4 * (b : Int))) (some (4 * (b : Int) + 4)) = (getBlk t.far b).map V.int := by
      have e1 : 4 * (b : Int) = ((b * 4 : Nat) : Int) := by omega
      have e2 : 4 * (b : Int) + 4 = ((b * 4 + 4 : Nat) : Int) := by omega
      rw [e2, e1, cutV_nat (by omega) (by rw [List.length_map]; omega)]
      unfold getBlk
      rw [List.map_take, List.map_drop, Nat.add_sub_cancel_left]
    rw [e]
    have O1 := O.new (o := .lst ((getBlk t.far b).map V.int)) hq
    refine ⟨by show 3 ≤ sizeLine; decide, fun p hp => ?_⟩
    have O2 := O1.new (o := .lst [.int b, .ref q, .bl false]) hp
    exact k p q false [(p, .lst [.int b, .ref q, .bl false]), (q, .lst ((getBlk t.far b).map V.int))] _ C hC (by simp) (by show (q, HO.lst ((getBlk t.far b).map V.int)) ∈ _; simp) O2
theorem ok_o_reach (T : Txt K mg) (hv : 1 ≤ lv) (Gc : FnOk P w K mg base CX0 lv (He.fAd K ("_law_comes", none)) T.fd__law_comes ["_law_h", "_law_key", "_law_block", "_law_numbers"] (spOComes K n))
    (G__law_reached : FnOk P w K mg base CX0 lv (He.fAd K ("_law_reached", none)) T.fd__law_reached ["_law_h", "_law_key", "_law_block"] (spOBr K n)) :
    FnOk P w K mg base CX0 (lv + 3) (He.fAd K ("_law_reached", none)) T.fd__law_reached ["_law_h", "_law_key", "_law_block"] (spOReach K n) := by
  have G__law_way := ok_o_way T hv Gc
  have G__law_spot := ok_o_spot (P := P) (w := w) (base := base) T
  have G__law_behind := ok_o_behind (P := P) (w := w) (base := base) T
  refine okOf T.F__law_reached sc__law_reached (fun vs H Q E h => ?_) (fun cdv A outer s H vs Q E hr h => ?_)
  · obtain ⟨_, _, _, _, _, _, _, _, _, _, _, rfl, _⟩ := h
    rfl
  · obtain ⟨f, ka, lev, hand, b, sa, ls, u, t, C, R, rfl, hn, hb, hu, hf, hka, hset, hls, ht, hlb, hC, O, k⟩ := h
    have huo := hf.ok.ok u (List.mem_of_getElem? hu)
    have hw4 := huo.w4
    have hlen : ls.length ≤ u.w := by
      have := hls.len
      rw [List.length_map] at this
      exact this
    have hlb2 := hlb.2
    have hlb1 := hlb.1
    obtain ⟨ras, ua, hra, hai, hua⟩ := hf.ru.at hu
    refine ⟨_, (pss_cons (ps_if (pt_cmpR op_isN (pv 1) pe_non (nomark _)) (pss_one (ps_ret (pe_lst (pa_cons (pv 2) (pa_cons (pe_slice sl_list (pe_dget (hu_of hr) (pv 0) pe_str (fun _ _ => rfl)) (po_some (pe_op op_mul pe_int (pv 2))) (po_some (pe_op op_add (pe_op op_mul pe_int (pv 2)) pe_int))) (pa_cons pe_bl pa_nil)))))) pss_nil) (pss_cons (ps_asg (pe_call G__law_spot (hr.mono (by omega)) rfl T.g__law_spot T.k__law_spot T.b__law_spot .nil pass0 (pa_cons (pv 0) (pa_cons (pv 1) (pa_cons (pv 2) pa_nil)))) (pg_tup (by rfl) (pgs_cons (pg_name (i := 3) sc__law_reached.nd rfl (Or.inl rfl)) (pgs_cons (pg_name (i := 4) sc__law_reached.nd rfl (Or.inl rfl)) pgs_nil)))) (pss_cons (ps_if (pt_cmpR op_isN (pv 4) pe_non (nomark _)) (pss_cons (ps_expr (pe_call G__law_way (hr.mono (by omega)) rfl T.g__law_way T.k__law_way T.b__law_way .nil pass0 (pa_cons (pv 0) (pa_cons (pv 1) (pa_cons (pv 3) pa_nil))))) (pss_cons (ps_expr (pe_bm PySem.F.plainAttrs_list PySem.F.slot_list_append PySem.F.type_list_append mt_append (pe_dget (hu_of hr) (pv 0) pe_str (fun _ _ => rfl)) (pa_cons (pe_op op_catA (pv 1) (pe_tup (pa_cons pe_str (pa_cons (pv 2) pa_nil)))) pa_nil))) (pss_cons (ps_set (i := 5) sc__law_reached.nd rfl (Or.inl rfl) (pe_callTy call_list_of (by rfl) T.n_list (by decide +kernel) (pa_cons (pe_ix ix_list (pe_call G__law_reached (hr.mono (by omega)) rfl T.g__law_reached T.k__law_reached T.b__law_reached .nil pass0 (pa_cons (pv 0) (pa_cons (pe_call G__law_behind (hr.mono (by omega)) rfl T.g__law_behind T.k__law_behind T.b__law_behind .nil pass0 (pa_cons (pv 0) (pa_cons (pv 1) pa_nil))) (pa_cons (pv 2) pa_nil)))) pe_int (fun _ _ => rfl)) pa_nil))) (pss_cons (ps_expr (pe_bm PySem.F.plainAttrs_list PySem.F.slot_list_append PySem.F.type_list_append mt_append (pv 3) (pa_cons (pe_lst (pa_cons (pv 2) (pa_cons (pv 5) (pa_cons pe_bl pa_nil)))) pa_nil))) (pss_one (ps_ret (pe_ix ix_list (pv 3) (pe_un un_neg pe_int) (fun _ _ => rfl)))))))) pss_nil) (pss_cons (ps_if (pt_cmpR op_eq (pe_ix ix_tup (pe_ix ix_list (pe_dget (hu_of hr) (pv 0) pe_str (fun _ _ => rfl)) (pe_ix ix_tup (pv 1) pe_int (fun _ _ => rfl)) (fun _ _ => rfl)) pe_int (fun _ _ => rfl)) pe_str (nomark _)) (pss_cons (ps_expr (pe_bm PySem.F.plainAttrs_list PySem.F.slot_list_append PySem.F.type_list_append mt_append (pv 3) (pa_cons (pe_bm PySem.F.plainAttrs_list PySem.F.slot_list_pop PySem.F.type_list_pop mt_popAt (pv 3) (pa_cons (pv 4) pa_nil)) pa_nil))) (pss_one (ps_ret (pe_ix ix_list (pv 3) (pe_un un_neg pe_int) (fun _ _ => rfl))))) pss_nil) (pss_one (ps_ret (pe_ix ix_list (pv 3) (pv 4) (fun _ _ => rfl)))))))), ?_⟩
    refine ⟨_, rfl, rfl, _, rfl, isN_ite ?_⟩
    refine ⟨_, rfl, _, rfl, _, rfl, f, ka, lev, hand, b, sa, ls, C ++ R, rfl, hf.mono fun c hc => by simp [hc], hka.mono fun c hc => by simp [hc], hset.mono fun c hc => by simp [hc], by omega, O, fun p H1 O1 => ?_⟩
    refine ⟨p, _, rfl, SqT.of O1.a0, rfl, _, _, rfl, _, _, rfl, rfl, ?_⟩
    replace O1 := O1.tail
    have m1 : ∀ {c : Cell}, c ∈ R → H1 c.1 = some c.2 := fun hc => O1.2 _ (by simp [hc])
    have hH : H1 f.h = some (.dK (fxH f)) := m1 hf.h
    have hK : H1 ka = some (.tup [.int lev, .int hand]) := m1 hka
    have hsa : H1 sa = some (.lst (ls.map fun l => V.ref l.a)) := O1.a0
    cases ef : fnd b (ls.map (·.l)) with
    | some i =>
      rw [atV_some ef]
      refine ⟨_, rfl, rfl, false, congrArg V.bl (decide_eq_false (by intro z; cases z)), iteF ?_⟩
      obtain ⟨l, hl⟩ : ∃ l, ls[i]? = some l := ⟨_, List.getElem?_eq_getElem (by have := fnd_lt ef; rw [List.length_map] at this; exact this)⟩
      have hi : i < ls.length := (List.getElem?_eq_some_iff.mp hl).1
      have k2 := fun H' ls' l' => k H' ls' l' C
      rw [reachL_hit ef] at k2
      refine ⟨_, rfl, f.h, _, rfl, hf.gRules hH, _, rfl, ka, _, 0, .int lev, rfl, rfl, SqT.of hK, rfl, f.rl, _, lev, .ref ua, rfl, rfl, SqL.of (m1 hra), hai, ua, _, 4, .str (sLt u.lt), rfl, rfl, SqT.of (m1 hua), rfl, rfl, u.lt, by rw [dec_lt], ?_⟩
      cases hlt : u.lt with
      | false =>
        have e2 : (ruOf u lev hand).lt = false := hlt
        rw [e2] at k2
        refine iteF ⟨_, rfl, _, rfl, sa, _, _, .ref l.a, rfl, rfl, SqL.of hsa, atI_nat (by rw [List.getElem?_map, hl]; rfl), ?_⟩
        exact k2 H1 ls l rfl hl hC O1
      | true =>
        have e2 : (ruOf u lev hand).lt = true := hlt
        rw [e2, touch_map, touchI_map] at k2
        refine iteT ?_
        refine ⟨_, rfl, .inl ⟨rfl, _, SqL.of hsa⟩, _, rfl, .inl ⟨rfl, _, SqL.of hsa⟩, _, rfl, sa, _, (i : Nat), i, .ref l.a, rfl, rfl, hsa, by omega, by omega, by rw [List.length_map]; exact seqIxN hi, by rw [List.getElem?_map, hl]; rfl, ?_⟩
        have O3 := (O1.perm (L' := (sa, .lst (ls.map fun l => V.ref l.a)) :: (olnsC ls ++ (C ++ R))) (by unfold ostC; walk_at "perm")).set (o' := .lst ((ls.map fun l => V.ref l.a).eraseIdx i))
        refine ⟨sa, _, _, rfl, rfl, O3.a0, ?_, ?_⟩
        · refine size1 (Nat.le_trans (List.length_eraseIdx_le ..) ?_)
          rw [List.length_map]
          omega
        have O4 := O3.set (o' := .lst ((ls.map fun l => V.ref l.a).eraseIdx i ++ [.ref l.a]))
        have e : (ls.map fun l => V.ref l.a).eraseIdx i ++ [.ref l.a] = (touchL true ls i).map fun l => V.ref l.a := by
          unfold touchL
          rw [if_pos rfl, hl, erase_map, List.map_append]
          rfl
        refine ⟨_, rfl, _, rfl, sa, _, _, .ref l.a, rfl, rfl, SqL.of O4.a0, atI_last _ _, ?_⟩
        refine k2 _ (touchL true ls i) l rfl ((touch_get hi).trans hl) hC ?_
        rw [e] at O4 ⊢
        refine O4.perm ?_
        refine (List.Perm.cons _ (List.Perm.append_right _ (olns_touch (lt := true) hi).symm)).trans ?_
        unfold ostC
        walk_at "perm"
    | none =>
      rw [atV_none ef]
      refine ⟨_, rfl, rfl, true, by rw [decide_eq_true rfl], iteT ?_⟩
      refine ⟨_, rfl, _, rfl, _, rfl, f, ka, lev, hand, sa, ls, u, t, C, R, rfl, by omega, hu, hf, hka, hls, ht, hlb.le (by omega), hC, O1, fun H3 ls1 C3 hls1 hC3 O3 => ?_⟩
      obtain ⟨w1, w2, w3, w4⟩ := mkWay_ok (ops_ok n) (ruOf_ok huo lev hand) hls ht
      have k2 := fun H' ls' l' C' => k H' ls' l' C'
      rw [reachL_miss ef] at k2
      generalize mkWay (ops n) (ruOf u lev hand) (ls.map (·.l)) t = mw at w1 w2 w3 w4 hls1 hC3 k2
      have hl1 : ls1.length = mw.1.length := by rw [← hls1, List.length_map]
      have hw3 : mw.1.length < u.w := w3
      have hg := gOf_le (n := n) (by omega)
      -- the log
      obtain ⟨as, Z, hal, hCp, hnote⟩ := hC3.log
      have O4 := O3.perm (L' := (f.lg, .lst (as.map V.ref)) :: (ostC (sa, ls1) ++ (Z ++ R))) ((List.Perm.append_left _ (List.Perm.append_right _ hCp)).trans (by walk_at "perm"))
      have m3 : ∀ {c : Cell}, c ∈ R → H3 c.1 = some c.2 := fun hc => O3.2 _ (by simp [hc])
      refine ⟨_, rfl, f.h, _, rfl, hf.gLog (m3 hf.h), .inl ⟨rfl, _, SqL.of O4.a0⟩, _, rfl, _, rfl, by show 2 ≤ sizeLine; decide, fun q1 hq1 => ?_⟩
      have O5 := O4.new (o := .tup [.str "bring", .int b]) hq1
      refine ⟨ka, q1, [.int lev, .int hand], [.str "bring", .int b], rfl, rfl, SqT.of (O5.mem (by simp [show (ka, HO.tup [.int lev, .int hand]) ∈ R from hka])), SqT.of O5.a0, by show 4 ≤ sizeLine; decide, (fun z => nomatch z), (fun _ z => nomatch z), fun _ _ q2 hq2 => ?_⟩
      have O6 := O5.new (p := q2) (o := .tup ([.int lev, .int hand] ++ [.str "bring", .int b])) hq2
      refine ⟨f.lg, _, _, rfl, rfl, O6.a2, by rw [List.length_map]; exact size1 (by omega), ?_⟩
      have O7 := (O6.perm (L' := (f.lg, .lst (as.map V.ref)) :: (q1, .tup [.str "bring", .int b]) :: (q2, .tup ([.int lev, .int hand] ++ [.str "bring", .int b])) :: (ostC (sa, ls1) ++ (Z ++ R))) (by walk_at "perm")).set (o' := .lst (as.map V.ref ++ [.ref q2]))
      generalize upd _ f.lg _ = H7 at O7 ⊢
      obtain ⟨C7, hC7, hC7p⟩ := hnote q2 [.int lev, .int hand] "bring" b
      have O8 : Own H7 (C7 ++ (ostC (sa, ls1) ++ R)) := Own.perm (Own.right (L' := [(q1, .tup [.str "bring", .int b])]) (O7.perm (L' := [(q1, .tup [.str "bring", .int b])] ++ (((f.lg, .lst (as.map V.ref ++ [.ref q2])) :: (q2, .tup ([.int lev, .int hand] ++ [.str "bring", .int b])) :: Z) ++ (ostC (sa, ls1) ++ R))) (by walk_at "perm"))) (List.Perm.append_right _ hC7p.symm)
      clear O7 O6 O5 O4 O3
      have hs1 : ∀ c ∈ R, c ∈ C7 ++ (ostC (sa, ls1) ++ R) := fun c hc => by simp [hc]
      refine ⟨_, rfl, _, rfl, _, rfl, f, ka, lev, hand, n, C7 ++ (ostC (sa, ls1) ++ R), rfl, hn, hf.mono hs1, hs1 _ hka, O8, fun kv N H8 hkv O9 => ?_⟩
      refine ⟨_, rfl, f, kv, lev + 1, b, mw.2.note [.int lev, .int hand] "bring" b, C7, N ++ (ostC (sa, ls1) ++ R), rfl, by omega, hkv.mono fun c hc => by simp [hc], hb, hf.mono fun c hc => by simp [hc], note_ok w2 _ _ _, ⟨hlb.1, by rw [note_len]; omega⟩, hC7, O9.perm (by walk_at "perm"), fun p q d N2 H9 C9 hC9 hp hq O10 => ?_⟩
      have hp9 : SqL K H9 p [.int b, .ref q, .bl d] := SqL.of (O10.mem (by rw [← List.append_assoc]; exact List.mem_append_left _ hp))
      refine ⟨p, _, 1, .ref q, rfl, rfl, hp9, rfl, q, _, rfl, .inl (SqL.of (O10.mem (by rw [← List.append_assoc]; exact List.mem_append_left _ hq))), fun q3 hq3 => ?_⟩
      have O11 := O10.new (o := .lst (((ops n).br (mw.2.note [.int lev, .int hand] "bring" b) b).1.map V.int)) hq3
      have O12 := O11.perm (L' := (sa, .lst (ls1.map fun l => V.ref l.a)) :: (q3, .lst (((ops n).br (mw.2.note [.int lev, .int hand] "bring" b) b).1.map V.int)) :: (olnsC ls1 ++ (N2 ++ (C9 ++ (N ++ R))))) (by unfold ostC; walk_at "perm")
      refine ⟨_, rfl, .inl ⟨rfl, _, SqL.of O12.a0⟩, _, rfl, _, rfl, by show 3 ≤ sizeLine; decide, fun x hx => ?_⟩
      have O13 := O12.new (o := .lst [.int b, .ref q3, .bl false]) hx
      refine ⟨sa, _, _, rfl, rfl, O13.a1, by rw [List.length_map]; exact size1 (by omega), ?_⟩
      have O14 := (O13.perm (L' := (sa, .lst (ls1.map fun l => V.ref l.a)) :: (x, .lst [.int b, .ref q3, .bl false]) :: (q3, .lst (((ops n).br (mw.2.note [.int lev, .int hand] "bring" b) b).1.map V.int)) :: (olnsC ls1 ++ (N2 ++ (C9 ++ (N ++ R))))) (by walk_at "perm")).set (o' := .lst (ls1.map (fun l => V.ref l.a) ++ [.ref x]))
      refine ⟨_, rfl, _, rfl, sa, _, _, .ref x, rfl, rfl, SqL.of O14.a0, atI_last _ _, ?_⟩
      refine k2 _ (ls1 ++ [⟨x, q3, ⟨b, ((ops n).br (mw.2.note [.int lev, .int hand] "bring" b) b).1, false⟩⟩]) ⟨x, q3, ⟨b, ((ops n).br (mw.2.note [.int lev, .int hand] "bring" b) b).1, false⟩⟩ C9 ?_ ?_ hC9 ?_
      · rw [List.map_append, hls1]
        rfl
      · rw [← hl1, List.getElem?_append_right (Nat.le_refl _), Nat.sub_self]
        rfl
      · refine Own.right (L' := N2 ++ N) (O14.perm ?_)
        unfold ostC
        dsimp only
        rw [olns_app, List.map_append]
        simp only [olnsC, olnC, List.map_cons, List.map_nil]
        walk_at "perm"
end
-- WwO5
def spOChange (K : PySem.W.Frag) (n : Nat) : Sp := fun vs H Q _ => ∃ (f : Fx) (ka : Addr) (lev hand p : Nat) (v : Int) (sa : Addr) (ls : List OLn) (u : Rul) (t : Ta) (C R : List Cell), vs = [.ref f.h, .ref ka, .int p, .int v] ∧ lev + 1 + n = f.us.length ∧ p < 64 ∧ f.us[lev]? = some u ∧ FxAt f R ∧ KeyAt R ka lev hand ∧ OSet f lev hand (p / 4) sa R ∧ LsOk (ruOf u lev hand) (ls.map (·.l)) ∧ ThL (ruOf u lev hand) (ls.map (·.l)) ∧ TaOk n t ∧ ThTa t ∧ LBk n 120 t ∧ OT f (lev + 1) t C ∧ Own H (ostC (sa, ls) ++ (C ++ R)) ∧
  ∀ (H' : Hp) (ls' : List OLn) (C' : List Cell), ls'.map (·.l) = (changeL (ops n) (ruOf u lev hand) (ls.map (·.l)) t p v).1 → OT f (lev + 1) (changeL (ops n) (ruOf u lev hand) (ls.map (·.l)) t p v).2 C' → Own H' (ostC (sa, ls') ++ (C' ++ R)) → Q .non H'
def spOCh (K : PySem.W.Frag) (n : Nat) : Sp := fun vs H Q _ => ∃ (f : Fx) (kv : V) (lev p : Nat) (v : Int) (t : Ta) (C R : List Cell), vs = [.ref f.h, kv, .int p, .int v] ∧ lev + n = f.us.length ∧ KvAt R lev kv n ∧ p < 64 ∧ FxAt f R ∧ TaOk n t ∧ ThTa t ∧ LB n t ∧ OT f lev t C ∧ Own H (C ++ R) ∧
  ∀ (H' : Hp) (C' : List Cell), OT f lev ((ops n).ch t p v) C' → Own H' (C' ++ R) → Q .non H'
theorem ch_cons {n : Nat} {t : Ta} {r : Rm} {rs : List Rm} (e : t.rs = r :: rs) (p : Nat) (v : Int) : (ops (n + 1)).ch t p v = Ta.cons (r.put (p / 4) (changeL (ops n) r.ru (r.ls (p / 4)) { t with rs := rs } p v).1) (changeL (ops n) r.ru (r.ls (p / 4)) { t with rs := rs } p v).2 := by
  show (match t.rs with | [] => t | r :: rs => Ta.cons (r.put (p / 4) (changeL (ops n) r.ru (r.ls (p / 4)) { t with rs := rs } p v).1) (changeL (ops n) r.ru (r.ls (p / 4)) { t with rs := rs } p v).2) = _
  rw [e]
section
variable {P : Program} {w : World} {K : PySem.W.Frag} {mg : Str → Option Value} {base : Heap} {n lv : Nat}
theorem ok_o_br (T : Txt K mg) (hv : 1 ≤ lv) (Gc : FnOk P w K mg base CX0 lv (He.fAd K ("_law_comes", none)) T.fd__law_comes ["_law_h", "_law_key", "_law_block", "_law_numbers"] (spOComes K n))
    (Gb : FnOk P w K mg base CX0 lv (He.fAd K ("_law_reached", none)) T.fd__law_reached ["_law_h", "_law_key", "_law_block"] (spOBr K n)) :
    FnOk P w K mg base CX0 (lv + 3) (He.fAd K ("_law_reached", none)) T.fd__law_reached ["_law_h", "_law_key", "_law_block"] (spOBr K (n + 1)) := (ok_o_reach T hv Gc Gb).imp fun vs H Q E h => by
  obtain ⟨f, kv, lev, b, t, C, R, rfl, hn, ⟨ka, rfl, hka⟩, hb, hf, ht, hlb, hC, O, k⟩ := h
  obtain ⟨r, rs, ers, hr0, ht2⟩ := ht.uncons
  obtain ⟨C1, C2, hC1, hC2, rfl⟩ := hC.uncons ers
  obtain ⟨sa, ls, W, u, hset, hu, eru, els, hCp, hput⟩ := hC1.at hr0.s0 b
  rw [br_cons ers, ← els, eru] at k
  have hls : LsOk (ruOf u lev 0) (ls.map (·.l)) := by rw [← eru, els]; exact hr0.ls b
  have hlb2 := hlb.2
  have hlb1 := hlb.1
  refine ⟨f, ka, lev, 0, b, sa, ls, u, { t with rs := rs }, C2, W ++ R, rfl, by omega, hb, hu, hf.mono fun c hc => by simp [hc], hka.mono fun c hc => by simp [hc], hset.mono fun c hc => by simp [hc], hls, ht2, ⟨by omega, by show t.log.length + _ + _ ≤ _; omega⟩, hC2, O.perm ((List.Perm.append_right _ (List.Perm.append_right _ hCp)).trans (by walk_at "perm")), fun H' ls' l C' h1 h2 h3 O' => ?_⟩
  obtain ⟨C3, hC3, hp3⟩ := hput ls'
  unfold bringL at k
  rw [← h1] at k
  have el : (lnAt (ls'.map (·.l)) (reachL (ops n) (ruOf u lev 0) (ls.map (·.l)) { t with rs := rs } b).2.2) = l.l := lnAt_get (by rw [List.getElem?_map, h2]; rfl)
  dsimp only at k
  rw [el] at k
  have eb : l.l.b = b := by
    obtain ⟨_, _, ⟨l2, h5, h6, _⟩, _⟩ := reachL_ok (ops_ok n) (ruOf_ok (hf.ok.ok u (List.mem_of_getElem? hu)) lev 0) hls ht2 hb
    rw [← h1, List.getElem?_map, h2] at h5
    have : l.l = l2 := Option.some.inj h5
    rw [this]
    exact h6
  have hm : ∀ c ∈ olnC l, c ∈ ([] : List Cell) ++ (C3 ++ C') := fun c hc => by
    have : c ∈ C3 := hp3.mem_iff.mpr (List.mem_append_left _ (List.mem_cons_of_mem _ (olns_mem h2 c hc)))
    simp [this]
  refine k l.a l.na l.l.d [] H' (C3 ++ C') (OT.cons hC3 h3) (hm _ ?_) (hm _ ?_) (O'.perm ?_)
  · rw [← eb]
    exact List.mem_cons_self
  · exact List.mem_cons_of_mem _ List.mem_cons_self
  · show (ostC (sa, ls') ++ (C' ++ (W ++ R))).Perm ((C3 ++ C') ++ R)
    refine List.Perm.trans ?_ (List.Perm.append_right _ (List.Perm.append_right _ hp3.symm))
    walk_at "perm"
theorem ok_o_ch0 (T : Txt K mg) : FnOk P w K mg base CX0 1 (He.fAd K ("_law_cell", none)) T.fd__law_cell ["_law_h", "_law_key", "_law_place_here", "_law_number"] (spOCh K 0) := by
  refine okOf T.F__law_cell sc__law_cell (fun vs H Q E h => ?_) (fun cdv A outer s H vs Q E hr h => ?_)
  · obtain ⟨_, _, _, _, _, _, _, _, rfl, _⟩ := h
    rfl
  · obtain ⟨f, kv, lev, p, v, t, C, R, rfl, hn, hkv, hp, hf, ht, hth, hlb, hC, O, k⟩ := h
    obtain rfl : kv = .non := hkv
    obtain ⟨Z, hCp, hfar⟩ := hC.farC
    have hH : H f.h = some (.dK (fxH f)) := O.mem (List.mem_append_right _ hf.h)
    have O0 := O.perm (L' := (f.fl, .lst (t.far.map V.int)) :: (Z ++ R)) (List.Perm.append_right _ hCp)
    have hft := ht.far
    refine ⟨_, (pss_cons (ps_if (pt_cmpR op_isN (pv 1) pe_non (nomark _)) (pss_cons (ps_asg (pv 3) (pg_sub (pe_dget (hu_of hr) (pv 0) pe_str (fun _ _ => rfl)) (pv 2) set_list)) (pss_one ps_retN)) pss_nil) (pss_cons ps_never (pss_cons ps_never (pss_cons ps_never (pss_one ps_never))))), ?_⟩
    refine ⟨_, rfl, rfl, true, by rw [decide_eq_true rfl], iteT ?_⟩
    refine ⟨_, rfl, _, rfl, f.h, _, rfl, hf.gFar hH, _, rfl, f.fl, _, _, p, rfl, rfl, O0.a0, ?_, ?_⟩
    · rw [List.length_map, hft]
      exact ixN_nat hp
    · have O1 := O0.set (o' := .lst ((t.far.map V.int).set p (.int v)))
      rw [← List.map_set] at O1 ⊢
      obtain ⟨C', hC', hCp'⟩ := hfar (t.far.set p v)
      exact k _ C' hC' (O1.perm (List.Perm.append_right _ hCp'.symm))
theorem ok_o_change (T : Txt K mg) (hv : 1 ≤ lv) (Gc : FnOk P w K mg base CX0 lv (He.fAd K ("_law_comes", none)) T.fd__law_comes ["_law_h", "_law_key", "_law_block", "_law_numbers"] (spOComes K n))
    (Gb : FnOk P w K mg base CX0 lv (He.fAd K ("_law_reached", none)) T.fd__law_reached ["_law_h", "_law_key", "_law_block"] (spOBr K n))
    (G__law_cell : FnOk P w K mg base CX0 lv (He.fAd K ("_law_cell", none)) T.fd__law_cell ["_law_h", "_law_key", "_law_place_here", "_law_number"] (spOCh K n)) :
    FnOk P w K mg base CX0 (lv + 4) (He.fAd K ("_law_cell", none)) T.fd__law_cell ["_law_h", "_law_key", "_law_place_here", "_law_number"] (spOChange K n) := by
  have G__law_reached := ok_o_reach T hv Gc Gb
  have G__law_spot := ok_o_spot (P := P) (w := w) (base := base) T
  have G__law_behind := ok_o_behind (P := P) (w := w) (base := base) T
  refine okOf T.F__law_cell sc__law_cell (fun vs H Q E h => ?_) (fun cdv A outer s H vs Q E hr h => ?_)
  · obtain ⟨_, _, _, _, _, _, _, _, _, _, _, _, rfl, _⟩ := h
    rfl
  · obtain ⟨f, ka, lev, hand, p, v, sa, ls, u, t, C, R, rfl, hn, hp, hu, hf, hka, hset, hls, hthl, ht, hth, hlb, hC, O, k⟩ := h
    have huo := hf.ok.ok u (List.mem_of_getElem? hu)
    have hw4 := huo.w4
    have hlen : ls.length ≤ u.w := by
      have := hls.len
      rw [List.length_map] at this
      exact this
    have hlb2 := hlb.2
    have hlb1 := hlb.1
    have hb : p / 4 < 16 := by omega
    obtain ⟨ras, ua, hra, hai, hua⟩ := hf.ru.at hu
    have m0 : ∀ {c : Cell}, c ∈ R → H c.1 = some c.2 := fun hc => O.2 _ (by simp [hc])
    have hH : H f.h = some (.dK (fxH f)) := m0 hf.h
    have hK : H ka = some (.tup [.int lev, .int hand]) := m0 hka
    refine ⟨_, (pss_cons (ps_if (pt_cmpR op_isN (pv 1) pe_non (nomark _)) (pss_cons (ps_asg (pv 3) (pg_sub (pe_dget (hu_of hr) (pv 0) pe_str (fun _ _ => rfl)) (pv 2) set_list)) (pss_one ps_retN)) pss_nil) (pss_cons (ps_par (by rfl) sc__law_cell.nd (i := 4) (j := 5) rfl rfl (by decide) rfl rfl (pa_cons (pe_op op_fdiv (pv 2) pe_int) (pa_cons (pe_ix ix_list (pe_dget (hu_of hr) (pv 0) pe_str (fun _ _ => rfl)) (pe_ix ix_tup (pv 1) pe_int (fun _ _ => rfl)) (fun _ _ => rfl)) pa_nil)) (by rfl)) (Evl.pss_cut (ps_set (i := 6) sc__law_cell.nd rfl (Or.inl rfl) (pe_and (pe_cmpR op_isN (pe_ix ix_tup (pe_call G__law_spot (hr.mono (by omega)) rfl T.g__law_spot T.k__law_spot T.b__law_spot .nil pass0 (pa_cons (pv 0) (pa_cons (pv 1) (pa_cons (pv 4) pa_nil)))) pe_int (fun _ _ => rfl)) pe_non (nomark _)) (pe_one (pe_cmpR op_eq (pe_ix ix_tup (pv 5) pe_int (fun _ _ => rfl)) pe_str (nomark _))))) (Evl.pss_cut (ps_if (pt_not (pt_val (pv 6))) (pss_cons (ps_set (i := 7) sc__law_cell.nd rfl (Or.inl rfl) (pe_call G__law_reached (hr.mono (by omega)) rfl T.g__law_reached T.k__law_reached T.b__law_reached .nil pass0 (pa_cons (pv 0) (pa_cons (pv 1) (pa_cons (pv 4) pa_nil))))) (pss_cons (ps_asg (pv 3) (pg_sub (pe_ix ix_list (pv 7) pe_int (fun _ _ => rfl)) (pe_op op_mod (pv 2) pe_int) set_list)) (pss_one (ps_asg (pe_cmpR op_eq (pe_ix ix_tup (pv 5) pe_int (fun _ _ => rfl)) pe_str (nomark _)) (pg_sub (pv 7) pe_int set_list))))) pss_nil) (pss_one (ps_if (PW.pt (pw_or (pt_val (pv 6)) (pw_or1 (pt_cmpR op_eq (pe_ix ix_tup (pv 5) pe_int (fun _ _ => rfl)) pe_str (nomark _))))) (pss_cons (ps_expr (pe_bm PySem.F.plainAttrs_list PySem.F.slot_list_append PySem.F.type_list_append mt_append (pe_dget (hu_of hr) (pv 0) pe_str (fun _ _ => rfl)) (pa_cons (pe_op op_catA (pv 1) (pe_tup (pa_cons pe_str (pa_cons (pv 2) pa_nil)))) pa_nil))) (pss_one (ps_expr (pe_call G__law_cell (hr.mono (by omega)) rfl T.g__law_cell T.k__law_cell T.b__law_cell .nil pass0 (pa_cons (pv 0) (pa_cons (pe_call G__law_behind (hr.mono (by omega)) rfl T.g__law_behind T.k__law_behind T.b__law_behind .nil pass0 (pa_cons (pv 0) (pa_cons (pv 1) pa_nil))) (pa_cons (pv 2) (pa_cons (pv 3) pa_nil)))))))) pss_nil)))))), ?_⟩
    refine ⟨_, rfl, rfl, _, rfl, isN_ite ?_⟩
    refine ⟨_, rfl, _, _, rfl, rfl, ⟨by decide, by decide⟩, _, rfl, f.h, _, rfl, hf.gRules hH, _, rfl, ka, _, 0, .int lev, rfl, rfl, SqT.of hK, rfl, f.rl, _, lev, .ref ua, rfl, rfl, SqL.of (m0 hra), hai, .int ((p / 4 : Nat) : Int), .ref ua, rfl, ?_⟩
    obtain ⟨on, hon⟩ : ∃ on : Bool, on = (decide (fnd (p / 4) (ls.map (·.l)) = none) && !u.inn) := ⟨_, rfl⟩
    refine ⟨fun σ' H' => σ' = [some (V.ref f.h), some (.ref ka), some (.int p), some (.int v), some (.int ((p / 4 : Nat) : Int)), some (.ref ua), some (.bl on), none] ∧ Own H' (ostC (sa, ls) ++ (C ++ R)), ?_, ?_⟩
    · refine ⟨_, rfl, _, rfl, _, rfl, f, ka, lev, hand, p / 4, sa, ls, C ++ R, rfl, hf.mono fun c hc => by simp [hc], hka.mono fun c hc => by simp [hc], hset.mono fun c hc => by simp [hc], by omega, O, fun q H1 O1 => ?_⟩
      refine ⟨q, _, 1, _, rfl, rfl, SqT.of O1.a0, rfl, rfl, ?_⟩
      replace O1 := O1.tail
      have hU : SqT K H1 ua u.vs := SqT.of (O1.2 _ (show (ua, HO.tup u.vs) ∈ _ by simp [hua]))
      cases ef : fnd (p / 4) (ls.map (·.l)) with
      | some i =>
        rw [ef] at hon
        refine ⟨false, by rw [atV_some ef]; exact congrArg V.bl (decide_eq_false (by intro z; cases z)), iteF ⟨?_, O1⟩⟩
        rw [hon]
        rfl
      | none =>
        rw [ef, decide_eq_true rfl] at hon
        refine ⟨true, by rw [atV_none ef, decide_eq_true rfl], iteT ⟨_, rfl, ua, _, 3, .str (sIn u.inn), rfl, rfl, hU, rfl, rfl, ?_, O1⟩⟩
        rw [dec_by, hon]
        rfl
    rintro σ' H1 ⟨rfl, O1⟩
    have m1 : ∀ {c : Cell}, c ∈ R → H1 c.1 = some c.2 := fun hc => O1.2 _ (by simp [hc])
    refine ⟨fun σ' H' => ∃ (v7 : Option V) (ls1 : List OLn) (t1 : Ta) (C1 : List Cell), σ' = [some (V.ref f.h), some (.ref ka), some (.int p), some (.int v), some (.int ((p / 4 : Nat) : Int)), some (.ref ua), some (.bl on), v7] ∧ OT f (lev + 1) t1 C1 ∧ TaOk n t1 ∧ ThTa t1 ∧ t1.log.length ≤ t.log.length + 2 * gOf n + 2 ∧
        changeL (ops n) (ruOf u lev hand) (ls.map (·.l)) t p v = (ls1.map (·.l), if (on || !u.bk) = true then passC (ops n) [.int lev, .int hand] t1 p v else t1) ∧ Own H' (ostC (sa, ls1) ++ (C1 ++ R)), ?_, ?_⟩
    · refine ⟨_, rfl, on, rfl, ?_⟩
      cases hon2 : on with
      | true =>
        rw [hon2] at hon
        have h0 : fnd (p / 4) (ls.map (·.l)) = none ∧ u.inn = false := by simpa using hon.symm
        have h1 : u.inn = false ∧ fnd (p / 4) (ls.map (·.l)) = none := ⟨h0.2, h0.1⟩
        refine iteF ⟨none, ls, t, C, rfl, hC, ht, hth, by omega, ?_, O1⟩
        unfold changeL
        rw [if_pos (show (ruOf u lev hand).inn = false ∧ _ from h1)]
        rfl
      | false =>
        rw [hon2] at hon
        have h1 : ¬ ((ruOf u lev hand).inn = false ∧ fnd (p / 4) (ls.map (·.l)) = none) := fun ⟨z1, z2⟩ => by
          have z1 : u.inn = false := z1
          rw [z1, z2, decide_eq_true rfl] at hon
          cases hon
        refine iteT ?_
        refine ⟨_, rfl, _, rfl, _, rfl, f, ka, lev, hand, p / 4, sa, ls, u, t, C, R, rfl, hn, hb, hu, hf, hka, hset, hls, ht, hlb.le (by omega), hC, O1, fun H2 ls1 l C2 h2 h3 h4 O2 => ?_⟩
        obtain ⟨_, w2, ⟨l2, h5, h6, h7⟩, w4⟩ := reachL_ok (ops_ok n) (ruOf_ok huo lev hand) hls ht hb
        obtain ⟨y1, y2⟩ := reach_th (ops_th n) hthl hth (p / 4)
        have eh : changeL (ops n) (ruOf u lev hand) (ls.map (·.l)) t p v = ((reachL (ops n) (ruOf u lev hand) (ls.map (·.l)) t (p / 4)).1.set (reachL (ops n) (ruOf u lev hand) (ls.map (·.l)) t (p / 4)).2.2 (setCell u.bk (lnAt (reachL (ops n) (ruOf u lev hand) (ls.map (·.l)) t (p / 4)).1 (reachL (ops n) (ruOf u lev hand) (ls.map (·.l)) t (p / 4)).2.2) p v),
            if u.bk = true then (reachL (ops n) (ruOf u lev hand) (ls.map (·.l)) t (p / 4)).2.1 else passC (ops n) [.int lev, .int hand] (reachL (ops n) (ruOf u lev hand) (ls.map (·.l)) t (p / 4)).2.1 p v) := by
          unfold changeL
          rw [if_neg h1]
          rfl
        generalize reachL (ops n) (ruOf u lev hand) (ls.map (·.l)) t (p / 4) = re at w2 h5 w4 y1 y2 h2 h3 h4 eh
        have hl5 : (ls1.map (·.l))[re.2.2]? = some l.l := by rw [List.getElem?_map, h3]; rfl
        rw [← h2] at h5 y1 eh
        rw [hl5] at h5
        have el2 : l.l = l2 := Option.some.inj h5
        rw [← el2] at h7 h6
        rw [lnAt_get hl5] at eh
        have hns := h7.ns
        have hdd : (u.bk || l.l.d) = u.bk := by
          cases hbk : u.bk with
          | true => rfl
          | false => exact y1 hbk l.l (List.mem_of_getElem? hl5)
        have O3 := O2.perm (L' := (l.na, .lst (l.l.ns.map V.int)) :: (l.a, .lst [.int l.l.b, .ref l.na, .bl l.l.d]) :: (((sa, .lst (ls1.map fun l => V.ref l.a)) :: olnsC (ls1.eraseIdx re.2.2)) ++ (C2 ++ R))) ((List.Perm.append_right _ (ost_focus h3)).trans (by unfold olnC; walk_at "perm"))
        refine ⟨_, rfl, _, rfl, l.a, _, 1, .ref l.na, rfl, rfl, SqL.of O3.a1, rfl, _, rfl, _, _, rfl, rfl, (by show (0 : Int) < 4; decide), l.na, _, _, p % 4, rfl, rfl, O3.a0, ?_, ?_⟩
        · have e4 : (p : Int) % 4 = ((p % 4 : Nat) : Int) := by omega
          rw [List.length_map, hns]
          show ixN 4 ((p : Int) % 4) = some (p % 4)
          rw [e4]
          exact ixN_nat (by omega)
        have O4 := O3.set (o' := .lst ((l.l.ns.map V.int).set (p % 4) (.int v)))
        have hU4 : SqT K _ ua u.vs := SqT.of (O4.2 _ (show (ua, HO.tup u.vs) ∈ _ by simp [hua]))
        refine ⟨_, rfl, ua, _, 2, .str (sBk u.bk), rfl, rfl, hU4, rfl, rfl, _, rfl, l.a, _, 2, 2, rfl, rfl, O4.a1, rfl, ?_⟩
        have O5 := (O4.perm (L' := (l.a, .lst [.int l.l.b, .ref l.na, .bl l.l.d]) :: (l.na, .lst ((l.l.ns.map V.int).set (p % 4) (.int v))) :: (((sa, .lst (ls1.map fun l => V.ref l.a)) :: olnsC (ls1.eraseIdx re.2.2)) ++ (C2 ++ R))) (by walk_at "perm")).set (o' := .lst [.int l.l.b, .ref l.na, .bl (decide (V.str (sBk u.bk) = V.str "back"))])
        refine ⟨_, ls1.set re.2.2 ⟨l.a, l.na, setCell u.bk l.l p v⟩, re.2.1, C2, rfl, h4, w2, y2, w4, ?_, ?_⟩
        · rw [eh, List.map_set]
          cases u.bk <;> rfl
        · refine O5.perm ?_
          rw [dec_bk, ← List.map_set]
          refine List.Perm.trans ?_ (List.Perm.append_right _ (ost_back (sa := sa) (l' := ⟨l.a, l.na, setCell u.bk l.l p v⟩) h3 rfl))
          unfold olnC setCell
          dsimp only
          rw [hdd]
          walk_at "perm"
    rintro σ' H2 ⟨v7, ls1, t1, C1, rfl, hC1, ht1, hth1, hl1, eh, O2⟩
    have m2 : ∀ {c : Cell}, c ∈ R → H2 c.1 = some c.2 := fun hc => O2.2 _ (by simp [hc])
    have hg := gOf_le (n := n) (by omega)
    rw [eh] at k
    refine (show ∀ Q' : Bool → Hp → Prop, Q' (on || !u.bk) H2 → tOr (tB (tVar 6)) (tTest (tOp rEq (tOp (rIxT K) (tVar 5) (tC (.int 2))) (tC (.str "through")))) [some (V.ref f.h), some (.ref ka), some (.int p), some (.int v), some (.int ((p / 4 : Nat) : Int)), some (.ref ua), some (.bl on), v7] H2 Q' from fun Q' h => ?_) _ ?_
    · refine ⟨_, rfl, on, rfl, ?_⟩
      cases hon2 : on with
      | true =>
        rw [hon2] at h
        exact iteT h
      | false =>
        rw [hon2] at h
        exact iteF ⟨_, rfl, ua, _, 2, .str (sBk u.bk), rfl, rfl, SqT.of (m2 hua), rfl, rfl, !u.bk, by rw [dec_th], h⟩
    cases hgo : (on || !u.bk) with
    | false =>
      rw [hgo] at k
      exact iteF (k H2 ls1 C1 rfl hC1 O2)
    | true =>
      rw [hgo] at k
      refine iteT ?_
      obtain ⟨as, Z, hal, hCp, hnote⟩ := hC1.log
      have O4 := O2.perm (L' := (f.lg, .lst (as.map V.ref)) :: (ostC (sa, ls1) ++ (Z ++ R))) ((List.Perm.append_left _ (List.Perm.append_right _ hCp)).trans (by walk_at "perm"))
      refine ⟨_, rfl, f.h, _, rfl, hf.gLog (m2 hf.h), .inl ⟨rfl, _, SqL.of O4.a0⟩, _, rfl, _, rfl, by show 2 ≤ sizeLine; decide, fun q1 hq1 => ?_⟩
      have O5 := O4.new (o := .tup [.str "cell", .int p]) hq1
      refine ⟨ka, q1, [.int lev, .int hand], [.str "cell", .int p], rfl, rfl, SqT.of (O5.mem (by simp [show (ka, HO.tup [.int lev, .int hand]) ∈ R from hka])), SqT.of O5.a0, by show 4 ≤ sizeLine; decide, (fun z => nomatch z), (fun _ z => nomatch z), fun _ _ q2 hq2 => ?_⟩
      have O6 := O5.new (p := q2) (o := .tup ([.int lev, .int hand] ++ [.str "cell", .int p])) hq2
      refine ⟨f.lg, _, _, rfl, rfl, O6.a2, by rw [List.length_map]; exact size1 (by omega), ?_⟩
      have O7 := (O6.perm (L' := (f.lg, .lst (as.map V.ref)) :: (q1, .tup [.str "cell", .int p]) :: (q2, .tup ([.int lev, .int hand] ++ [.str "cell", .int p])) :: (ostC (sa, ls1) ++ (Z ++ R))) (by walk_at "perm")).set (o' := .lst (as.map V.ref ++ [.ref q2]))
      generalize upd _ f.lg _ = H7 at O7 ⊢
      obtain ⟨C7, hC7, hC7p⟩ := hnote q2 [.int lev, .int hand] "cell" p
      have O8 : Own H7 (C7 ++ (ostC (sa, ls1) ++ R)) := Own.perm (Own.right (L' := [(q1, .tup [.str "cell", .int p])]) (O7.perm (L' := [(q1, .tup [.str "cell", .int p])] ++ (((f.lg, .lst (as.map V.ref ++ [.ref q2])) :: (q2, .tup ([.int lev, .int hand] ++ [.str "cell", .int p])) :: Z) ++ (ostC (sa, ls1) ++ R))) (by walk_at "perm"))) (List.Perm.append_right _ hC7p.symm)
      have hs1 : ∀ c ∈ R, c ∈ C7 ++ (ostC (sa, ls1) ++ R) := fun c hc => by simp [hc]
      refine ⟨_, rfl, _, rfl, _, rfl, f, ka, lev, hand, n, C7 ++ (ostC (sa, ls1) ++ R), rfl, hn, hf.mono hs1, hs1 _ hka, O8, fun kv N H8 hkv O9 => ?_⟩
      refine ⟨_, rfl, _, rfl, f, kv, lev + 1, p, v, t1.note [.int lev, .int hand] "cell" p, C7, N ++ (ostC (sa, ls1) ++ R), rfl, by omega, hkv.mono fun c hc => by simp [hc], hp, hf.mono fun c hc => by simp [hc], note_ok ht1 _ _ _, hth1.note _ _ _, ⟨hlb.1, by rw [note_len]; omega⟩, hC7, O9.perm (by walk_at "perm"), fun H9 C9 hC9 O10 => ?_⟩
      exact k H9 ls1 C9 rfl hC9 (Own.right (L' := N) (O10.perm (by walk_at "perm")))
theorem ok_o_ch (T : Txt K mg) (hv : 1 ≤ lv) (Gc : FnOk P w K mg base CX0 lv (He.fAd K ("_law_comes", none)) T.fd__law_comes ["_law_h", "_law_key", "_law_block", "_law_numbers"] (spOComes K n))
    (Gb : FnOk P w K mg base CX0 lv (He.fAd K ("_law_reached", none)) T.fd__law_reached ["_law_h", "_law_key", "_law_block"] (spOBr K n))
    (Ge : FnOk P w K mg base CX0 lv (He.fAd K ("_law_cell", none)) T.fd__law_cell ["_law_h", "_law_key", "_law_place_here", "_law_number"] (spOCh K n)) :
    FnOk P w K mg base CX0 (lv + 4) (He.fAd K ("_law_cell", none)) T.fd__law_cell ["_law_h", "_law_key", "_law_place_here", "_law_number"] (spOCh K (n + 1)) := (ok_o_change T hv Gc Gb Ge).imp fun vs H Q E h => by
  obtain ⟨f, kv, lev, p, v, t, C, R, rfl, hn, ⟨ka, rfl, hka⟩, hp, hf, ht, hth, hlb, hC, O, k⟩ := h
  obtain ⟨r, rs, ers, hr0, ht2⟩ := ht.uncons
  obtain ⟨y1, y2⟩ := hth.tail ers
  obtain ⟨C1, C2, hC1, hC2, rfl⟩ := hC.uncons ers
  obtain ⟨sa, ls, W, u, hset, hu, eru, els, hCp, hput⟩ := hC1.at hr0.s0 (p / 4)
  rw [ch_cons ers, ← els, eru] at k
  have hls : LsOk (ruOf u lev 0) (ls.map (·.l)) := by rw [← eru, els]; exact hr0.ls (p / 4)
  have hthl : ThL (ruOf u lev 0) (ls.map (·.l)) := by rw [← eru, els]; exact y1.lsT (p / 4)
  have hlb2 := hlb.2
  have hlb1 := hlb.1
  refine ⟨f, ka, lev, 0, p, v, sa, ls, u, { t with rs := rs }, C2, W ++ R, rfl, by omega, hp, hu, hf.mono fun c hc => by simp [hc], hka.mono fun c hc => by simp [hc], hset.mono fun c hc => by simp [hc], hls, hthl, ht2, y2, ⟨by omega, by show t.log.length + _ + _ ≤ _; omega⟩, hC2, O.perm ((List.Perm.append_right _ (List.Perm.append_right _ hCp)).trans (by walk_at "perm")), fun H' ls' C' h1 h2 O' => ?_⟩
  obtain ⟨C3, hC3, hp3⟩ := hput ls'
  rw [← h1] at k
  refine k H' (C3 ++ C') (OT.cons hC3 h2) (O'.perm ?_)
  refine List.Perm.trans ?_ (List.Perm.append_right _ (List.Perm.append_right _ hp3.symm))
  walk_at "perm"
/-- the three, at every depth -/
def oLv (n : Nat) : Nat := 4 * n + 1
theorem ok_o_all (T : Txt K mg) : ∀ n : Nat, FnOk P w K mg base CX0 (oLv n) (He.fAd K ("_law_comes", none)) T.fd__law_comes ["_law_h", "_law_key", "_law_block", "_law_numbers"] (spOComes K n) ∧
    FnOk P w K mg base CX0 (oLv n) (He.fAd K ("_law_reached", none)) T.fd__law_reached ["_law_h", "_law_key", "_law_block"] (spOBr K n) ∧
    FnOk P w K mg base CX0 (oLv n) (He.fAd K ("_law_cell", none)) T.fd__law_cell ["_law_h", "_law_key", "_law_place_here", "_law_number"] (spOCh K n)
  | 0 => ⟨ok_o_comes0 T, ok_o_br0 T, ok_o_ch0 T⟩
  | n + 1 => by
    obtain ⟨h1, h2, h3⟩ := ok_o_all T n
    have hv : 1 ≤ oLv n := by unfold oLv; omega
    have e : oLv (n + 1) = oLv n + 4 := by unfold oLv; omega
    rw [e]
    exact ⟨(ok_o_comes T hv h1).mono (by omega), (ok_o_br T hv h1 h2).mono (by omega), ok_o_ch T hv h1 h2 h3⟩
end
-- WwO6
/-! ### a hall of the law's own -/
def OOwn (f : Fx) : Nat → List Rm → List Cell → Prop
  | _, [], C => C = []
  | h, r :: rs, C => ∃ C1 C2 : List Cell, ORm f 0 h r C1 ∧ OOwn f (h + 1) rs C2 ∧ C = C1 ++ C2
def OHa (f : Fx) (ha : Ha) (C : List Cell) : Prop := ∃ Co Ct : List Cell, OOwn f 0 ha.own Co ∧ OT f 1 ha.t Ct ∧ C = Co ++ Ct
theorem OOwn.focus {f : Fx} : ∀ {rs : List Rm} {h0 i : Nat} {r : Rm} {C : List Cell}, OOwn f h0 rs C → rs[i]? = some r → ∃ C1 Z : List Cell, ORm f 0 (h0 + i) r C1 ∧ C.Perm (C1 ++ Z) ∧ ∀ (r' : Rm) (C1' : List Cell), ORm f 0 (h0 + i) r' C1' → ∃ C', OOwn f h0 (rs.set i r') C' ∧ C'.Perm (C1' ++ Z)
  | [], h0, i, r, C, h, e => by simp at e
  | a :: rs, h0, 0, r, C, h, e => by
    obtain ⟨C1, C2, h1, h2, rfl⟩ := h
    have e1 : a = r := by simpa using e
    subst e1
    exact ⟨C1, C2, h1, List.Perm.refl _, fun r' C1' h' => ⟨C1' ++ C2, ⟨C1', C2, h', h2, rfl⟩, List.Perm.refl _⟩⟩
  | a :: rs, h0, i + 1, r, C, h, e => by
    obtain ⟨C1, C2, h1, h2, rfl⟩ := h
    obtain ⟨D1, Z, g1, g2, g3⟩ := OOwn.focus h2 (i := i) (r := r) (by simpa using e)
    have e2 : h0 + 1 + i = h0 + (i + 1) := by omega
    rw [e2] at g1 g3
    refine ⟨D1, C1 ++ Z, g1, (List.Perm.append_left _ g2).trans (by walk_at "perm"), fun r' C1' h' => ?_⟩
    obtain ⟨C', k1, k2⟩ := g3 r' C1' h'
    exact ⟨C1 ++ C', ⟨C1, C', h1, k1, rfl⟩, (List.Perm.append_left _ k2).trans (by walk_at "perm")⟩
structure ThHa (ha : Ha) : Prop where
  own : ∀ r ∈ ha.own, ThRm r
  t : ThTa ha.t
theorem ThHa.set {ha : Ha} (h : ThHa ha) {i : Nat} {r : Rm} {t : Ta} (hr : ThRm r) (ht : ThTa t) : ThHa ⟨ha.own.set i r, t⟩ := ⟨fun q hm => by
  rcases List.mem_or_eq_of_mem_set (show q ∈ ha.own.set i r from hm) with hm | e
  · exact h.own q hm
  · rw [e]
    exact hr, ht⟩
theorem ThHa.yieldAt {n : Nat} {ha : Ha} (h : ThHa ha) (b : Nat) (g : Bool) (i : Nat) : ThHa (yieldAt n ha b g i) := by
  unfold Ww.yieldAt
  cases e : ha.own[i]? with
  | none => exact h
  | some r =>
    have hr := h.own r (List.mem_of_getElem? e)
    obtain ⟨h1, h2⟩ := yield_th (ops_th n) (hr.lsT b) h.t b g
    exact h.set (hr.put h1) h2
theorem ThHa.askN {n : Nat} {ha : Ha} (h : ThHa ha) (b hand : Nat) (g : Bool) : ∀ k, ThHa (askN n hand b g k ha)
  | 0 => h
  | k + 1 => by
    have ih := ThHa.askN (n := n) h b hand g k
    unfold Ww.askN
    split
    · exact ih
    · exact ih.yieldAt b g k
theorem ThHa.deed {n : Nat} {ha : Ha} (h : ThHa ha) (d : Deed) : ThHa (doDeed n ha d).2 := by
  cases d with
  | look hh p =>
    have h1 : ThHa (ask n ha hh (p / 4) false) := h.askN (p / 4) hh false _
    show ThHa (lookAt n (ask n ha hh (p / 4) false) hh p).2
    generalize ask n ha hh (p / 4) false = h2 at h1
    unfold lookAt
    cases e : h2.own[hh]? with
    | none => exact h1
    | some r =>
      have hr := h1.own r (List.mem_of_getElem? e)
      obtain ⟨a1, a2⟩ := reach_th (ops_th n) (hr.lsT (p / 4)) h1.t (p / 4)
      exact h1.set (hr.put a1) a2
  | set hh p v =>
    have h1 : ThHa (ask n ha hh (p / 4) true) := h.askN (p / 4) hh true _
    show ThHa (changeAt n (ask n ha hh (p / 4) true) hh p v)
    generalize ask n ha hh (p / 4) true = h2 at h1
    unfold changeAt
    cases e : h2.own[hh]? with
    | none => exact h1
    | some r =>
      have hr := h1.own r (List.mem_of_getElem? e)
      obtain ⟨a1, a2⟩ := change_th (ops_th n) (hr.lsT (p / 4)) h1.t p v
      exact h1.set (hr.put a1) a2
theorem clean_th (r : Rm) : ThRm (cleanR r) := fun ls hm _ l hl => by
  obtain ⟨ls0, h0, rfl⟩ := List.mem_map.mp (show ls ∈ r.ss.map _ from hm)
  obtain ⟨l0, h1, rfl⟩ := List.mem_map.mp hl
  rfl
theorem ownT_th {n : Nat} : ∀ {rs : List Rm} {t : Ta}, ThTa t → ThTa (ownT n rs t)
  | [], t, h => h
  | r :: rs, t, h => ownT_th (rs := rs) (settleS_th (u := r.ru) (ops_th n) (ss := r.ss) h).2
theorem shT_th : ∀ {n : Nat} {t : Ta}, ThTa t → ThTa (shT n t)
  | 0, t, h => h
  | n + 1, t, h => by
    cases e : t.rs with
    | nil =>
      show ThTa (match t.rs with | [] => t | r :: rs => Ta.cons (cleanR r) (shT n (settleR n r { t with rs := rs }).2))
      rw [e]
      exact h
    | cons r rs =>
      rw [shT_cons e]
      exact .cons (clean_th r) (shT_th (settleS_th (u := r.ru) (ops_th n) (ss := r.ss) (h.tail e).2).2)
theorem ThHa.settle {n : Nat} {ha : Ha} (h : ThHa ha) : ThHa (hSettle n ha) := ⟨fun r hm => by
  obtain ⟨r0, h0, rfl⟩ := List.mem_map.mp (show r ∈ ha.own.map cleanR from hm)
  exact clean_th r0, shT_th (ownT_th h.t)⟩
theorem mk_th (u : Rul) (tl : List V) : ThRm (mkRm u tl) := fun ls hm _ l hl => by
  rw [List.eq_of_mem_replicate (show ls ∈ List.replicate u.s [] from hm)] at hl
  cases hl
theorem shRs_th : ∀ (lev : Nat) (us : List Rul), ∀ r ∈ shRs lev us, ThRm r
  | _, [], r, h => by cases h
  | lev, u :: us, r, h => by
    rcases List.mem_cons.mp (show r ∈ mkRm u [.int lev, .int 0] :: shRs (lev + 1) us from h) with e | h
    · rw [e]
      exact mk_th _ _
    · exact shRs_th (lev + 1) us r h
theorem hall0_th (us : List Rul) (m : Nat) : ThHa (hall0 us m) := ⟨fun r h => by
  obtain ⟨x, _, rfl⟩ := List.mem_map.mp (show r ∈ ownRs (rul0 us) m from h)
  exact mk_th _ _, shRs_th 1 _⟩
def Deed.gone : Deed → Bool
  | .look _ _ => false
  | .set _ _ _ => true
def spODone (K : PySem.W.Frag) (n : Nat) : Sp := fun vs H Q _ => ∃ (f : Fx) (da : Addr) (m : Nat) (d : Deed) (ha : Ha) (C R : List Cell), vs = [.ref f.h, .ref da] ∧ d.ok m ∧ (da, HO.tup d.vs) ∈ R ∧ FxAt f R ∧ f.us.length = n + 1 ∧ f.m = m ∧ HaOk n m ha ∧ ThHa ha ∧ LH ha ∧ OHa f ha C ∧ Own H (C ++ R) ∧
  ∀ (C' : List Cell) (H' : Hp), OHa f (doDeed n ha d).2 C' → Own H' (C' ++ R) → Q (doDeed n ha d).1 H'
section
variable {P : Program} {w : World} {K : PySem.W.Frag} {mg : Str → Option Value} {base : Heap} {n lv : Nat}
end
-- WwO7
/-! ### the keys of the rooms, in order -/
def keysL (n m : Nat) : List (Nat × Nat) := (List.range m).map (fun h => (0, h)) ++ (List.range n).map (fun j => (j + 1, 0))
def keyI (k : Nat × Nat) : List Int := [(k.1 : Int), (k.2 : Int)]
def NoPair (C : List Cell) : Prop := ∀ c ∈ C, ∀ xs, c.2 = HO.tup xs → xs.length ≠ 2
theorem NoPair.app {C D : List Cell} (h1 : NoPair C) (h2 : NoPair D) : NoPair (C ++ D) := fun c hc => by
  rcases List.mem_append.mp hc with hc | hc
  · exact h1 c hc
  · exact h2 c hc
theorem noPair_lst {C : List Cell} (h : ∀ c ∈ C, ∃ xs, c.2 = HO.lst xs) : NoPair C := fun c hc xs e => by
  obtain ⟨ys, h⟩ := h c hc
  rw [h] at e
  cases e
theorem olns_lst : ∀ (ls : List OLn), ∀ c ∈ olnsC ls, ∃ xs, c.2 = HO.lst xs
  | [], c, hc => by cases hc
  | l :: r, c, hc => by
    rcases List.mem_append.mp (show c ∈ olnC l ++ olnsC r from hc) with hc | hc
    · unfold olnC at hc
      rcases List.mem_cons.mp hc with e | hc
      · rw [e]
        exact ⟨_, rfl⟩
      · rw [List.mem_singleton.mp hc]
        exact ⟨_, rfl⟩
    · exact olns_lst r c hc
theorem osts_lst : ∀ (ss : List (Addr × List OLn)), ∀ c ∈ ostsC ss, ∃ xs, c.2 = HO.lst xs
  | [], c, hc => by cases hc
  | s :: r, c, hc => by
    rcases List.mem_append.mp (show c ∈ ostC s ++ ostsC r from hc) with hc | hc
    · rcases List.mem_cons.mp (show c ∈ (s.1, HO.lst _) :: olnsC s.2 from hc) with e | hc
      · rw [e]
        exact ⟨_, rfl⟩
      · exact olns_lst s.2 c hc
    · exact osts_lst r c hc
theorem ORm.noPair {f : Fx} {lev hand : Nat} {r : Rm} {C : List Cell} (h : ORm f lev hand r C) : NoPair C := by
  obtain ⟨sl, ss, u, _, _, _, _, _, rfl⟩ := h
  refine noPair_lst fun c hc => ?_
  rcases List.mem_cons.mp hc with e | hc
  · rw [e]
    exact ⟨_, rfl⟩
  · exact osts_lst ss c hc
theorem ORep.noPair {f : Fx} : ∀ {rs : List Rm} {lev : Nat} {C : List Cell}, ORep f lev rs C → NoPair C
  | [], lev, C, h => by
    have : C = [] := h
    subst this
    exact fun c hc => by cases hc
  | r :: rs, lev, C, h => by
    obtain ⟨C1, C2, h1, h2, rfl⟩ := h
    exact h1.noPair.app (ORep.noPair h2)
theorem OOwn.noPair {f : Fx} : ∀ {rs : List Rm} {h0 : Nat} {C : List Cell}, OOwn f h0 rs C → NoPair C
  | [], h0, C, h => by
    have : C = [] := h
    subst this
    exact fun c hc => by cases hc
  | r :: rs, h0, C, h => by
    obtain ⟨C1, C2, h1, h2, rfl⟩ := h
    exact h1.noPair.app (OOwn.noPair h2)
theorem logC_noPair : ∀ {as : List Addr} {es : List Ent}, (∀ e ∈ es, EntI e) → NoPair (logC as es)
  | [], _, _ => fun c hc => by cases hc
  | _ :: _, [], _ => fun c hc => by cases hc
  | a :: as, e :: es, h => fun c hc => by
    rcases List.mem_cons.mp (show c ∈ (a, HO.tup e.vs) :: logC as es from hc) with q | hc
    · intro xs ex
      rw [q] at ex
      injection ex with ex
      obtain ⟨⟨x, y, et⟩, _⟩ := h e List.mem_cons_self
      rw [← ex]
      unfold Ent.vs
      rw [et]
      show 4 ≠ 2
      omega
    · exact logC_noPair (as := as) (es := es) (fun e he => h e (List.mem_cons_of_mem _ he)) c hc
theorem OT.noPair {f : Fx} {lev : Nat} {t : Ta} {C : List Cell} (h : OT f lev t C) (hl : ∀ e ∈ t.log, EntI e) : NoPair C := by
  obtain ⟨C1, D, h1, ⟨as, h2, rfl⟩, rfl⟩ := h
  refine h1.noPair.app fun c hc => ?_
  rcases List.mem_cons.mp hc with e | hc
  · intro xs ex
    rw [e] at ex
    cases ex
  · rcases List.mem_cons.mp hc with e | hc
    · intro xs ex
      rw [e] at ex
      cases ex
    · exact logC_noPair hl c hc
theorem OHa.noPair {f : Fx} {ha : Ha} {C : List Cell} (h : OHa f ha C) (hp : HaP EntI ha) : NoPair C := by
  obtain ⟨Co, Ct, h1, h2, rfl⟩ := h
  exact h1.noPair.app (h2.noPair hp.t.log)
/-- what stands in the heap may be taken in -/
theorem Own.grow {H : Hp} {C : List Cell} : ∀ {bs R : List Cell}, Own H (C ++ R) → (∀ b ∈ bs, H b.1 = some b.2 ∧ b ∉ C) → ∃ N : List Cell, Own H (C ++ (N ++ R)) ∧ ∀ b ∈ bs, b ∈ N ++ R
  | [], R, O, _ => ⟨[], O, fun b hb => by cases hb⟩
  | b :: bs, R, O, h => by
    obtain ⟨N, O1, hN⟩ := Own.grow (bs := bs) O fun c hc => h c (List.mem_cons_of_mem _ hc)
    obtain ⟨h1, h2⟩ := h b List.mem_cons_self
    by_cases q : b.1 ∈ (C ++ (N ++ R)).map (·.1)
    · obtain ⟨c, hc, ec⟩ := List.mem_map.mp q
      have e2 := O1.2 c hc
      rw [ec, h1] at e2
      have e3 : b = c := Prod.ext ec.symm (Option.some.inj e2)
      refine ⟨N, O1, fun x hx => ?_⟩
      rcases List.mem_cons.mp hx with e | hx
      · rw [e]
        rcases List.mem_append.mp hc with hc | hc
        · rw [← e3] at hc
          exact absurd hc h2
        · rw [e3]
          exact hc
      · exact hN x hx
    · refine ⟨b :: N, Own.perm (L := b :: (C ++ (N ++ R))) ⟨List.nodup_cons.mpr ⟨q, O1.1⟩, fun c hc => ?_⟩ (by walk_at "perm"), fun x hx => ?_⟩
      · rcases List.mem_cons.mp hc with e | hc
        · rw [e]
          exact h1
        · exact O1.2 c hc
      · rcases List.mem_cons.mp hx with e | hx
        · rw [e]
          exact List.mem_cons_self
        · exact List.mem_cons_of_mem _ (hN x hx)
theorem keysL_len (n m : Nat) : (keysL n m).length = m + n := by
  unfold keysL
  rw [List.length_append, List.length_map, List.length_map, List.length_range, List.length_range]
theorem keysL_own {n m i : Nat} (h : i < m) : (keysL n m)[i]? = some (0, i) := by
  unfold keysL
  rw [List.getElem?_append_left (by rw [List.length_map, List.length_range]; exact h), List.getElem?_map, List.getElem?_range h]
  rfl
theorem keysL_sh {n m j : Nat} (h : j < n) : (keysL n m)[m + j]? = some (j + 1, 0) := by
  unfold keysL
  rw [List.getElem?_append_right (by rw [List.length_map, List.length_range]; omega), List.length_map, List.length_range, Nat.add_sub_cancel_left, List.getElem?_map, List.getElem?_range h]
  rfl
theorem keysL_bd {n m : Nat} (hn : n ≤ 2) (hm : m ≤ 3) {k : Nat × Nat} (h : k ∈ keysL n m) : k.1 ≤ 2 ∧ k.2 ≤ 2 := by
  rcases List.mem_append.mp h with h | h
  · obtain ⟨x, hx, rfl⟩ := List.mem_map.mp h
    have := List.mem_range.mp hx
    exact ⟨by show 0 ≤ 2; omega, by show x ≤ 2; omega⟩
  · obtain ⟨x, hx, rfl⟩ := List.mem_map.mp h
    have := List.mem_range.mp hx
    exact ⟨by show x + 1 ≤ 2; omega, by show 0 ≤ 2; omega⟩
theorem code2 (a b : Int) : TS.code 10 [a, b] = a * 10 + b := by
  show a * 10 ^ 1 + (b * 10 ^ 0 + 0) = _
  omega
theorem keysL_sorted {n m : Nat} (hn : n ≤ 2) (hm : m ≤ 3) : ((keysL n m).map keyI).Pairwise fun a b => TS.code 10 a ≤ TS.code 10 b := by
  have h3 : ∀ n ≤ 2, ∀ m ≤ 3, ((keysL n m).map keyI).Pairwise fun a b => TS.code 10 a ≤ TS.code 10 b := by decide
  exact h3 n hn m hm
theorem sort_keys {f : Fx} {H : Hp} {C R : List Cell} {n m : Nat} {Q : VK} (hf : FxAt f R) (hes : f.es.map (·.1) = keysL n m) (hn : n ≤ 2) (hm : m ≤ 3) (hC : NoPair C) (O : Own H (C ++ R))
    (k : ∀ (p : Addr) (bs : List Addr) (N : List Cell) (H' : Hp), bs.length = m + n → (∀ (i : Nat) (a : Addr), bs[i]? = some a → ∃ lev hand, (keysL n m)[i]? = some (lev, hand) ∧ KeyAt (N ++ R) a lev hand) → Own H' ((p, .lst (bs.map V.ref)) :: (C ++ (N ++ R))) → Q (.ref p) H') : rSortDT 2 10 [.ref f.rd] H Q := by
  refine ⟨f.rd, fxE f.es, (keysL n m).map keyI, rfl, .inl (O.mem (List.mem_append_right _ hf.rd)), ?_, ?_, ?_, fun bs p hp hs hb hnew => ?_⟩
  · unfold fxE
    rw [← hes, List.map_map, List.map_map, List.map_map]
    rfl
  · rw [List.length_map, keysL_len]
    omega
  · intro x hx
    obtain ⟨q, hq, rfl⟩ := List.mem_map.mp hx
    obtain ⟨b1, b2⟩ := keysL_bd hn hm hq
    refine ⟨rfl, fun z hz => ?_⟩
    unfold keyI at hz
    rcases List.mem_cons.mp hz with e | hz
    · omega
    · have := List.mem_singleton.mp hz
      omega
  · have es : bs.map (·.2) = (keysL n m).map keyI := by
      refine List.Perm.eq_of_pairwise (le := fun a b => TS.code 10 a ≤ TS.code 10 b) (fun a b ha hb h1 h2 => ?_) (by rw [List.pairwise_map]; exact hs) (keysL_sorted hn hm) hp
      have hka := hp.mem_iff.mp ha
      obtain ⟨qa, hqa, rfl⟩ := List.mem_map.mp hka
      obtain ⟨qb, hqb, rfl⟩ := List.mem_map.mp hb
      obtain ⟨b1, b2⟩ := keysL_bd hn hm hqa
      obtain ⟨b3, b4⟩ := keysL_bd hn hm hqb
      unfold keyI at h1 h2 ⊢
      rw [code2, code2] at h1 h2
      have e1 : (qa.1 : Int) = qb.1 := by omega
      have e2 : (qa.2 : Int) = qb.2 := by omega
      rw [e1, e2]
    obtain ⟨N, O1, hN⟩ := Own.grow (bs := bs.map fun b => (b.1, HO.tup (b.2.map V.int))) O fun c hc => by
      obtain ⟨b, hbm, rfl⟩ := List.mem_map.mp hc
      refine ⟨hb b hbm, fun hcm => ?_⟩
      refine hC _ hcm _ rfl ?_
      have : b.2 ∈ (keysL n m).map keyI := by rw [← es]; exact List.mem_map.mpr ⟨b, hbm, rfl⟩
      obtain ⟨q, _, eq⟩ := List.mem_map.mp this
      rw [List.length_map, ← eq]
      rfl
    have := k p (bs.map (·.1)) N (upd H p (.lst (bs.map fun b => V.ref b.1))) ?_ ?_ ?_
    · exact this
    · have e := congrArg List.length es
      rw [List.length_map, List.length_map, keysL_len] at e
      rw [List.length_map]
      exact e
    · intro i a hi
      rw [List.getElem?_map] at hi
      cases eb : bs[i]? with
      | none =>
        rw [eb] at hi
        cases hi
      | some b =>
        rw [eb] at hi
        have ea : b.1 = a := Option.some.inj hi
        subst ea
        have e2 := congrArg (fun z : List (List Int) => z[i]?) es
        rw [List.getElem?_map, List.getElem?_map, eb] at e2
        cases ek : (keysL n m)[i]? with
        | none =>
          rw [ek] at e2
          cases e2
        | some q =>
          rw [ek] at e2
          have e3 : b.2 = keyI q := Option.some.inj e2
          refine ⟨q.1, q.2, rfl, ?_⟩
          have := hN (b.1, HO.tup (b.2.map V.int)) (List.mem_map.mpr ⟨b, List.mem_of_getElem? eb, rfl⟩)
          rw [e3] at this
          exact this
    · rw [List.map_map]
      exact O1.new hnew
-- WwO8
/-! ### settling the law's own rooms -/
theorem fnEx {P : Program} {w : World} {K : PySem.W.Frag} {mg : Str → Option Value} {base : Heap} {CX : CXT} {k : Nat} {f : Addr} {fd : FuncData} {ps : List Str} {n : Nat} {sp : Nat → Sp} (F : ∀ i, i ≤ n → FnOk P w K mg base CX k f fd ps (sp i)) :
    FnOk P w K mg base CX k f fd ps (fun vs H Q E => ∃ i, i ≤ n ∧ sp i vs H Q E) :=
  ⟨fun vs H Q E ⟨i, hi, h⟩ => (F i hi).len vs H Q E h, fun A outer s H args us vs Q E hr he hb hv ⟨i, hi, hs⟩ => (F i hi).run A outer s H args us vs Q E hr he hb hv hs⟩
theorem OOwn.snoc {f : Fx} : ∀ {rs : List Rm} {h0 : Nat} {r : Rm} {C C1 : List Cell}, OOwn f h0 rs C → ORm f 0 (h0 + rs.length) r C1 → OOwn f h0 (rs ++ [r]) (C ++ C1)
  | [], h0, r, C, C1, h, h1 => by
    have : C = [] := h
    subst this
    exact ⟨C1, [], h1, rfl, by simp⟩
  | a :: rs, h0, r, C, C1, h, h1 => by
    obtain ⟨D1, D2, g1, g2, rfl⟩ := h
    have e : h0 + (a :: rs).length = h0 + 1 + rs.length := by rw [List.length_cons]; omega
    rw [e] at h1
    exact ⟨D1, D2 ++ C1, g1, OOwn.snoc g2 h1, List.append_assoc ..⟩
def spOSettled (K : PySem.W.Frag) (n : Nat) : Sp := fun vs H Q _ => ∃ (f : Fx) (m : Nat) (ha : Ha) (C R : List Cell), vs = [.ref f.h] ∧ FxAt f R ∧ f.us.length = n + 1 ∧ f.es.map (·.1) = keysL n m ∧ HaOk n m ha ∧ LH ha ∧ HaP EntI ha ∧ OHa f ha C ∧ Own H (C ++ R) ∧
  ∀ (C' : List Cell) (H' : Hp), OHa f (hSettle n ha) C' → Own H' (C' ++ R) → Q .non H'
section
variable {P : Program} {w : World} {K : PySem.W.Frag} {mg : Str → Option Value} {base : Heap} {n lv : Nat}
end
-- WwO9
/-! ### moves of the law's own rooms -/
theorem lvW_snoc {log : List Ent} {t i a b : Nat} {e : Ent} (he : log[t]? = some e) (etl : e.tl = [.int a, .int b]) : lvW (log.take (t + 1)) i = lvW (log.take t) i ++ (if a = i then [e.w] else []) := by
  unfold lvW
  rw [take_snoc he, List.filter_append, List.map_append]
  congr 1
  by_cases z : a = i
  · rw [if_pos z]
    have : decide (e.tl.head? = some (V.int (i : Nat))) = true := by
      rw [etl, z]
      exact decide_eq_true rfl
    show ((match decide (e.tl.head? = some (V.int (i : Nat))) with | true => e :: [] | false => []) : List Ent).map (·.w) = [e.w]
    rw [this]
    rfl
  · rw [if_neg z]
    have : decide (e.tl.head? = some (V.int (i : Nat))) = false := by
      rw [etl]
      refine Bool.eq_false_iff.mpr fun q => ?_
      have q := Option.some.inj (of_decide_eq_true q)
      exact z (Int.ofNat.inj (V.int.inj q))
    show ((match decide (e.tl.head? = some (V.int (i : Nat))) with | true => e :: [] | false => []) : List Ent).map (·.w) = []
    rw [this]
    rfl
theorem lvW_len (log : List Ent) (i : Nat) : (lvW log i).length ≤ log.length := by
  unfold lvW
  rw [List.length_map]
  exact List.length_filter_le _ _
def wds : List Str := ["bring", "home", "cell"]
theorem mvOf_wds (log : List Ent) (i : Nat) : (mvOf log i).map V.int = wds.map fun w => V.int (((lvW log i).countP (· == w) : Nat) : Int) := rfl
def spOMoves (K : PySem.W.Frag) : Sp := fun vs H Q _ => ∃ (f : Fx) (n : Nat) (ha : Ha) (C R : List Cell), vs = [.ref f.h] ∧ FxAt f R ∧ f.us.length = n + 1 ∧ ha.t.log.length ≤ 990000 ∧ HaP EntI ha ∧ OHa f ha C ∧ Own H (C ++ R) ∧
  ∀ (p : Addr) (as : List Addr) (N : List Cell) (H' : Hp), TA N as ((List.range (n + 1)).map fun lev => (mvOf ha.t.log lev).map V.int) → Own H' ((p, .lst (as.map V.ref)) :: (N ++ (C ++ R))) → Q (.ref p) H'
section
variable {P : Program} {w : World} {K : PySem.W.Frag} {mg : Str → Option Value} {base : Heap} {n lv : Nat}
end
-- WwO10
/-! ### a hall of the law's own is made -/
abbrev EmR := ((Nat × Nat) × Addr) × List Addr
def emE (as : List Addr) : List Cell := as.map fun a => (a, HO.lst [])
def emC : List EmR → List Cell
  | [] => []
  | e :: r => ((e.1.2, .lst (e.2.map V.ref)) :: emE e.2) ++ emC r
theorem emC_app : ∀ (a b : List EmR), emC (a ++ b) = emC a ++ emC b
  | [], b => rfl
  | e :: a, b => by
    show ((e.1.2, HO.lst (e.2.map V.ref)) :: emE e.2) ++ emC (a ++ b) = _
    rw [emC_app a b]
    show _ = (((e.1.2, HO.lst (e.2.map V.ref)) :: emE e.2) ++ emC a) ++ emC b
    rw [List.append_assoc]
theorem keyOf_inj {a b c d : Nat} (h : keyOf a b = keyOf c d) : a = c ∧ b = d := by
  unfold keyOf at h
  injection h with h1 h2
  injection h2 with h2 _
  injection h1 with h1
  injection h2 with h2
  exact ⟨by omega, by omega⟩
theorem valV_at : ∀ {es : List ((Nat × Nat) × Addr)} {i lev hand : Nat} {sl : Addr}, (es.map (·.1)).Nodup → es[i]? = some ((lev, hand), sl) → valV (fxE es) (keyOf lev hand) = some (.ref sl)
  | [], i, lev, hand, sl, _, h => by simp at h
  | e :: es, 0, lev, hand, sl, _, h => by
    have : e = ((lev, hand), sl) := by simpa using h
    subst this
    exact valV_pos rfl
  | e :: es, i + 1, lev, hand, sl, nd, h => by
    have nd2 := List.nodup_cons.mp nd
    have h2 : es[i]? = some ((lev, hand), sl) := by simpa using h
    refine (valV_neg (fun q => nd2.1 ?_)).trans (valV_at nd2.2 h2)
    obtain ⟨q1, q2⟩ := keyOf_inj q
    refine List.mem_map.mpr ⟨((lev, hand), sl), List.mem_of_getElem? h2, ?_⟩
    show (lev, hand) = e.1
    exact Prod.ext q1.symm q2.symm
theorem putK_new {es : List ((Nat × Nat) × Addr)} {lev hand : Nat} {v : V} (h : (lev, hand) ∉ es.map (·.1)) : putK (fxE es) (keyOf lev hand) v = fxE es ++ [(keyOf lev hand, v)] := by
  unfold putK
  rw [if_neg]
  intro q
  obtain ⟨x, hx, hd⟩ := List.any_eq_true.mp q
  obtain ⟨e, he, rfl⟩ := List.mem_map.mp hx
  have := of_decide_eq_true hd
  obtain ⟨q1, q2⟩ := keyOf_inj this
  exact h (List.mem_map.mpr ⟨e, he, Prod.ext q1 q2⟩)
theorem sz_of {a b : Str} (h : ¬ (Sum.inr a : Key) = Sum.inr b) : (a = b) = False := eq_false fun e => h (by rw [e])
theorem merge_fx (f : Fx) : mergeK [] (fxH f) = fxH f := by
  unfold mergeK fxH
  simp [putK, sz_of nz1, sz_of nz2, sz_of nz3, sz_of nz4, sz_of nz5, sz_of nz6, sz_of nz7, sz_of nz8, sz_of nz9, sz_of nz0]
/-- a room without a line -/
theorem em_rm {f : Fx} {lev hand : Nat} {u : Rul} {sl : Addr} {sas : List Addr} (hv : valV (fxE f.es) (keyOf lev hand) = some (.ref sl)) (hu : f.us[lev]? = some u) (hs : sas.length = u.s) : ORm f lev hand (mkRm u [.int lev, .int hand]) ((sl, .lst (sas.map V.ref)) :: emE sas) := by
  refine ⟨sl, sas.map fun a => (a, []), u, hv, hu, rfl, by rw [List.length_map]; exact hs, ?_, ?_⟩
  · show List.replicate u.s [] = _
    rw [← hs, List.map_map]
    clear hs hv hu
    induction sas with
    | nil => rfl
    | cons a r ih =>
      rw [List.length_cons, List.replicate_succ, ih]
      rfl
  · have e1 : (sas.map fun a => ((a, []) : Addr × List OLn)).map (fun s => V.ref s.1) = sas.map V.ref := by
      rw [List.map_map]
      rfl
    rw [e1]
    congr 1
    clear hs hv hu e1
    induction sas with
    | nil => rfl
    | cons a r ih =>
      show (a, HO.lst []) :: emE r = ostC (a, []) ++ ostsC (r.map fun a => (a, []))
      rw [← ih]
      rfl
/-- the rooms that were made, in order -/
structure Em (us : List Rul) (L : List EmR) : Prop where
  us : ∀ e ∈ L, ∃ u, us[e.1.1.1]? = some u ∧ e.2.length = u.s
theorem em_own {f : Fx} (nd : (f.es.map (·.1)).Nodup) {u : Rul} (hu : f.us[0]? = some u) : ∀ {L : List EmR} {h0 k : Nat}, (L.map fun e => e.1.1) = (List.range k).map (fun h => (0, h0 + h)) → (∀ (i : Nat) (e : EmR), L[i]? = some e → f.es[h0 + i]? = some e.1) → (∀ e ∈ L, e.2.length = u.s) →
    OOwn f h0 ((List.range k).map fun h => mkRm u [.int ((0 : Nat) : Int), .int ((h0 + h : Nat) : Int)]) (emC L)
  | [], h0, k, hk, _, _ => by
    have : k = 0 := by
      have := congrArg List.length hk
      simpa using this.symm
    subst this
    rfl
  | e :: L, h0, k, hk, he, hs => by
    obtain ⟨k, rfl⟩ : ∃ k', k = k' + 1 := by
      have := congrArg List.length hk
      rw [List.length_map, List.length_map, List.length_range, List.length_cons] at this
      exact ⟨k - 1, by omega⟩
    rw [List.range_succ_eq_map, List.map_cons, List.map_cons, List.map_map] at hk
    rw [List.range_succ_eq_map, List.map_cons, List.map_map]
    injection hk with hk1 hk2
    have ee : e.1 = ((0, h0), e.1.2) := Prod.ext hk1 rfl
    refine ⟨_, emC L, em_rm (f := f) (lev := 0) (hand := h0) (u := u) (sl := e.1.2) (sas := e.2) ?_ hu (hs e List.mem_cons_self), ?_, rfl⟩
    · refine valV_at nd (i := h0) ?_
      have := he 0 e rfl
      rw [Nat.add_zero] at this
      rw [this, ← ee]
    · have ih := em_own nd hu (L := L) (h0 := h0 + 1) (k := k) ?_ (fun i e' hi => ?_) fun e' he' => hs e' (List.mem_cons_of_mem _ he')
      · have ef : ((List.range k).map ((fun h => mkRm u [.int ((0 : Nat) : Int), .int ((h0 + h : Nat) : Int)]) ∘ Nat.succ)) = (List.range k).map fun h => mkRm u [.int ((0 : Nat) : Int), .int ((h0 + 1 + h : Nat) : Int)] := by
          refine List.map_congr_left fun h _ => ?_
          show mkRm u [.int ((0 : Nat) : Int), .int ((h0 + (h + 1) : Nat) : Int)] = _
          have : h0 + (h + 1) = h0 + 1 + h := by omega
          rw [this]
        rw [ef]
        exact ih
      · rw [hk2]
        refine List.map_congr_left fun h _ => ?_
        show (0, h0 + (h + 1)) = (0, h0 + 1 + h)
        have : h0 + (h + 1) = h0 + 1 + h := by omega
        rw [this]
      · have := he (i + 1) e' (by simpa using hi)
        have e2 : h0 + 1 + i = h0 + (i + 1) := by omega
        rw [e2]
        exact this
theorem em_sh {f : Fx} (nd : (f.es.map (·.1)).Nodup) : ∀ {us : List Rul} {L : List EmR} {lev off : Nat}, us = f.us.drop lev → (L.map fun e => e.1.1) = (List.range us.length).map (fun j => (lev + j, 0)) → (∀ (i : Nat) (e : EmR), L[i]? = some e → f.es[off + i]? = some e.1) → (∀ e ∈ L, ∃ u, f.us[e.1.1.1]? = some u ∧ e.2.length = u.s) →
    ORep f lev (shRs lev us) (emC L)
  | [], L, lev, off, _, hk, _, _ => by
    have : L = [] := by
      have := congrArg List.length hk
      simpa using this
    subst this
    rfl
  | u :: us, L, lev, off, hd, hk, he, hs => by
    obtain ⟨e, L, rfl⟩ : ∃ e L', L = e :: L' := by
      cases L with
      | nil =>
        have := congrArg List.length hk
        simp at this
      | cons e L => exact ⟨e, L, rfl⟩
    rw [List.length_cons, List.range_succ_eq_map, List.map_cons, List.map_cons, List.map_map] at hk
    injection hk with hk1 hk2
    rw [Nat.add_zero] at hk1
    have ee : e.1 = ((lev, 0), e.1.2) := Prod.ext hk1 rfl
    have hu : f.us[lev]? = some u := by
      have := congrArg (fun z : List Rul => z[0]?) hd
      rw [List.getElem?_drop, Nat.add_zero] at this
      exact this.symm
    obtain ⟨u', hu', hsu⟩ := hs e List.mem_cons_self
    rw [hk1, hu] at hu'
    have euu : u = u' := Option.some.inj hu'
    subst euu
    refine ⟨_, emC L, em_rm (f := f) (lev := lev) (hand := 0) (u := u) (sl := e.1.2) (sas := e.2) ?_ hu hsu, ?_, rfl⟩
    · refine valV_at nd (i := off) ?_
      have := he 0 e rfl
      rw [Nat.add_zero] at this
      rw [this, ← ee]
    · refine em_sh nd (us := us) (L := L) (lev := lev + 1) (off := off + 1) ?_ ?_ (fun i e' hi => ?_) fun e' he' => hs e' (List.mem_cons_of_mem _ he')
      · have := congrArg (List.drop 1) hd
        rw [List.drop_drop] at this
        exact this
      · rw [hk2]
        refine List.map_congr_left fun h _ => ?_
        show (lev + (h + 1), 0) = (lev + 1 + h, 0)
        have : lev + (h + 1) = lev + 1 + h := by omega
        rw [this]
      · have := he (i + 1) e' (by simpa using hi)
        have e2 : off + 1 + i = off + (i + 1) := by omega
        rw [e2]
        exact this
theorem keysL_nd {n m : Nat} : (keysL n m).Nodup := by
  unfold keysL
  refine List.nodup_append.mpr ⟨?_, ?_, ?_⟩
  · refine List.Pairwise.map _ (fun a b h q => h ?_) List.nodup_range
    injection q
  · refine List.Pairwise.map _ (fun a b h q => h ?_) List.nodup_range
    injection q with q
    omega
  · intro a ha b hb q
    obtain ⟨x, _, rfl⟩ := List.mem_map.mp ha
    obtain ⟨y, _, rfl⟩ := List.mem_map.mp hb
    injection q with q
    omega
/-- all of them -/
theorem em_hall {f : Fx} {L : List EmR} {n m : Nat} (hn : f.us.length = n + 1) (hes : f.es = L.map (·.1)) (hk : (L.map fun e => e.1.1) = keysL n m) (hs : ∀ e ∈ L, ∃ u, f.us[e.1.1.1]? = some u ∧ e.2.length = u.s) :
    OHa f (hall0 f.us m) (emC L ++ ((f.fl, .lst ((List.replicate 64 (0 : Int)).map V.int)) :: [(f.lg, .lst [])])) ∧ f.es.map (·.1) = keysL n m := by
  have hek : f.es.map (·.1) = keysL n m := by
    rw [hes, List.map_map]
    exact hk
  have nd : (f.es.map (·.1)).Nodup := by rw [hek]; exact keysL_nd
  have hll : L.length = m + n := by
    have := congrArg List.length hk
    rw [List.length_map, keysL_len] at this
    exact this
  have eL : L = L.take m ++ L.drop m := (List.take_append_drop m L).symm
  have hk0 : ((L.take m).map fun e => e.1.1) = (List.range m).map (fun h => (0, 0 + h)) := by
    rw [List.map_take, hk]
    unfold keysL
    rw [List.take_left' (by rw [List.length_map, List.length_range])]
    refine List.map_congr_left fun h _ => ?_
    rw [Nat.zero_add]
  have hk1 : ((L.drop m).map fun e => e.1.1) = (List.range n).map (fun j => (1 + j, 0)) := by
    rw [List.map_drop, hk]
    unfold keysL
    rw [List.drop_left' (by rw [List.length_map, List.length_range])]
    refine List.map_congr_left fun h _ => ?_
    rw [Nat.add_comm]
  have hat : ∀ (i : Nat) (e : EmR), L[i]? = some e → f.es[i]? = some e.1 := fun i e h => by
    rw [hes, List.getElem?_map, h]
    rfl
  obtain ⟨u0, us', hus⟩ : ∃ u0 us', f.us = u0 :: us' := by
    cases e : f.us with
    | nil =>
      rw [e] at hn
      simp at hn
    | cons a r => exact ⟨a, r, rfl⟩
  have hu0 : f.us[0]? = some u0 := by rw [hus]; rfl
  refine ⟨⟨emC (L.take m), emC (L.drop m) ++ ((f.fl, .lst ((List.replicate 64 (0 : Int)).map V.int)) :: [(f.lg, .lst [])]), ?_, ⟨emC (L.drop m), [(f.lg, .lst [])], ?_, ⟨[], rfl, rfl⟩, rfl⟩, ?_⟩, hek⟩
  · have h := em_own (f := f) nd hu0 (L := L.take m) (h0 := 0) (k := m) hk0 (fun i e hi => ?_) (fun e he => ?_)
    · have e1 : (hall0 f.us m).own = (List.range m).map fun h => mkRm u0 [.int ((0 : Nat) : Int), .int ((0 + h : Nat) : Int)] := by
        show ownRs (rul0 f.us) m = _
        unfold ownRs rul0
        rw [hus]
        refine List.map_congr_left fun h _ => ?_
        rw [Nat.zero_add]
        rfl
      rw [e1]
      exact h
    · rw [Nat.zero_add]
      refine hat i e ?_
      rw [List.getElem?_take] at hi
      split at hi
      · exact hi
      · cases hi
    · obtain ⟨u, h1, h2⟩ := hs e (List.mem_of_mem_take he)
      have h3 : e.1.1 ∈ (L.take m).map fun e => e.1.1 := List.mem_map.mpr ⟨e, he, rfl⟩
      rw [hk0] at h3
      obtain ⟨x, _, hx⟩ := List.mem_map.mp h3
      rw [← hx, hu0] at h1
      rw [h2, ← Option.some.inj h1]
  · refine em_sh (f := f) nd (us := f.us.drop 1) (L := L.drop m) (lev := 1) (off := m) rfl ?_ (fun i e hi => ?_) fun e he => hs e (List.mem_of_mem_drop he)
    · have : (f.us.drop 1).length = n := by rw [List.length_drop]; omega
      rw [this]
      exact hk1
    · refine hat (m + i) e ?_
      rw [List.getElem?_drop] at hi
      exact hi
  · conv => lhs; rw [eL]
    rw [emC_app, List.append_assoc]
def spOHallInit (K : PySem.W.Frag) : Sp := fun vs H Q _ => ∃ (rl : Addr) (us : List Rul) (n m : Nat) (R : List Cell), vs = [.ref rl, .int m] ∧ RulesOk us ∧ us.length = n + 1 ∧ 1 ≤ m ∧ m ≤ 3 ∧ RulesAt R rl us ∧ Own H R ∧
  ∀ (f : Fx) (C N : List Cell) (H' : Hp), f.us = us → f.m = m → f.rl = rl → f.es.map (·.1) = keysL n m → (f.h, HO.dK (fxH f)) ∈ N → (f.rd, HO.dT (fxE f.es)) ∈ N → OHa f (hall0 us m) C → Own H' (C ++ (N ++ R)) → Q (.ref f.h) H'
def kUp (m : Nat) : Nat → List (Nat × Nat)
  | 0 => []
  | i + 1 => keysL i m
theorem kUp_lt {m i : Nat} {k : Nat × Nat} (h : k ∈ kUp m i) : k.1 < i := by
  cases i with
  | zero => cases h
  | succ i =>
    rcases List.mem_append.mp (show k ∈ _ ++ _ from h) with h | h
    · obtain ⟨x, _, rfl⟩ := List.mem_map.mp h
      exact Nat.succ_pos i
    · obtain ⟨x, hx, rfl⟩ := List.mem_map.mp h
      have := List.mem_range.mp hx
      show x + 1 < i + 1
      omega
theorem kUp_step (m i : Nat) : kUp m i ++ (List.range (if i = 0 then m else 1)).map (fun h => (i, h)) = kUp m (i + 1) := by
  cases i with
  | zero =>
    show [] ++ (List.range m).map (fun h => (0, h)) = keysL 0 m
    unfold keysL
    simp
  | succ i =>
    show keysL i m ++ (List.range 1).map (fun h => (i + 1, h)) = keysL (i + 1) m
    unfold keysL
    rw [List.range_succ (n := i), List.map_append, List.append_assoc]
    rfl
section
variable {P : Program} {w : World} {K : PySem.W.Frag} {mg : Str → Option Value} {base : Heap} {n lv : Nat}
theorem ok_o_hall (T : Txt K mg) : FnOk P w K mg base CX0 1 (He.fAd K ("_law_hall", none)) T.fd__law_hall ["_law_rules", "_law_hands"] (spOHallInit K) := by
  refine okOf T.F__law_hall sc__law_hall (fun vs H Q E h => ?_) (fun cdv A outer s H vs Q E hr h => ?_)
  · obtain ⟨_, _, _, _, _, rfl, _⟩ := h
    rfl
  · obtain ⟨rl, us, n, m, R, rfl, hus, hun, hm1, hm3, hra, O, k⟩ := h
    obtain ⟨ras, hra1, hra2⟩ := id hra
    have hral := hra2.len
    have hu3 := hus.l3
    refine ⟨_, (pss_cons (ps_set (i := 2) sc__law_hall.nd rfl (Or.inl rfl) pe_dnewT) (pss_cons (ps_for PassesOwn.never rfl (pi_range1 (by rfl) T.n_range (pa_cons (pe_callB call_len_seq (by rfl) T.n_len PySem.boot_len (pa_cons (pv 0) pa_nil)) pa_nil)) (pg_name (i := 3) sc__law_hall.nd rfl (Or.inl rfl)) (pss_one (ps_for PassesOwn.never rfl (pi_range1 (by rfl) T.n_range (pa_cons (pe_ifExp (pt_cmpR op_eq (pv 3) pe_int (nomark _)) (pv 1) pe_int) pa_nil)) (pg_name (i := 4) sc__law_hall.nd rfl (Or.inl rfl)) (pss_one (ps_dput (hu_of hr) (pv 2) (pe_tup (pa_cons (pv 3) (pa_cons (pv 4) pa_nil))) (pe_lc (te := (tLst tNil)) (own := [("_law_number", 5)]) (by rfl) sc__law_hall.nd (pi_range1 (by rfl) T.n_range (pa_cons (pe_ix ix_tup (pe_ix ix_list (pv 0) (pv 3) (fun _ _ => rfl)) pe_int (fun _ _ => rfl)) pa_nil)) (blkOk_by (own := [("_law_number", 5)]) (by kernel_rfl)) (fun _ _ _ _ _ => (pg_name (i := 5) sc__law_hall.nd rfl (Or.inl rfl))) (fun _ _ _ _ _ => pts_nil) (fun _ _ _ _ _ => (pe_lst pa_nil))) rfl))))) (pss_one (ps_ret (pe_disp (pps_cons pe_str (pv 0) (pps_cons pe_str (pv 1) (pps_cons pe_str (pv 2) (pps_cons pe_str (pe_op op_rep (pe_lst (pa_cons pe_int pa_nil)) pe_int) (pps_cons pe_str (pe_lst pa_nil) pps_nil))))) (by rfl) (by rfl) (fun z => by cases z) (by decide)))))), fun rd hrd => ?_⟩
    have O1 := O.new (o := .dT []) hrd
    generalize upd H rd _ = H1 at O1 ⊢
    refine ⟨_, rfl, rl, _, rfl, .inl (SqL.of (O1.mem (List.mem_cons_of_mem _ hra1))), ((n + 1 : Nat) : Int), by rw [List.length_map, hral, hun], by omega, by omega, ?_⟩
    refine for_range (lo := 0) (n := n + 1) (fun i σ H' => (∃ v3 v4 v5, σ = [some (V.ref rl), some (.int m), some (.ref rd), v3, v4, v5]) ∧ ∃ L : List EmR, (L.map fun e => e.1.1) = kUp m i ∧ (∀ e ∈ L, ∃ u, us[e.1.1.1]? = some u ∧ e.2.length = u.s) ∧ Own H' ((rd, .dT (fxE (L.map (·.1)))) :: (emC L ++ R)))
      ⟨⟨_, _, _, rfl⟩, [], rfl, (fun e he => by cases he), O1⟩ ?_ ?_
    · rintro i σ H2 hi ⟨⟨v3, v4, v5, rfl⟩, L, hLk, hLu, O2⟩
      have ei : (0 : Int) + (i : Int) = ((i : Nat) : Int) := by omega
      rw [ei]
      obtain ⟨c, hc⟩ : ∃ c : Nat, c = if i = 0 then m else 1 := ⟨_, rfl⟩
      obtain ⟨u, hu⟩ : ∃ u, us[i]? = some u := ⟨_, List.getElem?_eq_getElem (by omega)⟩
      have huo := hus.ok u (List.mem_of_getElem? hu)
      obtain ⟨ras', ua, hr1, hai, hua⟩ := hra.at hu
      have hit : ∀ Q' : V → Hp → Prop, Q' (.int (c : Nat)) H2 → tIf (tTest (tOp rEq (tVar 3) (tC (.int 0)))) (tVar 1) (tC (.int 1)) [some (V.ref rl), some (.int m), some (.ref rd), some (.int ((i : Nat) : Int)), v4, v5] H2 Q' := fun Q' h => by
        by_cases z : i = 0
        · subst z
          rw [hc, if_pos rfl] at h
          exact ⟨_, rfl, rfl, true, congrArg V.bl (decide_eq_true rfl), iteT ⟨_, rfl, h⟩⟩
        · rw [hc, if_neg z] at h
          exact ⟨_, rfl, rfl, false, by rw [decide_eq_false (fun q => z (by injection q with q; omega))], iteF h⟩
      refine hit _ ?_
      have hc3 : c ≤ 3 := by rw [hc]; split <;> omega
      refine ⟨(c : Int), rfl, by omega, by omega, ?_⟩
      refine for_range (lo := 0) (n := c) (fun j σ H' => (∃ v4 v5, σ = [some (V.ref rl), some (.int m), some (.ref rd), some (.int ((i : Nat) : Int)), v4, v5]) ∧ ∃ L : List EmR, (L.map fun e => e.1.1) = kUp m i ++ (List.range j).map (fun h => (i, h)) ∧ (∀ e ∈ L, ∃ u, us[e.1.1.1]? = some u ∧ e.2.length = u.s) ∧ Own H' ((rd, .dT (fxE (L.map (·.1)))) :: (emC L ++ R)))
        ⟨⟨_, _, rfl⟩, L, by rw [hLk]; simp, hLu, O2⟩ ?_ ?_
      · rintro j σ H3 hj ⟨⟨v4', v5', rfl⟩, L1, hLk1, hLu1, O3⟩
        have ej : (0 : Int) + (j : Int) = ((j : Nat) : Int) := by omega
        rw [ej]
        have hL1l : L1.length ≤ 10 := by
          have := congrArg List.length hLk1
          rw [List.length_map, List.length_append, List.length_map, List.length_range] at this
          have : (kUp m i).length ≤ 5 := by
            cases i with
            | zero => exact Nat.zero_le _
            | succ i =>
              show (keysL i m).length ≤ 5
              rw [keysL_len]
              omega
          omega
        have m3 : ∀ {d : Cell}, d ∈ R → H3 d.1 = some d.2 := fun hd => O3.2 _ (by simp [hd])
        refine ⟨_, rfl, _, rfl, rl, _, _, .ref ua, rfl, rfl, SqL.of (m3 hr1), hai, ua, _, 0, .int u.s, rfl, rfl, SqT.of (m3 hua), rfl, (u.s : Int), rfl, by omega, by rcases huo.s with e | e | e <;> omega, fun D hD => ?_⟩
        refine lc_range (lo := 0) (n := u.s) (fun t H' => ∃ as : List Addr, as.length = t ∧ Own H' ((D, .lst (as.map V.ref)) :: (emE as ++ ((rd, .dT (fxE (L1.map (·.1)))) :: (emC L1 ++ R))))) ⟨[], rfl, O3.new hD⟩ ?_ ?_
        · rintro t H4 ht ⟨as, has, O4⟩
          refine ⟨rfl, tYes_go (iteT ⟨by show 0 ≤ sizeLine; decide, fun p hp => ?_⟩)⟩
          have O5 := O4.new (o := .lst []) hp
          refine ⟨as.map V.ref, O5.a1, ?_, as ++ [p], by simp [has], ?_⟩
          · rw [List.length_map]
            exact size1 (by rcases huo.s with e | e | e <;> omega)
          · have O6 := (O5.perm (L' := (D, .lst (as.map V.ref)) :: ((p, .lst []) :: (emE as ++ ((rd, .dT (fxE (L1.map (·.1)))) :: (emC L1 ++ R))))) (by walk_at "perm")).set (o' := .lst (as.map V.ref ++ [.ref p]))
            unfold emE at O6 ⊢
            simp only [List.map_append, List.map_cons, List.map_nil]
            exact O6.perm (by walk_at "perm")
        · rintro H4 ⟨as, has, O4⟩
          refine ⟨_, rfl, _, rfl, _, rfl, by show 2 ≤ sizeLine; decide, fun q hq => ?_⟩
          have O5 := O4.new (o := .tup [.int ((i : Nat) : Int), .int ((j : Nat) : Int)]) hq
          have hnew : (i, j) ∉ (L1.map (·.1)).map (·.1) := by
            rw [List.map_map]
            intro z
            have z : (i, j) ∈ L1.map fun e => e.1.1 := z
            rw [hLk1] at z
            rcases List.mem_append.mp z with z | z
            · exact absurd (kUp_lt z) (Nat.lt_irrefl i)
            · obtain ⟨x, hx, ex⟩ := List.mem_map.mp z
              injection ex with _ ex
              have := List.mem_range.mp hx
              omega
          have O6 := O5.perm (L' := (rd, .dT (fxE (L1.map (·.1)))) :: (q, .tup [.int ((i : Nat) : Int), .int ((j : Nat) : Int)]) :: (D, .lst (as.map V.ref)) :: (emE as ++ (emC L1 ++ R))) (by walk_at "perm")
          refine ⟨rd, _, rfl, DPut.t (k := keyOf i j) O6.a0 O6.a1 ?_, ⟨_, _, rfl⟩, L1 ++ [(((i, j), D), as)], ?_, ?_, ?_⟩
          · unfold fxE
            rw [List.length_map, List.length_map]
            exact size1 (by omega)
          · rw [List.map_append, hLk1, List.range_succ, List.map_append, List.append_assoc]
            rfl
          · intro e he
            rcases List.mem_append.mp he with he | he
            · exact hLu1 e he
            · rw [List.mem_singleton.mp he]
              exact ⟨u, hu, has⟩
          · rw [putK_new hnew]
            have O7 := O6.set (o' := .dT (fxE (L1.map (·.1)) ++ [(keyOf i j, .ref D)]))
            have e1 : fxE ((L1 ++ [(((i, j), D), as)]).map (·.1)) = fxE (L1.map (·.1)) ++ [(keyOf i j, .ref D)] := by
              unfold fxE
              rw [List.map_append, List.map_append]
              rfl
            rw [e1, emC_app]
            have O8 := Own.right (L' := [(q, .tup [.int ((i : Nat) : Int), .int ((j : Nat) : Int)])]) (O7.perm (L' := [(q, .tup [.int ((i : Nat) : Int), .int ((j : Nat) : Int)])] ++ ((rd, .dT (fxE (L1.map (·.1)) ++ [(keyOf i j, .ref D)])) :: ((emC L1 ++ (((D, .lst (as.map V.ref)) :: emE as) ++ [])) ++ R))) (by walk_at "perm"))
            exact O8
      · rintro σ H3 ⟨⟨v4', v5', rfl⟩, L1, hLk1, hLu1, O3⟩
        refine ⟨⟨_, _, _, rfl⟩, L1, ?_, hLu1, O3⟩
        rw [hLk1, hc, kUp_step]
    · rintro σ H2 ⟨⟨v3, v4, v5, rfl⟩, L, hLk, hLu, O2⟩
      intro hd hhd
      have O3 := O2.new (o := .dK []) hhd
      refine ⟨_, rfl, _, rfl, _, rfl, by show 1 ≤ sizeLine; decide, fun l0 hl0 => ?_⟩
      have O4 := O3.new (o := .lst [.int 0]) hl0
      refine ⟨l0, 64, [.int 0], rfl, rfl, O4.a0, by decide, by decide, by show 1 * 64 ≤ sizeLine; decide, fun fl hfl => ?_⟩
      have O5 := (O4.tail).new (o := .lst (List.replicate (64 : Int).toNat [V.int 0]).flatten) hfl
      have e0 : (List.replicate (64 : Int).toNat [V.int 0]).flatten = (List.replicate 64 (0 : Int)).map V.int := by decide
      rw [e0] at O5 ⊢
      refine ⟨by show 0 ≤ sizeLine; decide, fun lg hlg => ?_⟩
      have O6 := O5.new (o := .lst []) hlg
      obtain ⟨f, hf⟩ : ∃ f : Fx, f = ⟨hd, rl, rd, fl, lg, us, m, L.map (·.1)⟩ := ⟨_, rfl⟩
      refine ⟨O6.a2, fxH f, by rw [hf]; rfl, by show 5 ≤ 15; omega, ?_⟩
      rw [merge_fx]
      have O7 := (O6.perm (L' := (hd, .dK []) :: (lg, .lst []) :: (fl, .lst ((List.replicate 64 (0 : Int)).map V.int)) :: (rd, .dT (fxE (L.map (·.1)))) :: (emC L ++ R)) (by walk_at "perm")).set (o' := .dK (fxH f))
      generalize upd _ hd _ = H7 at O7 ⊢
      obtain ⟨g1, g2⟩ := em_hall (f := f) (L := L) (n := n) (m := m) (by rw [hf]; exact hun) (by rw [hf]) hLk (by rw [hf]; exact hLu)
      have e1 : f.us = us := by rw [hf]
      rw [e1] at g1
      have e2 : f.h = hd := by rw [hf]
      have := k f _ [(hd, .dK (fxH f)), (rd, .dT (fxE (L.map (·.1))))] H7 e1 (by rw [hf]) (by rw [hf]) g2 ?_ ?_ g1 (O7.perm ?_)
      · rw [e2] at this
        exact this
      · rw [e2]
        exact List.mem_cons_self
      · rw [hf]
        exact List.mem_cons_of_mem _ List.mem_cons_self
      · have e3 : f.fl = fl := by rw [hf]
        have e4 : f.lg = lg := by rw [hf]
        rw [e3, e4]
        walk_at "perm"
end
-- WwGn
/-! ### whether something is a number, a rule, a deed, an ask: of whatever texts and numbers -/
inductive OkF : V → Prop
  | int (i : Int) : OkF (.int i)
  | str (x : Str) : OkF (.str x)
  | non : OkF .non
def numIn : V → Int → Int → Bool
  | .int i, lo, hi => decide (lo ≤ i ∧ i ≤ hi)
  | _, _, _ => false
theorem OkF.flat {x : V} (h : OkF x) : flatV x = true := by cases h <;> rfl
def ruleB : List V → Bool
  | [a, b, c, d, e] => numIn a 1 64 && (inV a [.int 1, .int 2, .int 4] && (numIn b 1 4 && (inV c [.str "through", .str "back"] && (inV d [.str "in", .str "by"] && inV e [.str "first", .str "late"]))))
  | _ => false
def askB : List V → Bool
  | [.str a, b] => if inV (.str a) [.str "look", .str "cell"] then numIn b 0 63 else inV (.str a) [.str "bring", .str "home"] && numIn b 0 15
  | _ => false
def eqS (x : V) (s : Str) : Bool := decide (x = .str s)
def deedB (m : Int) : List V → Bool
  | [a, b, c] => numIn b 0 (m - 1) && (numIn c 0 63 && eqS a "look")
  | [a, b, c, d] => numIn b 0 (m - 1) && (numIn c 0 63 && (eqS a "set" && numIn d 0 999))
  | _ => false
def spIsNumG : Sp := fun vs H Q _ => ∃ (x : V) (lo hi : Int), vs = [x, .int lo, .int hi] ∧ OkF x ∧ Q (.bl (numIn x lo hi)) H
def spIsRuleG : Sp := fun vs H Q _ => ∃ (ra : Addr) (xs : List V), vs = [.ref ra] ∧ (∀ x ∈ xs, OkF x) ∧ H ra = some (.tup xs) ∧ xs.length ≤ 1000 ∧ Q (.bl (ruleB xs)) H
def spIsAskG : Sp := fun vs H Q _ => ∃ (da : Addr) (xs : List V) (R : List Cell), vs = [.ref da] ∧ (∀ x ∈ xs, OkF x) ∧ (da, HO.tup xs) ∈ R ∧ xs.length ≤ 1000 ∧ Own H R ∧ ∀ H' : Hp, Own H' R → Q (.bl (askB xs)) H'
def spIsDeedG : Sp := fun vs H Q _ => ∃ (da : Addr) (m : Int) (xs : List V), vs = [.ref da, .int m] ∧ (∀ x ∈ xs, OkF x) ∧ H da = some (.tup xs) ∧ xs.length ≤ 1000 ∧ Q (.bl (deedB m xs)) H
theorem len5 {xs : List V} (h : xs.length = 5) : ∃ a b c d e, xs = [a, b, c, d, e] := by
  match xs, h with
  | [a, b, c, d, e], _ => exact ⟨a, b, c, d, e, rfl⟩
theorem len2 {xs : List V} (h : xs.length = 2) : ∃ a b, xs = [a, b] := by
  match xs, h with
  | [a, b], _ => exact ⟨a, b, rfl⟩
theorem ruleB_len {xs : List V} (h : xs.length ≠ 5) : ruleB xs = false := by
  unfold ruleB
  split
  · exact absurd rfl h
  · rfl
theorem askB_len {xs : List V} (h : xs.length ≠ 2) : askB xs = false := by
  unfold askB
  split
  · exact absurd rfl h
  · rfl
theorem eq_flat {a : V} (h : OkF a) {s : Str} : scal a (.str s) = true := by cases h <;> rfl
theorem neB {n k : Nat} (h : n ≠ k) : (!decide (V.int ((n : Nat) : Int) = V.int ((k : Nat) : Int))) = true := by
  rw [decide_eq_false (fun z => h (by have z : ((n : Nat) : Int) = (k : Int) := V.int.inj z; omega))]
  rfl
section
variable {P : Program} {w : World} {K : PySem.W.Frag} {mg : Str → Option Value} {base : Heap} {n lv : Nat}
theorem ok_is_numG (T : Txt K mg) : FnOk P w K mg base CX0 1 (He.fAd K ("is_number", none)) T.fd_is_number ["part", "low", "high"] spIsNumG := by
  refine okOf T.F_is_number sc_is_number (fun vs H Q E h => ?_) (fun cdv A outer s H vs Q E hr h => ?_)
  · obtain ⟨_, _, _, rfl, _⟩ := h
    rfl
  · obtain ⟨x, lo, hi, rfl, hx, k⟩ := h
    refine ⟨_, (pss_one (ps_ret (pe_and (pe_callB call_isi (by rfl) T.n_isinstance (by decide +kernel) (pa_cons (pv 0) (pa_cons (pe_bltn (v := .ty "int") (by rfl) T.n_int (by decide +kernel) rfl) pa_nil))) (pe_and (pe_not (pe_callB call_isi (by rfl) T.n_isinstance (by decide +kernel) (pa_cons (pv 0) (pa_cons (pe_bltn (v := .ty "bool") (by rfl) T.n_bool (by decide +kernel) rfl) pa_nil)))) (pe_one (pe_chain op_le op_le (pv 1) (pv 0) (pv 2))))))), ?_⟩
    cases hx with
    | int x =>
      refine ⟨_, rfl, _, _, _, _, true, rfl, ClsV.ty _, TyX.base (.int x), kit_ty (by decide +kernel), true, rfl, iteT ?_⟩
      refine ⟨_, rfl, _, _, _, _, false, rfl, ClsV.ty _, TyX.base (.int x), kit_ty (by decide +kernel), false, rfl, true, rfl, iteT ?_⟩
      refine ⟨_, rfl, _, rfl, lo, x, rfl, rfl, _, rfl, ?_⟩
      by_cases h1 : lo ≤ x
      · rw [decide_eq_true h1]
        refine iteT ⟨_, rfl, x, hi, rfl, rfl, ?_⟩
        have e : decide (x ≤ hi) = decide (lo ≤ x ∧ x ≤ hi) := by simp [h1]
        show Q (.bl (decide (x ≤ hi))) H
        rw [e]
        exact k
      · rw [decide_eq_false h1]
        refine iteF ?_
        have e : numIn (.int x) lo hi = false := by unfold numIn; simp [h1]
        rw [e] at k
        exact k
    | str x => exact ⟨_, rfl, _, _, _, _, false, rfl, ClsV.ty _, TyX.base (.str x), kit_ty (by decide +kernel), false, rfl, iteF k⟩
    | non => exact ⟨_, rfl, _, _, _, _, false, rfl, ClsV.ty _, TyX.base .non, kit_ty (by decide +kernel), false, rfl, iteF k⟩
theorem ok_is_ruleG (T : Txt K mg) : FnOk P w K mg base CX0 2 (He.fAd K ("is_rule", none)) T.fd_is_rule ["rule"] spIsRuleG := by
  have G_is_number := ok_is_numG (P := P) (w := w) (base := base) T
  refine okOf T.F_is_rule sc_is_rule (fun vs H Q E h => ?_) (fun cdv A outer s H vs Q E hr h => ?_)
  · obtain ⟨_, _, rfl, _⟩ := h
    rfl
  · obtain ⟨ra, xs, rfl, hxs, hra, hl, k⟩ := h
    refine ⟨_, (pss_cons (ps_if (PW.pt (pw_or (pt_not (pt_val (pe_callB call_isi (by rfl) T.n_isinstance (by decide +kernel) (pa_cons (pv 0) (pa_cons (pe_bltn (v := .ty "tuple") (by rfl) T.n_tuple (by decide +kernel) rfl) pa_nil))))) (pw_or (pt_cmpR op_ne (pe_callB call_len_seq (by rfl) T.n_len PySem.boot_len (pa_cons (pv 0) pa_nil)) pe_int (nomark _)) (pw_or (pt_not (pt_val (pe_call G_is_number (hr.mono (by omega)) rfl T.g_is_number T.k_is_number T.b_is_number .nil pass0 (pa_cons (pe_ix ix_tup (pv 0) pe_int (fun _ _ => rfl)) (pa_cons pe_int (pa_cons (pe_globI rfl T.g_CELLS) pa_nil)))))) (pw_or1 (pt_cmpR op_notIn_seq (pe_ix ix_tup (pv 0) pe_int (fun _ _ => rfl)) (pe_globR rfl T.g_SETS) (by rfl))))))) (pss_one (ps_ret pe_bl)) pss_nil) (pss_one (ps_ret (pe_and (pe_call G_is_number (hr.mono (by omega)) rfl T.g_is_number T.k_is_number T.b_is_number .nil pass0 (pa_cons (pe_ix ix_tup (pv 0) pe_int (fun _ _ => rfl)) (pa_cons pe_int (pa_cons (pe_globI rfl T.g_MOST_WAYS) pa_nil)))) (pe_and (pe_cmpR op_in_seq (pe_ix ix_tup (pv 0) pe_int (fun _ _ => rfl)) (pe_globR rfl T.g_WRITES) (by rfl)) (pe_and (pe_cmpR op_in_seq (pe_ix ix_tup (pv 0) pe_int (fun _ _ => rfl)) (pe_globR rfl T.g_TAKES) (by rfl)) (pe_one (pe_cmpR op_in_seq (pe_ix ix_tup (pv 0) pe_int (fun _ _ => rfl)) (pe_globR rfl T.g_LEAVES) (by rfl))))))))), ?_⟩
    refine ⟨_, rfl, _, _, _, _, true, rfl, ClsV.ty _, TyX.base (.tup hra), kit_ty (by decide +kernel), true, rfl, iteF ?_⟩
    refine ⟨_, rfl, ra, _, rfl, .inr (SqT.of hra), rfl, _, rfl, ?_⟩
    by_cases h5 : xs.length = 5
    · obtain ⟨a, b, c, d, e, rfl⟩ := len5 h5
      have fa : OkF a := hxs a (by simp)
      have fb : OkF b := hxs b (by simp)
      have fc : OkF c := hxs c (by simp)
      have fd : OkF d := hxs d (by simp)
      have fe : OkF e := hxs e (by simp)
      refine iteFo rfl ?_
      refine ⟨_, rfl, ra, _, 0, a, rfl, rfl, SqT.of hra, rfl, a, 1, 64, rfl, fa, _, rfl, ?_⟩
      cases h1 : numIn a 1 64 with
      | false =>
        refine iteT ?_
        rw [show ruleB [a, b, c, d, e] = false by show (numIn a 1 64 && _) = false; rw [h1]; rfl] at k
        exact k
      | true =>
        refine iteF ?_
        refine ⟨_, rfl, ra, _, 0, a, rfl, rfl, SqT.of hra, rfl, _, _, rfl, .inr (T.t_SETS H), fa.flat, rfl, _, rfl, ?_⟩
        cases h2 : inV a [.int 1, .int 2, .int 4] with
        | false =>
          refine iteT ?_
          rw [show ruleB [a, b, c, d, e] = false by show (numIn a 1 64 && (inV a [.int 1, .int 2, .int 4] && _)) = false; rw [h1, h2]; rfl] at k
          exact k
        | true =>
          refine iteF ?_
          refine ⟨_, rfl, ra, _, 1, b, rfl, rfl, SqT.of hra, rfl, b, 1, 4, rfl, fb, _, rfl, ?_⟩
          have ek : ruleB [a, b, c, d, e] = (numIn b 1 4 && (inV c [.str "through", .str "back"] && (inV d [.str "in", .str "by"] && inV e [.str "first", .str "late"]))) := by show (numIn a 1 64 && (inV a [.int 1, .int 2, .int 4] && _)) = _; rw [h1, h2]; rfl
          rw [ek] at k
          cases h3 : numIn b 1 4 with
          | false =>
            rw [h3] at k
            exact iteF k
          | true =>
            rw [h3, Bool.true_and] at k
            refine iteT ?_
            refine ⟨_, rfl, ra, _, 2, c, rfl, rfl, SqT.of hra, rfl, _, _, rfl, .inr (T.t_WRITES H), fc.flat, rfl, _, rfl, ?_⟩
            cases h4 : inV c [.str "through", .str "back"] with
            | false =>
              rw [h4] at k
              exact iteF k
            | true =>
              rw [h4, Bool.true_and] at k
              refine iteT ?_
              refine ⟨_, rfl, ra, _, 3, d, rfl, rfl, SqT.of hra, rfl, _, _, rfl, .inr (T.t_TAKES H), fd.flat, rfl, _, rfl, ?_⟩
              cases h6 : inV d [.str "in", .str "by"] with
              | false =>
                rw [h6] at k
                exact iteF k
              | true =>
                rw [h6, Bool.true_and] at k
                refine iteT ?_
                exact ⟨_, rfl, ra, _, 4, e, rfl, rfl, SqT.of hra, rfl, _, _, rfl, .inr (T.t_LEAVES H), fe.flat, rfl, k⟩
    · refine iteTo (neB h5) ?_
      rw [ruleB_len h5] at k
      exact k
theorem ok_is_askG (T : Txt K mg) : FnOk P w K mg base CX0 2 (He.fAd K ("is_ask", none)) T.fd_is_ask ["ask"] spIsAskG := by
  have G_is_number := ok_is_numG (P := P) (w := w) (base := base) T
  refine okOf T.F_is_ask sc_is_ask (fun vs H Q E h => ?_) (fun cdv A outer s H vs Q E hr h => ?_)
  · obtain ⟨_, _, _, rfl, _⟩ := h
    rfl
  · obtain ⟨da, xs, R, rfl, hxs, hda0, hl, O, k⟩ := h
    have hda : H da = some (.tup xs) := O.mem hda0
    refine ⟨_, (pss_cons (ps_if (PW.pt (pw_or (pt_not (pt_val (pe_callB call_isi (by rfl) T.n_isinstance (by decide +kernel) (pa_cons (pv 0) (pa_cons (pe_bltn (v := .ty "tuple") (by rfl) T.n_tuple (by decide +kernel) rfl) pa_nil))))) (pw_or (pt_cmpR op_ne (pe_callB call_len_seq (by rfl) T.n_len PySem.boot_len (pa_cons (pv 0) pa_nil)) pe_int (nomark _)) (pw_or1 (pt_not (pt_val (pe_callB call_isi (by rfl) T.n_isinstance (by decide +kernel) (pa_cons (pe_ix ix_tup (pv 0) pe_int (fun _ _ => rfl)) (pa_cons (pe_bltn (v := .ty "str") (by rfl) T.n_str (by decide +kernel) rfl) pa_nil))))))))) (pss_one (ps_ret pe_bl)) pss_nil) (pss_cons (ps_if (pt_cmpR op_in_seq (pe_ix ix_tup (pv 0) pe_int (fun _ _ => rfl)) (pe_tup (pa_cons (pe_globS rfl T.g_LOOK) (pa_cons (pe_globS rfl T.g_CELL) pa_nil))) (by rfl)) (pss_one (ps_ret (pe_call G_is_number (hr.mono (by omega)) rfl T.g_is_number T.k_is_number T.b_is_number .nil pass0 (pa_cons (pe_ix ix_tup (pv 0) pe_int (fun _ _ => rfl)) (pa_cons pe_int (pa_cons (pe_op op_sub (pe_globI rfl T.g_CELLS) pe_int) pa_nil)))))) pss_nil) (pss_one (ps_ret (pe_and (pe_cmpR op_in_seq (pe_ix ix_tup (pv 0) pe_int (fun _ _ => rfl)) (pe_tup (pa_cons (pe_globS rfl T.g_BRING) (pa_cons (pe_globS rfl T.g_HOME) pa_nil))) (by rfl)) (pe_one (pe_call G_is_number (hr.mono (by omega)) rfl T.g_is_number T.k_is_number T.b_is_number .nil pass0 (pa_cons (pe_ix ix_tup (pv 0) pe_int (fun _ _ => rfl)) (pa_cons pe_int (pa_cons (pe_op op_sub (pe_op op_fdiv (pe_globI rfl T.g_CELLS) (pe_globI rfl T.g_BLOCK)) pe_int) pa_nil)))))))))), ?_⟩
    refine ⟨_, rfl, _, _, _, _, true, rfl, ClsV.ty _, TyX.base (.tup hda), kit_ty (by decide +kernel), true, rfl, iteF ?_⟩
    refine ⟨_, rfl, da, _, rfl, .inr (SqT.of hda), rfl, _, rfl, ?_⟩
    by_cases h2 : xs.length = 2
    · obtain ⟨a, b, rfl⟩ := len2 h2
      have fa : OkF a := hxs a (by simp)
      have fb : OkF b := hxs b (by simp)
      refine iteFo rfl ?_
      cases fa with
      | int i => exact ⟨_, rfl, da, _, 0, .int i, rfl, rfl, SqT.of hda, rfl, _, _, _, _, false, rfl, ClsV.ty _, TyX.base (.int i), kit_ty (by decide +kernel), false, rfl, iteT (k H O)⟩
      | non => exact ⟨_, rfl, da, _, 0, .non, rfl, rfl, SqT.of hda, rfl, _, _, _, _, false, rfl, ClsV.ty _, TyX.base .non, kit_ty (by decide +kernel), false, rfl, iteT (k H O)⟩
      | str wd =>
        refine ⟨_, rfl, da, _, 0, .str wd, rfl, rfl, SqT.of hda, rfl, _, _, _, _, true, rfl, ClsV.ty _, TyX.base (.str wd), kit_ty (by decide +kernel), true, rfl, iteF ?_⟩
        refine ⟨_, rfl, da, _, 0, .str wd, rfl, rfl, SqT.of hda, rfl, by show 2 ≤ sizeLine; decide, fun q hq => ?_⟩
        have O1 := O.new (o := .tup [.str "look", .str "cell"]) hq
        have hda1 : SqT K _ da [.str wd, b] := SqT.of (O1.mem (List.mem_cons_of_mem _ hda0))
        have ek : askB [.str wd, b] = if inV (.str wd) [.str "look", .str "cell"] then numIn b 0 63 else inV (.str wd) [.str "bring", .str "home"] && numIn b 0 15 := rfl
        rw [ek] at k
        refine ⟨q, _, rfl, .inr (SqT.of O1.a0), rfl, rfl, _, rfl, ?_⟩
        cases h1 : inV (.str wd) [.str "look", .str "cell"] with
        | true =>
          rw [h1] at k
          exact iteT ⟨_, rfl, da, _, 1, b, rfl, rfl, hda1, rfl, _, _, rfl, rfl, b, 0, 63, rfl, fb, k _ O1.tail⟩
        | false =>
          rw [h1] at k
          refine iteF ?_
          refine ⟨_, rfl, da, _, 0, .str wd, rfl, rfl, hda1, rfl, by show 2 ≤ sizeLine; decide, fun q2 hq2 => ?_⟩
          have O2 := O1.new (o := .tup [.str "bring", .str "home"]) hq2
          have hda2 : SqT K _ da [.str wd, b] := SqT.of (O2.mem (List.mem_cons_of_mem _ (List.mem_cons_of_mem _ hda0)))
          refine ⟨q2, _, rfl, .inr (SqT.of O2.a0), rfl, rfl, _, rfl, ?_⟩
          cases h3 : inV (.str wd) [.str "bring", .str "home"] with
          | false =>
            rw [h3] at k
            exact iteF (k _ O2.tail.tail)
          | true =>
            rw [h3] at k
            exact iteT ⟨_, rfl, da, _, 1, b, rfl, rfl, hda2, rfl, _, _, rfl, rfl, ⟨by decide, by decide⟩, _, _, rfl, rfl, b, 0, 15, rfl, fb, k _ O2.tail.tail⟩
    · refine iteTo (neB h2) ?_
      rw [askB_len h2] at k
      exact k H O
end
-- WwSo
/-! ### an own room, asked -/
structure SeT (u : Rul) (asks : List Ask) (t : Ta) : Prop where
  ex : ∃ r, t.rs = [r] ∧ RmOk r ∧ r.ru = ruOf u 0 0 ∧ absS r = (aRun (ru0 u) (ss0 u) asks).1
  tk : TaOk 1 t
  th : ThTa t
  lg : t.log = ents [.int 0, .int 0] (sentOf u asks)
  ln : t.log.length ≤ 3 * asks.length
theorem tl00 (u : Rul) : (ruOf u 0 0).tl = [.int 0, .int 0] := rfl
section
variable {u : Rul} {as : List Ask} {t : Ta}
theorem SeT.reach (h : SeT u as t) {b : Nat} (hb : b < 16) {a : Ask} (ha : ∀ ss, aStep (ru0 u) ss a = (aPut ss b (aReach (ru0 u) (aGet ss b) b).1, (aReach (ru0 u) (aGet ss b) b).2.1)) : SeT u (as ++ [a]) ((ops 1).br t b).2 := by
  obtain ⟨r, er, hrm, eru, ess⟩ := h.ex
  have T := far_tr (ruOf u 0 0).tl
  rw [← eru] at T
  have ht0 : TaOk 0 { t with rs := ([] : List Rm) } := ⟨rfl, (fun r hr => by cases hr), h.tk.far⟩
  obtain ⟨g1, g2, _⟩ := reach_tr (ls := r.ls b) T trivial b (t := { t with rs := [] })
  obtain ⟨k1, k2, _, k4⟩ := reachL_ok (ops_ok 0) hrm.ru (hrm.ls b) ht0 hb
  obtain ⟨_, m1, m2⟩ := (ops_ok 1).br t b h.tk hb
  have eb : ((ops 1).br t b).2 = Ta.cons (r.put b (reachL (ops 0) r.ru (r.ls b) { t with rs := [] } b).1) (reachL (ops 0) r.ru (r.ls b) { t with rs := [] } b).2.1 := by
    rw [br_cons er]
    rfl
  have hg : gOf 0 = 0 := rfl
  rw [← absS_get] at g1 g2
  have er2 : aReach r.ru = aReach (ru0 u) := by rw [eru]; rfl
  rw [er2] at g1 g2
  have etl : r.ru.tl = [.int 0, .int 0] := by rw [eru]; rfl
  have ers : (reachL (ops 0) r.ru (r.ls b) { t with rs := [] } b).2.1.rs = [] := List.length_eq_zero_iff.mp k2.len
  refine ⟨⟨_, by rw [eb]; show _ :: (reachL (ops 0) r.ru (r.ls b) { t with rs := [] } b).2.1.rs = _; rw [ers], put_ok hrm k1, eru, ?_⟩, m1, (ops_th 1).br t b h.th, ?_, ?_⟩
  · rw [sent_snoc, ← ess, ha, absS_put, g2]
  · rw [eb]
    show (reachL (ops 0) r.ru (r.ls b) { t with rs := [] } b).2.1.log = _
    unfold sentOf
    rw [sent_snoc, ← ess, ha, g1, etl]
    show t.log ++ _ = ents [.int 0, .int 0] ((aRun (ru0 u) (ss0 u) as).2 ++ _)
    rw [ents_app, h.lg]
    rfl
  · rw [eb]
    show (reachL (ops 0) r.ru (r.ls b) { t with rs := [] } b).2.1.log.length ≤ _
    have := h.ln
    have k4 : (reachL (ops 0) r.ru (r.ls b) { t with rs := [] } b).2.1.log.length ≤ t.log.length + _ := k4
    rw [List.length_append, List.length_singleton]
    omega
theorem SeT.change (h : SeT u as t) {p : Nat} (hp : p < 64) (v : Int) : SeT u (as ++ [.cell p]) ((ops 1).ch t p v) := by
  obtain ⟨r, er, hrm, eru, ess⟩ := h.ex
  have T := far_tr (ruOf u 0 0).tl
  rw [← eru] at T
  have ht0 : TaOk 0 { t with rs := ([] : List Rm) } := ⟨rfl, (fun r hr => by cases hr), h.tk.far⟩
  obtain ⟨g1, g2⟩ := change_tr (ls := r.ls (p / 4)) T trivial p v (t := { t with rs := [] })
  obtain ⟨k1, k2, k4⟩ := changeL_ok (v := v) (ops_ok 0) hrm.ru (hrm.ls (p / 4)) ht0 hp
  obtain ⟨m1, m2⟩ := (ops_ok 1).ch t p v h.tk hp
  have eb : (ops 1).ch t p v = Ta.cons (r.put (p / 4) (changeL (ops 0) r.ru (r.ls (p / 4)) { t with rs := [] } p v).1) (changeL (ops 0) r.ru (r.ls (p / 4)) { t with rs := [] } p v).2 := ch_cons er p v
  have hg : gOf 0 = 0 := rfl
  rw [← absS_get] at g1 g2
  have etl : r.ru.tl = [.int 0, .int 0] := by rw [eru]; rfl
  have er2 : aChange r.ru = aChange (ru0 u) := by rw [eru]; rfl
  rw [er2] at g1 g2
  have ers : (changeL (ops 0) r.ru (r.ls (p / 4)) { t with rs := [] } p v).2.rs = [] := List.length_eq_zero_iff.mp k2.len
  refine ⟨⟨_, by rw [eb]; show _ :: (changeL (ops 0) r.ru (r.ls (p / 4)) { t with rs := [] } p v).2.rs = _; rw [ers], put_ok hrm k1, eru, ?_⟩, m1, (ops_th 1).ch t p v h.th, ?_, ?_⟩
  · rw [sent_snoc, ← ess, absS_put, g2]
    rfl
  · rw [eb]
    show (changeL (ops 0) r.ru (r.ls (p / 4)) { t with rs := [] } p v).2.log = _
    unfold sentOf
    rw [sent_snoc, ← ess, g1, etl]
    show t.log ++ _ = ents [.int 0, .int 0] ((aRun (ru0 u) (ss0 u) as).2 ++ _)
    rw [ents_app, h.lg]
    rfl
  · rw [eb]
    show (changeL (ops 0) r.ru (r.ls (p / 4)) { t with rs := [] } p v).2.log.length ≤ _
    have := h.ln
    have k4 : (changeL (ops 0) r.ru (r.ls (p / 4)) { t with rs := [] } p v).2.log.length ≤ t.log.length + _ := k4
    rw [List.length_append, List.length_singleton]
    omega
theorem SeT.home (h : SeT u as t) {b : Nat} (hb : b < 16) {ns : List Int} (hn : ns.length = 4) : SeT u (as ++ [.home b]) ((ops 1).hm t b ns) := by
  obtain ⟨r, er, hrm, eru, ess⟩ := h.ex
  have T := far_tr (ruOf u 0 0).tl
  rw [← eru] at T
  have ht0 : TaOk 0 { t with rs := ([] : List Rm) } := ⟨rfl, (fun r hr => by cases hr), h.tk.far⟩
  obtain ⟨g1, g2⟩ := home_tr (ls := r.ls b) T trivial b ns (t := { t with rs := [] })
  obtain ⟨k1, k2, k4⟩ := homeL_ok (ops_ok 0) hrm.ru (hrm.ls b) ht0 hb hn
  obtain ⟨m1, m2⟩ := (ops_ok 1).hm t b ns h.tk hb hn
  have eb : (ops 1).hm t b ns = Ta.cons (r.put b (homeL (ops 0) r.ru (r.ls b) { t with rs := [] } b ns).1) (homeL (ops 0) r.ru (r.ls b) { t with rs := [] } b ns).2 := hm_cons er b ns
  have hg : gOf 0 = 0 := rfl
  rw [← absS_get] at g1 g2
  have etl : r.ru.tl = [.int 0, .int 0] := by rw [eru]; rfl
  have er2 : aHome r.ru = aHome (ru0 u) := by rw [eru]; rfl
  rw [er2] at g1 g2
  have ers : (homeL (ops 0) r.ru (r.ls b) { t with rs := [] } b ns).2.rs = [] := List.length_eq_zero_iff.mp k2.len
  refine ⟨⟨_, by rw [eb]; show _ :: (homeL (ops 0) r.ru (r.ls b) { t with rs := [] } b ns).2.rs = _; rw [ers], put_ok hrm k1, eru, ?_⟩, m1, (ops_th 1).hm t b ns h.th, ?_, ?_⟩
  · rw [sent_snoc, ← ess, absS_put, g2]
    rfl
  · rw [eb]
    show (homeL (ops 0) r.ru (r.ls b) { t with rs := [] } b ns).2.log = _
    unfold sentOf
    rw [sent_snoc, ← ess, g1, etl]
    show t.log ++ _ = ents [.int 0, .int 0] ((aRun (ru0 u) (ss0 u) as).2 ++ _)
    rw [ents_app, h.lg]
    rfl
  · rw [eb]
    show (homeL (ops 0) r.ru (r.ls b) { t with rs := [] } b ns).2.log.length ≤ _
    have := h.ln
    have k4 : (homeL (ops 0) r.ru (r.ls b) { t with rs := [] } b ns).2.log.length ≤ t.log.length + _ := k4
    rw [List.length_append, List.length_singleton]
    omega
end
-- WwDu
/-! ### what an own room passes on -/
def spODue (K : PySem.W.Frag) : Sp := fun vs H Q _ => ∃ (ra pa : Addr) (u : Rul) (asks : List Ask) (R : List Cell), vs = [.ref ra, .ref pa] ∧ RulOk u ∧ (ra, HO.tup u.vs) ∈ R ∧ (∀ a ∈ asks, a.ok) ∧ asks.length ≤ 400 ∧ AsksAt R pa asks ∧ Own H R ∧
  ∀ (p : Addr) (as : List Addr) (N : List Cell) (H' : Hp), (sentOf u asks).length ≤ 1200 → TA N as ((sentOf u asks).map outV) → Own H' ((p, .lst (as.map V.ref)) :: (N ++ R)) → Q (.ref p) H'
def Ask.wd : Ask → Str
  | .look _ => "look"
  | .cell _ => "cell"
  | .bring _ => "bring"
  | .home _ => "home"
def Ask.nm : Ask → Nat
  | .look p => p
  | .cell p => p
  | .bring b => b
  | .home b => b
theorem Ask.vs_eq (a : Ask) : a.vs = [.str a.wd, .int (a.nm : Nat)] := by cases a <;> rfl
theorem log_at {as : List Addr} {es : List Ent} : ∀ {i : Nat} {a : Addr} {e : Ent}, as[i]? = some a → es[i]? = some e → (a, HO.tup e.vs) ∈ logC as es := by
  induction as generalizing es with
  | nil =>
    intro i a e h
    simp at h
  | cons b as ih =>
    intro i a e h1 h2
    cases es with
    | nil => simp at h2
    | cons d es =>
      cases i with
      | zero =>
        have e1 : b = a := by simpa using h1
        have e2 : d = e := by simpa using h2
        subst e1 e2
        exact List.mem_cons_self
      | succ i => exact List.mem_cons_of_mem _ (ih (i := i) (by simpa using h1) (by simpa using h2))
section
variable {P : Program} {w : World} {K : PySem.W.Frag} {mg : Str → Option Value} {base : Heap} {n lv : Nat}
theorem ok_o_due (T : Txt K mg) : FnOk P w K mg base CX0 10 (He.fAd K ("_law_due", none)) T.fd__law_due ["_law_rule_here", "_law_asks"] (spODue K) := by
  have G__law_hall := ok_o_hall (P := P) (w := w) (base := base) T
  obtain ⟨G__law_comes, G__law_reached, G__law_cell⟩ := ok_o_all (P := P) (w := w) (base := base) T 1
  have eo : oLv 1 = 5 := rfl
  rw [eo] at G__law_comes G__law_reached G__law_cell
  refine okOf T.F__law_due sc__law_due (fun vs H Q E h => ?_) (fun cdv A outer s H vs Q E hr h => ?_)
  · obtain ⟨_, _, _, _, _, rfl, _⟩ := h
    rfl
  · obtain ⟨ra, pa, u, asks, R, rfl, hu, hra, hok, hal, hat, O, k⟩ := h
    refine ⟨_, (pss_cons (ps_set (i := 2) sc__law_due.nd rfl (Or.inl rfl) (pe_call G__law_hall (hr.mono (by omega)) rfl T.g__law_hall T.k__law_hall T.b__law_hall .nil pass0 (pa_cons (pe_lst (pa_cons (pv 0) pa_nil)) (pa_cons pe_int pa_nil)))) (pss_cons (ps_for PassesOwn.never rfl (pi_list (pv 1)) (pg_tup (by rfl) (pgs_cons (pg_name (i := 3) sc__law_due.nd rfl (Or.inl rfl)) (pgs_cons (pg_name (i := 4) sc__law_due.nd rfl (Or.inl rfl)) pgs_nil))) (pss_one (ps_if (pt_cmpR op_eq (pv 3) pe_str (nomark _)) (pss_one (ps_expr (pe_call G__law_cell (hr.mono (by omega)) rfl T.g__law_cell T.k__law_cell T.b__law_cell .nil pass0 (pa_cons (pv 2) (pa_cons (pe_tup (pa_cons pe_int (pa_cons pe_int pa_nil))) (pa_cons (pv 4) (pa_cons pe_int pa_nil))))))) (pss_one (ps_if (pt_cmpR op_eq (pv 3) pe_str (nomark _)) (pss_one (ps_expr (pe_call G__law_comes (hr.mono (by omega)) rfl T.g__law_comes T.k__law_comes T.b__law_comes .nil pass0 (pa_cons (pv 2) (pa_cons (pe_tup (pa_cons pe_int (pa_cons pe_int pa_nil))) (pa_cons (pv 4) (pa_cons (pe_op op_rep (pe_lst (pa_cons pe_int pa_nil)) pe_int) pa_nil))))))) (pss_one (ps_expr (pe_call G__law_reached (hr.mono (by omega)) rfl T.g__law_reached T.k__law_reached T.b__law_reached .nil pass0 (pa_cons (pv 2) (pa_cons (pe_tup (pa_cons pe_int (pa_cons pe_int pa_nil))) (pa_cons (pe_ifExp (pt_cmpR op_eq (pv 3) pe_str (nomark _)) (pv 4) (pe_op op_fdiv (pv 4) pe_int)) pa_nil))))))))))) (pss_one (ps_ret (pe_lc (te := (L2.tSl (rSlT K) (tVar 5) (tPart (tC (.int 2))) tNoPart)) (own := [("_law_one", 5)]) (by rfl) sc__law_due.nd (pi_list (pe_dget (hu_of hr) (pv 2) pe_str (fun _ _ => rfl))) (blkOk_by (own := [("_law_one", 5)]) (by kernel_rfl)) (fun _ _ _ _ _ => (pg_name (i := 5) sc__law_due.nd rfl (Or.inl rfl))) (fun _ _ _ _ _ => pts_nil) (fun _ _ _ _ _ => (pe_slice sl_tup (pv 5) (po_some pe_int) po_none))))))), ?_⟩
    refine ⟨_, rfl, by show 1 ≤ sizeLine; decide, fun rl hrl => ?_⟩
    have O1 := O.new (o := .lst [.ref ra]) hrl
    have hus : RulesOk [u] := ⟨fun x hx => by rw [List.mem_singleton.mp hx]; exact hu, Nat.le_refl 1, by show 1 ≤ 3; omega⟩
    refine ⟨rl, [u], 0, 1, (rl, .lst [.ref ra]) :: R, rfl, hus, rfl, Nat.le_refl _, by decide, ⟨[ra], List.mem_cons_self, List.mem_cons_of_mem _ hra, trivial⟩, O1, fun f C0 N0 H1 efu efm efr hes hfh hfr hC0 O2 => ?_⟩
    obtain ⟨Co, Ct, hCo, hCt, rfl⟩ := hC0
    have hown : (hall0 [u] 1).own = [mkRm u [.int 0, .int 0]] := rfl
    rw [hown] at hCo
    obtain ⟨C1, C2, hC1, hC2, rfl⟩ := hCo
    obtain rfl : C2 = [] := hC2
    have hOT := OT.cons hC1 hCt
    obtain ⟨as, hasl, hpa, hget⟩ := hat.get
    obtain ⟨R2, hR2⟩ : ∃ R2, R2 = N0 ++ ((rl, HO.lst [.ref ra]) :: R) := ⟨_, rfl⟩
    have hRR : ∀ c ∈ R, c ∈ R2 := fun c hc => by rw [hR2]; simp [hc]
    have hfx : FxAt f R2 := ⟨by rw [hR2]; simp [hfh], by rw [hR2]; simp [hfr], by rw [efr, efu]; exact ⟨[ra], by rw [hR2]; simp, hRR _ hra, trivial⟩, by rw [efu]; exact hus⟩
    have e1 : 0 + 1 = f.us.length := by rw [efu]; rfl
    have S0 : SeT u [] (Ta.cons (mkRm u [.int 0, .int 0]) (hall0 [u] 1).t) := by
      refine ⟨⟨_, rfl, mkRm_ok hu (by show 2 ≤ 4; omega), rfl, ?_⟩, ⟨rfl, fun r hr => ?_, rfl⟩, fun r hr => ?_, rfl, Nat.le_refl _⟩
      · show (List.replicate u.s ([] : List Ln)).map abL = List.replicate u.s []
        rw [List.map_replicate]
        rfl
      · rcases List.mem_cons.mp hr with e | e
        · rw [e]
          exact mkRm_ok hu (by show 2 ≤ 4; omega)
        · cases e
      · rcases List.mem_cons.mp hr with e | e
        · rw [e]
          exact mk_th u _
        · cases e
    have O3 : Own H1 ((C1 ++ Ct) ++ R2) := by
      rw [hR2]
      simpa using O2
    refine ⟨_, rfl, pa, rfl, ⟨_, SqL.of (O3.mem (List.mem_append_right _ (hRR _ hpa)))⟩, ?_⟩
    refine for_list (K := K) (a := pa) (xs := as.map V.ref) (fun i σ H' => (∃ v3 v4 v5, σ = [some (.ref ra), some (.ref pa), some (.ref f.h), v3, v4, v5]) ∧ ∃ (t : Ta) (C N : List Cell), SeT u (asks.take i) t ∧ OT f 0 t C ∧ Own H' (C ++ (N ++ R2)))
      ⟨⟨_, _, _, rfl⟩, _, C1 ++ Ct, [], by rw [List.take_zero]; exact S0, hOT, O3⟩ (fun i σ H' _ ⟨_, _, _, _, _, _, O'⟩ => SqL.of (O'.mem (List.mem_append_right _ (List.mem_append_right _ (hRR _ hpa))))) ?_ ?_
    · rintro i x σ H2 hi ⟨⟨v3, v4, v5, rfl⟩, t, C, N, hS, hC, O4⟩
      obtain ⟨a, d, rfl, _, hd1, hd2⟩ := hget hi
      rw [d.vs_eq] at hd2
      have hdok := hok d (List.mem_of_getElem? hd1)
      have hil : i < asks.length := (List.getElem?_eq_some_iff.mp hd1).1
      have hlb : LB 1 t := ⟨by decide, by have := hS.ln; rw [List.length_take] at this; omega⟩
      refine ⟨a, _, rfl, SqT.of (O4.mem (List.mem_append_right _ (List.mem_append_right _ (hRR _ hd2)))), rfl, _, _, rfl, _, _, rfl, rfl, ?_⟩
      have kv : ∀ {q : Addr} {Z : List Cell}, KvAt ((q, HO.tup [.int 0, .int 0]) :: Z) 0 (.ref q) 1 := fun {q Z} => ⟨q, rfl, List.mem_cons_self⟩
      have fin : ∀ {H' : Hp} {t' : Ta} {C' : List Cell} {NN : List Cell}, SeT u (asks.take i ++ [d]) t' → OT f 0 t' C' → Own H' (C' ++ (NN ++ R2)) → ∃ (t : Ta) (C N : List Cell), SeT u (asks.take (i + 1)) t ∧ OT f 0 t C ∧ Own H' (C ++ (N ++ R2)) := fun h1 h2 h3 => ⟨_, _, _, by rw [take_snoc hd1]; exact h1, h2, h3⟩
      have O4' : ∀ {q : Addr} (hq : H2 q = none), Own (upd H2 q (.tup [.int 0, .int 0])) (C ++ ((q, .tup [.int 0, .int 0]) :: (N ++ R2))) := fun hq => (O4.new hq).perm (by walk_at "perm")
      have fx3 : ∀ {q : Addr}, FxAt f ((q, HO.tup [.int 0, .int 0]) :: (N ++ R2)) := hfx.mono fun c hc => by simp [hc]
      refine ⟨_, rfl, rfl, _, rfl, ?_⟩
      cases d with
      | cell p =>
        refine iteTo (decide_eq_true rfl) ?_
        refine ⟨_, rfl, by show 2 ≤ sizeLine; decide, fun q hq => ?_⟩
        refine ⟨_, rfl, f, .ref q, 0, p, 0, t, C, (q, .tup [.int 0, .int 0]) :: (N ++ R2), rfl, e1, kv, hdok, fx3, hS.tk, hS.th, hlb, hC, O4' hq, fun H' C' h1 h2 => ?_⟩
        exact ⟨⟨_, _, _, rfl⟩, fin (NN := (q, .tup [.int 0, .int 0]) :: N) (hS.change hdok 0) h1 h2⟩
      | home b =>
        refine iteFo (show decide (V.str "home" = V.str "cell") = false by decide +kernel) ?_
        refine ⟨_, rfl, rfl, _, rfl, iteTo (decide_eq_true rfl) ?_⟩
        refine ⟨_, rfl, by show 2 ≤ sizeLine; decide, fun q hq => ?_⟩
        refine ⟨_, rfl, by show 1 ≤ sizeLine; decide, fun z hz => ?_⟩
        have O5 := (O4' hq).new (o := .lst [.int 0]) hz
        refine ⟨z, 4, [.int 0], rfl, rfl, O5.a0, by decide, by decide, by show 1 * 4 ≤ sizeLine; decide, fun z2 hz2 => ?_⟩
        have e4 : (List.replicate (4 : Int).toNat [V.int 0]).flatten = (List.replicate 4 (0 : Int)).map V.int := by decide
        rw [e4]
        have O6 := O5.new (o := .lst ((List.replicate 4 (0 : Int)).map V.int)) hz2
        refine ⟨f, .ref q, 0, b, z2, List.replicate 4 0, t, C, (q, .tup [.int 0, .int 0]) :: ((z, .lst [.int 0]) :: (N ++ R2)), rfl, e1, kv, hdok, rfl, hfx.mono fun c hc => by simp [hc], hS.tk, hlb, hC, O6.perm (by walk_at "perm"), fun H' C' h1 h2 => ?_⟩
        exact ⟨⟨_, _, _, rfl⟩, fin (NN := (q, .tup [.int 0, .int 0]) :: (z, .lst [.int 0]) :: N) (hS.home hdok rfl) h1 h2⟩
      | look p =>
        have hdok : p < 64 := hdok
        refine iteFo (show decide (V.str "look" = V.str "cell") = false by decide +kernel) ?_
        refine ⟨_, rfl, rfl, _, rfl, iteFo (show decide (V.str "look" = V.str "home") = false by decide +kernel) ?_⟩
        refine ⟨_, rfl, by show 2 ≤ sizeLine; decide, fun q hq => ?_⟩
        refine ⟨_, rfl, rfl, _, rfl, iteFo (show decide (V.str "look" = V.str "bring") = false by decide +kernel) ⟨_, rfl, _, _, rfl, rfl, ⟨by decide, by decide⟩, ?_⟩⟩
        refine ⟨f, .ref q, 0, p / 4, t, C, (q, .tup [.int 0, .int 0]) :: (N ++ R2), congrArg (fun z => [V.ref f.h, V.ref q, V.int z]) (by show ((p : Nat) : Int) / 4 = ((p / 4 : Nat) : Int); omega), e1, kv, by omega, fx3, hS.tk, hlb, hC, O4' hq, fun p1 q1 d1 N1 H' C' h1 _ _ h2 => ?_⟩
        exact ⟨⟨_, _, _, rfl⟩, fin (NN := N1 ++ ((q, .tup [.int 0, .int 0]) :: N)) (hS.reach (by omega) fun ss => rfl) h1 (h2.perm (by walk_at "perm"))⟩
      | bring b =>
        have hdok : b < 16 := hdok
        refine iteFo (show decide (V.str "bring" = V.str "cell") = false by decide +kernel) ?_
        refine ⟨_, rfl, rfl, _, rfl, iteFo (show decide (V.str "bring" = V.str "home") = false by decide +kernel) ?_⟩
        refine ⟨_, rfl, by show 2 ≤ sizeLine; decide, fun q hq => ?_⟩
        refine ⟨_, rfl, rfl, _, rfl, iteTo (decide_eq_true rfl) ⟨_, rfl, ?_⟩⟩
        refine ⟨f, .ref q, 0, b, t, C, (q, .tup [.int 0, .int 0]) :: (N ++ R2), rfl, e1, kv, hdok, fx3, hS.tk, hlb, hC, O4' hq, fun p1 q1 d1 N1 H' C' h1 _ _ h2 => ?_⟩
        exact ⟨⟨_, _, _, rfl⟩, fin (NN := N1 ++ ((q, .tup [.int 0, .int 0]) :: N)) (hS.reach hdok fun ss => rfl) h1 (h2.perm (by walk_at "perm"))⟩
    · rintro σ H2 ⟨⟨v3, v4, v5, rfl⟩, t, C, N, hS, hC, O4⟩
      rw [List.length_map, hasl, List.take_length] at hS
      obtain ⟨C5, D5, hC5, ⟨ls, hll, rfl⟩, rfl⟩ := id hC
      have hmem : ∀ {H' : Hp} {L : List Cell}, Own H' (L ++ ((C5 ++ ((f.fl, .lst (t.far.map V.int)) :: (f.lg, .lst (ls.map V.ref)) :: logC ls t.log)) ++ (N ++ R2))) → H' f.h = some (.dK (fxH f)) ∧ H' f.lg = some (.lst (ls.map V.ref)) ∧ ∀ c ∈ logC ls t.log, H' c.1 = some c.2 := fun O' => ⟨O'.mem (by simp [hfx.h]), O'.mem (by simp), fun c hc => O'.2 c (by simp [hc])⟩
      have hsl : (sentOf u asks).length = t.log.length := by rw [hS.lg]; unfold ents; rw [List.length_map]
      have hlen := hS.ln
      refine ⟨_, rfl, f.h, _, rfl, hfx.gLog (hmem (L := []) O4).1, f.lg, rfl, ⟨_, SqL.of (hmem (L := []) O4).2.1⟩, fun D hD => ?_⟩
      refine lc_list (K := K) (a := f.lg) (xs := ls.map V.ref) (fun j H' => ∃ (as' : List Addr) (N' : List Cell), TA N' as' (((sentOf u asks).take j).map outV) ∧ Own H' ((D, .lst (as'.map V.ref)) :: (N' ++ ((C5 ++ ((f.fl, .lst (t.far.map V.int)) :: (f.lg, .lst (ls.map V.ref)) :: logC ls t.log)) ++ (N ++ R2))))) ⟨[], [], trivial, O4.new hD⟩ (fun j H' _ ⟨_, _, _, O'⟩ => SqL.of (hmem (L := _ :: _) O').2.1) ?_ ?_
      · rintro j y H3 hj ⟨as', N', hta, O5⟩
        rw [List.getElem?_map] at hj
        cases ha : ls[j]? with
        | none =>
          rw [ha] at hj
          cases hj
        | some a =>
          rw [ha] at hj
          have ey : V.ref a = y := Option.some.inj hj
          subst ey
          have hjl : j < t.log.length := by rw [← hll]; exact (List.getElem?_eq_some_iff.mp ha).1
          obtain ⟨o, ho⟩ : ∃ o, (sentOf u asks)[j]? = some o := ⟨_, List.getElem?_eq_getElem (by omega)⟩
          have hle : t.log[j]? = some ⟨[.int 0, .int 0], o.1, o.2⟩ := by
            rw [hS.lg]
            unfold ents
            rw [List.getElem?_map, ho]
            rfl
          have hta2 := hta.len
          rw [List.length_map, List.length_take] at hta2
          refine ⟨rfl, tYes_go (iteT ⟨_, rfl, _, rfl, noPart ⟨a, _, rfl, SqT.of ((hmem (L := _ :: _) O5).2.2 _ (log_at ha hle)), by show ¬ (HT.sIx 4 0 (some 2) = 0 ∧ HT.sIx 4 4 none = 4); decide, fun q hq => ?_⟩⟩)⟩
          have O6 := O5.new (o := .tup (outV o)) hq
          refine ⟨_, O6.a1, by rw [List.length_map]; exact size1 (by omega), as' ++ [q], (q, .tup (outV o)) :: N', ?_, ?_⟩
          · rw [take_snoc ho, List.map_append]
            exact (hta.mono fun c hc => List.mem_cons_of_mem _ hc).app ⟨List.mem_cons_self, trivial⟩
          · rw [List.map_append]
            exact (O6.perm (L' := (D, .lst (as'.map V.ref)) :: (((q, .tup (outV o)) :: N') ++ ((C5 ++ ((f.fl, .lst (t.far.map V.int)) :: (f.lg, .lst (ls.map V.ref)) :: logC ls t.log)) ++ (N ++ R2)))) (by walk_at "perm")).set
      · rintro H3 ⟨as', N', hta, O5⟩
        rw [List.length_map, hll, ← hsl, List.take_length] at hta
        rw [hR2] at O5
        exact k D as' _ H3 (by omega) (hta.mono fun c hc => List.mem_append_left ((C5 ++ ((f.fl, .lst (t.far.map V.int)) :: (f.lg, .lst (ls.map V.ref)) :: logC ls t.log)) ++ (N ++ (N0 ++ [(rl, HO.lst [.ref ra])]))) hc) (O5.perm (by walk_at "perm"))
end
-- WwPx
/-! ### passed, of whatever is handed in -/
def AskAt (axs : List (List V)) (i : Nat) : Prop := i < 400 ∧ ∃ xs, axs[i]? = some xs ∧ askB xs = true
def AskBad (axs : List (List V)) (i : Nat) : Prop := i < axs.length ∧ ¬ AskAt axs i ∧ ∀ j, j < i → AskAt axs j
def FlatT (xs : List V) : Prop := (∀ x ∈ xs, OkF x) ∧ xs.length ≤ 1000
def spPassedX (K : PySem.W.Frag) : Sp := fun vs H Q E => ∃ (ra pa : Addr) (rx : List V) (as : List Addr) (axs : List (List V)) (R : List Cell), vs = [.ref ra, .ref pa] ∧ (ra, HO.tup rx) ∈ R ∧ FlatT rx ∧ (pa, HO.lst (as.map V.ref)) ∈ R ∧ TA R as axs ∧ (∀ xs ∈ axs, FlatT xs) ∧ axs.length ≤ 2000 ∧ Own H R ∧
  (ruleB rx = false → ∀ (d : Addr) (H' : Hp), Own H' ((d, .xd [("number", .int 0)]) :: R) → E (.ref (He.ga K "BadRule")) (some d) H') ∧
  (ruleB rx = true → ∀ i, AskBad axs i → ∀ (d : Addr) (H' : Hp), Own H' ((d, .xd [("number", .int (i : Nat))]) :: R) → E (.ref (He.ga K "BadDeed")) (some d) H') ∧
  (ruleB rx = true → (∀ i, i < axs.length → AskAt axs i) → ∃ (u : Rul) (asks : List Ask), RulOk u ∧ rx = u.vs ∧ axs = asks.map Ask.vs ∧ (∀ a ∈ asks, a.ok) ∧ asks.length ≤ 400 ∧
    ∀ (p : Addr) (as' : List Addr) (N : List Cell) (H' : Hp), TA N as' ((sentOf u asks).map outV) → Own H' ((p, .lst (as'.map V.ref)) :: (N ++ R)) → Q (.ref p) H')
section
variable {P : Program} {w : World} {K : PySem.W.Frag} {mg : Str → Option Value} {base : Heap} {n lv : Nat}
theorem ok_passedX (T : Txt K mg) : FnOk P w K mg base (L2.CX P w) 7 (He.fAd K ("passed", none)) T.fd_passed ["rule", "asks"] (spPassedX K) := by
  have G_is_rule := ok_is_ruleG (P := P) (w := w) (base := base) T
  have G_is_ask := ok_is_askG (P := P) (w := w) (base := base) T
  have G_BadRule := ok_BadRule (P := P) (w := w) (base := base) T
  have G_BadDeed := ok_BadDeed (P := P) (w := w) (base := base) T
  have G_sent := ok_sent (P := P) (w := w) (base := base) T
  refine okX T.F_passed sc_passed (fun vs H Q E h => ?_) (fun cdv A outer s H vs Q E hr h => ?_)
  · obtain ⟨_, _, _, _, _, _, rfl, _⟩ := h
    rfl
  · obtain ⟨ra, pa, rx, as, axs, R, rfl, hra, hrx, hpa, hta, hax, hal, O, k1, k2, k3⟩ := h
    refine ⟨_, (pss_cons (ps_if (pt_not (pt_val (pe_call G_is_rule (hr.mono (by omega)) rfl T.g_is_rule T.k_is_rule T.b_is_rule .nil pass0 (pa_cons (pv 0) pa_nil)))) (pss_one (ps_raise rfl (takes_of rfl rfl rfl rfl) (pmk_oex ((T.xt.xc "BadRule" (by decide)).oex T.ox_BadRule) T.m_BadRule___init__.at_ (isFn_ty T.m_BadRule___init__.fn) G_BadRule (hr.mono (by omega)) T.b_BadRule___init__ .nil pass0 (by rfl) T.g_BadRule (pa_cons pe_int pa_nil)))) pss_nil) (pss_cons (ps_for (passes_of rfl) rfl (pi_enum (by rfl) T.n_enumerate (pa_cons (pv 1) pa_nil)) (pg_tup (by rfl) (pgs_cons (pg_name (i := 2) sc_passed.nd rfl (Or.inl rfl)) (pgs_cons (pg_name (i := 3) sc_passed.nd rfl (Or.inl rfl)) pgs_nil))) (pss_one (ps_if (PW.pt (pw_or (pt_cmpR op_ge (pv 2) (pe_globI rfl T.g_MOST_ASKS) (nomark _)) (pw_or1 (pt_not (pt_val (pe_call G_is_ask (hr.mono (by omega)) rfl T.g_is_ask T.k_is_ask T.b_is_ask .nil pass0 (pa_cons (pv 3) pa_nil))))))) (pss_one (ps_raise rfl (takes_of rfl rfl rfl rfl) (pmk_oex ((T.xt.xc "BadDeed" (by decide)).oex T.ox_BadDeed) T.m_BadDeed___init__.at_ (isFn_ty T.m_BadDeed___init__.fn) G_BadDeed (hr.mono (by omega)) T.b_BadDeed___init__ .nil pass0 (by rfl) T.g_BadDeed (pa_cons (pv 2) pa_nil)))) pss_nil))) (pss_one (ps_ret (pe_call G_sent (hr.mono (by omega)) rfl T.g_sent T.k_sent T.b_sent .nil pass0 (pa_cons (pv 0) (pa_cons (pv 1) pa_nil))))))), ?_⟩
    refine ⟨_, rfl, ra, rx, rfl, hrx.1, O.mem hra, hrx.2, _, rfl, ?_⟩
    cases hB : ruleB rx with
    | false =>
      refine iteT ?_
      exact rz_go (by decide) fun d hd => k1 hB d _ (O.new hd)
    | true =>
      refine iteF ?_
      refine ⟨_, rfl, pa, _, rfl, SqL.of (O.mem hpa), ?_⟩
      have hasl := hta.len
      refine for_enum (K := K) (a := pa) (xs := as.map V.ref) (fun i σ H' => (∃ v2 v3, σ = [some (.ref ra), some (.ref pa), v2, v3]) ∧ (∀ j, j < i → AskAt axs j) ∧ Own H' R) ⟨⟨none, none, rfl⟩, fun j hj => absurd hj (by omega), O⟩ (fun i σ H' _ ⟨_, _, O'⟩ => SqL.of (O'.mem hpa)) ?_ ?_
      · rintro i x σ H1 p hi ⟨⟨v2, v3, rfl⟩, hj, O1⟩ hp
        rw [List.getElem?_map] at hi
        cases ha : as[i]? with
        | none =>
          rw [ha] at hi
          cases hi
        | some a =>
          rw [ha] at hi
          have ex : V.ref a = x := Option.some.inj hi
          subst ex
          obtain ⟨xs, hx1, hx2⟩ := hta.get ha
          have hil : i < axs.length := (List.getElem?_eq_some_iff.mp hx1).1
          obtain ⟨hf1, hf2⟩ := hax xs (List.mem_of_getElem? hx1)
          have O2 := O1.new (o := .tup [.int (i : Nat), .ref a]) hp
          have bad : ¬ AskAt axs i → ∀ {HH : Hp}, Own HH R → ∀ d, HH d = none → E (.ref (He.ga K "BadDeed")) (some d) (upd HH d (.xd [("number", .int (i : Nat))])) := fun hb HH O' d hd => k2 hB i ⟨hil, hb, hj⟩ d _ (O'.new hd)
          refine ⟨p, _, rfl, SqT.of O2.a0, rfl, _, _, rfl, _, _, rfl, rfl, ?_⟩
          refine ⟨_, rfl, i, 400, rfl, rfl, _, rfl, ?_⟩
          by_cases h2 : (400 : Int) ≤ (i : Int)
          · refine iteTo (decide_eq_true h2) ?_
            exact ⟨_, rfl, rz_go (by omega) (bad (fun z => by have := z.1; omega) O2.tail)⟩
          · refine iteFo (decide_eq_false h2) ?_
            refine ⟨_, rfl, a, xs, _, rfl, hf1, List.mem_cons_of_mem _ hx2, hf2, O2, fun H3 O3 => ?_⟩
            cases hq : askB xs with
            | true =>
              refine ⟨_, rfl, iteF ⟨⟨_, _, rfl⟩, fun j hj2 => ?_, O3.tail⟩⟩
              by_cases e : j = i
              · rw [e]
                exact ⟨by omega, xs, hx1, hq⟩
              · exact hj j (by omega)
            | false =>
              refine ⟨_, rfl, iteT ⟨_, rfl, rz_go (by omega) (bad (fun z => ?_) O3.tail)⟩⟩
              obtain ⟨_, ys, hy, hy2⟩ := z
              rw [hx1] at hy
              cases hy
              rw [hq] at hy2
              cases hy2
      · rintro σ H1 ⟨⟨v2, v3, rfl⟩, hj, O1⟩
        rw [List.length_map, hasl] at hj
        obtain ⟨u, asks, hu, rfl, rfl, hok, hal4, k⟩ := k3 hB hj
        exact ⟨_, rfl, _, rfl, ra, pa, u, asks, R, rfl, hu, hra, hok, hal4, ⟨as, hpa, hta⟩, O1, k⟩
end
-- WwL3
/-! ### the law -/
abbrev lawLv : Nat := 18
def lamQ : Str := (envOfC "law" (defScope s_law) 0 0 .none).qual ++ "<lambda>"
abbrev lamP (K : PySem.W.Frag) : Addr := (He.cT K ("law", none)).2
abbrev lamTs (K : PySem.W.Frag) : List (Addr × Str) := [(lamP K, lamQ)]
def spLaw (K : PySem.W.Frag) : Sp := fun vs H Q _ => ∃ (sc : Addr) (ns : List Int) (S TL : List Cell), vs = [.ref sc] ∧ Scr K sc ns S ∧ NT S ∧ TabC TL (lamP K) lamQ ∧ Own H (S ++ TL) ∧ ∀ H', Q (.bl true) H'
theorem RowC.nt {K : PySem.W.Frag} {rw : Addr} {S : List Cell} {c : Cell} (h : RowC K rw S c) : isTb c.2 = false := by
  obtain ⟨_, _, _, _, _, _, _, rfl⟩ := h
  rfl
theorem TA.ntOf {N : List Cell} : ∀ {as : List Addr} {us : List (List V)}, TA N as us → TA (nt N) as us
  | [], [], _ => trivial
  | [], _ :: _, h => h.elim
  | _ :: _, [], h => h.elim
  | _ :: _, _ :: _, h => ⟨nt_mem.mpr ⟨h.1, rfl⟩, TA.ntOf h.2⟩
theorem TA.takeN {N : List Cell} : ∀ {as : List Addr} {us : List Ask}, TA N as (us.map Ask.vs) → ∀ k, TA N (as.take k) ((us.take k).map Ask.vs)
  | [], [], _, k => by
    cases k <;> exact trivial
  | [], _ :: _, h, _ => h.elim
  | _ :: _, [], h, _ => h.elim
  | a :: as, u :: us, h, 0 => trivial
  | a :: as, u :: us, h, k + 1 => ⟨h.1, TA.takeN (us := us) h.2 k⟩
theorem TA.dropN {N : List Cell} : ∀ {as : List Addr} {us : List Ask}, TA N as (us.map Ask.vs) → ∀ k, TA N (as.drop k) ((us.drop k).map Ask.vs)
  | [], [], _, k => by
    cases k <;> exact trivial
  | [], _ :: _, h, _ => h.elim
  | _ :: _, [], h, _ => h.elim
  | a :: as, u :: us, h, 0 => h
  | a :: as, u :: us, h, k + 1 => TA.dropN (us := us) h.2 k
theorem TA.rep {N : List Cell} {a : Addr} {u : List V} (h : (a, HO.tup u) ∈ N) : ∀ k, TA N (List.replicate k a) (List.replicate k u)
  | 0 => trivial
  | k + 1 => ⟨h, TA.rep h k⟩
theorem flat_rep {α : Type} : ∀ (k : Nat) (x : α), (List.replicate k [x]).flatten = List.replicate k x
  | 0, _ => rfl
  | k + 1, x => by
    show [x] ++ (List.replicate k [x]).flatten = x :: List.replicate k x
    rw [flat_rep k x]
    rfl
def outD (o : Out) : PyData := .tuple [.str o.1, .int (o.2 : Nat)]
theorem outs_dp {N : List Cell} : ∀ {as : List Addr} {os : List Out}, TA N as (os.map outV) → DpsL N (as.map V.ref) (os.map outD)
  | [], [], _ => .nil
  | [], _ :: _, h => h.elim
  | _ :: _, [], h => h.elim
  | a :: as, o :: os, h => .cons (.tup h.1 (.cons (.str _) (.cons (.int _) .nil))) (outs_dp h.2)
theorem alD_outs {n : Nat} {os : List Out} (h : os.length ≤ 100000) : AlD (n + 3) (.list (os.map outD)) := ⟨by rw [List.length_map]; exact h, fun d hd => by
  obtain ⟨o, _, rfl⟩ := List.mem_map.mp hd
  exact ⟨by show 2 ≤ 100000; decide, fun e he => by
    rcases List.mem_cons.mp he with z | he
    · rw [z]
      trivial
    · rcases List.mem_cons.mp he with z | he
      · rw [z]
        trivial
      · cases he⟩⟩
def askD (a : Ask) : PyData := .tuple [.str a.wd, .int (a.nm : Nat)]
theorem asks_dp {N : List Cell} : ∀ {as : List Addr} {os : List Ask}, TA N as (os.map Ask.vs) → DpsL N (as.map V.ref) (os.map askD)
  | [], [], _ => .nil
  | [], _ :: _, h => h.elim
  | _ :: _, [], h => h.elim
  | a :: as, o :: os, h => .cons (.tup (xs := [.str o.wd, .int (o.nm : Nat)]) (by have := h.1; rw [o.vs_eq] at this; exact this) (.cons (.str _) (.cons (.int _) .nil))) (asks_dp h.2)
theorem lay_ask (a : Ask) : PyData.canLay0 (.str a.wd) = true := by
  cases a with
  | look p =>
    show PyData.canLay0 (.str "look") = true
    decide +kernel
  | cell p =>
    show PyData.canLay0 (.str "cell") = true
    decide +kernel
  | bring p =>
    show PyData.canLay0 (.str "bring") = true
    decide +kernel
  | home p =>
    show PyData.canLay0 (.str "home") = true
    decide +kernel
theorem pick6 {v : Int} (h0 : 0 ≤ v) (h6 : v < 6) : ∃ a : Nat → Ask, (∀ k : Nat, (a k).nm = k) ∧ atI [V.str "look", .str "look", .str "cell", .str "cell", .str "bring", .str "home"] v = some (.str (a 0).wd) ∧ (∀ k, (a k).wd = (a 0).wd) ∧
    (inV (.str (a 0).wd) [V.str "look", .str "cell"] = true ∧ (∀ k, k < 64 → (a k).ok) ∨ inV (.str (a 0).wd) [V.str "look", .str "cell"] = false ∧ ∀ k, k < 16 → (a k).ok) := by
  rcases (show v = 0 ∨ v = 1 ∨ v = 2 ∨ v = 3 ∨ v = 4 ∨ v = 5 by omega) with e | e | e | e | e | e <;> subst e
  · exact ⟨.look, fun _ => rfl, rfl, fun _ => rfl, .inl ⟨in_lc1, fun _ h => h⟩⟩
  · exact ⟨.look, fun _ => rfl, rfl, fun _ => rfl, .inl ⟨in_lc1, fun _ h => h⟩⟩
  · exact ⟨.cell, fun _ => rfl, rfl, fun _ => rfl, .inl ⟨in_lc2, fun _ h => h⟩⟩
  · exact ⟨.cell, fun _ => rfl, rfl, fun _ => rfl, .inl ⟨in_lc2, fun _ h => h⟩⟩
  · exact ⟨.bring, fun _ => rfl, rfl, fun _ => rfl, .inr ⟨in_lc3, fun _ h => h⟩⟩
  · exact ⟨.home, fun _ => rfl, rfl, fun _ => rfl, .inr ⟨in_lc4, fun _ h => h⟩⟩
theorem asks_lay (asks : List Ask) : SeqAt.shaped (.list (asks.map askD)) = true := by
  obtain ⟨h1, h2⟩ := layL (f := askD) (k := 1) (xs := asks) fun a _ => by
    refine ⟨?_, ?_⟩
    · show (PyData.canLay0 (.str a.wd) && (true && true)) = true
      rw [lay_ask]
      rfl
    · show max 0 (max 0 0) + 1 ≤ 1
      decide
  exact shaped_of h1 (Nat.le_trans h2 (by decide))
theorem rul_flat (u : Rul) : FlatT u.vs := ⟨fun x hx => by
  unfold Rul.vs at hx
  simp only [List.mem_cons, List.not_mem_nil, or_false] at hx
  rcases hx with e | e | e | e | e <;> rw [e]
  · exact .int _
  · exact .int _
  · exact .str _
  · exact .str _
  · exact .str _, by show 5 ≤ 1000; decide⟩
theorem rul_B {u : Rul} (hu : RulOk u) : ruleB u.vs = true := by
  have h1 : numIn (.int u.s) 1 64 = true := decide_eq_true (by rcases hu.s with e | e | e <;> omega)
  have h2 : numIn (.int u.w) 1 4 = true := decide_eq_true (by have := hu.w0; have := hu.w4; omega)
  show (numIn (.int u.s) 1 64 && (inV (.int u.s) [.int 1, .int 2, .int 4] && (numIn (.int u.w) 1 4 && (inV (.str (sBk u.bk)) [.str "through", .str "back"] && (inV (.str (sIn u.inn)) [.str "in", .str "by"] && inV (.str (sLt u.lt)) [.str "first", .str "late"]))))) = true
  rw [h1, h2, inBk, inIn, inLt, in3 u hu]
  rfl
theorem ask_eq (x : Str) (b : V) : askB [.str x, b] = if inV (.str x) [.str "look", .str "cell"] then numIn b 0 63 else inV (.str x) [.str "bring", .str "home"] && numIn b 0 15 := rfl
theorem ask_B {a : Ask} (h : a.ok) : askB a.vs = true := by
  rw [a.vs_eq, ask_eq]
  cases a with
  | look p =>
    rw [show (Ask.look p).wd = "look" from rfl, in_lc1]
    have h : p < 64 := h
    exact decide_eq_true (by show (0 : Int) ≤ ((p : Nat) : Int) ∧ ((p : Nat) : Int) ≤ 63; omega)
  | cell p =>
    rw [show (Ask.cell p).wd = "cell" from rfl, in_lc2]
    have h : p < 64 := h
    exact decide_eq_true (by show (0 : Int) ≤ ((p : Nat) : Int) ∧ ((p : Nat) : Int) ≤ 63; omega)
  | bring p =>
    rw [show (Ask.bring p).wd = "bring" from rfl, in_lc3, in_bh1]
    have h : p < 16 := h
    exact decide_eq_true (by show (0 : Int) ≤ ((p : Nat) : Int) ∧ ((p : Nat) : Int) ≤ 15; omega)
  | home p =>
    rw [show (Ask.home p).wd = "home" from rfl, in_lc4, in_bh2]
    have h : p < 16 := h
    exact decide_eq_true (by show (0 : Int) ≤ ((p : Nat) : Int) ∧ ((p : Nat) : Int) ≤ 15; omega)
/-- what is no ask -/
def oddV (far : Int) : List (List V) := [[], [.str "look"], [.str "look", .int (64 + far)], [.str "cell", .int (0 - 1)], [.str "bring", .int (16 + far)], [.str "home", .int (0 - 1)], [.str "Home", .int 0], [.str "home", .int 16], [.str "cell", .int 64], [.str "look", .int 0, .int 0], [.int 0, .int 0], [.str "bring", .str "0"]]
theorem odd_B {far : Int} (h : 0 ≤ far) {xs : List V} (hx : xs ∈ oddV far) : askB xs = false ∧ FlatT xs := by
  unfold oddV at hx
  simp only [List.mem_cons, List.not_mem_nil, or_false] at hx
  have fl : ∀ {x : V}, OkF x → ∀ {l : List V}, FlatT l → l.length ≤ 500 → FlatT (x :: l) := fun hx l hl hn => ⟨fun y hy => by
    rcases List.mem_cons.mp hy with e | e
    · rw [e]
      exact hx
    · exact hl.1 y e, by show _ + 1 ≤ 1000; omega⟩
  have f0 : FlatT [] := ⟨(fun x hx => nomatch hx), by show 0 ≤ 1000; decide⟩
  have bd : ∀ {i lo hi : Int}, ¬ (lo ≤ i ∧ i ≤ hi) → numIn (.int i) lo hi = false := fun h => decide_eq_false h
  rcases hx with e | e | e | e | e | e | e | e | e | e | e | e <;> rw [e]
  · exact ⟨rfl, f0⟩
  · exact ⟨rfl, fl (.str _) f0 (by decide)⟩
  · refine ⟨?_, fl (.str _) (fl (.int _) f0 (by decide)) (by show 1 ≤ 500; decide)⟩
    rw [ask_eq, in_lc1, if_pos rfl, bd (by omega)]
  · refine ⟨?_, fl (.str _) (fl (.int _) f0 (by decide)) (by show 1 ≤ 500; decide)⟩
    rw [ask_eq, in_lc2, if_pos rfl, bd (by omega)]
  · refine ⟨?_, fl (.str _) (fl (.int _) f0 (by decide)) (by show 1 ≤ 500; decide)⟩
    rw [ask_eq, in_lc3, if_neg (by decide), bd (by omega), Bool.and_false]
  · refine ⟨?_, fl (.str _) (fl (.int _) f0 (by decide)) (by show 1 ≤ 500; decide)⟩
    rw [ask_eq, in_lc4, if_neg (by decide), bd (by omega), Bool.and_false]
  · refine ⟨?_, fl (.str _) (fl (.int _) f0 (by decide)) (by decide)⟩
    decide +kernel
  · refine ⟨?_, fl (.str _) (fl (.int _) f0 (by decide)) (by decide)⟩
    decide +kernel
  · refine ⟨?_, fl (.str _) (fl (.int _) f0 (by decide)) (by decide)⟩
    decide +kernel
  · exact ⟨rfl, fl (.str _) (fl (.int _) (fl (.int _) f0 (by decide)) (by decide)) (by decide)⟩
  · exact ⟨rfl, fl (.int _) (fl (.int _) f0 (by decide)) (by decide)⟩
  · refine ⟨?_, fl (.str _) (fl (.str _) f0 (by decide)) (by decide)⟩
    decide +kernel
section
variable {P : Program} {w : World} {K : PySem.W.Frag} {mg : Str → Option Value} {base : Heap} {n lv : Nat}
theorem ok_law (T : Txt K mg) (TB : LamX.TabB base mg (He.cT K ("law", none)).1 (lamP K)) : FnOk P w K mg base CX0 18 (He.fAd K ("law", none)) T.fd_law ["_law_script"] (spLaw K) := by
  have G__law_taken := ok_taken (P := P) (w := w) (base := base) T
  have G__law_rule := ok_rule (P := P) (w := w) (base := base) T
  have G__law_place := ok_place (P := P) (w := w) (base := base) T
  have G__law_due := ok_o_due (P := P) (w := w) (base := base) T
  have G__law_alike := ok_alike (P := P) (w := w) (base := base) T 3
  have G_passed := ok_passedX (P := P) (w := w) (base := base) T
  obtain ⟨oc, od, dV, kV, doc, pm, an, cdg, ct, osl, efd, lkW, hcW, _, _⟩ := T.F__law_word.ex
  have bW := T.b__law_word
  rw [efd] at lkW bW
  refine okTab T.F_law sc_law (fun vs H Q E h => ?_) (fun A outer s H vs Q E hr h => ?_)
  · obtain ⟨_, _, _, _, rfl, _⟩ := h
    rfl
  · obtain ⟨sc, ns, S, TL, rfl, hsc, hS, hT, O, kq⟩ := h
    refine ⟨_, (pss_cons (ps_set (i := 1) sc_law.nd rfl (Or.inl rfl) (pe_lst (pa_cons (pv 0) (pa_cons pe_int (pa_cons pe_int pa_nil))))) (pss_cons (ps_for PassesOwn.never rfl (pi_range1 (by rfl) T.n_range (pa_cons pe_int pa_nil)) (pg_name (i := 2) sc_law.nd rfl (Or.inl rfl)) (pss_cons (ps_set (i := 3) sc_law.nd rfl (Or.inr rfl) (pe_call G__law_rule (hr.mono (by omega)) rfl T.g__law_rule T.k__law_rule T.b__law_rule .nil pass0 (pa_cons (pv 1) pa_nil))) (pss_cons (ps_set (i := 4) sc_law.nd rfl (Or.inl rfl) (pe_lst pa_nil)) (pss_cons (ps_set (i := 5) sc_law.nd rfl (Or.inl rfl) (pe_ix ix_list (pe_lst (pa_cons pe_int (pa_cons pe_int (pa_cons pe_int pa_nil)))) (pe_call G__law_taken (hr.mono (by omega)) rfl T.g__law_taken T.k__law_taken T.b__law_taken .nil pass0 (pa_cons (pv 1) (pa_cons pe_int pa_nil))) (fun _ _ => rfl))) (pss_cons (ps_for PassesOwn.never rfl (pi_range1 (by rfl) T.n_range (pa_cons (pe_ix ix_list (pe_lst (pa_cons (pe_call G__law_taken (hr.mono (by omega)) rfl T.g__law_taken T.k__law_taken T.b__law_taken .nil pass0 (pa_cons (pv 1) (pa_cons pe_int pa_nil))) (pa_cons pe_int pa_nil))) (pe_callTy call_int1 (by rfl) T.n_int (by decide +kernel) (pa_cons (pe_cmpR op_eq (pe_call G__law_taken (hr.mono (by omega)) rfl T.g__law_taken T.k__law_taken T.b__law_taken .nil pass0 (pa_cons (pv 1) (pa_cons pe_int pa_nil))) pe_int (nomark _)) pa_nil)) (fun _ _ => rfl)) pa_nil)) (pg_name (i := 6) sc_law.nd rfl (Or.inl rfl)) (pss_cons (ps_set (i := 7) sc_law.nd rfl (Or.inl rfl) (pe_ix ix_list (pe_lst (pa_cons pe_str (pa_cons pe_str (pa_cons pe_str (pa_cons pe_str (pa_cons pe_str (pa_cons pe_str pa_nil))))))) (pe_call G__law_taken (hr.mono (by omega)) rfl T.g__law_taken T.k__law_taken T.b__law_taken .nil pass0 (pa_cons (pv 1) (pa_cons pe_int pa_nil))) (fun _ _ => rfl))) (pss_cons (ps_set (i := 8) sc_law.nd rfl (Or.inl rfl) (pe_call G__law_place (hr.mono (by omega)) rfl T.g__law_place T.k__law_place T.b__law_place .nil pass0 (pa_cons (pv 1) (pa_cons (pv 5) pa_nil)))) (pss_one (ps_expr (pe_bm PySem.F.plainAttrs_list PySem.F.slot_list_append PySem.F.type_list_append mt_append (pv 4) (pa_cons (pe_tup (pa_cons (pv 7) (pa_cons (pe_ifExp (pt_cmpR op_in_seq (pv 7) (pe_tup (pa_cons pe_str (pa_cons pe_str pa_nil))) (by rfl)) (pv 8) (pe_op op_fdiv (pv 8) pe_int)) pa_nil))) pa_nil))))))) (pss_cons (ps_set (i := 9) sc_law.nd rfl (Or.inl rfl) (pe_call G__law_due (hr.mono (by omega)) rfl T.g__law_due T.k__law_due T.b__law_due .nil pass0 (pa_cons (pv 3) (pa_cons (pv 4) pa_nil)))) (pss_cons (ps_set (i := 10) sc_law.nd rfl (Or.inl rfl) (pe_callTy call_list_of (by rfl) T.n_list (by decide +kernel) (pa_cons (pv 4) pa_nil))) (pss_cons (ps_for PassesOwn.never rfl (pi_range1 (by rfl) T.n_range (pa_cons pe_int pa_nil)) (pg_name (i := 11) sc_law.nd rfl (Or.inl rfl)) (pss_cons (ps_set (i := 12) sc_law.nd rfl (Or.inl rfl) (pe_call G_passed (hr.mono (by omega)) rfl T.g_passed T.k_passed T.b_passed .nil (passes_call LamX.takes0 fun _ _ _ _ z => z) (pa_cons (pv 3) (pa_cons (pv 10) pa_nil)))) (pss_cons (ps_if (PW.pt (pw_or (pt_not (pt_val (pe_call G__law_alike (hr.mono (by omega)) rfl T.g__law_alike T.k__law_alike T.b__law_alike .nil pass0 (pa_cons (pv 12) (pa_cons (pv 9) pa_nil))))) (pw_or1 (pt_cmpR (op_neD hr.units) (pv 10) (pv 4) (nomark _))))) (pss_one (ps_ret pe_bl)) pss_nil) (pss_one (ps_expr (pe_bm PySem.F.plainAttrs_list PySem.F.slot_list_append PySem.F.type_list_append mt_append (pv 12) (pa_cons (pe_tup pa_nil) pa_nil))))))) (pss_cons (ps_set (i := 13) sc_law.nd rfl (Or.inr rfl) (pe_op op_mul (pe_call G__law_taken (hr.mono (by omega)) rfl T.g__law_taken T.k__law_taken T.b__law_taken .nil pass0 (pa_cons (pv 1) (pa_cons (pe_op op_pow pe_int pe_int) pa_nil))) (pe_call G__law_taken (hr.mono (by omega)) rfl T.g__law_taken T.k__law_taken T.b__law_taken .nil pass0 (pa_cons (pv 1) (pa_cons pe_int pa_nil))))) (pss_cons (ps_set (i := 14) sc_law.nd rfl (Or.inl rfl) (pe_lst (pa_cons (pe_tup pa_nil) (pa_cons (pe_tup (pa_cons pe_str pa_nil)) (pa_cons (pe_tup (pa_cons pe_str (pa_cons (pe_op op_add pe_int (pv 13)) pa_nil))) (pa_cons (pe_tup (pa_cons pe_str (pa_cons (pe_op op_sub pe_int pe_int) pa_nil))) (pa_cons (pe_tup (pa_cons pe_str (pa_cons (pe_op op_add pe_int (pv 13)) pa_nil))) (pa_cons (pe_tup (pa_cons pe_str (pa_cons (pe_op op_sub pe_int pe_int) pa_nil))) (pa_cons (pe_tup (pa_cons pe_str (pa_cons pe_int pa_nil))) pa_nil))))))))) (pss_cons (ps_set (i := 14) sc_law.nd rfl (Or.inl rfl) (pe_ix ix_list (pe_op op_cat (pv 14) (pe_lst (pa_cons (pe_tup (pa_cons pe_str (pa_cons pe_int pa_nil))) (pa_cons (pe_tup (pa_cons pe_str (pa_cons pe_int pa_nil))) (pa_cons (pe_tup (pa_cons pe_str (pa_cons pe_int (pa_cons pe_int pa_nil)))) (pa_cons (pe_tup (pa_cons pe_int (pa_cons pe_int pa_nil))) (pa_cons (pe_tup (pa_cons pe_str (pa_cons pe_str pa_nil))) pa_nil))))))) (pe_call G__law_taken (hr.mono (by omega)) rfl T.g__law_taken T.k__law_taken T.b__law_taken .nil pass0 (pa_cons (pv 1) (pa_cons pe_int pa_nil))) (fun _ _ => rfl))) (pss_cons (ps_set (i := 15) sc_law.nd rfl (Or.inl rfl) (pe_call G__law_taken (hr.mono (by omega)) rfl T.g__law_taken T.k__law_taken T.b__law_taken .nil pass0 (pa_cons (pv 1) (pa_cons (pe_op op_add (pe_callB call_len_seq (by rfl) T.n_len PySem.boot_len (pa_cons (pv 4) pa_nil)) pe_int) pa_nil)))) (pss_cons (ps_set (i := 16) sc_law.nd rfl (Or.inr rfl) (pe_op op_cat (pe_op op_cat (pe_op op_cat (pe_slice sl_list (pv 4) po_none (po_some (pv 15))) (pe_lst (pa_cons (pv 14) pa_nil))) (pe_slice sl_list (pv 4) (po_some (pv 15)) po_none)) (pe_lst (pa_cons (pe_tup pa_nil) pa_nil)))) (Evl.pss_cut (ps_if (PW.pt (pw_and (pt_cmpR op_lt (pv 15) pe_int (nomark _)) (pw_and1 (pt_cmpR (op_neD hr.units) (LamX.pe_lamcall (T := lamTs K) (k := 7) (by rfl) T.g__law_word T.k__law_word lkW hcW bW sc__law_word rfl (.inl rfl) (word_gives T) TB rfl List.mem_cons_self (fun p hp _ => by rw [List.mem_singleton.mp hp]; rfl) (hr.mono (by omega)) (LamX.lamS_by (by rfl)) rfl (fun _ _ _ _ _ => rfl) (fun A outer s H E f c' hr => (pe_call G_passed (hr.mono (by omega)) rfl T.g_passed T.k_passed T.b_passed .nil (passes_call (takes_of rfl rfl rfl rfl) fun _ _ _ _ z => z) (pa_cons (pv 3) (pa_cons (pv 16) pa_nil))))) (pe_tup (pa_cons pe_str (pa_cons (pv 15) pa_nil))) (nomark _))))) (pss_one (ps_ret pe_bl)) pss_nil) (pss_cons (ps_set (i := 17) sc_law.nd rfl (Or.inr rfl) (pe_op op_catA (pe_slice sl_tup (pv 3) po_none (po_some pe_int)) (pe_tup (pa_cons (pe_ix ix_list (pe_lst (pa_cons pe_str (pa_cons pe_str (pa_cons pe_str pa_nil)))) (pe_op op_mod (pv 13) pe_int) (fun _ _ => rfl)) pa_nil)))) (pss_cons (ps_if (pt_cmpR (op_neD hr.units) (LamX.pe_lamcall (T := lamTs K) (k := 7) (by rfl) T.g__law_word T.k__law_word lkW hcW bW sc__law_word rfl (.inl rfl) (word_gives T) TB rfl List.mem_cons_self (fun p hp _ => by rw [List.mem_singleton.mp hp]; rfl) (hr.mono (by omega)) (LamX.lamS_by (by rfl)) rfl (fun _ _ _ _ _ => rfl) (fun A outer s H E f c' hr => (pe_call G_passed (hr.mono (by omega)) rfl T.g_passed T.k_passed T.b_passed .nil (passes_call (takes_of rfl rfl rfl rfl) fun _ _ _ _ z => z) (pa_cons (pv 17) (pa_cons (pe_lst (pa_cons (pe_tup pa_nil) pa_nil)) pa_nil))))) (pe_tup (pa_cons pe_str (pa_cons pe_int pa_nil))) (nomark _)) (pss_one (ps_ret pe_bl)) pss_nil) (pss_one (ps_if (pt_cmpR (op_neD hr.units) (LamX.pe_lamcall (T := lamTs K) (k := 7) (by rfl) T.g__law_word T.k__law_word lkW hcW bW sc__law_word rfl (.inl rfl) (word_gives T) TB rfl List.mem_cons_self (fun p hp _ => by rw [List.mem_singleton.mp hp]; rfl) (hr.mono (by omega)) (LamX.lamS_by (by rfl)) rfl (fun _ _ _ _ _ => rfl) (fun A outer s H E f c' hr => (pe_call G_passed (hr.mono (by omega)) rfl T.g_passed T.k_passed T.b_passed .nil (passes_call (takes_of rfl rfl rfl rfl) fun _ _ _ _ z => z) (pa_cons (pv 3) (pa_cons (pe_op op_rep (pe_lst (pa_cons (pe_tup (pa_cons pe_str (pa_cons pe_int pa_nil))) pa_nil)) (pe_op op_add pe_int (pe_op op_mod (pv 13) pe_int))) pa_nil))))) (pe_tup (pa_cons pe_str (pa_cons pe_int pa_nil))) (nomark _)) (pss_one (ps_ret pe_bl)) pss_nil)))))))))))))))))) (pss_one (ps_ret pe_bl)))), ?_⟩
    refine ⟨_, rfl, by show 3 ≤ sizeLine; decide, fun rw hrw => ?_⟩
    have O0 := O.new (o := .lst [.ref sc, .int 0, .int 0]) hrw
    generalize upd H rw _ = H0 at O0 ⊢
    refine ⟨4, rfl, by decide, by decide, ?_⟩
    refine for_range (lo := 0) (n := 4) (fun i σ H' => (∃ v2 v3 v4 v5 v6 v7 v8 v9 v10 v11 v12 v13 v14 v15 v16 v17, σ = [some (.ref sc), some (.ref rw), v2, v3, v4, v5, v6, v7, v8, v9, v10, v11, v12, v13, v14, v15, v16, v17]) ∧ ∃ c' TL, RowC K rw S c' ∧ TabC TL (lamP K) lamQ ∧ Own H' (c' :: (S ++ TL)))
      ⟨⟨none, none, none, none, none, none, none, none, none, none, none, none, none, none, none, none, rfl⟩, _, TL, ⟨sc, ns, 0, 0, hsc, by decide, by decide, rfl⟩, hT, O0⟩ ?_ ?_
    · rintro ti σ H1 hti ⟨⟨v2, v3, v4, v5, v6, v7, v8, v9, v10, v11, v12, v13, v14, v15, v16, v17, rfl⟩, c1, TL, hc1, hT, O1⟩
      -- rule
      refine ⟨_, rfl, rw, S, c1, TL, rfl, hc1, O1, fun u ra c2 H2 hu hc2 O2 => ?_⟩
      -- asks
      refine ⟨by show 0 ≤ sizeLine; decide, fun pk hpk => ?_⟩
      have O3 := O2.new (o := .lst (([] : List Addr).map V.ref)) hpk
      -- few
      refine ⟨by show 3 ≤ sizeLine; decide, fun p0 hp0 => ?_⟩
      have O4 := O3.new (o := .lst [.int 6, .int 24, .int 64]) hp0
      refine ⟨_, rfl, rw, S, c2, 3, (p0, .lst [.int 6, .int 24, .int 64]) :: (pk, .lst (([] : List Addr).map V.ref)) :: (ra, .tup u.vs) :: TL, rfl, hc2, by decide, O4.perm (by walk_at "perm"), fun v c3 H3 h0 h3 hc3 O5 => ?_⟩
      obtain ⟨few, hf1, hf2, hf3⟩ : ∃ k : Nat, atI [V.int 6, .int 24, .int 64] v = some (.int (k : Int)) ∧ 1 ≤ k ∧ k ≤ 64 := by
        obtain ⟨y, ey, e | e | e⟩ := pick3 (a := V.int 6) (b := .int 24) (c := .int 64) h0 h3
        · exact ⟨6, by rw [ey, e]; rfl, by decide, by decide⟩
        · exact ⟨24, by rw [ey, e]; rfl, by decide, by decide⟩
        · exact ⟨64, by rw [ey, e]; rfl, by decide, by decide⟩
      refine ⟨p0, _, _, _, rfl, rfl, SqL.of (O5.mem (by simp)), hf1, ?_⟩
      -- how many
      refine ⟨_, rfl, rw, S, c3, 61, _, rfl, hc3, by decide, O5, fun vm c4 H4 hm0 hm1 hc4 O6 => ?_⟩
      refine ⟨by show 2 ≤ sizeLine; decide, fun p1 hp1 => ?_⟩
      have O7 := O6.new (o := .lst [.int vm, .int 400]) hp1
      refine ⟨_, rfl, rw, S, c4, 9, (p1, .lst [.int vm, .int 400]) :: (p0, .lst [.int 6, .int 24, .int 64]) :: (pk, .lst (([] : List Addr).map V.ref)) :: (ra, .tup u.vs) :: TL, rfl, hc4, by decide, O7.perm (by walk_at "perm"), fun v9' c5 H5 _ _ hc5 O8 => ?_⟩
      refine ⟨rfl, .inr ⟨_, rfl, ?_⟩⟩
      obtain ⟨mn, hmn1, hmn2⟩ : ∃ mn : Nat, atI [V.int vm, .int 400] (b2i (decide (V.int v9' = V.int 8))) = some (.int (mn : Int)) ∧ mn ≤ 400 := by
        cases decide (V.int v9' = V.int 8) with
        | true => exact ⟨400, rfl, Nat.le_refl _⟩
        | false => exact ⟨vm.toNat, by show some (V.int vm) = some (.int (vm.toNat : Int)); rw [Int.toNat_of_nonneg hm0], by omega⟩
      refine ⟨p1, _, _, _, rfl, rfl, SqL.of (O8.mem (by simp)), hmn1, ?_⟩
      refine ⟨(mn : Int), rfl, by omega, by omega, ?_⟩
      rw [Int.toNat_natCast]
      obtain ⟨G0, hG0⟩ : ∃ G0 : List Cell, G0 = [(p1, HO.lst [.int vm, .int 400]), (p0, .lst [.int 6, .int 24, .int 64]), (ra, .tup u.vs)] := ⟨_, rfl⟩
      have hNG : NT G0 := by
        rw [hG0]
        exact NT.cons rfl (NT.cons rfl (NT.cons rfl NT.nil))
      have hraG : (ra, HO.tup u.vs) ∈ G0 := by rw [hG0]; simp
      have O9 : Own H5 (c5 :: (S ++ ((pk, .lst (([] : List Addr).map V.ref)) :: (G0 ++ TL)))) := O8.perm (by rw [hG0]; walk_at "perm")
      clear O8 O7 O6 O5 O4 O3 O2 O1
      refine for_range (lo := 0) (n := mn) (fun i σ H' => (∃ v6 v7 v8, σ = [some (.ref sc), some (.ref rw), some (.int (0 + (ti : Int))), some (.ref ra), some (.ref pk), some (.int (few : Nat)), v6, v7, v8, v9, v10, v11, v12, v13, v14, v15, v16, v17]) ∧ ∃ (c' : Cell) (asks : List Ask) (as : List Addr) (N : List Cell), RowC K rw S c' ∧ asks.length = i ∧ (∀ a ∈ asks, a.ok) ∧ TA N as (asks.map Ask.vs) ∧ NT N ∧ Own H' (c' :: (S ++ ((pk, .lst (as.map V.ref)) :: (N ++ (G0 ++ TL))))))
        ⟨⟨_, _, _, rfl⟩, c5, [], [], [], hc5, rfl, (fun a ha => nomatch ha), trivial, NT.nil, O9⟩ ?_ ?_
      · rintro i σ H6 hi ⟨⟨v6, v7, v8, rfl⟩, c6, asks, as, N, hc6, hal, hok, hta, hN, O10⟩
        have hasl := hta.len
        rw [List.length_map] at hasl
        refine ⟨by show 6 ≤ sizeLine; decide, fun q0 hq0 => ?_⟩
        have O11 := O10.new (o := .lst [.str "look", .str "look", .str "cell", .str "cell", .str "bring", .str "home"]) hq0
        refine ⟨_, rfl, rw, S, c6, 6, (q0, .lst [.str "look", .str "look", .str "cell", .str "cell", .str "bring", .str "home"]) :: (pk, .lst (as.map V.ref)) :: (N ++ (G0 ++ TL)), rfl, hc6, by decide, O11.perm (by walk_at "perm"), fun v6' c7 H7 h60 h61 hc7 O12 => ?_⟩
        obtain ⟨ak, hnm, hat, hwd, hcase⟩ := pick6 h60 h61
        refine ⟨q0, _, _, _, rfl, rfl, SqL.of (O12.mem (by simp)), hat, ?_⟩
        refine ⟨_, rfl, _, rfl, rw, S, c7, (few : Int), _, rfl, by omega, by omega, hc7, O12, fun vp c8 H8 hp0' hp64 hc8 O13 => ?_⟩
        obtain ⟨pl, rfl⟩ : ∃ pl : Nat, vp = (pl : Int) := ⟨vp.toNat, by omega⟩
        have O14 := O13.perm (L' := (q0, .lst [.str "look", .str "look", .str "cell", .str "cell", .str "bring", .str "home"]) :: (pk, .lst (as.map V.ref)) :: c8 :: (S ++ (N ++ (G0 ++ TL)))) (by walk_at "perm")
        refine ⟨_, rfl, .inl ⟨rfl, _, SqL.of O14.a1⟩, _, rfl, _, rfl, by show 2 ≤ sizeLine; decide, fun q1 hq1 => ?_⟩
        have O15 := O14.new (o := .tup [.str "look", .str "cell"]) hq1
        refine ⟨q1, _, rfl, .inr (SqT.of O15.a0), rfl, rfl, _, rfl, ?_⟩
        obtain ⟨j, hj, hjok⟩ : ∃ j : Nat, (inV (.str (ak 0).wd) [V.str "look", .str "cell"] = true ∧ j = pl ∨ inV (.str (ak 0).wd) [V.str "look", .str "cell"] = false ∧ j = pl / 4) ∧ (ak j).ok := by
          rcases hcase with ⟨e1, e2⟩ | ⟨e1, e2⟩
          · exact ⟨pl, .inl ⟨e1, rfl⟩, e2 pl (by omega)⟩
          · exact ⟨pl / 4, .inr ⟨e1, rfl⟩, e2 _ (by omega)⟩
        have fin : ∀ {HH : Hp}, Own HH ((q1, .tup [.str "look", .str "cell"]) :: (q0, .lst [.str "look", .str "look", .str "cell", .str "cell", .str "bring", .str "home"]) :: (pk, .lst (as.map V.ref)) :: c8 :: (S ++ (N ++ (G0 ++ TL)))) → ∀ q2, HH q2 = none → Own (upd (upd HH q2 (.tup [.str (ak 0).wd, .int (j : Nat)])) pk (.lst (as.map V.ref ++ [.ref q2]))) (c8 :: (S ++ ((pk, .lst ((as ++ [q2]).map V.ref)) :: (((q2, .tup (ak j).vs) :: N) ++ (G0 ++ TL))))) := fun O' q2 hq2 => by
          have P1 := O'.new (o := .tup [.str (ak 0).wd, .int (j : Nat)]) hq2
          have e : (ak j).vs = [.str (ak 0).wd, .int (j : Nat)] := by rw [(ak j).vs_eq, hwd, hnm]
          rw [e, List.map_append]
          exact ((P1.perm (L' := (pk, .lst (as.map V.ref)) :: (q0, .lst [.str "look", .str "look", .str "cell", .str "cell", .str "bring", .str "home"]) :: (q1, .tup [.str "look", .str "cell"]) :: (c8 :: (S ++ (((q2, .tup [.str (ak 0).wd, .int (j : Nat)]) :: N) ++ (G0 ++ TL))))) (by walk_at "perm")).set (o' := .lst (as.map V.ref ++ [.ref q2])) |>.perm (L' := [(q0, HO.lst [.str "look", .str "look", .str "cell", .str "cell", .str "bring", .str "home"]), (q1, .tup [.str "look", .str "cell"])] ++ (c8 :: (S ++ ((pk, .lst (as.map V.ref ++ [.ref q2])) :: (((q2, .tup [.str (ak 0).wd, .int (j : Nat)]) :: N) ++ (G0 ++ TL)))))) (by walk_at "perm")).right
        have more : ∀ {HH : Hp} {c' : Cell} {q2 : Addr}, RowC K rw S c' → Own HH (c' :: (S ++ ((pk, .lst ((as ++ [q2]).map V.ref)) :: (((q2, .tup (ak j).vs) :: N) ++ (G0 ++ TL))))) → ∃ (c' : Cell) (asks : List Ask) (as : List Addr) (N : List Cell), RowC K rw S c' ∧ asks.length = i + 1 ∧ (∀ a ∈ asks, a.ok) ∧ TA N as (asks.map Ask.vs) ∧ NT N ∧ Own HH (c' :: (S ++ ((pk, .lst (as.map V.ref)) :: (N ++ (G0 ++ TL))))) := fun hc' O' =>
          ⟨_, asks ++ [ak j], _, _, hc', by simp [hal], fun a ha => by
            rcases List.mem_append.mp ha with h | h
            · exact hok a h
            · rw [List.mem_singleton.mp h]
              exact hjok, by
            rw [List.map_append]
            exact (hta.mono fun c hc => List.mem_cons_of_mem _ hc).app ⟨List.mem_cons_self, trivial⟩, NT.cons rfl hN, O'⟩
        rcases hj with ⟨e1, e2⟩ | ⟨e1, e2⟩
        · rw [e1]
          refine iteT ⟨_, rfl, by show 2 ≤ sizeLine; decide, fun q2 hq2 => ?_⟩
          have P1 := O15.new (o := .tup [.str (ak 0).wd, .int (pl : Nat)]) hq2
          refine ⟨pk, _, _, rfl, rfl, P1.a3, by rw [List.length_map]; exact size1 (by omega), ⟨_, _, _, rfl⟩, more (q2 := q2) hc8 ?_⟩
          rw [← e2]
          exact fin O15 q2 hq2
        · rw [e1]
          refine iteF ⟨_, rfl, _, _, rfl, rfl, ⟨by decide, by decide⟩, by show 2 ≤ sizeLine; decide, fun q2 hq2 => ?_⟩
          have ed : ((pl : Nat) : Int) / 4 = ((j : Nat) : Int) := by omega
          have P1 := O15.new (o := .tup [.str (ak 0).wd, .int (((pl : Nat) : Int) / 4)]) hq2
          refine ⟨pk, _, _, rfl, rfl, P1.a3, by rw [List.length_map]; exact size1 (by omega), ⟨_, _, _, rfl⟩, more (q2 := q2) hc8 ?_⟩
          have := fin O15 q2 hq2
          rw [← ed] at this
          exact this
      · rintro σ H6 ⟨⟨v6, v7, v8, rfl⟩, c6, asks, as, N, hc6, hal, hok, hta, hN, O10⟩
        have hasl := hta.len
        rw [List.length_map] at hasl
        have hakl : asks.length ≤ 400 := by omega
        -- due
        obtain ⟨R0, hR0⟩ : ∃ R0, R0 = c6 :: (S ++ ((pk, HO.lst (as.map V.ref)) :: (N ++ (G0 ++ TL)))) := ⟨_, rfl⟩
        rw [← hR0] at O10
        have hNR : ∀ c ∈ N, c ∈ R0 := fun c hc => by rw [hR0]; simp [hc]
        have hpkR : (pk, HO.lst (as.map V.ref)) ∈ R0 := by rw [hR0]; simp
        have hraR : (ra, HO.tup u.vs) ∈ R0 := by rw [hR0]; simp [hraG]
        refine ⟨_, rfl, _, rfl, ra, pk, u, asks, R0, rfl, hu, hraR, hok, hakl, ⟨as, hpkR, hta.mono hNR⟩, O10, fun pd ds Nd H7 hsl0 htd O11 => ?_⟩
        -- the due list without tables
        have htd2 := htd.ntOf
        have O12 : Own H7 ((pd, .lst (ds.map V.ref)) :: (nt Nd ++ R0)) := O11.sub (List.Sublist.cons_cons _ (List.Sublist.append (nt_sub Nd) (List.Sublist.refl _)))
        obtain ⟨Nd2, hNd2⟩ : ∃ Nd2, Nd2 = nt Nd := ⟨_, rfl⟩
        have hNd : NT Nd2 := by rw [hNd2]; exact nt_NT Nd
        rw [← hNd2] at htd2 O12
        clear O11 htd
        have hsl : (sentOf u asks).length ≤ 100000 := by omega
        -- handed
        refine ⟨_, rfl, pk, _, rfl, .inl (SqL.of (O12.mem (show (pk, HO.lst (as.map V.ref)) ∈ _ by simp [hpkR]))), fun ph hph => ?_⟩
        have O13 := O12.new (o := .lst (as.map V.ref)) hph
        obtain ⟨L0, hL0⟩ : ∃ L0 : List Cell, L0 = (ph, HO.lst (as.map V.ref)) :: (pd, .lst (ds.map V.ref)) :: (Nd2 ++ ((pk, .lst (as.map V.ref)) :: (N ++ G0))) := ⟨_, rfl⟩
        have hN0 : NT L0 := by
          rw [hL0]
          exact NT.cons rfl (NT.cons rfl (NT.app hNd (NT.cons rfl (NT.app hN hNG))))
        have O14 := O13.perm (L' := c6 :: (S ++ (L0 ++ TL))) (by rw [hL0, hR0]; walk_at "perm")
        have mph : (ph, HO.lst (as.map V.ref)) ∈ L0 := by rw [hL0]; simp
        have mpk : (pk, HO.lst (as.map V.ref)) ∈ L0 := by rw [hL0]; simp
        have mpd : (pd, HO.lst (ds.map V.ref)) ∈ L0 := by rw [hL0]; simp
        have mra : (ra, HO.tup u.vs) ∈ L0 := by rw [hL0]; simp [hraG]
        have hta0 : TA L0 as (asks.map Ask.vs) := hta.mono fun c hc => by rw [hL0]; simp [hc]
        have htd0 : TA L0 ds ((sentOf u asks).map outV) := htd2.mono fun c hc => by rw [hL0]; simp [hc]
        clear O13 O12 O10 hL0 hR0 hpkR hraR hNR
        generalize upd H7 ph _ = H8 at O14 ⊢
        have hfl : ∀ xs ∈ asks.map Ask.vs, FlatT xs := fun xs hx => by
          obtain ⟨a, _, rfl⟩ := List.mem_map.mp hx
          rw [a.vs_eq]
          exact ⟨fun x hx => by
            rcases List.mem_cons.mp hx with e | hx
            · rw [e]
              exact .str _
            · rw [List.mem_singleton.mp hx]
              exact .int _, by show 2 ≤ 1000; decide⟩
        have hru : FlatT u.vs := rul_flat u
        have hrb : ruleB u.vs = true := rul_B hu
        have hak : ∀ i, i < asks.length → AskAt (asks.map Ask.vs) i := fun i hi => ⟨by omega, (asks[i]).vs, by rw [List.getElem?_map, List.getElem?_eq_getElem hi]; rfl, ask_B (hok _ (List.getElem_mem hi))⟩
        -- again
        refine ⟨2, rfl, by decide, by decide, ?_⟩
        refine for_range (lo := 0) (n := 2) (fun i σ H' => (∃ v11 v12, σ = [some (.ref sc), some (.ref rw), some (.int (0 + (ti : Int))), some (.ref ra), some (.ref pk), some (.int (few : Nat)), v6, v7, v8, some (.ref pd), some (.ref ph), v11, v12, v13, v14, v15, v16, v17]) ∧ Own H' (c6 :: (S ++ (L0 ++ TL)))) ⟨⟨_, _, rfl⟩, O14⟩ ?_ ?_
        · rintro gi σ H9 hgi ⟨⟨v11, v12, rfl⟩, O15⟩
          refine ⟨_, rfl, _, rfl, ra, ph, u.vs, as, asks.map Ask.vs, _, rfl, by simp [mra], hru, by simp [mph], hta0.mono fun c hc => by simp [hc], hfl, by rw [List.length_map]; omega, O15, (fun z => by rw [hrb] at z; cases z), fun _ i hb => (hb.2.1 (hak i (by have := hb.1; rw [List.length_map] at this; exact this))).elim, fun _ _ => ⟨u, asks, hu, rfl, rfl, hok, hakl, fun pf fs Nf H10 htf O16 => ?_⟩⟩
          refine ⟨_, rfl, _, rfl, .ref pf, .ref pd, .list ((sentOf u asks).map outD), _, rfl, .lst (xs := fs.map V.ref) (by simp) ((outs_dp htf).mono fun c hc => by simp [hc]), .lst (xs := ds.map V.ref) (by simp [mpd]) ((outs_dp htd0).mono fun c hc => by simp [hc]), alD_outs (n := 0) hsl, O16, fun H11 O17 => ⟨_, rfl, iteF ?_⟩⟩
          refine ⟨_, rfl, _, rfl, .list (asks.map askD), .list (asks.map askD), .lst (SqL.of (O17.mem (show (ph, HO.lst (as.map V.ref)) ∈ _ by simp [mph]))) ((asks_dp hta0).dps fun c hc => O17.2 c (by simp [hc])), .lst (SqL.of (O17.mem (show (pk, HO.lst (as.map V.ref)) ∈ _ by simp [mpk]))) ((asks_dp hta0).dps fun c hc => O17.2 c (by simp [hc])), asks_lay _, asks_lay _, false, by rw [eqv_self _ (asks_lay _)], iteF ?_⟩
          have hfl2 := htf.len
          rw [List.length_map] at hfl2
          refine ⟨_, rfl, .inl ⟨rfl, _, SqL.of O17.a0⟩, by show 0 ≤ sizeLine; decide, fun q hq => ?_⟩
          have O18 := O17.new (o := .tup []) hq
          refine ⟨pf, _, _, rfl, rfl, O18.a1, by rw [List.length_map]; exact size1 (by omega), ⟨_, _, rfl⟩, ?_⟩
          exact ((O18.perm (L' := (pf, .lst (fs.map V.ref)) :: (((q, .tup []) :: Nf) ++ (c6 :: (S ++ (L0 ++ TL))))) (by walk_at "perm")).set (o' := .lst (fs.map V.ref ++ [.ref q]))).tail.right
        · rintro σ H9 ⟨⟨v11, v12, rfl⟩, O15⟩
          -- far
          refine ⟨_, rfl, _, _, rfl, rfl, ⟨by decide, by decide, by decide⟩, rw, S, c6, _, L0 ++ TL, rfl, hc6, by decide, O15, fun f1 c7 H10 hf10 hf11 hc7 O16 => ?_⟩
          refine ⟨_, rfl, rw, S, c7, 2, L0 ++ TL, rfl, hc7, by decide, O16, fun f2 c8 H11 hf20 hf21 hc8 O17 => ?_⟩
          have hf1m : f1 < 1000000 := hf11
          refine ⟨_, _, rfl, rfl, .inl ⟨by omega, by omega⟩, ?_⟩
          obtain ⟨far, hfar⟩ : ∃ far : Int, far = f1 * f2 := ⟨_, rfl⟩
          have hfar0 : 0 ≤ far := by rw [hfar]; exact Int.mul_nonneg hf10 hf20
          have hfarm : far < 1000000 := by
            rcases (show f2 = 0 ∨ f2 = 1 by omega) with e | e <;> rw [hfar, e] <;> omega
          show gName 13 (V.int (f1 * f2)) _ _ _
          rw [← hfar]
          clear O15 O16
          -- what is no ask
          refine ⟨by show 0 ≤ sizeLine; decide, fun t0 ht0 => ?_⟩
          have Z0 := O17.new (o := .tup []) ht0
          refine ⟨by show 1 ≤ sizeLine; decide, fun t1 ht1 => ?_⟩
          have Z1 := Z0.new (o := .tup [.str "look"]) ht1
          refine ⟨_, rfl, _, _, rfl, rfl, by show 2 ≤ sizeLine; decide, fun t2 ht2 => ?_⟩
          have Z2 := Z1.new (o := .tup [.str "look", .int (64 + far)]) ht2
          refine ⟨_, _, rfl, rfl, by show 2 ≤ sizeLine; decide, fun t3 ht3 => ?_⟩
          have Z3 := Z2.new (o := .tup [.str "cell", .int (0 - 1)]) ht3
          refine ⟨_, rfl, _, _, rfl, rfl, by show 2 ≤ sizeLine; decide, fun t4 ht4 => ?_⟩
          have Z4 := Z3.new (o := .tup [.str "bring", .int (16 + far)]) ht4
          refine ⟨_, _, rfl, rfl, by show 2 ≤ sizeLine; decide, fun t5 ht5 => ?_⟩
          have Z5 := Z4.new (o := .tup [.str "home", .int (0 - 1)]) ht5
          refine ⟨by show 2 ≤ sizeLine; decide, fun t6 ht6 => ?_⟩
          have Z6 := Z5.new (o := .tup [.str "Home", .int 0]) ht6
          refine ⟨by show 7 ≤ sizeLine; decide, fun w1 hw1 => ?_⟩
          have Z7a := Z6.new (o := .lst [.ref t0, .ref t1, .ref t2, .ref t3, .ref t4, .ref t5, .ref t6]) hw1
          refine ⟨_, rfl, ?_⟩
          refine ⟨by show 2 ≤ sizeLine; decide, fun t7 ht7 => ?_⟩
          have Z7 := Z7a.new (o := .tup [.str "home", .int 16]) ht7
          refine ⟨by show 2 ≤ sizeLine; decide, fun t8 ht8 => ?_⟩
          have Z8 := Z7.new (o := .tup [.str "cell", .int 64]) ht8
          refine ⟨by show 3 ≤ sizeLine; decide, fun t9 ht9 => ?_⟩
          have Z9 := Z8.new (o := .tup [.str "look", .int 0, .int 0]) ht9
          refine ⟨by show 2 ≤ sizeLine; decide, fun t10 ht10 => ?_⟩
          have Z10 := Z9.new (o := .tup [.int 0, .int 0]) ht10
          refine ⟨by show 2 ≤ sizeLine; decide, fun t11 ht11 => ?_⟩
          have Z11 := Z10.new (o := .tup [.str "bring", .str "0"]) ht11
          refine ⟨by show 5 ≤ sizeLine; decide, fun w2 hw2 => ?_⟩
          have Z12 := Z11.new (o := .lst [.ref t7, .ref t8, .ref t9, .ref t10, .ref t11]) hw2
          refine ⟨w1, w2, _, _, rfl, rfl, Z12.mem (show (w1, HO.lst [.ref t0, .ref t1, .ref t2, .ref t3, .ref t4, .ref t5, .ref t6]) ∈ _ by simp), Z12.a0, by show 7 + 5 ≤ sizeLine; decide, fun w3 hw3 => ?_⟩
          have Z13 := Z12.new (o := .lst [.ref t0, .ref t1, .ref t2, .ref t3, .ref t4, .ref t5, .ref t6, .ref t7, .ref t8, .ref t9, .ref t10, .ref t11]) hw3
          obtain ⟨Y0, hY0⟩ : ∃ Y0 : List Cell, Y0 = [(w3, HO.lst [.ref t0, .ref t1, .ref t2, .ref t3, .ref t4, .ref t5, .ref t6, .ref t7, .ref t8, .ref t9, .ref t10, .ref t11]), (w2, .lst [.ref t7, .ref t8, .ref t9, .ref t10, .ref t11]), (t11, .tup [.str "bring", .str "0"]), (t10, .tup [.int 0, .int 0]), (t9, .tup [.str "look", .int 0, .int 0]), (t8, .tup [.str "cell", .int 64]), (t7, .tup [.str "home", .int 16]), (w1, .lst [.ref t0, .ref t1, .ref t2, .ref t3, .ref t4, .ref t5, .ref t6]), (t6, .tup [.str "Home", .int 0]), (t5, .tup [.str "home", .int (0 - 1)]), (t4, .tup [.str "bring", .int (16 + far)]), (t3, .tup [.str "cell", .int (0 - 1)]), (t2, .tup [.str "look", .int (64 + far)]), (t1, .tup [.str "look"]), (t0, .tup [])] := ⟨_, rfl⟩
          have hNY : NT Y0 := by
            rw [hY0]
            iterate 15 refine NT.cons rfl ?_
            exact NT.nil
          have hpick : ∀ v : Int, 0 ≤ v → v < 12 → ∃ (to : Addr) (xs : List V), atI [V.ref t0, .ref t1, .ref t2, .ref t3, .ref t4, .ref t5, .ref t6, .ref t7, .ref t8, .ref t9, .ref t10, .ref t11] v = some (.ref to) ∧ (to, HO.tup xs) ∈ Y0 ∧ xs ∈ oddV far := fun v h0 h1 => by
            rw [hY0]
            rcases (show v = 0 ∨ v = 1 ∨ v = 2 ∨ v = 3 ∨ v = 4 ∨ v = 5 ∨ v = 6 ∨ v = 7 ∨ v = 8 ∨ v = 9 ∨ v = 10 ∨ v = 11 by omega) with e | e | e | e | e | e | e | e | e | e | e | e <;> subst e
            · exact ⟨t0, [], rfl, by simp, by unfold oddV; simp⟩
            · exact ⟨t1, [.str "look"], rfl, by simp, by unfold oddV; simp⟩
            · exact ⟨t2, [.str "look", .int (64 + far)], rfl, by simp, by unfold oddV; simp⟩
            · exact ⟨t3, [.str "cell", .int (0 - 1)], rfl, by simp, by unfold oddV; simp⟩
            · exact ⟨t4, [.str "bring", .int (16 + far)], rfl, by simp, by unfold oddV; simp⟩
            · exact ⟨t5, [.str "home", .int (0 - 1)], rfl, by simp, by unfold oddV; simp⟩
            · exact ⟨t6, [.str "Home", .int 0], rfl, by simp, by unfold oddV; simp⟩
            · exact ⟨t7, [.str "home", .int 16], rfl, by simp, by unfold oddV; simp⟩
            · exact ⟨t8, [.str "cell", .int 64], rfl, by simp, by unfold oddV; simp⟩
            · exact ⟨t9, [.str "look", .int 0, .int 0], rfl, by simp, by unfold oddV; simp⟩
            · exact ⟨t10, [.int 0, .int 0], rfl, by simp, by unfold oddV; simp⟩
            · exact ⟨t11, [.str "bring", .str "0"], rfl, by simp, by unfold oddV; simp⟩
          have Z14 := Z13.perm (L' := Y0 ++ (c8 :: (S ++ (L0 ++ TL)))) (by rw [hY0]; exact List.Perm.refl _)
          clear Z13 Z12 Z11 Z10 Z9 Z8 Z7 Z7a Z6 Z5 Z4 Z3 Z2 Z1 Z0 O17
          have mw3 : (w3, HO.lst [.ref t0, .ref t1, .ref t2, .ref t3, .ref t4, .ref t5, .ref t6, .ref t7, .ref t8, .ref t9, .ref t10, .ref t11]) ∈ Y0 := by rw [hY0]; simp
          clear hY0
          refine ⟨_, rfl, rw, S, c8, 12, Y0 ++ (L0 ++ TL), rfl, hc8, by decide, Z14.perm (by walk_at "perm"), fun v12' c9 H12 h120 h121 hc9 Z15 => ?_⟩
          obtain ⟨to, xo, hto, htoY, hxo⟩ := hpick v12' h120 h121
          obtain ⟨hxB, hxF⟩ := odd_B hfar0 hxo
          refine ⟨w3, _, _, _, rfl, rfl, SqL.of (Z15.mem (show (w3, _) ∈ _ by simp [mw3])), hto, ?_⟩
          -- at
          refine ⟨_, rfl, _, rfl, pk, _, rfl, .inl (SqL.of (Z15.mem (show (pk, HO.lst (as.map V.ref)) ∈ _ by simp [mpk]))), _, _, rfl, rfl, rw, S, c9, _, Y0 ++ (L0 ++ TL), rfl, hc9, by rw [List.length_map]; omega, Z15, fun va c10 H13 ha0 ha1 hc10 Z16 => ?_⟩
          rw [List.length_map] at ha1
          obtain ⟨at', rfl⟩ : ∃ at' : Nat, va = (at' : Int) := ⟨va.toNat, by omega⟩
          have hatl : at' ≤ as.length := by omega
          -- spoilt
          refine ⟨_, rfl, _, rfl, _, rfl, pk, _, rfl, SqL.of (Z16.mem (show (pk, HO.lst (as.map V.ref)) ∈ _ by simp [mpk])), fun s1 hs1 => ?_⟩
          rw [cutTake (by rw [List.length_map]; exact hatl), ← List.map_take]
          have W1 := Z16.new (o := .lst ((as.take at').map V.ref)) hs1
          refine ⟨_, rfl, by show 1 ≤ sizeLine; decide, fun s2 hs2 => ?_⟩
          have W2 := W1.new (o := .lst ([to].map V.ref)) hs2
          refine ⟨s1, s2, _, _, rfl, rfl, W2.a1, W2.a0, by rw [List.length_map, List.length_take]; exact Nat.le_of_lt (size1 (by show _ + 1 ≤ 1000000; omega)), fun s3 hs3 => ?_⟩
          rw [← List.map_append]
          have W3 := W2.new (o := .lst ((as.take at' ++ [to]).map V.ref)) hs3
          refine ⟨_, rfl, _, rfl, _, rfl, noPart ⟨pk, _, rfl, SqL.of (W3.mem (show (pk, HO.lst (as.map V.ref)) ∈ _ by simp [mpk])), fun s4 hs4 => ?_⟩⟩
          rw [cutDrop (by rw [List.length_map]; exact hatl), ← List.map_drop]
          have W4 := W3.new (o := .lst ((as.drop at').map V.ref)) hs4
          refine ⟨s3, s4, _, _, rfl, rfl, W4.a1, W4.a0, by rw [List.length_map, List.length_map, List.length_append, List.length_take, List.length_drop]; exact Nat.le_of_lt (size1 (by show _ + 1 + _ ≤ 1000000; omega)), fun s5 hs5 => ?_⟩
          rw [← List.map_append]
          have W5 := W4.new (o := .lst ((as.take at' ++ [to] ++ as.drop at').map V.ref)) hs5
          refine ⟨by show 0 ≤ sizeLine; decide, fun te hte => ?_⟩
          have W6 := W5.new (o := .tup []) hte
          refine ⟨by show 1 ≤ sizeLine; decide, fun s6 hs6 => ?_⟩
          have W7 := W6.new (o := .lst ([te].map V.ref)) hs6
          refine ⟨s5, s6, _, _, rfl, rfl, W7.a2, W7.a0, by rw [List.length_map, List.length_append, List.length_append, List.length_take, List.length_drop]; exact Nat.le_of_lt (size1 (by show _ + 1 + _ + 1 ≤ 1000000; omega)), fun s7 hs7 => ?_⟩
          rw [← List.map_append]
          obtain ⟨asx, hasx⟩ : ∃ asx, asx = as.take at' ++ [to] ++ as.drop at' ++ [te] := ⟨_, rfl⟩
          rw [← hasx]
          have W8 := W7.new (o := .lst (asx.map V.ref)) hs7
          obtain ⟨L2, hL2⟩ : ∃ L2 : List Cell, L2 = (s7, HO.lst (asx.map V.ref)) :: (s6, .lst ([te].map V.ref)) :: (te, .tup []) :: (s5, .lst ((as.take at' ++ [to] ++ as.drop at').map V.ref)) :: (s4, .lst ((as.drop at').map V.ref)) :: (s3, .lst ((as.take at' ++ [to]).map V.ref)) :: (s2, .lst ([to].map V.ref)) :: (s1, .lst ((as.take at').map V.ref)) :: (c10 :: (S ++ (Y0 ++ L0))) := ⟨_, rfl⟩
          have hN2 : NT L2 := by
            rw [hL2]
            iterate 8 refine NT.cons rfl ?_
            exact NT.cons hc10.nt (NT.app hS (NT.app hNY hN0))
          have W9 := W8.perm (L' := L2 ++ TL) (by rw [hL2]; walk_at "perm")
          have hLL : ∀ c ∈ L0, c ∈ L2 := fun c hc => by rw [hL2]; simp [hc]
          have m7 : (s7, HO.lst (asx.map V.ref)) ∈ L2 := by rw [hL2]; simp
          obtain ⟨axs, haxs⟩ : ∃ axs : List (List V), axs = (asks.take at').map Ask.vs ++ [xo] ++ (asks.drop at').map Ask.vs ++ [[]] := ⟨_, rfl⟩
          have htx : TA L2 asx axs := by
            rw [hasx, haxs]
            have hm1 : (to, HO.tup xo) ∈ L2 := by rw [hL2]; simp [htoY]
            have hm2 : (te, HO.tup []) ∈ L2 := by rw [hL2]; simp
            exact TA.app (TA.app (TA.app ((TA.takeN hta0 at').mono hLL) (show TA L2 [to] [xo] from ⟨hm1, trivial⟩)) ((TA.dropN hta0 at').mono hLL)) (show TA L2 [te] [[]] from ⟨hm2, trivial⟩)
          have hal' : (asks.take at').length = at' := by rw [List.length_take]; omega
          have hflx : ∀ xs ∈ axs, FlatT xs := fun xs hx => by
            rw [haxs] at hx
            simp only [List.mem_append, List.mem_singleton] at hx
            rcases hx with ((hx | hx) | hx) | hx
            · obtain ⟨a, ha, rfl⟩ := List.mem_map.mp hx
              exact hfl _ (List.mem_map.mpr ⟨a, List.mem_of_mem_take ha, rfl⟩)
            · rw [hx]
              exact hxF
            · obtain ⟨a, ha, rfl⟩ := List.mem_map.mp hx
              exact hfl _ (List.mem_map.mpr ⟨a, List.mem_of_mem_drop ha, rfl⟩)
            · rw [hx]
              exact ⟨(fun x hx => nomatch hx), by show 0 ≤ 1000; decide⟩
          have haxl : axs.length ≤ 2000 := by
            rw [haxs]
            simp only [List.length_append, List.length_map, List.length_take, List.length_drop, List.length_singleton]
            omega
          have hbad : at' < 400 → AskBad axs at' := fun h4 => by
            have e1 : axs[at']? = some xo := by
              rw [haxs, List.getElem?_append_left (by simp; omega), List.getElem?_append_left (by simp; omega), List.getElem?_append_right (by simp; omega)]
              rw [List.length_map, hal', Nat.sub_self]
              rfl
            refine ⟨(List.getElem?_eq_some_iff.mp e1).1, fun z => ?_, fun j hj => ?_⟩
            · obtain ⟨_, ys, hy, hy2⟩ := z
              rw [e1] at hy
              cases hy
              rw [hxB] at hy2
              cases hy2
            · obtain ⟨q1, ys, hy, hy2⟩ := hak j (by omega)
              refine ⟨q1, ys, ?_, hy2⟩
              rw [haxs, List.getElem?_append_left (by simp; omega), List.getElem?_append_left (by simp; omega), List.getElem?_append_left (by simp; omega), List.map_take, List.getElem?_take_of_lt hj]
              exact hy
          clear W8 W7 W6 W5 W4 W3 W2 W1 Z16 Z15 Z14
          -- the first that can't be
          refine ⟨fun σ H' => σ = [some (.ref sc), some (.ref rw), some (.int (0 + (ti : Int))), some (.ref ra), some (.ref pk), some (.int (few : Nat)), v6, v7, v8, some (.ref pd), some (.ref ph), v11, v12, some (.int far), some (.ref to), some (.int (at' : Nat)), some (.ref s7), v17] ∧ ∃ TL, TabC TL (lamP K) lamQ ∧ Own H' (L2 ++ TL), ?_, ?_⟩
          · refine ⟨_, rfl, _, _, rfl, rfl, _, rfl, ?_⟩
            by_cases h4 : at' < 400
            · refine iteTo (decide_eq_true (show ((at' : Nat) : Int) < 400 by omega)) ?_
              refine lam_go W9 hN2 hT fun HE TL2 hT2 V7 => ?_
              refine ⟨_, rfl, _, rfl, ra, s7, u.vs, asx, axs, L2 ++ TL2, rfl, List.mem_append_left _ (hLL _ mra), hru, List.mem_append_left _ m7, htx.mono fun c hc => List.mem_append_left _ hc, hflx, haxl, V7, (fun z => by rw [hrb] at z; cases z), fun _ i hb d HF V8 => ?_, fun _ hall => ((hbad h4).2.1 (hall _ (hbad h4).1)).elim⟩
              obtain rfl : i = at' := by
                have hb2 := hbad h4
                rcases Nat.lt_trichotomy i at' with z | z | z
                · exact (hb.2.1 (hb2.2.2 _ z)).elim
                · exact z
                · exact (hb2.2.1 (hb.2.2 _ z)).elim
              refine ⟨5, _, _, _, rfl, rfl, rfl, V8, .inr ⟨d, "number", _, rfl, rfl, List.mem_cons_self, fun t1 HG V9 => ?_⟩⟩
              refine ⟨_, rfl, by show 2 ≤ sizeLine; decide, fun t2 ht2 => ?_⟩
              have V10 := V9.new (o := .tup [.str "deed", .int (i : Nat)]) ht2
              have hsh : SeqAt.shaped (.tuple [.str "deed", .int (i : Nat)]) = true := shapedWI (by decide +kernel)
              exact ⟨_, _, .tup (SqT.of V10.a1) (.cons (.str _) (.cons (.int _) .nil)), .tup (SqT.of V10.a0) (.cons (.str _) (.cons (.int _) .nil)), hsh, hsh, false, by rw [eqv_self _ hsh], iteF ⟨rfl, TL2, hT2, V10.tail.tail.tail⟩⟩
            · refine iteFo (decide_eq_false (show ¬ ((at' : Nat) : Int) < 400 by omega)) ?_
              exact iteF ⟨rfl, TL, hT, W9⟩
          · rintro σ H15 ⟨rfl, TL, hT, X1⟩
            -- a bad rule
            refine ⟨_, rfl, 4, rfl, ra, _, rfl, SqT.of (X1.mem (List.mem_append_left _ (hLL _ mra))), by show ¬ (HT.sIx 5 0 none = 0 ∧ HT.sIx 5 5 (some 4) = 5); decide, fun r1 hr1 => ?_⟩
            have X2 := X1.new (o := .tup [.int u.s, .int u.w, .str (sBk u.bk), .str (sIn u.inn)]) hr1
            refine ⟨by show 3 ≤ sizeLine; decide, fun l1 hl1 => ?_⟩
            have X3 := X2.new (o := .lst [.str "", .str "lates", .str "First"]) hl1
            obtain ⟨bw, hbw, hbwB⟩ : ∃ bw : Str, atI [V.str "", .str "lates", .str "First"] (far % 3) = some (.str bw) ∧ inV (.str bw) [.str "first", .str "late"] = false := by
              rcases (show far % 3 = 0 ∨ far % 3 = 1 ∨ far % 3 = 2 by omega) with e | e | e <;> rw [e]
              · exact ⟨_, rfl, by decide +kernel⟩
              · exact ⟨_, rfl, by decide +kernel⟩
              · exact ⟨_, rfl, by decide +kernel⟩
            refine ⟨_, rfl, _, _, rfl, rfl, by show (0 : Int) < 3; decide, l1, _, _, _, rfl, rfl, SqL.of X3.a0, hbw, by show 1 ≤ sizeLine; decide, fun r2 hr2 => ?_⟩
            have X4 := X3.new (o := .tup [.str bw]) hr2
            refine ⟨r1, r2, _, _, rfl, rfl, SqT.of X4.a2, SqT.of X4.a0, by show 4 + 1 ≤ sizeLine; decide, (fun z => nomatch z), (fun _ z => nomatch z), fun _ _ r3 hr3 => ?_⟩
            have X5 := X4.new (o := .tup [.int u.s, .int u.w, .str (sBk u.bk), .str (sIn u.inn), .str bw]) hr3
            obtain ⟨L3, hL3⟩ : ∃ L3 : List Cell, L3 = (r3, HO.tup [.int u.s, .int u.w, .str (sBk u.bk), .str (sIn u.inn), .str bw]) :: (r2, .tup [.str bw]) :: (l1, .lst [.str "", .str "lates", .str "First"]) :: (r1, .tup [.int u.s, .int u.w, .str (sBk u.bk), .str (sIn u.inn)]) :: L2 := ⟨_, rfl⟩
            have hN3 : NT L3 := by
              rw [hL3]
              exact NT.cons rfl (NT.cons rfl (NT.cons rfl (NT.cons rfl hN2)))
            have X6 := X5.perm (L' := L3 ++ TL) (by rw [hL3]; exact List.Perm.refl _)
            have m3 : (r3, HO.tup [.int u.s, .int u.w, .str (sBk u.bk), .str (sIn u.inn), .str bw]) ∈ L3 := by rw [hL3]; simp
            have hbr : ruleB [.int u.s, .int u.w, .str (sBk u.bk), .str (sIn u.inn), .str bw] = false := by
              show (_ && (_ && (_ && (_ && (_ && inV (.str bw) [.str "first", .str "late"]))))) = false
              rw [hbwB]
              simp
            have hbf : FlatT [.int u.s, .int u.w, .str (sBk u.bk), .str (sIn u.inn), .str bw] := ⟨fun x hx => by
              simp only [List.mem_cons, List.not_mem_nil, or_false] at hx
              rcases hx with e | e | e | e | e <;> rw [e]
              · exact .int _
              · exact .int _
              · exact .str _
              · exact .str _
              · exact .str _, by show 5 ≤ 1000; decide⟩
            have hLL3 : ∀ c ∈ L0, c ∈ L3 := fun c hc => by rw [hL3]; simp [hLL c hc]
            have hc10L : ∀ {HH : Hp} {TL : List Cell}, Own HH (L3 ++ TL) → Own HH (c10 :: (S ++ TL)) := fun {HH TL} O' => by
              rw [hL3, hL2] at O'
              exact Own.right (L' := (r3, HO.tup [.int u.s, .int u.w, .str (sBk u.bk), .str (sIn u.inn), .str bw]) :: (r2, .tup [.str bw]) :: (l1, .lst [.str "", .str "lates", .str "First"]) :: (r1, .tup [.int u.s, .int u.w, .str (sBk u.bk), .str (sIn u.inn)]) :: (s7, HO.lst (asx.map V.ref)) :: (s6, .lst ([te].map V.ref)) :: (te, .tup []) :: (s5, .lst ((as.take at' ++ [to] ++ as.drop at').map V.ref)) :: (s4, .lst ((as.drop at').map V.ref)) :: (s3, .lst ((as.take at' ++ [to]).map V.ref)) :: (s2, .lst ([to].map V.ref)) :: (s1, .lst ((as.take at').map V.ref)) :: (Y0 ++ L0)) (O'.perm (by walk_at "perm"))
            clear X5 X4 X3 X2 X1
            refine lam_go X6 hN3 hT fun HE TL2 hT2 V7 => ?_
            refine ⟨_, rfl, by show 0 ≤ sizeLine; decide, fun e1 he1 => ?_⟩
            have V8 := V7.new (o := .tup []) he1
            refine ⟨by show 1 ≤ sizeLine; decide, fun e2 he2 => ?_⟩
            have V9 := V8.new (o := .lst ([e1].map V.ref)) he2
            refine ⟨r3, e2, _, [e1], [[]], (e2, .lst ([e1].map V.ref)) :: (e1, .tup []) :: (L3 ++ TL2), rfl, by simp [m3], hbf, List.mem_cons_self, ⟨List.mem_cons_of_mem _ List.mem_cons_self, trivial⟩, fun xs hx => ?_, by show 1 ≤ 2000; decide, V9, fun _ d HF V10 => ?_, (fun z => by rw [hbr] at z; cases z), (fun z => by rw [hbr] at z; cases z)⟩
            · rw [List.mem_singleton.mp hx]
              exact ⟨(fun x hx => nomatch hx), by show 0 ≤ 1000; decide⟩
            refine ⟨0, _, _, _, rfl, rfl, rfl, V10, .inr ⟨d, "number", 0, rfl, rfl, List.mem_cons_self, fun t1 HG V11 => ?_⟩⟩
            refine ⟨by show 2 ≤ sizeLine; decide, fun t2 ht2 => ?_⟩
            have V12 := V11.new (o := .tup [.str "rule", .int 0]) ht2
            have hsh : SeqAt.shaped (.tuple [.str "rule", .int 0]) = true := shapedWI (by decide +kernel)
            refine ⟨_, _, .tup (SqT.of V12.a1) (.cons (.str _) (.cons (.int _) .nil)), .tup (SqT.of V12.a0) (.cons (.str _) (.cons (.int _) .nil)), hsh, hsh, false, by rw [eqv_self _ hsh], iteF ?_⟩
            have V13 := V12.tail.tail.tail.tail.tail
            clear V12 V11 V10 V9 V8 V7 X6
            generalize upd HG t2 _ = H17 at V13 ⊢
            -- too many
            refine lam_go V13 hN3 hT2 fun HE TL3 hT3 V7 => ?_
            refine ⟨_, rfl, by show 2 ≤ sizeLine; decide, fun e1 he1 => ?_⟩
            have V8 := V7.new (o := .tup [.str "look", .int 0]) he1
            refine ⟨by show 1 ≤ sizeLine; decide, fun e2 he2 => ?_⟩
            have V9 := V8.new (o := .lst [.ref e1]) he2
            refine ⟨_, rfl, _, _, rfl, rfl, by show (0 : Int) < 2; decide, _, _, rfl, rfl, ?_⟩
            obtain ⟨mm, hmm, hmm4⟩ : ∃ mm : Nat, 401 + far % 2 = (mm : Int) ∧ (mm = 401 ∨ mm = 402) := ⟨(401 + far % 2).toNat, by omega, by omega⟩
            refine ⟨e2, 401 + far % 2, [.ref e1], rfl, rfl, V9.a0, by omega, by omega, by rw [hmm, Int.toNat_natCast]; exact Nat.le_of_lt (size1 (by show 1 * mm ≤ 1000000; omega)), fun e3 he3 => ?_⟩
            have eR : (List.replicate (401 + far % 2).toNat [V.ref e1]).flatten = (List.replicate mm e1).map V.ref := by
              rw [hmm, Int.toNat_natCast, List.map_replicate]
              exact flat_rep mm _
            rw [eR]
            have V10 := V9.new (o := .lst ((List.replicate mm e1).map V.ref)) he3
            have hask0 : ∀ j, j < 400 → AskAt (List.replicate mm [V.str "look", .int 0]) j := fun j hj => ⟨hj, _, List.getElem?_replicate_of_lt (by omega), by decide +kernel⟩
            refine ⟨ra, e3, u.vs, List.replicate mm e1, List.replicate mm [.str "look", .int 0], (e3, .lst ((List.replicate mm e1).map V.ref)) :: (e2, .lst [.ref e1]) :: (e1, .tup [.str "look", .int 0]) :: (L3 ++ TL3), rfl, by simp [hLL3 _ mra], hru, List.mem_cons_self, TA.rep (by simp) mm, fun xs hx => ?_, by rw [List.length_replicate]; omega, V10, (fun z => by rw [hrb] at z; cases z), fun _ i hb d HF V11 => ?_, fun _ hall => ?_⟩
            · rw [List.eq_of_mem_replicate hx]
              exact ⟨fun x hx => by
                rcases List.mem_cons.mp hx with e | hx
                · rw [e]
                  exact .str _
                · rw [List.mem_singleton.mp hx]
                  exact .int _, by show 2 ≤ 1000; decide⟩
            · obtain rfl : i = 400 := by
                rcases Nat.lt_trichotomy i 400 with z | z | z
                · exact (hb.2.1 (hask0 i z)).elim
                · exact z
                · exact absurd (hb.2.2 400 z).1 (by omega)
              refine ⟨5, _, _, _, rfl, rfl, rfl, V11, .inr ⟨d, "number", _, rfl, rfl, List.mem_cons_self, fun t1 HG V12 => ?_⟩⟩
              refine ⟨by show 2 ≤ sizeLine; decide, fun t2 ht2 => ?_⟩
              have V14 := V12.new (o := .tup [.str "deed", .int 400]) ht2
              have hsh : SeqAt.shaped (.tuple [.str "deed", .int 400]) = true := shapedWI (by decide +kernel)
              refine ⟨.tuple [.str "deed", .int 400], .tuple [.str "deed", .int 400], .tup (SqT.of V14.a1) (.cons (.str _) (.cons (.int _) .nil)), .tup (SqT.of V14.a0) (.cons (.str _) (.cons (.int _) .nil)), hsh, hsh, false, by rw [eqv_self _ hsh], iteF ?_⟩
              exact ⟨⟨_, _, _, _, _, _, _, _, _, _, _, _, _, _, _, _, rfl⟩, c10, TL3, hc10, hT3, hc10L V14.tail.tail.tail.tail.tail.tail⟩
            · exact absurd (hall 400 (by rw [List.length_replicate]; omega)).1 (by omega)
    · rintro σ H1 ⟨⟨v2, v3, v4, v5, v6, v7, v8, v9, v10, v11, v12, v13, v14, v15, v16, v17, rfl⟩, c1, TL, hc1, hT, O1⟩
      exact kq H1
end
-- EndX
def fa : List He.Fa := [.glo "is_number", .glo "is_rule", .glo "block_of", .glo "sent", .glo "is_ask", .glo "passed", .glo "_law_taken", .glo "_law_alike", .glo "_law_word", .glo "_law_rule", .glo "_law_place", .glo "_law_hall", .glo "_law_spot", .glo "_law_behind", .glo "_law_home", .glo "_law_comes", .glo "_law_way", .glo "_law_reached", .glo "_law_cell", .glo "_law_due", .glo "law", .glo "WayError", .glo "BadRule", .glo "BadHands", .glo "BadHand", .glo "BadPlace", .glo "BadNumber", .glo "BadDeed", .glo "BadRoom", .glo "BadWays", .glo "BadLeavings", .glo "BadText", .glo "Far", .glo "Line", .glo "Room", .cls "Far", .noat "Far" "held", .mkr "Far", .meth "Far" "bring", .meth "Far" "home", .meth "Far" "change", .cls "Line", .noat "Line" "block", .noat "Line" "numbers", .noat "Line" "is_dirty", .mkr "Line", .cls "Room", .noat "Room" "ways", .noat "Room" "is_back", .noat "Room" "is_in", .noat "Room" "is_late", .noat "Room" "behind", .noat "Room" "title", .noat "Room" "diary", .noat "Room" "sets", .mkr "Room", .meth "Room" "lines_of", .meth "Room" "line_of", .meth "Room" "note", .meth "Room" "pass_home", .meth "Room" "pass_cell", .meth "Room" "make_way", .meth "Room" "touch", .meth "Room" "reach", .meth "Room" "bring", .meth "Room" "look", .meth "Room" "change", .meth "Room" "home", .meth "Room" "holds", .int "CELLS" 64, .int "BLOCK" 4, .int "MOST_WAYS" 4, .glo "SETS", .glo "WRITES", .glo "TAKES", .glo "LEAVES", .str "LOOK" "look", .str "BRING" "bring", .str "HOME" "home", .str "CELL" "cell", .int "MOST_ASKS" 400, .free "ValueError", .free "len", .free "isinstance", .free "range", .free "list", .free "tuple", .free "enumerate", .free "int", .free "bool", .free "str", .meth "BadRule" "__init__", .noat "BadRule" "number", .exc "BadHands", .exc "BadHand", .exc "BadPlace", .exc "BadNumber", .meth "BadDeed" "__init__", .noat "BadDeed" "number", .exc "BadRoom", .exc "BadWays", .meth "BadLeavings" "__init__", .noat "BadLeavings" "number", .meth "BadText" "__init__", .noat "BadText" "row"]
def d_BadRule___init__ : He.DefD := ⟨("BadRule", some "__init__"), "__init__", "BadRule.__init__", defArgs s_BadRule___init__, defBody s_BadRule___init__, defScope s_BadRule___init__, [], []⟩
def d_BadDeed___init__ : He.DefD := ⟨("BadDeed", some "__init__"), "__init__", "BadDeed.__init__", defArgs s_BadDeed___init__, defBody s_BadDeed___init__, defScope s_BadDeed___init__, [], []⟩
def d_BadLeavings___init__ : He.DefD := ⟨("BadLeavings", some "__init__"), "__init__", "BadLeavings.__init__", defArgs s_BadLeavings___init__, defBody s_BadLeavings___init__, defScope s_BadLeavings___init__, [], []⟩
def d_BadText___init__ : He.DefD := ⟨("BadText", some "__init__"), "__init__", "BadText.__init__", defArgs s_BadText___init__, defBody s_BadText___init__, defScope s_BadText___init__, [], []⟩
def d_is_number : He.DefD := ⟨("is_number", none), "is_number", "is_number", defArgs s_is_number, defBody s_is_number, defScope s_is_number, [], []⟩
def d_is_rule : He.DefD := ⟨("is_rule", none), "is_rule", "is_rule", defArgs s_is_rule, defBody s_is_rule, defScope s_is_rule, [], []⟩
def d_block_of : He.DefD := ⟨("block_of", none), "block_of", "block_of", defArgs s_block_of, defBody s_block_of, defScope s_block_of, [], []⟩
def d_Far___init__ : He.DefD := ⟨("Far", some "__init__"), "__init__", "Far.__init__", defArgs s_Far___init__, defBody s_Far___init__, defScope s_Far___init__, [], []⟩
def d_Far_bring : He.DefD := ⟨("Far", some "bring"), "bring", "Far.bring", defArgs s_Far_bring, defBody s_Far_bring, defScope s_Far_bring, [], []⟩
def d_Far_home : He.DefD := ⟨("Far", some "home"), "home", "Far.home", defArgs s_Far_home, defBody s_Far_home, defScope s_Far_home, [], []⟩
def d_Far_change : He.DefD := ⟨("Far", some "change"), "change", "Far.change", defArgs s_Far_change, defBody s_Far_change, defScope s_Far_change, [], []⟩
def d_Line___init__ : He.DefD := ⟨("Line", some "__init__"), "__init__", "Line.__init__", defArgs s_Line___init__, defBody s_Line___init__, defScope s_Line___init__, [], []⟩
def d_Room___init__ : He.DefD := ⟨("Room", some "__init__"), "__init__", "Room.__init__", defArgs s_Room___init__, defBody s_Room___init__, defScope s_Room___init__, [], []⟩
def d_Room_lines_of : He.DefD := ⟨("Room", some "lines_of"), "lines_of", "Room.lines_of", defArgs s_Room_lines_of, defBody s_Room_lines_of, defScope s_Room_lines_of, [], []⟩
def d_Room_line_of : He.DefD := ⟨("Room", some "line_of"), "line_of", "Room.line_of", defArgs s_Room_line_of, defBody s_Room_line_of, defScope s_Room_line_of, [], []⟩
def d_Room_note : He.DefD := ⟨("Room", some "note"), "note", "Room.note", defArgs s_Room_note, defBody s_Room_note, defScope s_Room_note, [], []⟩
def d_Room_pass_home : He.DefD := ⟨("Room", some "pass_home"), "pass_home", "Room.pass_home", defArgs s_Room_pass_home, defBody s_Room_pass_home, defScope s_Room_pass_home, [], []⟩
def d_Room_pass_cell : He.DefD := ⟨("Room", some "pass_cell"), "pass_cell", "Room.pass_cell", defArgs s_Room_pass_cell, defBody s_Room_pass_cell, defScope s_Room_pass_cell, [], []⟩
def d_Room_make_way : He.DefD := ⟨("Room", some "make_way"), "make_way", "Room.make_way", defArgs s_Room_make_way, defBody s_Room_make_way, defScope s_Room_make_way, [], []⟩
def d_Room_touch : He.DefD := ⟨("Room", some "touch"), "touch", "Room.touch", defArgs s_Room_touch, defBody s_Room_touch, defScope s_Room_touch, [], []⟩
def d_Room_reach : He.DefD := ⟨("Room", some "reach"), "reach", "Room.reach", defArgs s_Room_reach, defBody s_Room_reach, defScope s_Room_reach, [], []⟩
def d_Room_bring : He.DefD := ⟨("Room", some "bring"), "bring", "Room.bring", defArgs s_Room_bring, defBody s_Room_bring, defScope s_Room_bring, [], []⟩
def d_Room_look : He.DefD := ⟨("Room", some "look"), "look", "Room.look", defArgs s_Room_look, defBody s_Room_look, defScope s_Room_look, [], []⟩
def d_Room_change : He.DefD := ⟨("Room", some "change"), "change", "Room.change", defArgs s_Room_change, defBody s_Room_change, defScope s_Room_change, [], []⟩
def d_Room_home : He.DefD := ⟨("Room", some "home"), "home", "Room.home", defArgs s_Room_home, defBody s_Room_home, defScope s_Room_home, [], []⟩
def d_Room_holds : He.DefD := ⟨("Room", some "holds"), "holds", "Room.holds", defArgs s_Room_holds, defBody s_Room_holds, defScope s_Room_holds, [], []⟩
def d_sent : He.DefD := ⟨("sent", none), "sent", "sent", defArgs s_sent, defBody s_sent, defScope s_sent, [], []⟩
def d_is_ask : He.DefD := ⟨("is_ask", none), "is_ask", "is_ask", defArgs s_is_ask, defBody s_is_ask, defScope s_is_ask, [], []⟩
def d_passed : He.DefD := ⟨("passed", none), "passed", "passed", defArgs s_passed, defBody s_passed, defScope s_passed, [], []⟩
def d__law_taken : He.DefD := ⟨("_law_taken", none), "_law_taken", "_law_taken", defArgs s__law_taken, defBody s__law_taken, defScope s__law_taken, [], []⟩
def d__law_alike : He.DefD := ⟨("_law_alike", none), "_law_alike", "_law_alike", defArgs s__law_alike, defBody s__law_alike, defScope s__law_alike, [], []⟩
def d__law_word : He.DefD := ⟨("_law_word", none), "_law_word", "_law_word", defArgs s__law_word, defBody s__law_word, defScope s__law_word, [], []⟩
def d__law_rule : He.DefD := ⟨("_law_rule", none), "_law_rule", "_law_rule", defArgs s__law_rule, defBody s__law_rule, defScope s__law_rule, [], []⟩
def d__law_place : He.DefD := ⟨("_law_place", none), "_law_place", "_law_place", defArgs s__law_place, defBody s__law_place, defScope s__law_place, [], []⟩
def d__law_hall : He.DefD := ⟨("_law_hall", none), "_law_hall", "_law_hall", defArgs s__law_hall, defBody s__law_hall, defScope s__law_hall, [], []⟩
def d__law_spot : He.DefD := ⟨("_law_spot", none), "_law_spot", "_law_spot", defArgs s__law_spot, defBody s__law_spot, defScope s__law_spot, [], []⟩
def d__law_behind : He.DefD := ⟨("_law_behind", none), "_law_behind", "_law_behind", defArgs s__law_behind, defBody s__law_behind, defScope s__law_behind, [], []⟩
def d__law_home : He.DefD := ⟨("_law_home", none), "_law_home", "_law_home", defArgs s__law_home, defBody s__law_home, defScope s__law_home, [], []⟩
def d__law_comes : He.DefD := ⟨("_law_comes", none), "_law_comes", "_law_comes", defArgs s__law_comes, defBody s__law_comes, defScope s__law_comes, [], []⟩
def d__law_way : He.DefD := ⟨("_law_way", none), "_law_way", "_law_way", defArgs s__law_way, defBody s__law_way, defScope s__law_way, [], []⟩
def d__law_reached : He.DefD := ⟨("_law_reached", none), "_law_reached", "_law_reached", defArgs s__law_reached, defBody s__law_reached, defScope s__law_reached, [], []⟩
def d__law_cell : He.DefD := ⟨("_law_cell", none), "_law_cell", "_law_cell", defArgs s__law_cell, defBody s__law_cell, defScope s__law_cell, [], []⟩
def d__law_due : He.DefD := ⟨("_law_due", none), "_law_due", "_law_due", defArgs s__law_due, defBody s__law_due, defScope s__law_due, [], []⟩
def d_law : He.DefD := ⟨("law", none), "law", "law", defArgs s_law, defBody s_law, defScope s_law, [], []⟩
def fn : List He.DefD := [d_BadRule___init__, d_BadDeed___init__, d_BadLeavings___init__, d_BadText___init__, d_is_number, d_is_rule, d_block_of, d_Far___init__, d_Far_bring, d_Far_home, d_Far_change, d_Line___init__, d_Room___init__, d_Room_lines_of, d_Room_line_of, d_Room_note, d_Room_pass_home, d_Room_pass_cell, d_Room_make_way, d_Room_touch, d_Room_reach, d_Room_bring, d_Room_look, d_Room_change, d_Room_home, d_Room_holds, d_sent, d_is_ask, d_passed, d__law_taken, d__law_alike, d__law_word, d__law_rule, d__law_place, d__law_hall, d__law_spot, d__law_behind, d__law_home, d__law_comes, d__law_way, d__law_reached, d__law_cell, d__law_due, d_law]
def ex (K : PySem.W.Frag) : Bool := (He.tupB K "SETS" [.int 1, .int 2, .int 4] && (He.tupB K "WRITES" [.str "through", .str "back"] && (He.tupB K "TAKES" [.str "in", .str "by"] && (He.tupB K "LEAVES" [.str "first", .str "late"] && (cmpB K (He.ga K "Line") && (excTB K bads && (oexB K (He.ga K "BadRule") && (oexB K (He.ga K "BadDeed") && (oexB K (He.ga K "BadLeavings") && (oexB K (He.ga K "BadText") && true))))))))))
def tf : List He.Defn := [("law", none)]
abbrev R : PySem.W.OpenRow := PySem.W.OpenLaw.row PySem.Challenge.rw_writeways_k03_what_a_room_passes_on
abbrev hk : PySem.W.Hook := hookY 5 fa fn tf ex
def ob (s : PySem.W.SharedT) : He.AlX := obsY 5 fa fn tf ex (HandSHeadRun.getT s)
theorem ob_eq (s : PySem.W.SharedT) : ob s = hk.obs s.abs := obsY_eq (HandSHeadRun.getT_eq s)
def loose0 : List PySem.Str := ["_wall", "WayError", "BadRule", "BadHands", "BadHand", "BadPlace", "BadNumber", "BadDeed", "BadRoom", "BadWays", "BadLeavings", "BadText", "CELLS", "BLOCK", "MOST_WAYS", "SETS", "WRITES", "TAKES", "LEAVES", "LOOK", "is_number", "is_rule", "block_of", "BRING", "HOME", "CELL", "Far", "Line", "Room", "sent"]
def loose1 : List PySem.Str := ["MOST_ASKS", "is_ask", "passed", "_law_taken", "_law_alike", "_law_word", "_law_rule", "_law_place", "_law_hall", "_law_spot", "_law_behind", "_law_home", "_law_comes", "_law_way", "_law_reached", "_law_cell", "_law_due"]
def loose : List PySem.Str := loose0 ++ loose1
set_option maxHeartbeats 0 in
theorem run (w : World) : HandSHeadRun.RunEq R (PySem.W.view R.prog [52]) hk ob 6000 loose w := by
  intro os
  kernel_rfl
theorem txt_of {w : World} {K : PySem.W.Frag} {h hh : Heap} {mg : Str → Option Value} (X : K.In h) (G : h.Ns mainGlobals mg) (c0 : He.SaysX fa fn [] tf ex w hh K) : Nonempty (Txt K mg) := by
  have c := c0.t.d
  have e0 : ex K = true := c0.more
  obtain ⟨x0, e1⟩ := He.ba (show (He.tupB K "SETS" [.int 1, .int 2, .int 4] && _) = true from e0)
  obtain ⟨x1, e2⟩ := He.ba (show (He.tupB K "WRITES" [.str "through", .str "back"] && _) = true from e1)
  obtain ⟨x2, e3⟩ := He.ba (show (He.tupB K "TAKES" [.str "in", .str "by"] && _) = true from e2)
  obtain ⟨x3, e4⟩ := He.ba (show (He.tupB K "LEAVES" [.str "first", .str "late"] && _) = true from e3)
  obtain ⟨x4, e5⟩ := He.ba (show (cmpB K (He.ga K "Line") && _) = true from e4)
  obtain ⟨x5, e6⟩ := He.ba (show (excTB K bads && _) = true from e5)
  obtain ⟨x6, e7⟩ := He.ba (show (oexB K (He.ga K "BadRule") && _) = true from e6)
  obtain ⟨x7, e8⟩ := He.ba (show (oexB K (He.ga K "BadDeed") && _) = true from e7)
  obtain ⟨x8, e9⟩ := He.ba (show (oexB K (He.ga K "BadLeavings") && _) = true from e8)
  obtain ⟨x9, e10⟩ := He.ba (show (oexB K (He.ga K "BadText") && _) = true from e9)
  obtain ⟨fd0, F0⟩ := c.def_ 0 (d := d_BadRule___init__) rfl
  obtain ⟨fd1, F1⟩ := c.def_ 1 (d := d_BadDeed___init__) rfl
  obtain ⟨fd2, F2⟩ := c.def_ 2 (d := d_BadLeavings___init__) rfl
  obtain ⟨fd3, F3⟩ := c.def_ 3 (d := d_BadText___init__) rfl
  obtain ⟨fd4, F4⟩ := c.def_ 4 (d := d_is_number) rfl
  obtain ⟨fd5, F5⟩ := c.def_ 5 (d := d_is_rule) rfl
  obtain ⟨fd6, F6⟩ := c.def_ 6 (d := d_block_of) rfl
  obtain ⟨fd7, F7⟩ := c.def_ 7 (d := d_Far___init__) rfl
  obtain ⟨fd8, F8⟩ := c.def_ 8 (d := d_Far_bring) rfl
  obtain ⟨fd9, F9⟩ := c.def_ 9 (d := d_Far_home) rfl
  obtain ⟨fd10, F10⟩ := c.def_ 10 (d := d_Far_change) rfl
  obtain ⟨fd11, F11⟩ := c.def_ 11 (d := d_Line___init__) rfl
  obtain ⟨fd12, F12⟩ := c.def_ 12 (d := d_Room___init__) rfl
  obtain ⟨fd13, F13⟩ := c.def_ 13 (d := d_Room_lines_of) rfl
  obtain ⟨fd14, F14⟩ := c.def_ 14 (d := d_Room_line_of) rfl
  obtain ⟨fd15, F15⟩ := c.def_ 15 (d := d_Room_note) rfl
  obtain ⟨fd16, F16⟩ := c.def_ 16 (d := d_Room_pass_home) rfl
  obtain ⟨fd17, F17⟩ := c.def_ 17 (d := d_Room_pass_cell) rfl
  obtain ⟨fd18, F18⟩ := c.def_ 18 (d := d_Room_make_way) rfl
  obtain ⟨fd19, F19⟩ := c.def_ 19 (d := d_Room_touch) rfl
  obtain ⟨fd20, F20⟩ := c.def_ 20 (d := d_Room_reach) rfl
  obtain ⟨fd21, F21⟩ := c.def_ 21 (d := d_Room_bring) rfl
  obtain ⟨fd22, F22⟩ := c.def_ 22 (d := d_Room_look) rfl
  obtain ⟨fd23, F23⟩ := c.def_ 23 (d := d_Room_change) rfl
  obtain ⟨fd24, F24⟩ := c.def_ 24 (d := d_Room_home) rfl
  obtain ⟨fd25, F25⟩ := c.def_ 25 (d := d_Room_holds) rfl
  obtain ⟨fd26, F26⟩ := c.def_ 26 (d := d_sent) rfl
  obtain ⟨fd27, F27⟩ := c.def_ 27 (d := d_is_ask) rfl
  obtain ⟨fd28, F28⟩ := c.def_ 28 (d := d_passed) rfl
  obtain ⟨fd29, F29⟩ := c.def_ 29 (d := d__law_taken) rfl
  obtain ⟨fd30, F30⟩ := c.def_ 30 (d := d__law_alike) rfl
  obtain ⟨fd31, F31⟩ := c.def_ 31 (d := d__law_word) rfl
  obtain ⟨fd32, F32⟩ := c.def_ 32 (d := d__law_rule) rfl
  obtain ⟨fd33, F33⟩ := c.def_ 33 (d := d__law_place) rfl
  obtain ⟨fd34, F34⟩ := c.def_ 34 (d := d__law_hall) rfl
  obtain ⟨fd35, F35⟩ := c.def_ 35 (d := d__law_spot) rfl
  obtain ⟨fd36, F36⟩ := c.def_ 36 (d := d__law_behind) rfl
  obtain ⟨fd37, F37⟩ := c.def_ 37 (d := d__law_home) rfl
  obtain ⟨fd38, F38⟩ := c.def_ 38 (d := d__law_comes) rfl
  obtain ⟨fd39, F39⟩ := c.def_ 39 (d := d__law_way) rfl
  obtain ⟨fd40, F40⟩ := c.def_ 40 (d := d__law_reached) rfl
  obtain ⟨fd41, F41⟩ := c.def_ 41 (d := d__law_cell) rfl
  obtain ⟨fd42, F42⟩ := c.def_ 42 (d := d__law_due) rfl
  obtain ⟨fd43, F43⟩ := c.def_ 43 (d := d_law) rfl
  exact ⟨{
    g_is_number := He.glo_ok X G (c.fact 0 (f := .glo "is_number") rfl)
    g_is_rule := He.glo_ok X G (c.fact 1 (f := .glo "is_rule") rfl)
    g_block_of := He.glo_ok X G (c.fact 2 (f := .glo "block_of") rfl)
    g_sent := He.glo_ok X G (c.fact 3 (f := .glo "sent") rfl)
    g_is_ask := He.glo_ok X G (c.fact 4 (f := .glo "is_ask") rfl)
    g_passed := He.glo_ok X G (c.fact 5 (f := .glo "passed") rfl)
    g__law_taken := He.glo_ok X G (c.fact 6 (f := .glo "_law_taken") rfl)
    g__law_alike := He.glo_ok X G (c.fact 7 (f := .glo "_law_alike") rfl)
    g__law_word := He.glo_ok X G (c.fact 8 (f := .glo "_law_word") rfl)
    g__law_rule := He.glo_ok X G (c.fact 9 (f := .glo "_law_rule") rfl)
    g__law_place := He.glo_ok X G (c.fact 10 (f := .glo "_law_place") rfl)
    g__law_hall := He.glo_ok X G (c.fact 11 (f := .glo "_law_hall") rfl)
    g__law_spot := He.glo_ok X G (c.fact 12 (f := .glo "_law_spot") rfl)
    g__law_behind := He.glo_ok X G (c.fact 13 (f := .glo "_law_behind") rfl)
    g__law_home := He.glo_ok X G (c.fact 14 (f := .glo "_law_home") rfl)
    g__law_comes := He.glo_ok X G (c.fact 15 (f := .glo "_law_comes") rfl)
    g__law_way := He.glo_ok X G (c.fact 16 (f := .glo "_law_way") rfl)
    g__law_reached := He.glo_ok X G (c.fact 17 (f := .glo "_law_reached") rfl)
    g__law_cell := He.glo_ok X G (c.fact 18 (f := .glo "_law_cell") rfl)
    g__law_due := He.glo_ok X G (c.fact 19 (f := .glo "_law_due") rfl)
    g_law := He.glo_ok X G (c.fact 20 (f := .glo "law") rfl)
    g_WayError := He.glo_ok X G (c.fact 21 (f := .glo "WayError") rfl)
    g_BadRule := He.glo_ok X G (c.fact 22 (f := .glo "BadRule") rfl)
    g_BadHands := He.glo_ok X G (c.fact 23 (f := .glo "BadHands") rfl)
    g_BadHand := He.glo_ok X G (c.fact 24 (f := .glo "BadHand") rfl)
    g_BadPlace := He.glo_ok X G (c.fact 25 (f := .glo "BadPlace") rfl)
    g_BadNumber := He.glo_ok X G (c.fact 26 (f := .glo "BadNumber") rfl)
    g_BadDeed := He.glo_ok X G (c.fact 27 (f := .glo "BadDeed") rfl)
    g_BadRoom := He.glo_ok X G (c.fact 28 (f := .glo "BadRoom") rfl)
    g_BadWays := He.glo_ok X G (c.fact 29 (f := .glo "BadWays") rfl)
    g_BadLeavings := He.glo_ok X G (c.fact 30 (f := .glo "BadLeavings") rfl)
    g_BadText := He.glo_ok X G (c.fact 31 (f := .glo "BadText") rfl)
    g_Far := He.glo_ok X G (c.fact 32 (f := .glo "Far") rfl)
    g_Line := He.glo_ok X G (c.fact 33 (f := .glo "Line") rfl)
    g_Room := He.glo_ok X G (c.fact 34 (f := .glo "Room") rfl)
    cl_Far := He.cls_ok (c.fact 35 (f := .cls "Far") rfl)
    na_Far_held := He.noat_ok (c.fact 36 (f := .noat "Far" "held") rfl)
    mk_Far := He.mkr_ok (c.fact 37 (f := .mkr "Far") rfl)
    m_Far_bring := He.meth_ok (c.fact 38 (f := .meth "Far" "bring") rfl)
    m_Far_home := He.meth_ok (c.fact 39 (f := .meth "Far" "home") rfl)
    m_Far_change := He.meth_ok (c.fact 40 (f := .meth "Far" "change") rfl)
    cl_Line := He.cls_ok (c.fact 41 (f := .cls "Line") rfl)
    na_Line_block := He.noat_ok (c.fact 42 (f := .noat "Line" "block") rfl)
    na_Line_numbers := He.noat_ok (c.fact 43 (f := .noat "Line" "numbers") rfl)
    na_Line_is_dirty := He.noat_ok (c.fact 44 (f := .noat "Line" "is_dirty") rfl)
    mk_Line := He.mkr_ok (c.fact 45 (f := .mkr "Line") rfl)
    cl_Room := He.cls_ok (c.fact 46 (f := .cls "Room") rfl)
    na_Room_ways := He.noat_ok (c.fact 47 (f := .noat "Room" "ways") rfl)
    na_Room_is_back := He.noat_ok (c.fact 48 (f := .noat "Room" "is_back") rfl)
    na_Room_is_in := He.noat_ok (c.fact 49 (f := .noat "Room" "is_in") rfl)
    na_Room_is_late := He.noat_ok (c.fact 50 (f := .noat "Room" "is_late") rfl)
    na_Room_behind := He.noat_ok (c.fact 51 (f := .noat "Room" "behind") rfl)
    na_Room_title := He.noat_ok (c.fact 52 (f := .noat "Room" "title") rfl)
    na_Room_diary := He.noat_ok (c.fact 53 (f := .noat "Room" "diary") rfl)
    na_Room_sets := He.noat_ok (c.fact 54 (f := .noat "Room" "sets") rfl)
    mk_Room := He.mkr_ok (c.fact 55 (f := .mkr "Room") rfl)
    m_Room_lines_of := He.meth_ok (c.fact 56 (f := .meth "Room" "lines_of") rfl)
    m_Room_line_of := He.meth_ok (c.fact 57 (f := .meth "Room" "line_of") rfl)
    m_Room_note := He.meth_ok (c.fact 58 (f := .meth "Room" "note") rfl)
    m_Room_pass_home := He.meth_ok (c.fact 59 (f := .meth "Room" "pass_home") rfl)
    m_Room_pass_cell := He.meth_ok (c.fact 60 (f := .meth "Room" "pass_cell") rfl)
    m_Room_make_way := He.meth_ok (c.fact 61 (f := .meth "Room" "make_way") rfl)
    m_Room_touch := He.meth_ok (c.fact 62 (f := .meth "Room" "touch") rfl)
    m_Room_reach := He.meth_ok (c.fact 63 (f := .meth "Room" "reach") rfl)
    m_Room_bring := He.meth_ok (c.fact 64 (f := .meth "Room" "bring") rfl)
    m_Room_look := He.meth_ok (c.fact 65 (f := .meth "Room" "look") rfl)
    m_Room_change := He.meth_ok (c.fact 66 (f := .meth "Room" "change") rfl)
    m_Room_home := He.meth_ok (c.fact 67 (f := .meth "Room" "home") rfl)
    m_Room_holds := He.meth_ok (c.fact 68 (f := .meth "Room" "holds") rfl)
    g_CELLS := He.int_ok X G (c.fact 69 (f := .int "CELLS" 64) rfl)
    g_BLOCK := He.int_ok X G (c.fact 70 (f := .int "BLOCK" 4) rfl)
    g_MOST_WAYS := He.int_ok X G (c.fact 71 (f := .int "MOST_WAYS" 4) rfl)
    g_SETS := He.glo_ok X G (c.fact 72 (f := .glo "SETS") rfl)
    g_WRITES := He.glo_ok X G (c.fact 73 (f := .glo "WRITES") rfl)
    g_TAKES := He.glo_ok X G (c.fact 74 (f := .glo "TAKES") rfl)
    g_LEAVES := He.glo_ok X G (c.fact 75 (f := .glo "LEAVES") rfl)
    g_LOOK := He.str_ok X G (c.fact 76 (f := .str "LOOK" "look") rfl)
    g_BRING := He.str_ok X G (c.fact 77 (f := .str "BRING" "bring") rfl)
    g_HOME := He.str_ok X G (c.fact 78 (f := .str "HOME" "home") rfl)
    g_CELL := He.str_ok X G (c.fact 79 (f := .str "CELL" "cell") rfl)
    g_MOST_ASKS := He.int_ok X G (c.fact 80 (f := .int "MOST_ASKS" 400) rfl)
    n_ValueError := He.free_ok X G (c.fact 81 (f := .free "ValueError") rfl)
    n_len := He.free_ok X G (c.fact 82 (f := .free "len") rfl)
    n_isinstance := He.free_ok X G (c.fact 83 (f := .free "isinstance") rfl)
    n_range := He.free_ok X G (c.fact 84 (f := .free "range") rfl)
    n_list := He.free_ok X G (c.fact 85 (f := .free "list") rfl)
    n_tuple := He.free_ok X G (c.fact 86 (f := .free "tuple") rfl)
    n_enumerate := He.free_ok X G (c.fact 87 (f := .free "enumerate") rfl)
    n_int := He.free_ok X G (c.fact 88 (f := .free "int") rfl)
    n_bool := He.free_ok X G (c.fact 89 (f := .free "bool") rfl)
    n_str := He.free_ok X G (c.fact 90 (f := .free "str") rfl)
    m_BadRule___init__ := He.meth_ok (c.fact 91 (f := .meth "BadRule" "__init__") rfl)
    na_BadRule_number := He.noat_ok (c.fact 92 (f := .noat "BadRule" "number") rfl)
    xe_BadHands := He.exc_ok (c.fact 93 (f := .exc "BadHands") rfl)
    xe_BadHand := He.exc_ok (c.fact 94 (f := .exc "BadHand") rfl)
    xe_BadPlace := He.exc_ok (c.fact 95 (f := .exc "BadPlace") rfl)
    xe_BadNumber := He.exc_ok (c.fact 96 (f := .exc "BadNumber") rfl)
    m_BadDeed___init__ := He.meth_ok (c.fact 97 (f := .meth "BadDeed" "__init__") rfl)
    na_BadDeed_number := He.noat_ok (c.fact 98 (f := .noat "BadDeed" "number") rfl)
    xe_BadRoom := He.exc_ok (c.fact 99 (f := .exc "BadRoom") rfl)
    xe_BadWays := He.exc_ok (c.fact 100 (f := .exc "BadWays") rfl)
    m_BadLeavings___init__ := He.meth_ok (c.fact 101 (f := .meth "BadLeavings" "__init__") rfl)
    na_BadLeavings_number := He.noat_ok (c.fact 102 (f := .noat "BadLeavings" "number") rfl)
    m_BadText___init__ := He.meth_ok (c.fact 103 (f := .meth "BadText" "__init__") rfl)
    na_BadText_row := He.noat_ok (c.fact 104 (f := .noat "BadText" "row") rfl)
    t_SETS := fun H => He.tupB_ok x0 H
    t_WRITES := fun H => He.tupB_ok x1 H
    t_TAKES := fun H => He.tupB_ok x2 H
    t_LEAVES := fun H => He.tupB_ok x3 H
    cmp_Line := cmpB_ok x4
    xt := excTB_ok x5
    ox_BadRule := x6
    ox_BadDeed := x7
    ox_BadLeavings := x8
    ox_BadText := x9
    fd_BadRule___init__ := fd0
    F_BadRule___init__ := F0
    b_BadRule___init__ := F0.bindsN fun _ _ _ _ _ _ us hl => match us, hl with | [_, _], _ => rfl
    k_BadRule___init__ := F0.kp
    fd_BadDeed___init__ := fd1
    F_BadDeed___init__ := F1
    b_BadDeed___init__ := F1.bindsN fun _ _ _ _ _ _ us hl => match us, hl with | [_, _], _ => rfl
    k_BadDeed___init__ := F1.kp
    fd_BadLeavings___init__ := fd2
    F_BadLeavings___init__ := F2
    b_BadLeavings___init__ := F2.bindsN fun _ _ _ _ _ _ us hl => match us, hl with | [_, _], _ => rfl
    k_BadLeavings___init__ := F2.kp
    fd_BadText___init__ := fd3
    F_BadText___init__ := F3
    b_BadText___init__ := F3.bindsN fun _ _ _ _ _ _ us hl => match us, hl with | [_, _], _ => rfl
    k_BadText___init__ := F3.kp
    fd_is_number := fd4
    F_is_number := F4
    b_is_number := F4.bindsN fun _ _ _ _ _ _ us hl => match us, hl with | [_, _, _], _ => rfl
    k_is_number := F4.kp
    fd_is_rule := fd5
    F_is_rule := F5
    b_is_rule := F5.bindsN fun _ _ _ _ _ _ us hl => match us, hl with | [_], _ => rfl
    k_is_rule := F5.kp
    fd_block_of := fd6
    F_block_of := F6
    b_block_of := F6.bindsN fun _ _ _ _ _ _ us hl => match us, hl with | [_], _ => rfl
    k_block_of := F6.kp
    fd_Far___init__ := fd7
    F_Far___init__ := F7
    b_Far___init__ := F7.bindsN fun _ _ _ _ _ _ us hl => match us, hl with | [_], _ => rfl
    k_Far___init__ := F7.kp
    fd_Far_bring := fd8
    F_Far_bring := F8
    b_Far_bring := F8.bindsN fun _ _ _ _ _ _ us hl => match us, hl with | [_, _], _ => rfl
    k_Far_bring := F8.kp
    fd_Far_home := fd9
    F_Far_home := F9
    b_Far_home := F9.bindsN fun _ _ _ _ _ _ us hl => match us, hl with | [_, _, _], _ => rfl
    k_Far_home := F9.kp
    fd_Far_change := fd10
    F_Far_change := F10
    b_Far_change := F10.bindsN fun _ _ _ _ _ _ us hl => match us, hl with | [_, _, _], _ => rfl
    k_Far_change := F10.kp
    fd_Line___init__ := fd11
    F_Line___init__ := F11
    b_Line___init__ := F11.bindsN fun _ _ _ _ _ _ us hl => match us, hl with | [_, _, _], _ => rfl
    k_Line___init__ := F11.kp
    fd_Room___init__ := fd12
    F_Room___init__ := F12
    b_Room___init__ := F12.bindsN fun _ _ _ _ _ _ us hl => match us, hl with | [_, _, _, _, _], _ => rfl
    k_Room___init__ := F12.kp
    fd_Room_lines_of := fd13
    F_Room_lines_of := F13
    b_Room_lines_of := F13.bindsN fun _ _ _ _ _ _ us hl => match us, hl with | [_, _], _ => rfl
    k_Room_lines_of := F13.kp
    fd_Room_line_of := fd14
    F_Room_line_of := F14
    b_Room_line_of := F14.bindsN fun _ _ _ _ _ _ us hl => match us, hl with | [_, _], _ => rfl
    k_Room_line_of := F14.kp
    fd_Room_note := fd15
    F_Room_note := F15
    b_Room_note := F15.bindsN fun _ _ _ _ _ _ us hl => match us, hl with | [_, _, _], _ => rfl
    k_Room_note := F15.kp
    fd_Room_pass_home := fd16
    F_Room_pass_home := F16
    b_Room_pass_home := F16.bindsN fun _ _ _ _ _ _ us hl => match us, hl with | [_, _], _ => rfl
    k_Room_pass_home := F16.kp
    fd_Room_pass_cell := fd17
    F_Room_pass_cell := F17
    b_Room_pass_cell := F17.bindsN fun _ _ _ _ _ _ us hl => match us, hl with | [_, _, _], _ => rfl
    k_Room_pass_cell := F17.kp
    fd_Room_make_way := fd18
    F_Room_make_way := F18
    b_Room_make_way := F18.bindsN fun _ _ _ _ _ _ us hl => match us, hl with | [_, _], _ => rfl
    k_Room_make_way := F18.kp
    fd_Room_touch := fd19
    F_Room_touch := F19
    b_Room_touch := F19.bindsN fun _ _ _ _ _ _ us hl => match us, hl with | [_, _], _ => rfl
    k_Room_touch := F19.kp
    fd_Room_reach := fd20
    F_Room_reach := F20
    b_Room_reach := F20.bindsN fun _ _ _ _ _ _ us hl => match us, hl with | [_, _], _ => rfl
    k_Room_reach := F20.kp
    fd_Room_bring := fd21
    F_Room_bring := F21
    b_Room_bring := F21.bindsN fun _ _ _ _ _ _ us hl => match us, hl with | [_, _], _ => rfl
    k_Room_bring := F21.kp
    fd_Room_look := fd22
    F_Room_look := F22
    b_Room_look := F22.bindsN fun _ _ _ _ _ _ us hl => match us, hl with | [_, _], _ => rfl
    k_Room_look := F22.kp
    fd_Room_change := fd23
    F_Room_change := F23
    b_Room_change := F23.bindsN fun _ _ _ _ _ _ us hl => match us, hl with | [_, _, _], _ => rfl
    k_Room_change := F23.kp
    fd_Room_home := fd24
    F_Room_home := F24
    b_Room_home := F24.bindsN fun _ _ _ _ _ _ us hl => match us, hl with | [_, _, _], _ => rfl
    k_Room_home := F24.kp
    fd_Room_holds := fd25
    F_Room_holds := F25
    b_Room_holds := F25.bindsN fun _ _ _ _ _ _ us hl => match us, hl with | [_], _ => rfl
    k_Room_holds := F25.kp
    fd_sent := fd26
    F_sent := F26
    b_sent := F26.bindsN fun _ _ _ _ _ _ us hl => match us, hl with | [_, _], _ => rfl
    k_sent := F26.kp
    fd_is_ask := fd27
    F_is_ask := F27
    b_is_ask := F27.bindsN fun _ _ _ _ _ _ us hl => match us, hl with | [_], _ => rfl
    k_is_ask := F27.kp
    fd_passed := fd28
    F_passed := F28
    b_passed := F28.bindsN fun _ _ _ _ _ _ us hl => match us, hl with | [_, _], _ => rfl
    k_passed := F28.kp
    fd__law_taken := fd29
    F__law_taken := F29
    b__law_taken := F29.bindsN fun _ _ _ _ _ _ us hl => match us, hl with | [_, _], _ => rfl
    k__law_taken := F29.kp
    fd__law_alike := fd30
    F__law_alike := F30
    b__law_alike := F30.bindsN fun _ _ _ _ _ _ us hl => match us, hl with | [_, _], _ => rfl
    k__law_alike := F30.kp
    fd__law_word := fd31
    F__law_word := F31
    b__law_word := F31.bindsN fun _ _ _ _ _ _ us hl => match us, hl with | [_], _ => rfl
    k__law_word := F31.kp
    fd__law_rule := fd32
    F__law_rule := F32
    b__law_rule := F32.bindsN fun _ _ _ _ _ _ us hl => match us, hl with | [_], _ => rfl
    k__law_rule := F32.kp
    fd__law_place := fd33
    F__law_place := F33
    b__law_place := F33.bindsN fun _ _ _ _ _ _ us hl => match us, hl with | [_, _], _ => rfl
    k__law_place := F33.kp
    fd__law_hall := fd34
    F__law_hall := F34
    b__law_hall := F34.bindsN fun _ _ _ _ _ _ us hl => match us, hl with | [_, _], _ => rfl
    k__law_hall := F34.kp
    fd__law_spot := fd35
    F__law_spot := F35
    b__law_spot := F35.bindsN fun _ _ _ _ _ _ us hl => match us, hl with | [_, _, _], _ => rfl
    k__law_spot := F35.kp
    fd__law_behind := fd36
    F__law_behind := F36
    b__law_behind := F36.bindsN fun _ _ _ _ _ _ us hl => match us, hl with | [_, _], _ => rfl
    k__law_behind := F36.kp
    fd__law_home := fd37
    F__law_home := F37
    b__law_home := F37.bindsN fun _ _ _ _ _ _ us hl => match us, hl with | [_, _, _], _ => rfl
    k__law_home := F37.kp
    fd__law_comes := fd38
    F__law_comes := F38
    b__law_comes := F38.bindsN fun _ _ _ _ _ _ us hl => match us, hl with | [_, _, _, _], _ => rfl
    k__law_comes := F38.kp
    fd__law_way := fd39
    F__law_way := F39
    b__law_way := F39.bindsN fun _ _ _ _ _ _ us hl => match us, hl with | [_, _, _], _ => rfl
    k__law_way := F39.kp
    fd__law_reached := fd40
    F__law_reached := F40
    b__law_reached := F40.bindsN fun _ _ _ _ _ _ us hl => match us, hl with | [_, _, _], _ => rfl
    k__law_reached := F40.kp
    fd__law_cell := fd41
    F__law_cell := F41
    b__law_cell := F41.bindsN fun _ _ _ _ _ _ us hl => match us, hl with | [_, _, _, _], _ => rfl
    k__law_cell := F41.kp
    fd__law_due := fd42
    F__law_due := F42
    b__law_due := F42.bindsN fun _ _ _ _ _ _ us hl => match us, hl with | [_, _], _ => rfl
    k__law_due := F42.kp
    fd_law := fd43
    F_law := F43
    b_law := F43.bindsN fun _ _ _ _ _ _ us hl => match us, hl with | [_], _ => rfl
    k_law := F43.kp
  }⟩
theorem law_enterX {K : PySem.W.Frag} {H : Hp} {a Pt : Addr} {q : Str} {ns : List Int} (h : SqL K H a (ns.map V.int)) (hp : H Pt = some (.tbl #[])) : ∃ S TL : List Cell, Scr K a ns S ∧ NT S ∧ TabC TL Pt q ∧ Own H (S ++ TL) := by
  have tab : TabC [(Pt, HO.tbl #[])] Pt q := ⟨#[], List.mem_cons_self, trivial, fun pos cv hc => by
    have z : codeAmong pos [] = some cv := hc
    simp [codeAmong] at z⟩
  have one : ∀ {o : HO}, H a = some o → isTb o = false → Own H ([(a, o)] ++ [(Pt, .tbl #[])]) := fun {o} e f => by
    refine ⟨?_, fun c hc => ?_⟩
    · show [a, Pt].Nodup
      refine List.nodup_cons.mpr ⟨fun z => ?_, List.nodup_cons.mpr ⟨List.not_mem_nil, List.nodup_nil⟩⟩
      rw [List.mem_singleton.mp z, hp] at e
      rw [← Option.some.inj e] at f
      cases f
    · rcases List.mem_cons.mp hc with z | z
      · rw [z]
        exact e
      · rw [List.mem_singleton.mp z]
        exact hp
  rcases h with (h | ⟨o, h⟩) | h
  · exact ⟨[(a, .lst (ns.map V.int))], _, fun H' h' => .inl (.inl (h' _ List.mem_cons_self)), NT.cons rfl NT.nil, tab, one h rfl⟩
  · exact ⟨[(a, .frz o (.lst (ns.map V.int)))], _, fun H' h' => .inl (.inr ⟨o, h' _ List.mem_cons_self⟩), NT.cons rfl NT.nil, tab, one h rfl⟩
  · exact ⟨[], _, fun H' _ => .inr h, NT.nil, tab, List.nodup_cons.mpr ⟨List.not_mem_nil, List.nodup_nil⟩, fun c hc => by rw [List.mem_singleton.mp hc]; exact hp⟩
theorem lawFactsX {l : PySem.W.OpenLaw} {w : World} {K : PySem.W.Frag} {h : Heap} {mg : Str → Option Value} {f : Addr} (X : K.In h) (G : h.Ns mainGlobals mg) (hf : mg ("law" : Str) = some (.ref f)) (c : He.SaysX fa fn [] tf ex w h K) : LamX.LawAtS l w K CX0 lawLv 63 "_law_script" mg f h := by
  obtain ⟨T⟩ := txt_of X G c
  have e : some (Value.ref f) = some (.ref (He.fAd K ("law", none))) := hf.symm.trans T.g_law
  cases e
  have b := FunD.bindsA (ps := ["_law_script"]) T.F_law fun _ _ _ _ _ _ us hl => match us, hl with | [_], _ => rfl
  have m1 : (("law", none) : He.Defn) ∈ tf := by decide
  refine ⟨T.fd_law, [He.cT K ("law", none)], spLaw K, fun p hp => ?_, fun p hp => ?_, fun p hp => ?_, fun s v => b s [v] rfl, fun H a ns _ _ hH hS => ?_, fun base _ _ hT => ok_law T (hT _ List.mem_cons_self)⟩
  · rw [List.mem_singleton.mp hp]
    exact c.empty _ m1
  · rw [List.mem_singleton.mp hp]
    exact c.out _ m1
  · rw [List.mem_singleton.mp hp]
    exact PySem.W.codeHd_of_K X (c.hd _ m1)
  · obtain ⟨S, TL, h1, h2, h3, h4⟩ := law_enterX hS (hH _ List.mem_cons_self)
    exact ⟨a, ns, S, TL, rfl, h1, h2, h3, h4, fun _ => rfl⟩
end Ww
open PySem PySem.W PySem.Calls PyProof.Rows
theorem PySem.Challenge.cw_writeways_k03_what_a_room_passes_on_holds : PySem.Challenge.rw_writeways_k03_what_a_room_passes_on.Holds := by
  w_on; o_law
  refine HandSHeadRun.head_any (r := OpenLaw.row PySem.Challenge.rw_writeways_k03_what_a_room_passes_on) (q := view (OpenLaw.row PySem.Challenge.rw_writeways_k03_what_a_room_passes_on).prog [52]) (H := Ww.hk) (ob := Ww.ob) (M := 6000) (loose := Ww.loose) (d := HandSHeadRun.topDef (OpenLaw.row PySem.Challenge.rw_writeways_k03_what_a_room_passes_on).prog 52) (kwd := []) Ww.ob_eq
    (by kernel_rfl) (fun s => by kernel_rfl) Ww.run (by kernel_rfl) (by kernel_rfl) (by kernel_rfl) (by rfl) (by first | assumption | decide +kernel) (by decide +kernel) ⟨rfl, rfl, rfl, rfl, rfl, by decide +kernel⟩ ?hw ?hc
  case hw => w_witness2
  case hc =>
    refine LamX.walk_ofTsE (l := PySem.Challenge.rw_writeways_k03_what_a_room_passes_on) (n := 63) (k := Ww.lawLv) (x := "_law_script") (CX := fun _ => L2.CX0) rfl (by decide) (by kernel_rfl) ⟨rfl, by decide, by decide⟩ ?F (fun _ _ _ _ _ z => z)
    intro w mg f h Y G hmg0
    obtain ⟨K, KX, c⟩ := Y
    have hmg : mg ("law" : PySem.Str) = some (.ref f) := by
      have e : (HandSHeadRun.topDef (OpenLaw.row PySem.Challenge.rw_writeways_k03_what_a_room_passes_on).prog 52).name = ("law" : PySem.Str) := by kernel_rfl
      rw [← e]
      exact hmg0
    exact ⟨K, KX, Ww.lawFactsX KX G hmg c⟩
