import PyProof.Rows.All
import Wide.All
import OpenK.AllK
import Wide.FinOn
import KE.KStateDown
import KE.DataFind
import PyProof.InstEq
import HandS.ForMost
import HandS.ForExc
import HandS.Defaults
import HandS.IsInst
import HandS.TupAny
import HandS.Head0
import HandS.Head1
import HandS.Head2
import HandS.HeadEnd
import HandS.HeadHook1
import HandS.HeadHook2
import HandS.HeadHook3
import HandS.HeadHook4
import KE.KExcIs
import HandS.ExcInit
import HandS.ExcField
import HandS.FStr
import HandS.Lambda
import HandS.EndTab
import HandS.HeadWalk
import HandS.Style
import HandS.Zip
import HandS.Evl
import HandS.SetFor
import HandS.Conv
import PyProof.EqAt
import HandS.RaiseMore
import HandS.Walk
import PySem.Challenge.RW_writeways_k19_texts_refused
set_option Elab.async false
set_option linter.all false
set_option maxRecDepth 100000
set_option maxHeartbeats 4000000
namespace Ww
open PySem PySem.Spec PyProof.Rows L2
-- WwBase
/-! ### cells: a part of the abstract heap that is known -/
abbrev Cell := Addr × HO
def Own (H : Hp) (L : List Cell) : Prop := (L.map (·.1)).Nodup ∧ ∀ p ∈ L, H p.1 = some p.2
section
variable {H : Hp} {L L' R : List Cell} {a p : Addr} {o o' : HO} {c0 c1 c2 c3 c4 c5 c6 c7 : Cell}
theorem Own.mem (h : Own H L) (m : (a, o) ∈ L) : H a = some o := h.2 _ m
theorem Own.perm (h : Own H L) (e : L.Perm L') : Own H L' := ⟨((e.map _).nodup_iff).mp h.1, fun q m => h.2 q (e.mem_iff.mpr m)⟩
theorem Own.sub (h : Own H L) (e : L'.Sublist L) : Own H L' := ⟨List.Nodup.sublist (e.map _) h.1, fun q m => h.2 q (e.subset m)⟩
theorem Own.tail (h : Own H (c0 :: L)) : Own H L := h.sub (List.sublist_cons_self _ _)
theorem Own.right (h : Own H (L' ++ L)) : Own H L := h.sub (List.sublist_append_right _ _)
theorem Own.left (h : Own H (L ++ L')) : Own H L := h.sub (List.sublist_append_left _ _)
theorem Own.a0 (h : Own H ((a, o) :: L)) : H a = some o := h.2 (a, o) (by simp)
theorem Own.a1 (h : Own H (c0 :: (a, o) :: L)) : H a = some o := h.2 (a, o) (by simp)
theorem Own.a2 (h : Own H (c0 :: c1 :: (a, o) :: L)) : H a = some o := h.2 (a, o) (by simp)
theorem Own.a3 (h : Own H (c0 :: c1 :: c2 :: (a, o) :: L)) : H a = some o := h.2 (a, o) (by simp)
theorem Own.a4 (h : Own H (c0 :: c1 :: c2 :: c3 :: (a, o) :: L)) : H a = some o := h.2 (a, o) (by simp)
theorem Own.a5 (h : Own H (c0 :: c1 :: c2 :: c3 :: c4 :: (a, o) :: L)) : H a = some o := h.2 (a, o) (by simp)
theorem Own.a6 (h : Own H (c0 :: c1 :: c2 :: c3 :: c4 :: c5 :: (a, o) :: L)) : H a = some o := h.2 (a, o) (by simp)
theorem Own.a7 (h : Own H (c0 :: c1 :: c2 :: c3 :: c4 :: c5 :: c6 :: (a, o) :: L)) : H a = some o := h.2 (a, o) (by simp)
theorem Own.fresh (h : Own H L) (hp : H p = none) : p ∉ L.map (·.1) := fun m => by
  obtain ⟨q, hq, e⟩ := List.mem_map.mp m
  have := h.2 q hq
  rw [e, hp] at this
  cases this
theorem Own.keep (h : Own H L) (hp : p ∉ L.map (·.1)) : Own (upd H p o) L := ⟨h.1, fun q m => by
  rw [upd_ne (fun e => hp (List.mem_map.mpr ⟨q, m, e⟩))]
  exact h.2 q m⟩
theorem Own.new (h : Own H L) (hp : H p = none) : Own (upd H p o) ((p, o) :: L) := by
  refine ⟨List.nodup_cons.mpr ⟨h.fresh hp, h.1⟩, fun q m => ?_⟩
  rcases List.mem_cons.mp m with e | m
  · rw [e]
    exact upd_same
  · exact (h.keep (h.fresh hp)).2 q m
theorem Own.keepNew (h : Own H L) (hp : H p = none) : Own (upd H p o) L := h.keep (h.fresh hp)
theorem Own.set (h : Own H ((a, o) :: L)) : Own (upd H a o') ((a, o') :: L) := by
  have hn := List.nodup_cons.mp h.1
  refine ⟨h.1, fun q m => ?_⟩
  rcases List.mem_cons.mp m with e | m
  · rw [e]
    exact upd_same
  · exact (h.tail.keep hn.1).2 q m
theorem Own.nil : Own H [] := ⟨List.nodup_nil, fun _ m => by cases m⟩
theorem Own.setAt (h : Own H L) (e : L.Perm ((a, o) :: R)) : Own (upd H a o') ((a, o') :: R) := (h.perm e).set
theorem Own.seqL {K : PySem.W.Frag} {xs : List V} (h : Own H ((a, .lst xs) :: L)) : SqL K H a xs := SqL.of h.a0
end
/-- one in a count -/
noncomputable def one1 (c d : Cell) : Nat := by classical exact if d = c then 1 else 0
noncomputable def cnt (c : Cell) : List Cell → Nat
  | [] => 0
  | d :: r => one1 c d + cnt c r
theorem cnt_nil (c : Cell) : cnt c [] = 0 := rfl
theorem cnt_cons (c d : Cell) (r : List Cell) : cnt c (d :: r) = one1 c d + cnt c r := rfl
theorem cnt_app (c : Cell) : ∀ l r : List Cell, cnt c (l ++ r) = cnt c l + cnt c r
  | [], r => by rw [List.nil_append, cnt_nil, Nat.zero_add]
  | d :: l, r => by rw [List.cons_append, cnt_cons, cnt_cons, cnt_app c l r, Nat.add_assoc]
theorem cnt_mem {c : Cell} : ∀ {l : List Cell}, 0 < cnt c l → c ∈ l
  | [], h => by rw [cnt_nil] at h; omega
  | d :: r, h => by
    classical
    by_cases e : d = c
    · rw [e]; exact List.mem_cons_self
    · rw [cnt_cons] at h
      have z : one1 c d = 0 := by unfold one1; rw [if_neg e]
      exact List.mem_cons_of_mem _ (cnt_mem (by omega))
theorem cnt_perm : ∀ {l r : List Cell}, (∀ c, cnt c l = cnt c r) → l.Perm r
  | [], r, h => by
    cases r with
    | nil => exact List.Perm.nil
    | cons d r =>
      have := h d
      rw [cnt_nil, cnt_cons] at this
      have z : one1 d d = 1 := by unfold one1; rw [if_pos rfl]
      omega
  | d :: l, r, h => by
    have hd := h d
    rw [cnt_cons] at hd
    have z : one1 d d = 1 := by unfold one1; rw [if_pos rfl]
    obtain ⟨r1, r2, e⟩ := List.append_of_mem (cnt_mem (c := d) (l := r) (by omega))
    subst e
    have e2 : l.Perm (r1 ++ r2) := cnt_perm fun c => by
      have := h c
      rw [cnt_cons, cnt_app, cnt_cons] at this
      rw [cnt_app]
      omega
    exact (e2.cons d).trans List.perm_middle.symm
local macro_rules | `(tactic| walk_at "perm") => `(tactic| (refine cnt_perm fun c => ?_; simp only [cnt_app, cnt_cons, cnt_nil, List.append_assoc, List.cons_append, List.nil_append] <;> omega))
example (A B C : List Cell) (x y : Cell) : (A ++ x :: B ++ (y :: C)).Perm (y :: (C ++ A) ++ ([x] ++ B)) := by walk_at "perm"

/-! ### globals -/
section
variable {X : Cx}
theorem pe_globI {x : Str} {i : Int} {pos : Pos} (hg : Gl X x) (hm : ∃ t, X.mg x = some (.int i t)) (hd : (x == ("__debug__" : Str)) = false := by decide) : PE X (.Name x pos) (tC (.int i)) := by
  obtain ⟨t, hm⟩ := hm
  exact pe_glob hg hm ⟨t, rfl⟩ hd
theorem pe_globR {x : Str} {a : Addr} {pos : Pos} (hg : Gl X x) (hm : X.mg x = some (.ref a)) (hd : (x == ("__debug__" : Str)) = false := by decide) : PE X (.Name x pos) (tC (.ref a)) := pe_glob hg hm (show RelV (.ref a) (.ref a) from rfl) hd
theorem pe_globS {x z : Str} {pos : Pos} (hg : Gl X x) (hm : ∃ t, X.mg x = some (.str z t)) (hd : (x == ("__debug__" : Str)) = false := by decide) : PE X (.Name x pos) (tC (.str z)) := by
  obtain ⟨t, hm⟩ := hm
  exact pe_glob hg hm ⟨t, rfl⟩ hd
end

/-! ### two instances of a class without its own __eq__ -/
def CmpC (K : PySem.W.Frag) (C : Addr) : Prop :=
  ∃ (nm q : Str) (N : Addr) (bs : List Value) (hdct : Bool) (sn : List Str) (sub : List Value) (ab : Bool) (col : Option Bool) (dd : Option Addr) (k0 k1 k2 k3 k5 : Option Value) (newId : String),
    K.lookup C = some (excClassObj nm q C N bs [.type "object"] hdct sn sub ab col dd k0 k1 k2 k3 k5 newId) ∧ PySem.W.nsOkIn K N = true ∧ PySem.W.nsIn K N "__eq__" = some none ∧ PySem.W.nsIn K N "__ne__" = some none
def cmpB (K : PySem.W.Frag) (C : Addr) : Bool := match K.lookup C with
  | some ⟨.type t, _, .cls cd, sl⟩ => (match cd.mro, sl.toList with
    | [.ref C', .type o], [_, _, _, _, some (.builtin _), _] => decide (t = "type") && (decide (C' = C) && (decide (o = "object") && (!cd.hasDel && (PySem.W.nsOkIn K cd.ns && (He.eqO (PySem.W.nsIn K cd.ns "__eq__") (some none) && He.eqO (PySem.W.nsIn K cd.ns "__ne__") (some none))))))
    | _, _ => false)
  | _ => false
theorem cmpB_ok {K : PySem.W.Frag} {C : Addr} (q : cmpB K C = true) : CmpC K C := by
  unfold cmpB at q
  split at q
  · rename_i t dd cd sl ho
    split at q
    · rename_i C' o k0 k1 k2 k3 n k5 hm hs
      obtain ⟨q1, q⟩ := He.ba q
      obtain ⟨q2, q⟩ := He.ba q
      obtain ⟨q3, q⟩ := He.ba q
      obtain ⟨q4, q⟩ := He.ba q
      obtain ⟨q5, q⟩ := He.ba q
      obtain ⟨q6, q7⟩ := He.ba q
      have e1 := of_decide_eq_true q1
      have e2 := of_decide_eq_true q2
      have e3 := of_decide_eq_true q3
      obtain ⟨nm, bs, mro, ns, qn, hd, sn, sub, ab, col, del⟩ := cd
      dsimp only at hm q4 q5 q6 q7
      have e4 : del = false := by
        cases del with
        | false => rfl
        | true => cases q4
      subst hm e1 e2 e3 e4
      have hsl : sl = #[k0, k1, k2, k3, some (.builtin n), k5] := by
        obtain ⟨l⟩ := sl
        simp only at hs
        rw [hs]
      subst hsl
      exact ⟨nm, qn, ns, bs, hd, sn, sub, ab, col, dd, k0, k1, k2, k3, k5, n, ho, q5, He.eqO_ok q6, He.eqO_ok q7⟩
    · cases q
  · cases q
theorem CmpC.inst {K : PySem.W.Frag} {C : Addr} {h : Heap} (c : CmpC K C) (X : K.In h) {x dx : Addr} (hx : h.get? x = some (PySem.W.instObj C dx)) : h.CmpInst x C [.type "object"] := by
  obtain ⟨nm, q, N, bs, hdct, sn, sub, ab, col, dd, k0, k1, k2, k3, k5, newId, hC, ho, h1, h2⟩ := c
  exact ⟨_, nm, q, N, bs, hdct, sn, sub, ab, col, dd, k0, k1, k2, k3, k5, newId, _, hx, rfl, X _ _ hC, .of_isNs (PySem.W.isNs_of_in X ho), PySem.W.nsMap_none_of_in X ho h1, PySem.W.nsMap_none_of_in X ho h2⟩
section
variable {X : Cx}
/-- xs.remove(o), xs a list of instances of the class at C -/
def rRemO (C : Addr) : V → List V → Hp → VK → Prop := fun x xs H Q => ∃ (l : Addr) (as : List Addr) (a : Addr) (j : Nat), x = .ref l ∧ xs = [.ref a] ∧ H l = some (.lst (as.map V.ref)) ∧ (∀ b ∈ as, ∃ dx fs, H b = some (.ins C dx fs)) ∧
  as[j]? = some a ∧ (∀ m : Nat, m < j → as[m]? ≠ some a) ∧ Q .non (upd H l (.lst ((as.eraseIdx j).map V.ref)))
theorem refs_of_vals : ∀ {as : List Addr} {us : List Value}, Vals (as.map V.ref) us → us = as.map Value.ref
  | [], _, h => by cases h; rfl
  | a :: as, _, h => by
    cases h with
    | cons r t =>
      obtain rfl := r
      rw [refs_of_vals t]
      rfl
theorem erase_map {α β : Type} (f : α → β) : ∀ (as : List α) (j : Nat), (as.map f).eraseIdx j = (as.eraseIdx j).map f
  | [], _ => rfl
  | _ :: _, 0 => rfl
  | a :: as, j + 1 => by
    show f a :: (as.map f).eraseIdx j = f a :: (as.eraseIdx j).map f
    rw [erase_map f as j]
theorem erase_mapR (as : List Addr) (j : Nat) : (as.map V.ref).eraseIdx j = (as.eraseIdx j).map V.ref := erase_map _ as j
theorem mt_removeO {C : Addr} (c : CmpC X.K C) (hu : X.A.units + 1 < cLine) : MtM X "list.remove" (rRemO C) := by
  intro pins s σ H x xs v us Q I rx rxs h
  obtain ⟨l, as, a, j, rfl, rfl, hH, hI, hj, hno, q⟩ := h
  cases rx
  obtain ⟨u, rfl, ru⟩ := rxs.one
  obtain rfl : u = Value.ref a := ru
  obtain ⟨z, its, n, r, hl, e⟩ := I.lstM hH
  have hi := refs_of_vals r
  subst hi
  rw [List.length_map] at z hl
  have hjn : j < as.length := (List.getElem?_eq_some_iff.mp hj).1
  have inst : ∀ b ∈ as, ∃ dx, s.heap.get? b = some (PySem.W.instObj C dx) := fun b hb => by
    obtain ⟨dx, fs, hb⟩ := hI b hb
    obtain ⟨_, _, _, e, _⟩ := I.hok b _ hb
    exact ⟨dx, e⟩
  have ha : a ∈ as := List.mem_of_getElem? hj
  obtain ⟨dxa, hoa⟩ := inst a ha
  have KX : X.K.In s.heap := I.kIn
  have hsz : (as.map Value.ref).toArray.size = as.length := by simp
  refine call_meets PySem.F.slot_list_remove ⟨_, e, rfl⟩ PySem.F.entry_list_remove (PySem.F.args_list_remove_2 _ _)
    (SeqAt.list_removeAt l (as.map Value.ref).toArray n none #[] (.ref a) (fun y => decide (y = .ref a)) j (by omega) ?_ ?_ (by omega)) ⟨e, fun y hy => ?_, ?_⟩
  · obtain ⟨h1, h2⟩ := List.getElem?_eq_some_iff.mp hj
    simp [h2]
  · intro m hm hmj
    have hmn : m < as.length := by omega
    have hne := hno m hmj
    rw [List.getElem?_eq_getElem hmn] at hne
    simp only [List.getElem_toArray, List.getElem_map, decide_eq_false_iff_not, Value.ref.injEq]
    exact fun q => hne (by rw [q])
  · have hy2 : y ∈ as.map Value.ref := by simpa using hy
    obtain ⟨b, hb, rfl⟩ := List.mem_map.mp hy2
    by_cases eb : b = a
    · subst eb
      rw [decide_eq_true rfl]
      exact SeqAt.EqAt.same _
    · rw [decide_eq_false (by intro q; injection q with q; exact eb q)]
      obtain ⟨dxb, hob⟩ := inst b hb
      refine SeqAt.EqAt.of_refs eb fun prog w E Q hq => ?_
      have F0 := PySem.F.cmp_object
      obtain ⟨hp, g, d, t, os⟩ := s
      exact PySem.richCompare_eq_other F0 F0 (c.inst KX hob) (c.inst KX hoa) eb hu hq
  · have rr := r.eraseIdx j
    rw [erase_mapR] at rr
    refine ⟨.non, _, I.lset (its' := (as.map Value.ref).eraseIdx j) (t' := s.toks) hH e ?_ rr ?_, rfl, q⟩
    · rw [List.eraseIdxIfInBounds_toArray]
    · rw [List.length_map]
      have := List.length_eraseIdx_le as j
      omega
end
/-! ### xs[a:b] = ys -/
def gSlice (to : TE) (tl th : TO) : TG := fun v σ H Q => to σ H fun x H1 => tl σ H1 fun lo H2 => th σ H2 fun hi H3 => ∃ (l b : Addr) (xs ys : List V) (i j : Int), x = .ref l ∧ v = .ref b ∧ lo = some i ∧ hi = some j ∧
  H3 l = some (.lst xs) ∧ H3 b = some (.lst ys) ∧ l ≠ b ∧ 0 ≤ i ∧ i ≤ j ∧ j ≤ xs.length ∧ xs.length + ys.length ≤ sizeLine ∧ Q σ (upd H3 l (.lst (xs.take i.toNat ++ ys ++ xs.drop j.toNat)))
theorem part_int {v : Value} {i : Int} (h : IsPart v (some i)) : RelV (.int i) v := by
  cases h
  exact ⟨_, rfl⟩
theorem pg_slice {X : Cx} {o : Expr} {lo hi : Option Expr} {p2 pos : Pos} {to : TE} {tl th : TO} (ho : PE X o to) (hl : PO X lo tl) (hu : PO X hi th) : PG X (.Subscript o (.Slice lo hi none p2) pos) (gSlice to tl th) := by
  refine ⟨fun pins s σ H v u Q I r h => ?_⟩
  show wpAny _ _ (do
      let ov ← holding [u] (eval o X.env)
      let iv ← holding [u, ov] (eval (.Slice lo hi none p2) X.env)
      standAt pos
      holding [u, ov, iv] (setItem ov iv u)
      release [iv, u, ov] []) _ _ _
  refine wpAny_bind (wpAny_holding (thn (ho.run pins s σ H _ I h) fun ov s1 ⟨x, H1, I1, r1, q1⟩ => ?_))
  refine wpAny_bind (wpAny_holding (wpAny_Slice (thn (hl.run pins s1 σ H1 _ I1 q1) fun vl s2 ⟨l, H2, I2, pl, q2⟩ => thn (hu.run pins s2 σ H2 _ I2 q2) fun vu s3 ⟨u3, H3, I3, pu, q3⟩ => ?_)))
  rw [evalPart_none]
  refine wpAny_pure ?_
  have I4 : Inv X pins σ H3 { s3 with heap := s3.heap.push { cls := .type "slice", data := .fields #[vl, vu, .none] } } := I3.kept (t' := s3.toks) fun b ob q => Heap.get?_push_of_some _ q
  obtain ⟨a, b, xs, ys, i, j, rfl, rfl, rfl, rfl, ha, hb, hne, h0, hij, hjx, hz, q⟩ := q3
  obtain rfl : ov = Value.ref a := r1
  obtain rfl : u = Value.ref b := r
  refine wpAny_bind (wpAny_standAt (wpAny_bind (wpAny_holding (set_slice I4 ha hb hne (Heap.IsSliceOf.new ..) (part_int pl) (part_int pu) h0 hij hjx hz fun s' I5 => ?_))))
  exact wpAny_release ⟨σ, _, I5, q⟩

/-! ### names of readings -/
abbrev rAddI : R2 := rI0 fun i j => .int (i + j)
abbrev rSubI : R2 := rI0 fun i j => .int (i - j)
abbrev rMulI : R2 := rI CMul fun i j => .int (i * j)
abbrev rDivI : R2 := rI CDiv fun i j => .int (i / j)
abbrev rModI : R2 := rI (fun _ j => 0 < j) fun i j => .int (i % j)
abbrev rLtI : R2 := rI0 fun i j => .bl (decide (i < j))
abbrev rLeI : R2 := rI0 fun i j => .bl (decide (i ≤ j))
abbrev rGtI : R2 := rI0 fun i j => .bl (decide (j < i))
abbrev rGeI : R2 := rI0 fun i j => .bl (decide (j ≤ i))
abbrev rLenQ (K : PySem.W.Frag) : List V → Hp → VK → Prop := fun xs H Q => ∃ p ys, xs = [.ref p] ∧ (SqL K H p ys ∨ SqT K H p ys) ∧ Q (.int ys.length) H
abbrev rListQ (K : PySem.W.Frag) : List V → Hp → VK → Prop := fun xs H Q => ∃ p ys, xs = [.ref p] ∧ (SqL K H p ys ∨ SqT K H p ys) ∧ ∀ l, H l = none → Q (.ref l) (upd H l (.lst ys))
abbrev rTupQ (K : PySem.W.Frag) : List V → Hp → VK → Prop := fun xs H Q => ∃ p ys, xs = [.ref p] ∧ ((SqL K H p ys ∧ ∀ l, H l = none → Q (.ref l) (upd H l (.tup ys))) ∨ (SqT K H p ys ∧ Q (.ref p) H))
/-- a for over enumerate(xs) -/
theorem for_enum {K : PySem.W.Frag} {a : Addr} {xs : List V} {g : TG} {tb : TS} {D : Ends} {σ : L2.St} {H : Hp} (Pv : Nat → L2.St → Hp → Prop) (h0 : Pv 0 σ H) (hl : ∀ i σ H, i ≤ xs.length → Pv i σ H → SqL K H a xs)
    (hs : ∀ i x σ H T, xs[i]? = some x → Pv i σ H → H T = none → g (.ref T) σ (upd H T (.tup [.int (i : Nat), x])) fun σ2 H2 => tb { D with nx := Pv (i + 1), ct := Pv (i + 1), bk := D.nx } σ2 H2) (hd : ∀ σ H, Pv xs.length σ H → D.nx σ H) :
    ∃ W : Nat → Nat → L2.St → Hp → Prop, (∃ m, W 0 m σ H) ∧ ∀ i m σ H, W i m σ H →
      ((Ite K a).stop i H ∧ D.nx σ H) ∨ ((Ite K a).go i H ∧ ∃ N : L2.St → Hp → Prop, (∀ σ' H', N σ' H' → ∃ m', m' < m ∧ W (i + 1) m' σ' H') ∧ ∀ x H', (Ite K a).yld i H x H' → g x σ H' fun σ2 H2 => tb { D with nx := N, ct := N, bk := D.nx } σ2 H2) := by
  refine ⟨fun i m σ H => m = xs.length - i ∧ i ≤ xs.length ∧ Pv i σ H, ⟨xs.length, by simp, Nat.zero_le _, h0⟩, ?_⟩
  rintro i m σ H ⟨rfl, hi, p⟩
  have q := hl i σ H hi p
  by_cases hlt : i < xs.length
  · refine .inr ⟨⟨xs, xs[i], q, by simp [hlt]⟩, Pv (i + 1), fun σ' H' p' => ⟨xs.length - (i + 1), by omega, rfl, hlt, p'⟩, fun v H' y => ?_⟩
    obtain ⟨T, x, e1, e2, e3, e4⟩ := y
    subst e1 e3
    exact hs i x σ H T (e4 xs q) p e2
  · have e : i = xs.length := by omega
    subst e
    exact .inl ⟨⟨xs, q, Nat.le_refl _⟩, hd σ H p⟩
-- WwModel
/-! ### the rooms, plainly -/
structure Ln where
  b : Nat
  ns : List Int
  d : Bool
/-- a room's rule: ways, write back, take in, leave late; its title -/
structure Ru where
  ways : Nat
  bk : Bool
  inn : Bool
  lt : Bool
  tl : List V
structure Rm where
  ru : Ru
  ss : List (List Ln)
structure Ent where
  tl : List V
  w : Str
  n : Nat
/-- what stands behind: rooms, the far room's cells, the log -/
structure Ta where
  rs : List Rm
  far : List Int
  log : List Ent
def Ent.vs (e : Ent) : List V := e.tl ++ [.str e.w, .int e.n]
def Rm.ix (r : Rm) (b : Nat) : Nat := b % r.ss.length
def Rm.ls (r : Rm) (b : Nat) : List Ln := r.ss.getD (r.ix b) []
def Rm.put (r : Rm) (b : Nat) (ls : List Ln) : Rm := { r with ss := r.ss.set (r.ix b) ls }
def fnd (b : Nat) : List Ln → Option Nat
  | [] => none
  | l :: r => if l.b = b then some 0 else (fnd b r).map (· + 1)
def Ta.note (t : Ta) (tl : List V) (w : Str) (n : Nat) : Ta := { t with log := t.log ++ [⟨tl, w, n⟩] }
def Ta.cons (r : Rm) (t : Ta) : Ta := { t with rs := r :: t.rs }
def setBlk (far : List Int) (b : Nat) (ns : List Int) : List Int := far.take (b * 4) ++ ns ++ far.drop (b * 4 + 4)
def getBlk (far : List Int) (b : Nat) : List Int := (far.drop (b * 4)).take 4
/-- what may be asked of what stands behind -/
structure Ops where
  hm : Ta → Nat → List Int → Ta
  br : Ta → Nat → List Int × Ta
  ch : Ta → Nat → Int → Ta
def farOps : Ops where
  hm := fun t b ns => { t with far := setBlk t.far b ns }
  br := fun t b => (getBlk t.far b, t)
  ch := fun t p v => { t with far := t.far.set p v }
def passH (o : Ops) (tl : List V) (t : Ta) (b : Nat) (ns : List Int) : Ta := o.hm (t.note tl "home" b) b ns
def passC (o : Ops) (tl : List V) (t : Ta) (p : Nat) (v : Int) : Ta := o.ch (t.note tl "cell" p) p v
/-- one set's lines, by what is done of them -/
def mkWay (o : Ops) (u : Ru) (ls : List Ln) (t : Ta) : List Ln × Ta :=
  if ls.length = u.ways then
    match ls with
    | [] => ([], t)
    | l :: rest => (rest, if l.d = true then passH o u.tl t l.b l.ns else t)
  else (ls, t)
def touchL {α : Type} (lt : Bool) (ls : List α) (i : Nat) : List α := if lt = true then ls.eraseIdx i ++ (ls[i]?).toList else ls
def touchI {α : Type} (lt : Bool) (ls : List α) (i : Nat) : Nat := if lt = true then ls.length - 1 else i
/-- reach: the lines, what is behind, the line's place -/
def reachL (o : Ops) (u : Ru) (ls : List Ln) (t : Ta) (b : Nat) : List Ln × Ta × Nat :=
  match fnd b ls with
  | some i => (touchL u.lt ls i, t, touchI u.lt ls i)
  | none => ((mkWay o u ls t).1 ++ [⟨b, (o.br ((mkWay o u ls t).2.note u.tl "bring" b) b).1, false⟩], (o.br ((mkWay o u ls t).2.note u.tl "bring" b) b).2, (mkWay o u ls t).1.length)
def lnAt (ls : List Ln) (i : Nat) : Ln := ls.getD i ⟨0, [], false⟩
def bringL (o : Ops) (u : Ru) (ls : List Ln) (t : Ta) (b : Nat) : List Int × List Ln × Ta :=
  ((lnAt (reachL o u ls t b).1 (reachL o u ls t b).2.2).ns, (reachL o u ls t b).1, (reachL o u ls t b).2.1)
def lookL (o : Ops) (u : Ru) (ls : List Ln) (t : Ta) (p : Nat) : Int × List Ln × Ta :=
  ((lnAt (reachL o u ls t (p / 4)).1 (reachL o u ls t (p / 4)).2.2).ns.getD (p % 4) 0, (reachL o u ls t (p / 4)).1, (reachL o u ls t (p / 4)).2.1)
def setCell (bk : Bool) (l : Ln) (p : Nat) (v : Int) : Ln := { l with ns := l.ns.set (p % 4) v, d := bk || l.d }
def changeL (o : Ops) (u : Ru) (ls : List Ln) (t : Ta) (p : Nat) (v : Int) : List Ln × Ta :=
  if u.inn = false ∧ fnd (p / 4) ls = none then (ls, passC o u.tl t p v)
  else
    ((reachL o u ls t (p / 4)).1.set (reachL o u ls t (p / 4)).2.2 (setCell u.bk (lnAt (reachL o u ls t (p / 4)).1 (reachL o u ls t (p / 4)).2.2) p v),
      if u.bk = true then (reachL o u ls t (p / 4)).2.1 else passC o u.tl (reachL o u ls t (p / 4)).2.1 p v)
def homeL (o : Ops) (u : Ru) (ls : List Ln) (t : Ta) (b : Nat) (ns : List Int) : List Ln × Ta :=
  match fnd b ls with
  | none =>
    if u.inn = true then ((mkWay o u ls t).1 ++ [⟨b, ns, u.bk⟩], if u.bk = true then (mkWay o u ls t).2 else passH o u.tl (mkWay o u ls t).2 b ns)
    else (ls, passH o u.tl t b ns)
  | some i => ((touchL u.lt ls i).set (touchI u.lt ls i) ⟨b, ns, u.bk⟩, if u.bk = true then t else passH o u.tl t b ns)
def yieldL (o : Ops) (u : Ru) (ls : List Ln) (t : Ta) (b : Nat) (gone : Bool) : List Ln × Ta :=
  match fnd b ls with
  | none => (ls, t)
  | some i => (if gone = true then ls.eraseIdx i else ls.set i { lnAt ls i with d := false }, if (lnAt ls i).d = true then passH o u.tl t b (lnAt ls i).ns else t)
def settleL (o : Ops) (u : Ru) : List Ln → Ta → List Ln × Ta
  | [], t => ([], t)
  | l :: r, t => ({ l with d := false } :: (settleL o u r (if l.d = true then passH o u.tl t l.b l.ns else t)).1, (settleL o u r (if l.d = true then passH o u.tl t l.b l.ns else t)).2)
def settleS (o : Ops) (u : Ru) : List (List Ln) → Ta → List (List Ln) × Ta
  | [], t => ([], t)
  | ls :: r, t => ((settleL o u ls t).1 :: (settleS o u r (settleL o u ls t).2).1, (settleS o u r (settleL o u ls t).2).2)
def ops : Nat → Ops
  | 0 => farOps
  | n + 1 => {
      hm := fun t b ns => match t.rs with
        | [] => t
        | r :: rs => Ta.cons (r.put b (homeL (ops n) r.ru (r.ls b) { t with rs := rs } b ns).1) (homeL (ops n) r.ru (r.ls b) { t with rs := rs } b ns).2
      br := fun t b => match t.rs with
        | [] => ([], t)
        | r :: rs => ((bringL (ops n) r.ru (r.ls b) { t with rs := rs } b).1, Ta.cons (r.put b (bringL (ops n) r.ru (r.ls b) { t with rs := rs } b).2.1) (bringL (ops n) r.ru (r.ls b) { t with rs := rs } b).2.2)
      ch := fun t p v => match t.rs with
        | [] => t
        | r :: rs => Ta.cons (r.put (p / 4) (changeL (ops n) r.ru (r.ls (p / 4)) { t with rs := rs } p v).1) (changeL (ops n) r.ru (r.ls (p / 4)) { t with rs := rs } p v).2 }

/-! ### what holds of them -/
structure LnOk (l : Ln) : Prop where
  b : l.b < 16
  ns : l.ns.length = 4
structure LsOk (u : Ru) (ls : List Ln) : Prop where
  len : ls.length ≤ u.ways
  ok : ∀ l ∈ ls, LnOk l
structure RuOk (u : Ru) : Prop where
  w0 : 0 < u.ways
  w4 : u.ways ≤ 4
  t4 : u.tl.length ≤ 4
structure RmOk (r : Rm) : Prop where
  s0 : 0 < r.ss.length
  s4 : r.ss.length ≤ 4
  ru : RuOk r.ru
  ln : ∀ ls ∈ r.ss, LsOk r.ru ls
structure TaOk (n : Nat) (t : Ta) : Prop where
  len : t.rs.length = n
  rs : ∀ r ∈ t.rs, RmOk r
  far : t.far.length = 64

/-! ### the same with addresses -/
structure LnA where
  a : Addr
  dx : Addr
  na : Addr
  l : Ln
/-- what stands behind: rooms one before the other, the far one last -/
inductive Pa where
  | far (la : Addr)
  | room (a : Addr) (be : Pa)
def Pa.ad : Pa → Addr
  | .far la => la
  | .room a _ => a
/-- a room's head: its object, its dict, the list of its sets, its title; its rule, what is behind, the diary, the sets -/
structure Hd where
  a : Addr
  dx : Addr
  sl : Addr
  ti : Addr
  u : Ru
  be : Pa
  di : Addr
  sas : List Addr
def fLine (b n d : V) : List (Str × V) := [("block", b), ("numbers", n), ("is_dirty", d)]
def fRoom (w bk inn lt be ti di ss : V) : List (Str × V) := [("ways", w), ("is_back", bk), ("is_in", inn), ("is_late", lt), ("behind", be), ("title", ti), ("diary", di), ("sets", ss)]
def fFar (h : V) : List (Str × V) := [("held", h)]
def fHall (d l s o : V) : List (Str × V) := [("diary", d), ("last", l), ("shared", s), ("own", o)]
def lnC (CL : Addr) (l : LnA) : List Cell := [(l.a, .ins CL l.dx (fLine (.int l.l.b) (.ref l.na) (.bl l.l.d))), (l.na, .lst (l.l.ns.map V.int))]
def lnsC (CL : Addr) : List LnA → List Cell
  | [] => []
  | l :: r => lnC CL l ++ lnsC CL r
def stC (CL : Addr) (s : Addr × List LnA) : List Cell := (s.1, .lst (s.2.map fun l => V.ref l.a)) :: lnsC CL s.2
def stsC (CL : Addr) : List (Addr × List LnA) → List Cell
  | [] => []
  | s :: r => stC CL s ++ stsC CL r
def hdO (CR : Addr) (h : Hd) : HO := .ins CR h.dx (fRoom (.int h.u.ways) (.bl h.u.bk) (.bl h.u.inn) (.bl h.u.lt) (.ref h.be.ad) (.ref h.ti) (.ref h.di) (.ref h.sl))
def hdC (CR : Addr) (h : Hd) : List Cell := [(h.a, hdO CR h), (h.sl, .lst (h.sas.map V.ref)), (h.ti, .tup h.u.tl)]
/-- a room at a, with be behind and the diary di -/
def RmRep (CL CR di a : Addr) (be : Pa) (r : Rm) (C : List Cell) : Prop := ∃ (h : Hd) (ss : List (Addr × List LnA)), h.a = a ∧ h.be = be ∧ h.di = di ∧ h.u = r.ru ∧ h.sas = ss.map (·.1) ∧ r.ss = ss.map (fun s => s.2.map (·.l)) ∧ C = hdC CR h ++ stsC CL ss
/-- what stands behind -/
def Rep (CF CL CR di : Addr) : Pa → List Rm → List Int → List Cell → Prop
  | .far la, [], far, C => ∃ dx fl, C = [(la, .ins CF dx (fFar (.ref fl))), (fl, .lst (far.map V.int))]
  | .room a be, r :: rs, far, C => ∃ C1 C2 : List Cell, RmRep CL CR di a be r C1 ∧ Rep CF CL CR di be rs far C2 ∧ C = C1 ++ C2
  | _, _, _, _ => False
def logC : List Addr → List Ent → List Cell
  | a :: as, e :: es => (a, .tup e.vs) :: logC as es
  | _, _ => []
def DRep (di : Addr) (log : List Ent) (C : List Cell) : Prop := ∃ as : List Addr, as.length = log.length ∧ C = (di, .lst (as.map V.ref)) :: logC as log
-- WwXc
/-! ### own classes of exceptions: what is checked of the written part -/
/-- the class's object is as the making of its instances wants it -/
def oexB (K : PySem.W.Frag) (C : Addr) : Bool := match K.lookup C with
  | some ⟨.type "type", _, .cls cd, sl⟩ => (match cd.mro, sl.toList with
    | .ref D :: bm, [_, _, _, _, some (.builtin n), _] => D == C && (n == "ValueError.__new__" && (!cd.hasDel && (cd.hasDict && PySem.HandSPX.refsVE bm)))
    | _, _ => false)
  | _ => false
theorem oexB_ok {K : PySem.W.Frag} {C : Addr} (q : oexB K C = true) : ∃ nm qn N bs bm sn sub ab col dd k0 k1 k2 k3 k5, K.lookup C = some (excClassObj nm qn C N bs bm true sn sub ab col dd k0 k1 k2 k3 k5 "ValueError.__new__") ∧ PySem.HandSPX.refsVE bm = true := by
  unfold oexB at q
  split at q
  · rename_i dct cd sl hk
    split at q
    · rename_i D bm y0 y1 y2 y3 n y5 em es
      obtain ⟨q1, q⟩ := Bool.and_eq_true_iff.mp q
      obtain ⟨q2, q⟩ := Bool.and_eq_true_iff.mp q
      obtain ⟨q3, q⟩ := Bool.and_eq_true_iff.mp q
      obtain ⟨q4, q5⟩ := Bool.and_eq_true_iff.mp q
      obtain ⟨c1, c2, c3, c4, c5, c6, c7, c8, c9, c10, c11⟩ := cd
      have e3 : c11 = false := by
        have : (!c11) = true := q3
        cases c11
        · rfl
        · cases this
      have e4 : c6 = true := q4
      have em : c3 = .ref D :: bm := em
      have eD : D = C := eq_of_beq q1
      have en : n = "ValueError.__new__" := eq_of_beq q2
      have hsl : sl = #[y0, y1, y2, y3, some (.builtin n), y5] := by
        obtain ⟨sl⟩ := sl
        have es : sl = _ := es
        rw [es]
      subst e3 e4 em eD en hsl
      exact ⟨c1, c5, c4, c2, bm, c7, c8, c9, c10, dct, y0, y1, y2, y3, y5, hk, q5⟩
    · cases q
  · cases q
/-- all that is asked of a class of exceptions -/
structure XcC (K : PySem.W.Frag) (C : Addr) : Prop where
  cl : (PySem.W.clsIn K C).isSome = true
  ga : PySem.W.findIn K (.ref C) "__getattribute__" = some (some (.builtin "BaseException.__getattribute__"))
  gg : PySem.W.findIn K (.ref C) "__getattr__" = some none
  sb : PySem.W.subIn K (.ref C) (.type "BaseException") = some true
  hd : PySem.W.hasDictIn K C = true
  hc : PySem.W.findIn K (.ref C) "__class__" = some (some (.builtin "object.__class__"))
  sg : PySem.W.specialIn K (.builtin "object.__class__") "__get__" = some (some (.builtin "getset_descriptor.__get__"))
  tk : PySem.W.takesIn K (.builtin "object.__class__") = some true
  mo : PySem.W.mroIn K C (.type "object") = some true
  sa : PySem.W.findIn K (.ref C) "__setattr__" = some (some (.builtin "object.__setattr__"))
  ty : PySem.W.typeIn K (.ref C) = some (.type "type")
  kp : PySem.W.keepIn K (.ref C) = true
def xcB (K : PySem.W.Frag) (C : Addr) : Bool :=
  (PySem.W.clsIn K C).isSome && (He.eqO (PySem.W.findIn K (.ref C) "__getattribute__") (some (some (.builtin "BaseException.__getattribute__"))) && (He.eqO (PySem.W.findIn K (.ref C) "__getattr__") (some none) && (decide (PySem.W.subIn K (.ref C) (.type "BaseException") = some true) &&
  (PySem.W.hasDictIn K C && (He.eqO (PySem.W.findIn K (.ref C) "__class__") (some (some (.builtin "object.__class__"))) && (He.eqO (PySem.W.specialIn K (.builtin "object.__class__") "__get__") (some (some (.builtin "getset_descriptor.__get__"))) &&
  (decide (PySem.W.takesIn K (.builtin "object.__class__") = some true) && (decide (PySem.W.mroIn K C (.type "object") = some true) && (He.eqO (PySem.W.findIn K (.ref C) "__setattr__") (some (some (.builtin "object.__setattr__"))) && (decide (PySem.W.typeIn K (.ref C) = some (.type "type")) && PySem.W.keepIn K (.ref C)))))))))))
theorem xcB_ok {K : PySem.W.Frag} {C : Addr} (q : xcB K C = true) : XcC K C := by
  obtain ⟨q1, q⟩ := He.ba q
  obtain ⟨q2, q⟩ := He.ba q
  obtain ⟨q3, q⟩ := He.ba q
  obtain ⟨q4, q⟩ := He.ba q
  obtain ⟨q5, q⟩ := He.ba q
  obtain ⟨q6, q⟩ := He.ba q
  obtain ⟨q7, q⟩ := He.ba q
  obtain ⟨q8, q⟩ := He.ba q
  obtain ⟨q9, q⟩ := He.ba q
  obtain ⟨q10, q⟩ := He.ba q
  obtain ⟨q11, q12⟩ := He.ba q
  exact ⟨q1, He.eqO_ok q2, He.eqO_ok q3, of_decide_eq_true q4, q5, He.eqO_ok q6, He.eqO_ok q7, of_decide_eq_true q8, of_decide_eq_true q9, He.eqO_ok q10, of_decide_eq_true q11, q12⟩
theorem XcC.oex {K : PySem.W.Frag} {C : Addr} (x : XcC K C) (o : oexB K C = true) : OexC K C := ⟨oexB_ok o, x.sa, x.sb, x.ty, x.kp⟩
theorem XcC.xf {K : PySem.W.Frag} {C : Addr} (x : XcC K C) : XfC K C := ⟨x.ga, x.gg, x.sb, x.hd⟩
/-! ### isinstance(e, c) in the suite, whatever the exception's dict -/
def rIsX (K : PySem.W.Frag) (a : Addr) (cls : Value) (d : Option Addr) : List V → Hp → VK → Prop := fun xs H Q =>
  ∃ (D : Addr) (c : V) (cv : Value) (b : Bool), cls = .ref D ∧ XcC K D ∧ (∀ dd, d = some dd → ∃ fs, H dd = some (.xd fs)) ∧ xs = [.ref a, c] ∧ (∀ u, RelV c u → u = cv) ∧ PySem.W.kitOne K (.ref D) cv = some b ∧ Q (.bl b) H
theorem call_isX {X : Cx} {a : Addr} {oe : Obj} {cls : Value} {d : Option Addr} {pn : List (Addr × Obj)} (hz : Zc cls d oe) (hf : ∃ vs, oe.data = .fields vs) : CallR (X.suite a ((a, oe) :: pn)) (.builtin "isinstance") (rIsX X.K a cls d) := by
  intro pins s σ H xs us Q I r h
  obtain ⟨D, c, cv, b, rfl, C, hd, rfl, hcv, e, q⟩ := h
  cases r with
  | cons rx rr =>
    cases rr with
    | cons rt rr =>
      cases rr
      cases rx
      have ec := hcv _ rt
      subst ec
      obtain ⟨hget, _⟩ := I.pin (a, oe) (List.mem_append_left _ List.mem_cons_self)
      obtain ⟨vs, hv⟩ := hf
      obtain ⟨z1, z2⟩ := hz
      obtain ⟨od, J⟩ : ∃ od, PySem.W.InstAt s.heap a oe D od := by
        cases d with
        | none =>
          refine ⟨none, hget, z1, by unfold PySem.W.notCls; rw [hv] <;> rfl, ?_⟩
          rw [z2]
          trivial
        | some dd =>
          obtain ⟨fs, hfs⟩ := hd dd rfl
          have hx : ObjOk X.prog X.w H s.heap dd (.xd fs) := I.hok dd _ hfs
          obtain ⟨mA, ⟨o, _, _, ho, _⟩, _⟩ := hx
          refine ⟨some o, hget, z1, by unfold PySem.W.notCls; rw [hv] <;> rfl, ?_⟩
          rw [z2]
          exact ho
      exact PySem.W.kia_one (PySem.W.kitx_exc C.cl C.ga C.gg C.sb C.hc C.sg C.tk C.mo) I.kIn J e (fun z => nomatch z) fun tk => ⟨.bl b, H, I.kept (t' := tk) fun _ _ z => z, rfl, q⟩
/-! ### e.f in the suite -/
def tXg (K : PySem.W.Frag) (a : Addr) (cls : Value) (d : Option Addr) (f : Str) (te : TE) : TE := fun σ H Q => te σ H fun x H1 => x = .ref a ∧ ∃ (C dd : Addr) (fs : List (Str × V)) (v : V), cls = .ref C ∧ XcC K C ∧ PySem.W.findIn K (.ref C) f = some none ∧ d = some dd ∧ H1 dd = some (.xd fs) ∧ fs.lookup f = some v ∧ Q v H1
theorem pe_xg {X : Cx} {a : Addr} {oe : Obj} {cls : Value} {d : Option Addr} {pn : List (Addr × Obj)} {e : Expr} {te : TE} {pos : Pos} {n : Str} (hz : Zc cls d oe) (hf : ∃ vs, oe.data = .fields vs) (he : PE (X.suite a ((a, oe) :: pn)) e te)
    (hb : attributeBase e n X.env (eval e X.env) = eval e X.env := by rfl) : PE (X.suite a ((a, oe) :: pn)) (.Attribute e n pos) (tXg X.K a cls d n te) := by
  refine ⟨fun pins s σ H Q I h => ?_⟩
  have base := (he.run pins s σ H _ I h)
  refine attr_of hb (thn base fun u s1 hh => ?_)
  obtain ⟨x, H1, I1, rx, ex, C, dd, fs, v, rfl, T, hno, rfl, ea, l, q⟩ := hh
  subst ex
  obtain rfl : u = Value.ref a := rx
  obtain ⟨ha, _⟩ := I1.pin (a, oe) (List.mem_append_left _ List.mem_cons_self)
  obtain ⟨vs, hdt⟩ := hf
  have hx : ObjOk X.prog X.w H1 s1.heap dd (.xd fs) := I1.hok dd _ ea
  obtain ⟨mA, hns, hr⟩ := hx
  obtain ⟨od, ho, hl⟩ := lookIn_ns hns
  obtain ⟨u, hu, ru⟩ := RelO.some_of (v := v) (o := mA n) (by rw [← l]; exact hr n)
  have nc : PySem.W.notCls oe = true := by unfold PySem.W.notCls; rw [hdt] <;> rfl
  have J : PySem.W.InstAt s1.heap a oe C (some od) := ⟨ha, hz.1, nc, by rw [hz.2]; exact ho⟩
  refine HandSPX.exc_get I1.kIn J T.ga T.gg T.sb (PySem.W.findObj_own T.hd hno rfl (by rw [hl, hu])) (handed_of ru) ⟨v, H1, I1.tok _, ru, q⟩
/-! ### W.__init__(self, ..), W an own class over ValueError without an own __init__ -/
theorem pe_weinit {X : Cx} {e : Expr} {es : List Expr} {ta : TA} {x : Str} {p1 p2 pos : Pos} {pl : Sem Bool} {W : Addr} (gx : Gl X x) (mx : X.mg x = some (.ref W))
    (sg : PySem.W.specialIn X.K (.ref W) "__getattribute__" = some (some (.builtin "type.__getattribute__"))) (rd : PySem.W.readsIn X.K W (.type "type") = true)
    (fc : PySem.W.findCls X.K (.ref W) (.type "type") "__init__" = some (.val (.builtin "ValueError.__init__"))) (pa : PA X (e :: es) ta)
    (ec : eval (.Call (.Attribute (.Name x p1) "__init__" p2) (e :: es) [] pos) X.env = (do
      let ov ← eval (.Name x p1) X.env
      standAt p2.atName
      let (fu, fi) ← holding [ov] (getMethod ov "__init__" pl)
      callWith pos fu fi (backTo pos (starEach (e :: es) X.env)) (backToKw pos (keywordEach [] X.env))) := by rfl)
    (hdb : (x == ("__debug__" : Str)) = false := by decide) (h1 : starEach (e :: es) X.env = (false, eval e X.env) :: starEach es X.env := by rfl) (h2 : (backTo pos (starEach es X.env)).any (·.1) = false := by rfl) :
    PE X (.Call (.Attribute (.Name x p1) "__init__" p2) (e :: es) [] pos) (tVeI X.K ta) := by
  refine ⟨fun pins s σ H Q I h => ?_⟩
  refine PySem.W.methodCall_KW (ld_glob I gx mx ?_ hdb) ec
  refine PySem.W.method_cls I.kIn sg (PySem.W.cls_value I.kIn rd fc (by decide +kernel) ?_)
  refine PyProof.Rows.callWith_method1 (thn (pa.run pos pins _ σ H _ (I.tok _) h) fun us s1 hh => ?_) h1 h2
  obtain ⟨vs, H1, I1, r1, a, C, ws, ev, hl, T, ea, q⟩ := hh
  subst ev
  cases r1 with
  | @cons _ u0 _ ur ra rw' =>
    obtain rfl : u0 = Value.ref a := ra
    refine oinit_ok T I1 ea (by rw [← Paired.length rw', sizeLine_eq]; omega) fun s' J => ⟨.non, H1, J, rfl, q⟩
/-! ### raise C(n) of a class whose __init__ keeps one field -/
/-- what __init__ of such a class does -/
def spExI (K : PySem.W.Frag) (C : Addr) (f : Str) : Sp := fun vs H Q _ => ∃ (a : Addr) (n : Int), vs = [.ref a, .int n] ∧ n.natAbs < 2 ^ 60 ∧ H a = some (exo a C none) ∧
  ∀ dx, H dx = none → dx ≠ a → Q .non (upd (upd H dx (exd dx [(f, .int n)])) a (exo a C (some dx)))
theorem rz_go {C : Addr} {f : Str} {K : PySem.W.Frag} {H1 : Hp} {Q : XK} {n : Int} (hn : n.natAbs < 2 ^ 60) (k : ∀ d, H1 d = none → Q (.ref C) (some d) (upd H1 d (.xd [(f, .int n)]))) :
    ([V.int n] : List V).length ≤ 1000 ∧ ∀ a, H1 a = none → spExI K C f (.ref a :: ([V.int n] ++ [])) (upd H1 a (exo a C none))
      (fun v H2 => v = .non ∧ ∃ (d : Addr) (fs : List (Str × V)), H2 a = some (exo a C (some d)) ∧ H2 d = some (exd d fs) ∧ H1 d = none ∧ Q (.ref C) (some d) (upd (del H2 a) d (.xd fs))) (fun _ _ _ => False) := by
  refine ⟨by show 1 ≤ 1000; decide, fun a ha => ⟨a, n, rfl, hn, upd_same, fun dx hdx hne => ?_⟩⟩
  have hd1 : H1 dx = none := by
    rw [upd_ne hne] at hdx
    exact hdx
  refine ⟨rfl, dx, [(f, .int n)], upd_same, by rw [upd_ne hne, upd_same], hd1, ?_⟩
  have e : upd (del (upd (upd (upd H1 a (exo a C none)) dx (exd dx [(f, V.int n)])) a (exo a C (some dx))) a) dx (HO.xd [(f, V.int n)]) = upd H1 dx (.xd [(f, .int n)]) := by
    funext b
    by_cases hb : b = dx
    · rw [hb, upd_same, upd_same]
    · rw [upd_ne hb, upd_ne hb]
      by_cases ha2 : b = a
      · rw [ha2, del_same, ha]
      · rw [del_ne ha2, upd_ne ha2, upd_ne hb, upd_ne ha2]
  rw [e]
  exact k dx hd1
theorem log60 {n : Int} (h : n.natAbs < 2 ^ 60) : n.natAbs.log2 < 1920 := by
  by_cases z : n.natAbs = 0
  · rw [z]
    decide
  · exact Nat.lt_trans ((Nat.log2_lt z).mpr h) (by decide)
theorem int_fits60 {n : Int} (h : n.natAbs < 2 ^ 60) {x : Str} (hx : x.length ≤ 100) : (x ++ Str.ofString (toString n)).length ≤ sizeLine := by
  have e := int_text_length_le (a := n) (k := 1920) (by decide) (log60 h)
  rw [Str.length_append, PySem.ofString_length, sizeLine_eq]
  omega
theorem isFn_ty {K : PySem.W.Frag} {v : Value} (h : PySem.W.isFn K v = true) : PySem.W.typeIn K v = some (.type "function") := eq_of_beq h
/-- the slots are as many as the names -/
theorem takesLen {X : Cx} {W : WX} (t : Takes X W) : Takes X (fun cls d σ H => σ.length = X.N.length → W cls d σ H) := fun u s' ⟨a, B, sI, pins, σ, H, cls, d, e, I, nb, up, sky, na, os, ag, w⟩ =>
  t u s' ⟨a, B, sI, pins, σ, H, cls, d, e, I, nb, up, sky, na, os, ag, w I.len⟩
/-! ### the program's classes of exceptions, by their names -/
structure ExcT (K : PySem.W.Frag) (cs : List Str) : Prop where
  xc : ∀ c ∈ cs, XcC K (He.ga K c)
  ex : ∀ c ∈ cs, PySem.W.exmOne K (.ref (He.ga K c)) (.ref (He.ga K "WayError")) = some true
  kit : ∀ c ∈ cs, ∀ d ∈ cs, PySem.W.kitOne K (.ref (He.ga K c)) (.ref (He.ga K d)) = some (decide (c = d))
  kv : ∀ c ∈ cs, PySem.W.kitOne K (.ref (He.ga K c)) (.type "ValueError") = some true
  sg : PySem.W.specialIn K (.ref (He.ga K "WayError")) "__getattribute__" = some (some (.builtin "type.__getattribute__"))
  rd : PySem.W.readsIn K (He.ga K "WayError") (.type "type") = true
  fc : PySem.W.findCls K (.ref (He.ga K "WayError")) (.type "type") "__init__" = some (.val (.builtin "ValueError.__init__"))
def isVal (r : Option PySem.W.CFound) (v : Value) : Bool := match r with
  | some (.val u) => decide (u = v)
  | _ => false
theorem isVal_ok {r : Option PySem.W.CFound} {v : Value} (h : isVal r v = true) : r = some (.val v) := by
  unfold isVal at h
  split at h
  · rw [of_decide_eq_true h]
  · cases h
def excTB (K : PySem.W.Frag) (cs : List Str) : Bool :=
  (cs.all fun c => xcB K (He.ga K c) && (decide (PySem.W.exmOne K (.ref (He.ga K c)) (.ref (He.ga K "WayError")) = some true) && (decide (PySem.W.kitOne K (.ref (He.ga K c)) (.type "ValueError") = some true) && cs.all fun d => decide (PySem.W.kitOne K (.ref (He.ga K c)) (.ref (He.ga K d)) = some (decide (c = d)))))) &&
  (He.eqO (PySem.W.specialIn K (.ref (He.ga K "WayError")) "__getattribute__") (some (some (.builtin "type.__getattribute__"))) && (PySem.W.readsIn K (He.ga K "WayError") (.type "type") && isVal (PySem.W.findCls K (.ref (He.ga K "WayError")) (.type "type") "__init__") (.builtin "ValueError.__init__")))
theorem excTB_ok {K : PySem.W.Frag} {cs : List Str} (h : excTB K cs = true) : ExcT K cs := by
  obtain ⟨h1, h⟩ := He.ba h
  obtain ⟨h2, h⟩ := He.ba h
  obtain ⟨h3, h4⟩ := He.ba h
  have at_ := List.all_eq_true.mp h1
  refine ⟨fun c hc => ?_, fun c hc => ?_, fun c hc d hd => ?_, fun c hc => ?_, He.eqO_ok h2, h3, isVal_ok h4⟩
  · exact xcB_ok (He.ba (at_ c hc)).1
  · exact of_decide_eq_true (He.ba (He.ba (at_ c hc)).2).1
  · exact of_decide_eq_true (List.all_eq_true.mp (He.ba (He.ba (He.ba (at_ c hc)).2).2).2 d hd)
  · exact of_decide_eq_true (He.ba (He.ba (He.ba (at_ c hc)).2).2).1
def bads : List Str := ["BadRule", "BadHands", "BadHand", "BadPlace", "BadNumber", "BadDeed", "BadRoom", "BadWays", "BadLeavings", "BadText"]
/-! ### the head's facts, the interpreter's statics among them -/
def asY (g : Addr → Option Obj) (n : Nat) : List Addr := He.asD g n ++ [cStatics]
def obsY (n : Nat) (fa : List He.Fa) (fn : List He.DefD) (tf : List He.Defn) (ex : PySem.W.Frag → Bool) (g : Addr → Option Obj) : He.AlX := (He.obsT fa fn [] (He.frT g (asY g n)), ex (He.frT g (asY g n)) && He.tabsB g tf (He.frT g (asY g n)))
theorem saysY_of {n : Nat} {fa : List He.Fa} {fn : List He.DefD} {tf : List He.Defn} {ex : PySem.W.Frag → Bool} {w : World} {h : Heap} (e : obsY n fa fn tf ex h.get? = He.valX fn [] w) : He.SaysX fa fn [] tf ex w h (He.frT h.get? (asY h.get? n)) := by
  have out : ∀ {a : Addr} {o : Obj}, h.get? a = some o → He.emptyTab o = true → (He.frT h.get? (asY h.get? n)).lookup a = none := fun q z => He.frT_none q z
  have e1 := congrArg Prod.fst e
  have e2 := congrArg Prod.snd e
  dsimp only [obsY] at e1 e2
  generalize He.frT h.get? (asY h.get? n) = K at e1 e2 out ⊢
  obtain ⟨a1, a2⟩ := He.ba (show (ex K && He.tabsB h.get? tf K) = true from e2)
  have key : ∀ p ∈ tf, PySem.W.codeHdIn K (He.cT K p).1 (He.cT K p).2 = true ∧ ∃ o, h.get? (He.cT K p).2 = some o ∧ He.emptyTab o = true := fun p hp => by
    obtain ⟨b1, b2⟩ := He.ba (List.all_eq_true.mp a2 p hp)
    refine ⟨b1, ?_⟩
    split at b2
    · rename_i o q
      exact ⟨o, q, b2⟩
    · cases b2
  refine ⟨e1, a1, fun p hp => (key p hp).1, fun p hp => ?_, fun p hp => ?_⟩
  · obtain ⟨_, o, q, z⟩ := key p hp
    exact out q z
  · obtain ⟨_, o, q, z⟩ := key p hp
    rw [q, He.emptyTab_eq z]
def hookY (n : Nat) (fa : List He.Fa) (fn : List He.DefD) (tf : List He.Defn) (ex : PySem.W.Frag → Bool) : PySem.W.Hook where
  α := He.AlX
  obs s := obsY n fa fn tf ex s.heap.get?
  val w := He.valX fn [] w
  says w h := ∃ K : PySem.W.Frag, K.In h ∧ He.SaysX fa fn [] tf ex w h K
  of _ _ e := ⟨_, He.frT_in, saysY_of e⟩
  keeps _ _ _ z k := by
    obtain ⟨K, hK, c⟩ := z
    exact ⟨K, hK.keeps k, c.t, c.more, c.hd, c.out, fun p hp => k _ _ (c.empty p hp)⟩
theorem obsY_eq {n : Nat} {fa : List He.Fa} {fn : List He.DefD} {tf : List He.Defn} {ex : PySem.W.Frag → Bool} {g : Addr → Option Obj} {s : Shared} (h : ∀ a, g a = s.heap.get? a) : obsY n fa fn tf ex g = (hookY n fa fn tf ex).obs s := by
  have e : g = s.heap.get? := funext h
  subst e
  rfl
/-! ### tables of code objects, as cells -/
def isTb : HO → Bool
  | .tbl _ => true
  | .ext _ => true
  | _ => false
/-- cells that are no tables and no code objects -/
def NT (L : List Cell) : Prop := ∀ c ∈ L, isTb c.2 = false
theorem NT.nil : NT [] := fun c hc => by cases hc
theorem NT.cons {c : Cell} {L : List Cell} (h : isTb c.2 = false) (k : NT L) : NT (c :: L) := fun d hd => by
  rcases List.mem_cons.mp hd with e | e
  · rw [e]
    exact h
  · exact k d e
theorem NT.app {L M : List Cell} (h : NT L) (k : NT M) : NT (L ++ M) := fun d hd => (List.mem_append.mp hd).elim (h d) (k d)
theorem NT.left {L M : List Cell} (h : NT (L ++ M)) : NT L := fun d hd => h d (List.mem_append_left _ hd)
theorem NT.right {L M : List Cell} (h : NT (L ++ M)) : NT M := fun d hd => h d (List.mem_append_right _ hd)
/-- of any cells those that are none -/
def nt (L : List Cell) : List Cell := L.filter fun c => !isTb c.2
theorem nt_mem {L : List Cell} {c : Cell} : c ∈ nt L ↔ c ∈ L ∧ isTb c.2 = false := by
  unfold nt
  rw [List.mem_filter]
  cases isTb c.2 <;> simp
theorem nt_NT (L : List Cell) : NT (nt L) := fun c hc => (nt_mem.mp hc).2
theorem nt_sub (L : List Cell) : (nt L).Sublist L := List.filter_sublist
theorem Own.extN {H H1 : Hp} {L : List Cell} (O : Own H L) (n : NT L) (e : LamX.ExtN H H1) : Own H1 L := ⟨O.1, fun c hc => e c.1 c.2 (O.2 c hc) fun ps z => by
  have := n c hc
  rw [z] at this
  cases this⟩
def TabC (TL : List Cell) (P : Addr) (q : Str) : Prop := ∃ ps : Array Value, (P, HO.tbl ps) ∈ TL ∧ TriplesOk ps.toList ∧ ∀ (pos : Pos) (cv : Value), codeAmong pos ps.toList = some cv → ∃ c, cv = .ref c ∧ (c, LamX.CodeO c q) ∈ TL
theorem TabC.tab {TL : List Cell} {P : Addr} {q : Str} (t : TabC TL P q) {H : Hp} (O : ∀ c ∈ TL, H c.1 = some c.2) : LamX.TabS H P q := by
  obtain ⟨ps, h1, h2, h3⟩ := t
  refine ⟨ps, O _ h1, h2, fun pos cv hc => ?_⟩
  obtain ⟨c, e, hm⟩ := h3 pos cv hc
  exact ⟨c, e, O _ hm⟩
def uniq : List Addr → List Addr
  | [] => []
  | a :: l => if a ∈ l then uniq l else a :: uniq l
theorem uniq_mem {a : Addr} : ∀ {l : List Addr}, a ∈ uniq l ↔ a ∈ l
  | [] => Iff.rfl
  | b :: l => by
    unfold uniq
    split
    · rename_i h
      rw [uniq_mem, List.mem_cons]
      exact ⟨.inr, fun z => z.elim (fun e => e ▸ h) id⟩
    · rw [List.mem_cons, List.mem_cons, uniq_mem]
theorem uniq_nd : ∀ l : List Addr, (uniq l).Nodup
  | [] => List.nodup_nil
  | b :: l => by
    unfold uniq
    split
    · exact uniq_nd l
    · rename_i h
      exact List.nodup_cons.mpr ⟨fun z => h (uniq_mem.mp z), uniq_nd l⟩
theorem among_mem {pos : Pos} {cv : Value} : ∀ {l : List Value}, codeAmong pos l = some cv → cv ∈ l := by
  intro l
  fun_induction codeAmong pos l with
  | case1 =>
    intro h
    obtain rfl := Option.some.inj h
    simp
  | case2 _ _ _ _ _ _ _ ih =>
    intro h
    have := ih h
    simp [this]
  | case3 => exact fun h => nomatch h
def refsIn (vs : List Value) : List Addr := vs.filterMap fun v => match v with
  | .ref c => some c
  | _ => none
theorem tab_cells {H : Hp} {L : List Cell} {P : Addr} {q : Str} (t : LamX.TabS H P q) (O : Own H L) (n : NT L) : ∃ TL, TabC TL P q ∧ Own H (L ++ TL) := by
  classical
  obtain ⟨ps, hP, ht, ha⟩ := t
  obtain ⟨cs, hcs⟩ : ∃ cs, cs = uniq ((refsIn ps.toList).filter fun c => decide (H c = some (LamX.CodeO c q))) := ⟨_, rfl⟩
  have hc : ∀ c ∈ cs, H c = some (LamX.CodeO c q) := fun c h => by
    rw [hcs] at h
    exact of_decide_eq_true (List.mem_filter.mp (uniq_mem.mp h)).2
  have nd : cs.Nodup := by
    rw [hcs]
    exact uniq_nd _
  have isT : ∀ d ∈ ((P, HO.tbl ps) :: cs.map fun c => (c, LamX.CodeO c q)), H d.1 = some d.2 ∧ isTb d.2 = true := fun d hd => by
    rcases List.mem_cons.mp hd with e | e
    · rw [e]
      exact ⟨hP, rfl⟩
    · obtain ⟨c, h, rfl⟩ := List.mem_map.mp e
      exact ⟨hc c h, rfl⟩
  refine ⟨(P, .tbl ps) :: cs.map fun c => (c, LamX.CodeO c q), ⟨ps, List.mem_cons_self, ht, fun pos cv h => ?_⟩, ?_, fun d hd => ?_⟩
  · obtain ⟨c, rfl, h2⟩ := ha pos cv h
    refine ⟨c, rfl, List.mem_cons_of_mem _ (List.mem_map.mpr ⟨c, ?_, rfl⟩)⟩
    rw [hcs]
    exact uniq_mem.mpr (List.mem_filter.mpr ⟨List.mem_filterMap.mpr ⟨.ref c, among_mem h, rfl⟩, decide_eq_true h2⟩)
  · rw [List.map_append]
    refine List.nodup_append.mpr ⟨O.1, ?_, fun a h1 b h2 e => ?_⟩
    · show (P :: (cs.map fun c => (c, LamX.CodeO c q)).map (·.1)).Nodup
      rw [List.map_map]
      have : cs.map ((fun x : Cell => x.1) ∘ fun c => (c, LamX.CodeO c q)) = cs := by
        show cs.map (fun c => c) = cs
        exact List.map_id' cs
      rw [this]
      refine List.nodup_cons.mpr ⟨fun z => ?_, nd⟩
      have := hc P z
      rw [hP] at this
      exact LamX.codeO_ne ps (Option.some.inj this).symm
    · obtain ⟨d, hd, rfl⟩ := List.mem_map.mp h1
      obtain ⟨d2, hd2, rfl⟩ := List.mem_map.mp h2
      have g1 := O.2 d hd
      obtain ⟨g2, g3⟩ := isT d2 hd2
      rw [e, g2] at g1
      have := n d hd
      rw [← Option.some.inj g1, g3] at this
      cases this
  · rcases List.mem_append.mp hd with h | h
    · exact O.2 d h
    · exact (isT d h).1
/-- x(lambda: ..) by cells -/
theorem lam_go {P : Addr} {q : Str} {TT : (XK → Hp → VK → Prop) → Hp → VK → Prop} {t : XK → TE} {σ : L2.St} {H : Hp} {Q : VK} {L TL : List Cell} (O : Own H (L ++ TL)) (n : NT L) (ht : TabC TL P q)
    (k : ∀ (H1 : Hp) (TL' : List Cell), TabC TL' P q → Own H1 (L ++ TL') → TT (fun E H' Q' => t E σ H' Q') H1 Q) : LamX.tLam [(P, q)] TT t σ H Q := by
  refine ⟨fun p hp => ?_, fun H1 e T1 => ?_⟩
  · rw [List.mem_singleton.mp hp]
    exact ht.tab fun c hc => O.2 c (List.mem_append_right _ hc)
  · obtain ⟨TL', h1, h2⟩ := tab_cells (T1 (P, q) List.mem_cons_self) ((O.left).extN n e) n
    exact k H1 TL' h1 h2
-- WwText
def top (i : Nat) : Stmt := PySem.Challenge.pw_writeways_k19_texts_refused.main.body.getD i (.Pass ⟨0, 0, 0, 0⟩)
abbrev s_BadRule___init__ : Stmt := inClass (top 2) 0
abbrev s_BadDeed___init__ : Stmt := inClass (top 7) 0
abbrev s_BadLeavings___init__ : Stmt := inClass (top 10) 0
abbrev s_BadText___init__ : Stmt := inClass (top 11) 0
abbrev s_is_number : Stmt := top 25
abbrev s_is_rule : Stmt := top 26
abbrev s_is_deed : Stmt := top 27
abbrev s_number_of : Stmt := top 32
abbrev s_rule_of : Stmt := top 33
abbrev s_deed_of : Stmt := top 34
abbrev s_read : Stmt := top 35
abbrev s__law_taken : Stmt := top 37
abbrev s__law_alike : Stmt := top 38
abbrev s__law_word : Stmt := top 39
abbrev s__law_rule : Stmt := top 40
abbrev s__law_rules : Stmt := top 41
abbrev s__law_place : Stmt := top 42
abbrev s__law_deeds : Stmt := top 43
abbrev s__law_number : Stmt := top 44
abbrev s__law_line : Stmt := top 45
abbrev s__law_read : Stmt := top 46
abbrev s__law_spoilt : Stmt := top 47
abbrev s_law : Stmt := top 48
theorem sc_BadRule___init__ : FnScope ["self", "number"] ["self", "number"] (defScope s_BadRule___init__) := ⟨rfl, rfl, rfl, by decide +kernel, rfl, by decide +kernel, by decide +kernel⟩
theorem sc_BadDeed___init__ : FnScope ["self", "number"] ["self", "number"] (defScope s_BadDeed___init__) := ⟨rfl, rfl, rfl, by decide +kernel, rfl, by decide +kernel, by decide +kernel⟩
theorem sc_BadLeavings___init__ : FnScope ["self", "number"] ["self", "number"] (defScope s_BadLeavings___init__) := ⟨rfl, rfl, rfl, by decide +kernel, rfl, by decide +kernel, by decide +kernel⟩
theorem sc_BadText___init__ : FnScope ["self", "row"] ["self", "row"] (defScope s_BadText___init__) := ⟨rfl, rfl, rfl, by decide +kernel, rfl, by decide +kernel, by decide +kernel⟩
theorem sc_is_number : FnScope ["part", "low", "high"] ["part", "low", "high"] (defScope s_is_number) := ⟨rfl, rfl, rfl, by decide +kernel, rfl, by decide +kernel, by decide +kernel⟩
theorem sc_is_rule : FnScope ["rule"] ["rule"] (defScope s_is_rule) := ⟨rfl, rfl, rfl, by decide +kernel, rfl, by decide +kernel, by decide +kernel⟩
theorem sc_is_deed : FnScope ["deed", "hands"] ["deed", "hands"] (defScope s_is_deed) := ⟨rfl, rfl, rfl, by decide +kernel, rfl, by decide +kernel, by decide +kernel⟩
theorem sc_number_of : FnScope ["word", "sign"] ["word"] (defScope s_number_of) := ⟨rfl, rfl, rfl, by decide +kernel, rfl, by decide +kernel, by decide +kernel⟩
theorem sc_rule_of : FnScope ["words", "rule", "word"] ["words"] (defScope s_rule_of) := ⟨rfl, rfl, rfl, by decide +kernel, rfl, by decide +kernel, by decide +kernel⟩
theorem sc_deed_of : FnScope ["words", "deed", "word"] ["words"] (defScope s_deed_of) := ⟨rfl, rfl, rfl, by decide +kernel, rfl, by decide +kernel, by decide +kernel⟩
theorem sc_read : FnScope ["text", "rules", "deeds", "row", "line", "words", "rule", "deed"] ["text"] (defScope s_read) := ⟨rfl, rfl, rfl, by decide +kernel, rfl, by decide +kernel, by decide +kernel⟩
theorem sc__law_taken : FnScope ["_law_row", "_law_many", "_law_cell"] ["_law_row", "_law_many"] (defScope s__law_taken) := ⟨rfl, rfl, rfl, by decide +kernel, rfl, by decide +kernel, by decide +kernel⟩
theorem sc__law_alike : FnScope ["_law_found", "_law_due", "_law_k"] ["_law_found", "_law_due"] (defScope s__law_alike) := ⟨rfl, rfl, rfl, by decide +kernel, rfl, by decide +kernel, by decide +kernel⟩
theorem sc__law_word : FnScope ["_law_work", "_law_kinds", "e", "_law_word_here"] ["_law_work"] (defScope s__law_word) := ⟨rfl, rfl, rfl, by decide +kernel, rfl, by decide +kernel, by decide +kernel⟩
theorem sc__law_rule : FnScope ["_law_row", "_law_write", "_law_take"] ["_law_row"] (defScope s__law_rule) := ⟨rfl, rfl, rfl, by decide +kernel, rfl, by decide +kernel, by decide +kernel⟩
theorem sc__law_rules : FnScope ["_law_row", "_law_k"] ["_law_row"] (defScope s__law_rules) := ⟨rfl, rfl, rfl, by decide +kernel, rfl, by decide +kernel, by decide +kernel⟩
theorem sc__law_place : FnScope ["_law_row", "_law_most"] ["_law_row", "_law_most"] (defScope s__law_place) := ⟨rfl, rfl, rfl, by decide +kernel, rfl, by decide +kernel, by decide +kernel⟩
theorem sc__law_deeds : FnScope ["_law_row", "_law_hands", "_law_most", "_law_few", "_law_found", "_law_k", "_law_hand", "_law_place_here"] ["_law_row", "_law_hands", "_law_most"] (defScope s__law_deeds) := ⟨rfl, rfl, rfl, by decide +kernel, rfl, by decide +kernel, by decide +kernel⟩
theorem sc__law_number : FnScope ["_law_word_here", "_law_most", "_law_sign"] ["_law_word_here", "_law_most"] (defScope s__law_number) := ⟨rfl, rfl, rfl, by decide +kernel, rfl, by decide +kernel, by decide +kernel⟩
theorem sc__law_line : FnScope ["_law_line_here", "_law_words", "_law_most", "_law_numbers", "_law_good", "_law_word_here", "_law_great"] ["_law_line_here"] (defScope s__law_line) := ⟨rfl, rfl, rfl, by decide +kernel, rfl, by decide +kernel, by decide +kernel⟩
theorem sc__law_read : FnScope ["_law_text", "_law_rules_here", "_law_deeds_here", "_law_lines", "_law_k", "_law_found"] ["_law_text"] (defScope s__law_read) := ⟨rfl, rfl, rfl, by decide +kernel, rfl, by decide +kernel, by decide +kernel⟩
theorem sc__law_spoilt : FnScope ["_law_row", "_law_text", "_law_way", "_law_at", "_law_signs", "_law_sign", "_law_lines", "_law_k", "_law_words", "_law_j", "_law_odd"] ["_law_row", "_law_text"] (defScope s__law_spoilt) := ⟨rfl, rfl, rfl, by decide +kernel, rfl, by decide +kernel, by decide +kernel⟩
theorem sc_law : FnScope ["_law_script", "_law_row", "_law_head", "_law_some", "_law_turn", "_law_rules_here", "_law_deeds_here", "_law_text", "_law_change", "_law_one", "_law_bad", "_law_due", "_law_rule_here", "_law_deed", "_law_part"] ["_law_script"] (defScope s_law) := ⟨rfl, rfl, rfl, by decide +kernel, rfl, by decide +kernel, by decide +kernel⟩
structure Txt (K : PySem.W.Frag) (mg : Str → Option Value) where
  g_is_number : mg "is_number" = some (.ref (He.ga K "is_number"))
  g_is_rule : mg "is_rule" = some (.ref (He.ga K "is_rule"))
  g_is_deed : mg "is_deed" = some (.ref (He.ga K "is_deed"))
  g_number_of : mg "number_of" = some (.ref (He.ga K "number_of"))
  g_rule_of : mg "rule_of" = some (.ref (He.ga K "rule_of"))
  g_deed_of : mg "deed_of" = some (.ref (He.ga K "deed_of"))
  g_read : mg "read" = some (.ref (He.ga K "read"))
  g__law_taken : mg "_law_taken" = some (.ref (He.ga K "_law_taken"))
  g__law_alike : mg "_law_alike" = some (.ref (He.ga K "_law_alike"))
  g__law_word : mg "_law_word" = some (.ref (He.ga K "_law_word"))
  g__law_rule : mg "_law_rule" = some (.ref (He.ga K "_law_rule"))
  g__law_rules : mg "_law_rules" = some (.ref (He.ga K "_law_rules"))
  g__law_place : mg "_law_place" = some (.ref (He.ga K "_law_place"))
  g__law_deeds : mg "_law_deeds" = some (.ref (He.ga K "_law_deeds"))
  g__law_number : mg "_law_number" = some (.ref (He.ga K "_law_number"))
  g__law_line : mg "_law_line" = some (.ref (He.ga K "_law_line"))
  g__law_read : mg "_law_read" = some (.ref (He.ga K "_law_read"))
  g__law_spoilt : mg "_law_spoilt" = some (.ref (He.ga K "_law_spoilt"))
  g_law : mg "law" = some (.ref (He.ga K "law"))
  g_WayError : mg "WayError" = some (.ref (He.ga K "WayError"))
  g_BadRule : mg "BadRule" = some (.ref (He.ga K "BadRule"))
  g_BadHands : mg "BadHands" = some (.ref (He.ga K "BadHands"))
  g_BadHand : mg "BadHand" = some (.ref (He.ga K "BadHand"))
  g_BadPlace : mg "BadPlace" = some (.ref (He.ga K "BadPlace"))
  g_BadNumber : mg "BadNumber" = some (.ref (He.ga K "BadNumber"))
  g_BadDeed : mg "BadDeed" = some (.ref (He.ga K "BadDeed"))
  g_BadRoom : mg "BadRoom" = some (.ref (He.ga K "BadRoom"))
  g_BadWays : mg "BadWays" = some (.ref (He.ga K "BadWays"))
  g_BadLeavings : mg "BadLeavings" = some (.ref (He.ga K "BadLeavings"))
  g_BadText : mg "BadText" = some (.ref (He.ga K "BadText"))
  g_CELLS : ∃ t, mg "CELLS" = some (.int 64 t)
  g_MOST_NUMBER : ∃ t, mg "MOST_NUMBER" = some (.int 999 t)
  g_MOST_WAYS : ∃ t, mg "MOST_WAYS" = some (.int 4 t)
  g_MOST_RULES : ∃ t, mg "MOST_RULES" = some (.int 3 t)
  g_MOST_HANDS : ∃ t, mg "MOST_HANDS" = some (.int 3 t)
  g_MOST_DEEDS : ∃ t, mg "MOST_DEEDS" = some (.int 200 t)
  g_SETS : mg "SETS" = some (.ref (He.ga K "SETS"))
  g_WRITES : mg "WRITES" = some (.ref (He.ga K "WRITES"))
  g_TAKES : mg "TAKES" = some (.ref (He.ga K "TAKES"))
  g_LEAVES : mg "LEAVES" = some (.ref (He.ga K "LEAVES"))
  g_LOOK : ∃ t, mg "LOOK" = some (.str "look" t)
  g_SET : ∃ t, mg "SET" = some (.str "set" t)
  g_FIGURES : ∃ t, mg "FIGURES" = some (.str "0123456789" t)
  g_MOST_FIGURES : ∃ t, mg "MOST_FIGURES" = some (.int 3 t)
  g_ROOM : ∃ t, mg "ROOM" = some (.str "room" t)
  n_ValueError : mg "ValueError" = none
  n_len : mg "len" = none
  n_isinstance : mg "isinstance" = none
  n_range : mg "range" = none
  n_list : mg "list" = none
  n_tuple : mg "tuple" = none
  n_enumerate : mg "enumerate" = none
  n_int : mg "int" = none
  n_bool : mg "bool" = none
  n_set : mg "set" = none
  n_str : mg "str" = none
  n_zip : mg "zip" = none
  m_BadRule___init__ : Meth K (He.ga K "BadRule") "__init__" (He.ma K (He.ga K "BadRule") "__init__")
  na_BadRule_number : NoAttr K (He.ga K "BadRule") "number"
  xe_BadHands : PySem.W.excIn K (He.ga K "BadHands") He.veBase "ValueError.__new__" = true ∧ PySem.W.keepIn K (.ref (He.ga K "BadHands")) = true ∧ PySem.W.subIn K (.ref (He.ga K "BadHands")) (.type "BaseException") = some true ∧ PySem.W.typeIn K (.ref (He.ga K "BadHands")) = some (.type "type")
  xe_BadHand : PySem.W.excIn K (He.ga K "BadHand") He.veBase "ValueError.__new__" = true ∧ PySem.W.keepIn K (.ref (He.ga K "BadHand")) = true ∧ PySem.W.subIn K (.ref (He.ga K "BadHand")) (.type "BaseException") = some true ∧ PySem.W.typeIn K (.ref (He.ga K "BadHand")) = some (.type "type")
  xe_BadPlace : PySem.W.excIn K (He.ga K "BadPlace") He.veBase "ValueError.__new__" = true ∧ PySem.W.keepIn K (.ref (He.ga K "BadPlace")) = true ∧ PySem.W.subIn K (.ref (He.ga K "BadPlace")) (.type "BaseException") = some true ∧ PySem.W.typeIn K (.ref (He.ga K "BadPlace")) = some (.type "type")
  xe_BadNumber : PySem.W.excIn K (He.ga K "BadNumber") He.veBase "ValueError.__new__" = true ∧ PySem.W.keepIn K (.ref (He.ga K "BadNumber")) = true ∧ PySem.W.subIn K (.ref (He.ga K "BadNumber")) (.type "BaseException") = some true ∧ PySem.W.typeIn K (.ref (He.ga K "BadNumber")) = some (.type "type")
  m_BadDeed___init__ : Meth K (He.ga K "BadDeed") "__init__" (He.ma K (He.ga K "BadDeed") "__init__")
  na_BadDeed_number : NoAttr K (He.ga K "BadDeed") "number"
  xe_BadRoom : PySem.W.excIn K (He.ga K "BadRoom") He.veBase "ValueError.__new__" = true ∧ PySem.W.keepIn K (.ref (He.ga K "BadRoom")) = true ∧ PySem.W.subIn K (.ref (He.ga K "BadRoom")) (.type "BaseException") = some true ∧ PySem.W.typeIn K (.ref (He.ga K "BadRoom")) = some (.type "type")
  xe_BadWays : PySem.W.excIn K (He.ga K "BadWays") He.veBase "ValueError.__new__" = true ∧ PySem.W.keepIn K (.ref (He.ga K "BadWays")) = true ∧ PySem.W.subIn K (.ref (He.ga K "BadWays")) (.type "BaseException") = some true ∧ PySem.W.typeIn K (.ref (He.ga K "BadWays")) = some (.type "type")
  m_BadLeavings___init__ : Meth K (He.ga K "BadLeavings") "__init__" (He.ma K (He.ga K "BadLeavings") "__init__")
  na_BadLeavings_number : NoAttr K (He.ga K "BadLeavings") "number"
  m_BadText___init__ : Meth K (He.ga K "BadText") "__init__" (He.ma K (He.ga K "BadText") "__init__")
  na_BadText_row : NoAttr K (He.ga K "BadText") "row"
  t_SETS : ∀ H : Hp, SqT K H (He.ga K "SETS") [V.int 1, V.int 2, V.int 4]
  t_WRITES : ∀ H : Hp, SqT K H (He.ga K "WRITES") [V.str "through", V.str "back"]
  t_TAKES : ∀ H : Hp, SqT K H (He.ga K "TAKES") [V.str "in", V.str "by"]
  t_LEAVES : ∀ H : Hp, SqT K H (He.ga K "LEAVES") [V.str "first", V.str "late"]
  xt : ExcT K bads
  ox_BadRule : oexB K (He.ga K "BadRule") = true
  ox_BadDeed : oexB K (He.ga K "BadDeed") = true
  ox_BadLeavings : oexB K (He.ga K "BadLeavings") = true
  ox_BadText : oexB K (He.ga K "BadText") = true
  fd_BadRule___init__ : FuncData
  F_BadRule___init__ : FunD K "__init__" "BadRule.__init__" (defArgs s_BadRule___init__) (defBody s_BadRule___init__) (defScope s_BadRule___init__) [] [] (He.fAd K ("BadRule", some "__init__")) fd_BadRule___init__
  b_BadRule___init__ : Binds K fd_BadRule___init__ ["self", "number"] []
  k_BadRule___init__ : PySem.W.keepIn K (.ref (He.fAd K ("BadRule", some "__init__"))) = true
  fd_BadDeed___init__ : FuncData
  F_BadDeed___init__ : FunD K "__init__" "BadDeed.__init__" (defArgs s_BadDeed___init__) (defBody s_BadDeed___init__) (defScope s_BadDeed___init__) [] [] (He.fAd K ("BadDeed", some "__init__")) fd_BadDeed___init__
  b_BadDeed___init__ : Binds K fd_BadDeed___init__ ["self", "number"] []
  k_BadDeed___init__ : PySem.W.keepIn K (.ref (He.fAd K ("BadDeed", some "__init__"))) = true
  fd_BadLeavings___init__ : FuncData
  F_BadLeavings___init__ : FunD K "__init__" "BadLeavings.__init__" (defArgs s_BadLeavings___init__) (defBody s_BadLeavings___init__) (defScope s_BadLeavings___init__) [] [] (He.fAd K ("BadLeavings", some "__init__")) fd_BadLeavings___init__
  b_BadLeavings___init__ : Binds K fd_BadLeavings___init__ ["self", "number"] []
  k_BadLeavings___init__ : PySem.W.keepIn K (.ref (He.fAd K ("BadLeavings", some "__init__"))) = true
  fd_BadText___init__ : FuncData
  F_BadText___init__ : FunD K "__init__" "BadText.__init__" (defArgs s_BadText___init__) (defBody s_BadText___init__) (defScope s_BadText___init__) [] [] (He.fAd K ("BadText", some "__init__")) fd_BadText___init__
  b_BadText___init__ : Binds K fd_BadText___init__ ["self", "row"] []
  k_BadText___init__ : PySem.W.keepIn K (.ref (He.fAd K ("BadText", some "__init__"))) = true
  fd_is_number : FuncData
  F_is_number : FunD K "is_number" "is_number" (defArgs s_is_number) (defBody s_is_number) (defScope s_is_number) [] [] (He.fAd K ("is_number", none)) fd_is_number
  b_is_number : Binds K fd_is_number ["part", "low", "high"] []
  k_is_number : PySem.W.keepIn K (.ref (He.fAd K ("is_number", none))) = true
  fd_is_rule : FuncData
  F_is_rule : FunD K "is_rule" "is_rule" (defArgs s_is_rule) (defBody s_is_rule) (defScope s_is_rule) [] [] (He.fAd K ("is_rule", none)) fd_is_rule
  b_is_rule : Binds K fd_is_rule ["rule"] []
  k_is_rule : PySem.W.keepIn K (.ref (He.fAd K ("is_rule", none))) = true
  fd_is_deed : FuncData
  F_is_deed : FunD K "is_deed" "is_deed" (defArgs s_is_deed) (defBody s_is_deed) (defScope s_is_deed) [] [] (He.fAd K ("is_deed", none)) fd_is_deed
  b_is_deed : Binds K fd_is_deed ["deed", "hands"] []
  k_is_deed : PySem.W.keepIn K (.ref (He.fAd K ("is_deed", none))) = true
  fd_number_of : FuncData
  F_number_of : FunD K "number_of" "number_of" (defArgs s_number_of) (defBody s_number_of) (defScope s_number_of) [] [] (He.fAd K ("number_of", none)) fd_number_of
  b_number_of : Binds K fd_number_of ["word"] []
  k_number_of : PySem.W.keepIn K (.ref (He.fAd K ("number_of", none))) = true
  fd_rule_of : FuncData
  F_rule_of : FunD K "rule_of" "rule_of" (defArgs s_rule_of) (defBody s_rule_of) (defScope s_rule_of) [] [] (He.fAd K ("rule_of", none)) fd_rule_of
  b_rule_of : Binds K fd_rule_of ["words"] []
  k_rule_of : PySem.W.keepIn K (.ref (He.fAd K ("rule_of", none))) = true
  fd_deed_of : FuncData
  F_deed_of : FunD K "deed_of" "deed_of" (defArgs s_deed_of) (defBody s_deed_of) (defScope s_deed_of) [] [] (He.fAd K ("deed_of", none)) fd_deed_of
  b_deed_of : Binds K fd_deed_of ["words"] []
  k_deed_of : PySem.W.keepIn K (.ref (He.fAd K ("deed_of", none))) = true
  fd_read : FuncData
  F_read : FunD K "read" "read" (defArgs s_read) (defBody s_read) (defScope s_read) [] [] (He.fAd K ("read", none)) fd_read
  b_read : Binds K fd_read ["text"] []
  k_read : PySem.W.keepIn K (.ref (He.fAd K ("read", none))) = true
  fd__law_taken : FuncData
  F__law_taken : FunD K "_law_taken" "_law_taken" (defArgs s__law_taken) (defBody s__law_taken) (defScope s__law_taken) [] [] (He.fAd K ("_law_taken", none)) fd__law_taken
  b__law_taken : Binds K fd__law_taken ["_law_row", "_law_many"] []
  k__law_taken : PySem.W.keepIn K (.ref (He.fAd K ("_law_taken", none))) = true
  fd__law_alike : FuncData
  F__law_alike : FunD K "_law_alike" "_law_alike" (defArgs s__law_alike) (defBody s__law_alike) (defScope s__law_alike) [] [] (He.fAd K ("_law_alike", none)) fd__law_alike
  b__law_alike : Binds K fd__law_alike ["_law_found", "_law_due"] []
  k__law_alike : PySem.W.keepIn K (.ref (He.fAd K ("_law_alike", none))) = true
  fd__law_word : FuncData
  F__law_word : FunD K "_law_word" "_law_word" (defArgs s__law_word) (defBody s__law_word) (defScope s__law_word) [] [] (He.fAd K ("_law_word", none)) fd__law_word
  b__law_word : Binds K fd__law_word ["_law_work"] []
  k__law_word : PySem.W.keepIn K (.ref (He.fAd K ("_law_word", none))) = true
  fd__law_rule : FuncData
  F__law_rule : FunD K "_law_rule" "_law_rule" (defArgs s__law_rule) (defBody s__law_rule) (defScope s__law_rule) [] [] (He.fAd K ("_law_rule", none)) fd__law_rule
  b__law_rule : Binds K fd__law_rule ["_law_row"] []
  k__law_rule : PySem.W.keepIn K (.ref (He.fAd K ("_law_rule", none))) = true
  fd__law_rules : FuncData
  F__law_rules : FunD K "_law_rules" "_law_rules" (defArgs s__law_rules) (defBody s__law_rules) (defScope s__law_rules) [] [] (He.fAd K ("_law_rules", none)) fd__law_rules
  b__law_rules : Binds K fd__law_rules ["_law_row"] []
  k__law_rules : PySem.W.keepIn K (.ref (He.fAd K ("_law_rules", none))) = true
  fd__law_place : FuncData
  F__law_place : FunD K "_law_place" "_law_place" (defArgs s__law_place) (defBody s__law_place) (defScope s__law_place) [] [] (He.fAd K ("_law_place", none)) fd__law_place
  b__law_place : Binds K fd__law_place ["_law_row", "_law_most"] []
  k__law_place : PySem.W.keepIn K (.ref (He.fAd K ("_law_place", none))) = true
  fd__law_deeds : FuncData
  F__law_deeds : FunD K "_law_deeds" "_law_deeds" (defArgs s__law_deeds) (defBody s__law_deeds) (defScope s__law_deeds) [] [] (He.fAd K ("_law_deeds", none)) fd__law_deeds
  b__law_deeds : Binds K fd__law_deeds ["_law_row", "_law_hands", "_law_most"] []
  k__law_deeds : PySem.W.keepIn K (.ref (He.fAd K ("_law_deeds", none))) = true
  fd__law_number : FuncData
  F__law_number : FunD K "_law_number" "_law_number" (defArgs s__law_number) (defBody s__law_number) (defScope s__law_number) [] [] (He.fAd K ("_law_number", none)) fd__law_number
  b__law_number : Binds K fd__law_number ["_law_word_here", "_law_most"] []
  k__law_number : PySem.W.keepIn K (.ref (He.fAd K ("_law_number", none))) = true
  fd__law_line : FuncData
  F__law_line : FunD K "_law_line" "_law_line" (defArgs s__law_line) (defBody s__law_line) (defScope s__law_line) [] [] (He.fAd K ("_law_line", none)) fd__law_line
  b__law_line : Binds K fd__law_line ["_law_line_here"] []
  k__law_line : PySem.W.keepIn K (.ref (He.fAd K ("_law_line", none))) = true
  fd__law_read : FuncData
  F__law_read : FunD K "_law_read" "_law_read" (defArgs s__law_read) (defBody s__law_read) (defScope s__law_read) [] [] (He.fAd K ("_law_read", none)) fd__law_read
  b__law_read : Binds K fd__law_read ["_law_text"] []
  k__law_read : PySem.W.keepIn K (.ref (He.fAd K ("_law_read", none))) = true
  fd__law_spoilt : FuncData
  F__law_spoilt : FunD K "_law_spoilt" "_law_spoilt" (defArgs s__law_spoilt) (defBody s__law_spoilt) (defScope s__law_spoilt) [] [] (He.fAd K ("_law_spoilt", none)) fd__law_spoilt
  b__law_spoilt : Binds K fd__law_spoilt ["_law_row", "_law_text"] []
  k__law_spoilt : PySem.W.keepIn K (.ref (He.fAd K ("_law_spoilt", none))) = true
  fd_law : FuncData
  F_law : FunD K "law" "law" (defArgs s_law) (defBody s_law) (defScope s_law) [] [] (He.fAd K ("law", none)) fd_law
  b_law : Binds K fd_law ["_law_script"] []
  k_law : PySem.W.keepIn K (.ref (He.fAd K ("law", none))) = true
-- WwDa
theorem size1 {n : Nat} (h : n ≤ 1000000) : n < sizeLine := Nat.lt_of_le_of_lt h (by decide)
theorem tYes_go {σ : L2.St} {H : Hp} {Q : Bool → Hp → Prop} (h : Q true H) : tYes σ H Q := h
/-! ### data by cells -/
mutual
inductive DpL (L : List Cell) : V → PyData → Prop
  | non : DpL L .non .none
  | bl (b : Bool) : DpL L (.bl b) (.bool b)
  | int (i : Int) : DpL L (.int i) (.int i)
  | str (x : Str) : DpL L (.str x) (.str x)
  | lst {a : Addr} {xs : List V} {ds : List PyData} : (a, HO.lst xs) ∈ L → DpsL L xs ds → DpL L (.ref a) (.list ds)
  | tup {a : Addr} {xs : List V} {ds : List PyData} : (a, HO.tup xs) ∈ L → DpsL L xs ds → DpL L (.ref a) (.tuple ds)
inductive DpsL (L : List Cell) : List V → List PyData → Prop
  | nil : DpsL L [] []
  | cons {v : V} {vs : List V} {d : PyData} {ds : List PyData} : DpL L v d → DpsL L vs ds → DpsL L (v :: vs) (d :: ds)
end
mutual
theorem DpL.mono {L L' : List Cell} (hs : ∀ c ∈ L, c ∈ L') : ∀ {v : V} {d : PyData}, DpL L v d → DpL L' v d
  | _, _, .non => .non
  | _, _, .bl b => .bl b
  | _, _, .int i => .int i
  | _, _, .str x => .str x
  | _, _, .lst h r => .lst (hs _ h) (DpsL.mono hs r)
  | _, _, .tup h r => .tup (hs _ h) (DpsL.mono hs r)
theorem DpsL.mono {L L' : List Cell} (hs : ∀ c ∈ L, c ∈ L') : ∀ {vs : List V} {ds : List PyData}, DpsL L vs ds → DpsL L' vs ds
  | _, _, .nil => .nil
  | _, _, .cons h r => .cons (DpL.mono hs h) (DpsL.mono hs r)
end
mutual
theorem DpL.dp {K : PySem.W.Frag} {H : Hp} {L : List Cell} (O : ∀ c ∈ L, H c.1 = some c.2) : ∀ {v : V} {d : PyData}, DpL L v d → Dp K H v d
  | _, _, .non => .non
  | _, _, .bl b => .bl b
  | _, _, .int i => .int i
  | _, _, .str x => .str x
  | _, _, .lst h r => .lst (SqL.of (O _ h)) (DpsL.dps O r)
  | _, _, .tup h r => .tup (SqT.of (O _ h)) (DpsL.dps O r)
theorem DpsL.dps {K : PySem.W.Frag} {H : Hp} {L : List Cell} (O : ∀ c ∈ L, H c.1 = some c.2) : ∀ {vs : List V} {ds : List PyData}, DpsL L vs ds → DpAll K H vs ds
  | _, _, .nil => .nil
  | _, _, .cons h r => .cons (DpL.dp O h) (DpsL.dps O r)
end
theorem DpsL.app {L : List Cell} : ∀ {vs ws : List V} {ds es : List PyData}, DpsL L vs ds → DpsL L ws es → DpsL L (vs ++ ws) (ds ++ es)
  | _, _, _, _, .nil, k => k
  | _, _, _, _, .cons h r, k => .cons h (DpsL.app r k)
theorem DpsL.ints {L : List Cell} : ∀ ns : List Int, DpsL L (ns.map V.int) (ns.map PyData.int)
  | [] => .nil
  | n :: ns => .cons (.int n) (DpsL.ints ns)
theorem DpsL.len {L : List Cell} : ∀ {vs : List V} {ds : List PyData}, DpsL L vs ds → vs.length = ds.length
  | _, _, .nil => rfl
  | _, _, .cons _ r => congrArg (· + 1) r.len
theorem DpsL.get {L : List Cell} : ∀ {vs : List V} {ds : List PyData} {i : Nat} {v : V}, DpsL L vs ds → vs[i]? = some v → ∃ d, ds[i]? = some d ∧ DpL L v d
  | _, _, i, v, .nil, e => by simp at e
  | _, _, 0, v, .cons h _, e => by
    simp at e
    subst e
    exact ⟨_, rfl, h⟩
  | _, _, i + 1, v, .cons _ r, e => by
    obtain ⟨d, h1, h2⟩ := DpsL.get (i := i) (v := v) r (by simpa using e)
    exact ⟨d, by simpa using h1, h2⟩
theorem DpsL.get' {L : List Cell} : ∀ {vs : List V} {ds : List PyData} {i : Nat} {d : PyData}, DpsL L vs ds → ds[i]? = some d → ∃ v, vs[i]? = some v ∧ DpL L v d
  | _, _, i, v, .nil, e => by simp at e
  | _, _, 0, v, .cons h _, e => by
    simp at e
    subst e
    exact ⟨_, rfl, h⟩
  | _, _, i + 1, v, .cons _ r, e => by
    obtain ⟨d, h1, h2⟩ := DpsL.get' (i := i) (d := v) r (by simpa using e)
    exact ⟨d, by simpa using h1, h2⟩

theorem noPart {σ : L2.St} {H : Hp} {Q : Option Int → Hp → Prop} (h : Q none H) : tNoPart σ H Q := h
theorem take_snoc {α : Type} {xs : List α} {i : Nat} {x : α} (h : xs[i]? = some x) : xs.take (i + 1) = xs.take i ++ [x] := by
  rw [List.take_succ, h]
  rfl
theorem DpL.lstI {N : List Cell} {v : V} {ds : List PyData} (h : DpL N v (.list ds)) : ∃ p vs, v = .ref p ∧ (p, HO.lst vs) ∈ N ∧ DpsL N vs ds := by
  cases h with
  | lst h r => exact ⟨_, _, rfl, h, r⟩
theorem DpL.tupI {N : List Cell} {v : V} {ds : List PyData} (h : DpL N v (.tuple ds)) : ∃ p vs, v = .ref p ∧ (p, HO.tup vs) ∈ N ∧ DpsL N vs ds := by
  cases h with
  | tup h r => exact ⟨_, _, rfl, h, r⟩
theorem DpsL.intsI {N : List Cell} : ∀ {ns : List Int} {vs : List V}, DpsL N vs (ns.map PyData.int) → vs = ns.map V.int
  | [], _, .nil => rfl
  | n :: ns, _, .cons h r => by
    cases h with
    | int => rw [DpsL.intsI r]; rfl
theorem not_eqv_nil : (!PyData.eqv (.list []) (.list [])) = false := by decide +kernel
theorem eqv_self (d : PyData) (h : SeqAt.shaped d = true) : (!PyData.eqv d d) = false := by rw [SeqAt.eqv_refl d (SeqAt.canLay_of_shaped h)]; rfl
theorem dpInts {K : PySem.W.Frag} {H : Hp} (ns : List Int) : DpAll K H (ns.map V.int) (ns.map PyData.int) := (DpsL.ints (L := []) ns).dps fun c hc => absurd hc List.not_mem_nil
theorem shaped_of {d : PyData} (h1 : d.canLay0 = true) (h2 : d.depth ≤ 64) : SeqAt.shaped d = true := by
  unfold SeqAt.shaped
  rw [h1, decide_eq_true h2]
  rfl
theorem layAll {α : Type} {f : α → PyData} {k : Nat} : ∀ {xs : List α}, (∀ a ∈ xs, (f a).canLay0 = true ∧ (f a).depth ≤ k) → PyData.canLayAll0 (xs.map f) = true ∧ PyData.depthAll (xs.map f) ≤ k
  | [], _ => ⟨rfl, Nat.zero_le _⟩
  | a :: xs, h => by
    obtain ⟨a1, a2⟩ := h a List.mem_cons_self
    obtain ⟨b1, b2⟩ := layAll (xs := xs) fun b hb => h b (List.mem_cons_of_mem _ hb)
    refine ⟨?_, ?_⟩
    · show (PyData.canLay0 (f a) && PyData.canLayAll0 (xs.map f)) = true
      rw [a1, b1]
      rfl
    · show max (PyData.depth (f a)) (PyData.depthAll (xs.map f)) ≤ k
      omega
theorem layL {α : Type} {f : α → PyData} {k : Nat} {xs : List α} (h : ∀ a ∈ xs, (f a).canLay0 = true ∧ (f a).depth ≤ k) : (PyData.list (xs.map f)).canLay0 = true ∧ (PyData.list (xs.map f)).depth ≤ k + 1 := by
  obtain ⟨h1, h2⟩ := layAll h
  refine ⟨h1, ?_⟩
  show PyData.depthAll (xs.map f) + 1 ≤ k + 1
  omega
theorem layT {α : Type} {f : α → PyData} {k : Nat} {xs : List α} (h : ∀ a ∈ xs, (f a).canLay0 = true ∧ (f a).depth ≤ k) : (PyData.tuple (xs.map f)).canLay0 = true ∧ (PyData.tuple (xs.map f)).depth ≤ k + 1 := by
  obtain ⟨h1, h2⟩ := layAll h
  refine ⟨h1, ?_⟩
  show PyData.depthAll (xs.map f) + 1 ≤ k + 1
  omega
theorem layI (i : Int) : (PyData.int i).canLay0 = true ∧ (PyData.int i).depth ≤ 0 := ⟨rfl, Nat.le_refl _⟩
theorem layIs (ns : List Int) : (PyData.list (ns.map .int)).canLay0 = true ∧ (PyData.list (ns.map .int)).depth ≤ 1 := layL fun i _ => layI i
/-- tuples, by their addresses -/
def TA (R : List Cell) : List Addr → List (List V) → Prop
  | [], [] => True
  | a :: as, u :: us => (a, HO.tup u) ∈ R ∧ TA R as us
  | _, _ => False
theorem TA.len {R : List Cell} : ∀ {as : List Addr} {us : List (List V)}, TA R as us → as.length = us.length
  | [], [], _ => rfl
  | [], _ :: _, h => h.elim
  | _ :: _, [], h => h.elim
  | _ :: _, _ :: _, h => congrArg (· + 1) (TA.len h.2)
theorem TA.get {R : List Cell} : ∀ {as : List Addr} {us : List (List V)} {i : Nat} {a : Addr}, TA R as us → as[i]? = some a → ∃ u, us[i]? = some u ∧ (a, HO.tup u) ∈ R
  | [], _, i, a, _, e => by simp at e
  | _ :: _, [], _, _, h, _ => h.elim
  | b :: as, u :: us, 0, a, h, e => by
    simp at e
    subst e
    exact ⟨u, rfl, h.1⟩
  | b :: as, u :: us, i + 1, a, h, e => by
    obtain ⟨v, h1, h2⟩ := TA.get (i := i) (a := a) h.2 (by simpa using e)
    exact ⟨v, by simpa using h1, h2⟩
theorem TA.mono {R R' : List Cell} (hs : ∀ c ∈ R, c ∈ R') : ∀ {as : List Addr} {us : List (List V)}, TA R as us → TA R' as us
  | [], [], _ => trivial
  | [], _ :: _, h => h.elim
  | _ :: _, [], h => h.elim
  | _ :: _, _ :: _, h => ⟨hs _ h.1, TA.mono hs h.2⟩
theorem TA.app {R : List Cell} : ∀ {as bs : List Addr} {us vs : List (List V)}, TA R as us → TA R bs vs → TA R (as ++ bs) (us ++ vs)
  | [], _, [], _, _, k => k
  | [], _, _ :: _, _, h, _ => h.elim
  | _ :: _, _, [], _, h, _ => h.elim
  | _ :: _, _, _ :: _, _, h, k => ⟨h.1, TA.app h.2 k⟩
theorem pick3 {v : Int} {a b c : V} (h0 : 0 ≤ v) (h3 : v < 3) : ∃ y, atI [a, b, c] v = some y ∧ (y = a ∨ y = b ∨ y = c) := by
  have : v = 0 ∨ v = 1 ∨ v = 2 := by omega
  rcases this with e | e | e <;> subst e
  · exact ⟨a, rfl, .inl rfl⟩
  · exact ⟨b, rfl, .inr (.inl rfl)⟩
  · exact ⟨c, rfl, .inr (.inr rfl)⟩
theorem pick2 {v : Int} {a b : V} (h0 : 0 ≤ v) (h3 : v < 2) : ∃ y, atI [a, b] v = some y ∧ (y = a ∨ y = b) := by
  have : v = 0 ∨ v = 1 := by omega
  rcases this with e | e <;> subst e
  · exact ⟨a, rfl, .inl rfl⟩
  · exact ⟨b, rfl, .inr rfl⟩
theorem pick4 {v : Int} {a b c d : V} (h0 : 0 ≤ v) (h3 : v < 4) : ∃ y, atI [a, b, c, d] v = some y ∧ (y = a ∨ y = b ∨ y = c ∨ y = d) := by
  have : v = 0 ∨ v = 1 ∨ v = 2 ∨ v = 3 := by omega
  rcases this with e | e | e | e <;> subst e
  · exact ⟨a, rfl, .inl rfl⟩
  · exact ⟨b, rfl, .inr (.inl rfl)⟩
  · exact ⟨c, rfl, .inr (.inr (.inl rfl))⟩
  · exact ⟨d, rfl, .inr (.inr (.inr rfl))⟩
theorem ixN_nat {n k : Nat} (h : k < n) : ixN n (k : Int) = some k := by
  unfold ixN
  rw [if_pos (by omega), if_pos (by omega), Int.toNat_natCast]
theorem seqIx {n k : Nat} (h : k < n) : seqIndex? (k : Int) n = some k := (ixN_seq (ixN_nat h)).1
theorem seqIxN {n k : Nat} (h : k < n) : seqIndex? (k : Int) n = some k := seqIx h
/-! ### list.count of truth values -/
def eqBl (k : Bool) (v : Value) : Bool := match v with
  | .bool n => n == k
  | _ => false
inductive BlAre : List Value → List Bool → Prop
  | nil : BlAre [] []
  | cons {us : List Value} {ns : List Bool} (x : Bool) : BlAre us ns → BlAre (.bool x :: us) (x :: ns)
theorem blAre_of : ∀ {ns : List Bool} {us : List Value}, Vals (ns.map V.bl) us → BlAre us ns
  | [], _, .nil => .nil
  | n :: ns, _, .cons r h => by
    cases r
    exact .cons n (blAre_of h)
theorem eqBl_at {A : Around} {s : Shared} {k : Bool} : ∀ {us : List Value} {ns : List Bool}, BlAre us ns → ∀ y ∈ us, SeqAt.EqAt A s y (.bool k) (eqBl k y)
  | _, _, .nil => fun y hy => by cases hy
  | _, _, .cons n h => fun y hy => by
    rcases List.mem_cons.mp hy with e | e
    · rw [e]
      exact SeqAt.EqAt.bool_bool n k
    · exact eqBl_at h y e
theorem eqBl_count {k : Bool} : ∀ {us : List Value} {ns : List Bool}, BlAre us ns → us.countP (eqBl k) = ns.countP (· == k)
  | _, _, .nil => rfl
  | _, _, .cons n h => by
    have ih := eqBl_count (k := k) h
    rw [List.countP_cons, List.countP_cons, ih] <;> rfl
def rCntB (K : PySem.W.Frag) : V → List V → Hp → VK → Prop := fun x xs H Q => ∃ (p : Addr) (ns : List Bool) (k : Bool), x = .ref p ∧ xs = [.bl k] ∧ SqL K H p (ns.map V.bl) ∧ Q (.int (ns.countP (· == k) : Nat)) H
theorem mt_lcountB {X : Cx} : MtR X "list.count" (rCntB X.K) := by
  intro pins s σ H x xs v us Q I rx rxs h
  obtain ⟨p, ns, k, rfl, rfl, hs, q⟩ := h
  cases rx
  obtain ⟨u, rfl, ru⟩ := rxs.one
  cases ru
  obtain ⟨its, rv, ⟨⟨cls, dd, data, sl⟩, n, ho, hc, hdn, hd⟩, hlen⟩ := I.list hs
  simp only at hc hd
  subst hc hd
  have hi := blAre_of rv
  refine call_meets PySem.F.slot_list_count ⟨_, ho, rfl⟩ PySem.F.entry_list_count (PySem.F.args_list_count_2 _ _) (SeqAt.list_countAt p its.toArray n dd sl (.bool k) (eqBl k)) ⟨ho, fun y hy => eqBl_at hi y (by simpa using hy), ?_⟩
  have ec : its.toArray.toList.countP (eqBl k) = ns.countP (· == k) := eqBl_count hi
  refine ⟨.int (ns.countP (· == k) : Nat), H, I.tok _, ⟨s.toks, ?_⟩, q⟩
  show Value.int ((its.toArray.toList.countP (eqBl k) : Nat) : Int) s.toks = _
  rw [ec]
/-! ### len(set(..)) of a list of ints -/
theorem dedup_nodup (val : Nat → Int) : ∀ i, (PyProof.Rows.firstMet val i).Nodup
  | 0 => by
    rw [PyProof.Rows.firstMet_zero]
    exact List.nodup_nil
  | i + 1 => by
    have ih := dedup_nodup val i
    rw [PyProof.Rows.firstMet_succ]
    unfold PyProof.Rows.step_dedup
    split
    · exact ih
    · rename_i h
      refine List.nodup_append.mpr ⟨ih, List.nodup_cons.mpr ⟨(fun q => by cases q), List.nodup_nil⟩, fun a ha b hb e => h ?_⟩
      rw [List.mem_singleton.mp hb] at e
      subst e
      exact List.any_eq_true.mpr ⟨_, ha, beq_self_eq_true _⟩
theorem range_getD (ns : List Int) : (List.range ns.length).map (fun i => ns.getD i 0) = ns := by
  refine List.ext_getElem? fun i => ?_
  rw [List.getElem?_map]
  by_cases h : i < ns.length
  · rw [List.getElem?_range h, List.getElem?_eq_getElem h]
    show some (ns.getD i 0) = _
    rw [List.getD_eq_getElem?_getD, List.getElem?_eq_getElem h]
    rfl
  · rw [List.getElem?_eq_none (by rw [List.length_range]; omega), List.getElem?_eq_none (by omega)]
    rfl
theorem dedup_mem (ns : List Int) (k : Int) : k ∈ PyProof.Rows.firstMet (fun i => ns.getD i 0) ns.length ↔ k ∈ ns := by
  have h := PyProof.Rows.firstMet_any (fun i => ns.getD i 0) ns.length k
  rw [range_getD] at h
  constructor
  · intro q
    have : (PyProof.Rows.firstMet (fun i => ns.getD i 0) ns.length).any (· == k) = true := List.any_eq_true.mpr ⟨k, q, beq_self_eq_true _⟩
    rw [h] at this
    obtain ⟨x, hx, e⟩ := List.any_eq_true.mp this
    rw [← eq_of_beq e]
    exact hx
  · intro q
    have : ns.any (· == k) = true := List.any_eq_true.mpr ⟨k, q, beq_self_eq_true _⟩
    rw [← h] at this
    obtain ⟨x, hx, e⟩ := List.any_eq_true.mp this
    rw [← eq_of_beq e]
    exact hx
def tLenSet (K : PySem.W.Frag) (ta : TE) : TE := fun σ H Q => ta σ H fun x H1 => ∃ (l : Addr) (ns : List Int), x = .ref l ∧ SqL K H1 l (ns.map V.int) ∧ ns.length ≤ 4000 ∧ ∀ us : List Int, us.Nodup → (∀ k, k ∈ us ↔ k ∈ ns) → Q (.int (us.length : Nat)) H1
theorem pe_lenSet {X : Cx} {a : Expr} {ta : TE} {p p2 q pos : Pos} (hg : Gl X "len") (hm : X.mg "len" = none) (hg2 : Gl X "set") (hm2 : X.mg "set" = none) (ha : PE X a ta) (hc : X.calm = true := by rfl)
    (na : starEach [a] X.env = (false, eval a X.env) :: starEach [] X.env := by rfl) : PE X (.Call (.Name "len" p) [.Call (.Name "set" p2) [a] [] q] [] pos) (tLenSet X.K ta) := by
  refine ⟨fun pins s σ H Q I h => ?_⟩
  refine Call_ (ld_blt I hg hm boot_len ?_)
  refine PyProof.Rows.callWith_builtin1 (PyProof.Rows.args_cons ?_ rfl) rfl rfl
  refine Call_ (ld_blt I hg2 hm2 boot_set ?_)
  refine PyProof.Rows.callWith_type1 (PyProof.Rows.args_cons (thn (ha.run pins s σ H _ I h) fun v s1 ⟨x, H1, I1, r1, q1⟩ => PyProof.Rows.args_nil ?_) na) na rfl
  obtain ⟨l, ns, rfl, hq, hl, q1⟩ := q1
  cases r1
  obtain ⟨its, r, pl, hz⟩ := I1.list hq
  have hlen : its.toArray.size = ns.length := by rw [List.size_toArray, ← r.length, List.length_map]
  refine call_set_list (I1.ok.hd hc) pl.isList (by simpa using RZ.intsAre_vals r) (by rw [hlen]; unfold scanBound; omega) fun h' tk hS hk => ?_
  refine PyProof.Rows.args_nil ?_
  rw [hlen] at hS
  have hle := PyProof.Rows.firstMet_length_le (fun i => ns.getD i 0) ns.length
  obtain ⟨o, es, ep, t, ho, hex, hd, _, _, _, hf, hn⟩ := hS
  have I2 : Inv X pins σ H1 { s1 with heap := h', toks := tk } := I1.kept fun b o e => hk b o (Heap.lt_size e) e
  exact call_len_set ho hex hd hf (by rw [hn] <;> omega) ⟨.int (PyProof.Rows.firstMet (fun i => ns.getD i 0) ns.length).length, H1, I2.tok _, ⟨_, by rw [hn]⟩, q1 _ (dedup_nodup _ _) (dedup_mem ns)⟩
abbrev rIsNo : R2 := fun x y H Q => y = .non ∧ Q (.bl (decide (x = .non))) H
/-! ### blocks, their depths -/

def blV (bs : List Nat) : List V := bs.map fun b => V.int (b : Nat)
theorem blV_len (bs : List Nat) : (blV bs).length = bs.length := List.length_map _
theorem blV_flat (bs : List Nat) : (blV bs).all flatV = true := List.all_eq_true.mpr fun x hx => by
  obtain ⟨b, _, rfl⟩ := List.mem_map.mp hx
  rfl
theorem eqV_int (a b : Int) : eqV (.int a) (.int b) = (a == b) := rfl
theorem inV_bl (b : Nat) (bs : List Nat) : inV (.int (b : Nat)) (blV bs) = decide (b ∈ bs) := by
  unfold inV
  by_cases h : b ∈ bs
  · rw [decide_eq_true h]
    exact List.any_eq_true.mpr ⟨.int (b : Nat), List.mem_map.mpr ⟨b, h, rfl⟩, beq_self_eq_true (b : Int)⟩
  · rw [decide_eq_false h]
    refine Bool.eq_false_iff.mpr fun q => h ?_
    obtain ⟨x, hx, e⟩ := List.any_eq_true.mp q
    obtain ⟨c, hc, rfl⟩ := List.mem_map.mp hx
    have e : ((c : Nat) : Int) = ((b : Nat) : Int) := eq_of_beq e
    rw [← Int.ofNat.inj e]
    exact hc
theorem inV_is (b : Int) (bs : List Int) : inV (.int b) (bs.map V.int) = decide (b ∈ bs) := by
  unfold inV
  by_cases h : b ∈ bs
  · rw [decide_eq_true h]
    exact List.any_eq_true.mpr ⟨.int b, List.mem_map.mpr ⟨b, h, rfl⟩, beq_self_eq_true b⟩
  · rw [decide_eq_false h]
    refine Bool.eq_false_iff.mpr fun q => h ?_
    obtain ⟨x, hx, e⟩ := List.any_eq_true.mp q
    obtain ⟨c, hc, rfl⟩ := List.mem_map.mp hx
    have e : (c == b) = true := e
    rw [← eq_of_beq e]
    exact hc
theorem isV_flat (bs : List Int) : (bs.map V.int).all flatV = true := List.all_eq_true.mpr fun x hx => by
  obtain ⟨b, _, rfl⟩ := List.mem_map.mp hx
  rfl
def intsOf (bs : List Nat) : List Int := bs.map fun b => ((b : Nat) : Int)
theorem blV_is (bs : List Nat) : blV bs = (intsOf bs).map V.int := by
  unfold blV intsOf
  rw [List.map_map]
  rfl
theorem sh0 : SeqAt.shaped (.list []) = true := PySem.W.shaped_ints []
theorem cutTake {xs : List V} {k : Nat} (h : k ≤ xs.length) : cutV xs none (some (k : Int)) = xs.take k := by
  unfold cutV
  rw [HT.sIx_none, HT.sIx_nat, Nat.min_eq_left h, List.drop_zero, Nat.sub_zero]
theorem cutDrop {xs : List V} {k : Nat} (h : k ≤ xs.length) : cutV xs (some (k : Int)) none = xs.drop k := by
  unfold cutV
  rw [HT.sIx_none, HT.sIx_nat, Nat.min_eq_left h]
  exact List.take_of_length_le (by rw [List.length_drop]; omega)
/-- a slice of a list of ints -/
def cutI (ns : List Int) (lo hi : Option Int) : List Int := (ns.drop (HT.sIx ns.length 0 lo)).take (HT.sIx ns.length ns.length hi - HT.sIx ns.length 0 lo)
theorem cutI_eq (ns : List Int) (lo hi : Option Int) : cutV (ns.map V.int) lo hi = (cutI ns lo hi).map V.int := by
  unfold cutV cutI
  rw [List.length_map, List.map_take, List.map_drop]
theorem cutI_len (ns : List Int) (lo hi : Option Int) : (cutI ns lo hi).length ≤ ns.length := by
  unfold cutI
  rw [List.length_take, List.length_drop]
  omega
-- WwT0
/-! ### the law's draws -/
/-- the script, as cells S -/
def Scr (K : PySem.W.Frag) (sc : Addr) (ns : List Int) (S : List Cell) : Prop := ∀ H : Hp, (∀ c ∈ S, H c.1 = some c.2) → SqL K H sc (ns.map V.int)
/-- the row of a law: the script, how many cells were taken, what is mixed -/
def RowC (K : PySem.W.Frag) (rw : Addr) (S : List Cell) (c : Cell) : Prop := ∃ (sc : Addr) (ns : List Int) (i : Nat) (z : Int), Scr K sc ns S ∧ 0 ≤ z ∧ z < 2147483647 ∧ c = (rw, .lst [.ref sc, .int i, .int z])
theorem Own.scr {K : PySem.W.Frag} {H : Hp} {sc : Addr} {ns : List Int} {S R : List Cell} {c : Cell} (h : Scr K sc ns S) (O : Own H (c :: (S ++ R))) : SqL K H sc (ns.map V.int) := h H fun d hd => O.2 d (List.mem_cons_of_mem _ (List.mem_append_left _ hd))
def spTaken (K : PySem.W.Frag) : Sp := fun vs H Q _ => ∃ (rw : Addr) (S : List Cell) (c : Cell) (many : Int) (R : List Cell), vs = [.ref rw, .int many] ∧ RowC K rw S c ∧ 0 < many ∧ Own H (c :: (S ++ R)) ∧
  ∀ (v : Int) (c' : Cell) (H' : Hp), 0 ≤ v → v < many → RowC K rw S c' → Own H' (c' :: (S ++ R)) → Q (.int v) H'
def spIsNum : Sp := fun vs H Q _ => ∃ (x lo hi : Int), vs = [.int x, .int lo, .int hi] ∧ Q (.bl (decide (lo ≤ x ∧ x ≤ hi))) H
section
variable {P : Program} {w : World} {K : PySem.W.Frag} {mg : Str → Option Value} {base : Heap} {n lv : Nat}
theorem okOf {x qual : Str} {params : Arguments} {body : List Stmt} {scope : Scope} {f : Addr} {fd : FuncData} {N ps : List Str} {k : Nat} {sp : Sp} (F : FunD K x qual params body scope [] [] f fd) (S : FnScope N ps scope) (len : ∀ vs H Q E, sp vs H Q E → vs.length = ps.length)
    (hbody : ∀ (cdv : Value) (A : Around) (outer : List Env) (s : Shared) (H : Hp) (vs : List V) (Q : VK) (E : XK), Room k (A.deeper (envOfC qual scope s.heap.objs.size f cdv)) → sp vs H Q E →
      ∃ t, PSs (cxOf CX0 P w K mg base N qual scope f cdv A outer s H E).nox body t ∧ t { nx := fun _ H' => Q .non H', rt := Q } (start N vs) H) : FnOk P w K mg base CX0 (k + 1) f fd ps sp :=
  F.ok S len fun cdv A outer s H vs Q E hr h => by
    obtain ⟨t, h1, h2⟩ := hbody cdv A outer s H vs Q E hr h
    exact ⟨t, h1.nox, h2⟩
theorem okX {x qual : Str} {params : Arguments} {body : List Stmt} {scope : Scope} {f : Addr} {fd : FuncData} {N ps : List Str} {k : Nat} {sp : Sp} (F : FunD K x qual params body scope [] [] f fd) (S : FnScope N ps scope) (len : ∀ vs H Q E, sp vs H Q E → vs.length = ps.length)
    (hb : ∀ (cdv : Value) (A : Around) (outer : List Env) (s : Shared) (H : Hp) (vs : List V) (Q : VK) (E : XK), Room k (A.deeper (envOfC qual scope s.heap.objs.size f cdv)) → sp vs H Q E →
      ∃ t, PSs (cxOf (L2.CX P w) P w K mg base N qual scope f cdv A outer s H E) body t ∧ t { nx := fun _ H' => Q .non H', rt := Q } (start N vs) H) : FnOk P w K mg base (L2.CX P w) (k + 1) f fd ps sp := F.ok S len hb
/-- a def whose code object and table are told -/
theorem okTab {p : He.Defn} {x qual : Str} {params : Arguments} {body : List Stmt} {scope : Scope} {fd : FuncData} {N ps : List Str} {k : Nat} {sp : Sp} (F : FunD K x qual params body scope [] [] (He.fAd K p) fd) (S : FnScope N ps scope) (len : ∀ vs H Q E, sp vs H Q E → vs.length = ps.length)
    (hb : ∀ (A : Around) (outer : List Env) (s : Shared) (H : Hp) (vs : List V) (Q : VK) (E : XK), Room k (A.deeper (envOfC qual scope s.heap.objs.size (He.fAd K p) (.ref (He.codeOf K p)))) → sp vs H Q E →
      ∃ t, PSs (cxOf CX0 P w K mg base N qual scope (He.fAd K p) (.ref (He.codeOf K p)) A outer s H E).nox body t ∧ t { nx := fun _ H' => Q .non H', rt := Q } (start N vs) H) : FnOk P w K mg base CX0 (k + 1) (He.fAd K p) fd ps sp := by
  obtain ⟨oc, od, dV, kV, doc, pm, an, cdv, ct, osl, rfl, lk, hcd, _, _⟩ := F.ex
  obtain ⟨c, rfl⟩ := He.codeIn_ref hcd
  have e := He.codeOf_eq lk rfl
  rw [e] at hb
  refine fn_of lk hcd S len fun A outer s H vs Q E hr hsp => ?_
  obtain ⟨t, h1, h2⟩ := hb A outer s H vs Q E hr hsp
  exact ⟨t, h1.nox, h2⟩
theorem ok_taken (T : Txt K mg) : FnOk P w K mg base CX0 1 (He.fAd K ("_law_taken", none)) T.fd__law_taken ["_law_row", "_law_many"] (spTaken K) := by
  refine okOf T.F__law_taken sc__law_taken (fun vs H Q E h => ?_) (fun cdv A outer s H vs Q E hr h => ?_)
  · obtain ⟨_, _, _, _, _, rfl, _⟩ := h
    rfl
  · obtain ⟨rw, S, c, many, R, rfl, ⟨sc, ns, i, z, hsc, hz0, hz1, rfl⟩, hm, O, k⟩ := h
    refine ⟨_, (pss_cons (ps_asg (pe_op op_add (pe_ix ix_list (pv 0) pe_int (fun _ _ => rfl)) pe_int) (pg_sub (pv 0) pe_int set_list)) (pss_cons (ps_if (pt_cmpR op_gt (pe_ix ix_list (pv 0) pe_int (fun _ _ => rfl)) (pe_callB call_len_seq (by rfl) T.n_len PySem.boot_len (pa_cons (pe_ix ix_list (pv 0) pe_int (fun _ _ => rfl)) pa_nil)) (nomark _)) (pss_cons (ps_asg (pe_op op_mod (pe_op op_add (pe_op op_mul (pe_ix ix_list (pv 0) pe_int (fun _ _ => rfl)) pe_int) pe_int) pe_int) (pg_sub (pv 0) pe_int set_list)) (pss_one (ps_ret (pe_op op_mod (pe_op op_fdiv (pe_ix ix_list (pv 0) pe_int (fun _ _ => rfl)) pe_int) (pv 1))))) pss_nil) (pss_cons (ps_set (i := 2) sc__law_taken.nd rfl (Or.inl rfl) (pe_ix ix_list (pe_ix ix_list (pv 0) pe_int (fun _ _ => rfl)) (pe_op op_sub (pe_ix ix_list (pv 0) pe_int (fun _ _ => rfl)) pe_int) (fun _ _ => rfl))) (pss_cons (ps_asg (pe_op op_mod (pe_op op_add (pe_op op_add (pe_op op_mul (pe_ix ix_list (pv 0) pe_int (fun _ _ => rfl)) pe_int) (pv 2)) pe_int) pe_int) (pg_sub (pv 0) pe_int set_list)) (pss_one (ps_ret (pe_op op_mod (pv 2) (pv 1)))))))), ?_⟩
    refine ⟨_, rfl, rw, _, 1, .int i, rfl, rfl, SqL.of O.a0, rfl, _, _, rfl, rfl, _, rfl, rw, _, 1, 1, rfl, rfl, O.a0, rfl, ?_⟩
    have O1 := O.set (o' := .lst [.ref sc, .int ((i : Int) + 1), .int z])
    refine ⟨_, rfl, rw, _, 1, .int ((i : Int) + 1), rfl, rfl, SqL.of O1.a0, rfl, _, rfl, rw, _, 0, .ref sc, rfl, rfl, SqL.of O1.a0, rfl, sc, _, rfl, .inl (O1.scr hsc), _, _, rfl, rfl, _, rfl, ?_⟩
    have hi1 : (i : Int) + 1 = ((i + 1 : Nat) : Int) := by omega
    refine ite2 (fun e => ?_) (fun e => ?_)
    · refine ⟨_, rfl, rw, _, 2, .int z, rfl, rfl, SqL.of O1.a0, rfl, _, _, rfl, rfl, .inr ⟨by decide, by decide⟩, _, _, rfl, rfl, _, _, rfl, rfl, (by show (0 : Int) < 2147483647; decide), _, rfl, rw, _, 2, 2, rfl, rfl, O1.a0, rfl, ?_⟩
      have O2 := O1.set (o' := .lst [.ref sc, .int ((i : Int) + 1), .int ((z * 48271 + 11) % 2147483647)])
      have hz2 := Int.emod_nonneg (z * 48271 + 11) (by decide : (2147483647 : Int) ≠ 0)
      have hz3 := Int.emod_lt_of_pos (z * 48271 + 11) (by decide : (0 : Int) < 2147483647)
      refine ⟨_, rfl, rw, _, 2, .int ((z * 48271 + 11) % 2147483647), rfl, rfl, SqL.of O2.a0, rfl, _, _, rfl, rfl, ⟨by decide, by decide⟩, _, rfl, _, _, rfl, rfl, hm, ?_⟩
      exact k _ _ _ (Int.emod_nonneg _ (by omega)) (Int.emod_lt_of_pos _ hm) ⟨sc, ns, i + 1, _, hsc, hz2, hz3, rfl⟩ O2
    · have hlt : i < ns.length := by
        have e' : ¬ decide ((((ns.map V.int).length : Nat) : Int) < (i : Int) + 1) = true := e
        rw [List.length_map] at e'
        have := of_decide_eq_false (Bool.eq_false_iff.mpr e')
        omega
      refine ⟨_, rfl, rw, _, 0, .ref sc, rfl, rfl, SqL.of O1.a0, rfl, _, rfl, rw, _, 1, .int ((i : Int) + 1), rfl, rfl, SqL.of O1.a0, rfl, _, _, rfl, rfl, sc, _, _, .int ns[i], rfl, rfl, O1.scr hsc, ?_, ?_⟩
      · have e1 : (i : Int) + 1 - 1 = (i : Int) := by omega
        rw [e1]
        refine atI_nat ?_
        rw [List.getElem?_map, List.getElem?_eq_getElem hlt]
        rfl
      · refine ⟨_, rfl, rw, _, 2, .int z, rfl, rfl, SqL.of O1.a0, rfl, _, _, rfl, rfl, .inr ⟨by decide, by decide⟩, _, rfl, _, _, rfl, rfl, _, _, rfl, rfl, _, _, rfl, rfl, (by show (0 : Int) < 2147483647; decide), _, rfl, rw, _, 2, 2, rfl, rfl, O1.a0, rfl, ?_⟩
        have O2 := O1.set (o' := .lst [.ref sc, .int ((i : Int) + 1), .int ((z * 48271 + ns[i] + 11) % 2147483647)])
        have hz2 := Int.emod_nonneg (z * 48271 + ns[i] + 11) (by decide : (2147483647 : Int) ≠ 0)
        have hz3 := Int.emod_lt_of_pos (z * 48271 + ns[i] + 11) (by decide : (0 : Int) < 2147483647)
        refine ⟨_, rfl, _, rfl, _, _, rfl, rfl, hm, ?_⟩
        exact k _ _ _ (Int.emod_nonneg _ (by omega)) (Int.emod_lt_of_pos _ hm) ⟨sc, ns, i + 1, _, hsc, hz2, hz3, rfl⟩ O2
theorem ok_is_number (T : Txt K mg) : FnOk P w K mg base CX0 1 (He.fAd K ("is_number", none)) T.fd_is_number ["part", "low", "high"] spIsNum := by
  refine okOf T.F_is_number sc_is_number (fun vs H Q E h => ?_) (fun cdv A outer s H vs Q E hr h => ?_)
  · obtain ⟨_, _, _, rfl, _⟩ := h
    rfl
  · obtain ⟨x, lo, hi, rfl, k⟩ := h
    refine ⟨_, (pss_one (ps_ret (pe_and (pe_callB call_isi (by rfl) T.n_isinstance (by decide +kernel) (pa_cons (pv 0) (pa_cons (pe_bltn (v := .ty "int") (by rfl) T.n_int (by decide +kernel) rfl) pa_nil))) (pe_and (pe_not (pe_callB call_isi (by rfl) T.n_isinstance (by decide +kernel) (pa_cons (pv 0) (pa_cons (pe_bltn (v := .ty "bool") (by rfl) T.n_bool (by decide +kernel) rfl) pa_nil)))) (pe_one (pe_chain op_le op_le (pv 1) (pv 0) (pv 2))))))), ?_⟩
    refine ⟨_, rfl, _, _, _, _, true, rfl, ClsV.ty _, TyX.base (.int x), kit_ty (by decide +kernel), true, rfl, iteT ?_⟩
    refine ⟨_, rfl, _, _, _, _, false, rfl, ClsV.ty _, TyX.base (.int x), kit_ty (by decide +kernel), false, rfl, true, rfl, iteT ?_⟩
    refine ⟨_, rfl, _, rfl, lo, x, rfl, rfl, _, rfl, ?_⟩
    by_cases h1 : lo ≤ x
    · rw [decide_eq_true h1]
      refine iteT ⟨_, rfl, x, hi, rfl, rfl, ?_⟩
      have e : decide (x ≤ hi) = decide (lo ≤ x ∧ x ≤ hi) := by simp [h1]
      show Q (.bl (decide (x ≤ hi))) H
      rw [e]
      exact k
    · rw [decide_eq_false h1]
      refine iteF ?_
      have e : decide (lo ≤ x ∧ x ≤ hi) = false := by simp [h1]
      rw [e] at k
      exact k
end
-- WwWd
/-! ### rules whose reading names the written part by itself -/
theorem mt_cntK (K : PySem.W.Frag) {X : Cx} (hK : X.K = K) : MtR X "list.count" (rCntB K) := by
  subst hK
  exact mt_lcountB
theorem mt_idxK (K : PySem.W.Frag) {X : Cx} (hK : X.K = K) : MtR X "list.index" (rIndex K) := by
  subst hK
  exact mt_index
theorem ix_listK (K : PySem.W.Frag) {X : Cx} (hK : X.K = K) : IxR X (rIxL K) := by
  subst hK
  exact ix_list
theorem op_inK (K : PySem.W.Frag) {X : Cx} (hK : X.K = K) : OpR X (compareOp .In) (rIn K false) := by
  subst hK
  exact op_in_seq
theorem pe_bmK (K : PySem.W.Frag) {X : Cx} (hK : X.K = K) {o e : Expr} {es : List Expr} {to : TE} {t : L2.TA} {name : Str} {apos cpos : Pos} {T id : String} {r : V → List V → Hp → VK → Prop} (pa : PlainAttrs T) (slot : Slot T name id) (hty : typeOf (.builtin id) = pure (.type "method_descriptor")) (hm : MtR X id r) (ho : PE X o to) (ha : PA X (e :: es) t)
    (h1 : attributeBase o name X.env (eval o X.env) = eval o X.env := by rfl)
    (h2 : ((backTo cpos (starEach (e :: es) X.env)).all (fun x => !x.1) && (backToKw cpos (keywordEach [] X.env)).all (fun x => x.1.isSome) && decide ((e :: es).length + ([] : List Keyword).length + (if ([] : List Keyword).isEmpty then 0 else 1) < 30)) = true := by rfl)
    (h3 : (apos.endLine == cpos.line) = true := by rfl) (h4 : starEach (e :: es) X.env = (false, eval e X.env) :: starEach es X.env := by rfl) (h5 : (backTo cpos (starEach es X.env)).any (·.1) = false := by rfl) :
    PE X (.Call (.Attribute o name apos) (e :: es) [] cpos) (tBM K T r to t) := by
  subst hK
  exact pe_bm pa slot hty hm ho ha h1 h2 h3 h4 h5
/-! ### refusals, and the word of a refusal -/
section
variable {P : Program} {w : World} {K : PySem.W.Frag} {mg : Str → Option Value} {base : Heap} {n lv : Nat}
theorem ok_BadRule (T : Txt K mg) : FnOk P w K mg base CX0 1 (He.ma K (He.ga K "BadRule") "__init__") T.fd_BadRule___init__ ["self", "number"] (spExI K (He.ga K "BadRule") "number") := by
  refine okOf T.F_BadRule___init__ sc_BadRule___init__ (fun vs H Q E h => ?_) (fun cdv A outer s H vs Q E hr h => ?_)
  · obtain ⟨_, _, rfl, _⟩ := h
    rfl
  · obtain ⟨a, n, rfl, hn, ha, k⟩ := h
    have T1 := (T.xt.xc "BadRule" (by decide)).oex T.ox_BadRule
    refine ⟨_, (pss_cons (ps_expr (pe_weinit (by rfl) T.g_WayError T.xt.sg T.xt.rd T.xt.fc (pa_cons (pv 0) (pa_cons (pe_joined (.cons pe_str (.cons (pe_fmt (pv 1)) .nil))) pa_nil)))) (pss_one (ps_ost (pv 0) (pv 1)))), ?_⟩
    refine ⟨_, rfl, ⟨"rule ", rfl, by decide, _, rfl, .inr ⟨n, rfl, log60 hn, _, rfl, int_fits60 hn (by decide), ?_⟩⟩⟩
    refine ⟨a, _, _, rfl, by show 1 ≤ 1000; decide, T1, ha, ?_⟩
    exact ⟨_, rfl, _, rfl, a, _, rfl, T1, T.na_BadRule_number, .inl ⟨ha, fun dx h1 h2 => k dx h1 h2⟩⟩
theorem ok_BadDeed (T : Txt K mg) : FnOk P w K mg base CX0 1 (He.ma K (He.ga K "BadDeed") "__init__") T.fd_BadDeed___init__ ["self", "number"] (spExI K (He.ga K "BadDeed") "number") := by
  refine okOf T.F_BadDeed___init__ sc_BadDeed___init__ (fun vs H Q E h => ?_) (fun cdv A outer s H vs Q E hr h => ?_)
  · obtain ⟨_, _, rfl, _⟩ := h
    rfl
  · obtain ⟨a, n, rfl, hn, ha, k⟩ := h
    have T1 := (T.xt.xc "BadDeed" (by decide)).oex T.ox_BadDeed
    refine ⟨_, (pss_cons (ps_expr (pe_weinit (by rfl) T.g_WayError T.xt.sg T.xt.rd T.xt.fc (pa_cons (pv 0) (pa_cons (pe_joined (.cons pe_str (.cons (pe_fmt (pv 1)) .nil))) pa_nil)))) (pss_one (ps_ost (pv 0) (pv 1)))), ?_⟩
    refine ⟨_, rfl, ⟨"deed ", rfl, by decide, _, rfl, .inr ⟨n, rfl, log60 hn, _, rfl, int_fits60 hn (by decide), ?_⟩⟩⟩
    refine ⟨a, _, _, rfl, by show 1 ≤ 1000; decide, T1, ha, ?_⟩
    exact ⟨_, rfl, _, rfl, a, _, rfl, T1, T.na_BadDeed_number, .inl ⟨ha, fun dx h1 h2 => k dx h1 h2⟩⟩
theorem ok_BadLeavings (T : Txt K mg) : FnOk P w K mg base CX0 1 (He.ma K (He.ga K "BadLeavings") "__init__") T.fd_BadLeavings___init__ ["self", "number"] (spExI K (He.ga K "BadLeavings") "number") := by
  refine okOf T.F_BadLeavings___init__ sc_BadLeavings___init__ (fun vs H Q E h => ?_) (fun cdv A outer s H vs Q E hr h => ?_)
  · obtain ⟨_, _, rfl, _⟩ := h
    rfl
  · obtain ⟨a, n, rfl, hn, ha, k⟩ := h
    have T1 := (T.xt.xc "BadLeavings" (by decide)).oex T.ox_BadLeavings
    refine ⟨_, (pss_cons (ps_expr (pe_weinit (by rfl) T.g_WayError T.xt.sg T.xt.rd T.xt.fc (pa_cons (pv 0) (pa_cons (pe_joined (.cons pe_str (.cons (pe_fmt (pv 1)) .nil))) pa_nil)))) (pss_one (ps_ost (pv 0) (pv 1)))), ?_⟩
    refine ⟨_, rfl, ⟨"leaving ", rfl, by decide, _, rfl, .inr ⟨n, rfl, log60 hn, _, rfl, int_fits60 hn (by decide), ?_⟩⟩⟩
    refine ⟨a, _, _, rfl, by show 1 ≤ 1000; decide, T1, ha, ?_⟩
    exact ⟨_, rfl, _, rfl, a, _, rfl, T1, T.na_BadLeavings_number, .inl ⟨ha, fun dx h1 h2 => k dx h1 h2⟩⟩
theorem ok_BadText (T : Txt K mg) : FnOk P w K mg base CX0 1 (He.ma K (He.ga K "BadText") "__init__") T.fd_BadText___init__ ["self", "row"] (spExI K (He.ga K "BadText") "row") := by
  refine okOf T.F_BadText___init__ sc_BadText___init__ (fun vs H Q E h => ?_) (fun cdv A outer s H vs Q E hr h => ?_)
  · obtain ⟨_, _, rfl, _⟩ := h
    rfl
  · obtain ⟨a, n, rfl, hn, ha, k⟩ := h
    have T1 := (T.xt.xc "BadText" (by decide)).oex T.ox_BadText
    refine ⟨_, (pss_cons (ps_expr (pe_weinit (by rfl) T.g_WayError T.xt.sg T.xt.rd T.xt.fc (pa_cons (pv 0) (pa_cons (pe_joined (.cons pe_str (.cons (pe_fmt (pv 1)) .nil))) pa_nil)))) (pss_one (ps_ost (pv 0) (pv 1)))), ?_⟩
    refine ⟨_, rfl, ⟨"row ", rfl, by decide, _, rfl, .inr ⟨n, rfl, log60 hn, _, rfl, int_fits60 hn (by decide), ?_⟩⟩⟩
    refine ⟨a, _, _, rfl, by show 1 ≤ 1000; decide, T1, ha, ?_⟩
    exact ⟨_, rfl, _, rfl, a, _, rfl, T1, T.na_BadText_row, .inl ⟨ha, fun dx h1 h2 => k dx h1 h2⟩⟩
end
def wordsL : List Str := ["rule", "hands", "hand", "place", "number", "deed", "room", "ways", "leavings", "text"]
def fldOf (i : Nat) : Option Str := if i = 0 ∨ i = 5 ∨ i = 8 then some "number" else if i = 9 then some "row" else none
/-- what the word of a refusal asks of the exception -/
def wishW (K : PySem.W.Frag) (Q : VK) : XK := fun cls d H => ∃ (i : Nat) (c wd : Str) (L : List Cell), bads[i]? = some c ∧ wordsL[i]? = some wd ∧ cls = .ref (He.ga K c) ∧ Own H L ∧
  ((d = none ∧ fldOf i = none ∧ ∀ H', Own H' L → Q (.str wd) H') ∨
    ∃ (dd : Addr) (f : Str) (n : Int), d = some dd ∧ fldOf i = some f ∧ (dd, HO.xd [(f, .int n)]) ∈ L ∧ ∀ (t : Addr) (H' : Hp), Own H' ((t, .tup [.str wd, .int n]) :: L) → Q (.ref t) H')
def TTword (K : PySem.W.Frag) : (XK → Hp → VK → Prop) → Hp → VK → Prop := fun tl H Q => tl (wishW K Q) H fun _ H' => Q (.str "") H'
def kindsL (c : Str) : List Bool := bads.map fun d => decide (c = d)
theorem kinds_of {i : Nat} {c : Str} (h : bads[i]? = some c) : (kindsL c).countP (· == true) = 1 ∧ (kindsL c)[i]? = some true ∧ (∀ m z, m < i → (kindsL c)[m]? = some z → z = false) ∧ i < 10 := by
  have hi : i < 10 := (List.getElem?_eq_some_iff.mp h).1
  have : i = 0 ∨ i = 1 ∨ i = 2 ∨ i = 3 ∨ i = 4 ∨ i = 5 ∨ i = 6 ∨ i = 7 ∨ i = 8 ∨ i = 9 := by omega
  have key : ∀ (j : Nat), j < 10 → ∀ c, bads[j]? = some c → (kindsL c).countP (· == true) = 1 ∧ (kindsL c)[j]? = some true ∧ ∀ m, m < j → (kindsL c)[m]? = some false := by
    intro j hj c hc
    rcases (show j = 0 ∨ j = 1 ∨ j = 2 ∨ j = 3 ∨ j = 4 ∨ j = 5 ∨ j = 6 ∨ j = 7 ∨ j = 8 ∨ j = 9 by omega) with e | e | e | e | e | e | e | e | e | e <;> subst e <;> obtain rfl := Option.some.inj hc <;> decide +kernel
  obtain ⟨h1, h2, h3⟩ := key i hi c h
  refine ⟨h1, h2, fun m z hm hz => ?_, hi⟩
  rw [h3 m hm] at hz
  exact (Option.some.inj hz).symm
theorem wordIn {i : Nat} {wd : Str} (h : wordsL[i]? = some wd) : inV (.str wd) [.str "rule", .str "deed", .str "leavings"] = decide (i = 0 ∨ i = 5 ∨ i = 8) ∧ decide (V.str wd = V.str "text") = decide (i = 9) := by
  have hi : i < 10 := (List.getElem?_eq_some_iff.mp h).1
  rcases (show i = 0 ∨ i = 1 ∨ i = 2 ∨ i = 3 ∨ i = 4 ∨ i = 5 ∨ i = 6 ∨ i = 7 ∨ i = 8 ∨ i = 9 by omega) with e | e | e | e | e | e | e | e | e | e <;> subst e <;> obtain rfl := Option.some.inj h <;> decide +kernel
theorem len4 {σ : L2.St} (h : σ.length = 4) : ∃ a b c d, σ = [a, b, c, d] := by
  match σ, h with
  | [a, b, c, d], _ => exact ⟨a, b, c, d, rfl⟩
theorem shapedWI {x : Str} {n : Int} (h : PyData.canLay0 (.str x) = true) : SeqAt.shaped (.tuple [.str x, .int n]) = true := by
  refine shaped_of ?_ ?_
  · show (PyData.canLay0 (.str x) && (true && true)) = true
    rw [h]
    rfl
  · show max 0 (max 0 0) + 1 ≤ 64
    decide
theorem pss_ex {X : Cx} {α : Type _} {c : α → Prop} {t : α → TS} {body : List Stmt} (h : ∀ x, c x → PSs X body (t x)) : PSs X body (fun D σ H => ∃ x, c x ∧ t x D σ H) :=
  ⟨fun pins s σ H D I ⟨x, hc, ht⟩ => (h x hc).run pins s σ H D I ht⟩
theorem iteTo {b : Bool} {p q : Prop} (e : b = true) (h : p) : if b = true then p else q := by
  rw [if_pos e]
  exact h
theorem iteFo {b : Bool} {p q : Prop} (e : b = false) (h : q) : if b = true then p else q := by
  rw [if_neg (by rw [e]; decide)]
  exact h
theorem word_gives {X : Cx} (T : Txt X.K X.mg) {cdg : Value} {q : Str} : LamX.GivesTo X ["_law_work", "_law_kinds", "e", "_law_word_here"] "_law_word" (defScope s__law_word) (He.fAd X.K ("_law_word", none)) cdg (defBody s__law_word) "_law_work" q (TTword X.K) := by
  intro f c' s H Q tl act hc h
  refine ⟨_, pss_cons (ps_try_as (X := (cxOf C8.CX0 X.prog X.w X.K X.mg X.base ["_law_work", "_law_kinds", "e", "_law_word_here"] "_law_word" (defScope s__law_word) (He.fAd X.K ("_law_word", none)) cdg X.A X.stack s H C8.E0).nox) (c := .ref (He.ga X.K "WayError")) (i := 2)
      (tb := fun W D σ H => ∃ Ech : XK, (∀ cls d σ' H', σ'.length = 4 → Ech cls d H' → W cls d σ' H') ∧ σ[0]? = some (some (.ref f)) ∧ H c' = some (LamX.CodeO c' q) ∧ tl Ech H fun _ H' => D.nx σ H')
      rfl rfl sc__law_word.nd rfl rfl ⟨rfl, by decide, .inl T.g_WayError⟩ LamX.takes0 (fun W pn xe tk _ => ?_) (fun a oe cls d pn hz hf => (pss_cons (ps_set (i := 1) sc__law_word.nd rfl (Or.inl rfl) (pe_lst (pa_cons (pe_callB (call_isX hz hf) (by rfl) T.n_isinstance (by decide +kernel) (pa_cons (pv 2) (pa_cons (pe_globR rfl T.g_BadRule) pa_nil))) (pa_cons (pe_callB (call_isX hz hf) (by rfl) T.n_isinstance (by decide +kernel) (pa_cons (pv 2) (pa_cons (pe_globR rfl T.g_BadHands) pa_nil))) (pa_cons (pe_callB (call_isX hz hf) (by rfl) T.n_isinstance (by decide +kernel) (pa_cons (pv 2) (pa_cons (pe_globR rfl T.g_BadHand) pa_nil))) (pa_cons (pe_callB (call_isX hz hf) (by rfl) T.n_isinstance (by decide +kernel) (pa_cons (pv 2) (pa_cons (pe_globR rfl T.g_BadPlace) pa_nil))) pa_nil)))))) (pss_cons (ps_set (i := 1) sc__law_word.nd rfl (Or.inl rfl) (pe_op op_cat (pv 1) (pe_lst (pa_cons (pe_callB (call_isX hz hf) (by rfl) T.n_isinstance (by decide +kernel) (pa_cons (pv 2) (pa_cons (pe_globR rfl T.g_BadNumber) pa_nil))) (pa_cons (pe_callB (call_isX hz hf) (by rfl) T.n_isinstance (by decide +kernel) (pa_cons (pv 2) (pa_cons (pe_globR rfl T.g_BadDeed) pa_nil))) (pa_cons (pe_callB (call_isX hz hf) (by rfl) T.n_isinstance (by decide +kernel) (pa_cons (pv 2) (pa_cons (pe_globR rfl T.g_BadRoom) pa_nil))) pa_nil)))))) (pss_cons (ps_set (i := 1) sc__law_word.nd rfl (Or.inl rfl) (pe_op op_cat (pv 1) (pe_lst (pa_cons (pe_callB (call_isX hz hf) (by rfl) T.n_isinstance (by decide +kernel) (pa_cons (pv 2) (pa_cons (pe_globR rfl T.g_BadWays) pa_nil))) (pa_cons (pe_callB (call_isX hz hf) (by rfl) T.n_isinstance (by decide +kernel) (pa_cons (pv 2) (pa_cons (pe_globR rfl T.g_BadLeavings) pa_nil))) (pa_cons (pe_callB (call_isX hz hf) (by rfl) T.n_isinstance (by decide +kernel) (pa_cons (pv 2) (pa_cons (pe_globR rfl T.g_BadText) pa_nil))) pa_nil)))))) (pss_cons (ps_if (PW.pt (pw_or (pt_cmpR op_ne (pe_bmK X.K (by rfl) PySem.F.plainAttrs_list PySem.F.slot_list_count PySem.F.type_list_count (mt_cntK X.K (by rfl)) (pv 1) (pa_cons pe_bl pa_nil)) pe_int (nomark _)) (pw_or1 (pt_not (pt_val (pe_callB (call_isX hz hf) (by rfl) T.n_isinstance (by decide +kernel) (pa_cons (pv 2) (pa_cons (pe_bltn (v := .ty "ValueError") (by rfl) T.n_ValueError (by decide +kernel) rfl) pa_nil)))))))) (pss_one (ps_ret pe_str)) pss_nil) (pss_cons (ps_set (i := 3) sc__law_word.nd rfl (Or.inl rfl) (pe_lst (pa_cons pe_str (pa_cons pe_str (pa_cons pe_str (pa_cons pe_str (pa_cons pe_str (pa_cons pe_str (pa_cons pe_str (pa_cons pe_str (pa_cons pe_str (pa_cons pe_str pa_nil)))))))))))) (pss_cons (ps_set (i := 3) sc__law_word.nd rfl (Or.inl rfl) (pe_ix (ix_listK X.K (by rfl)) (pv 3) (pe_bmK X.K (by rfl) PySem.F.plainAttrs_list PySem.F.slot_list_index PySem.F.type_list_index (mt_idxK X.K (by rfl)) (pv 1) (pa_cons pe_bl pa_nil)) (fun _ _ => rfl))) (pss_cons (ps_if (pt_cmpR (op_inK X.K (by rfl)) (pv 3) (pe_tup (pa_cons pe_str (pa_cons pe_str (pa_cons pe_str pa_nil)))) (by rfl)) (pss_one (ps_ret (pe_tup (pa_cons (pv 3) (pa_cons (pe_xg hz hf (pv 2)) pa_nil))))) pss_nil) (pss_one (ps_ret (pe_ifExp (pt_cmpR op_eq (pv 3) pe_str (nomark _)) (pe_tup (pa_cons (pv 3) (pa_cons (pe_xg hz hf (pv 2)) pa_nil))) (pv 3))))))))))))) (pss_one (ps_ret pe_str)), ?_⟩
  · refine pss_ex (c := fun Ech : XK => ∀ cls d (σ' : L2.St) H', σ'.length = 4 → Ech cls d H' → W cls d σ' H') fun Ech hW => pss_one (ps_expr (act _ pn xe Ech _ _ (takesLen tk) fun cls d σ' H' e l => hW cls d σ' H' l e))
  · refine ⟨wishW X.K Q, fun cls d σ' H' hl hw => ?_, rfl, hc, h⟩
    obtain ⟨b0, b1, b2, b3, rfl⟩ := len4 hl
    obtain ⟨i, c, wd, L, hi, hwd, rfl, O, hk⟩ := hw
    have hcm : c ∈ bads := List.mem_of_getElem? hi
    have hdd : ∀ dd, d = some dd → ∃ fs, (dd, HO.xd fs) ∈ L := fun dd e => by
      rcases hk with ⟨e2, _⟩ | ⟨d2, f2, n2, e2, _, hm, _⟩
      · rw [e2] at e
        cases e
      · rw [e2] at e
        cases e
        exact ⟨_, hm⟩
    refine ⟨true, T.xt.ex c hcm, fun _ a ha => ?_, fun z => nomatch z⟩
    have hx := T.xt.xc c hcm
    have hd0 : ∀ {HH : Hp} {LL : List Cell}, Own HH (LL ++ L) → ∀ dd, d = some dd → ∃ fs, HH dd = some (.xd fs) := fun O dd e => by
      obtain ⟨fs, hm⟩ := hdd dd e
      exact ⟨fs, O.mem (List.mem_append_right _ hm)⟩
    have hd1 := hd0 (LL := []) O
    refine ⟨_, rfl, _, _, _, _, rfl, hx, hd1, rfl, fun u r => r, T.xt.kit c hcm "BadRule" (by decide), ?_⟩
    refine ⟨_, rfl, _, _, _, _, rfl, hx, hd1, rfl, fun u r => r, T.xt.kit c hcm "BadHands" (by decide), ?_⟩
    refine ⟨_, rfl, _, _, _, _, rfl, hx, hd1, rfl, fun u r => r, T.xt.kit c hcm "BadHand" (by decide), ?_⟩
    refine ⟨_, rfl, _, _, _, _, rfl, hx, hd1, rfl, fun u r => r, T.xt.kit c hcm "BadPlace" (by decide), ?_⟩
    refine ⟨by show 4 ≤ sizeLine; decide, fun p1 hp1 => ?_⟩
    have O1 := O.new (o := .lst ([decide (c = "BadRule"), decide (c = "BadHands"), decide (c = "BadHand"), decide (c = "BadPlace")].map V.bl)) hp1
    have hd2 := hd0 (LL := [_]) O1
    refine ⟨_, rfl, ?_⟩
    refine ⟨_, rfl, _, _, _, _, rfl, hx, hd2, rfl, fun u r => r, T.xt.kit c hcm "BadNumber" (by decide), ?_⟩
    refine ⟨_, rfl, _, _, _, _, rfl, hx, hd2, rfl, fun u r => r, T.xt.kit c hcm "BadDeed" (by decide), ?_⟩
    refine ⟨_, rfl, _, _, _, _, rfl, hx, hd2, rfl, fun u r => r, T.xt.kit c hcm "BadRoom" (by decide), ?_⟩
    refine ⟨by show 3 ≤ sizeLine; decide, fun p2 hp2 => ?_⟩
    have O2 := O1.new (o := .lst ([decide (c = "BadNumber"), decide (c = "BadDeed"), decide (c = "BadRoom")].map V.bl)) hp2
    refine ⟨p1, p2, _, _, rfl, rfl, O2.a1, O2.a0, by show 4 + 3 ≤ sizeLine; decide, fun p3 hp3 => ?_⟩
    have O3 := O2.new (o := .lst ([decide (c = "BadRule"), decide (c = "BadHands"), decide (c = "BadHand"), decide (c = "BadPlace"), decide (c = "BadNumber"), decide (c = "BadDeed"), decide (c = "BadRoom")].map V.bl)) hp3
    have hd3 := hd0 (LL := [_, _, _]) O3
    refine ⟨_, rfl, ?_⟩
    refine ⟨_, rfl, _, _, _, _, rfl, hx, hd3, rfl, fun u r => r, T.xt.kit c hcm "BadWays" (by decide), ?_⟩
    refine ⟨_, rfl, _, _, _, _, rfl, hx, hd3, rfl, fun u r => r, T.xt.kit c hcm "BadLeavings" (by decide), ?_⟩
    refine ⟨_, rfl, _, _, _, _, rfl, hx, hd3, rfl, fun u r => r, T.xt.kit c hcm "BadText" (by decide), ?_⟩
    refine ⟨by show 3 ≤ sizeLine; decide, fun p4 hp4 => ?_⟩
    have O4 := O3.new (o := .lst ([decide (c = "BadWays"), decide (c = "BadLeavings"), decide (c = "BadText")].map V.bl)) hp4
    refine ⟨p3, p4, _, _, rfl, rfl, O4.a1, O4.a0, by show 7 + 3 ≤ sizeLine; decide, fun p5 hp5 => ?_⟩
    have O5 := O4.new (o := .lst ((kindsL c).map V.bl)) hp5
    have hd5 := hd0 (LL := [_, _, _, _, _]) O5
    obtain ⟨k1, k2, k3, hi10⟩ := kinds_of hi
    refine ⟨_, rfl, .inl ⟨rfl, _, SqL.of O5.a0⟩, p5, kindsL c, true, rfl, rfl, SqL.of O5.a0, ?_⟩
    rw [k1]
    refine ⟨rfl, false, rfl, iteF ?_⟩
    refine ⟨_, rfl, _, _, _, _, rfl, hx, hd5, rfl, fun u r => r, T.xt.kv c hcm, _, rfl, iteF ?_⟩
    refine ⟨by show 10 ≤ sizeLine; decide, fun p6 hp6 => ?_⟩
    have O6 := O5.new (o := .lst (wordsL.map V.str)) hp6
    refine ⟨_, rfl, _, rfl, .inl ⟨rfl, _, SqL.of O6.a1⟩, p5, _, _, i, .bl true, rfl, rfl, SqL.of O6.a1, rfl, ?_, by rw [List.getElem?_map, k2]; rfl, rfl, fun m z hm hz => ?_, ?_⟩
    · rw [List.all_eq_true]
      intro x hx2
      obtain ⟨b, _, rfl⟩ := List.mem_map.mp hx2
      rfl
    · rw [List.getElem?_map] at hz
      cases e : (kindsL c)[m]? with
      | none =>
        rw [e] at hz
        cases hz
      | some b =>
        rw [e] at hz
        have ez : V.bl b = z := Option.some.inj hz
        rw [← ez, k3 m b hm e]
        rfl
    refine ⟨p6, _, _, .str wd, rfl, rfl, SqL.of O6.a0, atI_nat (by rw [List.getElem?_map, hwd]; rfl), ?_⟩
    obtain ⟨w1, w2⟩ := wordIn hwd
    have hpar : ∀ {f : Str}, fldOf i = some f → PySem.W.findIn X.K (.ref (He.ga X.K c)) f = some none := fun {f} hf => by
      unfold fldOf at hf
      split at hf
      · rename_i h3
        obtain rfl := Option.some.inj hf
        rcases h3 with e | e | e <;> subst e <;> obtain rfl := Option.some.inj hi
        · exact T.na_BadRule_number
        · exact T.na_BadDeed_number
        · exact T.na_BadLeavings_number
      · split at hf
        · rename_i e
          subst e
          obtain rfl := Option.some.inj hf
          obtain rfl := Option.some.inj hi
          exact T.na_BadText_row
        · cases hf
    refine ⟨_, rfl, by show 3 ≤ sizeLine; decide, fun p7 hp7 => ?_⟩
    have O7 := O6.new (o := .tup [.str "rule", .str "deed", .str "leavings"]) hp7
    refine ⟨p7, _, rfl, .inr (SqT.of O7.a0), rfl, rfl, ?_⟩
    rw [w1]
    have OL : ∀ {HH : Hp} {LL : List Cell}, Own HH (LL ++ L) → Own HH L := fun O => Own.right O
    refine ⟨_, rfl, ?_⟩
    by_cases h3 : i = 0 ∨ i = 5 ∨ i = 8
    · refine iteTo (decide_eq_true h3) ?_
      rcases hk with ⟨_, e2, _⟩ | ⟨dd, f2, n2, rfl, e2, hm, k⟩
      · unfold fldOf at e2
        rw [if_pos h3] at e2
        cases e2
      have e3 := e2
      unfold fldOf at e3
      rw [if_pos h3] at e3
      obtain rfl := Option.some.inj e3
      refine ⟨_, rfl, _, rfl, rfl, _, dd, _, .int n2, rfl, hx, hpar e2, rfl, O7.mem (show (dd, HO.xd [("number", V.int n2)]) ∈ _ by simp [hm]), rfl, by show 2 ≤ sizeLine; decide, fun p8 hp8 => ?_⟩
      have O8 := O7.new (o := .tup [.str wd, .int n2]) hp8
      exact k p8 _ (O8.sub (List.Sublist.cons_cons _ (List.sublist_append_right [_, _, _, _, _, _, _] L)))
    · refine iteFo (decide_eq_false h3) ?_
      refine ⟨_, rfl, ?_⟩
      refine ⟨rfl, _, rfl, ?_⟩
      rw [w2]
      by_cases h9 : i = 9
      · refine iteTo (decide_eq_true h9) ?_
        rcases hk with ⟨_, e2, _⟩ | ⟨dd, f2, n2, rfl, e2, hm, k⟩
        · unfold fldOf at e2
          rw [if_neg h3, if_pos h9] at e2
          cases e2
        have e3 := e2
        unfold fldOf at e3
        rw [if_neg h3, if_pos h9] at e3
        obtain rfl := Option.some.inj e3
        refine ⟨_, rfl, _, rfl, rfl, _, dd, _, .int n2, rfl, hx, hpar e2, rfl, O7.mem (show (dd, HO.xd [("row", V.int n2)]) ∈ _ by simp [hm]), rfl, by show 2 ≤ sizeLine; decide, fun p8 hp8 => ?_⟩
        have O8 := O7.new (o := .tup [.str wd, .int n2]) hp8
        exact k p8 _ (O8.sub (List.Sublist.cons_cons _ (List.sublist_append_right [_, _, _, _, _, _, _] L)))
      · refine iteFo (decide_eq_false h9) ⟨_, rfl, ?_⟩
        rcases hk with ⟨rfl, e2, k⟩ | ⟨dd, f2, n2, rfl, e2, hm, k⟩
        · exact k _ (O7.sub (List.sublist_append_right [_, _, _, _, _, _, _] L))
        · unfold fldOf at e2
          rw [if_neg h3, if_neg h9] at e2
          cases e2
-- WwGn
/-! ### whether something is a number, a rule, a deed, an ask: of whatever texts and numbers -/
inductive OkF : V → Prop
  | int (i : Int) : OkF (.int i)
  | str (x : Str) : OkF (.str x)
  | non : OkF .non
def numIn : V → Int → Int → Bool
  | .int i, lo, hi => decide (lo ≤ i ∧ i ≤ hi)
  | _, _, _ => false
theorem OkF.flat {x : V} (h : OkF x) : flatV x = true := by cases h <;> rfl
def ruleB : List V → Bool
  | [a, b, c, d, e] => numIn a 1 64 && (inV a [.int 1, .int 2, .int 4] && (numIn b 1 4 && (inV c [.str "through", .str "back"] && (inV d [.str "in", .str "by"] && inV e [.str "first", .str "late"]))))
  | _ => false
def askB : List V → Bool
  | [.str a, b] => if inV (.str a) [.str "look", .str "cell"] then numIn b 0 63 else inV (.str a) [.str "bring", .str "home"] && numIn b 0 15
  | _ => false
def eqS (x : V) (s : Str) : Bool := decide (x = .str s)
def deedB (m : Int) : List V → Bool
  | [a, b, c] => numIn b 0 (m - 1) && (numIn c 0 63 && eqS a "look")
  | [a, b, c, d] => numIn b 0 (m - 1) && (numIn c 0 63 && (eqS a "set" && numIn d 0 999))
  | _ => false
def spIsNumG : Sp := fun vs H Q _ => ∃ (x : V) (lo hi : Int), vs = [x, .int lo, .int hi] ∧ OkF x ∧ Q (.bl (numIn x lo hi)) H
def spIsRuleG : Sp := fun vs H Q _ => ∃ (ra : Addr) (xs : List V), vs = [.ref ra] ∧ (∀ x ∈ xs, OkF x) ∧ H ra = some (.tup xs) ∧ xs.length ≤ 1000 ∧ Q (.bl (ruleB xs)) H
def spIsAskG : Sp := fun vs H Q _ => ∃ (da : Addr) (xs : List V) (R : List Cell), vs = [.ref da] ∧ (∀ x ∈ xs, OkF x) ∧ (da, HO.tup xs) ∈ R ∧ xs.length ≤ 1000 ∧ Own H R ∧ ∀ H' : Hp, Own H' R → Q (.bl (askB xs)) H'
def spIsDeedG : Sp := fun vs H Q _ => ∃ (da : Addr) (m : Int) (xs : List V), vs = [.ref da, .int m] ∧ (∀ x ∈ xs, OkF x) ∧ H da = some (.tup xs) ∧ xs.length ≤ 100000 ∧ Q (.bl (deedB m xs)) H
theorem len5 {xs : List V} (h : xs.length = 5) : ∃ a b c d e, xs = [a, b, c, d, e] := by
  match xs, h with
  | [a, b, c, d, e], _ => exact ⟨a, b, c, d, e, rfl⟩
theorem len2 {xs : List V} (h : xs.length = 2) : ∃ a b, xs = [a, b] := by
  match xs, h with
  | [a, b], _ => exact ⟨a, b, rfl⟩
theorem ruleB_len {xs : List V} (h : xs.length ≠ 5) : ruleB xs = false := by
  unfold ruleB
  split
  · exact absurd rfl h
  · rfl
theorem askB_len {xs : List V} (h : xs.length ≠ 2) : askB xs = false := by
  unfold askB
  split
  · exact absurd rfl h
  · rfl
theorem eq_flat {a : V} (h : OkF a) {s : Str} : scal a (.str s) = true := by cases h <;> rfl
theorem at3 (a b c : V) (r : List V) : atI (a :: b :: c :: r) 0 = some a ∧ atI (a :: b :: c :: r) 1 = some b ∧ atI (a :: b :: c :: r) 2 = some c :=
  ⟨atI_nat (j := 0) rfl, atI_nat (j := 1) rfl, atI_nat (j := 2) rfl⟩
theorem neB {n k : Nat} (h : n ≠ k) : (!decide (V.int ((n : Nat) : Int) = V.int ((k : Nat) : Int))) = true := by
  rw [decide_eq_false (fun z => h (by have z : ((n : Nat) : Int) = (k : Int) := V.int.inj z; omega))]
  rfl
section
variable {P : Program} {w : World} {K : PySem.W.Frag} {mg : Str → Option Value} {base : Heap} {n lv : Nat}
theorem ok_is_numG (T : Txt K mg) : FnOk P w K mg base CX0 1 (He.fAd K ("is_number", none)) T.fd_is_number ["part", "low", "high"] spIsNumG := by
  refine okOf T.F_is_number sc_is_number (fun vs H Q E h => ?_) (fun cdv A outer s H vs Q E hr h => ?_)
  · obtain ⟨_, _, _, rfl, _⟩ := h
    rfl
  · obtain ⟨x, lo, hi, rfl, hx, k⟩ := h
    refine ⟨_, (pss_one (ps_ret (pe_and (pe_callB call_isi (by rfl) T.n_isinstance (by decide +kernel) (pa_cons (pv 0) (pa_cons (pe_bltn (v := .ty "int") (by rfl) T.n_int (by decide +kernel) rfl) pa_nil))) (pe_and (pe_not (pe_callB call_isi (by rfl) T.n_isinstance (by decide +kernel) (pa_cons (pv 0) (pa_cons (pe_bltn (v := .ty "bool") (by rfl) T.n_bool (by decide +kernel) rfl) pa_nil)))) (pe_one (pe_chain op_le op_le (pv 1) (pv 0) (pv 2))))))), ?_⟩
    cases hx with
    | int x =>
      refine ⟨_, rfl, _, _, _, _, true, rfl, ClsV.ty _, TyX.base (.int x), kit_ty (by decide +kernel), true, rfl, iteT ?_⟩
      refine ⟨_, rfl, _, _, _, _, false, rfl, ClsV.ty _, TyX.base (.int x), kit_ty (by decide +kernel), false, rfl, true, rfl, iteT ?_⟩
      refine ⟨_, rfl, _, rfl, lo, x, rfl, rfl, _, rfl, ?_⟩
      by_cases h1 : lo ≤ x
      · rw [decide_eq_true h1]
        refine iteT ⟨_, rfl, x, hi, rfl, rfl, ?_⟩
        have e : decide (x ≤ hi) = decide (lo ≤ x ∧ x ≤ hi) := by simp [h1]
        show Q (.bl (decide (x ≤ hi))) H
        rw [e]
        exact k
      · rw [decide_eq_false h1]
        refine iteF ?_
        have e : numIn (.int x) lo hi = false := by unfold numIn; simp [h1]
        rw [e] at k
        exact k
    | str x => exact ⟨_, rfl, _, _, _, _, false, rfl, ClsV.ty _, TyX.base (.str x), kit_ty (by decide +kernel), false, rfl, iteF k⟩
    | non => exact ⟨_, rfl, _, _, _, _, false, rfl, ClsV.ty _, TyX.base .non, kit_ty (by decide +kernel), false, rfl, iteF k⟩
theorem ok_is_ruleG (T : Txt K mg) : FnOk P w K mg base CX0 2 (He.fAd K ("is_rule", none)) T.fd_is_rule ["rule"] spIsRuleG := by
  have G_is_number := ok_is_numG (P := P) (w := w) (base := base) T
  refine okOf T.F_is_rule sc_is_rule (fun vs H Q E h => ?_) (fun cdv A outer s H vs Q E hr h => ?_)
  · obtain ⟨_, _, rfl, _⟩ := h
    rfl
  · obtain ⟨ra, xs, rfl, hxs, hra, hl, k⟩ := h
    refine ⟨_, (pss_cons (ps_if (PW.pt (pw_or (pt_not (pt_val (pe_callB call_isi (by rfl) T.n_isinstance (by decide +kernel) (pa_cons (pv 0) (pa_cons (pe_bltn (v := .ty "tuple") (by rfl) T.n_tuple (by decide +kernel) rfl) pa_nil))))) (pw_or (pt_cmpR op_ne (pe_callB call_len_seq (by rfl) T.n_len PySem.boot_len (pa_cons (pv 0) pa_nil)) pe_int (nomark _)) (pw_or (pt_not (pt_val (pe_call G_is_number (hr.mono (by omega)) rfl T.g_is_number T.k_is_number T.b_is_number .nil pass0 (pa_cons (pe_ix ix_tup (pv 0) pe_int (fun _ _ => rfl)) (pa_cons pe_int (pa_cons (pe_globI rfl T.g_CELLS) pa_nil)))))) (pw_or1 (pt_cmpR op_notIn_seq (pe_ix ix_tup (pv 0) pe_int (fun _ _ => rfl)) (pe_globR rfl T.g_SETS) (by rfl))))))) (pss_one (ps_ret pe_bl)) pss_nil) (pss_one (ps_ret (pe_and (pe_call G_is_number (hr.mono (by omega)) rfl T.g_is_number T.k_is_number T.b_is_number .nil pass0 (pa_cons (pe_ix ix_tup (pv 0) pe_int (fun _ _ => rfl)) (pa_cons pe_int (pa_cons (pe_globI rfl T.g_MOST_WAYS) pa_nil)))) (pe_and (pe_cmpR op_in_seq (pe_ix ix_tup (pv 0) pe_int (fun _ _ => rfl)) (pe_globR rfl T.g_WRITES) (by rfl)) (pe_and (pe_cmpR op_in_seq (pe_ix ix_tup (pv 0) pe_int (fun _ _ => rfl)) (pe_globR rfl T.g_TAKES) (by rfl)) (pe_one (pe_cmpR op_in_seq (pe_ix ix_tup (pv 0) pe_int (fun _ _ => rfl)) (pe_globR rfl T.g_LEAVES) (by rfl))))))))), ?_⟩
    refine ⟨_, rfl, _, _, _, _, true, rfl, ClsV.ty _, TyX.base (.tup hra), kit_ty (by decide +kernel), true, rfl, iteF ?_⟩
    refine ⟨_, rfl, ra, _, rfl, .inr (SqT.of hra), rfl, _, rfl, ?_⟩
    by_cases h5 : xs.length = 5
    · obtain ⟨a, b, c, d, e, rfl⟩ := len5 h5
      have fa : OkF a := hxs a (by simp)
      have fb : OkF b := hxs b (by simp)
      have fc : OkF c := hxs c (by simp)
      have fd : OkF d := hxs d (by simp)
      have fe : OkF e := hxs e (by simp)
      refine iteFo rfl ?_
      refine ⟨_, rfl, ra, _, 0, a, rfl, rfl, SqT.of hra, rfl, a, 1, 64, rfl, fa, _, rfl, ?_⟩
      cases h1 : numIn a 1 64 with
      | false =>
        refine iteT ?_
        rw [show ruleB [a, b, c, d, e] = false by show (numIn a 1 64 && _) = false; rw [h1]; rfl] at k
        exact k
      | true =>
        refine iteF ?_
        refine ⟨_, rfl, ra, _, 0, a, rfl, rfl, SqT.of hra, rfl, _, _, rfl, .inr (T.t_SETS H), fa.flat, rfl, _, rfl, ?_⟩
        cases h2 : inV a [.int 1, .int 2, .int 4] with
        | false =>
          refine iteT ?_
          rw [show ruleB [a, b, c, d, e] = false by show (numIn a 1 64 && (inV a [.int 1, .int 2, .int 4] && _)) = false; rw [h1, h2]; rfl] at k
          exact k
        | true =>
          refine iteF ?_
          refine ⟨_, rfl, ra, _, 1, b, rfl, rfl, SqT.of hra, rfl, b, 1, 4, rfl, fb, _, rfl, ?_⟩
          have ek : ruleB [a, b, c, d, e] = (numIn b 1 4 && (inV c [.str "through", .str "back"] && (inV d [.str "in", .str "by"] && inV e [.str "first", .str "late"]))) := by show (numIn a 1 64 && (inV a [.int 1, .int 2, .int 4] && _)) = _; rw [h1, h2]; rfl
          rw [ek] at k
          cases h3 : numIn b 1 4 with
          | false =>
            rw [h3] at k
            exact iteF k
          | true =>
            rw [h3, Bool.true_and] at k
            refine iteT ?_
            refine ⟨_, rfl, ra, _, 2, c, rfl, rfl, SqT.of hra, rfl, _, _, rfl, .inr (T.t_WRITES H), fc.flat, rfl, _, rfl, ?_⟩
            cases h4 : inV c [.str "through", .str "back"] with
            | false =>
              rw [h4] at k
              exact iteF k
            | true =>
              rw [h4, Bool.true_and] at k
              refine iteT ?_
              refine ⟨_, rfl, ra, _, 3, d, rfl, rfl, SqT.of hra, rfl, _, _, rfl, .inr (T.t_TAKES H), fd.flat, rfl, _, rfl, ?_⟩
              cases h6 : inV d [.str "in", .str "by"] with
              | false =>
                rw [h6] at k
                exact iteF k
              | true =>
                rw [h6, Bool.true_and] at k
                refine iteT ?_
                exact ⟨_, rfl, ra, _, 4, e, rfl, rfl, SqT.of hra, rfl, _, _, rfl, .inr (T.t_LEAVES H), fe.flat, rfl, k⟩
    · refine iteTo (neB h5) ?_
      rw [ruleB_len h5] at k
      exact k
theorem ok_is_deedG (T : Txt K mg) : FnOk P w K mg base CX0 2 (He.fAd K ("is_deed", none)) T.fd_is_deed ["deed", "hands"] spIsDeedG := by
  have G_is_number := ok_is_numG (P := P) (w := w) (base := base) T
  refine okOf T.F_is_deed sc_is_deed (fun vs H Q E h => ?_) (fun cdv A outer s H vs Q E hr h => ?_)
  · obtain ⟨_, _, _, rfl, _⟩ := h
    rfl
  · obtain ⟨da, m, xs, rfl, hxs, hda, hl, k⟩ := h
    refine ⟨_, (pss_cons (ps_if (PW.pt (pw_or (pt_not (pt_val (pe_callB call_isi (by rfl) T.n_isinstance (by decide +kernel) (pa_cons (pv 0) (pa_cons (pe_bltn (v := .ty "tuple") (by rfl) T.n_tuple (by decide +kernel) rfl) pa_nil))))) (pw_or (pt_cmpR op_lt (pe_callB call_len_seq (by rfl) T.n_len PySem.boot_len (pa_cons (pv 0) pa_nil)) pe_int (nomark _)) (pw_or1 (pt_not (pt_val (pe_call G_is_number (hr.mono (by omega)) rfl T.g_is_number T.k_is_number T.b_is_number .nil pass0 (pa_cons (pe_ix ix_tup (pv 0) pe_int (fun _ _ => rfl)) (pa_cons pe_int (pa_cons (pe_op op_sub (pv 1) pe_int) pa_nil)))))))))) (pss_one (ps_ret pe_bl)) pss_nil) (pss_cons (ps_if (pt_not (pt_val (pe_call G_is_number (hr.mono (by omega)) rfl T.g_is_number T.k_is_number T.b_is_number .nil pass0 (pa_cons (pe_ix ix_tup (pv 0) pe_int (fun _ _ => rfl)) (pa_cons pe_int (pa_cons (pe_op op_sub (pe_globI rfl T.g_CELLS) pe_int) pa_nil)))))) (pss_one (ps_ret pe_bl)) pss_nil) (pss_cons (ps_if (pt_cmpR op_eq (pe_ix ix_tup (pv 0) pe_int (fun _ _ => rfl)) (pe_globS rfl T.g_LOOK) (nomark _)) (pss_one (ps_ret (pe_cmpR op_eq (pe_callB call_len_seq (by rfl) T.n_len PySem.boot_len (pa_cons (pv 0) pa_nil)) pe_int (nomark _)))) pss_nil) (pss_one (ps_ret (pe_and (pe_cmpR op_eq (pe_ix ix_tup (pv 0) pe_int (fun _ _ => rfl)) (pe_globS rfl T.g_SET) (nomark _)) (pe_and (pe_cmpR op_eq (pe_callB call_len_seq (by rfl) T.n_len PySem.boot_len (pa_cons (pv 0) pa_nil)) pe_int (nomark _)) (pe_one (pe_call G_is_number (hr.mono (by omega)) rfl T.g_is_number T.k_is_number T.b_is_number .nil pass0 (pa_cons (pe_ix ix_tup (pv 0) pe_int (fun _ _ => rfl)) (pa_cons pe_int (pa_cons (pe_globI rfl T.g_MOST_NUMBER) pa_nil)))))))))))), ?_⟩
    refine ⟨_, rfl, _, _, _, _, true, rfl, ClsV.ty _, TyX.base (.tup hda), kit_ty (by decide +kernel), true, rfl, iteF ?_⟩
    refine ⟨_, rfl, da, _, rfl, .inr (SqT.of hda), _, _, rfl, rfl, _, rfl, ?_⟩
    by_cases h3 : xs.length < 3
    · refine iteTo (decide_eq_true (show ((xs.length : Nat) : Int) < 3 by omega)) ?_
      have e : deedB m xs = false := by
        unfold deedB
        split
        · exact absurd h3 (by show ¬ 3 < 3; omega)
        · exact absurd h3 (by show ¬ 4 < 3; omega)
        · rfl
      rw [e] at k
      exact k
    · refine iteFo (decide_eq_false (show ¬ ((xs.length : Nat) : Int) < 3 by omega)) ?_
      obtain ⟨a, b, c, r, rfl⟩ : ∃ a b c r, xs = a :: b :: c :: r := by
        match xs, h3 with
        | a :: b :: c :: r, _ => exact ⟨a, b, c, r, rfl⟩
        | [], h => exact absurd (by show 0 < 3; omega) h
        | [_], h => exact absurd (by show 1 < 3; omega) h
        | [_, _], h => exact absurd (by show 2 < 3; omega) h
      have fa : OkF a := hxs a (by simp)
      have fb : OkF b := hxs b (by simp)
      have fc : OkF c := hxs c (by simp)
      have ng : ∀ {H : Hp}, numIn b 0 (m - 1) = false ∨ numIn c 0 63 = false → deedB m (a :: b :: c :: r) = false := fun {H} z => by
        match r with
        | [] =>
          show (numIn b 0 (m - 1) && (numIn c 0 63 && eqS a "look")) = false
          rcases z with z | z <;> rw [z] <;> simp
        | [d] =>
          show (numIn b 0 (m - 1) && (numIn c 0 63 && (eqS a "set" && numIn d 0 999))) = false
          rcases z with z | z <;> rw [z] <;> simp
        | _ :: _ :: _ => rfl
      refine ⟨_, rfl, da, _, 1, b, rfl, rfl, SqT.of hda, (at3 a b c r).2.1, _, rfl, _, _, rfl, rfl, b, 0, m - 1, rfl, fb, _, rfl, ?_⟩
      cases h1 : numIn b 0 (m - 1) with
      | false =>
        rw [ng (H := H) (.inl h1)] at k
        exact iteT k
      | true =>
        refine iteF ?_
        refine ⟨_, rfl, da, _, 2, c, rfl, rfl, SqT.of hda, (at3 a b c r).2.2, _, _, rfl, rfl, c, 0, 63, rfl, fc, _, rfl, ?_⟩
        cases h2 : numIn c 0 63 with
        | false =>
          rw [ng (H := H) (.inr h2)] at k
          exact iteT k
        | true =>
          refine iteF ?_
          refine ⟨_, rfl, da, _, 0, a, rfl, rfl, SqT.of hda, (at3 a b c r).1, eq_flat fa, _, rfl, ?_⟩
          by_cases e1 : a = .str "look"
          · subst e1
            refine iteTo (decide_eq_true rfl) ?_
            refine ⟨_, rfl, da, _, rfl, .inr (SqT.of hda), rfl, ?_⟩
            have ek : deedB m (.str "look" :: b :: c :: r) = decide (V.int (((V.str "look" :: b :: c :: r).length : Nat) : Int) = V.int 3) := by
              match r with
              | [] =>
                show (numIn b 0 (m - 1) && (numIn c 0 63 && eqS (.str "look") "look")) = true
                rw [h1, h2]
                decide +kernel
              | [d] =>
                show (numIn b 0 (m - 1) && (numIn c 0 63 && (eqS (.str "look") "set" && numIn d 0 999))) = false
                rw [h1, h2, show eqS (.str "look") "set" = false by decide +kernel]
                rfl
              | x :: y :: z =>
                refine (decide_eq_false fun q => ?_).symm
                have q : (((V.str "look" :: b :: c :: x :: y :: z).length : Nat) : Int) = 3 := V.int.inj q
                simp at q
                omega
            rw [ek] at k
            exact k
          · refine iteFo (decide_eq_false e1) ?_
            refine ⟨_, rfl, da, _, 0, a, rfl, rfl, SqT.of hda, (at3 a b c r).1, eq_flat fa, _, rfl, ?_⟩
            by_cases e2 : a = .str "set"
            · subst e2
              refine iteTo (decide_eq_true rfl) ?_
              refine ⟨_, rfl, da, _, rfl, .inr (SqT.of hda), rfl, _, rfl, ?_⟩
              match r with
              | [d] =>
                refine iteTo rfl ?_
                have fd : OkF d := hxs d (by simp)
                refine ⟨_, rfl, da, _, 3, d, rfl, rfl, SqT.of hda, rfl, d, 0, 999, rfl, fd, ?_⟩
                have ek : deedB m [.str "set", b, c, d] = numIn d 0 999 := by
                  show (numIn b 0 (m - 1) && (numIn c 0 63 && (eqS (.str "set") "set" && numIn d 0 999))) = _
                  rw [h1, h2, show eqS (.str "set") "set" = true by decide +kernel]
                  rfl
                rw [ek] at k
                exact k
              | [] =>
                refine iteFo rfl ?_
                have ek : deedB m [.str "set", b, c] = false := by
                  show (numIn b 0 (m - 1) && (numIn c 0 63 && eqS (.str "set") "look")) = false
                  rw [h1, h2, show eqS (.str "set") "look" = false by decide +kernel]
                  rfl
                rw [ek] at k
                exact k
              | x :: y :: z =>
                refine iteFo (decide_eq_false fun q => ?_) k
                have q : (((V.str "set" :: b :: c :: x :: y :: z).length : Nat) : Int) = 4 := V.int.inj q
                simp at q
                omega
            · refine iteFo (decide_eq_false e2) ?_
              have ek : deedB m (a :: b :: c :: r) = false := by
                match r with
                | [] =>
                  show (numIn b 0 (m - 1) && (numIn c 0 63 && eqS a "look")) = false
                  rw [show eqS a "look" = false from decide_eq_false e1]
                  simp
                | [d] =>
                  show (numIn b 0 (m - 1) && (numIn c 0 63 && (eqS a "set" && numIn d 0 999))) = false
                  rw [show eqS a "set" = false from decide_eq_false e2]
                  simp
                | _ :: _ :: _ => rfl
              rw [ek] at k
              exact k
end
-- WwTp
/-! ### texts -/
/-- str(x) of a number or a text -/
def rStrF : List V → Hp → VK → Prop := fun xs H Q => (∃ i, xs = [.int i] ∧ i.natAbs.log2 < 1920 ∧ Q (.str (toString i)) H) ∨ ∃ a, xs = [.str a] ∧ Q (.str a) H
theorem call_strF {X : Cx} : CallR X (.type "str") rStrF := fun pins s σ H xs us Q I r h => h.elim (fun h => call_str_int pins s σ H xs us Q I r h) (fun h => SkE.call_str_str pins s σ H xs us Q I r h)
/-- what sep.join(xs) asks -/
abbrev rJoin (K : PySem.W.Frag) : V → List V → Hp → VK → Prop := fun x xs H Q => ∃ a p, ∃ ys : List Str, x = .str a ∧ xs = [.ref p] ∧ (SqL K H p (ys.map V.str) ∨ SqT K H p (ys.map V.str)) ∧ (ys.map (·.length)).sum + ys.length * a.length ≤ 16777216 ∧ Q (.str (Txt.join a ys)) H
/-- what x + y asks of two texts -/
abbrev rAddS : V → V → Hp → VK → Prop := fun x y H Q => ∃ i j, x = .str i ∧ y = .str j ∧ i.length + j.length ≤ sizeLine ∧ Q (.str (i ++ j)) H
/-- a comprehension over a text's signs -/
theorem lc_str {x : Str} {g : TG} {tt : TT} {te : TE} {vs : List Nat} {σ : L2.St} {H1 : Hp} {D : Addr} {Qd : Hp → Prop} (Pv : Nat → Hp → Prop) (h0 : Pv 0 (upd H1 D (.lst [])))
    (hs : ∀ i c H, x.cps[i]? = some c → Pv i H → g (.str ⟨#[c]⟩) (wipe σ vs) H fun σ2 H2 => wipe σ2 vs = wipe σ vs ∧ tt σ2 H2 fun b H3 =>
      if b = true then te σ2 H3 fun y H4 => ∃ acc, H4 D = some (.lst acc) ∧ acc.length < sizeLine ∧ Pv (i + 1) (upd H4 D (.lst (acc ++ [y]))) else Pv (i + 1) H3) (hd : ∀ H, Pv x.cps.size H → Qd H) :
    ∃ W : Nat → Nat → Hp → Prop, (∃ m, W 0 m (upd H1 D (.lst []))) ∧ ∀ i m H, W i m H →
      ((Its x).stop i H ∧ Qd H) ∨ ((Its x).go i H ∧ ∃ Nx : Hp → Prop, (∀ H', Nx H' → ∃ m', m' < m ∧ W (i + 1) m' H') ∧ ∀ y H', (Its x).yld i H y H' → g y (wipe σ vs) H' fun σ2 H2 => wipe σ2 vs = wipe σ vs ∧ tt σ2 H2 fun b H3 =>
        if b = true then te σ2 H3 fun y H4 => ∃ acc, H4 D = some (.lst acc) ∧ acc.length < sizeLine ∧ Nx (upd H4 D (.lst (acc ++ [y]))) else Nx H3) := by
  refine ⟨fun i m H => m + i = x.cps.size ∧ Pv i H, ⟨x.cps.size, rfl, h0⟩, ?_⟩
  rintro i m H ⟨e, p⟩
  by_cases hlt : i < x.cps.size
  · refine .inr ⟨hlt, Pv (i + 1), fun H' p' => ⟨m - 1, by omega, by omega, p'⟩, ?_⟩
    rintro y H' ⟨rfl, c, hc, rfl⟩
    exact hs i c _ hc p
  · have e2 : i = x.cps.size := by omega
    refine .inl ⟨by show x.cps.size ≤ i; omega, hd H ?_⟩
    rw [← e2]
    exact p
def digB (c : Nat) : Bool := decide (48 ≤ c) && decide (c ≤ 57)
def allDig (x : Str) : Bool := (TL.tl x).all digB
/-- the number that a word writes -/
def numOf (x : Str) : V := if 1 ≤ x.length ∧ x.length ≤ 3 ∧ allDig x = true then (if x = "0" ∨ (TL.tl x).head? ≠ some 48 then .int ((NumText.digitsVal (TL.tl x) : Nat) : Int) else .non) else .non
theorem figs_mem (c : Nat) : decide (c ∈ (Str.ofString "0123456789").cps.toList) = digB c := by
  have e : (Str.ofString "0123456789").cps.toList = [48, 49, 50, 51, 52, 53, 54, 55, 56, 57] := by decide +kernel
  rw [e]
  unfold digB
  by_cases h : 48 ≤ c ∧ c ≤ 57
  · rw [decide_eq_true h.1, decide_eq_true h.2]
    refine decide_eq_true ?_
    simp only [List.mem_cons, List.not_mem_nil, or_false]
    omega
  · have e : (decide (48 ≤ c) && decide (c ≤ 57)) = false := by
      by_cases h1 : 48 ≤ c
      · have h2 : ¬ c ≤ 57 := fun z => h ⟨h1, z⟩
        rw [decide_eq_false h2, Bool.and_false]
      · rw [decide_eq_false h1]
        rfl
    rw [e]
    refine decide_eq_false fun z => h ?_
    simp only [List.mem_cons, List.not_mem_nil, or_false] at z
    omega
def Sgn (x : Str) : Prop := ∀ c ∈ TL.tl x, c < 1114112
theorem Sgn.lay {x : Str} (h : Sgn x) : PyData.canLay0 (.str x) = true := by
  show x.cps.all (· < 0x110000) = true
  rw [Array.all_eq_true']
  exact fun c hc => decide_eq_true (h c (Array.mem_toList_iff.mpr hc))
def sgn1 (c : Nat) : Str := ⟨#[c]⟩
def badS (x : Str) : List Nat := (TL.tl x).filter fun c => !digB c
theorem badS_nil (x : Str) : badS x = [] ↔ allDig x = true := by
  unfold badS allDig
  rw [List.filter_eq_nil_iff, List.all_eq_true]
  constructor
  · intro h c hc
    have := h c hc
    cases e : digB c with
    | true => rfl
    | false =>
      rw [e] at this
      exact absurd rfl this
  · intro h c hc z
    rw [h c hc] at z
    cases z
theorem strs_dp {L : List Cell} : ∀ cs : List Nat, DpsL L (cs.map fun c => V.str (sgn1 c)) (cs.map fun c => PyData.str (sgn1 c))
  | [] => .nil
  | c :: cs => .cons (.str _) (strs_dp cs)
theorem strs_shaped {cs : List Nat} (h : ∀ c ∈ cs, c < 1114112) : SeqAt.shaped (.list (cs.map fun c => PyData.str (sgn1 c))) = true := by
  obtain ⟨h1, h2⟩ := layL (f := fun c => PyData.str (sgn1 c)) (k := 0) (xs := cs) fun c hc => ⟨Sgn.lay fun d hd => by
    have e : d = c := by
      have hd : d ∈ [c] := hd
      exact List.mem_singleton.mp hd
    rw [e]
    exact h c hc, Nat.le_refl _⟩
  exact shaped_of h1 (Nat.le_trans h2 (by decide))
theorem eqv_nilL (d : PyData) (ds : List PyData) : PyData.eqv (.list (d :: ds)) (.list []) = false := by
  first
    | rfl
    | simp [PyData.eqv]
/-! ### parts of a text -/
theorem spl_facts (S : List Nat) (k : Nat) (acc l : List Nat) : TL.spl S k acc l ≠ [] ∧ (TL.spl S k acc l).length ≤ l.length + 1 ∧ ∀ p ∈ TL.spl S k acc l, p.length ≤ acc.length + l.length ∧ ∀ c ∈ p, c ∈ acc ∨ c ∈ l := by
  fun_induction TL.spl S k acc l with
  | case1 _ acc =>
    refine ⟨by simp, by simp, fun p hp => ?_⟩
    rw [List.mem_singleton.mp hp]
    exact ⟨by simp, fun c hc => .inl hc⟩
  | case2 acc c r h ih =>
    obtain ⟨_, h2, h3⟩ := ih
    refine ⟨by simp, by simp; omega, fun p hp => ?_⟩
    rcases List.mem_cons.mp hp with e | e
    · rw [e]
      exact ⟨by simp, fun c hc => .inl hc⟩
    · obtain ⟨g1, g2⟩ := h3 p e
      refine ⟨by simp at g1 ⊢; omega, fun d hd => ?_⟩
      rcases g2 d hd with z | z
      · cases z
      · exact .inr (List.mem_cons_of_mem _ z)
  | case3 acc c r h ih =>
    obtain ⟨h1, h2, h3⟩ := ih
    refine ⟨h1, by simp; omega, fun p hp => ?_⟩
    obtain ⟨g1, g2⟩ := h3 p hp
    refine ⟨by simp at g1 ⊢; omega, fun d hd => ?_⟩
    rcases g2 d hd with z | z
    · rcases List.mem_append.mp z with z | z
      · exact .inl z
      · rw [List.mem_singleton.mp z]
        exact .inr List.mem_cons_self
    · exact .inr (List.mem_cons_of_mem _ z)
  | case4 acc k' c r ih =>
    obtain ⟨h1, h2, h3⟩ := ih
    refine ⟨h1, by simp; omega, fun p hp => ?_⟩
    obtain ⟨g1, g2⟩ := h3 p hp
    exact ⟨by simp; omega, fun d hd => (g2 d hd).elim .inl fun z => .inr (List.mem_cons_of_mem _ z)⟩
theorem split_facts {x y : Str} (hy : TL.tl y ≠ []) (hk : y.cps.all (· < 256) = true) (hx : Sgn x) : Txt.split x y ≠ [] ∧ (Txt.split x y).length ≤ x.length + 1 ∧ ∀ p ∈ Txt.split x y, p.length ≤ x.length ∧ Sgn p := by
  have e := TL.split_spl x y hy (TL.kind_ok hk)
  obtain ⟨h1, h2, h3⟩ := spl_facts (TL.tl y) 0 [] (TL.tl x)
  rw [← e] at h1 h2 h3
  refine ⟨fun z => h1 (by rw [z]; rfl), by rw [List.length_map] at h2; rw [TL.len_tl]; exact h2, fun p hp => ?_⟩
  obtain ⟨g1, g2⟩ := h3 (TL.tl p) (List.mem_map.mpr ⟨p, hp, rfl⟩)
  refine ⟨by rw [TL.len_tl, TL.len_tl]; simpa using g1, fun c hc => ?_⟩
  rcases g2 c hc with z | z
  · cases z
  · exact hx c z
-- WwTx
/-! ### texts read -/
def spNumOf : Sp := fun vs H Q _ => ∃ (x : Str) (R : List Cell), vs = [.str x] ∧ x.length ≤ 100000 ∧ Sgn x ∧ Own H R ∧ ∀ H' : Hp, Own H' R → Q (numOf x) H'
theorem numOf_no {x : Str} (h : ¬ (1 ≤ x.length ∧ x.length ≤ 3 ∧ allDig x = true)) : numOf x = .non := if_neg h
def ruleW : List Str → Option (List V)
  | [r, a, b, c, d, e] => if r = "room" ∧ ruleB [numOf a, numOf b, .str c, .str d, .str e] = true then some [numOf a, numOf b, .str c, .str d, .str e] else none
  | _ => none
def deedW : List Str → Option (List V)
  | [] => none
  | x :: r => if (x = "look" ∨ x = "set") ∧ deedB 3 (.str x :: r.map numOf) = true then some (.str x :: r.map numOf) else none
theorem numOf_ok (x : Str) : OkF (numOf x) := by
  unfold numOf
  split
  · split
    · exact .int _
    · exact .non
  · exact .non
def WsOk (ws : List Str) : Prop := ws ≠ [] ∧ ws.length ≤ 90000 ∧ ∀ x ∈ ws, x.length ≤ 100000 ∧ Sgn x
def tellO (o : Option (List V)) (R : List Cell) (Q : VK) : Prop := match o with
  | none => ∀ H' : Hp, Own H' R → Q .non H'
  | some xs => ∀ (p : Addr) (H' : Hp), Own H' ((p, .tup xs) :: R) → Q (.ref p) H'
def spRuleOf : Sp := fun vs H Q _ => ∃ (pw : Addr) (ws : List Str) (R : List Cell), vs = [.ref pw] ∧ WsOk ws ∧ (pw, HO.lst (ws.map V.str)) ∈ R ∧ Own H R ∧ tellO (ruleW ws) R Q
def spDeedOf : Sp := fun vs H Q _ => ∃ (pw : Addr) (ws : List Str) (R : List Cell), vs = [.ref pw] ∧ WsOk ws ∧ (pw, HO.lst (ws.map V.str)) ∈ R ∧ Own H R ∧ tellO (deedW ws) R Q
theorem len6 {xs : List Str} (h : xs.length = 6) : ∃ a b c d e f, xs = [a, b, c, d, e, f] := by
  match xs, h with
  | [a, b, c, d, e, f], _ => exact ⟨a, b, c, d, e, f, rfl⟩
theorem ruleW_len {ws : List Str} (h : ws.length ≠ 6) : ruleW ws = none := by
  unfold ruleW
  split
  · exact absurd rfl h
  · rfl
section
variable {P : Program} {w : World} {K : PySem.W.Frag} {mg : Str → Option Value} {base : Heap} {n lv : Nat}
theorem ok_number_of (T : Txt K mg) : FnOk P w K mg base CX0 1 (He.fAd K ("number_of", none)) T.fd_number_of ["word"] spNumOf := by
  refine okOf T.F_number_of sc_number_of (fun vs H Q E h => ?_) (fun cdv A outer s H vs Q E hr h => ?_)
  · obtain ⟨_, _, rfl, _⟩ := h
    rfl
  · obtain ⟨x, R, rfl, hl, hsg, O, k⟩ := h
    refine ⟨_, (pss_cons (ps_if (PW.pt (pw_or (pt_not (pt_chain op_le op_le pe_int (pe_callB call_len_str (by rfl) T.n_len PySem.boot_len (pa_cons (pv 0) pa_nil)) (pe_globI rfl T.g_MOST_FIGURES))) (pw_or1 (pt_cmpR (op_neD hr.units) (pe_lc (own := [("sign", 1)]) (by rfl) sc_number_of.nd (pi_str (pv 0)) (blkOk_by (own := [("sign", 1)]) (by kernel_rfl)) (fun _ _ _ _ _ => (pg_name (i := 1) sc_number_of.nd rfl (Or.inl rfl))) (fun _ _ _ _ _ => (pts_one (pt_cmpR op_notIn_sign (pv 1) (pe_globS rfl T.g_FIGURES) (by rfl)))) (fun _ _ _ _ _ => (pv 1))) (pe_lst pa_nil) (nomark _))))) (pss_one (ps_ret pe_non)) pss_nil) (pss_one (ps_ret (pe_ifExp (PW.pt (pw_or (pt_cmpR op_eq (pv 0) pe_str (nomark _)) (pw_or1 (pt_cmpR op_ne (pe_ix ix_str (pv 0) pe_int (fun _ _ => rfl)) pe_str (nomark _))))) (pe_callTy call_int_str (by rfl) T.n_int (by decide +kernel) (pa_cons (pv 0) pa_nil)) pe_non)))), ?_⟩
    have hsz : x.length ≤ sizeLine := Nat.le_of_lt (size1 (by omega))
    refine ⟨_, rfl, x, rfl, hsz, _, _, rfl, rfl, _, rfl, ?_⟩
    by_cases h1 : 1 ≤ x.length
    · refine iteTo (decide_eq_true (show (1 : Int) ≤ ((x.length : Nat) : Int) by omega)) ?_
      refine ⟨_, _, rfl, rfl, _, rfl, ?_⟩
      by_cases h3 : x.length ≤ 3
      · rw [decide_eq_true (show ((x.length : Nat) : Int) ≤ 3 by omega)]
        refine iteF ?_
        refine ⟨_, rfl, x, rfl, fun D hD => ?_⟩
        refine lc_str (x := x) (fun i H' => Own H' ((D, .lst ((((TL.tl x).take i).filter fun c => !digB c).map fun c => V.str (sgn1 c))) :: R)) (O.new hD) ?_ ?_
        · intro i c H1 hc O1
          have hc2 : (TL.tl x)[i]? = some c := by
            show x.cps.toList[i]? = some c
            rw [Array.getElem?_toList]
            exact hc
          refine ⟨rfl, ⟨_, rfl, c, _, rfl, rfl, _, rfl, ?_⟩⟩
          rw [figs_mem, take_snoc hc2, List.filter_append]
          have hil : i < (TL.tl x).length := (List.getElem?_eq_some_iff.mp hc2).1
          rw [← TL.len_tl] at hil
          cases hd : digB c with
          | true =>
            refine iteFo rfl ?_
            rw [List.filter_cons_of_neg (by rw [hd]; decide), List.filter_nil, List.append_nil]
            exact O1
          | false =>
            refine iteTo rfl ?_
            rw [List.filter_cons_of_pos (by rw [hd]; rfl), List.filter_nil, List.map_append]
            refine ⟨_, rfl, _, O1.a0, ?_, O1.set⟩
            rw [List.length_map]
            have := List.length_filter_le (fun c => !digB c) ((TL.tl x).take i)
            rw [List.length_take] at this
            exact size1 (by omega)
        · intro H1 O1
          have e : x.cps.size = (TL.tl x).length := Array.length_toList.symm
          rw [e, List.take_length] at O1
          refine ⟨by show 0 ≤ sizeLine; decide, fun q hq => ?_⟩
          have O2 := O1.new (o := .lst []) hq
          have hbs : ∀ c ∈ badS x, c < 1114112 := fun c hc => hsg c (List.mem_filter.mp hc).1
          refine ⟨.list ((badS x).map fun c => .str (sgn1 c)), .list [], .lst (SqL.of O2.a1) ((strs_dp (L := []) _).dps fun c hc => absurd hc List.not_mem_nil), .lst (SqL.of O2.a0) .nil, strs_shaped hbs, sh0, ?_⟩
          cases hb : badS x with
          | cons c cs =>
            refine ⟨true, by show V.bl (!PyData.eqv (.list (_ :: _)) (.list [])) = V.bl true; rw [eqv_nilL]; rfl, iteT ?_⟩
            rw [numOf_no (fun z => by have := (badS_nil x).mpr z.2.2; rw [hb] at this; cases this)] at k
            exact k _ O2.tail.tail
          | nil =>
            have hall := (badS_nil x).mp hb
            refine ⟨false, by show V.bl (!PyData.eqv (.list []) (.list [])) = V.bl false; rw [not_eqv_nil], iteF ?_⟩
            have ek : numOf x = if x = "0" ∨ (TL.tl x).head? ≠ some 48 then .int ((NumText.digitsVal (TL.tl x) : Nat) : Int) else .non := if_pos ⟨h1, h3, hall⟩
            rw [ek] at k
            have O3 := O2.tail.tail
            have hne : TL.tl x ≠ [] := fun z => by
              rw [TL.len_tl, z] at h1
              exact absurd h1 (by decide)
            have hdg : NumText.AllDigits (TL.tl x) := fun c hc => by
              have := List.all_eq_true.mp hall c hc
              unfold digB at this
              simpa using this
            have hint : PySem.intText? x = some ((NumText.digitsVal (TL.tl x) : Nat) : Int) := intText_digits hdg hne (by omega)
            obtain ⟨c, cs, hcs⟩ : ∃ c cs, TL.tl x = c :: cs := by
              cases e : TL.tl x with
              | nil => exact absurd e hne
              | cons c cs => exact ⟨c, cs, rfl⟩
            refine ⟨_, rfl, rfl, _, rfl, ?_⟩
            by_cases h0 : x = "0"
            · refine iteTo (decide_eq_true (by rw [h0])) ?_
              rw [if_pos (.inl h0)] at k
              exact iteT ⟨_, rfl, x, _, rfl, hint, by omega, k _ O3⟩
            · refine iteFo (decide_eq_false (fun z => h0 (V.str.inj z))) ?_
              refine ⟨_, rfl, x, _, c, rfl, rfl, hsz, by rw [show x.cps.toList = c :: cs from hcs]; exact atI_nat (j := 0) rfl, rfl, _, rfl, ?_⟩
              by_cases hc : c = 48
              · refine iteFo (by rw [hc]; decide +kernel) ?_
                rw [if_neg (fun z => z.elim h0 fun z => z (by rw [hcs, hc]; rfl))] at k
                exact k _ O3
              · refine iteTo (by rw [decide_eq_false (fun z => hc (by have z : (⟨#[c]⟩ : Str) = Str.ofString "0" := V.str.inj z; have z2 := congrArg (fun y : Str => y.cps.toList) z; have z3 : [c] = (Str.ofString "0").cps.toList := z2; rw [show (Str.ofString "0").cps.toList = [48] by decide +kernel] at z3; simpa using z3))]; rfl) ?_
                rw [if_pos (.inr (by rw [hcs]; simpa using hc))] at k
                exact ⟨_, rfl, x, _, rfl, hint, by omega, k _ O3⟩
      · rw [decide_eq_false (show ¬ ((x.length : Nat) : Int) ≤ 3 by omega)]
        refine iteT ?_
        rw [numOf_no (fun z => h3 z.2.1)] at k
        exact k H O
    · refine iteFo (decide_eq_false (show ¬ (1 : Int) ≤ ((x.length : Nat) : Int) by omega)) ?_
      refine ⟨_, rfl, iteT ?_⟩
      rw [numOf_no (fun z => h1 z.1)] at k
      exact k H O
theorem ok_rule_of (T : Txt K mg) : FnOk P w K mg base CX0 3 (He.fAd K ("rule_of", none)) T.fd_rule_of ["words"] spRuleOf := by
  have G_number_of := ok_number_of (P := P) (w := w) (base := base) T
  have G_is_rule := ok_is_ruleG (P := P) (w := w) (base := base) T
  refine okOf T.F_rule_of sc_rule_of (fun vs H Q E h => ?_) (fun cdv A outer s H vs Q E hr h => ?_)
  · obtain ⟨_, _, _, rfl, _⟩ := h
    rfl
  · obtain ⟨pw, ws, R, rfl, hws, hpw, O, k⟩ := h
    refine ⟨_, (pss_cons (ps_if (PW.pt (pw_or (pt_cmpR op_ne (pe_ix ix_list (pv 0) pe_int (fun _ _ => rfl)) (pe_globS rfl T.g_ROOM) (nomark _)) (pw_or1 (pt_cmpR op_ne (pe_callB call_len_seq (by rfl) T.n_len PySem.boot_len (pa_cons (pv 0) pa_nil)) pe_int (nomark _))))) (pss_one (ps_ret pe_non)) pss_nil) (pss_cons (ps_set (i := 1) sc_rule_of.nd rfl (Or.inl rfl) (pe_callTy call_tuple_of (by rfl) T.n_tuple (by decide +kernel) (pa_cons (pe_op op_cat (pe_lc (te := (tCall spNumOf [] E0 (tCons (tVar 2) tNil))) (own := [("word", 2)]) (by rfl) sc_rule_of.nd (pi_list (pe_slice sl_list (pv 0) (po_some pe_int) (po_some pe_int))) (blkOk_by (own := [("word", 2)]) (by kernel_rfl)) (fun _ _ _ _ _ => (pg_name (i := 2) sc_rule_of.nd rfl (Or.inl rfl))) (fun _ _ _ _ _ => pts_nil) (fun _ _ _ _ _ => (pe_call G_number_of (hr.mono (by omega)) rfl T.g_number_of T.k_number_of T.b_number_of .nil pass0 (pa_cons (pv 2) pa_nil)))) (pe_slice sl_list (pv 0) (po_some pe_int) po_none)) pa_nil))) (pss_one (ps_ret (pe_ifExp (pt_val (pe_call G_is_rule (hr.mono (by omega)) rfl T.g_is_rule T.k_is_rule T.b_is_rule .nil pass0 (pa_cons (pv 1) pa_nil))) (pv 1) pe_non))))), ?_⟩
    obtain ⟨w0, wr, rfl⟩ : ∃ w0 wr, ws = w0 :: wr := by
      cases ws with
      | nil => exact absurd rfl hws.1
      | cons a b => exact ⟨a, b, rfl⟩
    have hp0 : H pw = some (.lst ((w0 :: wr).map V.str)) := O.mem hpw
    refine ⟨_, rfl, pw, _, _, .str w0, rfl, rfl, SqL.of hp0, atI_nat (j := 0) rfl, rfl, _, rfl, ?_⟩
    by_cases h0 : w0 = "room"
    · refine iteFo (by rw [decide_eq_true (by rw [h0])]; rfl) ?_
      refine ⟨_, rfl, pw, _, rfl, .inl (SqL.of hp0), rfl, _, rfl, ?_⟩
      rw [List.length_map]
      by_cases h6 : (w0 :: wr).length = 6
      · refine iteFo (by rw [decide_eq_true (by rw [h6]; rfl)]; rfl) ?_
        obtain ⟨r, a, b, c, d, e, hr6⟩ := len6 h6
        rw [hr6] at hp0 hws k hpw
        have ewr : w0 = r := by
          injection hr6
        rw [ewr] at h0
        have hx : ∀ x ∈ [r, a, b, c, d, e], x.length ≤ 100000 ∧ Sgn x := hws.2.2
        refine ⟨_, rfl, 1, rfl, 3, rfl, pw, _, rfl, SqL.of hp0, fun q1 hq1 => ?_⟩
        have O1 := O.new (o := .lst [.str a, .str b]) hq1
        refine ⟨q1, rfl, ⟨_, SqL.of O1.a0⟩, fun D hD => ?_⟩
        refine lc_list (K := K) (a := q1) (xs := [.str a, .str b]) (fun i H' => Own H' ((D, .lst ([numOf a, numOf b].take i)) :: (q1, .lst [.str a, .str b]) :: R)) (O1.new hD) (fun i H' _ O' => SqL.of O'.a1) ?_ ?_
        · rintro i y H1 hi O2
          have : i = 0 ∨ i = 1 := by
            have := (List.getElem?_eq_some_iff.mp hi).1
            have h2 : [V.str a, V.str b].length = 2 := rfl
            omega
          rcases this with e0 | e0 <;> subst e0
          · obtain rfl : V.str a = y := Option.some.inj hi
            refine ⟨rfl, tYes_go (iteT ⟨_, rfl, a, _, rfl, (hx a (by simp)).1, (hx a (by simp)).2, O2, fun H2 O3 => ⟨_, O3.a0, by show 0 < sizeLine; decide, O3.set⟩⟩)⟩
          · obtain rfl : V.str b = y := Option.some.inj hi
            refine ⟨rfl, tYes_go (iteT ⟨_, rfl, b, _, rfl, (hx b (by simp)).1, (hx b (by simp)).2, O2, fun H2 O3 => ⟨_, O3.a0, by show 1 < sizeLine; decide, O3.set⟩⟩)⟩
        · intro H1 O2
          have O2 : Own H1 ((D, .lst [numOf a, numOf b]) :: (q1, .lst [.str a, .str b]) :: R) := O2
          refine ⟨_, rfl, 3, rfl, noPart ⟨pw, _, rfl, SqL.of (O2.mem (List.mem_cons_of_mem _ (List.mem_cons_of_mem _ hpw))), fun q2 hq2 => ?_⟩⟩
          have O3 := O2.new (o := .lst [.str c, .str d, .str e]) hq2
          refine ⟨D, q2, _, _, rfl, rfl, O3.a1, O3.a0, by show 2 + 3 ≤ sizeLine; decide, fun q3 hq3 => ?_⟩
          have O4 := O3.new (o := .lst [numOf a, numOf b, .str c, .str d, .str e]) hq3
          refine ⟨q3, _, rfl, .inl ⟨SqL.of O4.a0, fun q4 hq4 => ?_⟩⟩
          have O5 := O4.new (o := .tup [numOf a, numOf b, .str c, .str d, .str e]) hq4
          have hok : ∀ x ∈ [numOf a, numOf b, .str c, .str d, .str e], OkF x := fun x hx => by
            simp only [List.mem_cons, List.not_mem_nil, or_false] at hx
            rcases hx with z | z | z | z | z <;> rw [z]
            · exact numOf_ok _
            · exact numOf_ok _
            · exact .str _
            · exact .str _
            · exact .str _
          have ek : ruleW [r, a, b, c, d, e] = if r = "room" ∧ ruleB [numOf a, numOf b, .str c, .str d, .str e] = true then some [numOf a, numOf b, .str c, .str d, .str e] else none := rfl
          refine ⟨_, rfl, q4, _, rfl, hok, O5.a0, by show 5 ≤ 1000; decide, _, rfl, ?_⟩
          cases hB : ruleB [numOf a, numOf b, .str c, .str d, .str e] with
          | true =>
            rw [ek, if_pos ⟨h0, hB⟩] at k
            refine iteT ⟨_, rfl, k q4 _ ?_⟩
            exact O5.sub (List.Sublist.cons_cons _ (List.sublist_append_right [_, _, _, _] R))
          | false =>
            rw [ek, if_neg (fun z => by rw [hB] at z; cases z.2)] at k
            refine iteF (k _ ?_)
            exact O5.sub (List.sublist_append_right [_, _, _, _, _] R)
      · refine iteTo (neB h6) ?_
        rw [ruleW_len h6] at k
        exact k H O
    · refine iteTo (by rw [decide_eq_false (fun z => h0 (V.str.inj z))]; rfl) ?_
      have e : ruleW (w0 :: wr) = none := by
        unfold ruleW
        split
        · rename_i r a b c d e2 he
          injection he with he1 he2
          rw [if_neg (fun z => h0 (he1.trans z.1))]
        · rfl
      rw [e] at k
      exact k H O
theorem ok_deed_of (T : Txt K mg) : FnOk P w K mg base CX0 3 (He.fAd K ("deed_of", none)) T.fd_deed_of ["words"] spDeedOf := by
  have G_number_of := ok_number_of (P := P) (w := w) (base := base) T
  have G_is_deed := ok_is_deedG (P := P) (w := w) (base := base) T
  refine okOf T.F_deed_of sc_deed_of (fun vs H Q E h => ?_) (fun cdv A outer s H vs Q E hr h => ?_)
  · obtain ⟨_, _, _, rfl, _⟩ := h
    rfl
  · obtain ⟨pw, ws, R, rfl, hws, hpw, O, k⟩ := h
    refine ⟨_, (pss_cons (ps_if (pt_cmpR op_notIn_seq (pe_ix ix_list (pv 0) pe_int (fun _ _ => rfl)) (pe_tup (pa_cons (pe_globS rfl T.g_LOOK) (pa_cons (pe_globS rfl T.g_SET) pa_nil))) (by rfl)) (pss_one (ps_ret pe_non)) pss_nil) (pss_cons (ps_set (i := 1) sc_deed_of.nd rfl (Or.inl rfl) (pe_op op_catA (pe_tup (pa_cons (pe_ix ix_list (pv 0) pe_int (fun _ _ => rfl)) pa_nil)) (pe_callTy call_tuple_of (by rfl) T.n_tuple (by decide +kernel) (pa_cons (pe_lc (te := (tCall spNumOf [] E0 (tCons (tVar 2) tNil))) (own := [("word", 2)]) (by rfl) sc_deed_of.nd (pi_list (pe_slice sl_list (pv 0) (po_some pe_int) po_none)) (blkOk_by (own := [("word", 2)]) (by kernel_rfl)) (fun _ _ _ _ _ => (pg_name (i := 2) sc_deed_of.nd rfl (Or.inl rfl))) (fun _ _ _ _ _ => pts_nil) (fun _ _ _ _ _ => (pe_call G_number_of (hr.mono (by omega)) rfl T.g_number_of T.k_number_of T.b_number_of .nil pass0 (pa_cons (pv 2) pa_nil)))) pa_nil)))) (pss_one (ps_ret (pe_ifExp (pt_val (pe_call G_is_deed (hr.mono (by omega)) rfl T.g_is_deed T.k_is_deed T.b_is_deed .nil pass0 (pa_cons (pv 1) (pa_cons (pe_globI rfl T.g_MOST_HANDS) pa_nil)))) (pv 1) pe_non))))), ?_⟩
    obtain ⟨w0, wr, rfl⟩ : ∃ w0 wr, ws = w0 :: wr := by
      cases ws with
      | nil => exact absurd rfl hws.1
      | cons a b => exact ⟨a, b, rfl⟩
    have hp0 : H pw = some (.lst ((w0 :: wr).map V.str)) := O.mem hpw
    have hwl : wr.length ≤ 90000 := by
      have := hws.2.1
      rw [List.length_cons] at this
      omega
    refine ⟨_, rfl, pw, _, _, .str w0, rfl, rfl, SqL.of hp0, atI_nat (j := 0) rfl, by show 2 ≤ sizeLine; decide, fun t0 ht0 => ?_⟩
    have O1 := O.new (o := .tup [.str "look", .str "set"]) ht0
    refine ⟨t0, _, rfl, .inr (SqT.of O1.a0), rfl, rfl, _, rfl, ?_⟩
    have ek : deedW (w0 :: wr) = if (w0 = "look" ∨ w0 = "set") ∧ deedB 3 (.str w0 :: wr.map numOf) = true then some (.str w0 :: wr.map numOf) else none := rfl
    have ein : inV (.str w0) [.str "look", .str "set"] = decide (w0 = "look" ∨ w0 = "set") := by
      by_cases h1 : w0 = "look"
      · subst h1
        decide +kernel
      · by_cases h2 : w0 = "set"
        · subst h2
          decide +kernel
        · rw [decide_eq_false (fun z => z.elim h1 h2)]
          refine Bool.eq_false_iff.mpr fun q => ?_
          obtain ⟨x, hx, e⟩ := List.any_eq_true.mp q
          simp only [List.mem_cons, List.not_mem_nil, or_false] at hx
          rcases hx with z | z <;> rw [z] at e
          · exact h1 (eq_of_beq e).symm
          · exact h2 (eq_of_beq e).symm
    rw [ein]
    by_cases h0 : w0 = "look" ∨ w0 = "set"
    · refine iteFo (by rw [decide_eq_true h0]; rfl) ?_
      have hp1 : ∀ {H' : Hp} {L : List Cell}, Own H' (L ++ R) → H' pw = some (.lst ((w0 :: wr).map V.str)) := fun O' => O'.mem (List.mem_append_right _ hpw)
      refine ⟨_, rfl, pw, _, _, .str w0, rfl, rfl, SqL.of (hp1 (L := [_]) O1), atI_nat (j := 0) rfl, by show 1 ≤ sizeLine; decide, fun t1 ht1 => ?_⟩
      have O2 := O1.new (o := .tup [.str w0]) ht1
      refine ⟨_, rfl, 1, rfl, noPart ⟨pw, _, rfl, SqL.of (hp1 (L := [_, _]) O2), fun q1 hq1 => ?_⟩⟩
      have ec : cutV ((w0 :: wr).map V.str) (some 1) none = wr.map V.str := cutDrop (k := 1) (by rw [List.length_map]; show 1 ≤ wr.length + 1; omega)
      rw [ec]
      have O3 := O2.new (o := .lst (wr.map V.str)) hq1
      refine ⟨q1, rfl, ⟨_, SqL.of O3.a0⟩, fun D hD => ?_⟩
      refine lc_list (K := K) (a := q1) (xs := wr.map V.str) (fun i H' => Own H' ((D, .lst ((wr.take i).map numOf)) :: (q1, .lst (wr.map V.str)) :: (t1, .tup [.str w0]) :: (t0, .tup [.str "look", .str "set"]) :: R)) (O3.new hD) (fun i H' _ O' => SqL.of O'.a1) ?_ ?_
      · rintro i y H1 hi O4
        rw [List.getElem?_map] at hi
        cases ha : wr[i]? with
        | none =>
          rw [ha] at hi
          cases hi
        | some x =>
          rw [ha] at hi
          obtain rfl : V.str x = y := Option.some.inj hi
          have hxx := hws.2.2 x (List.mem_cons_of_mem _ (List.mem_of_getElem? ha))
          have hil : i < wr.length := (List.getElem?_eq_some_iff.mp ha).1
          refine ⟨rfl, tYes_go (iteT ⟨_, rfl, x, _, rfl, hxx.1, hxx.2, O4, fun H2 O5 => ⟨_, O5.a0, by rw [List.length_map, List.length_take]; exact size1 (by omega), ?_⟩⟩)⟩
          rw [take_snoc ha, List.map_append]
          exact O5.set
      · intro H1 O4
        rw [List.length_map, List.take_length] at O4
        refine ⟨D, _, rfl, .inl ⟨SqL.of O4.a0, fun q2 hq2 => ?_⟩⟩
        have O5 := O4.new (o := .tup (wr.map numOf)) hq2
        have hok : ∀ x ∈ V.str w0 :: wr.map numOf, OkF x := fun x hx => by
          rcases List.mem_cons.mp hx with z | z
          · rw [z]
            exact .str _
          · obtain ⟨y, _, rfl⟩ := List.mem_map.mp z
            exact numOf_ok y
        have fin : ∀ {H' : Hp} {p : Addr} {L : List Cell}, Own H' ((p, .tup (.str w0 :: wr.map numOf)) :: (L ++ R)) → deedB 3 (.str w0 :: wr.map numOf) = true → Q (.ref p) H' := fun O' hB => by
          rw [ek, if_pos ⟨h0, hB⟩] at k
          exact k _ _ (O'.sub (List.Sublist.cons_cons _ (List.sublist_append_right _ R)))
        have fin2 : ∀ {H' : Hp} {L : List Cell}, Own H' (L ++ R) → deedB 3 (.str w0 :: wr.map numOf) = false → Q .non H' := fun O' hB => by
          rw [ek, if_neg (fun z => by rw [hB] at z; cases z.2)] at k
          exact k _ O'.right
        have hsz2 : (V.str w0 :: wr.map numOf).length ≤ 100000 := by
          rw [List.length_cons, List.length_map]
          omega
        refine ⟨t1, q2, _, _, rfl, rfl, SqT.of (O5.mem (show (t1, HO.tup [.str w0]) ∈ _ by simp)), SqT.of O5.a0, by rw [List.length_map]; exact Nat.le_of_lt (size1 (by show 1 + wr.length ≤ 1000000; omega)), (fun z => nomatch z), fun _ z => ?_, fun _ _ q3 hq3 => ?_⟩
        · have z2 : wr.map numOf = [] := z
          have e1 : V.str w0 :: wr.map numOf = [V.str w0] := by rw [z2]
          refine ⟨_, rfl, t1, 3, _, rfl, hok, by rw [e1]; exact O5.mem (show (t1, HO.tup [.str w0]) ∈ _ by simp), hsz2, _, rfl, ?_⟩
          cases hB : deedB 3 (.str w0 :: wr.map numOf) with
          | true =>
            refine iteT ⟨_, rfl, fin (L := [(q2, .tup (wr.map numOf)), (D, .lst (wr.map numOf)), (q1, .lst (wr.map V.str)), (t0, .tup [.str "look", .str "set"])]) ?_ hB⟩
            rw [e1]
            exact O5.perm (by walk_at "perm")
          | false => exact iteF (fin2 (L := [_, _, _, _, _]) O5 hB)
        · have O6 := O5.new (o := .tup (.str w0 :: wr.map numOf)) hq3
          refine ⟨_, rfl, q3, 3, _, rfl, hok, O6.a0, hsz2, _, rfl, ?_⟩
          cases hB : deedB 3 (.str w0 :: wr.map numOf) with
          | true => exact iteT ⟨_, rfl, fin (L := [_, _, _, _, _]) O6 hB⟩
          | false => exact iteF (fin2 (L := [_, _, _, _, _, _]) O6 hB)
    · refine iteTo (by rw [decide_eq_false h0]; rfl) ?_
      rw [ek, if_neg (fun z => h0 z.1)] at k
      exact k _ O1.tail
end
-- WwField
theorem lk_hd {f : Str} {y : V} {fs : List (Str × V)} : ((f, y) :: fs).lookup f = some y := by simp [List.lookup]
theorem lk_tl {f g : Str} {y : V} {fs : List (Str × V)} (h : (g == f) = false) : ((f, y) :: fs).lookup g = fs.lookup g := by simp [List.lookup, h]
theorem pf_hd {f : Str} {y z : V} {fs : List (Str × V)} : putF f z ((f, y) :: fs) = (f, z) :: fs := by unfold putF; rw [if_pos rfl]
theorem pf_tl {f g : Str} {y z : V} {fs : List (Str × V)} (h : (g == f) = false) : putF g z ((f, y) :: fs) = (f, y) :: putF g z fs := by
  have e : ¬ f = g := fun q => by rw [q, beq_self_eq_true] at h; cases h
  show (if f = g then _ else _) = _
  rw [if_neg e]
theorem pf_nil {f : Str} {z : V} : putF f z [] = [(f, z)] := rfl
theorem ne_ask_others_diary : (("ask_others" : Str) == ("diary" : Str)) = false := by decide +kernel
theorem ne_ask_others_last : (("ask_others" : Str) == ("last" : Str)) = false := by decide +kernel
theorem ne_ask_others_own : (("ask_others" : Str) == ("own" : Str)) = false := by decide +kernel
theorem ne_ask_others_shared : (("ask_others" : Str) == ("shared" : Str)) = false := by decide +kernel
theorem ne_behind_is_back : (("behind" : Str) == ("is_back" : Str)) = false := by decide +kernel
theorem ne_behind_is_in : (("behind" : Str) == ("is_in" : Str)) = false := by decide +kernel
theorem ne_behind_is_late : (("behind" : Str) == ("is_late" : Str)) = false := by decide +kernel
theorem ne_behind_ways : (("behind" : Str) == ("ways" : Str)) = false := by decide +kernel
theorem ne_bring_behind : (("bring" : Str) == ("behind" : Str)) = false := by decide +kernel
theorem ne_bring_diary : (("bring" : Str) == ("diary" : Str)) = false := by decide +kernel
theorem ne_bring_held : (("bring" : Str) == ("held" : Str)) = false := by decide +kernel
theorem ne_bring_is_back : (("bring" : Str) == ("is_back" : Str)) = false := by decide +kernel
theorem ne_bring_is_in : (("bring" : Str) == ("is_in" : Str)) = false := by decide +kernel
theorem ne_bring_is_late : (("bring" : Str) == ("is_late" : Str)) = false := by decide +kernel
theorem ne_bring_sets : (("bring" : Str) == ("sets" : Str)) = false := by decide +kernel
theorem ne_bring_title : (("bring" : Str) == ("title" : Str)) = false := by decide +kernel
theorem ne_bring_ways : (("bring" : Str) == ("ways" : Str)) = false := by decide +kernel
theorem ne_change_behind : (("change" : Str) == ("behind" : Str)) = false := by decide +kernel
theorem ne_change_diary : (("change" : Str) == ("diary" : Str)) = false := by decide +kernel
theorem ne_change_held : (("change" : Str) == ("held" : Str)) = false := by decide +kernel
theorem ne_change_is_back : (("change" : Str) == ("is_back" : Str)) = false := by decide +kernel
theorem ne_change_is_in : (("change" : Str) == ("is_in" : Str)) = false := by decide +kernel
theorem ne_change_is_late : (("change" : Str) == ("is_late" : Str)) = false := by decide +kernel
theorem ne_change_last : (("change" : Str) == ("last" : Str)) = false := by decide +kernel
theorem ne_change_own : (("change" : Str) == ("own" : Str)) = false := by decide +kernel
theorem ne_change_sets : (("change" : Str) == ("sets" : Str)) = false := by decide +kernel
theorem ne_change_shared : (("change" : Str) == ("shared" : Str)) = false := by decide +kernel
theorem ne_change_title : (("change" : Str) == ("title" : Str)) = false := by decide +kernel
theorem ne_change_ways : (("change" : Str) == ("ways" : Str)) = false := by decide +kernel
theorem ne_diary_behind : (("diary" : Str) == ("behind" : Str)) = false := by decide +kernel
theorem ne_diary_is_back : (("diary" : Str) == ("is_back" : Str)) = false := by decide +kernel
theorem ne_diary_is_in : (("diary" : Str) == ("is_in" : Str)) = false := by decide +kernel
theorem ne_diary_is_late : (("diary" : Str) == ("is_late" : Str)) = false := by decide +kernel
theorem ne_diary_title : (("diary" : Str) == ("title" : Str)) = false := by decide +kernel
theorem ne_diary_ways : (("diary" : Str) == ("ways" : Str)) = false := by decide +kernel
theorem ne_far_diary : (("far" : Str) == ("diary" : Str)) = false := by decide +kernel
theorem ne_far_last : (("far" : Str) == ("last" : Str)) = false := by decide +kernel
theorem ne_far_own : (("far" : Str) == ("own" : Str)) = false := by decide +kernel
theorem ne_far_shared : (("far" : Str) == ("shared" : Str)) = false := by decide +kernel
theorem ne_holds_behind : (("holds" : Str) == ("behind" : Str)) = false := by decide +kernel
theorem ne_holds_diary : (("holds" : Str) == ("diary" : Str)) = false := by decide +kernel
theorem ne_holds_is_back : (("holds" : Str) == ("is_back" : Str)) = false := by decide +kernel
theorem ne_holds_is_in : (("holds" : Str) == ("is_in" : Str)) = false := by decide +kernel
theorem ne_holds_is_late : (("holds" : Str) == ("is_late" : Str)) = false := by decide +kernel
theorem ne_holds_sets : (("holds" : Str) == ("sets" : Str)) = false := by decide +kernel
theorem ne_holds_title : (("holds" : Str) == ("title" : Str)) = false := by decide +kernel
theorem ne_holds_ways : (("holds" : Str) == ("ways" : Str)) = false := by decide +kernel
theorem ne_home_behind : (("home" : Str) == ("behind" : Str)) = false := by decide +kernel
theorem ne_home_diary : (("home" : Str) == ("diary" : Str)) = false := by decide +kernel
theorem ne_home_held : (("home" : Str) == ("held" : Str)) = false := by decide +kernel
theorem ne_home_is_back : (("home" : Str) == ("is_back" : Str)) = false := by decide +kernel
theorem ne_home_is_in : (("home" : Str) == ("is_in" : Str)) = false := by decide +kernel
theorem ne_home_is_late : (("home" : Str) == ("is_late" : Str)) = false := by decide +kernel
theorem ne_home_sets : (("home" : Str) == ("sets" : Str)) = false := by decide +kernel
theorem ne_home_title : (("home" : Str) == ("title" : Str)) = false := by decide +kernel
theorem ne_home_ways : (("home" : Str) == ("ways" : Str)) = false := by decide +kernel
theorem ne_is_back_ways : (("is_back" : Str) == ("ways" : Str)) = false := by decide +kernel
theorem ne_is_dirty_block : (("is_dirty" : Str) == ("block" : Str)) = false := by decide +kernel
theorem ne_is_dirty_numbers : (("is_dirty" : Str) == ("numbers" : Str)) = false := by decide +kernel
theorem ne_is_in_is_back : (("is_in" : Str) == ("is_back" : Str)) = false := by decide +kernel
theorem ne_is_in_ways : (("is_in" : Str) == ("ways" : Str)) = false := by decide +kernel
theorem ne_is_late_is_back : (("is_late" : Str) == ("is_back" : Str)) = false := by decide +kernel
theorem ne_is_late_is_in : (("is_late" : Str) == ("is_in" : Str)) = false := by decide +kernel
theorem ne_is_late_ways : (("is_late" : Str) == ("ways" : Str)) = false := by decide +kernel
theorem ne_last_diary : (("last" : Str) == ("diary" : Str)) = false := by decide +kernel
theorem ne_line_of_behind : (("line_of" : Str) == ("behind" : Str)) = false := by decide +kernel
theorem ne_line_of_diary : (("line_of" : Str) == ("diary" : Str)) = false := by decide +kernel
theorem ne_line_of_is_back : (("line_of" : Str) == ("is_back" : Str)) = false := by decide +kernel
theorem ne_line_of_is_in : (("line_of" : Str) == ("is_in" : Str)) = false := by decide +kernel
theorem ne_line_of_is_late : (("line_of" : Str) == ("is_late" : Str)) = false := by decide +kernel
theorem ne_line_of_sets : (("line_of" : Str) == ("sets" : Str)) = false := by decide +kernel
theorem ne_line_of_title : (("line_of" : Str) == ("title" : Str)) = false := by decide +kernel
theorem ne_line_of_ways : (("line_of" : Str) == ("ways" : Str)) = false := by decide +kernel
theorem ne_lines_of_behind : (("lines_of" : Str) == ("behind" : Str)) = false := by decide +kernel
theorem ne_lines_of_diary : (("lines_of" : Str) == ("diary" : Str)) = false := by decide +kernel
theorem ne_lines_of_is_back : (("lines_of" : Str) == ("is_back" : Str)) = false := by decide +kernel
theorem ne_lines_of_is_in : (("lines_of" : Str) == ("is_in" : Str)) = false := by decide +kernel
theorem ne_lines_of_is_late : (("lines_of" : Str) == ("is_late" : Str)) = false := by decide +kernel
theorem ne_lines_of_sets : (("lines_of" : Str) == ("sets" : Str)) = false := by decide +kernel
theorem ne_lines_of_title : (("lines_of" : Str) == ("title" : Str)) = false := by decide +kernel
theorem ne_lines_of_ways : (("lines_of" : Str) == ("ways" : Str)) = false := by decide +kernel
theorem ne_log_diary : (("log" : Str) == ("diary" : Str)) = false := by decide +kernel
theorem ne_log_last : (("log" : Str) == ("last" : Str)) = false := by decide +kernel
theorem ne_log_own : (("log" : Str) == ("own" : Str)) = false := by decide +kernel
theorem ne_log_shared : (("log" : Str) == ("shared" : Str)) = false := by decide +kernel
theorem ne_look_behind : (("look" : Str) == ("behind" : Str)) = false := by decide +kernel
theorem ne_look_diary : (("look" : Str) == ("diary" : Str)) = false := by decide +kernel
theorem ne_look_is_back : (("look" : Str) == ("is_back" : Str)) = false := by decide +kernel
theorem ne_look_is_in : (("look" : Str) == ("is_in" : Str)) = false := by decide +kernel
theorem ne_look_is_late : (("look" : Str) == ("is_late" : Str)) = false := by decide +kernel
theorem ne_look_last : (("look" : Str) == ("last" : Str)) = false := by decide +kernel
theorem ne_look_own : (("look" : Str) == ("own" : Str)) = false := by decide +kernel
theorem ne_look_sets : (("look" : Str) == ("sets" : Str)) = false := by decide +kernel
theorem ne_look_shared : (("look" : Str) == ("shared" : Str)) = false := by decide +kernel
theorem ne_look_title : (("look" : Str) == ("title" : Str)) = false := by decide +kernel
theorem ne_look_ways : (("look" : Str) == ("ways" : Str)) = false := by decide +kernel
theorem ne_make_way_behind : (("make_way" : Str) == ("behind" : Str)) = false := by decide +kernel
theorem ne_make_way_diary : (("make_way" : Str) == ("diary" : Str)) = false := by decide +kernel
theorem ne_make_way_is_back : (("make_way" : Str) == ("is_back" : Str)) = false := by decide +kernel
theorem ne_make_way_is_in : (("make_way" : Str) == ("is_in" : Str)) = false := by decide +kernel
theorem ne_make_way_is_late : (("make_way" : Str) == ("is_late" : Str)) = false := by decide +kernel
theorem ne_make_way_sets : (("make_way" : Str) == ("sets" : Str)) = false := by decide +kernel
theorem ne_make_way_title : (("make_way" : Str) == ("title" : Str)) = false := by decide +kernel
theorem ne_make_way_ways : (("make_way" : Str) == ("ways" : Str)) = false := by decide +kernel
theorem ne_moves_diary : (("moves" : Str) == ("diary" : Str)) = false := by decide +kernel
theorem ne_moves_last : (("moves" : Str) == ("last" : Str)) = false := by decide +kernel
theorem ne_moves_own : (("moves" : Str) == ("own" : Str)) = false := by decide +kernel
theorem ne_moves_shared : (("moves" : Str) == ("shared" : Str)) = false := by decide +kernel
theorem ne_near_diary : (("near" : Str) == ("diary" : Str)) = false := by decide +kernel
theorem ne_near_last : (("near" : Str) == ("last" : Str)) = false := by decide +kernel
theorem ne_near_own : (("near" : Str) == ("own" : Str)) = false := by decide +kernel
theorem ne_near_shared : (("near" : Str) == ("shared" : Str)) = false := by decide +kernel
theorem ne_need_diary : (("need" : Str) == ("diary" : Str)) = false := by decide +kernel
theorem ne_need_last : (("need" : Str) == ("last" : Str)) = false := by decide +kernel
theorem ne_need_own : (("need" : Str) == ("own" : Str)) = false := by decide +kernel
theorem ne_need_shared : (("need" : Str) == ("shared" : Str)) = false := by decide +kernel
theorem ne_note_behind : (("note" : Str) == ("behind" : Str)) = false := by decide +kernel
theorem ne_note_diary : (("note" : Str) == ("diary" : Str)) = false := by decide +kernel
theorem ne_note_is_back : (("note" : Str) == ("is_back" : Str)) = false := by decide +kernel
theorem ne_note_is_in : (("note" : Str) == ("is_in" : Str)) = false := by decide +kernel
theorem ne_note_is_late : (("note" : Str) == ("is_late" : Str)) = false := by decide +kernel
theorem ne_note_sets : (("note" : Str) == ("sets" : Str)) = false := by decide +kernel
theorem ne_note_title : (("note" : Str) == ("title" : Str)) = false := by decide +kernel
theorem ne_note_ways : (("note" : Str) == ("ways" : Str)) = false := by decide +kernel
theorem ne_numbers_block : (("numbers" : Str) == ("block" : Str)) = false := by decide +kernel
theorem ne_own_diary : (("own" : Str) == ("diary" : Str)) = false := by decide +kernel
theorem ne_own_last : (("own" : Str) == ("last" : Str)) = false := by decide +kernel
theorem ne_own_shared : (("own" : Str) == ("shared" : Str)) = false := by decide +kernel
theorem ne_pass_cell_behind : (("pass_cell" : Str) == ("behind" : Str)) = false := by decide +kernel
theorem ne_pass_cell_diary : (("pass_cell" : Str) == ("diary" : Str)) = false := by decide +kernel
theorem ne_pass_cell_is_back : (("pass_cell" : Str) == ("is_back" : Str)) = false := by decide +kernel
theorem ne_pass_cell_is_in : (("pass_cell" : Str) == ("is_in" : Str)) = false := by decide +kernel
theorem ne_pass_cell_is_late : (("pass_cell" : Str) == ("is_late" : Str)) = false := by decide +kernel
theorem ne_pass_cell_sets : (("pass_cell" : Str) == ("sets" : Str)) = false := by decide +kernel
theorem ne_pass_cell_title : (("pass_cell" : Str) == ("title" : Str)) = false := by decide +kernel
theorem ne_pass_cell_ways : (("pass_cell" : Str) == ("ways" : Str)) = false := by decide +kernel
theorem ne_pass_home_behind : (("pass_home" : Str) == ("behind" : Str)) = false := by decide +kernel
theorem ne_pass_home_diary : (("pass_home" : Str) == ("diary" : Str)) = false := by decide +kernel
theorem ne_pass_home_is_back : (("pass_home" : Str) == ("is_back" : Str)) = false := by decide +kernel
theorem ne_pass_home_is_in : (("pass_home" : Str) == ("is_in" : Str)) = false := by decide +kernel
theorem ne_pass_home_is_late : (("pass_home" : Str) == ("is_late" : Str)) = false := by decide +kernel
theorem ne_pass_home_sets : (("pass_home" : Str) == ("sets" : Str)) = false := by decide +kernel
theorem ne_pass_home_title : (("pass_home" : Str) == ("title" : Str)) = false := by decide +kernel
theorem ne_pass_home_ways : (("pass_home" : Str) == ("ways" : Str)) = false := by decide +kernel
theorem ne_reach_behind : (("reach" : Str) == ("behind" : Str)) = false := by decide +kernel
theorem ne_reach_diary : (("reach" : Str) == ("diary" : Str)) = false := by decide +kernel
theorem ne_reach_is_back : (("reach" : Str) == ("is_back" : Str)) = false := by decide +kernel
theorem ne_reach_is_in : (("reach" : Str) == ("is_in" : Str)) = false := by decide +kernel
theorem ne_reach_is_late : (("reach" : Str) == ("is_late" : Str)) = false := by decide +kernel
theorem ne_reach_sets : (("reach" : Str) == ("sets" : Str)) = false := by decide +kernel
theorem ne_reach_title : (("reach" : Str) == ("title" : Str)) = false := by decide +kernel
theorem ne_reach_ways : (("reach" : Str) == ("ways" : Str)) = false := by decide +kernel
theorem ne_sets_behind : (("sets" : Str) == ("behind" : Str)) = false := by decide +kernel
theorem ne_sets_diary : (("sets" : Str) == ("diary" : Str)) = false := by decide +kernel
theorem ne_sets_is_back : (("sets" : Str) == ("is_back" : Str)) = false := by decide +kernel
theorem ne_sets_is_in : (("sets" : Str) == ("is_in" : Str)) = false := by decide +kernel
theorem ne_sets_is_late : (("sets" : Str) == ("is_late" : Str)) = false := by decide +kernel
theorem ne_sets_title : (("sets" : Str) == ("title" : Str)) = false := by decide +kernel
theorem ne_sets_ways : (("sets" : Str) == ("ways" : Str)) = false := by decide +kernel
theorem ne_settle_behind : (("settle" : Str) == ("behind" : Str)) = false := by decide +kernel
theorem ne_settle_diary : (("settle" : Str) == ("diary" : Str)) = false := by decide +kernel
theorem ne_settle_is_back : (("settle" : Str) == ("is_back" : Str)) = false := by decide +kernel
theorem ne_settle_is_in : (("settle" : Str) == ("is_in" : Str)) = false := by decide +kernel
theorem ne_settle_is_late : (("settle" : Str) == ("is_late" : Str)) = false := by decide +kernel
theorem ne_settle_last : (("settle" : Str) == ("last" : Str)) = false := by decide +kernel
theorem ne_settle_own : (("settle" : Str) == ("own" : Str)) = false := by decide +kernel
theorem ne_settle_sets : (("settle" : Str) == ("sets" : Str)) = false := by decide +kernel
theorem ne_settle_shared : (("settle" : Str) == ("shared" : Str)) = false := by decide +kernel
theorem ne_settle_title : (("settle" : Str) == ("title" : Str)) = false := by decide +kernel
theorem ne_settle_ways : (("settle" : Str) == ("ways" : Str)) = false := by decide +kernel
theorem ne_shared_diary : (("shared" : Str) == ("diary" : Str)) = false := by decide +kernel
theorem ne_shared_last : (("shared" : Str) == ("last" : Str)) = false := by decide +kernel
theorem ne_title_behind : (("title" : Str) == ("behind" : Str)) = false := by decide +kernel
theorem ne_title_is_back : (("title" : Str) == ("is_back" : Str)) = false := by decide +kernel
theorem ne_title_is_in : (("title" : Str) == ("is_in" : Str)) = false := by decide +kernel
theorem ne_title_is_late : (("title" : Str) == ("is_late" : Str)) = false := by decide +kernel
theorem ne_title_ways : (("title" : Str) == ("ways" : Str)) = false := by decide +kernel
theorem ne_touch_behind : (("touch" : Str) == ("behind" : Str)) = false := by decide +kernel
theorem ne_touch_diary : (("touch" : Str) == ("diary" : Str)) = false := by decide +kernel
theorem ne_touch_is_back : (("touch" : Str) == ("is_back" : Str)) = false := by decide +kernel
theorem ne_touch_is_in : (("touch" : Str) == ("is_in" : Str)) = false := by decide +kernel
theorem ne_touch_is_late : (("touch" : Str) == ("is_late" : Str)) = false := by decide +kernel
theorem ne_touch_sets : (("touch" : Str) == ("sets" : Str)) = false := by decide +kernel
theorem ne_touch_title : (("touch" : Str) == ("title" : Str)) = false := by decide +kernel
theorem ne_touch_ways : (("touch" : Str) == ("ways" : Str)) = false := by decide +kernel
theorem ne_yield_up_behind : (("yield_up" : Str) == ("behind" : Str)) = false := by decide +kernel
theorem ne_yield_up_diary : (("yield_up" : Str) == ("diary" : Str)) = false := by decide +kernel
theorem ne_yield_up_is_back : (("yield_up" : Str) == ("is_back" : Str)) = false := by decide +kernel
theorem ne_yield_up_is_in : (("yield_up" : Str) == ("is_in" : Str)) = false := by decide +kernel
theorem ne_yield_up_is_late : (("yield_up" : Str) == ("is_late" : Str)) = false := by decide +kernel
theorem ne_yield_up_sets : (("yield_up" : Str) == ("sets" : Str)) = false := by decide +kernel
theorem ne_yield_up_title : (("yield_up" : Str) == ("title" : Str)) = false := by decide +kernel
theorem ne_yield_up_ways : (("yield_up" : Str) == ("ways" : Str)) = false := by decide +kernel
theorem lk_Far_held {v0 : V} : (fFar v0).lookup ("held" : Str) = some v0 := lk_hd
theorem no_Far_bring {v0 : V} : (fFar v0).lookup ("bring" : Str) = none := (lk_tl ne_bring_held).trans (rfl)
theorem no_Far_home {v0 : V} : (fFar v0).lookup ("home" : Str) = none := (lk_tl ne_home_held).trans (rfl)
theorem no_Far_change {v0 : V} : (fFar v0).lookup ("change" : Str) = none := (lk_tl ne_change_held).trans (rfl)
theorem pf_Far_held {v0 z : V} : putF "held" z (fFar v0) = fFar z := by
  unfold fFar
  rw [pf_hd]
theorem lk_Line_block {v0 v1 v2 : V} : (fLine v0 v1 v2).lookup ("block" : Str) = some v0 := lk_hd
theorem lk_Line_numbers {v0 v1 v2 : V} : (fLine v0 v1 v2).lookup ("numbers" : Str) = some v1 := (lk_tl ne_numbers_block).trans lk_hd
theorem lk_Line_is_dirty {v0 v1 v2 : V} : (fLine v0 v1 v2).lookup ("is_dirty" : Str) = some v2 := (lk_tl ne_is_dirty_block).trans ((lk_tl ne_is_dirty_numbers).trans lk_hd)
theorem pf_Line_block {v0 v1 v2 z : V} : putF "block" z (fLine v0 v1 v2) = fLine z v1 v2 := by
  unfold fLine
  rw [pf_hd]
theorem pf_Line_numbers {v0 v1 v2 z : V} : putF "numbers" z (fLine v0 v1 v2) = fLine v0 z v2 := by
  unfold fLine
  rw [pf_tl ne_numbers_block]
  rw [pf_hd]
theorem pf_Line_is_dirty {v0 v1 v2 z : V} : putF "is_dirty" z (fLine v0 v1 v2) = fLine v0 v1 z := by
  unfold fLine
  rw [pf_tl ne_is_dirty_block]
  rw [pf_tl ne_is_dirty_numbers]
  rw [pf_hd]
theorem lk_Room_ways {v0 v1 v2 v3 v4 v5 v6 v7 : V} : (fRoom v0 v1 v2 v3 v4 v5 v6 v7).lookup ("ways" : Str) = some v0 := lk_hd
theorem lk_Room_is_back {v0 v1 v2 v3 v4 v5 v6 v7 : V} : (fRoom v0 v1 v2 v3 v4 v5 v6 v7).lookup ("is_back" : Str) = some v1 := (lk_tl ne_is_back_ways).trans lk_hd
theorem lk_Room_is_in {v0 v1 v2 v3 v4 v5 v6 v7 : V} : (fRoom v0 v1 v2 v3 v4 v5 v6 v7).lookup ("is_in" : Str) = some v2 := (lk_tl ne_is_in_ways).trans ((lk_tl ne_is_in_is_back).trans lk_hd)
theorem lk_Room_is_late {v0 v1 v2 v3 v4 v5 v6 v7 : V} : (fRoom v0 v1 v2 v3 v4 v5 v6 v7).lookup ("is_late" : Str) = some v3 := (lk_tl ne_is_late_ways).trans ((lk_tl ne_is_late_is_back).trans ((lk_tl ne_is_late_is_in).trans lk_hd))
theorem lk_Room_behind {v0 v1 v2 v3 v4 v5 v6 v7 : V} : (fRoom v0 v1 v2 v3 v4 v5 v6 v7).lookup ("behind" : Str) = some v4 := (lk_tl ne_behind_ways).trans ((lk_tl ne_behind_is_back).trans ((lk_tl ne_behind_is_in).trans ((lk_tl ne_behind_is_late).trans lk_hd)))
theorem lk_Room_title {v0 v1 v2 v3 v4 v5 v6 v7 : V} : (fRoom v0 v1 v2 v3 v4 v5 v6 v7).lookup ("title" : Str) = some v5 := (lk_tl ne_title_ways).trans ((lk_tl ne_title_is_back).trans ((lk_tl ne_title_is_in).trans ((lk_tl ne_title_is_late).trans ((lk_tl ne_title_behind).trans lk_hd))))
theorem lk_Room_diary {v0 v1 v2 v3 v4 v5 v6 v7 : V} : (fRoom v0 v1 v2 v3 v4 v5 v6 v7).lookup ("diary" : Str) = some v6 := (lk_tl ne_diary_ways).trans ((lk_tl ne_diary_is_back).trans ((lk_tl ne_diary_is_in).trans ((lk_tl ne_diary_is_late).trans ((lk_tl ne_diary_behind).trans ((lk_tl ne_diary_title).trans lk_hd)))))
theorem lk_Room_sets {v0 v1 v2 v3 v4 v5 v6 v7 : V} : (fRoom v0 v1 v2 v3 v4 v5 v6 v7).lookup ("sets" : Str) = some v7 := (lk_tl ne_sets_ways).trans ((lk_tl ne_sets_is_back).trans ((lk_tl ne_sets_is_in).trans ((lk_tl ne_sets_is_late).trans ((lk_tl ne_sets_behind).trans ((lk_tl ne_sets_title).trans ((lk_tl ne_sets_diary).trans lk_hd))))))
theorem no_Room_lines_of {v0 v1 v2 v3 v4 v5 v6 v7 : V} : (fRoom v0 v1 v2 v3 v4 v5 v6 v7).lookup ("lines_of" : Str) = none := (lk_tl ne_lines_of_ways).trans ((lk_tl ne_lines_of_is_back).trans ((lk_tl ne_lines_of_is_in).trans ((lk_tl ne_lines_of_is_late).trans ((lk_tl ne_lines_of_behind).trans ((lk_tl ne_lines_of_title).trans ((lk_tl ne_lines_of_diary).trans ((lk_tl ne_lines_of_sets).trans (rfl))))))))
theorem no_Room_line_of {v0 v1 v2 v3 v4 v5 v6 v7 : V} : (fRoom v0 v1 v2 v3 v4 v5 v6 v7).lookup ("line_of" : Str) = none := (lk_tl ne_line_of_ways).trans ((lk_tl ne_line_of_is_back).trans ((lk_tl ne_line_of_is_in).trans ((lk_tl ne_line_of_is_late).trans ((lk_tl ne_line_of_behind).trans ((lk_tl ne_line_of_title).trans ((lk_tl ne_line_of_diary).trans ((lk_tl ne_line_of_sets).trans (rfl))))))))
theorem no_Room_note {v0 v1 v2 v3 v4 v5 v6 v7 : V} : (fRoom v0 v1 v2 v3 v4 v5 v6 v7).lookup ("note" : Str) = none := (lk_tl ne_note_ways).trans ((lk_tl ne_note_is_back).trans ((lk_tl ne_note_is_in).trans ((lk_tl ne_note_is_late).trans ((lk_tl ne_note_behind).trans ((lk_tl ne_note_title).trans ((lk_tl ne_note_diary).trans ((lk_tl ne_note_sets).trans (rfl))))))))
theorem no_Room_pass_home {v0 v1 v2 v3 v4 v5 v6 v7 : V} : (fRoom v0 v1 v2 v3 v4 v5 v6 v7).lookup ("pass_home" : Str) = none := (lk_tl ne_pass_home_ways).trans ((lk_tl ne_pass_home_is_back).trans ((lk_tl ne_pass_home_is_in).trans ((lk_tl ne_pass_home_is_late).trans ((lk_tl ne_pass_home_behind).trans ((lk_tl ne_pass_home_title).trans ((lk_tl ne_pass_home_diary).trans ((lk_tl ne_pass_home_sets).trans (rfl))))))))
theorem no_Room_pass_cell {v0 v1 v2 v3 v4 v5 v6 v7 : V} : (fRoom v0 v1 v2 v3 v4 v5 v6 v7).lookup ("pass_cell" : Str) = none := (lk_tl ne_pass_cell_ways).trans ((lk_tl ne_pass_cell_is_back).trans ((lk_tl ne_pass_cell_is_in).trans ((lk_tl ne_pass_cell_is_late).trans ((lk_tl ne_pass_cell_behind).trans ((lk_tl ne_pass_cell_title).trans ((lk_tl ne_pass_cell_diary).trans ((lk_tl ne_pass_cell_sets).trans (rfl))))))))
theorem no_Room_make_way {v0 v1 v2 v3 v4 v5 v6 v7 : V} : (fRoom v0 v1 v2 v3 v4 v5 v6 v7).lookup ("make_way" : Str) = none := (lk_tl ne_make_way_ways).trans ((lk_tl ne_make_way_is_back).trans ((lk_tl ne_make_way_is_in).trans ((lk_tl ne_make_way_is_late).trans ((lk_tl ne_make_way_behind).trans ((lk_tl ne_make_way_title).trans ((lk_tl ne_make_way_diary).trans ((lk_tl ne_make_way_sets).trans (rfl))))))))
theorem no_Room_touch {v0 v1 v2 v3 v4 v5 v6 v7 : V} : (fRoom v0 v1 v2 v3 v4 v5 v6 v7).lookup ("touch" : Str) = none := (lk_tl ne_touch_ways).trans ((lk_tl ne_touch_is_back).trans ((lk_tl ne_touch_is_in).trans ((lk_tl ne_touch_is_late).trans ((lk_tl ne_touch_behind).trans ((lk_tl ne_touch_title).trans ((lk_tl ne_touch_diary).trans ((lk_tl ne_touch_sets).trans (rfl))))))))
theorem no_Room_reach {v0 v1 v2 v3 v4 v5 v6 v7 : V} : (fRoom v0 v1 v2 v3 v4 v5 v6 v7).lookup ("reach" : Str) = none := (lk_tl ne_reach_ways).trans ((lk_tl ne_reach_is_back).trans ((lk_tl ne_reach_is_in).trans ((lk_tl ne_reach_is_late).trans ((lk_tl ne_reach_behind).trans ((lk_tl ne_reach_title).trans ((lk_tl ne_reach_diary).trans ((lk_tl ne_reach_sets).trans (rfl))))))))
theorem no_Room_bring {v0 v1 v2 v3 v4 v5 v6 v7 : V} : (fRoom v0 v1 v2 v3 v4 v5 v6 v7).lookup ("bring" : Str) = none := (lk_tl ne_bring_ways).trans ((lk_tl ne_bring_is_back).trans ((lk_tl ne_bring_is_in).trans ((lk_tl ne_bring_is_late).trans ((lk_tl ne_bring_behind).trans ((lk_tl ne_bring_title).trans ((lk_tl ne_bring_diary).trans ((lk_tl ne_bring_sets).trans (rfl))))))))
theorem no_Room_look {v0 v1 v2 v3 v4 v5 v6 v7 : V} : (fRoom v0 v1 v2 v3 v4 v5 v6 v7).lookup ("look" : Str) = none := (lk_tl ne_look_ways).trans ((lk_tl ne_look_is_back).trans ((lk_tl ne_look_is_in).trans ((lk_tl ne_look_is_late).trans ((lk_tl ne_look_behind).trans ((lk_tl ne_look_title).trans ((lk_tl ne_look_diary).trans ((lk_tl ne_look_sets).trans (rfl))))))))
theorem no_Room_change {v0 v1 v2 v3 v4 v5 v6 v7 : V} : (fRoom v0 v1 v2 v3 v4 v5 v6 v7).lookup ("change" : Str) = none := (lk_tl ne_change_ways).trans ((lk_tl ne_change_is_back).trans ((lk_tl ne_change_is_in).trans ((lk_tl ne_change_is_late).trans ((lk_tl ne_change_behind).trans ((lk_tl ne_change_title).trans ((lk_tl ne_change_diary).trans ((lk_tl ne_change_sets).trans (rfl))))))))
theorem no_Room_home {v0 v1 v2 v3 v4 v5 v6 v7 : V} : (fRoom v0 v1 v2 v3 v4 v5 v6 v7).lookup ("home" : Str) = none := (lk_tl ne_home_ways).trans ((lk_tl ne_home_is_back).trans ((lk_tl ne_home_is_in).trans ((lk_tl ne_home_is_late).trans ((lk_tl ne_home_behind).trans ((lk_tl ne_home_title).trans ((lk_tl ne_home_diary).trans ((lk_tl ne_home_sets).trans (rfl))))))))
theorem no_Room_yield_up {v0 v1 v2 v3 v4 v5 v6 v7 : V} : (fRoom v0 v1 v2 v3 v4 v5 v6 v7).lookup ("yield_up" : Str) = none := (lk_tl ne_yield_up_ways).trans ((lk_tl ne_yield_up_is_back).trans ((lk_tl ne_yield_up_is_in).trans ((lk_tl ne_yield_up_is_late).trans ((lk_tl ne_yield_up_behind).trans ((lk_tl ne_yield_up_title).trans ((lk_tl ne_yield_up_diary).trans ((lk_tl ne_yield_up_sets).trans (rfl))))))))
theorem no_Room_settle {v0 v1 v2 v3 v4 v5 v6 v7 : V} : (fRoom v0 v1 v2 v3 v4 v5 v6 v7).lookup ("settle" : Str) = none := (lk_tl ne_settle_ways).trans ((lk_tl ne_settle_is_back).trans ((lk_tl ne_settle_is_in).trans ((lk_tl ne_settle_is_late).trans ((lk_tl ne_settle_behind).trans ((lk_tl ne_settle_title).trans ((lk_tl ne_settle_diary).trans ((lk_tl ne_settle_sets).trans (rfl))))))))
theorem no_Room_holds {v0 v1 v2 v3 v4 v5 v6 v7 : V} : (fRoom v0 v1 v2 v3 v4 v5 v6 v7).lookup ("holds" : Str) = none := (lk_tl ne_holds_ways).trans ((lk_tl ne_holds_is_back).trans ((lk_tl ne_holds_is_in).trans ((lk_tl ne_holds_is_late).trans ((lk_tl ne_holds_behind).trans ((lk_tl ne_holds_title).trans ((lk_tl ne_holds_diary).trans ((lk_tl ne_holds_sets).trans (rfl))))))))
theorem pf_Room_ways {v0 v1 v2 v3 v4 v5 v6 v7 z : V} : putF "ways" z (fRoom v0 v1 v2 v3 v4 v5 v6 v7) = fRoom z v1 v2 v3 v4 v5 v6 v7 := by
  unfold fRoom
  rw [pf_hd]
theorem pf_Room_is_back {v0 v1 v2 v3 v4 v5 v6 v7 z : V} : putF "is_back" z (fRoom v0 v1 v2 v3 v4 v5 v6 v7) = fRoom v0 z v2 v3 v4 v5 v6 v7 := by
  unfold fRoom
  rw [pf_tl ne_is_back_ways]
  rw [pf_hd]
theorem pf_Room_is_in {v0 v1 v2 v3 v4 v5 v6 v7 z : V} : putF "is_in" z (fRoom v0 v1 v2 v3 v4 v5 v6 v7) = fRoom v0 v1 z v3 v4 v5 v6 v7 := by
  unfold fRoom
  rw [pf_tl ne_is_in_ways]
  rw [pf_tl ne_is_in_is_back]
  rw [pf_hd]
theorem pf_Room_is_late {v0 v1 v2 v3 v4 v5 v6 v7 z : V} : putF "is_late" z (fRoom v0 v1 v2 v3 v4 v5 v6 v7) = fRoom v0 v1 v2 z v4 v5 v6 v7 := by
  unfold fRoom
  rw [pf_tl ne_is_late_ways]
  rw [pf_tl ne_is_late_is_back]
  rw [pf_tl ne_is_late_is_in]
  rw [pf_hd]
theorem pf_Room_behind {v0 v1 v2 v3 v4 v5 v6 v7 z : V} : putF "behind" z (fRoom v0 v1 v2 v3 v4 v5 v6 v7) = fRoom v0 v1 v2 v3 z v5 v6 v7 := by
  unfold fRoom
  rw [pf_tl ne_behind_ways]
  rw [pf_tl ne_behind_is_back]
  rw [pf_tl ne_behind_is_in]
  rw [pf_tl ne_behind_is_late]
  rw [pf_hd]
theorem pf_Room_title {v0 v1 v2 v3 v4 v5 v6 v7 z : V} : putF "title" z (fRoom v0 v1 v2 v3 v4 v5 v6 v7) = fRoom v0 v1 v2 v3 v4 z v6 v7 := by
  unfold fRoom
  rw [pf_tl ne_title_ways]
  rw [pf_tl ne_title_is_back]
  rw [pf_tl ne_title_is_in]
  rw [pf_tl ne_title_is_late]
  rw [pf_tl ne_title_behind]
  rw [pf_hd]
theorem pf_Room_diary {v0 v1 v2 v3 v4 v5 v6 v7 z : V} : putF "diary" z (fRoom v0 v1 v2 v3 v4 v5 v6 v7) = fRoom v0 v1 v2 v3 v4 v5 z v7 := by
  unfold fRoom
  rw [pf_tl ne_diary_ways]
  rw [pf_tl ne_diary_is_back]
  rw [pf_tl ne_diary_is_in]
  rw [pf_tl ne_diary_is_late]
  rw [pf_tl ne_diary_behind]
  rw [pf_tl ne_diary_title]
  rw [pf_hd]
theorem pf_Room_sets {v0 v1 v2 v3 v4 v5 v6 v7 z : V} : putF "sets" z (fRoom v0 v1 v2 v3 v4 v5 v6 v7) = fRoom v0 v1 v2 v3 v4 v5 v6 z := by
  unfold fRoom
  rw [pf_tl ne_sets_ways]
  rw [pf_tl ne_sets_is_back]
  rw [pf_tl ne_sets_is_in]
  rw [pf_tl ne_sets_is_late]
  rw [pf_tl ne_sets_behind]
  rw [pf_tl ne_sets_title]
  rw [pf_tl ne_sets_diary]
  rw [pf_hd]
theorem lk_Hall_diary {v0 v1 v2 v3 : V} : (fHall v0 v1 v2 v3).lookup ("diary" : Str) = some v0 := lk_hd
theorem lk_Hall_last {v0 v1 v2 v3 : V} : (fHall v0 v1 v2 v3).lookup ("last" : Str) = some v1 := (lk_tl ne_last_diary).trans lk_hd
theorem lk_Hall_shared {v0 v1 v2 v3 : V} : (fHall v0 v1 v2 v3).lookup ("shared" : Str) = some v2 := (lk_tl ne_shared_diary).trans ((lk_tl ne_shared_last).trans lk_hd)
theorem lk_Hall_own {v0 v1 v2 v3 : V} : (fHall v0 v1 v2 v3).lookup ("own" : Str) = some v3 := (lk_tl ne_own_diary).trans ((lk_tl ne_own_last).trans ((lk_tl ne_own_shared).trans lk_hd))
theorem no_Hall_need {v0 v1 v2 v3 : V} : (fHall v0 v1 v2 v3).lookup ("need" : Str) = none := (lk_tl ne_need_diary).trans ((lk_tl ne_need_last).trans ((lk_tl ne_need_shared).trans ((lk_tl ne_need_own).trans (rfl))))
theorem no_Hall_ask_others {v0 v1 v2 v3 : V} : (fHall v0 v1 v2 v3).lookup ("ask_others" : Str) = none := (lk_tl ne_ask_others_diary).trans ((lk_tl ne_ask_others_last).trans ((lk_tl ne_ask_others_shared).trans ((lk_tl ne_ask_others_own).trans (rfl))))
theorem no_Hall_look {v0 v1 v2 v3 : V} : (fHall v0 v1 v2 v3).lookup ("look" : Str) = none := (lk_tl ne_look_diary).trans ((lk_tl ne_look_last).trans ((lk_tl ne_look_shared).trans ((lk_tl ne_look_own).trans (rfl))))
theorem no_Hall_change {v0 v1 v2 v3 : V} : (fHall v0 v1 v2 v3).lookup ("change" : Str) = none := (lk_tl ne_change_diary).trans ((lk_tl ne_change_last).trans ((lk_tl ne_change_shared).trans ((lk_tl ne_change_own).trans (rfl))))
theorem no_Hall_settle {v0 v1 v2 v3 : V} : (fHall v0 v1 v2 v3).lookup ("settle" : Str) = none := (lk_tl ne_settle_diary).trans ((lk_tl ne_settle_last).trans ((lk_tl ne_settle_shared).trans ((lk_tl ne_settle_own).trans (rfl))))
theorem no_Hall_far {v0 v1 v2 v3 : V} : (fHall v0 v1 v2 v3).lookup ("far" : Str) = none := (lk_tl ne_far_diary).trans ((lk_tl ne_far_last).trans ((lk_tl ne_far_shared).trans ((lk_tl ne_far_own).trans (rfl))))
theorem no_Hall_near {v0 v1 v2 v3 : V} : (fHall v0 v1 v2 v3).lookup ("near" : Str) = none := (lk_tl ne_near_diary).trans ((lk_tl ne_near_last).trans ((lk_tl ne_near_shared).trans ((lk_tl ne_near_own).trans (rfl))))
theorem no_Hall_log {v0 v1 v2 v3 : V} : (fHall v0 v1 v2 v3).lookup ("log" : Str) = none := (lk_tl ne_log_diary).trans ((lk_tl ne_log_last).trans ((lk_tl ne_log_shared).trans ((lk_tl ne_log_own).trans (rfl))))
theorem no_Hall_moves {v0 v1 v2 v3 : V} : (fHall v0 v1 v2 v3).lookup ("moves" : Str) = none := (lk_tl ne_moves_diary).trans ((lk_tl ne_moves_last).trans ((lk_tl ne_moves_shared).trans ((lk_tl ne_moves_own).trans (rfl))))
theorem pf_Hall_diary {v0 v1 v2 v3 z : V} : putF "diary" z (fHall v0 v1 v2 v3) = fHall z v1 v2 v3 := by
  unfold fHall
  rw [pf_hd]
theorem pf_Hall_last {v0 v1 v2 v3 z : V} : putF "last" z (fHall v0 v1 v2 v3) = fHall v0 z v2 v3 := by
  unfold fHall
  rw [pf_tl ne_last_diary]
  rw [pf_hd]
theorem pf_Hall_shared {v0 v1 v2 v3 z : V} : putF "shared" z (fHall v0 v1 v2 v3) = fHall v0 v1 z v3 := by
  unfold fHall
  rw [pf_tl ne_shared_diary]
  rw [pf_tl ne_shared_last]
  rw [pf_hd]
theorem pf_Hall_own {v0 v1 v2 v3 z : V} : putF "own" z (fHall v0 v1 v2 v3) = fHall v0 v1 v2 z := by
  unfold fHall
  rw [pf_tl ne_own_diary]
  rw [pf_tl ne_own_last]
  rw [pf_tl ne_own_shared]
  rw [pf_hd]
-- WwPure
/-! ### plain facts of the rooms -/
theorem ix_lt {r : Rm} (h : 0 < r.ss.length) (b : Nat) : r.ix b < r.ss.length := Nat.mod_lt _ h
theorem ls_get {r : Rm} (h : 0 < r.ss.length) (b : Nat) : r.ss[r.ix b]? = some (r.ls b) := by
  unfold Rm.ls
  rw [List.getD_eq_getElem?_getD, List.getElem?_eq_getElem (ix_lt h b)]
  rfl
theorem ls_mem {r : Rm} (h : 0 < r.ss.length) (b : Nat) : r.ls b ∈ r.ss := List.mem_of_getElem? (ls_get h b)
theorem put_len (r : Rm) (b : Nat) (ls : List Ln) : (r.put b ls).ss.length = r.ss.length := by unfold Rm.put; simp
theorem put_ru (r : Rm) (b : Nat) (ls : List Ln) : (r.put b ls).ru = r.ru := rfl
theorem put_ix (r : Rm) (b c : Nat) (ls : List Ln) : (r.put b ls).ix c = r.ix c := by unfold Rm.ix; rw [put_len]
theorem ls_put {r : Rm} (h : 0 < r.ss.length) (b : Nat) (ls : List Ln) : (r.put b ls).ls b = ls := by
  unfold Rm.ls
  rw [put_ix]
  unfold Rm.put
  rw [List.getD_eq_getElem?_getD, List.getElem?_set_self (ix_lt h b)]
  rfl
theorem ls_put_ne {r : Rm} {b c : Nat} {ls : List Ln} (h : r.ix c ≠ r.ix b) : (r.put b ls).ls c = r.ls c := by
  unfold Rm.ls
  rw [put_ix]
  unfold Rm.put
  rw [List.getD_eq_getElem?_getD, List.getElem?_set_ne (Ne.symm h), ← List.getD_eq_getElem?_getD]
theorem put_put (r : Rm) (b : Nat) (ls ls' : List Ln) : (r.put b ls).put b ls' = r.put b ls' := by
  unfold Rm.put
  simp only [Rm.ix, List.length_set, List.set_set]
theorem put_self {r : Rm} (h : 0 < r.ss.length) (b : Nat) : r.put b (r.ls b) = r := by
  unfold Rm.put
  have : r.ss.set (r.ix b) (r.ls b) = r.ss := by
    apply List.ext_getElem?
    intro i
    by_cases e : r.ix b = i
    · subst e
      rw [List.getElem?_set_self (ix_lt h b), ls_get h b]
    · rw [List.getElem?_set_ne e]
  rw [this]
theorem put_ok {r : Rm} (h : RmOk r) {b : Nat} {ls : List Ln} (hl : LsOk r.ru ls) : RmOk (r.put b ls) := by
  refine ⟨by rw [put_len]; exact h.s0, by rw [put_len]; exact h.s4, h.ru, fun ls' hm => ?_⟩
  rcases List.mem_or_eq_of_mem_set hm with hm | e
  · exact h.ln _ hm
  · rw [e]
    exact hl
theorem RmOk.ls {r : Rm} (h : RmOk r) (b : Nat) : LsOk r.ru (r.ls b) := h.ln _ (ls_mem h.s0 b)
theorem fnd_some {b : Nat} : ∀ {ls : List Ln} {i : Nat}, fnd b ls = some i → ∃ l, ls[i]? = some l ∧ l.b = b ∧ ∀ (m : Nat) (l' : Ln), m < i → ls[m]? = some l' → l'.b ≠ b
  | [], i, h => by cases h
  | l :: r, i, h => by
    unfold fnd at h
    by_cases e : l.b = b
    · rw [if_pos e] at h
      cases h
      exact ⟨l, rfl, e, fun m l' hm => by omega⟩
    · rw [if_neg e] at h
      cases hr : fnd b r with
      | none =>
        rw [hr] at h
        cases h
      | some j =>
        rw [hr] at h
        have h2 : j + 1 = i := Option.some.inj h
        subst h2
        obtain ⟨l1, h1, h2, h3⟩ := fnd_some hr
        refine ⟨l1, h1, h2, fun m l' hm hl => ?_⟩
        cases m with
        | zero =>
          have : l = l' := Option.some.inj hl
          rw [← this]
          exact e
        | succ m => exact h3 m l' (by omega) hl
theorem fnd_none {b : Nat} : ∀ {ls : List Ln}, fnd b ls = none → ∀ l ∈ ls, l.b ≠ b
  | [], _, l, hl => by cases hl
  | a :: r, h, l, hl => by
    unfold fnd at h
    by_cases e : a.b = b
    · rw [if_pos e] at h
      cases h
    · rw [if_neg e] at h
      rcases List.mem_cons.mp hl with e' | hm
      · rw [e']
        exact e
      · refine fnd_none ?_ l hm
        cases hr : fnd b r with
        | none => rfl
        | some j =>
          rw [hr] at h
          cases h
theorem fnd_lt {b : Nat} {ls : List Ln} {i : Nat} (h : fnd b ls = some i) : i < ls.length := by
  obtain ⟨l, hl, _⟩ := fnd_some h
  exact (List.getElem?_eq_some_iff.mp hl).1
section
variable {α : Type} {lt : Bool} {ls : List α} {i : Nat}
theorem touch_len (h : i < ls.length) : (touchL lt ls i).length = ls.length := by
  unfold touchL
  split
  · rw [List.length_append, List.length_eraseIdx_of_lt h, List.getElem?_eq_getElem h]
    show ls.length - 1 + 1 = ls.length
    omega
  · rfl
theorem touch_mem {l : α} (h : l ∈ touchL lt ls i) : l ∈ ls := by
  unfold touchL at h
  split at h
  · rcases List.mem_append.mp h with h | h
    · exact List.mem_of_mem_eraseIdx h
    · cases e : ls[i]? with
      | none =>
        rw [e] at h
        cases h
      | some x =>
        rw [e] at h
        have : l = x := by simpa using h
        rw [this]
        exact List.mem_of_getElem? e
  · exact h
theorem touchI_lt (h : i < ls.length) : touchI lt ls i < ls.length := by
  unfold touchI
  split <;> omega
theorem touch_get (h : i < ls.length) : (touchL lt ls i)[touchI lt ls i]? = ls[i]? := by
  unfold touchL touchI
  split
  · rw [List.getElem?_append_right (by rw [List.length_eraseIdx_of_lt h]; omega), List.length_eraseIdx_of_lt h, List.getElem?_eq_getElem h, Nat.sub_self]
    rfl
  · rfl
theorem touch_map {β : Type} (f : α → β) (lt : Bool) (ls : List α) (i : Nat) : touchL lt (ls.map f) i = (touchL lt ls i).map f := by
  unfold touchL
  split
  · rw [erase_map, List.map_append, List.getElem?_map]
    cases ls[i]? <;> rfl
  · rfl
theorem touchI_map {β : Type} (f : α → β) (lt : Bool) (ls : List α) (i : Nat) : touchI lt (ls.map f) i = touchI lt ls i := by
  unfold touchI
  rw [List.length_map]
end
theorem lnAt_get {ls : List Ln} {i : Nat} {l : Ln} (h : ls[i]? = some l) : lnAt ls i = l := by
  unfold lnAt
  rw [List.getD_eq_getElem?_getD, h]
  rfl
structure OpsOk (n g : Nat) (o : Ops) : Prop where
  hm : ∀ t b ns, TaOk n t → b < 16 → ns.length = 4 → TaOk n (o.hm t b ns) ∧ (o.hm t b ns).log.length ≤ t.log.length + g
  br : ∀ t b, TaOk n t → b < 16 → (o.br t b).1.length = 4 ∧ TaOk n (o.br t b).2 ∧ (o.br t b).2.log.length ≤ t.log.length + g
  ch : ∀ t p v, TaOk n t → p < 64 → TaOk n (o.ch t p v) ∧ (o.ch t p v).log.length ≤ t.log.length + g
theorem note_ok {n : Nat} {t : Ta} (h : TaOk n t) (tl : List V) (w : Str) (k : Nat) : TaOk n (t.note tl w k) := ⟨h.len, h.rs, h.far⟩
theorem note_len (t : Ta) (tl : List V) (w : Str) (k : Nat) : (t.note tl w k).log.length = t.log.length + 1 := by simp [Ta.note]
section
variable {n g : Nat} {o : Ops} {u : Ru} {ls : List Ln} {t : Ta} {b : Nat} {tl : List V}
theorem passH_ok (O : OpsOk n g o) (h : TaOk n t) (hb : b < 16) {ns : List Int} (hn : ns.length = 4) : TaOk n (passH o tl t b ns) ∧ (passH o tl t b ns).log.length ≤ t.log.length + g + 1 := by
  obtain ⟨h1, h2⟩ := O.hm _ b ns (note_ok h tl "home" b) hb hn
  rw [note_len] at h2
  exact ⟨h1, by unfold passH; omega⟩
theorem passC_ok (O : OpsOk n g o) (h : TaOk n t) {p : Nat} (hp : p < 64) {v : Int} : TaOk n (passC o tl t p v) ∧ (passC o tl t p v).log.length ≤ t.log.length + g + 1 := by
  obtain ⟨h1, h2⟩ := O.ch _ p v (note_ok h tl "cell" p) hp
  rw [note_len] at h2
  exact ⟨h1, by unfold passC; omega⟩
/-- behind make_way there is room -/
theorem mkWay_ok (O : OpsOk n g o) (hu : RuOk u) (hl : LsOk u ls) (h : TaOk n t) :
    LsOk u (mkWay o u ls t).1 ∧ TaOk n (mkWay o u ls t).2 ∧ (mkWay o u ls t).1.length < u.ways ∧ (mkWay o u ls t).2.log.length ≤ t.log.length + g + 1 := by
  have hlen := hl.len
  have h0 := hu.w0
  unfold mkWay
  split
  · rename_i e
    split
    · simp at e
      omega
    · rename_i l rest
      have hlen2 : rest.length + 1 = u.ways := by simpa using e
      have hlo := hl.ok l List.mem_cons_self
      refine ⟨⟨by show rest.length ≤ _; omega, fun l' hm => hl.ok l' (List.mem_cons_of_mem _ hm)⟩, ?_, by show rest.length < _; omega, ?_⟩
      · show TaOk n (if l.d = true then _ else t)
        split
        · exact (passH_ok O h hlo.b hlo.ns).1
        · exact h
      · show (if l.d = true then _ else t).log.length ≤ _
        split
        · exact (passH_ok O h hlo.b hlo.ns).2
        · omega
  · rename_i e
    exact ⟨hl, h, by show ls.length < u.ways; omega, by show t.log.length ≤ _; omega⟩
theorem reachL_ok (O : OpsOk n g o) (hu : RuOk u) (hl : LsOk u ls) (h : TaOk n t) (hb : b < 16) :
    LsOk u (reachL o u ls t b).1 ∧ TaOk n (reachL o u ls t b).2.1 ∧ (∃ l, (reachL o u ls t b).1[(reachL o u ls t b).2.2]? = some l ∧ l.b = b ∧ LnOk l) ∧ (reachL o u ls t b).2.1.log.length ≤ t.log.length + 2 * g + 2 := by
  unfold reachL
  split
  · rename_i i e
    obtain ⟨l, hlg, hlb, _⟩ := fnd_some e
    have hi := fnd_lt e
    exact ⟨⟨by show (touchL u.lt ls i).length ≤ _; rw [touch_len hi]; exact hl.len, fun l' hm => hl.ok l' (touch_mem hm)⟩, h, ⟨l, (touch_get hi).trans hlg, hlb, hl.ok l (List.mem_of_getElem? hlg)⟩, by show t.log.length ≤ _; omega⟩
  · rename_i e
    obtain ⟨m1, m2, m3, m4⟩ := mkWay_ok O hu hl h
    obtain ⟨b1, b2, b3⟩ := O.br _ b (note_ok m2 u.tl "bring" b) hb
    rw [note_len] at b3
    refine ⟨⟨by show ((mkWay o u ls t).1 ++ [_]).length ≤ _; rw [List.length_append, List.length_singleton]; omega, fun l' hm => ?_⟩, b2, ⟨⟨b, (o.br ((mkWay o u ls t).2.note u.tl "bring" b) b).1, false⟩, ?_, rfl, ⟨hb, b1⟩⟩, by show (o.br _ b).2.log.length ≤ _; omega⟩
    · rcases List.mem_append.mp hm with hm | hm
      · exact m1.ok l' hm
      · rw [List.mem_singleton.mp hm]
        exact ⟨hb, b1⟩
    · show ((mkWay o u ls t).1 ++ [_])[(mkWay o u ls t).1.length]? = some _
      rw [List.getElem?_append_right (Nat.le_refl _), Nat.sub_self]
      rfl
theorem set_ok (hl : LsOk u ls) {i : Nat} {l : Ln} (hlo : LnOk l) : LsOk u (ls.set i l) := ⟨by rw [List.length_set]; exact hl.len, fun l' hm => by
  rcases List.mem_or_eq_of_mem_set hm with hm | e
  · exact hl.ok l' hm
  · rw [e]
    exact hlo⟩
theorem app_ok {u : Ru} {ls : List Ln} (hl : LsOk u ls) (hs : ls.length < u.ways) {l : Ln} (hlo : LnOk l) : LsOk u (ls ++ [l]) := ⟨by rw [List.length_append, List.length_singleton]; omega, fun l' hm => by
  rcases List.mem_append.mp hm with hm | hm
  · exact hl.ok l' hm
  · rw [List.mem_singleton.mp hm]
    exact hlo⟩
theorem bringL_ok (O : OpsOk n g o) (hu : RuOk u) (hl : LsOk u ls) (h : TaOk n t) (hb : b < 16) :
    (bringL o u ls t b).1.length = 4 ∧ LsOk u (bringL o u ls t b).2.1 ∧ TaOk n (bringL o u ls t b).2.2 ∧ (bringL o u ls t b).2.2.log.length ≤ t.log.length + 2 * g + 2 := by
  obtain ⟨h1, h2, ⟨l, hlg, _, hlo⟩, h4⟩ := reachL_ok O hu hl h hb
  refine ⟨?_, h1, h2, h4⟩
  show (lnAt _ _).ns.length = 4
  rw [lnAt_get hlg]
  exact hlo.ns
theorem lookL_ok (O : OpsOk n g o) (hu : RuOk u) (hl : LsOk u ls) (h : TaOk n t) {p : Nat} (hp : p < 64) :
    LsOk u (lookL o u ls t p).2.1 ∧ TaOk n (lookL o u ls t p).2.2 ∧ (lookL o u ls t p).2.2.log.length ≤ t.log.length + 2 * g + 2 := by
  obtain ⟨h1, h2, _, h4⟩ := reachL_ok O hu hl h (show p / 4 < 16 by omega)
  exact ⟨h1, h2, h4⟩
theorem changeL_ok (O : OpsOk n g o) (hu : RuOk u) (hl : LsOk u ls) (h : TaOk n t) {p : Nat} (hp : p < 64) {v : Int} :
    LsOk u (changeL o u ls t p v).1 ∧ TaOk n (changeL o u ls t p v).2 ∧ (changeL o u ls t p v).2.log.length ≤ t.log.length + 3 * g + 3 := by
  unfold changeL
  split
  · obtain ⟨c1, c2⟩ := passC_ok (tl := u.tl) (v := v) O h hp
    exact ⟨hl, c1, by show (passC o u.tl t p v).log.length ≤ _; omega⟩
  · obtain ⟨h1, h2, ⟨l, hlg, hlb, hlo⟩, h4⟩ := reachL_ok O hu hl h (show p / 4 < 16 by omega)
    refine ⟨set_ok h1 (by
      rw [lnAt_get hlg]
      exact ⟨hlo.b, by show (l.ns.set _ _).length = 4; rw [List.length_set]; exact hlo.ns⟩), ?_⟩
    obtain ⟨c1, c2⟩ := passC_ok (tl := u.tl) (v := v) O h2 hp
    dsimp only
    split
    · exact ⟨h2, by omega⟩
    · exact ⟨c1, by omega⟩
theorem homeL_ok (O : OpsOk n g o) (hu : RuOk u) (hl : LsOk u ls) (h : TaOk n t) (hb : b < 16) {ns : List Int} (hn : ns.length = 4) :
    LsOk u (homeL o u ls t b ns).1 ∧ TaOk n (homeL o u ls t b ns).2 ∧ (homeL o u ls t b ns).2.log.length ≤ t.log.length + 2 * g + 2 := by
  unfold homeL
  split
  · split
    · obtain ⟨m1, m2, m3, m4⟩ := mkWay_ok O hu hl h
      refine ⟨app_ok m1 m3 ⟨hb, hn⟩, ?_⟩
      obtain ⟨c1, c2⟩ := passH_ok (tl := u.tl) O m2 hb hn
      dsimp only
      split
      · exact ⟨m2, by omega⟩
      · exact ⟨c1, by omega⟩
    · obtain ⟨c1, c2⟩ := passH_ok (tl := u.tl) O h hb hn
      exact ⟨hl, c1, by show (passH o u.tl t b ns).log.length ≤ _; omega⟩
  · rename_i i e
    have hi := fnd_lt e
    refine ⟨set_ok ⟨by rw [touch_len hi]; exact hl.len, fun l' hm => hl.ok l' (touch_mem hm)⟩ ⟨hb, hn⟩, ?_⟩
    obtain ⟨c1, c2⟩ := passH_ok (tl := u.tl) O h hb hn
    dsimp only
    split
    · exact ⟨h, by omega⟩
    · exact ⟨c1, by omega⟩
theorem yieldL_ok (O : OpsOk n g o) (hl : LsOk u ls) (h : TaOk n t) (hb : b < 16) {gone : Bool} :
    LsOk u (yieldL o u ls t b gone).1 ∧ TaOk n (yieldL o u ls t b gone).2 ∧ (yieldL o u ls t b gone).2.log.length ≤ t.log.length + g + 1 := by
  unfold yieldL
  split
  · exact ⟨hl, h, by show t.log.length ≤ _; omega⟩
  · rename_i i e
    obtain ⟨l, hlg, hlb, _⟩ := fnd_some e
    have hlo := hl.ok l (List.mem_of_getElem? hlg)
    obtain ⟨c1, c2⟩ := passH_ok (tl := u.tl) O h hb hlo.ns
    rw [lnAt_get hlg]
    refine ⟨?_, ?_⟩
    · dsimp only
      split
      · exact ⟨Nat.le_trans (List.length_eraseIdx_le ..) hl.len, fun l' hm => hl.ok l' (List.mem_of_mem_eraseIdx hm)⟩
      · exact set_ok hl ⟨hlo.b, hlo.ns⟩
    · dsimp only
      split
      · exact ⟨c1, c2⟩
      · exact ⟨h, by omega⟩
theorem settleL_ok (O : OpsOk n g o) : ∀ {ls : List Ln} {t : Ta}, (∀ l ∈ ls, LnOk l) → TaOk n t →
    (∀ l ∈ (settleL o u ls t).1, LnOk l) ∧ (settleL o u ls t).1.length = ls.length ∧ TaOk n (settleL o u ls t).2 ∧ (settleL o u ls t).2.log.length ≤ t.log.length + ls.length * (g + 1)
  | [], t, _, h => ⟨(fun _ hm => nomatch (show _ ∈ ([] : List Ln) from hm)), rfl, h, (by show t.log.length ≤ _; omega)⟩
  | l :: r, t, hl, h => by
    have hlo := hl l List.mem_cons_self
    obtain ⟨c1, c2⟩ := passH_ok (tl := u.tl) O h hlo.b hlo.ns
    have h1 : TaOk n (if l.d = true then passH o u.tl t l.b l.ns else t) ∧ (if l.d = true then passH o u.tl t l.b l.ns else t).log.length ≤ t.log.length + g + 1 := by
      split
      · exact ⟨c1, c2⟩
      · exact ⟨h, by omega⟩
    obtain ⟨i1, i2, i3, i4⟩ := settleL_ok O (ls := r) (fun l' hm => hl l' (List.mem_cons_of_mem _ hm)) h1.1
    refine ⟨fun l' hm => ?_, by show (settleL o u r _).1.length + 1 = _; rw [i2]; rfl, i3, ?_⟩
    · rcases List.mem_cons.mp hm with e | hm
      · rw [e]
        exact ⟨hlo.b, hlo.ns⟩
      · exact i1 l' hm
    · have e : (l :: r).length * (g + 1) = r.length * (g + 1) + (g + 1) := by rw [List.length_cons, Nat.succ_mul]
      rw [e]
      have h2 := h1.2
      show (settleL o u r _).2.log.length ≤ _
      omega
end
theorem setBlk_len {far : List Int} (h : far.length = 64) {b : Nat} (hb : b < 16) {ns : List Int} (hn : ns.length = 4) : (setBlk far b ns).length = 64 := by
  unfold setBlk
  simp only [List.length_append, List.length_take, List.length_drop]
  omega
theorem getBlk_len {far : List Int} (h : far.length = 64) {b : Nat} (hb : b < 16) : (getBlk far b).length = 4 := by
  unfold getBlk
  simp only [List.length_take, List.length_drop]
  omega
def gOf : Nat → Nat
  | 0 => 0
  | n + 1 => 3 * gOf n + 3
theorem cons_ok {n : Nat} {r : Rm} {t : Ta} (hr : RmOk r) (h : TaOk n t) : TaOk (n + 1) (Ta.cons r t) := ⟨by show t.rs.length + 1 = n + 1; rw [h.len], fun r' hm => by
  rcases List.mem_cons.mp hm with e | hm
  · rw [e]
    exact hr
  · exact h.rs r' hm, h.far⟩
theorem TaOk.uncons {n : Nat} {t : Ta} (h : TaOk (n + 1) t) : ∃ r rs, t.rs = r :: rs ∧ RmOk r ∧ TaOk n { t with rs := rs } := by
  have hl := h.len
  cases e : t.rs with
  | nil =>
    rw [e] at hl
    cases hl
  | cons r rs =>
    rw [e] at hl
    have hrs := h.rs
    rw [e] at hrs
    exact ⟨r, rs, rfl, hrs r List.mem_cons_self, ⟨by simpa using hl, fun r' hm => hrs r' (List.mem_cons_of_mem _ hm), h.far⟩⟩
theorem ops_ok : ∀ n, OpsOk n (gOf n) (ops n)
  | 0 => {
    hm := fun t b ns h hb hn => ⟨⟨h.len, h.rs, setBlk_len h.far hb hn⟩, Nat.le_refl _⟩
    br := fun t b h hb => ⟨getBlk_len h.far hb, h, Nat.le_refl _⟩
    ch := fun t p v h hp => ⟨⟨h.len, h.rs, by show (t.far.set p v).length = 64; rw [List.length_set]; exact h.far⟩, Nat.le_refl _⟩ }
  | n + 1 => {
    hm := fun t b ns h hb hn => by
      obtain ⟨r, rs, e, hr, ht⟩ := h.uncons
      obtain ⟨h1, h2, h3⟩ := homeL_ok (ops_ok n) hr.ru (hr.ls b) ht hb hn
      unfold ops
      dsimp only
      rw [e]
      exact ⟨cons_ok (put_ok hr h1) h2, Nat.le_trans h3 (by show t.log.length + 2 * gOf n + 2 ≤ t.log.length + (3 * gOf n + 3); omega)⟩
    br := fun t b h hb => by
      obtain ⟨r, rs, e, hr, ht⟩ := h.uncons
      obtain ⟨h0, h1, h2, h3⟩ := bringL_ok (ops_ok n) hr.ru (hr.ls b) ht hb
      unfold ops
      dsimp only
      rw [e]
      exact ⟨h0, cons_ok (put_ok hr h1) h2, Nat.le_trans h3 (by show t.log.length + 2 * gOf n + 2 ≤ t.log.length + (3 * gOf n + 3); omega)⟩
    ch := fun t p v h hp => by
      obtain ⟨r, rs, e, hr, ht⟩ := h.uncons
      obtain ⟨h1, h2, h3⟩ := changeL_ok (v := v) (ops_ok n) hr.ru (hr.ls (p / 4)) ht hp
      unfold ops
      dsimp only
      rw [e]
      exact ⟨cons_ok (put_ok hr h1) h2, Nat.le_trans h3 (by show t.log.length + 3 * gOf n + 3 ≤ t.log.length + (3 * gOf n + 3); omega)⟩ }
theorem gOf_le {n : Nat} (h : n ≤ 3) : gOf n ≤ 39 := by
  match n, h with
  | 0, _ => decide
  | 1, _ => decide
  | 2, _ => decide
  | 3, _ => decide
-- WwA
/-! ### words for the walk -/
section
variable {P : Program} {w : World} {K : PySem.W.Frag} {mg : Str → Option Value} {base : Heap}
end
abbrev cF (K : PySem.W.Frag) : Addr := He.ga K "Far"
abbrev cL (K : PySem.W.Frag) : Addr := He.ga K "Line"
abbrev cR (K : PySem.W.Frag) : Addr := He.ga K "Room"
abbrev cH (K : PySem.W.Frag) : Addr := He.ga K "Hall"
abbrev RepK (K : PySem.W.Frag) (di : Addr) := Rep (cF K) (cL K) (cR K) di
abbrev RmRepK (K : PySem.W.Frag) (di : Addr) := RmRep (cL K) (cR K) di
def SqO (o : HO) (xs : List V) : Prop := o = .lst xs ∨ o = .tup xs
theorem SqO.seq {K : PySem.W.Frag} {H : Hp} {a : Addr} {o : HO} {xs : List V} (s : SqO o xs) (h : H a = some o) : SqL K H a xs ∨ SqT K H a xs := by
  rcases s with e | e
  · rw [e] at h
    exact .inl (SqL.of h)
  · rw [e] at h
    exact .inr (SqT.of h)
/-- room in the log -/
def LB (n : Nat) (t : Ta) : Prop := n ≤ 3 ∧ t.log.length + 200 * (n + 1) ≤ 1000000
theorem size2 {n : Nat} (h : n ≤ 1000000) : n ≤ sizeLine := Nat.le_of_lt (size1 h)
theorem cutV_nat {xs : List V} {i j : Nat} (hij : i ≤ j) (hj : j ≤ xs.length) : cutV xs (some (i : Int)) (some (j : Int)) = (xs.drop i).take (j - i) := by
  unfold cutV
  rw [HT.sIx_nat, HT.sIx_nat, Nat.min_eq_left (Nat.le_trans hij hj), Nat.min_eq_left hj]
/-! ### promises: the far room, what stands behind -/
def spFarInit (K : PySem.W.Frag) : Sp := fun vs H Q _ => ∃ (x dx : Addr) (R : List Cell), vs = [.ref x] ∧ Own H ((x, .ins (cF K) dx []) :: R) ∧
  ∀ (fl : Addr) (H' : Hp), Own H' ((x, .ins (cF K) dx (fFar (.ref fl))) :: (fl, .lst ((List.replicate 64 (0 : Int)).map V.int)) :: R) → Q .non H'
def spBring (K : PySem.W.Frag) (n : Nat) : Sp := fun vs H Q _ => ∃ (be : Pa) (di : Addr) (b : Nat) (t : Ta) (C D R : List Cell), vs = [.ref be.ad, .int b] ∧ b < 16 ∧ TaOk n t ∧ LB n t ∧ RepK K di be t.rs t.far C ∧ DRep di t.log D ∧ Own H (C ++ (D ++ R)) ∧
  ∀ (p : Addr) (H' : Hp) (C' D' : List Cell), RepK K di be ((ops n).br t b).2.rs ((ops n).br t b).2.far C' → DRep di ((ops n).br t b).2.log D' → Own H' ((p, .tup (((ops n).br t b).1.map V.int)) :: (C' ++ (D' ++ R))) → Q (.ref p) H'
def spHome (K : PySem.W.Frag) (n : Nat) : Sp := fun vs H Q _ => ∃ (be : Pa) (di na : Addr) (no : HO) (b : Nat) (ns : List Int) (t : Ta) (C D R : List Cell), vs = [.ref be.ad, .int b, .ref na] ∧ b < 16 ∧ ns.length = 4 ∧ SqO no (ns.map V.int) ∧ TaOk n t ∧ LB n t ∧ RepK K di be t.rs t.far C ∧ DRep di t.log D ∧ Own H ((na, no) :: (C ++ (D ++ R))) ∧
  ∀ (H' : Hp) (C' D' : List Cell), RepK K di be ((ops n).hm t b ns).rs ((ops n).hm t b ns).far C' → DRep di ((ops n).hm t b ns).log D' → Own H' ((na, no) :: (C' ++ (D' ++ R))) → Q .non H'
def spChange (K : PySem.W.Frag) (n : Nat) : Sp := fun vs H Q _ => ∃ (be : Pa) (di : Addr) (p : Nat) (v : Int) (t : Ta) (C D R : List Cell), vs = [.ref be.ad, .int p, .int v] ∧ p < 64 ∧ TaOk n t ∧ LB n t ∧ RepK K di be t.rs t.far C ∧ DRep di t.log D ∧ Own H (C ++ (D ++ R)) ∧
  ∀ (H' : Hp) (C' D' : List Cell), RepK K di be ((ops n).ch t p v).rs ((ops n).ch t p v).far C' → DRep di ((ops n).ch t p v).log D' → Own H' (C' ++ (D' ++ R)) → Q .non H'
section
variable {P : Program} {w : World} {K : PySem.W.Frag} {mg : Str → Option Value} {base : Heap}
theorem mul4 {b : Nat} (h : b < 64) : CMul (b : Int) 4 := .inr ⟨by decide, by decide⟩
end
-- WwB
/-! ### cells of lines, sets, logs -/
theorem lns_mem {CL : Addr} : ∀ {ls : List LnA} {i : Nat} {l : LnA}, ls[i]? = some l → ∀ c ∈ lnC CL l, c ∈ lnsC CL ls
  | [], i, l, h, c, hc => by simp at h
  | a :: r, 0, l, h, c, hc => by
    have e : a = l := by simpa using h
    rw [e]
    exact List.mem_append_left _ hc
  | a :: r, i + 1, l, h, c, hc => List.mem_append_right _ (lns_mem (by simpa using h) c hc)
theorem lns_app (CL : Addr) : ∀ (ls r : List LnA), lnsC CL (ls ++ r) = lnsC CL ls ++ lnsC CL r
  | [], r => rfl
  | a :: ls, r => by
    show lnC CL a ++ lnsC CL (ls ++ r) = (lnC CL a ++ lnsC CL ls) ++ lnsC CL r
    rw [lns_app CL ls r, List.append_assoc]
theorem lns_focus {CL : Addr} : ∀ {ls : List LnA} {i : Nat} {l : LnA}, ls[i]? = some l → (lnsC CL ls).Perm (lnC CL l ++ lnsC CL (ls.eraseIdx i))
  | [], i, l, h => by simp at h
  | a :: r, 0, l, h => by
    have e : a = l := by simpa using h
    rw [e]
    exact List.Perm.refl _
  | a :: r, i + 1, l, h => by
    have ih := lns_focus (CL := CL) (ls := r) (i := i) (l := l) (by simpa using h)
    show (lnC CL a ++ lnsC CL r).Perm (lnC CL l ++ (lnC CL a ++ lnsC CL (r.eraseIdx i)))
    refine (List.Perm.append_left _ ih).trans ?_
    walk_at "perm"
theorem lns_set {CL : Addr} : ∀ {ls : List LnA} {i : Nat} {l : LnA}, i < ls.length → (lnsC CL (ls.set i l)).Perm (lnC CL l ++ lnsC CL (ls.eraseIdx i))
  | [], i, l, h => by simp at h
  | a :: r, 0, l, h => List.Perm.refl _
  | a :: r, i + 1, l, h => by
    have ih := lns_set (CL := CL) (ls := r) (i := i) (l := l) (by simpa using h)
    show (lnC CL a ++ lnsC CL (r.set i l)).Perm (lnC CL l ++ (lnC CL a ++ lnsC CL (r.eraseIdx i)))
    refine (List.Perm.append_left _ ih).trans ?_
    walk_at "perm"
theorem lns_touch {CL : Addr} {lt : Bool} {ls : List LnA} {i : Nat} (h : i < ls.length) : (lnsC CL (touchL lt ls i)).Perm (lnsC CL ls) := by
  unfold touchL
  split
  · rw [lns_app, List.getElem?_eq_getElem h]
    refine List.Perm.trans ?_ (lns_focus (List.getElem?_eq_getElem h)).symm
    show (lnsC CL (ls.eraseIdx i) ++ (lnC CL ls[i] ++ [])).Perm _
    walk_at "perm"
  · exact List.Perm.refl _
theorem sts_focus {CL : Addr} : ∀ {ss : List (Addr × List LnA)} {i : Nat} {s : Addr × List LnA}, ss[i]? = some s → (stsC CL ss).Perm (stC CL s ++ stsC CL (ss.eraseIdx i))
  | [], i, s, h => by simp at h
  | a :: r, 0, s, h => by
    have e : a = s := by simpa using h
    rw [e]
    exact List.Perm.refl _
  | a :: r, i + 1, s, h => by
    have ih := sts_focus (CL := CL) (ss := r) (i := i) (s := s) (by simpa using h)
    show (stC CL a ++ stsC CL r).Perm (stC CL s ++ (stC CL a ++ stsC CL (r.eraseIdx i)))
    refine (List.Perm.append_left _ ih).trans ?_
    walk_at "perm"
theorem sts_set {CL : Addr} : ∀ {ss : List (Addr × List LnA)} {i : Nat} {s : Addr × List LnA}, i < ss.length → (stsC CL (ss.set i s)).Perm (stC CL s ++ stsC CL (ss.eraseIdx i))
  | [], i, s, h => by simp at h
  | a :: r, 0, s, h => List.Perm.refl _
  | a :: r, i + 1, s, h => by
    have ih := sts_set (CL := CL) (ss := r) (i := i) (s := s) (by simpa using h)
    show (stC CL a ++ stsC CL (r.set i s)).Perm (stC CL s ++ (stC CL a ++ stsC CL (r.eraseIdx i)))
    refine (List.Perm.append_left _ ih).trans ?_
    walk_at "perm"
theorem log_app : ∀ {as : List Addr} {log : List Ent} (p : Addr) (e : Ent), as.length = log.length → logC (as ++ [p]) (log ++ [e]) = logC as log ++ [(p, .tup e.vs)]
  | [], [], p, e, _ => rfl
  | [], _ :: _, p, e, h => by simp at h
  | _ :: _, [], p, e, h => by simp at h
  | a :: as, x :: log, p, e, h => by
    show (a, HO.tup x.vs) :: logC (as ++ [p]) (log ++ [e]) = (a, HO.tup x.vs) :: (logC as log ++ [(p, .tup e.vs)])
    rw [log_app p e (by simpa using h)]
/-- a room seen at one block's set -/
theorem RmRep.at {CL CR di a : Addr} {be : Pa} {r : Rm} {C : List Cell} (h : RmRep CL CR di a be r C) (h0 : 0 < r.ss.length) (b : Nat) :
    ∃ (hd : Hd) (sa : Addr) (ls : List LnA) (Z : List Cell), hd.a = a ∧ hd.be = be ∧ hd.di = di ∧ hd.u = r.ru ∧ hd.sas.length = r.ss.length ∧ hd.sas[b % hd.sas.length]? = some sa ∧ ls.map (·.l) = r.ls b ∧ C.Perm (hdC CR hd ++ (stC CL (sa, ls) ++ Z)) ∧
      ∀ ls' : List LnA, ∃ C', RmRep CL CR di a be (r.put b (ls'.map (·.l))) C' ∧ C'.Perm (hdC CR hd ++ (stC CL (sa, ls') ++ Z)) := by
  obtain ⟨hd, ss, h1, h2, h3, h4, h5, h6, rfl⟩ := h
  have hlen : ss.length = r.ss.length := by rw [h6, List.length_map]
  have hk : b % ss.length < ss.length := Nat.mod_lt _ (by omega)
  have hg := List.getElem?_eq_getElem hk
  have ix : r.ix b = b % ss.length := by unfold Rm.ix; rw [hlen]
  refine ⟨hd, ss[b % ss.length].1, ss[b % ss.length].2, stsC CL (ss.eraseIdx (b % ss.length)), h1, h2, h3, h4, by rw [h5, List.length_map]; exact hlen, ?_, ?_, ?_, fun ls' => ⟨hdC CR hd ++ stsC CL (ss.set (b % ss.length) (ss[b % ss.length].1, ls')), ⟨hd, _, h1, h2, h3, h4, ?_, ?_, rfl⟩, List.Perm.append_left _ (sts_set hk)⟩⟩
  · rw [h5, List.length_map, List.getElem?_map, hg]
    rfl
  · unfold Rm.ls
    rw [ix, h6, List.getD_eq_getElem?_getD, List.getElem?_map, hg]
    rfl
  · exact List.Perm.append_left _ (sts_focus hg)
  · rw [List.map_set, h5]
    apply List.ext_getElem?
    intro i
    by_cases e : b % ss.length = i
    · rw [← e, List.getElem?_set_self (by rw [List.length_map]; exact hk), List.getElem?_map, hg]
      rfl
    · rw [List.getElem?_set_ne e]
  · unfold Rm.put
    dsimp only
    rw [ix, h6, List.map_set]
def LBk (n k : Nat) (t : Ta) : Prop := n ≤ 3 ∧ t.log.length + 200 * (n + 1) + k ≤ 1000000
theorem LBk.lb {n k : Nat} {t : Ta} (h : LBk n k t) : LB n t := ⟨h.1, by have := h.2; omega⟩
theorem LBk.le {n k j : Nat} {t t' : Ta} (h : LBk n k t) (hl : t'.log.length + j ≤ t.log.length + k) : LBk n j t' := ⟨h.1, by have := h.2; omega⟩
/-! ### promises of a room's own steps -/
def spLineInit (K : PySem.W.Frag) : Sp := fun vs H Q _ => ∃ (x dx na : Addr) (no : HO) (b : Nat) (ns : List Int) (R : List Cell), vs = [.ref x, .int b, .ref na] ∧ SqO no (ns.map V.int) ∧ Own H ((x, .ins (cL K) dx []) :: (na, no) :: R) ∧
  ∀ (q : Addr) (H' : Hp), Own H' (lnC (cL K) ⟨x, dx, q, ⟨b, ns, false⟩⟩ ++ ((na, no) :: R)) → Q .non H'
def spLinesOf (K : PySem.W.Frag) : Sp := fun vs H Q _ => ∃ (h : Hd) (b : Nat) (sa : Addr) (R : List Cell), vs = [.ref h.a, .int b] ∧ h.sas[b % h.sas.length]? = some sa ∧ Own H (hdC (cR K) h ++ R) ∧ Q (.ref sa) H
def spLineOf (K : PySem.W.Frag) : Sp := fun vs H Q _ => ∃ (h : Hd) (b : Nat) (sa : Addr) (ls : List LnA) (R : List Cell), vs = [.ref h.a, .int b] ∧ h.sas[b % h.sas.length]? = some sa ∧ Own H (hdC (cR K) h ++ (stC (cL K) (sa, ls) ++ R)) ∧
  (∀ (i : Nat) (l : LnA), fnd b (ls.map (·.l)) = some i → ls[i]? = some l → Q (.ref l.a) H) ∧ (fnd b (ls.map (·.l)) = none → Q .non H)
def spNote (K : PySem.W.Frag) : Sp := fun vs H Q _ => ∃ (h : Hd) (w : Str) (n : Nat) (log : List Ent) (D R : List Cell), vs = [.ref h.a, .str w, .int n] ∧ log.length < 1000000 ∧ h.u.tl.length ≤ 4 ∧ DRep h.di log D ∧ Own H (hdC (cR K) h ++ (D ++ R)) ∧
  ∀ (H' : Hp) (D' : List Cell), DRep h.di (log ++ [⟨h.u.tl, w, n⟩]) D' → Own H' (hdC (cR K) h ++ (D' ++ R)) → Q .non H'
def spPassHome (K : PySem.W.Frag) (n : Nat) : Sp := fun vs H Q _ => ∃ (h : Hd) (l : LnA) (t : Ta) (C D R : List Cell), vs = [.ref h.a, .ref l.a] ∧ LnOk l.l ∧ RuOk h.u ∧ TaOk n t ∧ LBk n 1 t ∧ RepK K h.di h.be t.rs t.far C ∧ DRep h.di t.log D ∧ Own H (hdC (cR K) h ++ (lnC (cL K) l ++ (C ++ (D ++ R)))) ∧
  ∀ (H' : Hp) (C' D' : List Cell), RepK K h.di h.be (passH (ops n) h.u.tl t l.l.b l.l.ns).rs (passH (ops n) h.u.tl t l.l.b l.l.ns).far C' → DRep h.di (passH (ops n) h.u.tl t l.l.b l.l.ns).log D' →
    Own H' (hdC (cR K) h ++ (lnC (cL K) { l with l := { l.l with d := false } } ++ (C' ++ (D' ++ R)))) → Q .non H'
def spPassCell (K : PySem.W.Frag) (n : Nat) : Sp := fun vs H Q _ => ∃ (h : Hd) (p : Nat) (v : Int) (t : Ta) (C D R : List Cell), vs = [.ref h.a, .int p, .int v] ∧ p < 64 ∧ RuOk h.u ∧ TaOk n t ∧ LBk n 1 t ∧ RepK K h.di h.be t.rs t.far C ∧ DRep h.di t.log D ∧ Own H (hdC (cR K) h ++ (C ++ (D ++ R))) ∧
  ∀ (H' : Hp) (C' D' : List Cell), RepK K h.di h.be (passC (ops n) h.u.tl t p v).rs (passC (ops n) h.u.tl t p v).far C' → DRep h.di (passC (ops n) h.u.tl t p v).log D' → Own H' (hdC (cR K) h ++ (C' ++ (D' ++ R))) → Q .non H'
def spMakeWay (K : PySem.W.Frag) (n : Nat) : Sp := fun vs H Q _ => ∃ (h : Hd) (b : Nat) (sa : Addr) (ls : List LnA) (t : Ta) (C D R : List Cell), vs = [.ref h.a, .int b] ∧ h.sas[b % h.sas.length]? = some sa ∧ RuOk h.u ∧ LsOk h.u (ls.map (·.l)) ∧ TaOk n t ∧ LBk n 1 t ∧ RepK K h.di h.be t.rs t.far C ∧ DRep h.di t.log D ∧ Own H (hdC (cR K) h ++ (stC (cL K) (sa, ls) ++ (C ++ (D ++ R)))) ∧
  ∀ (H' : Hp) (ls' : List LnA) (C' D' : List Cell), ls'.map (·.l) = (mkWay (ops n) h.u (ls.map (·.l)) t).1 → RepK K h.di h.be (mkWay (ops n) h.u (ls.map (·.l)) t).2.rs (mkWay (ops n) h.u (ls.map (·.l)) t).2.far C' → DRep h.di (mkWay (ops n) h.u (ls.map (·.l)) t).2.log D' →
    Own H' (hdC (cR K) h ++ (stC (cL K) (sa, ls') ++ (C' ++ (D' ++ R)))) → Q .non H'
def spTouch (K : PySem.W.Frag) : Sp := fun vs H Q _ => ∃ (h : Hd) (sa : Addr) (ls : List LnA) (i : Nat) (l : LnA) (R : List Cell), vs = [.ref h.a, .ref l.a] ∧ ls[i]? = some l ∧ h.sas[l.l.b % h.sas.length]? = some sa ∧ ls.length ≤ 4 ∧ Own H (hdC (cR K) h ++ (stC (cL K) (sa, ls) ++ R)) ∧
  ∀ H' : Hp, Own H' (hdC (cR K) h ++ (stC (cL K) (sa, touchL h.u.lt ls i) ++ R)) → Q .non H'
def spReach (K : PySem.W.Frag) (n : Nat) : Sp := fun vs H Q _ => ∃ (h : Hd) (b : Nat) (sa : Addr) (ls : List LnA) (t : Ta) (C D R : List Cell), vs = [.ref h.a, .int b] ∧ b < 16 ∧ h.sas[b % h.sas.length]? = some sa ∧ RuOk h.u ∧ LsOk h.u (ls.map (·.l)) ∧ TaOk n t ∧ LBk n 60 t ∧ RepK K h.di h.be t.rs t.far C ∧ DRep h.di t.log D ∧ Own H (hdC (cR K) h ++ (stC (cL K) (sa, ls) ++ (C ++ (D ++ R)))) ∧
  ∀ (H' : Hp) (ls' : List LnA) (l : LnA) (C' D' : List Cell), ls'.map (·.l) = (reachL (ops n) h.u (ls.map (·.l)) t b).1 → ls'[(reachL (ops n) h.u (ls.map (·.l)) t b).2.2]? = some l → RepK K h.di h.be (reachL (ops n) h.u (ls.map (·.l)) t b).2.1.rs (reachL (ops n) h.u (ls.map (·.l)) t b).2.1.far C' → DRep h.di (reachL (ops n) h.u (ls.map (·.l)) t b).2.1.log D' →
    Own H' (hdC (cR K) h ++ (stC (cL K) (sa, ls') ++ (C' ++ (D' ++ R)))) → Q (.ref l.a) H'
/-- what stands behind at depth n: its class and its three steps -/
structure Beh (P : Program) (w : World) (K : PySem.W.Frag) (mg : Str → Option Value) (base : Heap) (n lv : Nat) where
  C : Addr
  cl : Cls K C
  fh : Addr
  fb : Addr
  fc : Addr
  fdh : FuncData
  fdb : FuncData
  fdc : FuncData
  m_home : Meth K C "home" fh
  m_bring : Meth K C "bring" fb
  m_change : Meth K C "change" fc
  b_home : Binds K fdh ["self", "block", "numbers"] []
  b_bring : Binds K fdb ["self", "block"] []
  b_change : Binds K fdc ["self", "place", "number"] []
  G_home : FnOk P w K mg base CX0 lv fh fdh ["self", "block", "numbers"] (spHome K n)
  G_bring : FnOk P w K mg base CX0 lv fb fdb ["self", "block"] (spBring K n)
  G_change : FnOk P w K mg base CX0 lv fc fdc ["self", "place", "number"] (spChange K n)
  at_ : ∀ (di : Addr) (be : Pa) (t : Ta) (Z : List Cell), TaOk n t → RepK K di be t.rs t.far Z → ∃ dx fs, (be.ad, HO.ins C dx fs) ∈ Z ∧ fs.lookup ("home" : Str) = none ∧ fs.lookup ("bring" : Str) = none ∧ fs.lookup ("change" : Str) = none
section
variable {P : Program} {w : World} {K : PySem.W.Frag} {mg : Str → Option Value} {base : Heap} {n lv : Nat}
end
-- WwC
theorem mkWay_full {o : Ops} {u : Ru} {l : Ln} {rest : List Ln} {t : Ta} (h : (l :: rest).length = u.ways) : mkWay o u (l :: rest) t = (rest, if l.d = true then passH o u.tl t l.b l.ns else t) := by
  unfold mkWay
  rw [if_pos h]
theorem mkWay_no {o : Ops} {u : Ru} {ls : List Ln} {t : Ta} (h : ¬ ls.length = u.ways) : mkWay o u ls t = (ls, t) := by
  unfold mkWay
  rw [if_neg h]
theorem lns_keys {CL : Addr} : ∀ ls : List LnA, (ls.map (·.a)).Sublist ((lnsC CL ls).map (·.1))
  | [] => List.Sublist.refl _
  | l :: r => by
    show (l.a :: r.map (·.a)).Sublist (l.a :: l.na :: (lnsC CL r).map (·.1))
    exact List.Sublist.cons_cons _ (List.Sublist.cons _ (lns_keys r))
theorem Own.lnsNd {H : Hp} {CL : Addr} {ls : List LnA} {L : List Cell} (h : Own H (lnsC CL ls ++ L)) : (ls.map (·.a)).Nodup := List.Nodup.sublist (lns_keys ls) h.left.1
theorem isN_ref (a : Addr) : decide (V.ref a = V.non) = false := decide_eq_false (by intro z; cases z)
theorem ite_notN {a : Addr} {A B : Prop} (h : A) : if (!decide (V.ref a = V.non)) = true then A else B := by
  rw [isN_ref]
  exact h
theorem ite_notN0 {A B : Prop} (h : B) : if (!decide (V.non = V.non)) = true then A else B := by
  rw [decide_eq_true rfl]
  exact h
theorem seqIx0 {n : Nat} (h : 0 < n) : seqIndex? 0 n = some 0 := (ixN_seq (by
  unfold ixN
  rw [if_pos (by decide), if_pos (by omega)]
  rfl)).1
section
variable {P : Program} {w : World} {K : PySem.W.Frag} {mg : Str → Option Value} {base : Heap} {n lv : Nat}
theorem reachL_hit {o : Ops} {u : Ru} {ls : List Ln} {t : Ta} {b i : Nat} (e : fnd b ls = some i) : reachL o u ls t b = (touchL u.lt ls i, t, touchI u.lt ls i) := by
  unfold reachL
  rw [e]
theorem reachL_miss {o : Ops} {u : Ru} {ls : List Ln} {t : Ta} {b : Nat} (e : fnd b ls = none) : reachL o u ls t b = ((mkWay o u ls t).1 ++ [⟨b, (o.br ((mkWay o u ls t).2.note u.tl "bring" b) b).1, false⟩], (o.br ((mkWay o u ls t).2.note u.tl "bring" b) b).2, (mkWay o u ls t).1.length) := by
  unfold reachL
  rw [e]
end
-- WwD
/-! ### promises of a room as a whole: C1 the room's cells, C those behind, D the diary's -/
def spBlockOf : Sp := fun vs H Q _ => ∃ p : Nat, vs = [.int p] ∧ Q (.int ((p / 4 : Nat) : Int)) H
def RPre (K : PySem.W.Frag) (n : Nat) (H : Hp) (di a : Addr) (be : Pa) (r : Rm) (t : Ta) (C1 C D R : List Cell) : Prop :=
  RmOk r ∧ TaOk n t ∧ LBk n 200 t ∧ RmRepK K di a be r C1 ∧ RepK K di be t.rs t.far C ∧ DRep di t.log D ∧ Own H (C1 ++ (C ++ (D ++ R)))
def RPost (K : PySem.W.Frag) (di a : Addr) (be : Pa) (R : List Cell) (r : Rm) (t : Ta) (H' : Hp) : Prop :=
  ∃ C1 C D : List Cell, RmRepK K di a be r C1 ∧ RepK K di be t.rs t.far C ∧ DRep di t.log D ∧ Own H' (C1 ++ (C ++ (D ++ R)))
def spRBring (K : PySem.W.Frag) (n : Nat) : Sp := fun vs H Q _ => ∃ (a : Addr) (be : Pa) (di : Addr) (b : Nat) (r : Rm) (t : Ta) (C1 C D R : List Cell), vs = [.ref a, .int b] ∧ b < 16 ∧ RPre K n H di a be r t C1 C D R ∧
  ∀ (p : Addr) (H' : Hp), RPost K di a be ((p, .tup ((bringL (ops n) r.ru (r.ls b) t b).1.map V.int)) :: R) (r.put b (bringL (ops n) r.ru (r.ls b) t b).2.1) (bringL (ops n) r.ru (r.ls b) t b).2.2 H' → Q (.ref p) H'
def spRLook (K : PySem.W.Frag) (n : Nat) : Sp := fun vs H Q _ => ∃ (a : Addr) (be : Pa) (di : Addr) (p : Nat) (r : Rm) (t : Ta) (C1 C D R : List Cell), vs = [.ref a, .int p] ∧ p < 64 ∧ RPre K n H di a be r t C1 C D R ∧
  ∀ H' : Hp, RPost K di a be R (r.put (p / 4) (lookL (ops n) r.ru (r.ls (p / 4)) t p).2.1) (lookL (ops n) r.ru (r.ls (p / 4)) t p).2.2 H' → Q (.int (lookL (ops n) r.ru (r.ls (p / 4)) t p).1) H'
def spRChange (K : PySem.W.Frag) (n : Nat) : Sp := fun vs H Q _ => ∃ (a : Addr) (be : Pa) (di : Addr) (p : Nat) (v : Int) (r : Rm) (t : Ta) (C1 C D R : List Cell), vs = [.ref a, .int p, .int v] ∧ p < 64 ∧ RPre K n H di a be r t C1 C D R ∧
  ∀ H' : Hp, RPost K di a be R (r.put (p / 4) (changeL (ops n) r.ru (r.ls (p / 4)) t p v).1) (changeL (ops n) r.ru (r.ls (p / 4)) t p v).2 H' → Q .non H'
def spRHome (K : PySem.W.Frag) (n : Nat) : Sp := fun vs H Q _ => ∃ (a : Addr) (be : Pa) (di na : Addr) (no : HO) (b : Nat) (ns : List Int) (r : Rm) (t : Ta) (C1 C D R : List Cell), vs = [.ref a, .int b, .ref na] ∧ b < 16 ∧ ns.length = 4 ∧ SqO no (ns.map V.int) ∧ RPre K n H di a be r t C1 C D ((na, no) :: R) ∧
  ∀ H' : Hp, RPost K di a be ((na, no) :: R) (r.put b (homeL (ops n) r.ru (r.ls b) t b ns).1) (homeL (ops n) r.ru (r.ls b) t b ns).2 H' → Q .non H'
def spRYield (K : PySem.W.Frag) (n : Nat) : Sp := fun vs H Q _ => ∃ (a : Addr) (be : Pa) (di : Addr) (b : Nat) (g : Bool) (r : Rm) (t : Ta) (C1 C D R : List Cell), vs = [.ref a, .int b, .bl g] ∧ b < 16 ∧ RPre K n H di a be r t C1 C D R ∧
  ∀ H' : Hp, RPost K di a be R (r.put b (yieldL (ops n) r.ru (r.ls b) t b g).1) (yieldL (ops n) r.ru (r.ls b) t b g).2 H' → Q .non H'
section
variable {P : Program} {w : World} {K : PySem.W.Frag} {mg : Str → Option Value} {base : Heap} {n lv : Nat}
/-- a room opened at a block's set -/
theorem RPre.open {H : Hp} {di a : Addr} {be : Pa} {r : Rm} {t : Ta} {C1 C D R : List Cell} (h : RPre K n H di a be r t C1 C D R) (b : Nat) :
    ∃ (hd : Hd) (sa : Addr) (ls : List LnA) (Z : List Cell), hd.a = a ∧ hd.be = be ∧ hd.di = di ∧ hd.u = r.ru ∧ hd.sas[b % hd.sas.length]? = some sa ∧ ls.map (·.l) = r.ls b ∧ RuOk hd.u ∧ LsOk hd.u (ls.map (·.l)) ∧ TaOk n t ∧ LBk n 200 t ∧ RepK K di be t.rs t.far C ∧ DRep di t.log D ∧
      Own H (hdC (cR K) hd ++ (stC (cL K) (sa, ls) ++ (C ++ (D ++ (Z ++ R))))) ∧
      ∀ (ls' : List LnA) (t' : Ta) (C' D' R' : List Cell) (H' : Hp), RepK K di be t'.rs t'.far C' → DRep di t'.log D' → Own H' (hdC (cR K) hd ++ (stC (cL K) (sa, ls') ++ (C' ++ (D' ++ (Z ++ R'))))) → RPost K di a be R' (r.put b (ls'.map (·.l))) t' H' := by
  obtain ⟨hr, ht, hlb, h1, hC, hD, O⟩ := h
  obtain ⟨hd, sa, ls, Z, e1, e2, e3, e4, e5, hix, els, hp, hback⟩ := h1.at hr.s0 b
  refine ⟨hd, sa, ls, Z, e1, e2, e3, e4, hix, els, by rw [e4]; exact hr.ru, by rw [e4, els]; exact hr.ls b, ht, hlb, hC, hD, O.perm ?_, fun ls' t' C' D' R' H' hC' hD' O' => ?_⟩
  · refine (List.Perm.append_right _ hp).trans ?_
    walk_at "perm"
  · obtain ⟨C1', h1', hp'⟩ := hback ls'
    refine ⟨C1', C', D', h1', hC', hD', O'.perm ?_⟩
    refine List.Perm.trans ?_ (List.Perm.append_right _ hp').symm
    walk_at "perm"
theorem isN_ite {a : Addr} {A B : Prop} (h : B) : if (decide (V.ref a = V.non)) = true then A else B := by
  rw [isN_ref]
  exact h
theorem isN_ite0 {A B : Prop} (h : A) : if (decide (V.non = V.non)) = true then A else B := by
  rw [decide_eq_true rfl]
  exact h
theorem changeL_by {o : Ops} {u : Ru} {ls : List Ln} {t : Ta} {p : Nat} {v : Int} (h1 : u.inn = false) (h2 : fnd (p / 4) ls = none) : changeL o u ls t p v = (ls, passC o u.tl t p v) := by
  unfold changeL
  rw [if_pos ⟨h1, h2⟩]
theorem changeL_in {o : Ops} {u : Ru} {ls : List Ln} {t : Ta} {p : Nat} {v : Int} (h : ¬ (u.inn = false ∧ fnd (p / 4) ls = none)) : changeL o u ls t p v =
    ((reachL o u ls t (p / 4)).1.set (reachL o u ls t (p / 4)).2.2 (setCell u.bk (lnAt (reachL o u ls t (p / 4)).1 (reachL o u ls t (p / 4)).2.2) p v),
      if u.bk = true then (reachL o u ls t (p / 4)).2.1 else passC o u.tl (reachL o u ls t (p / 4)).2.1 p v) := by
  unfold changeL
  rw [if_neg h]
end
-- WwE
theorem homeL_by {o : Ops} {u : Ru} {ls : List Ln} {t : Ta} {b : Nat} {ns : List Int} (h1 : fnd b ls = none) (h2 : u.inn = false) : homeL o u ls t b ns = (ls, passH o u.tl t b ns) := by
  unfold homeL
  rw [h1]
  dsimp only
  rw [h2, if_neg Bool.false_ne_true]
theorem homeL_new {o : Ops} {u : Ru} {ls : List Ln} {t : Ta} {b : Nat} {ns : List Int} (h1 : fnd b ls = none) (h2 : u.inn = true) : homeL o u ls t b ns = ((mkWay o u ls t).1 ++ [⟨b, ns, u.bk⟩], if u.bk = true then (mkWay o u ls t).2 else passH o u.tl (mkWay o u ls t).2 b ns) := by
  unfold homeL
  rw [h1]
  dsimp only
  rw [h2, if_pos rfl]
theorem homeL_hit {o : Ops} {u : Ru} {ls : List Ln} {t : Ta} {b i : Nat} {ns : List Int} (h1 : fnd b ls = some i) : homeL o u ls t b ns = ((touchL u.lt ls i).set (touchI u.lt ls i) ⟨b, ns, u.bk⟩, if u.bk = true then t else passH o u.tl t b ns) := by
  unfold homeL
  rw [h1]
theorem refs_set {ls : List LnA} {i : Nat} {l l' : LnA} (h : ls[i]? = some l) (e : l'.a = l.a) : (ls.set i l').map (fun l => V.ref l.a) = ls.map fun l => V.ref l.a := by
  have hi : i < ls.length := (List.getElem?_eq_some_iff.mp h).1
  rw [List.map_set]
  apply List.ext_getElem?
  intro j
  by_cases ej : i = j
  · subst ej
    rw [List.getElem?_set_self (by rw [List.length_map]; exact hi), List.getElem?_map, h, e]
    rfl
  · rw [List.getElem?_set_ne ej]
/-- a set's cells with one line in front -/
theorem st_focus {CL sa : Addr} {ls : List LnA} {i : Nat} {l : LnA} (h : ls[i]? = some l) : (stC CL (sa, ls)).Perm (lnC CL l ++ ((sa, .lst (ls.map fun l => V.ref l.a)) :: lnsC CL (ls.eraseIdx i))) := by
  unfold stC
  refine (List.Perm.cons _ (lns_focus h)).trans ?_
  walk_at "perm"
theorem st_back {CL sa : Addr} {ls : List LnA} {i : Nat} {l l' : LnA} (h : ls[i]? = some l) (e : l'.a = l.a) : (lnC CL l' ++ ((sa, .lst (ls.map fun l => V.ref l.a)) :: lnsC CL (ls.eraseIdx i))).Perm (stC CL (sa, ls.set i l')) := by
  have hi : i < ls.length := (List.getElem?_eq_some_iff.mp h).1
  unfold stC
  dsimp only
  rw [refs_set h e]
  refine List.Perm.trans ?_ (List.Perm.cons _ (lns_set hi)).symm
  walk_at "perm"
section
variable {P : Program} {w : World} {K : PySem.W.Frag} {mg : Str → Option Value} {base : Heap} {n lv : Nat}
theorem yieldL_no {o : Ops} {u : Ru} {ls : List Ln} {t : Ta} {b : Nat} {g : Bool} (h1 : fnd b ls = none) : yieldL o u ls t b g = (ls, t) := by
  unfold yieldL
  rw [h1]
theorem yieldL_hit {o : Ops} {u : Ru} {ls : List Ln} {t : Ta} {b i : Nat} {g : Bool} {l : Ln} (h1 : fnd b ls = some i) (h2 : ls[i]? = some l) : yieldL o u ls t b g = (if g = true then ls.eraseIdx i else ls.set i { l with d := false }, if l.d = true then passH o u.tl t b l.ns else t) := by
  unfold yieldL
  rw [h1]
  dsimp only
  rw [lnAt_get h2]
end
-- WwF
/-! ### what stands behind, by depth -/
def lvOf (n : Nat) : Nat := 4 * n + 1
section
variable {P : Program} {w : World} {K : PySem.W.Frag} {mg : Str → Option Value} {base : Heap} {n lv : Nat}
theorem pre_of {H : Hp} {di : Addr} {be : Pa} {t : Ta} {C D R : List Cell} (ht : TaOk (n + 1) t) (hlb : LB (n + 1) t) (hC : RepK K di be t.rs t.far C) (hD : DRep di t.log D) (O : Own H (C ++ (D ++ R))) :
    ∃ (r : Rm) (rs : List Rm) (a : Addr) (be' : Pa) (C1 C2 : List Cell), t.rs = r :: rs ∧ be = .room a be' ∧ RPre K n H di a be' r { t with rs := rs } C1 C2 D R := by
  obtain ⟨r, rs, e, hr, ht2⟩ := ht.uncons
  rw [e] at hC
  obtain ⟨a, be', rfl⟩ : ∃ a be', be = .room a be' := by
    cases be with
    | far la => exact hC.elim
    | room a be' => exact ⟨a, be', rfl⟩
  obtain ⟨C1, C2, h1, h2, rfl⟩ := hC
  refine ⟨r, rs, a, be', C1, C2, e, rfl, hr, ht2, ⟨by have := hlb.1; omega, by have := hlb.2; show t.log.length + _ + _ ≤ _; omega⟩, h1, h2, hD, O.perm (by walk_at "perm")⟩
end
def lnD (l : Ln) : PyData := .tuple [.int l.b, .tuple (l.ns.map .int), .bool l.d]
def lsD (ls : List Ln) : PyData := .list (ls.map lnD)
def ssD (ss : List (List Ln)) : PyData := .list (ss.map lsD)
theorem sts_mem {CL : Addr} : ∀ {ss : List (Addr × List LnA)} {i : Nat} {s : Addr × List LnA}, ss[i]? = some s → ∀ c ∈ stC CL s, c ∈ stsC CL ss
  | [], i, s, h, c, hc => by simp at h
  | a :: r, 0, s, h, c, hc => by
    have e : a = s := by simpa using h
    rw [e]
    exact List.mem_append_left _ hc
  | a :: r, i + 1, s, h, c, hc => List.mem_append_right _ (sts_mem (by simpa using h) c hc)
def spHolds (K : PySem.W.Frag) : Sp := fun vs H Q _ => ∃ (a : Addr) (be : Pa) (di : Addr) (r : Rm) (C1 R : List Cell), vs = [.ref a] ∧ RmOk r ∧ RmRepK K di a be r C1 ∧ Own H (C1 ++ R) ∧
  ∀ (p : Addr) (N : List Cell) (H' : Hp), DpL N (.ref p) (ssD r.ss) → Own H' (N ++ (C1 ++ R)) → Q (.ref p) H'
section
variable {P : Program} {w : World} {K : PySem.W.Frag} {mg : Str → Option Value} {base : Heap} {n lv : Nat}
end
-- WwG
/-! ### rules -/
structure Rul where
  s : Nat
  w : Nat
  bk : Bool
  inn : Bool
  lt : Bool
def sBk (b : Bool) : Str := if b = true then "back" else "through"
def sIn (b : Bool) : Str := if b = true then "in" else "by"
def sLt (b : Bool) : Str := if b = true then "late" else "first"
def Rul.vs (u : Rul) : List V := [.int u.s, .int u.w, .str (sBk u.bk), .str (sIn u.inn), .str (sLt u.lt)]
structure RulOk (u : Rul) : Prop where
  s : u.s = 1 ∨ u.s = 2 ∨ u.s = 4
  w0 : 1 ≤ u.w
  w4 : u.w ≤ 4
def mkRm (u : Rul) (tl : List V) : Rm := ⟨⟨u.w, u.bk, u.inn, u.lt, tl⟩, List.replicate u.s []⟩
theorem mkRm_ok {u : Rul} (h : RulOk u) {tl : List V} (ht : tl.length ≤ 4) : RmOk (mkRm u tl) := by
  refine ⟨?_, ?_, ⟨h.w0, h.w4, ht⟩, fun ls hm => ?_⟩
  · show 0 < (List.replicate u.s []).length
    rw [List.length_replicate]
    rcases h.s with e | e | e <;> omega
  · show (List.replicate u.s []).length ≤ 4
    rw [List.length_replicate]
    rcases h.s with e | e | e <;> omega
  · rw [List.eq_of_mem_replicate hm]
    exact ⟨Nat.zero_le _, fun l hm => by cases hm⟩
theorem dec_bk (b : Bool) : decide (V.str (sBk b) = V.str "back") = b := by cases b <;> decide +kernel
theorem dec_in (b : Bool) : decide (V.str (sIn b) = V.str "in") = b := by cases b <;> decide +kernel
theorem dec_lt (b : Bool) : decide (V.str (sLt b) = V.str "late") = b := by cases b <;> decide +kernel
theorem sts_nil (CL : Addr) : ∀ as : List Addr, stsC CL (as.map fun a => (a, ([] : List LnA))) = as.map fun a => (a, HO.lst [])
  | [] => rfl
  | a :: as => by
    show (a, HO.lst []) :: stsC CL (as.map fun a => (a, ([] : List LnA))) = _
    rw [sts_nil CL as]
    rfl
def spRoomInit (K : PySem.W.Frag) : Sp := fun vs H Q _ => ∃ (x dx ra ti di : Addr) (be : Pa) (u : Rul) (tl : List V) (R : List Cell), vs = [.ref x, .ref ra, .ref be.ad, .ref ti, .ref di] ∧ RulOk u ∧ (ra, HO.tup u.vs) ∈ R ∧ Own H ((x, .ins (cR K) dx []) :: (ti, .tup tl) :: R) ∧
  ∀ (C1 : List Cell) (H' : Hp), RmRepK K di x be (mkRm u tl) C1 → Own H' (C1 ++ R) → Q .non H'
def spIsRule : Sp := fun vs H Q _ => ∃ (ra : Addr) (u : Rul), vs = [.ref ra] ∧ RulOk u ∧ H ra = some (.tup u.vs) ∧ Q (.bl true) H
/-- tuples of rules, by their addresses -/
def RA (R : List Cell) : List Addr → List Rul → Prop
  | [], [] => True
  | a :: as, u :: us => (a, HO.tup u.vs) ∈ R ∧ RA R as us
  | _, _ => False
theorem RA.len {R : List Cell} : ∀ {as : List Addr} {us : List Rul}, RA R as us → as.length = us.length
  | [], [], _ => rfl
  | [], _ :: _, h => h.elim
  | _ :: _, [], h => h.elim
  | _ :: _, _ :: _, h => congrArg (· + 1) (RA.len h.2)
theorem RA.get {R : List Cell} : ∀ {as : List Addr} {us : List Rul} {i : Nat} {a : Addr}, RA R as us → as[i]? = some a → ∃ u, us[i]? = some u ∧ (a, HO.tup u.vs) ∈ R
  | [], _, i, a, _, e => by simp at e
  | _ :: _, [], _, _, h, _ => h.elim
  | b :: as, u :: us, 0, a, h, e => by
    simp at e
    subst e
    exact ⟨u, rfl, h.1⟩
  | b :: as, u :: us, i + 1, a, h, e => by
    obtain ⟨v, h1, h2⟩ := RA.get (i := i) (a := a) h.2 (by simpa using e)
    exact ⟨v, by simpa using h1, h2⟩
theorem RA.get' {R : List Cell} : ∀ {as : List Addr} {us : List Rul} {i : Nat} {u : Rul}, RA R as us → us[i]? = some u → ∃ a, as[i]? = some a ∧ (a, HO.tup u.vs) ∈ R
  | [], [], i, a, _, e => by simp at e
  | [], _ :: _, _, _, h, _ => h.elim
  | _ :: _, [], _, _, h, _ => h.elim
  | b :: as, u :: us, 0, v, h, e => by
    simp at e
    subst e
    exact ⟨b, rfl, h.1⟩
  | b :: as, u :: us, i + 1, v, h, e => by
    obtain ⟨a, h1, h2⟩ := RA.get' (i := i) (u := v) h.2 (by simpa using e)
    exact ⟨a, by simpa using h1, h2⟩
theorem RA.mono {R R' : List Cell} (hs : ∀ c ∈ R, c ∈ R') : ∀ {as : List Addr} {us : List Rul}, RA R as us → RA R' as us
  | [], [], _ => trivial
  | [], _ :: _, h => h.elim
  | _ :: _, [], h => h.elim
  | _ :: _, _ :: _, h => ⟨hs _ h.1, RA.mono hs h.2⟩
/-- a list of rules -/
def RulesAt (R : List Cell) (rl : Addr) (us : List Rul) : Prop := ∃ ras : List Addr, (rl, HO.lst (ras.map V.ref)) ∈ R ∧ RA R ras us
structure RulesOk (us : List Rul) : Prop where
  ok : ∀ u ∈ us, RulOk u
  l1 : 1 ≤ us.length
  l3 : us.length ≤ 3
def spNeedRules : Sp := fun vs H Q _ => ∃ (rl : Addr) (us : List Rul) (R : List Cell), vs = [.ref rl] ∧ RulesOk us ∧ RulesAt R rl us ∧ Own H R ∧ ∀ H' : Hp, Own H' R → Q .non H'
def spNeedHands : Sp := fun vs H Q _ => ∃ n : Nat, vs = [.int n] ∧ 1 ≤ n ∧ n ≤ 3 ∧ Q .non H
section
variable {P : Program} {w : World} {K : PySem.W.Frag} {mg : Str → Option Value} {base : Heap} {n lv : Nat}
theorem in3 (u : Rul) (h : RulOk u) : inV (.int u.s) [V.int 1, .int 2, .int 4] = true := by
  rcases h.s with e | e | e <;> rw [e] <;> decide
theorem inBk (b : Bool) : inV (.str (sBk b)) [V.str "through", .str "back"] = true := by cases b <;> decide +kernel
theorem inIn (b : Bool) : inV (.str (sIn b)) [V.str "in", .str "by"] = true := by cases b <;> decide +kernel
theorem inLt (b : Bool) : inV (.str (sLt b)) [V.str "first", .str "late"] = true := by cases b <;> decide +kernel
theorem ok_is_rule (T : Txt K mg) : FnOk P w K mg base CX0 2 (He.fAd K ("is_rule", none)) T.fd_is_rule ["rule"] spIsRule := by
  have G_is_number := ok_is_number (P := P) (w := w) (base := base) T
  refine okOf T.F_is_rule sc_is_rule (fun vs H Q E h => ?_) (fun cdv A outer s H vs Q E hr h => ?_)
  · obtain ⟨_, _, rfl, _⟩ := h
    rfl
  · obtain ⟨ra, u, rfl, hu, hra, k⟩ := h
    have hs : (1 : Int) ≤ u.s ∧ (u.s : Int) ≤ 64 := by rcases hu.s with e | e | e <;> omega
    have hw : (1 : Int) ≤ u.w ∧ (u.w : Int) ≤ 4 := by have := hu.w0; have := hu.w4; omega
    refine ⟨_, (pss_cons (ps_if (PW.pt (pw_or (pt_not (pt_val (pe_callB call_isi (by rfl) T.n_isinstance (by decide +kernel) (pa_cons (pv 0) (pa_cons (pe_bltn (v := .ty "tuple") (by rfl) T.n_tuple (by decide +kernel) rfl) pa_nil))))) (pw_or (pt_cmpR op_ne (pe_callB call_len_seq (by rfl) T.n_len PySem.boot_len (pa_cons (pv 0) pa_nil)) pe_int (nomark _)) (pw_or (pt_not (pt_val (pe_call G_is_number (hr.mono (by omega)) rfl T.g_is_number T.k_is_number T.b_is_number .nil pass0 (pa_cons (pe_ix ix_tup (pv 0) pe_int (fun _ _ => rfl)) (pa_cons pe_int (pa_cons (pe_globI rfl T.g_CELLS) pa_nil)))))) (pw_or1 (pt_cmpR op_notIn_seq (pe_ix ix_tup (pv 0) pe_int (fun _ _ => rfl)) (pe_globR rfl T.g_SETS) (by rfl))))))) (pss_one (ps_ret pe_bl)) pss_nil) (pss_one (ps_ret (pe_and (pe_call G_is_number (hr.mono (by omega)) rfl T.g_is_number T.k_is_number T.b_is_number .nil pass0 (pa_cons (pe_ix ix_tup (pv 0) pe_int (fun _ _ => rfl)) (pa_cons pe_int (pa_cons (pe_globI rfl T.g_MOST_WAYS) pa_nil)))) (pe_and (pe_cmpR op_in_seq (pe_ix ix_tup (pv 0) pe_int (fun _ _ => rfl)) (pe_globR rfl T.g_WRITES) (by rfl)) (pe_and (pe_cmpR op_in_seq (pe_ix ix_tup (pv 0) pe_int (fun _ _ => rfl)) (pe_globR rfl T.g_TAKES) (by rfl)) (pe_one (pe_cmpR op_in_seq (pe_ix ix_tup (pv 0) pe_int (fun _ _ => rfl)) (pe_globR rfl T.g_LEAVES) (by rfl))))))))), ?_⟩
    refine ⟨_, rfl, _, _, _, _, true, rfl, ClsV.ty _, TyX.base (.tup hra), kit_ty (by decide +kernel), true, rfl, iteF ?_⟩
    refine ⟨_, rfl, ra, _, rfl, .inr (SqT.of hra), rfl, false, rfl, iteF ?_⟩
    refine ⟨_, rfl, ra, _, 0, .int u.s, rfl, rfl, SqT.of hra, rfl, u.s, 1, 64, rfl, true, by rw [decide_eq_true hs], iteF ?_⟩
    refine ⟨_, rfl, ra, _, 0, .int u.s, rfl, rfl, SqT.of hra, rfl, _, _, rfl, .inr (T.t_SETS H), rfl, rfl, false, by rw [in3 u hu]; rfl, iteF ?_⟩
    refine ⟨_, rfl, ra, _, 1, .int u.w, rfl, rfl, SqT.of hra, rfl, u.w, 1, 4, rfl, true, by rw [decide_eq_true hw], iteT ?_⟩
    refine ⟨_, rfl, ra, _, 2, _, rfl, rfl, SqT.of hra, rfl, _, _, rfl, .inr (T.t_WRITES H), rfl, rfl, true, by rw [inBk]; rfl, iteT ?_⟩
    refine ⟨_, rfl, ra, _, 3, _, rfl, rfl, SqT.of hra, rfl, _, _, rfl, .inr (T.t_TAKES H), rfl, rfl, true, by rw [inIn]; rfl, iteT ?_⟩
    refine ⟨_, rfl, ra, _, 4, _, rfl, rfl, SqT.of hra, rfl, _, _, rfl, .inr (T.t_LEAVES H), rfl, rfl, ?_⟩
    rw [inLt]
    exact k
end
-- WwH
/-! ### halls -/
structure Ha where
  own : List Rm
  t : Ta
def Pa.rooms : Pa → List Addr
  | .far _ => []
  | .room a be => a :: be.rooms
def Pa.last : Pa → Addr
  | .far la => la
  | .room _ be => be.last
structure HaA where
  x : Addr
  dx : Addr
  di : Addr
  sl : Addr
  ol : Addr
  sh : Pa
  owns : List Addr
def hallC (K : PySem.W.Frag) (A : HaA) : List Cell := [(A.x, .ins (cH K) A.dx (fHall (.ref A.di) (.ref A.sh.last) (.ref A.sl) (.ref A.ol))), (A.sl, .lst (A.sh.rooms.map V.ref)), (A.ol, .lst (A.owns.map V.ref))]
def OwnsRep (K : PySem.W.Frag) (di : Addr) (be : Pa) : List Addr → List Rm → List Cell → Prop
  | [], [], C => C = []
  | a :: as, r :: rs, C => ∃ C1 C2 : List Cell, RmRepK K di a be r C1 ∧ OwnsRep K di be as rs C2 ∧ C = C1 ++ C2
  | _, _, _ => False
def HallRepA (K : PySem.W.Frag) (A : HaA) (ha : Ha) (C : List Cell) : Prop := ∃ Co Cb D : List Cell, OwnsRep K A.di A.sh A.owns ha.own Co ∧ RepK K A.di A.sh ha.t.rs ha.t.far Cb ∧ DRep A.di ha.t.log D ∧ C = hallC K A ++ (Co ++ (Cb ++ D))
def HallRep (K : PySem.W.Frag) (x : Addr) (ha : Ha) (C : List Cell) : Prop := ∃ A : HaA, A.x = x ∧ HallRepA K A ha C
structure HaOk (n m : Nat) (ha : Ha) : Prop where
  t : TaOk n ha.t
  len : ha.own.length = m
  own : ∀ r ∈ ha.own, RmOk r
  n2 : n ≤ 2
  m1 : 1 ≤ m
  m3 : m ≤ 3
section
variable {K : PySem.W.Frag} {di : Addr} {be : Pa}
theorem OwnsRep.len : ∀ {as : List Addr} {rs : List Rm} {C : List Cell}, OwnsRep K di be as rs C → as.length = rs.length
  | [], [], _, _ => rfl
  | [], _ :: _, _, h => h.elim
  | _ :: _, [], _, h => h.elim
  | _ :: _, _ :: _, _, ⟨_, _, _, h, _⟩ => congrArg (· + 1) h.len
theorem OwnsRep.app : ∀ {as : List Addr} {rs : List Rm} {C C1 : List Cell} {a : Addr} {r : Rm}, OwnsRep K di be as rs C → RmRepK K di a be r C1 → OwnsRep K di be (as ++ [a]) (rs ++ [r]) (C ++ C1)
  | [], [], _, C1, a, r, h, k => by
    have h : _ = [] := h
    rw [h]
    exact ⟨C1, [], k, rfl, by simp⟩
  | [], _ :: _, _, _, _, _, h, _ => h.elim
  | _ :: _, [], _, _, _, _, h, _ => h.elim
  | b :: as, q :: rs, _, C1, a, r, ⟨D1, D2, h1, h2, e⟩, k => ⟨D1, D2 ++ C1, h1, OwnsRep.app h2 k, by rw [e, List.append_assoc]⟩
theorem OwnsRep.at : ∀ {as : List Addr} {rs : List Rm} {C : List Cell} {i : Nat} {r : Rm}, OwnsRep K di be as rs C → rs[i]? = some r →
    ∃ (a : Addr) (C1 Z : List Cell), as[i]? = some a ∧ RmRepK K di a be r C1 ∧ C.Perm (C1 ++ Z) ∧ ∀ (r' : Rm) (C1' : List Cell), RmRepK K di a be r' C1' → ∃ C', OwnsRep K di be as (rs.set i r') C' ∧ C'.Perm (C1' ++ Z)
  | [], [], _, i, r, _, e => by simp at e
  | [], _ :: _, _, _, _, h, _ => h.elim
  | _ :: _, [], _, _, _, h, _ => h.elim
  | b :: as, q :: rs, _, 0, r, ⟨D1, D2, h1, h2, e⟩, e0 => by
    have eq : q = r := by simpa using e0
    subst eq
    exact ⟨b, D1, D2, rfl, h1, by rw [e], fun r' C1' hr' => ⟨C1' ++ D2, ⟨C1', D2, hr', h2, rfl⟩, List.Perm.refl _⟩⟩
  | b :: as, q :: rs, _, i + 1, r, ⟨D1, D2, h1, h2, e⟩, e0 => by
    obtain ⟨a, C1, Z, g1, g2, g3, g4⟩ := OwnsRep.at (i := i) (r := r) h2 (by simpa using e0)
    refine ⟨a, C1, D1 ++ Z, by simpa using g1, g2, ?_, fun r' C1' hr' => ?_⟩
    · rw [e]
      refine (List.Perm.append_left _ g3).trans ?_
      walk_at "perm"
    · obtain ⟨C', k1, k2⟩ := g4 r' C1' hr'
      refine ⟨D1 ++ C', ⟨D1, C', h1, k1, rfl⟩, ?_⟩
      refine (List.Perm.append_left _ k2).trans ?_
      walk_at "perm"
end
def shRs : Nat → List Rul → List Rm
  | _, [] => []
  | lev, u :: us => mkRm u [.int lev, .int 0] :: shRs (lev + 1) us
def ownRs (u : Rul) (m : Nat) : List Rm := (List.range m).map fun h => mkRm u [.int 0, .int (h : Nat)]
def rul0 (us : List Rul) : Rul := us.getD 0 ⟨1, 1, true, true, true⟩
def hall0 (us : List Rul) (m : Nat) : Ha := ⟨ownRs (rul0 us) m, ⟨shRs 1 (us.drop 1), List.replicate 64 0, []⟩⟩
theorem shRs_len : ∀ (lev : Nat) (us : List Rul), (shRs lev us).length = us.length
  | _, [] => rfl
  | lev, u :: us => congrArg (· + 1) (shRs_len (lev + 1) us)
theorem shRs_ok : ∀ (lev : Nat) {us : List Rul}, (∀ u ∈ us, RulOk u) → ∀ r ∈ shRs lev us, RmOk r
  | _, [], _, r, hr => by cases hr
  | lev, u :: us, h, r, hr => by
    rcases List.mem_cons.mp hr with e | hr
    · rw [e]
      exact mkRm_ok (h u List.mem_cons_self) (by show 2 ≤ 4; omega)
    · exact shRs_ok (lev + 1) (fun v hv => h v (List.mem_cons_of_mem _ hv)) r hr
theorem rul0_ok {us : List Rul} (h : RulesOk us) : RulOk (rul0 us) ∧ us[0]? = some (rul0 us) := by
  cases us with
  | nil =>
    have := h.l1
    simp at this
  | cons u us => exact ⟨h.ok u List.mem_cons_self, rfl⟩
theorem hall0_ok {us : List Rul} (h : RulesOk us) {m : Nat} (h1 : 1 ≤ m) (h3 : m ≤ 3) : HaOk (us.length - 1) m (hall0 us m) := by
  refine ⟨⟨?_, ?_, rfl⟩, ?_, ?_, by have := h.l3; omega, h1, h3⟩
  · show (shRs 1 (us.drop 1)).length = _
    rw [shRs_len, List.length_drop]
  · exact shRs_ok 1 fun u hu => h.ok u (List.mem_of_mem_drop hu)
  · show (ownRs (rul0 us) m).length = m
    unfold ownRs
    rw [List.length_map, List.length_range]
  · intro r hr
    obtain ⟨i, _, rfl⟩ := List.mem_map.mp hr
    exact mkRm_ok (rul0_ok h).1 (by show 2 ≤ 4; omega)
def spHallInit (K : PySem.W.Frag) : Sp := fun vs H Q _ => ∃ (x dx rl : Addr) (us : List Rul) (m : Nat) (R : List Cell), vs = [.ref x, .ref rl, .int m] ∧ RulesOk us ∧ 1 ≤ m ∧ m ≤ 3 ∧ RulesAt R rl us ∧ Own H ((x, .ins (cH K) dx []) :: R) ∧
  ∀ (C : List Cell) (H' : Hp), HallRep K x (hall0 us m) C → Own H' (C ++ R) → Q .non H'
section
variable {P : Program} {w : World} {K : PySem.W.Frag} {mg : Str → Option Value} {base : Heap} {n lv : Nat}
end
-- WwI
/-! ### what a hall does, plainly -/
def yieldAt (n : Nat) (ha : Ha) (b : Nat) (g : Bool) (i : Nat) : Ha := match ha.own[i]? with
  | none => ha
  | some r => ⟨ha.own.set i (r.put b (yieldL (ops n) r.ru (r.ls b) ha.t b g).1), (yieldL (ops n) r.ru (r.ls b) ha.t b g).2⟩
def askN (n hand b : Nat) (g : Bool) : Nat → Ha → Ha
  | 0, ha => ha
  | k + 1, ha => if k = hand then askN n hand b g k ha else yieldAt n (askN n hand b g k ha) b g k
def ask (n : Nat) (ha : Ha) (hand b : Nat) (g : Bool) : Ha := askN n hand b g ha.own.length ha
def lookAt (n : Nat) (ha : Ha) (hand p : Nat) : Int × Ha := match ha.own[hand]? with
  | none => (0, ha)
  | some r => ((lookL (ops n) r.ru (r.ls (p / 4)) ha.t p).1, ⟨ha.own.set hand (r.put (p / 4) (lookL (ops n) r.ru (r.ls (p / 4)) ha.t p).2.1), (lookL (ops n) r.ru (r.ls (p / 4)) ha.t p).2.2⟩)
def changeAt (n : Nat) (ha : Ha) (hand p : Nat) (v : Int) : Ha := match ha.own[hand]? with
  | none => ha
  | some r => ⟨ha.own.set hand (r.put (p / 4) (changeL (ops n) r.ru (r.ls (p / 4)) ha.t p v).1), (changeL (ops n) r.ru (r.ls (p / 4)) ha.t p v).2⟩
def hLook (n : Nat) (ha : Ha) (hand p : Nat) : Int × Ha := lookAt n (ask n ha hand (p / 4) false) hand p
def hChange (n : Nat) (ha : Ha) (hand p : Nat) (v : Int) : Ha := changeAt n (ask n ha hand (p / 4) true) hand p v
section
variable {n m : Nat} {ha : Ha}
theorem HaOk.set (h : HaOk n m ha) {i : Nat} {r : Rm} {t : Ta} (hr : RmOk r) (ht : TaOk n t) : HaOk n m ⟨ha.own.set i r, t⟩ :=
  ⟨ht, by show (ha.own.set i r).length = m; rw [List.length_set]; exact h.len, fun r' hm => by
    rcases List.mem_or_eq_of_mem_set hm with hm | e
    · exact h.own r' hm
    · rw [e]
      exact hr, h.n2, h.m1, h.m3⟩
theorem g12 (h : n ≤ 2) : gOf n ≤ 12 := by
  match n, h with
  | 0, _ => decide
  | 1, _ => decide
  | 2, _ => decide
theorem yieldAt_ok (h : HaOk n m ha) {b : Nat} (hb : b < 16) (g : Bool) (i : Nat) : HaOk n m (yieldAt n ha b g i) ∧ (yieldAt n ha b g i).t.log.length ≤ ha.t.log.length + 13 := by
  unfold yieldAt
  cases e : ha.own[i]? with
  | none => exact ⟨h, by show ha.t.log.length ≤ _; omega⟩
  | some r =>
    have hr := h.own r (List.mem_of_getElem? e)
    obtain ⟨h1, h2, h3⟩ := yieldL_ok (ops_ok n) (hr.ls b) h.t hb (gone := g)
    have := g12 h.n2
    exact ⟨h.set (put_ok hr h1) h2, by show (yieldL (ops n) r.ru (r.ls b) ha.t b g).2.log.length ≤ _; omega⟩
theorem askN_ok (h : HaOk n m ha) {b : Nat} (hb : b < 16) (hand : Nat) (g : Bool) : ∀ k, HaOk n m (askN n hand b g k ha) ∧ (askN n hand b g k ha).t.log.length ≤ ha.t.log.length + 13 * k
  | 0 => ⟨h, Nat.le_refl _⟩
  | k + 1 => by
    obtain ⟨h1, h2⟩ := askN_ok h hb hand g k
    unfold askN
    split
    · exact ⟨h1, by omega⟩
    · obtain ⟨h3, h4⟩ := yieldAt_ok h1 hb g k
      exact ⟨h3, by omega⟩
theorem ask_ok (h : HaOk n m ha) {b : Nat} (hb : b < 16) (hand : Nat) (g : Bool) : HaOk n m (ask n ha hand b g) ∧ (ask n ha hand b g).t.log.length ≤ ha.t.log.length + 39 := by
  obtain ⟨h1, h2⟩ := askN_ok h hb hand g ha.own.length
  have := h.len
  have := h.m3
  exact ⟨h1, by show (askN n hand b g ha.own.length ha).t.log.length ≤ _; omega⟩
theorem lookAt_ok (h : HaOk n m ha) (hand : Nat) {p : Nat} (hp : p < 64) : HaOk n m (lookAt n ha hand p).2 ∧ (lookAt n ha hand p).2.t.log.length ≤ ha.t.log.length + 26 := by
  unfold lookAt
  cases e : ha.own[hand]? with
  | none => exact ⟨h, by show ha.t.log.length ≤ _; omega⟩
  | some r =>
    have hr := h.own r (List.mem_of_getElem? e)
    obtain ⟨h1, h2, h3⟩ := lookL_ok (ops_ok n) hr.ru (hr.ls (p / 4)) h.t hp
    have := g12 h.n2
    exact ⟨h.set (put_ok hr h1) h2, by show (lookL (ops n) r.ru (r.ls (p / 4)) ha.t p).2.2.log.length ≤ _; omega⟩
theorem changeAt_ok (h : HaOk n m ha) (hand : Nat) {p : Nat} (hp : p < 64) (v : Int) : HaOk n m (changeAt n ha hand p v) ∧ (changeAt n ha hand p v).t.log.length ≤ ha.t.log.length + 39 := by
  unfold changeAt
  cases e : ha.own[hand]? with
  | none => exact ⟨h, by show ha.t.log.length ≤ _; omega⟩
  | some r =>
    have hr := h.own r (List.mem_of_getElem? e)
    obtain ⟨h1, h2, h3⟩ := changeL_ok (v := v) (ops_ok n) hr.ru (hr.ls (p / 4)) h.t hp
    have := g12 h.n2
    exact ⟨h.set (put_ok hr h1) h2, by show (changeL (ops n) r.ru (r.ls (p / 4)) ha.t p v).2.log.length ≤ _; omega⟩
theorem hLook_ok (h : HaOk n m ha) (hand : Nat) {p : Nat} (hp : p < 64) : HaOk n m (hLook n ha hand p).2 ∧ (hLook n ha hand p).2.t.log.length ≤ ha.t.log.length + 100 := by
  obtain ⟨h1, h2⟩ := ask_ok h (show p / 4 < 16 by omega) hand false
  obtain ⟨h3, h4⟩ := lookAt_ok h1 hand hp
  exact ⟨h3, by show (lookAt n _ hand p).2.t.log.length ≤ _; omega⟩
theorem hChange_ok (h : HaOk n m ha) (hand : Nat) {p : Nat} (hp : p < 64) (v : Int) : HaOk n m (hChange n ha hand p v) ∧ (hChange n ha hand p v).t.log.length ≤ ha.t.log.length + 100 := by
  obtain ⟨h1, h2⟩ := ask_ok h (show p / 4 < 16 by omega) hand true
  obtain ⟨h3, h4⟩ := changeAt_ok h1 hand hp v
  exact ⟨h3, by show (changeAt n _ hand p v).t.log.length ≤ _; omega⟩
end
/-! ### promises of a hall -/
def LH (ha : Ha) : Prop := ha.t.log.length ≤ 900000
def spHNeed (K : PySem.W.Frag) : Sp := fun vs H Q _ => ∃ (A : HaA) (hand p : Nat) (R : List Cell), vs = [.ref A.x, .int hand, .int p] ∧ hand < A.owns.length ∧ p < 64 ∧ Own H (hallC K A ++ R) ∧ Q .non H
def spHAsk (K : PySem.W.Frag) : Sp := fun vs H Q _ => ∃ (A : HaA) (n m hand p : Nat) (g : Bool) (ha : Ha) (C R : List Cell), vs = [.ref A.x, .int hand, .int p, .bl g] ∧ p < 64 ∧ HaOk n m ha ∧ LH ha ∧ HallRepA K A ha C ∧ Own H (C ++ R) ∧
  ∀ (C' : List Cell) (H' : Hp), HallRepA K A (ask n ha hand (p / 4) g) C' → Own H' (C' ++ R) → Q .non H'
def spHLook (K : PySem.W.Frag) : Sp := fun vs H Q _ => ∃ (x : Addr) (n m hand p : Nat) (ha : Ha) (C R : List Cell), vs = [.ref x, .int hand, .int p] ∧ hand < m ∧ p < 64 ∧ HaOk n m ha ∧ LH ha ∧ HallRep K x ha C ∧ Own H (C ++ R) ∧
  ∀ (C' : List Cell) (H' : Hp), HallRep K x (hLook n ha hand p).2 C' → Own H' (C' ++ R) → Q (.int (hLook n ha hand p).1) H'
def spHChange (K : PySem.W.Frag) : Sp := fun vs H Q _ => ∃ (x : Addr) (n m hand p : Nat) (v : Int) (ha : Ha) (C R : List Cell), vs = [.ref x, .int hand, .int p, .int v] ∧ hand < m ∧ p < 64 ∧ 0 ≤ v ∧ v ≤ 999 ∧ HaOk n m ha ∧ LH ha ∧ HallRep K x ha C ∧ Own H (C ++ R) ∧
  ∀ (C' : List Cell) (H' : Hp), HallRep K x (hChange n ha hand p v) C' → Own H' (C' ++ R) → Q .non H'
def spHFar (K : PySem.W.Frag) : Sp := fun vs H Q _ => ∃ (x : Addr) (n m : Nat) (ha : Ha) (C R : List Cell), vs = [.ref x] ∧ HaOk n m ha ∧ HallRep K x ha C ∧ Own H (C ++ R) ∧
  ∀ (p : Addr) (H' : Hp), Own H' ((p, .lst (ha.t.far.map V.int)) :: (C ++ R)) → Q (.ref p) H'
/-- the room of a level, as a hand sees it -/
def roomAt (ha : Ha) (level hand : Nat) : Option Rm := if level = 0 then ha.own[hand]? else ha.t.rs[level - 1]?
def spHNear (K : PySem.W.Frag) : Sp := fun vs H Q _ => ∃ (x : Addr) (n m level hand : Nat) (ha : Ha) (r : Rm) (C R : List Cell), vs = [.ref x, .int level, .int hand] ∧ level ≤ n ∧ hand < m ∧ HaOk n m ha ∧ HallRep K x ha C ∧ roomAt ha level hand = some r ∧ Own H (C ++ R) ∧
  ∀ (p : Addr) (N : List Cell) (H' : Hp), DpL N (.ref p) (ssD r.ss) → Own H' (N ++ (C ++ R)) → Q (.ref p) H'
theorem Rep.rooms {CF CL CR di : Addr} : ∀ {be : Pa} {rs : List Rm} {far : List Int} {C : List Cell}, Rep CF CL CR di be rs far C → be.rooms.length = rs.length
  | .far _, [], _, _, _ => rfl
  | .far _, _ :: _, _, _, h => h.elim
  | .room _ _, [], _, _, h => h.elim
  | .room _ be, _ :: _, _, _, ⟨_, _, _, h, _⟩ => congrArg (· + 1) (Rep.rooms h)
theorem Rep.at {CF CL CR di : Addr} : ∀ {be : Pa} {rs : List Rm} {far : List Int} {C : List Cell} {j : Nat} {r : Rm}, Rep CF CL CR di be rs far C → rs[j]? = some r → ∃ (a : Addr) (be' : Pa) (C1 Z : List Cell), be.rooms[j]? = some a ∧ RmRep CL CR di a be' r C1 ∧ C.Perm (C1 ++ Z)
  | .far _, [], _, _, j, r, _, e => by simp at e
  | .far _, _ :: _, _, _, _, _, h, _ => h.elim
  | .room _ _, [], _, _, _, _, h, _ => h.elim
  | .room a be, q :: rs, _, _, 0, r, ⟨C1, C2, h1, h2, e⟩, e0 => by
    have eq : q = r := by simpa using e0
    subst eq
    exact ⟨a, be, C1, C2, rfl, h1, by rw [e]⟩
  | .room a be, q :: rs, _, _, j + 1, r, ⟨C1, C2, h1, h2, e⟩, e0 => by
    obtain ⟨a', be', D1, Z, g1, g2, g3⟩ := Rep.at (j := j) (r := r) h2 (by simpa using e0)
    refine ⟨a', be', D1, C1 ++ Z, by simpa [Pa.rooms] using g1, g2, ?_⟩
    rw [e]
    refine (List.Perm.append_left _ g3).trans ?_
    walk_at "perm"
theorem Rep.last {CF CL CR di : Addr} : ∀ {be : Pa} {rs : List Rm} {far : List Int} {C : List Cell}, Rep CF CL CR di be rs far C → ∃ (dx fl : Addr) (Z : List Cell), C.Perm ((be.last, .ins CF dx (fFar (.ref fl))) :: (fl, .lst (far.map V.int)) :: Z)
  | .far _, [], _, _, ⟨dx, fl, e⟩ => ⟨dx, fl, [], by rw [e]; exact List.Perm.refl _⟩
  | .far _, _ :: _, _, _, h => h.elim
  | .room _ _, [], _, _, h => h.elim
  | .room _ be, _ :: _, _, _, ⟨C1, C2, _, h, e⟩ => by
    obtain ⟨dx, fl, Z, g⟩ := Rep.last h
    refine ⟨dx, fl, C1 ++ Z, ?_⟩
    rw [e]
    refine (List.Perm.append_left _ g).trans ?_
    show (C1 ++ ((be.last, _) :: _ :: Z)).Perm ((be.last, _) :: _ :: (C1 ++ Z))
    walk_at "perm"
section
variable {P : Program} {w : World} {K : PySem.W.Frag} {mg : Str → Option Value} {base : Heap} {n lv : Nat}
theorem HallRepA.own {A : HaA} {ha : Ha} {C : List Cell} (h : HallRepA K A ha C) : A.owns.length = ha.own.length := by
  obtain ⟨Co, Cb, D, h1, _⟩ := h
  exact h1.len
/-- one own room taken out: what a step of it asks, and what it leaves -/
theorem HallRepA.at {A : HaA} {ha : Ha} {C R : List Cell} {H : Hp} {n m i : Nat} {r : Rm} (h : HallRepA K A ha C) (hk : HaOk n m ha) (hl : ha.t.log.length ≤ 999000) (e : ha.own[i]? = some r) (O : Own H (C ++ R)) :
    ∃ (a : Addr) (C1 Cb D R' : List Cell), A.owns[i]? = some a ∧ RPre K n H A.di a A.sh r ha.t C1 Cb D (hallC K A ++ R') ∧
      ∀ (r' : Rm) (t' : Ta) (H' : Hp), RPost K A.di a A.sh (hallC K A ++ R') r' t' H' → ∃ C', HallRepA K A ⟨ha.own.set i r', t'⟩ C' ∧ Own H' (C' ++ R) := by
  obtain ⟨Co, Cb, D, h1, h2, h3, rfl⟩ := h
  obtain ⟨a, C1, Z, g1, g2, g3, g4⟩ := h1.at e
  refine ⟨a, C1, Cb, D, Z ++ R, g1, ⟨hk.own r (List.mem_of_getElem? e), hk.t, ⟨by have := hk.n2; omega, ?_⟩, g2, h2, h3, O.perm ?_⟩, fun r' t' H' hp => ?_⟩
  · have := hk.n2
    omega
  · refine (List.Perm.append_right R (List.Perm.append_left (hallC K A) (List.Perm.append_right (Cb ++ D) g3))).trans ?_
    walk_at "perm"
  · obtain ⟨C1', Cb', D', k1, k2, k3, O'⟩ := hp
    obtain ⟨C', j1, j2⟩ := g4 r' C1' k1
    refine ⟨hallC K A ++ (C' ++ (Cb' ++ D')), ⟨C', Cb', D', j1, k2, k3, rfl⟩, O'.perm ?_⟩
    refine List.Perm.trans ?_ (List.Perm.append_right R (List.Perm.append_left (hallC K A) (List.Perm.append_right (Cb' ++ D') j2))).symm
    walk_at "perm"
theorem room_obj {A : HaA} {a : Addr} {be : Pa} {r : Rm} {C1 : List Cell} (h : RmRepK K A.di a be r C1) : ∃ (dx : Addr) (w bk inn lt b ti di ss : V), (a, HO.ins (cR K) dx (fRoom w bk inn lt b ti di ss)) ∈ C1 := by
  obtain ⟨hdr, ssr, ea, _, _, _, _, _, eD1⟩ := h
  rw [← ea, eD1]
  exact ⟨_, _, _, _, _, _, _, _, _, List.mem_append_left _ List.mem_cons_self⟩
end
-- WwJ
/-! ### the law's draws -/
def spRule (K : PySem.W.Frag) : Sp := fun vs H Q _ => ∃ (rw : Addr) (S : List Cell) (c : Cell) (R : List Cell), vs = [.ref rw] ∧ RowC K rw S c ∧ Own H (c :: (S ++ R)) ∧
  ∀ (u : Rul) (p : Addr) (c' : Cell) (H' : Hp), RulOk u → RowC K rw S c' → Own H' (c' :: (S ++ ((p, .tup u.vs) :: R))) → Q (.ref p) H'
def spRules (K : PySem.W.Frag) : Sp := fun vs H Q _ => ∃ (rw : Addr) (S : List Cell) (c : Cell) (R : List Cell), vs = [.ref rw] ∧ RowC K rw S c ∧ Own H (c :: (S ++ R)) ∧
  ∀ (us : List Rul) (p : Addr) (N : List Cell) (c' : Cell) (H' : Hp), RulesOk us → RulesAt N p us → RowC K rw S c' → Own H' (c' :: (S ++ (N ++ R))) → Q (.ref p) H'
def spPlace (K : PySem.W.Frag) : Sp := fun vs H Q _ => ∃ (rw : Addr) (S : List Cell) (c : Cell) (most : Int) (R : List Cell), vs = [.ref rw, .int most] ∧ 0 < most ∧ most ≤ 64 ∧ RowC K rw S c ∧ Own H (c :: (S ++ R)) ∧
  ∀ (v : Int) (c' : Cell) (H' : Hp), 0 ≤ v → v < 64 → RowC K rw S c' → Own H' (c' :: (S ++ R)) → Q (.int v) H'
inductive Deed where
  | look (h p : Nat)
  | set (h p : Nat) (v : Int)
def Deed.vs : Deed → List V
  | .look h p => [.str "look", .int h, .int p]
  | .set h p v => [.str "set", .int h, .int p, .int v]
def Deed.ok (m : Nat) : Deed → Prop
  | .look h p => h < m ∧ p < 64
  | .set h p v => h < m ∧ p < 64 ∧ 0 ≤ v ∧ v ≤ 999
def Deed.h : Deed → Nat
  | .look h _ => h
  | .set h _ _ => h
def Deed.p : Deed → Nat
  | .look _ p => p
  | .set _ p _ => p
theorem RA.app {R : List Cell} : ∀ {as bs : List Addr} {us vs : List Rul}, RA R as us → RA R bs vs → RA R (as ++ bs) (us ++ vs)
  | [], _, [], _, _, k => k
  | [], _, _ :: _, _, h, _ => h.elim
  | _ :: _, _, [], _, h, _ => h.elim
  | _ :: _, _, _ :: _, _, h, k => ⟨h.1, RA.app h.2 k⟩
def DeedsAt (N : List Cell) (p : Addr) (ds : List Deed) : Prop := ∃ as : List Addr, (p, HO.lst (as.map V.ref)) ∈ N ∧ TA N as (ds.map Deed.vs)
def spDeeds (K : PySem.W.Frag) : Sp := fun vs H Q _ => ∃ (rw : Addr) (S : List Cell) (c : Cell) (m most : Nat) (R : List Cell), vs = [.ref rw, .int m, .int most] ∧ 1 ≤ m ∧ m ≤ 3 ∧ most ≤ 200 ∧ RowC K rw S c ∧ Own H (c :: (S ++ R)) ∧
  ∀ (ds : List Deed) (p : Addr) (N : List Cell) (c' : Cell) (H' : Hp), (∀ d ∈ ds, d.ok m) → ds.length ≤ most → DeedsAt N p ds → RowC K rw S c' → Own H' (c' :: (S ++ (N ++ R))) → Q (.ref p) H'
def doDeed (n : Nat) (ha : Ha) : Deed → V × Ha
  | .look h p => (.int (hLook n ha h p).1, (hLook n ha h p).2)
  | .set h p v => (.non, hChange n ha h p v)
theorem doDeed_ok {n m : Nat} {ha : Ha} (h : HaOk n m ha) {d : Deed} (hd : d.ok m) : HaOk n m (doDeed n ha d).2 ∧ (doDeed n ha d).2.t.log.length ≤ ha.t.log.length + 100 := by
  cases d with
  | look hh p => exact hLook_ok h hh hd.2
  | set hh p v => exact hChange_ok h hh hd.2.1 v
def spUse (K : PySem.W.Frag) : Sp := fun vs H Q _ => ∃ (x da : Addr) (n m : Nat) (d : Deed) (ha : Ha) (C R : List Cell), vs = [.ref x, .ref da] ∧ d.ok m ∧ (da, HO.tup d.vs) ∈ R ∧ HaOk n m ha ∧ LH ha ∧ HallRep K x ha C ∧ Own H (C ++ R) ∧
  ∀ (C' : List Cell) (H' : Hp), HallRep K x (doDeed n ha d).2 C' → Own H' (C' ++ R) → Q (doDeed n ha d).1 H'
section
variable {P : Program} {w : World} {K : PySem.W.Frag} {mg : Str → Option Value} {base : Heap} {n lv : Nat}
theorem ok_rule (T : Txt K mg) : FnOk P w K mg base CX0 2 (He.fAd K ("_law_rule", none)) T.fd__law_rule ["_law_row"] (spRule K) := by
  have G__law_taken := ok_taken (P := P) (w := w) (base := base) T
  refine okOf T.F__law_rule sc__law_rule (fun vs H Q E h => ?_) (fun cdv A outer s H vs Q E hr h => ?_)
  · obtain ⟨_, _, _, _, rfl, _⟩ := h
    rfl
  · obtain ⟨rw, S, c, R, rfl, hc, O, k⟩ := h
    refine ⟨_, (pss_cons (ps_par (by rfl) sc__law_rule.nd (i := 1) (j := 2) rfl rfl (by decide) rfl rfl (pa_cons (pe_ix ix_list (pe_lst (pa_cons pe_str (pa_cons pe_str (pa_cons pe_str pa_nil)))) (pe_call G__law_taken (hr.mono (by omega)) rfl T.g__law_taken T.k__law_taken T.b__law_taken .nil pass0 (pa_cons (pv 0) (pa_cons pe_int pa_nil))) (fun _ _ => rfl)) (pa_cons (pe_ix ix_list (pe_lst (pa_cons pe_str (pa_cons pe_str (pa_cons pe_str pa_nil)))) (pe_call G__law_taken (hr.mono (by omega)) rfl T.g__law_taken T.k__law_taken T.b__law_taken .nil pass0 (pa_cons (pv 0) (pa_cons pe_int pa_nil))) (fun _ _ => rfl)) pa_nil)) (by rfl)) (pss_one (ps_ret (pe_tup (pa_cons (pe_ix ix_list (pe_lst (pa_cons pe_int (pa_cons pe_int (pa_cons pe_int pa_nil)))) (pe_call G__law_taken (hr.mono (by omega)) rfl T.g__law_taken T.k__law_taken T.b__law_taken .nil pass0 (pa_cons (pv 0) (pa_cons pe_int pa_nil))) (fun _ _ => rfl)) (pa_cons (pe_op op_add pe_int (pe_call G__law_taken (hr.mono (by omega)) rfl T.g__law_taken T.k__law_taken T.b__law_taken .nil pass0 (pa_cons (pv 0) (pa_cons pe_int pa_nil)))) (pa_cons (pv 1) (pa_cons (pv 2) (pa_cons (pe_ix ix_list (pe_lst (pa_cons pe_str (pa_cons pe_str pa_nil))) (pe_call G__law_taken (hr.mono (by omega)) rfl T.g__law_taken T.k__law_taken T.b__law_taken .nil pass0 (pa_cons (pv 0) (pa_cons pe_int pa_nil))) (fun _ _ => rfl)) pa_nil))))))))), ?_⟩
    refine ⟨by show 3 ≤ sizeLine; decide, fun p1 hp1 => ?_⟩
    have O1 := O.new (o := .lst [.str "through", .str "back", .str "back"]) hp1
    refine ⟨_, rfl, rw, S, c, 3, (p1, .lst [.str "through", .str "back", .str "back"]) :: R, rfl, hc, by decide, O1.perm (by walk_at "perm"), fun v1 c1 H1 h10 h11 hc1 O2 => ?_⟩
    obtain ⟨y1, ey1, hy1⟩ := pick3 (a := V.str "through") (b := .str "back") (c := .str "back") h10 h11
    obtain ⟨bk, rfl⟩ : ∃ bk, y1 = .str (sBk bk) := by
      rcases hy1 with e | e | e
      · exact ⟨false, e⟩
      · exact ⟨true, e⟩
      · exact ⟨true, e⟩
    refine ⟨p1, _, _, _, rfl, rfl, SqL.of (O2.mem (by simp)), ey1, ?_⟩
    replace O2 := Own.right (L' := [(p1, .lst [.str "through", .str "back", .str "back"])]) (O2.perm (L' := [(p1, .lst [.str "through", .str "back", .str "back"])] ++ (c1 :: (S ++ R))) (by walk_at "perm"))
    refine ⟨by show 3 ≤ sizeLine; decide, fun p2 hp2 => ?_⟩
    have O3 := O2.new (o := .lst [.str "in", .str "in", .str "by"]) hp2
    refine ⟨_, rfl, rw, S, c1, 3, (p2, .lst [.str "in", .str "in", .str "by"]) :: R, rfl, hc1, by decide, O3.perm (by walk_at "perm"), fun v2 c2 H2 h20 h21 hc2 O4 => ?_⟩
    obtain ⟨y2, ey2, hy2⟩ := pick3 (a := V.str "in") (b := .str "in") (c := .str "by") h20 h21
    obtain ⟨inn, rfl⟩ : ∃ inn, y2 = .str (sIn inn) := by
      rcases hy2 with e | e | e
      · exact ⟨true, e⟩
      · exact ⟨true, e⟩
      · exact ⟨false, e⟩
    refine ⟨p2, _, _, _, rfl, rfl, SqL.of (O4.mem (by simp)), ey2, _, _, rfl, ?_⟩
    replace O4 := Own.right (L' := [(p2, .lst [.str "in", .str "in", .str "by"])]) (O4.perm (L' := [(p2, .lst [.str "in", .str "in", .str "by"])] ++ (c2 :: (S ++ R))) (by walk_at "perm"))
    refine ⟨by show 3 ≤ sizeLine; decide, fun p3 hp3 => ?_⟩
    have O5 := O4.new (o := .lst [.int 1, .int 2, .int 4]) hp3
    refine ⟨_, rfl, rw, S, c2, 3, (p3, .lst [.int 1, .int 2, .int 4]) :: R, rfl, hc2, by decide, O5.perm (by walk_at "perm"), fun v3 c3 H3 h30 h31 hc3 O6 => ?_⟩
    obtain ⟨y3, ey3, hy3⟩ := pick3 (a := V.int 1) (b := .int 2) (c := .int 4) h30 h31
    obtain ⟨sn, rfl, hsn⟩ : ∃ sn : Nat, y3 = .int sn ∧ (sn = 1 ∨ sn = 2 ∨ sn = 4) := by
      rcases hy3 with e | e | e
      · exact ⟨1, e, .inl rfl⟩
      · exact ⟨2, e, .inr (.inl rfl)⟩
      · exact ⟨4, e, .inr (.inr rfl)⟩
    refine ⟨p3, _, _, _, rfl, rfl, SqL.of (O6.mem (by simp)), ey3, ?_⟩
    replace O6 := Own.right (L' := [(p3, .lst [.int 1, .int 2, .int 4])]) (O6.perm (L' := [(p3, .lst [.int 1, .int 2, .int 4])] ++ (c3 :: (S ++ R))) (by walk_at "perm"))
    refine ⟨_, rfl, rw, S, c3, 4, R, rfl, hc3, by decide, O6, fun v4 c4 H4 h40 h41 hc4 O7 => ?_⟩
    refine ⟨_, _, rfl, rfl, _, rfl, _, rfl, by show 2 ≤ sizeLine; decide, fun p5 hp5 => ?_⟩
    have O8 := O7.new (o := .lst [.str "first", .str "late"]) hp5
    refine ⟨_, rfl, rw, S, c4, 2, (p5, .lst [.str "first", .str "late"]) :: R, rfl, hc4, by decide, O8.perm (by walk_at "perm"), fun v5 c5 H5 h50 h51 hc5 O9 => ?_⟩
    obtain ⟨y5, ey5, hy5⟩ := pick2 (a := V.str "first") (b := .str "late") h50 h51
    obtain ⟨lt, rfl⟩ : ∃ lt, y5 = .str (sLt lt) := by
      rcases hy5 with e | e
      · exact ⟨false, e⟩
      · exact ⟨true, e⟩
    refine ⟨p5, _, _, _, rfl, rfl, SqL.of (O9.mem (by simp)), ey5, by show 5 ≤ sizeLine; decide, fun q hq => ?_⟩
    replace O9 := Own.right (L' := [(p5, .lst [.str "first", .str "late"])]) (O9.perm (L' := [(p5, .lst [.str "first", .str "late"])] ++ (c5 :: (S ++ R))) (by walk_at "perm"))
    have e4 : (1 : Int) + v4 = ((v4.toNat + 1 : Nat) : Int) := by omega
    have O10 := O9.new (o := .tup [.int sn, .int ((1 : Int) + v4), .str (sBk bk), .str (sIn inn), .str (sLt lt)]) hq
    refine k ⟨sn, v4.toNat + 1, bk, inn, lt⟩ q c5 _ ⟨hsn, by show 1 ≤ v4.toNat + 1; omega, by show v4.toNat + 1 ≤ 4; omega⟩ hc5 ?_
    unfold Rul.vs
    dsimp only
    rw [← e4]
    exact O10.perm (by walk_at "perm")
theorem ok_rules (T : Txt K mg) : FnOk P w K mg base CX0 3 (He.fAd K ("_law_rules", none)) T.fd__law_rules ["_law_row"] (spRules K) := by
  have G__law_taken := ok_taken (P := P) (w := w) (base := base) T
  have G__law_rule := ok_rule (P := P) (w := w) (base := base) T
  refine okOf T.F__law_rules sc__law_rules (fun vs H Q E h => ?_) (fun cdv A outer s H vs Q E hr h => ?_)
  · obtain ⟨_, _, _, _, rfl, _⟩ := h
    rfl
  · obtain ⟨rw, S, c, R, rfl, hc, O, k⟩ := h
    refine ⟨_, (pss_one (ps_ret (pe_lc (te := (tCall (spRule K) [] E0 (tCons (tVar 0) tNil))) (own := [("_law_k", 1)]) (by rfl) sc__law_rules.nd (pi_range1 (by rfl) T.n_range (pa_cons (pe_op op_add pe_int (pe_call G__law_taken (hr.mono (by omega)) rfl T.g__law_taken T.k__law_taken T.b__law_taken .nil pass0 (pa_cons (pv 0) (pa_cons pe_int pa_nil)))) pa_nil)) (blkOk_by (own := [("_law_k", 1)]) (by kernel_rfl)) (fun _ _ _ _ _ => (pg_name (i := 1) sc__law_rules.nd rfl (Or.inl rfl))) (fun _ _ _ _ _ => pts_nil) (fun _ _ _ _ _ => (pe_call G__law_rule (hr.mono (by omega)) rfl T.g__law_rule T.k__law_rule T.b__law_rule .nil pass0 (pa_cons (pv 0) pa_nil)))))), ?_⟩
    refine ⟨_, rfl, rw, S, c, 3, R, rfl, hc, by decide, O, fun v c1 H1 h0 h3 hc1 O1 => ?_⟩
    refine ⟨_, _, rfl, rfl, 1 + v, rfl, by omega, by omega, fun D hD => ?_⟩
    refine lc_range (lo := 0) (n := (1 + v).toNat) (fun i H' => ∃ (as : List Addr) (us : List Rul) (N : List Cell) (c' : Cell), us.length = i ∧ (∀ u ∈ us, RulOk u) ∧ RA N as us ∧ RowC K rw S c' ∧ Own H' ((D, .lst (as.map V.ref)) :: c' :: (S ++ (N ++ R))))
      ⟨[], [], [], c1, rfl, (fun u hu => nomatch hu), trivial, hc1, O1.new hD⟩ ?_ ?_
    · rintro i H2 hi ⟨as, us, N, c2, hul, huo, hra, hc2, O2⟩
      have hal := hra.len
      refine ⟨rfl, tYes_go (iteT ⟨_, rfl, rw, S, c2, (D, .lst (as.map V.ref)) :: (N ++ R), rfl, hc2, O2.perm (by walk_at "perm"), fun u p c3 H3 hu hc3 O3 => ?_⟩)⟩
      have O4 := O3.perm (L' := (D, .lst (as.map V.ref)) :: c3 :: (S ++ (((p, .tup u.vs) :: N) ++ R))) (by walk_at "perm")
      refine ⟨_, O4.a0, by rw [List.length_map]; exact size1 (by omega), as ++ [p], us ++ [u], (p, .tup u.vs) :: N, c3, by simp [hul], fun u' hu' => ?_, ?_, hc3, ?_⟩
      · rcases List.mem_append.mp hu' with h | h
        · exact huo u' h
        · rw [List.mem_singleton.mp h]
          exact hu
      · exact (hra.mono fun c hc => List.mem_cons_of_mem _ hc).app ⟨List.mem_cons_self, trivial⟩
      · rw [List.map_append]
        exact O4.set
    · rintro H2 ⟨as, us, N, c2, hul, huo, hra, hc2, O2⟩
      refine k us D ((D, .lst (as.map V.ref)) :: N) c2 H2 ⟨huo, by omega, by omega⟩ ⟨as, List.mem_cons_self, hra.mono fun c hc => List.mem_cons_of_mem _ hc⟩ hc2 (O2.perm (by walk_at "perm"))
theorem ok_place (T : Txt K mg) : FnOk P w K mg base CX0 2 (He.fAd K ("_law_place", none)) T.fd__law_place ["_law_row", "_law_most"] (spPlace K) := by
  have G__law_taken := ok_taken (P := P) (w := w) (base := base) T
  refine okOf T.F__law_place sc__law_place (fun vs H Q E h => ?_) (fun cdv A outer s H vs Q E hr h => ?_)
  · obtain ⟨_, _, _, _, _, rfl, _⟩ := h
    rfl
  · obtain ⟨rw, S, c, most, R, rfl, hm0, hm64, hc, O, k⟩ := h
    refine ⟨_, (pss_one (ps_ret (pe_ix ix_list (pe_lst (pa_cons (pe_call G__law_taken (hr.mono (by omega)) rfl T.g__law_taken T.k__law_taken T.b__law_taken .nil pass0 (pa_cons (pv 0) (pa_cons (pv 1) pa_nil))) (pa_cons (pe_call G__law_taken (hr.mono (by omega)) rfl T.g__law_taken T.k__law_taken T.b__law_taken .nil pass0 (pa_cons (pv 0) (pa_cons (pv 1) pa_nil))) (pa_cons (pe_call G__law_taken (hr.mono (by omega)) rfl T.g__law_taken T.k__law_taken T.b__law_taken .nil pass0 (pa_cons (pv 0) (pa_cons pe_int pa_nil))) pa_nil)))) (pe_call G__law_taken (hr.mono (by omega)) rfl T.g__law_taken T.k__law_taken T.b__law_taken .nil pass0 (pa_cons (pv 0) (pa_cons pe_int pa_nil))) (fun _ _ => rfl)))), ?_⟩
    refine ⟨_, rfl, _, rfl, rw, S, c, most, R, rfl, hc, hm0, O, fun v1 c1 H1 h10 h11 hc1 O1 => ?_⟩
    refine ⟨_, rfl, _, rfl, rw, S, c1, most, R, rfl, hc1, hm0, O1, fun v2 c2 H2 h20 h21 hc2 O2 => ?_⟩
    refine ⟨_, rfl, rw, S, c2, 64, R, rfl, hc2, by decide, O2, fun v3 c3 H3 h30 h31 hc3 O3 => ?_⟩
    refine ⟨by show 3 ≤ sizeLine; decide, fun p hp => ?_⟩
    have O4 := O3.new (o := .lst [.int v1, .int v2, .int v3]) hp
    refine ⟨_, rfl, rw, S, c3, 3, (p, .lst [.int v1, .int v2, .int v3]) :: R, rfl, hc3, by decide, O4.perm (by walk_at "perm"), fun v4 c4 H4 h40 h41 hc4 O5 => ?_⟩
    obtain ⟨y, ey, hy⟩ := pick3 (a := V.int v1) (b := .int v2) (c := .int v3) h40 h41
    obtain ⟨v, rfl, hv0, hv1⟩ : ∃ v : Int, y = .int v ∧ 0 ≤ v ∧ v < 64 := by
      rcases hy with e | e | e
      · exact ⟨v1, e, h10, by omega⟩
      · exact ⟨v2, e, h20, by omega⟩
      · exact ⟨v3, e, h30, by omega⟩
    refine ⟨p, _, _, _, rfl, rfl, SqL.of (O5.mem (by simp)), ey, ?_⟩
    exact k v c4 H4 hv0 hv1 hc4 (Own.right (L' := [(p, .lst [.int v1, .int v2, .int v3])]) (O5.perm (by walk_at "perm")))
theorem ok_deeds (T : Txt K mg) : FnOk P w K mg base CX0 3 (He.fAd K ("_law_deeds", none)) T.fd__law_deeds ["_law_row", "_law_hands", "_law_most"] (spDeeds K) := by
  have G__law_taken := ok_taken (P := P) (w := w) (base := base) T
  have G__law_place := ok_place (P := P) (w := w) (base := base) T
  refine okOf T.F__law_deeds sc__law_deeds (fun vs H Q E h => ?_) (fun cdv A outer s H vs Q E hr h => ?_)
  · obtain ⟨_, _, _, _, _, _, rfl, _⟩ := h
    rfl
  · obtain ⟨rw, S, c, m, most, R, rfl, hm1, hm3, hmost, hc, O, k⟩ := h
    refine ⟨_, (pss_cons (ps_set (i := 3) sc__law_deeds.nd rfl (Or.inl rfl) (pe_ix ix_list (pe_lst (pa_cons pe_int (pa_cons pe_int (pa_cons pe_int (pa_cons pe_int pa_nil))))) (pe_call G__law_taken (hr.mono (by omega)) rfl T.g__law_taken T.k__law_taken T.b__law_taken .nil pass0 (pa_cons (pv 0) (pa_cons pe_int pa_nil))) (fun _ _ => rfl))) (pss_cons (ps_set (i := 4) sc__law_deeds.nd rfl (Or.inl rfl) (pe_lst pa_nil)) (pss_cons (ps_for PassesOwn.never rfl (pi_range1 (by rfl) T.n_range (pa_cons (pe_call G__law_taken (hr.mono (by omega)) rfl T.g__law_taken T.k__law_taken T.b__law_taken .nil pass0 (pa_cons (pv 0) (pa_cons (pe_op op_add (pv 2) pe_int) pa_nil))) pa_nil)) (pg_name (i := 5) sc__law_deeds.nd rfl (Or.inl rfl)) (pss_cons (ps_par (by rfl) sc__law_deeds.nd (i := 6) (j := 7) rfl rfl (by decide) rfl rfl (pa_cons (pe_call G__law_taken (hr.mono (by omega)) rfl T.g__law_taken T.k__law_taken T.b__law_taken .nil pass0 (pa_cons (pv 0) (pa_cons (pv 1) pa_nil))) (pa_cons (pe_call G__law_place (hr.mono (by omega)) rfl T.g__law_place T.k__law_place T.b__law_place .nil pass0 (pa_cons (pv 0) (pa_cons (pv 3) pa_nil))) pa_nil)) (by rfl)) (pss_one (ps_if (pt_cmpR op_eq (pe_call G__law_taken (hr.mono (by omega)) rfl T.g__law_taken T.k__law_taken T.b__law_taken .nil pass0 (pa_cons (pv 0) (pa_cons pe_int pa_nil))) pe_int (nomark _)) (pss_one (ps_expr (pe_bm PySem.F.plainAttrs_list PySem.F.slot_list_append PySem.F.type_list_append mt_append (pv 4) (pa_cons (pe_tup (pa_cons pe_str (pa_cons (pv 6) (pa_cons (pv 7) pa_nil)))) pa_nil)))) (pss_one (ps_expr (pe_bm PySem.F.plainAttrs_list PySem.F.slot_list_append PySem.F.type_list_append mt_append (pv 4) (pa_cons (pe_tup (pa_cons pe_str (pa_cons (pv 6) (pa_cons (pv 7) (pa_cons (pe_ix ix_list (pe_lst (pa_cons (pe_call G__law_taken (hr.mono (by omega)) rfl T.g__law_taken T.k__law_taken T.b__law_taken .nil pass0 (pa_cons (pv 0) (pa_cons pe_int pa_nil))) (pa_cons (pe_call G__law_taken (hr.mono (by omega)) rfl T.g__law_taken T.k__law_taken T.b__law_taken .nil pass0 (pa_cons (pv 0) (pa_cons pe_int pa_nil))) pa_nil))) (pe_call G__law_taken (hr.mono (by omega)) rfl T.g__law_taken T.k__law_taken T.b__law_taken .nil pass0 (pa_cons (pv 0) (pa_cons pe_int pa_nil))) (fun _ _ => rfl)) pa_nil))))) pa_nil)))))))) (pss_one (ps_ret (pv 4)))))), ?_⟩
    refine ⟨by show 4 ≤ sizeLine; decide, fun p1 hp1 => ?_⟩
    have O1 := O.new (o := .lst [.int 6, .int 20, .int 40, .int 64]) hp1
    refine ⟨_, rfl, rw, S, c, 4, (p1, .lst [.int 6, .int 20, .int 40, .int 64]) :: R, rfl, hc, by decide, O1.perm (by walk_at "perm"), fun v1 c1 H1 h10 h11 hc1 O2 => ?_⟩
    obtain ⟨y1, ey1, hy1⟩ := pick4 (a := V.int 6) (b := .int 20) (c := .int 40) (d := .int 64) h10 h11
    obtain ⟨few, rfl, hf0, hf64⟩ : ∃ few : Int, y1 = .int few ∧ 0 < few ∧ few ≤ 64 := by
      rcases hy1 with e | e | e | e
      · exact ⟨6, e, by decide, by decide⟩
      · exact ⟨20, e, by decide, by decide⟩
      · exact ⟨40, e, by decide, by decide⟩
      · exact ⟨64, e, by decide, by decide⟩
    refine ⟨p1, _, _, _, rfl, rfl, SqL.of (O2.mem (by simp)), ey1, ?_⟩
    replace O2 := Own.right (L' := [(p1, .lst [.int 6, .int 20, .int 40, .int 64])]) (O2.perm (L' := [(p1, .lst [.int 6, .int 20, .int 40, .int 64])] ++ (c1 :: (S ++ R))) (by walk_at "perm"))
    refine ⟨by show 0 ≤ sizeLine; decide, fun D hD => ?_⟩
    have O3 := O2.new (o := .lst []) hD
    generalize upd H1 D _ = H2 at O3 ⊢
    refine ⟨_, rfl, _, rfl, _, _, rfl, rfl, rw, S, c1, (most : Int) + 1, (D, .lst []) :: R, rfl, hc1, by omega, O3.perm (by walk_at "perm"), fun v2 c2 H3 h20 h21 hc2 O4 => ?_⟩
    refine ⟨v2, rfl, by omega, by omega, ?_⟩
    refine for_range (lo := 0) (n := v2.toNat) (fun i σ H' => (∃ v5 v6 v7, σ = [some (.ref rw), some (.int m), some (.int most), some (.int few), some (.ref D), v5, v6, v7]) ∧ ∃ (as : List Addr) (ds : List Deed) (N : List Cell) (c' : Cell), ds.length = i ∧ (∀ d ∈ ds, d.ok m) ∧ TA N as (ds.map Deed.vs) ∧ RowC K rw S c' ∧ Own H' ((D, .lst (as.map V.ref)) :: c' :: (S ++ (N ++ R))))
      ⟨⟨none, none, none, rfl⟩, [], [], [], c2, rfl, (fun d hd => nomatch hd), trivial, hc2, O4.perm (L' := (D, .lst []) :: c2 :: (S ++ R)) (by walk_at "perm")⟩ ?_ ?_
    · rintro i σ H4 hi ⟨⟨v5, v6, v7, rfl⟩, as, ds, N, c3, hdl, hdo, hta, hc3, O5⟩
      have hal := hta.len
      rw [List.length_map] at hal
      refine ⟨_, rfl, _, rfl, rw, S, c3, (m : Int), (D, .lst (as.map V.ref)) :: (N ++ R), rfl, hc3, by omega, O5.perm (by walk_at "perm"), fun v8 c4 H5 h80 h81 hc4 O6 => ?_⟩
      refine ⟨_, rfl, _, rfl, rw, S, c4, few, (D, .lst (as.map V.ref)) :: (N ++ R), rfl, hf0, hf64, hc4, O6, fun v9 c5 H6 h90 h91 hc5 O7 => ?_⟩
      refine ⟨_, _, rfl, ?_⟩
      refine ⟨_, rfl, rw, S, c5, 2, (D, .lst (as.map V.ref)) :: (N ++ R), rfl, hc5, by decide, O7, fun v10 c6 H7 h100 h101 hc6 O8 => ?_⟩
      obtain ⟨hh, rfl⟩ := Int.eq_ofNat_of_zero_le h80
      obtain ⟨pp, rfl⟩ := Int.eq_ofNat_of_zero_le h90
      have fin : ∀ (d : Deed) (q : Addr) (c7 : Cell) (H8 : Hp), d.ok m → RowC K rw S c7 → Own H8 ((q, .tup d.vs) :: c7 :: (S ++ ((D, .lst (as.map V.ref)) :: (N ++ R)))) →
          rAppend (.ref D) [.ref q] H8 (fun _ H9 => (∃ v5 v6 v7, [some (.ref rw), some (.int m), some (.int most), some (.int few), some (.ref D), some (.int (0 + (i : Int))), some (.int (hh : Int)), some (.int (pp : Int))] = [some (.ref rw), some (.int m), some (.int most), some (.int few), some (V.ref D), v5, v6, v7]) ∧
            ∃ (as : List Addr) (ds : List Deed) (N : List Cell) (c' : Cell), ds.length = i + 1 ∧ (∀ d ∈ ds, d.ok m) ∧ TA N as (ds.map Deed.vs) ∧ RowC K rw S c' ∧ Own H9 ((D, .lst (as.map V.ref)) :: c' :: (S ++ (N ++ R)))) := by
        intro d q c7 H8 hd hc7 O9
        have O10 := O9.perm (L' := (D, .lst (as.map V.ref)) :: c7 :: (S ++ (((q, .tup d.vs) :: N) ++ R))) (by walk_at "perm")
        refine ⟨D, _, _, rfl, rfl, O10.a0, by rw [List.length_map]; exact size1 (by omega), ⟨_, _, _, rfl⟩, as ++ [q], ds ++ [d], (q, .tup d.vs) :: N, c7, by simp [hdl], fun d' hd' => ?_, ?_, hc7, ?_⟩
        · rcases List.mem_append.mp hd' with h | h
          · exact hdo d' h
          · rw [List.mem_singleton.mp h]
            exact hd
        · rw [List.map_append]
          exact (hta.mono fun c hc => List.mem_cons_of_mem _ hc).app ⟨List.mem_cons_self, trivial⟩
        · rw [List.map_append]
          exact O10.set
      refine ⟨rfl, _, rfl, ite2 (fun _ => ?_) (fun _ => ?_)⟩
      · refine ⟨_, rfl, .inl ⟨rfl, _, SqL.of (O8.mem (a := D) (o := .lst (as.map V.ref)) (by simp))⟩, _, rfl, _, rfl, by show 3 ≤ sizeLine; decide, fun q hq => ?_⟩
        exact fin (.look hh pp) q c6 _ ⟨by omega, by omega⟩ hc6 (O8.new hq)
      · refine ⟨_, rfl, .inl ⟨rfl, _, SqL.of (O8.mem (a := D) (o := .lst (as.map V.ref)) (by simp))⟩, _, rfl, _, rfl, ?_⟩
        refine ⟨_, rfl, rw, S, c6, 9, (D, .lst (as.map V.ref)) :: (N ++ R), rfl, hc6, by decide, O8, fun v11 c7 H8 h110 h111 hc7 O9 => ?_⟩
        refine ⟨_, rfl, rw, S, c7, 1000, (D, .lst (as.map V.ref)) :: (N ++ R), rfl, hc7, by decide, O9, fun v12 c8 H9 h120 h121 hc8 O10 => ?_⟩
        refine ⟨by show 2 ≤ sizeLine; decide, fun p2 hp2 => ?_⟩
        have O11 := O10.new (o := .lst [.int v11, .int v12]) hp2
        refine ⟨_, rfl, rw, S, c8, 2, (p2, .lst [.int v11, .int v12]) :: (D, .lst (as.map V.ref)) :: (N ++ R), rfl, hc8, by decide, O11.perm (by walk_at "perm"), fun v13 c9 H10 h130 h131 hc9 O12 => ?_⟩
        obtain ⟨y, ey, hy⟩ := pick2 (a := V.int v11) (b := .int v12) h130 h131
        obtain ⟨v, rfl, hv0, hv1⟩ : ∃ v : Int, y = .int v ∧ 0 ≤ v ∧ v ≤ 999 := by
          rcases hy with e | e
          · exact ⟨v11, e, h110, by omega⟩
          · exact ⟨v12, e, h120, by omega⟩
        refine ⟨p2, _, _, _, rfl, rfl, SqL.of (O12.mem (by simp)), ey, by show 4 ≤ sizeLine; decide, fun q hq => ?_⟩
        replace O12 := Own.right (L' := [(p2, .lst [.int v11, .int v12])]) (O12.perm (L' := [(p2, .lst [.int v11, .int v12])] ++ (c9 :: (S ++ ((D, .lst (as.map V.ref)) :: (N ++ R))))) (by walk_at "perm"))
        exact fin (.set hh pp v) q c9 _ ⟨by omega, by omega, hv0, hv1⟩ hc9 (O12.new hq)
    · rintro σ H4 ⟨⟨v5, v6, v7, rfl⟩, as, ds, N, c3, hdl, hdo, hta, hc3, O5⟩
      exact ⟨_, rfl, k ds D ((D, .lst (as.map V.ref)) :: N) c3 H4 hdo (by omega) ⟨as, List.mem_cons_self, hta.mono fun c hc => List.mem_cons_of_mem _ hc⟩ hc3 (O5.perm (by walk_at "perm"))⟩
end
-- WwCoh
/-! ### what a room's lines tell -/
def lnOf (c : Nat) : List Ln → Option Ln
  | [] => none
  | l :: r => if l.b = c then some l else lnOf c r
theorem lnOf_mem {c : Nat} : ∀ {ls : List Ln} {l : Ln}, lnOf c ls = some l → l ∈ ls ∧ l.b = c
  | [], l, h => by cases h
  | a :: r, l, h => by
    unfold lnOf at h
    by_cases e : a.b = c
    · rw [if_pos e] at h
      cases h
      exact ⟨List.mem_cons_self, e⟩
    · rw [if_neg e] at h
      obtain ⟨h1, h2⟩ := lnOf_mem h
      exact ⟨List.mem_cons_of_mem _ h1, h2⟩
theorem lnOf_none {c : Nat} : ∀ {ls : List Ln}, lnOf c ls = none → ∀ l ∈ ls, l.b ≠ c
  | [], _, l, hl => by cases hl
  | a :: r, h, l, hl => by
    unfold lnOf at h
    by_cases e : a.b = c
    · rw [if_pos e] at h
      cases h
    · rw [if_neg e] at h
      rcases List.mem_cons.mp hl with e' | hm
      · rw [e']
        exact e
      · exact lnOf_none h l hm
theorem lnOf_iff {c : Nat} : ∀ {ls : List Ln} {l : Ln}, (ls.map (·.b)).Nodup → l ∈ ls → l.b = c → lnOf c ls = some l
  | [], l, _, hl, _ => by cases hl
  | a :: r, l, hn, hl, e => by
    rw [List.map_cons] at hn
    obtain ⟨h1, h2⟩ := List.nodup_cons.mp hn
    unfold lnOf
    rcases List.mem_cons.mp hl with e' | hm
    · rw [← e', if_pos e]
    · have : a.b ≠ c := fun z => h1 (List.mem_map.mpr ⟨l, hm, by rw [e, z]⟩)
      rw [if_neg this]
      exact lnOf_iff h2 hm e
theorem lnOf_no {c : Nat} {ls : List Ln} (h : ∀ l ∈ ls, l.b ≠ c) : lnOf c ls = none := by
  cases e : lnOf c ls with
  | none => rfl
  | some l =>
    obtain ⟨h1, h2⟩ := lnOf_mem e
    exact absurd h2 (h l h1)
theorem fnd_lnOf {c : Nat} {ls : List Ln} {i : Nat} {l : Ln} (h : fnd c ls = some i) (hl : ls[i]? = some l) : lnOf c ls = some l := by
  induction ls generalizing i with
  | nil => simp at hl
  | cons a r ih =>
    unfold fnd at h
    unfold lnOf
    by_cases e : a.b = c
    · rw [if_pos e] at h ⊢
      cases h
      simpa using hl
    · rw [if_neg e] at h ⊢
      cases hr : fnd c r with
      | none =>
        rw [hr] at h
        cases h
      | some j =>
        rw [hr] at h
        have : j + 1 = i := Option.some.inj h
        subst this
        exact ih hr (by simpa using hl)
/-- one set: each block once, and in its own set -/
structure SetW (s k : Nat) (ls : List Ln) : Prop where
  nd : (ls.map (·.b)).Nodup
  ix : ∀ l ∈ ls, l.b % s = k
def effS (ls : List Ln) (e : Nat → List Int) (c : Nat) : List Int := match lnOf c ls with
  | some l => l.ns
  | none => e c
/-- clean lines have what is behind -/
def Cln (ls : List Ln) (e : Nat → List Int) : Prop := ∀ l ∈ ls, l.d = false → l.ns = e l.b
def effC : List Rm → List Int → Nat → List Int
  | [], far, c => getBlk far c
  | r :: rs, far, c => effS (r.ls c) (effC rs far) c
def RmW (r : Rm) : Prop := ∀ k ls, r.ss[k]? = some ls → SetW r.ss.length k ls
def ChW : List Rm → List Int → Prop
  | [], _ => True
  | r :: rs, far => RmW r ∧ (∀ ls ∈ r.ss, Cln ls (effC rs far) ∧ (r.ru.bk = false → ∀ l ∈ ls, l.d = false)) ∧ ChW rs far
abbrev eff (t : Ta) : Nat → List Int := effC t.rs t.far
abbrev TaW (t : Ta) : Prop := ChW t.rs t.far
structure OpsC (n : Nat) (o : Ops) : Prop where
  hm : ∀ t b ns, TaOk n t → TaW t → b < 16 → ns.length = 4 → TaW (o.hm t b ns) ∧ ∀ c, eff (o.hm t b ns) c = if c = b then ns else eff t c
  br : ∀ t b, TaOk n t → TaW t → b < 16 → (o.br t b).1 = eff t b ∧ TaW (o.br t b).2 ∧ ∀ c, eff (o.br t b).2 c = eff t c
  ch : ∀ t p v, TaOk n t → TaW t → p < 64 → TaW (o.ch t p v) ∧ ∀ c, eff (o.ch t p v) c = if c = p / 4 then (eff t c).set (p % 4) v else eff t c
/-- what one step of a set's lines leaves: b the block, f what becomes of its numbers -/
structure Sem (s k : Nat) (ls : List Ln) (t : Ta) (ls' : List Ln) (t' : Ta) (b : Nat) (f : List Int → List Int) : Prop where
  w : SetW s k ls'
  cln : Cln ls' (eff t')
  tw : TaW t'
  out : ∀ c, c % s ≠ k → eff t' c = eff t c
  ef : ∀ c, c % s = k → effS ls' (eff t') c = if c = b then f (effS ls (eff t) b) else effS ls (eff t) c
  dom : ∀ l' ∈ ls', l'.b = b ∨ ∃ l ∈ ls, l.b = l'.b ∧ (l'.d = true → l.d = true)
section
variable {n : Nat} {o : Ops} {u : Ru} {s k : Nat} {ls : List Ln} {t : Ta}
theorem effS_mem (w : SetW s k ls) {l : Ln} (h : l ∈ ls) (e : Nat → List Int) : effS ls e l.b = l.ns := by
  unfold effS
  rw [lnOf_iff w.nd h rfl]
theorem effS_no {c : Nat} (h : ∀ l ∈ ls, l.b ≠ c) (e : Nat → List Int) : effS ls e c = e c := by
  unfold effS
  rw [lnOf_no h]
/-- two sets of lines tell the same of c -/
theorem effS_same {ls' : List Ln} {e e' : Nat → List Int} {c : Nat} (h : lnOf c ls' = lnOf c ls) (he : lnOf c ls = none → e' c = e c) : effS ls' e' c = effS ls e c := by
  unfold effS
  rw [h]
  cases q : lnOf c ls with
  | some l => rfl
  | none => exact he q
theorem SetW.tail {l : Ln} {r : List Ln} (w : SetW s k (l :: r)) : SetW s k r := ⟨(List.nodup_cons.mp (by simpa using w.nd)).2, fun l' hm => w.ix l' (List.mem_cons_of_mem _ hm)⟩
theorem SetW.head {l : Ln} {r : List Ln} (w : SetW s k (l :: r)) : ∀ l' ∈ r, l'.b ≠ l.b := fun l' hm e => by
  have h := w.nd
  rw [List.map_cons] at h
  exact (List.nodup_cons.mp h).1 (List.mem_map.mpr ⟨l', hm, e⟩)
/-- a dirty line goes home, and nothing else changes -/
theorem passH_eff (O : OpsC n o) (h : TaOk n t) (hw : TaW t) {tl : List V} {b : Nat} (hb : b < 16) {ns : List Int} (hn : ns.length = 4) : TaW (passH o tl t b ns) ∧ ∀ c, eff (passH o tl t b ns) c = if c = b then ns else eff t c := O.hm _ b ns (note_ok h tl "home" b) hw hb hn
theorem passC_eff (O : OpsC n o) (h : TaOk n t) (hw : TaW t) {tl : List V} {p : Nat} (hp : p < 64) {v : Int} : TaW (passC o tl t p v) ∧ ∀ c, eff (passC o tl t p v) c = if c = p / 4 then (eff t c).set (p % 4) v else eff t c := O.ch _ p v (note_ok h tl "cell" p) hw hp
/-- make_way: nothing that is told changes -/
theorem mkWay_sem (O : OpsC n o) (w : SetW s k ls) (hl : LsOk u ls) (hc : Cln ls (eff t)) (h : TaOk n t) (hw : TaW t) :
    SetW s k (mkWay o u ls t).1 ∧ Cln (mkWay o u ls t).1 (eff (mkWay o u ls t).2) ∧ TaW (mkWay o u ls t).2 ∧ (∀ c, c % s ≠ k → eff (mkWay o u ls t).2 c = eff t c) ∧ (∀ c, effS (mkWay o u ls t).1 (eff (mkWay o u ls t).2) c = effS ls (eff t) c) ∧ ∀ l ∈ (mkWay o u ls t).1, l ∈ ls := by
  unfold mkWay
  split
  · cases ls with
    | nil => exact ⟨w, hc, hw, fun _ _ => rfl, fun _ => rfl, fun _ h => h⟩
    | cons l rest =>
      have hlo := hl.ok l List.mem_cons_self
      have hd : ∀ l' ∈ rest, l'.b ≠ l.b := w.head
      -- what is behind tells l's numbers then
      have key : ∀ t' : Ta, (∀ c, eff t' c = if c = l.b then l.ns else eff t c) → TaW t' →
          SetW s k rest ∧ Cln rest (eff t') ∧ TaW t' ∧ (∀ c, c % s ≠ k → eff t' c = eff t c) ∧ (∀ c, effS rest (eff t') c = effS (l :: rest) (eff t) c) ∧ ∀ l' ∈ rest, l' ∈ l :: rest := by
        intro t' he hw'
        refine ⟨w.tail, fun l' hm hd' => ?_, hw', fun c hcs => ?_, fun c => ?_, fun l' hm => List.mem_cons_of_mem _ hm⟩
        · rw [he, if_neg (hd l' hm)]
          exact hc l' (List.mem_cons_of_mem _ hm) hd'
        · rw [he, if_neg]
          intro e
          rw [e] at hcs
          exact hcs (w.ix l List.mem_cons_self)
        · by_cases e : c = l.b
          · subst e
            rw [effS_no hd, he, if_pos rfl, effS_mem w List.mem_cons_self]
          · refine effS_same ?_ fun _ => by rw [he, if_neg e]
            show _ = (if l.b = c then some l else lnOf c rest)
            rw [if_neg (Ne.symm e)]
      dsimp only
      split
      · obtain ⟨p1, p2⟩ := passH_eff (tl := u.tl) O h hw hlo.b hlo.ns
        exact key _ p2 p1
      · rename_i hdf
        refine key t (fun c => ?_) hw
        split
        · rename_i e
          rw [e]
          exact (hc l List.mem_cons_self (by simpa using hdf)).symm
        · rfl
  · exact ⟨w, hc, hw, fun _ _ => rfl, fun _ => rfl, fun _ h => h⟩
theorem SetW.perm {ls' : List Ln} (w : SetW s k ls) (p : ls'.Perm ls) : SetW s k ls' := ⟨((p.map _).nodup_iff).mpr w.nd, fun l hm => w.ix l (p.mem_iff.mp hm)⟩
theorem lnOf_perm {ls' : List Ln} (w : SetW s k ls) (p : ls'.Perm ls) (c : Nat) : lnOf c ls' = lnOf c ls := by
  cases e : lnOf c ls with
  | none => exact lnOf_no fun l hm => lnOf_none e l (p.mem_iff.mp hm)
  | some l =>
    obtain ⟨h1, h2⟩ := lnOf_mem e
    exact lnOf_iff (w.perm p).nd (p.mem_iff.mpr h1) h2
theorem perm_erase {α : Type} : ∀ {ls : List α} {i : Nat} (h : i < ls.length), (ls[i] :: ls.eraseIdx i).Perm ls
  | [], i, h => by simp at h
  | a :: r, 0, h => List.Perm.refl _
  | a :: r, i + 1, h => by
    have ih := perm_erase (ls := r) (i := i) (by simpa using h)
    show (r[i]'(by simpa using h) :: a :: r.eraseIdx i).Perm (a :: r)
    exact (List.Perm.swap ..).trans (ih.cons a)
theorem touch_perm {lt : Bool} {i : Nat} (h : i < ls.length) : (touchL lt ls i).Perm ls := by
  unfold touchL
  split
  · rw [List.getElem?_eq_getElem h]
    show (ls.eraseIdx i ++ [ls[i]]).Perm ls
    have := perm_erase h
    exact (List.perm_append_comm (l₁ := ls.eraseIdx i) (l₂ := [ls[i]])).trans this
  · exact List.Perm.refl _
theorem reach_sem (O : OpsC n o) (Ok : OpsOk n (gOf n) o) (hu : RuOk u) (w : SetW s k ls) (hl : LsOk u ls) (hc : Cln ls (eff t)) (h : TaOk n t) (hw : TaW t) {b : Nat} (hb : b < 16) (hbk : b % s = k) :
    Sem s k ls t (reachL o u ls t b).1 (reachL o u ls t b).2.1 b (fun x => x) ∧ (∀ l' ∈ (reachL o u ls t b).1, l'.d = true → ∃ l ∈ ls, l.b = l'.b ∧ l.d = true) ∧
      (∀ l, (reachL o u ls t b).1[(reachL o u ls t b).2.2]? = some l → l.b = b ∧ l.ns = effS ls (eff t) b) := by
  cases e : fnd b ls with
  | some i =>
    have e1 : reachL o u ls t b = (touchL u.lt ls i, t, touchI u.lt ls i) := by
      unfold reachL
      rw [e]
    rw [e1]
    have hi := fnd_lt e
    have p : (touchL u.lt ls i).Perm ls := touch_perm hi
    have hm := fun l (q : l ∈ touchL u.lt ls i) => p.mem_iff.mp q
    refine ⟨⟨w.perm p, fun l hq => hc l (hm l hq), hw, fun _ _ => rfl, fun c _ => ?_, fun l' hq => .inr ⟨l', hm l' hq, rfl, fun z => z⟩⟩, fun l' hq hd => ⟨l', hm l' hq, rfl, hd⟩, fun l hlg => ?_⟩
    · have : effS (touchL u.lt ls i) (eff t) c = effS ls (eff t) c := effS_same (lnOf_perm w p c) fun _ => rfl
      rw [this]
      split
      · rename_i q
        rw [q]
      · rfl
    · have hlg : (touchL u.lt ls i)[touchI u.lt ls i]? = some l := hlg
      rw [touch_get hi] at hlg
      obtain ⟨l2, g1, g2, _⟩ := fnd_some e
      rw [hlg] at g1
      cases g1
      refine ⟨g2, ?_⟩
      rw [← g2]
      exact (effS_mem w (List.mem_of_getElem? hlg) _).symm
  | none =>
    have e1 : reachL o u ls t b = ((mkWay o u ls t).1 ++ [⟨b, (o.br ((mkWay o u ls t).2.note u.tl "bring" b) b).1, false⟩], (o.br ((mkWay o u ls t).2.note u.tl "bring" b) b).2, (mkWay o u ls t).1.length) := by
      unfold reachL
      rw [e]
    rw [e1]
    obtain ⟨m1, m2, m3, m4, m5, m6⟩ := mkWay_sem (u := u) O w hl hc h hw
    obtain ⟨k1, k2, k3, k4⟩ := mkWay_ok Ok hu hl h
    have hno : ∀ l ∈ (mkWay o u ls t).1, l.b ≠ b := fun l hq => fnd_none e l (m6 l hq)
    obtain ⟨b1, b2, b3⟩ := O.br _ b (note_ok k2 u.tl "bring" b) (show TaW ((mkWay o u ls t).2.note u.tl "bring" b) from m3) hb
    have b1 : (o.br ((mkWay o u ls t).2.note u.tl "bring" b) b).1 = eff (mkWay o u ls t).2 b := b1
    have b3 : ∀ c, eff (o.br ((mkWay o u ls t).2.note u.tl "bring" b) b).2 c = eff (mkWay o u ls t).2 c := b3
    generalize o.br ((mkWay o u ls t).2.note u.tl "bring" b) b = br at *
    generalize mkWay o u ls t = mw at *
    have hval : br.1 = effS ls (eff t) b := by rw [b1, ← m5 b, effS_no hno]
    have w' : SetW s k (mw.1 ++ [⟨b, br.1, false⟩]) := by
      refine ⟨?_, fun l hq => ?_⟩
      · rw [List.map_append]
        refine List.nodup_append.mpr ⟨m1.nd, by simp, fun x hx y hy => ?_⟩
        obtain ⟨l, hq, rfl⟩ := List.mem_map.mp hx
        have : y = b := by simpa using hy
        rw [this]
        exact hno l hq
      · rcases List.mem_append.mp hq with hq | hq
        · exact m1.ix l hq
        · rw [List.mem_singleton.mp hq]
          exact hbk
    refine ⟨⟨w', fun l hq hd => ?_, b2, fun c hcs => ?_, fun c hcs => ?_, fun l' hq => ?_⟩, fun l' hq hd => ?_, fun l hlg => ?_⟩
    · rw [b3]
      rcases List.mem_append.mp hq with hq | hq
      · exact m2 l hq hd
      · rw [List.mem_singleton.mp hq]
        exact b1
    · rw [b3]
      exact m4 c hcs
    · by_cases ec : c = b
      · rw [if_pos ec]
        subst ec
        have := effS_mem w' (l := ⟨c, br.1, false⟩) (by simp) (eff br.2)
        rw [← hval]
        exact this
      · rw [if_neg ec, ← m5 c]
        refine effS_same ?_ fun _ => b3 c
        cases q : lnOf c mw.1 with
        | none =>
          refine lnOf_no fun l hq => ?_
          rcases List.mem_append.mp hq with hq | hq
          · exact lnOf_none q l hq
          · rw [List.mem_singleton.mp hq]
            exact Ne.symm ec
        | some l =>
          obtain ⟨g1, g2⟩ := lnOf_mem q
          exact lnOf_iff w'.nd (List.mem_append_left _ g1) g2
    · rcases List.mem_append.mp hq with hq | hq
      · exact .inr ⟨l', m6 l' hq, rfl, fun z => z⟩
      · rw [List.mem_singleton.mp hq]
        exact .inl rfl
    · rcases List.mem_append.mp hq with hq | hq
      · exact ⟨l', m6 l' hq, rfl, hd⟩
      · rw [List.mem_singleton.mp hq] at hd
        cases hd
    · have hlg : (mw.1 ++ [(⟨b, br.1, false⟩ : Ln)])[mw.1.length]? = some l := hlg
      rw [List.getElem?_append_right (Nat.le_refl _), Nat.sub_self] at hlg
      have : l = ⟨b, br.1, false⟩ := by simpa using hlg.symm
      rw [this]
      exact ⟨rfl, hval⟩
/-- one line is changed in its place: x has the same block -/
theorem set_w (w : SetW s k ls) {i : Nat} {l x : Ln} (hi : ls[i]? = some l) (hx : x.b = l.b) : SetW s k (ls.set i x) := by
  have hlt : i < ls.length := (List.getElem?_eq_some_iff.mp hi).1
  have em : (ls.set i x).map (·.b) = ls.map (·.b) := by
    rw [List.map_set]
    apply List.ext_getElem?
    intro j
    by_cases e : i = j
    · subst e
      rw [List.getElem?_set_self (by rw [List.length_map]; exact hlt), List.getElem?_map, hi, hx]
      rfl
    · rw [List.getElem?_set_ne e]
  refine ⟨by rw [em]; exact w.nd, fun l' hm => ?_⟩
  rcases List.mem_or_eq_of_mem_set hm with hm | e
  · exact w.ix l' hm
  · rw [e, hx]
    exact w.ix l (List.mem_of_getElem? hi)
theorem set_mem {i : Nat} {l x l' : Ln} (w : SetW s k ls) (hi : ls[i]? = some l) (hx : x.b = l.b) (h : l' ∈ ls.set i x) : l' = x ∨ (l' ∈ ls ∧ l'.b ≠ l.b) := by
  have hlt : i < ls.length := (List.getElem?_eq_some_iff.mp hi).1
  have w' := set_w w hi hx
  have hxm : x ∈ ls.set i x := List.mem_of_getElem? (List.getElem?_set_self hlt)
  by_cases e : l'.b = l.b
  · left
    have h1 := lnOf_iff w'.nd h e
    have h2 := lnOf_iff w'.nd hxm hx
    rw [h1] at h2
    exact Option.some.inj h2
  · right
    rcases List.mem_or_eq_of_mem_set h with hm | e2
    · exact ⟨hm, e⟩
    · exact absurd (by rw [e2, hx]) e
theorem set_other {i : Nat} {l x : Ln} {c : Nat} (w : SetW s k ls) (hi : ls[i]? = some l) (hx : x.b = l.b) (hc : c ≠ l.b) : lnOf c (ls.set i x) = lnOf c ls := by
  have w' := set_w w hi hx
  cases q : lnOf c ls with
  | none =>
    refine lnOf_no fun l' hm => ?_
    rcases set_mem w hi hx hm with e | ⟨hm, _⟩
    · rw [e, hx]
      exact Ne.symm hc
    · exact lnOf_none q l' hm
  | some l' =>
    obtain ⟨g1, g2⟩ := lnOf_mem q
    refine lnOf_iff w'.nd ?_ g2
    obtain ⟨j, hj, ej⟩ := List.mem_iff_getElem.mp g1
    have : i ≠ j := fun z => by
      subst z
      rw [List.getElem?_eq_getElem hj, ej] at hi
      cases hi
      exact hc g2.symm
    exact List.mem_of_getElem? (i := j) (by rw [List.getElem?_set_ne this, List.getElem?_eq_getElem hj, ej])
/-- a line of block b gets other numbers; what is behind agrees with it unless it is dirty -/
theorem set_sem {i : Nat} {l x : Ln} {t' : Ta} (w : SetW s k ls) (hi : ls[i]? = some l) (hx : x.b = l.b) (hc : Cln ls (eff t)) (hw' : TaW t') (he : ∀ c, c ≠ l.b → eff t' c = eff t c) (hcx : x.d = false → x.ns = eff t' l.b) :
    SetW s k (ls.set i x) ∧ Cln (ls.set i x) (eff t') ∧ (∀ c, effS (ls.set i x) (eff t') c = if c = l.b then x.ns else effS ls (eff t) c) := by
  have w' := set_w w hi hx
  have hlt : i < ls.length := (List.getElem?_eq_some_iff.mp hi).1
  have hxm : x ∈ ls.set i x := List.mem_of_getElem? (List.getElem?_set_self hlt)
  refine ⟨w', fun l' hm hd => ?_, fun c => ?_⟩
  · rcases set_mem w hi hx hm with e | ⟨hm, hne⟩
    · rw [e, hx]
      exact hcx (by rw [← e]; exact hd)
    · rw [he _ hne]
      exact hc l' hm hd
  · by_cases ec : c = l.b
    · rw [if_pos ec, ec, ← hx]
      exact effS_mem w' hxm _
    · rw [if_neg ec]
      exact effS_same (set_other w hi hx ec) fun _ => he c ec
theorem change_sem (O : OpsC n o) (Ok : OpsOk n (gOf n) o) (hu : RuOk u) (w : SetW s k ls) (hl : LsOk u ls) (hc : Cln ls (eff t)) (h : TaOk n t) (hw : TaW t) {p : Nat} (hp : p < 64) (hbk : (p / 4) % s = k) (v : Int) (hdt : u.bk = false → ∀ l ∈ ls, l.d = false) :
    Sem s k ls t (changeL o u ls t p v).1 (changeL o u ls t p v).2 (p / 4) (fun x => x.set (p % 4) v) ∧ (u.bk = false → ∀ l ∈ (changeL o u ls t p v).1, l.d = false) := by
  have hb : p / 4 < 16 := by omega
  unfold changeL
  split
  · rename_i hin
    obtain ⟨q1, q2⟩ := passC_eff (tl := u.tl) (v := v) O h hw hp
    have hno := fnd_none hin.2
    refine ⟨⟨w, fun l hm hd => ?_, q1, fun c hcs => ?_, fun c hcs => ?_, fun l' hm => .inr ⟨l', hm, rfl, fun z => z⟩⟩, hdt⟩
    · rw [q2, if_neg (hno l hm)]
      exact hc l hm hd
    · rw [q2, if_neg]
      intro e
      rw [e] at hcs
      exact hcs hbk
    · by_cases ec : c = p / 4
      · rw [if_pos ec, ec, effS_no hno, effS_no hno, q2, if_pos rfl]
      · rw [if_neg ec]
        exact effS_same rfl fun _ => by rw [q2, if_neg ec]
  · obtain ⟨S, hdirt, hat⟩ := reach_sem O Ok hu w hl hc h hw hb hbk
    obtain ⟨r1, r2, ⟨l, hlg, hlb, hlo⟩, r4⟩ := reachL_ok Ok hu hl h hb
    obtain ⟨_, hlns⟩ := hat l hlg
    rw [lnAt_get hlg]
    generalize reachL o u ls t (p / 4) = rr at *
    have hx : (setCell u.bk l p v).b = l.b := rfl
    have ef0 : ∀ c, c % s = k → effS rr.1 (eff rr.2.1) c = effS ls (eff t) c := fun c hcs => by
      rw [S.ef c hcs]
      split
      · rename_i q
        rw [q]
      · rfl
    have hdl : u.bk = false → l.d = false := fun hb' => by
      cases hd : l.d with
      | false => rfl
      | true =>
        obtain ⟨l0, g1, _, g3⟩ := hdirt l (List.mem_of_getElem? hlg) hd
        rw [hdt hb' l0 g1] at g3
        cases g3
    have fin : ∀ t' : Ta, TaW t' → (∀ c, c ≠ l.b → eff t' c = eff rr.2.1 c) → ((setCell u.bk l p v).d = false → (setCell u.bk l p v).ns = eff t' l.b) →
        Sem s k ls t (rr.1.set rr.2.2 (setCell u.bk l p v)) t' (p / 4) (fun x => x.set (p % 4) v) ∧ (u.bk = false → ∀ l' ∈ rr.1.set rr.2.2 (setCell u.bk l p v), l'.d = false) := by
      intro t' hw' he hcx
      obtain ⟨s1, s2, s3⟩ := set_sem S.w hlg hx S.cln hw' he hcx
      refine ⟨⟨s1, s2, hw', fun c hcs => ?_, fun c hcs => ?_, fun l' hm => ?_⟩, fun hb' l' hm => ?_⟩
      · rw [he c, S.out c hcs]
        intro e
        rw [e, hlb] at hcs
        exact hcs hbk
      · rw [s3 c, hlb]
        by_cases ec : c = p / 4
        · rw [if_pos ec, if_pos ec]
          show l.ns.set (p % 4) v = _
          rw [hlns]
        · rw [if_neg ec, if_neg ec]
          exact ef0 c hcs
      · rcases set_mem S.w hlg hx hm with e | ⟨hm, hne⟩
        · rw [e]
          exact .inl hlb
        · exact S.dom l' hm
      · rcases set_mem S.w hlg hx hm with e | ⟨hm, hne⟩
        · rw [e]
          show (u.bk || l.d) = false
          rw [hb', hdl hb']
          rfl
        · cases hd : l'.d with
          | false => rfl
          | true =>
            obtain ⟨l0, g1, _, g3⟩ := hdirt l' hm hd
            rw [hdt hb' l0 g1] at g3
            cases g3
    dsimp only
    split
    · rename_i hbk1
      refine fin _ S.tw (fun _ _ => rfl) fun hd => ?_
      have hd : (u.bk || l.d) = false := hd
      rw [hbk1] at hd
      cases hd
    · rename_i hbk1
      have hbf : u.bk = false := by simpa using hbk1
      obtain ⟨q1, q2⟩ := passC_eff (tl := u.tl) (v := v) O r2 S.tw hp
      refine fin _ q1 (fun c hne => ?_) fun _ => ?_
      · rw [q2, if_neg (by rw [← hlb]; exact hne)]
      · show l.ns.set (p % 4) v = _
        rw [q2, if_pos hlb]
        congr 1
        exact S.cln l (List.mem_of_getElem? hlg) (hdl hbf)
theorem home_sem (O : OpsC n o) (Ok : OpsOk n (gOf n) o) (hu : RuOk u) (w : SetW s k ls) (hl : LsOk u ls) (hc : Cln ls (eff t)) (h : TaOk n t) (hw : TaW t) {b : Nat} (hb : b < 16) (hbk : b % s = k) {ns : List Int} (hn : ns.length = 4) (hdt : u.bk = false → ∀ l ∈ ls, l.d = false) :
    Sem s k ls t (homeL o u ls t b ns).1 (homeL o u ls t b ns).2 b (fun _ => ns) ∧ (u.bk = false → ∀ l ∈ (homeL o u ls t b ns).1, l.d = false) := by
  unfold homeL
  cases e : fnd b ls with
  | none =>
    have hno := fnd_none e
    dsimp only
    split
    · obtain ⟨m1, m2, m3, m4, m5, m6⟩ := mkWay_sem (u := u) O w hl hc h hw
      obtain ⟨k1, k2, k3, k4⟩ := mkWay_ok Ok hu hl h
      have hno2 : ∀ l ∈ (mkWay o u ls t).1, l.b ≠ b := fun l hq => hno l (m6 l hq)
      generalize mkWay o u ls t = mw at *
      have w' : SetW s k (mw.1 ++ [⟨b, ns, u.bk⟩]) := by
        refine ⟨?_, fun l hq => ?_⟩
        · rw [List.map_append]
          refine List.nodup_append.mpr ⟨m1.nd, by simp, fun x hx y hy => ?_⟩
          obtain ⟨l, hq, rfl⟩ := List.mem_map.mp hx
          have : y = b := by simpa using hy
          rw [this]
          exact hno2 l hq
        · rcases List.mem_append.mp hq with hq | hq
          · exact m1.ix l hq
          · rw [List.mem_singleton.mp hq]
            exact hbk
      have fin : ∀ t' : Ta, TaW t' → (∀ c, c ≠ b → eff t' c = eff mw.2 c) → (u.bk = false → ns = eff t' b) →
          Sem s k ls t (mw.1 ++ [⟨b, ns, u.bk⟩]) t' b (fun _ => ns) ∧ (u.bk = false → ∀ l ∈ mw.1 ++ [⟨b, ns, u.bk⟩], l.d = false) := by
        intro t' hw' he hcx
        refine ⟨⟨w', fun l hq hd => ?_, hw', fun c hcs => ?_, fun c hcs => ?_, fun l' hq => ?_⟩, fun hb' l hq => ?_⟩
        · rcases List.mem_append.mp hq with hq | hq
          · rw [he _ (hno2 l hq)]
            exact m2 l hq hd
          · rw [List.mem_singleton.mp hq] at hd ⊢
            exact hcx hd
        · rw [he c, m4 c hcs]
          intro z
          rw [z] at hcs
          exact hcs hbk
        · by_cases ec : c = b
          · rw [if_pos ec, ec]
            exact effS_mem w' (l := ⟨b, ns, u.bk⟩) (by simp) _
          · rw [if_neg ec, ← m5 c]
            refine effS_same ?_ fun _ => he c ec
            cases q : lnOf c mw.1 with
            | none =>
              refine lnOf_no fun l hq => ?_
              rcases List.mem_append.mp hq with hq | hq
              · exact lnOf_none q l hq
              · rw [List.mem_singleton.mp hq]
                exact Ne.symm ec
            | some l =>
              obtain ⟨g1, g2⟩ := lnOf_mem q
              exact lnOf_iff w'.nd (List.mem_append_left _ g1) g2
        · rcases List.mem_append.mp hq with hq | hq
          · exact .inr ⟨l', m6 l' hq, rfl, fun z => z⟩
          · rw [List.mem_singleton.mp hq]
            exact .inl rfl
        · rcases List.mem_append.mp hq with hq | hq
          · exact hdt hb' l (m6 l hq)
          · rw [List.mem_singleton.mp hq]
            exact hb'
      split
      · rename_i hbk1
        exact fin _ m3 (fun _ _ => rfl) fun z => by rw [hbk1] at z; cases z
      · obtain ⟨q1, q2⟩ := passH_eff (tl := u.tl) O k2 m3 hb hn
        exact fin _ q1 (fun c hne => by rw [q2, if_neg hne]) fun _ => by rw [q2, if_pos rfl]
    · obtain ⟨q1, q2⟩ := passH_eff (tl := u.tl) O h hw hb hn
      refine ⟨⟨w, fun l hm hd => ?_, q1, fun c hcs => ?_, fun c hcs => ?_, fun l' hm => .inr ⟨l', hm, rfl, fun z => z⟩⟩, hdt⟩
      · rw [q2, if_neg (hno l hm)]
        exact hc l hm hd
      · rw [q2, if_neg]
        intro z
        rw [z] at hcs
        exact hcs hbk
      · by_cases ec : c = b
        · rw [if_pos ec, ec, effS_no hno, q2, if_pos rfl]
        · rw [if_neg ec]
          exact effS_same rfl fun _ => by rw [q2, if_neg ec]
  | some i =>
    have hi := fnd_lt e
    obtain ⟨l, g1, g2, _⟩ := fnd_some e
    have p : (touchL u.lt ls i).Perm ls := touch_perm hi
    have hm := fun l (q : l ∈ touchL u.lt ls i) => p.mem_iff.mp q
    have w1 := w.perm p
    have hlg : (touchL u.lt ls i)[touchI u.lt ls i]? = some l := (touch_get hi).trans g1
    have hc1 : Cln (touchL u.lt ls i) (eff t) := fun l' q => hc l' (hm l' q)
    have hx : (⟨b, ns, u.bk⟩ : Ln).b = l.b := g2.symm
    dsimp only
    have fin : ∀ t' : Ta, TaW t' → (∀ c, c ≠ b → eff t' c = eff t c) → (u.bk = false → ns = eff t' b) →
        Sem s k ls t ((touchL u.lt ls i).set (touchI u.lt ls i) ⟨b, ns, u.bk⟩) t' b (fun _ => ns) ∧ (u.bk = false → ∀ l' ∈ (touchL u.lt ls i).set (touchI u.lt ls i) ⟨b, ns, u.bk⟩, l'.d = false) := by
      intro t' hw' he hcx
      obtain ⟨s1, s2, s3⟩ := set_sem (x := ⟨b, ns, u.bk⟩) w1 hlg hx hc1 hw' (fun c hne => he c (by rw [← g2]; exact hne)) (fun hd => by rw [g2]; exact hcx hd)
      refine ⟨⟨s1, s2, hw', fun c hcs => he c ?_, fun c hcs => ?_, fun l' hq => ?_⟩, fun hb' l' hq => ?_⟩
      · intro z
        rw [z] at hcs
        exact hcs hbk
      · rw [s3 c, g2]
        by_cases ec : c = b
        · rw [if_pos ec, if_pos ec]
        · rw [if_neg ec, if_neg ec]
          exact effS_same (lnOf_perm w p c) fun _ => rfl
      · rcases set_mem w1 hlg hx hq with z | ⟨hq, hne⟩
        · rw [z]
          exact .inl rfl
        · exact .inr ⟨l', hm l' hq, rfl, fun z => z⟩
      · rcases set_mem w1 hlg hx hq with z | ⟨hq, hne⟩
        · rw [z]
          exact hb'
        · exact hdt hb' l' (hm l' hq)
    split
    · rename_i hbk1
      exact fin _ hw (fun _ _ => rfl) fun z => by rw [hbk1] at z; cases z
    · obtain ⟨q1, q2⟩ := passH_eff (tl := u.tl) O h hw hb hn
      exact fin _ q1 (fun c hne => by rw [q2, if_neg hne]) fun _ => by rw [q2, if_pos rfl]
end
-- WwCoh2
/-! ### from one set to the room and what is behind -/
/-- a room over what is behind it -/
structure RW (r : Rm) (t : Ta) : Prop where
  w : RmW r
  c : ∀ ls ∈ r.ss, Cln ls (eff t) ∧ (r.ru.bk = false → ∀ l ∈ ls, l.d = false)
  t : TaW t
abbrev effR (r : Rm) (t : Ta) (c : Nat) : List Int := effS (r.ls c) (eff t) c
abbrev lookR (r : Rm) (c : Nat) : Option Ln := lnOf c (r.ls c)
theorem ls_put_if {r : Rm} (h : 0 < r.ss.length) (b c : Nat) (ls : List Ln) : (r.put b ls).ls c = if r.ix c = r.ix b then ls else r.ls c := by
  split
  · rename_i e
    have : (r.put b ls).ls c = (r.put b ls).ls b := by
      unfold Rm.ls
      rw [put_ix, put_ix, e]
    rw [this, ls_put h]
  · rename_i e
    exact ls_put_ne e
theorem ls_same {r : Rm} {b c : Nat} (h : r.ix c = r.ix b) : r.ls c = r.ls b := by
  unfold Rm.ls
  rw [h]
theorem RW.set {r : Rm} {t : Ta} (h : RW r t) (h0 : 0 < r.ss.length) (b : Nat) : SetW r.ss.length (r.ix b) (r.ls b) ∧ Cln (r.ls b) (eff t) ∧ (r.ru.bk = false → ∀ l ∈ r.ls b, l.d = false) :=
  ⟨h.w _ _ (ls_get h0 b), (h.c _ (ls_mem h0 b)).1, (h.c _ (ls_mem h0 b)).2⟩
theorem RW.step {r : Rm} {t t' : Ta} {ls' : List Ln} {b : Nat} {f : List Int → List Int} (h : RW r t) (h0 : 0 < r.ss.length) (S : Sem r.ss.length (r.ix b) (r.ls b) t ls' t' b f) (hd : r.ru.bk = false → ∀ l ∈ ls', l.d = false) :
    RW (r.put b ls') t' ∧ ∀ c, effR (r.put b ls') t' c = if c = b then f (effR r t b) else effR r t c := by
  refine ⟨⟨fun k ls hk => ?_, fun ls hm => ?_, S.tw⟩, fun c => ?_⟩
  · rw [put_len]
    by_cases e : r.ix b = k
    · subst e
      have hk : (r.ss.set (r.ix b) ls')[r.ix b]? = some ls := hk
      rw [List.getElem?_set_self (ix_lt h0 b)] at hk
      cases hk
      exact S.w
    · have hk : (r.ss.set (r.ix b) ls')[k]? = some ls := hk
      rw [List.getElem?_set_ne e] at hk
      exact h.w k ls hk
  · obtain ⟨k, hk, ek⟩ := List.mem_iff_getElem.mp hm
    have hg : (r.ss.set (r.ix b) ls')[k]? = some ls := by
      show (r.put b ls').ss[k]? = some ls
      rw [List.getElem?_eq_getElem hk, ek]
    by_cases e : r.ix b = k
    · subst e
      rw [List.getElem?_set_self (ix_lt h0 b)] at hg
      cases hg
      exact ⟨S.cln, hd⟩
    · rw [List.getElem?_set_ne e] at hg
      have hmo := List.mem_of_getElem? hg
      obtain ⟨c1, c2⟩ := h.c ls hmo
      refine ⟨fun l hl hdl => ?_, c2⟩
      rw [S.out l.b]
      · exact c1 l hl hdl
      · rw [(h.w k ls hg).ix l hl]
        exact Ne.symm e
  · show effS ((r.put b ls').ls c) (eff t') c = _
    rw [ls_put_if h0]
    by_cases e : r.ix c = r.ix b
    · rw [if_pos e, S.ef c e]
      show _ = if c = b then f (effS (r.ls b) (eff t) b) else effS (r.ls c) (eff t) c
      rw [ls_same e]
    · rw [if_neg e]
      have ec : c ≠ b := fun z => e (by rw [z])
      rw [if_neg ec]
      exact effS_same rfl fun _ => S.out c e
theorem RW.cons {r : Rm} {t : Ta} (h : RW r t) : TaW (Ta.cons r t) := ⟨h.w, h.c, h.t⟩
theorem eff_cons (r : Rm) (t : Ta) (c : Nat) : eff (Ta.cons r t) c = effR r t c := rfl
theorem blk_get {far : List Int} (hf : far.length = 64) {b : Nat} (hb : b < 16) {ns : List Int} (hn : ns.length = 4) (c : Nat) : getBlk (setBlk far b ns) c = if c = b then ns else getBlk far c := by
  unfold getBlk setBlk
  have h1 : (far.take (b * 4)).length = b * 4 := by rw [List.length_take]; omega
  apply List.ext_getElem?
  intro i
  by_cases hi : i < 4
  · rw [List.getElem?_take_of_lt hi, List.getElem?_drop]
    by_cases ec : c = b
    · subst ec
      rw [if_pos rfl, List.append_assoc, List.getElem?_append_right (by omega), h1, List.getElem?_append_left (by omega)]
      congr 1
      omega
    · rw [if_neg ec, List.getElem?_take_of_lt hi, List.getElem?_drop]
      by_cases hl : c < b
      · rw [List.append_assoc, List.getElem?_append_left (by omega), List.getElem?_take_of_lt (by omega)]
      · rw [List.getElem?_append_right (by rw [List.length_append]; omega), List.length_append, h1, hn, List.getElem?_drop]
        congr 1
        omega
  · rw [List.getElem?_eq_none (by rw [List.length_take]; omega)]
    split
    · rw [List.getElem?_eq_none (by omega)]
    · rw [List.getElem?_eq_none (by rw [List.length_take]; omega)]
theorem cell_get {far : List Int} (hf : far.length = 64) {p : Nat} (hp : p < 64) (v : Int) (c : Nat) : getBlk (far.set p v) c = if c = p / 4 then (getBlk far c).set (p % 4) v else getBlk far c := by
  unfold getBlk
  apply List.ext_getElem?
  intro i
  by_cases hi : i < 4
  · rw [List.getElem?_take_of_lt hi, List.getElem?_drop]
    by_cases ec : c = p / 4
    · rw [if_pos ec]
      by_cases ei : p % 4 = i
      · have e1 : c * 4 + i = p := by omega
        rw [e1, List.getElem?_set_self (by omega), ei, List.getElem?_set_self]
        rw [List.length_take, List.length_drop]
        omega
      · rw [List.getElem?_set_ne (by omega), List.getElem?_set_ne ei, List.getElem?_take_of_lt hi, List.getElem?_drop]
    · rw [if_neg ec, List.getElem?_take_of_lt hi, List.getElem?_drop, List.getElem?_set_ne (by omega)]
  · rw [List.getElem?_eq_none (by rw [List.length_take]; omega)]
    split
    · rw [List.getElem?_eq_none (by rw [List.length_set, List.length_take]; omega)]
    · rw [List.getElem?_eq_none (by rw [List.length_take]; omega)]
theorem TaW.uncons {t : Ta} {r : Rm} {rs : List Rm} (h : TaW t) (e : t.rs = r :: rs) : RW r { t with rs := rs } := by
  have h : ChW t.rs t.far := h
  rw [e] at h
  exact ⟨h.1, h.2.1, h.2.2⟩
theorem eff_uncons {t : Ta} {r : Rm} {rs : List Rm} (e : t.rs = r :: rs) (c : Nat) : eff t c = effR r { t with rs := rs } c := by
  show effC t.rs t.far c = _
  rw [e]
  rfl
theorem ops_c : ∀ n, OpsC n (ops n)
  | 0 => {
    hm := fun t b ns h hw hb hn => by
      have ers : t.rs = [] := List.length_eq_zero_iff.mp h.len
      refine ⟨?_, fun c => ?_⟩
      · show ChW t.rs _
        rw [ers]
        trivial
      · show effC t.rs (setBlk t.far b ns) c = if c = b then ns else effC t.rs t.far c
        rw [ers]
        exact blk_get h.far hb hn c
    br := fun t b h hw hb => by
      have ers : t.rs = [] := List.length_eq_zero_iff.mp h.len
      refine ⟨?_, hw, fun c => rfl⟩
      show getBlk t.far b = effC t.rs t.far b
      rw [ers]
      rfl
    ch := fun t p v h hw hp => by
      have ers : t.rs = [] := List.length_eq_zero_iff.mp h.len
      refine ⟨?_, fun c => ?_⟩
      · show ChW t.rs _
        rw [ers]
        trivial
      · show effC t.rs (t.far.set p v) c = if c = p / 4 then (effC t.rs t.far c).set (p % 4) v else effC t.rs t.far c
        rw [ers]
        exact cell_get h.far hp v c }
  | n + 1 => {
    hm := fun t b ns h hw hb hn => by
      obtain ⟨r, rs, e, hr, ht⟩ := h.uncons
      have R := hw.uncons e
      obtain ⟨s1, s2, s3⟩ := R.set hr.s0 b
      obtain ⟨S, sd⟩ := home_sem (ops_c n) (ops_ok n) hr.ru s1 (hr.ls b) s2 ht R.t hb rfl hn s3
      obtain ⟨R', he⟩ := R.step hr.s0 S sd
      have eo : (ops (n + 1)).hm t b ns = Ta.cons (r.put b (homeL (ops n) r.ru (r.ls b) { t with rs := rs } b ns).1) (homeL (ops n) r.ru (r.ls b) { t with rs := rs } b ns).2 := by
        show (match t.rs with | [] => t | r :: rs => _) = _
        rw [e]
      rw [eo]
      refine ⟨R'.cons, fun c => ?_⟩
      rw [eff_cons, he c, eff_uncons e c]
    br := fun t b h hw hb => by
      obtain ⟨r, rs, e, hr, ht⟩ := h.uncons
      have R := hw.uncons e
      obtain ⟨s1, s2, s3⟩ := R.set hr.s0 b
      obtain ⟨S, hdirt, hat⟩ := reach_sem (ops_c n) (ops_ok n) hr.ru s1 (hr.ls b) s2 ht R.t hb rfl
      obtain ⟨_, _, ⟨l, hlg, hlb, hlo⟩, _⟩ := reachL_ok (ops_ok n) hr.ru (hr.ls b) ht hb
      obtain ⟨_, hns⟩ := hat l hlg
      obtain ⟨R', he⟩ := R.step hr.s0 S fun hbk l' hm => by
        cases hd : l'.d with
        | false => rfl
        | true =>
          obtain ⟨l0, g1, _, g3⟩ := hdirt l' hm hd
          rw [s3 hbk l0 g1] at g3
          cases g3
      have eo : (ops (n + 1)).br t b = ((bringL (ops n) r.ru (r.ls b) { t with rs := rs } b).1, Ta.cons (r.put b (bringL (ops n) r.ru (r.ls b) { t with rs := rs } b).2.1) (bringL (ops n) r.ru (r.ls b) { t with rs := rs } b).2.2) := by
        show (match t.rs with | [] => ([], t) | r :: rs => _) = _
        rw [e]
      rw [eo]
      refine ⟨?_, R'.cons, fun c => ?_⟩
      · rw [eff_uncons e b]
        show (lnAt _ _).ns = _
        rw [lnAt_get hlg]
        exact hns
      · rw [eff_uncons e c]
        refine (he c).trans ?_
        split
        · rename_i z
          rw [z]
        · rfl
    ch := fun t p v h hw hp => by
      obtain ⟨r, rs, e, hr, ht⟩ := h.uncons
      have R := hw.uncons e
      obtain ⟨s1, s2, s3⟩ := R.set hr.s0 (p / 4)
      obtain ⟨S, sd⟩ := change_sem (ops_c n) (ops_ok n) hr.ru s1 (hr.ls (p / 4)) s2 ht R.t hp rfl v s3
      obtain ⟨R', he⟩ := R.step hr.s0 S sd
      have eo : (ops (n + 1)).ch t p v = Ta.cons (r.put (p / 4) (changeL (ops n) r.ru (r.ls (p / 4)) { t with rs := rs } p v).1) (changeL (ops n) r.ru (r.ls (p / 4)) { t with rs := rs } p v).2 := by
        show (match t.rs with | [] => t | r :: rs => _) = _
        rw [e]
      rw [eo]
      refine ⟨R'.cons, fun c => ?_⟩
      rw [eff_cons, he c, eff_uncons e c]
      split
      · rename_i z
        rw [z]
      · rfl }
-- WwCoh3
/-! ### halls: what the hands' rooms tell -/
section
variable {n : Nat} {o : Ops} {u : Ru} {s k : Nat} {ls : List Ln} {t : Ta}
theorem lnOf_erase (w : SetW s k ls) {i : Nat} {l : Ln} (hl : ls[i]? = some l) (c : Nat) : lnOf c (ls.eraseIdx i) = if c = l.b then none else lnOf c ls := by
  obtain ⟨hi, e⟩ := List.getElem?_eq_some_iff.mp hl
  have p := perm_erase hi
  rw [e] at p
  have w2 := w.perm p
  split
  · rename_i z
    subst z
    exact lnOf_no w2.head
  · rename_i z
    rw [← lnOf_perm w p c]
    show _ = if l.b = c then some l else lnOf c (ls.eraseIdx i)
    rw [if_neg (Ne.symm z)]
theorem lnOf_set : ∀ {ls : List Ln} {i : Nat} {l l2 : Ln}, ls[i]? = some l → l2.b = l.b → (ls.map (·.b)).Nodup → ∀ c, lnOf c (ls.set i l2) = if c = l.b then some l2 else lnOf c ls
  | [], i, l, l2, h, _, _, c => by simp at h
  | a :: r, 0, l, l2, h, e, hn, c => by
    have : a = l := by simpa using h
    subst this
    show (if l2.b = c then some l2 else lnOf c r) = if c = a.b then some l2 else if a.b = c then some a else lnOf c r
    rw [e]
    by_cases z : a.b = c
    · rw [if_pos z, if_pos z.symm]
    · rw [if_neg z, if_neg (Ne.symm z), if_neg z]
  | a :: r, i + 1, l, l2, h, e, hn, c => by
    rw [List.map_cons] at hn
    obtain ⟨h1, h2⟩ := List.nodup_cons.mp hn
    have hl : r[i]? = some l := by simpa using h
    have ih := lnOf_set hl e h2 c
    show (if a.b = c then some a else lnOf c (r.set i l2)) = if c = l.b then some l2 else if a.b = c then some a else lnOf c r
    rw [ih]
    by_cases z : a.b = c
    · have : c ≠ l.b := fun q => h1 (List.mem_map.mpr ⟨l, List.mem_of_getElem? hl, by rw [← q, z]⟩)
      rw [if_pos z, if_neg this, if_pos z]
    · rw [if_neg z, if_neg z]
theorem set_map_b {ls : List Ln} {i : Nat} {l l2 : Ln} (h : ls[i]? = some l) (e : l2.b = l.b) : (ls.set i l2).map (·.b) = ls.map (·.b) := by
  rw [List.map_set]
  apply List.ext_getElem?
  intro j
  by_cases z : i = j
  · subst z
    have hi := (List.getElem?_eq_some_iff.mp h).1
    rw [List.getElem?_set_self (by simpa using hi), List.getElem?_map, h, e]
    rfl
  · rw [List.getElem?_set_ne z]
theorem yield_sem (O : OpsC n o) (w : SetW s k ls) (hl : LsOk u ls) (hc : Cln ls (eff t)) (h : TaOk n t) (hw : TaW t) {b : Nat} (hb : b < 16) (gone : Bool) :
    Sem s k ls t (yieldL o u ls t b gone).1 (yieldL o u ls t b gone).2 b (fun x => x) ∧ (∀ l' ∈ (yieldL o u ls t b gone).1, l'.d = true → l'.b ≠ b ∧ l' ∈ ls) ∧ (gone = true → ∀ l' ∈ (yieldL o u ls t b gone).1, l'.b ≠ b) := by
  unfold yieldL
  cases e : fnd b ls with
  | none =>
    have hno := fnd_none e
    refine ⟨⟨w, hc, hw, fun _ _ => rfl, fun c _ => ?_, fun l hm => .inr ⟨l, hm, rfl, fun z => z⟩⟩, fun l hm _ => ⟨hno l hm, hm⟩, fun _ l hm => hno l hm⟩
    show effS ls (eff t) c = _
    split
    · rename_i z
      rw [z]
    · rfl
  | some i =>
    obtain ⟨l, hlg, hlb, _⟩ := fnd_some e
    have hlm := List.mem_of_getElem? hlg
    have hlo := hl.ok l hlm
    dsimp only
    rw [lnAt_get hlg]
    -- what is behind afterwards
    have hef : TaW (if l.d = true then passH o u.tl t b l.ns else t) ∧ ∀ c, eff (if l.d = true then passH o u.tl t b l.ns else t) c = if c = b then l.ns else eff t c := by
      split
      · exact passH_eff (tl := u.tl) O h hw hb hlo.ns
      · rename_i hd
        refine ⟨hw, fun c => ?_⟩
        split
        · rename_i z
          rw [z, ← hlb]
          exact (hc l hlm (by simpa using hd)).symm
        · rfl
    generalize (if l.d = true then passH o u.tl t b l.ns else t) = t' at hef ⊢
    obtain ⟨hw', he⟩ := hef
    have hout : ∀ c, c % s ≠ k → eff t' c = eff t c := fun c hcs => by
      rw [he, if_neg]
      intro z
      apply hcs
      rw [z, ← hlb]
      exact w.ix l hlm
    have heb : effS ls (eff t) b = l.ns := by
      rw [← hlb]
      exact effS_mem w hlm _
    cases gone with
    | true =>
      have hmem : ∀ l' ∈ ls.eraseIdx i, l' ∈ ls ∧ l'.b ≠ b := fun l' hm => by
        have hi := (List.getElem?_eq_some_iff.mp hlg)
        obtain ⟨hi, ei⟩ := hi
        have p := perm_erase hi
        rw [ei] at p
        exact ⟨p.mem_iff.mp (List.mem_cons_of_mem _ hm), by rw [← hlb]; exact (w.perm p).head l' hm⟩
      refine ⟨⟨⟨?_, fun l' hm => w.ix l' (hmem l' hm).1⟩, fun l' hm hd => ?_, hw', hout, fun c hcs => ?_, fun l' hm => .inr ⟨l', (hmem l' hm).1, rfl, fun z => z⟩⟩, fun l' hm _ => ⟨(hmem l' hm).2, (hmem l' hm).1⟩, fun _ l' hm => (hmem l' hm).2⟩
      · have hi := (List.getElem?_eq_some_iff.mp hlg)
        obtain ⟨hi, ei⟩ := hi
        have p := perm_erase hi
        rw [ei] at p
        exact (w.perm p).tail.nd
      · show l'.ns = eff t' l'.b
        rw [he, if_neg (hmem l' hm).2]
        exact hc l' (hmem l' hm).1 hd
      · show effS (ls.eraseIdx i) (eff t') c = _
        unfold effS
        rw [lnOf_erase w hlg c, hlb]
        by_cases z : c = b
        · rw [if_pos z, if_pos z]
          show eff t' c = _
          rw [he, if_pos z]
          exact heb.symm
        · rw [if_neg z, if_neg z, he, if_neg z]
    | false =>
      have hmem : ∀ l' ∈ ls.set i { l with d := false }, l' ∈ ls ∧ l'.b ≠ b ∨ l' = { l with d := false } := fun l' hm => by
        by_cases z : l'.b = b
        · right
          have w2 : SetW s k (ls.set i { l with d := false }) := ⟨by rw [set_map_b (l2 := { l with d := false }) hlg rfl]; exact w.nd, fun q hq => by
            rcases List.mem_or_eq_of_mem_set hq with hq | eq
            · exact w.ix q hq
            · rw [eq]
              exact w.ix l hlm⟩
          have h1 := lnOf_iff w2.nd hm z
          rw [lnOf_set (l2 := { l with d := false }) hlg rfl w.nd, if_pos hlb.symm] at h1
          exact (Option.some.inj h1).symm
        · rcases List.mem_or_eq_of_mem_set hm with hm | eq
          · exact .inl ⟨hm, z⟩
          · exact .inr eq
      refine ⟨⟨⟨?_, fun l' hm => ?_⟩, fun l' hm hd => ?_, hw', hout, fun c hcs => ?_, fun l' hm => ?_⟩, fun l' hm hd => ?_, fun z => by cases z⟩
      · show ((ls.set i { l with d := false }).map (·.b)).Nodup
        rw [set_map_b (l2 := { l with d := false }) hlg rfl]
        exact w.nd
      · rcases hmem l' hm with ⟨hm, _⟩ | eq
        · exact w.ix l' hm
        · rw [eq]
          exact w.ix l hlm
      · show l'.ns = eff t' l'.b
        rcases hmem l' hm with ⟨hm, hne⟩ | eq
        · rw [he, if_neg hne]
          exact hc l' hm hd
        · rw [eq, he, if_pos hlb]
      · show effS (ls.set i { l with d := false }) (eff t') c = _
        unfold effS
        rw [lnOf_set (l2 := { l with d := false }) hlg rfl w.nd c, hlb]
        by_cases z : c = b
        · rw [if_pos z, if_pos z]
          exact heb.symm
        · rw [if_neg z, if_neg z, he, if_neg z]
      · rcases hmem l' hm with ⟨hm, hne⟩ | eq
        · exact .inr ⟨l', hm, rfl, fun z => z⟩
        · left
          rw [eq]
          exact hlb
      · rcases hmem l' hm with ⟨hm, hne⟩ | eq
        · exact ⟨hne, hm⟩
        · rw [eq] at hd
          cases hd
end
def InR (l : Ln) (r : Rm) : Prop := ∃ ls ∈ r.ss, l ∈ ls
structure HCoh (ha : Ha) (pl : Nat → List Int) : Prop where
  w : ∀ r ∈ ha.own, RmW r
  th : ∀ r ∈ ha.own, r.ru.bk = false → ∀ l, InR l r → l.d = false
  t : TaW ha.t
  pn : ∀ r ∈ ha.own, ∀ l, InR l r → l.ns = pl l.b
  one : ∀ (i j : Nat) (r q : Rm), i ≠ j → ha.own[i]? = some r → ha.own[j]? = some q → ∀ l m, InR l r → InR m q → l.d = true → l.b ≠ m.b
  ef : ∀ c, (∀ r ∈ ha.own, ∀ l, InR l r → l.b = c → l.d = false) → eff ha.t c = pl c
theorem InR.ls {l : Ln} {r : Rm} (h : InR l r) (w : RmW r) : l ∈ r.ls l.b := by
  obtain ⟨ls, hm, hl⟩ := h
  obtain ⟨k, hk, e⟩ := List.mem_iff_getElem.mp hm
  have hg : r.ss[k]? = some ls := by rw [List.getElem?_eq_getElem hk, e]
  have := (w k ls hg).ix l hl
  unfold Rm.ls Rm.ix
  rw [this, List.getD_eq_getElem?_getD, hg]
  exact hl
theorem InR.of {l : Ln} {r : Rm} {b : Nat} (h0 : 0 < r.ss.length) (h : l ∈ r.ls b) : InR l r := ⟨_, ls_mem h0 b, h⟩
theorem InR.uniq {l m : Ln} {r : Rm} (h0 : 0 < r.ss.length) (w : RmW r) (hl : InR l r) (hm : InR m r) (e : l.b = m.b) : l = m := by
  have h1 := hl.ls w
  have h2 := hm.ls w
  rw [← e] at h2
  have W := w _ _ (ls_get h0 l.b)
  have e1 := lnOf_iff W.nd h1 rfl
  have e2 := lnOf_iff W.nd h2 e.symm
  rw [e1] at e2
  exact Option.some.inj e2
theorem InR.put {l : Ln} {r : Rm} {b : Nat} {ls : List Ln} (h : InR l (r.put b ls)) : l ∈ ls ∨ InR l r := by
  obtain ⟨ls', hm, hl⟩ := h
  rcases List.mem_or_eq_of_mem_set hm with hm | e
  · exact .inr ⟨ls', hm, hl⟩
  · rw [e] at hl
    exact .inl hl
theorem InR.put_of {l : Ln} {r : Rm} {b : Nat} {ls : List Ln} (h0 : 0 < r.ss.length) (h : l ∈ ls) : InR l (r.put b ls) := ⟨_, List.mem_set (ix_lt h0 b) _, h⟩
section
variable {ha : Ha} {pl : Nat → List Int} {n m : Nat} {i : Nat} {r : Rm}
theorem HCoh.eff_of (h : HCoh ha pl) (e : ha.own[i]? = some r) (h0 : 0 < r.ss.length) {c : Nat} (A : ∀ (j : Nat) (q : Rm), j ≠ i → ha.own[j]? = some q → ∀ l, InR l q → l.b = c → l.d = false) : effR r ha.t c = pl c := by
  have hr := List.mem_of_getElem? e
  show effS (r.ls c) (eff ha.t) c = pl c
  cases q : lnOf c (r.ls c) with
  | some l =>
    obtain ⟨h1, h2⟩ := lnOf_mem q
    unfold effS
    rw [q, ← h2]
    exact h.pn r hr l (.of h0 h1)
  | none =>
    unfold effS
    rw [q]
    refine h.ef c fun q' hq' l hl hc => ?_
    obtain ⟨j, hj, ej⟩ := List.mem_iff_getElem.mp hq'
    have hg : ha.own[j]? = some q' := by rw [List.getElem?_eq_getElem hj, ej]
    by_cases z : j = i
    · subst z
      rw [e] at hg
      cases hg
      have := hl.ls (h.w r hr)
      rw [hc] at this
      exact absurd hc (lnOf_none q l this)
    · exact A j q' z hg l hl hc
theorem HCoh.rw (h : HCoh ha pl) (e : ha.own[i]? = some r) (h0 : 0 < r.ss.length) : RW r ha.t := by
  have hr := List.mem_of_getElem? e
  refine ⟨h.w r hr, fun ls hm => ⟨fun l hl hd => ?_, fun hb l hl => h.th r hr hb l ⟨ls, hm, hl⟩⟩, h.t⟩
  have hi : InR l r := ⟨ls, hm, hl⟩
  rw [h.pn r hr l hi]
  refine (h.ef l.b fun q' hq' l2 hl2 hc => ?_).symm
  obtain ⟨j, hj, ej⟩ := List.mem_iff_getElem.mp hq'
  have hg : ha.own[j]? = some q' := by rw [List.getElem?_eq_getElem hj, ej]
  by_cases z : j = i
  · subst z
    rw [e] at hg
    cases hg
    rw [hl2.uniq h0 (h.w r hr) hi hc]
    exact hd
  · cases q : l2.d with
    | false => rfl
    | true => exact absurd hc (h.one j i q' r z hg e l2 l hl2 hi q)
theorem HCoh.step (h : HCoh ha pl) (e : ha.own[i]? = some r) (h0 : 0 < r.ss.length) {b : Nat} {ls' : List Ln} {t' : Ta} {f : List Int → List Int}
    (S : Sem r.ss.length (r.ix b) (r.ls b) ha.t ls' t' b f) (hd : r.ru.bk = false → ∀ l ∈ ls', l.d = false)
    (A : ∀ (j : Nat) (q : Rm), j ≠ i → ha.own[j]? = some q → ∀ l, InR l q → l.b = b → l.d = false)
    (B : ((∀ x, f x = x) ∧ ∀ l' ∈ ls', l'.d = true → ∃ l ∈ r.ls b, l.b = l'.b ∧ l.d = true) ∨ ∀ (j : Nat) (q : Rm), j ≠ i → ha.own[j]? = some q → ∀ l, InR l q → l.b ≠ b) :
    HCoh ⟨ha.own.set i (r.put b ls'), t'⟩ (fun c => if c = b then f (pl b) else pl c) := by
  have hr := List.mem_of_getElem? e
  have hi := (List.getElem?_eq_some_iff.mp e).1
  obtain ⟨R', he⟩ := (h.rw e h0).step h0 S hd
  have h0' : 0 < (r.put b ls').ss.length := by
    rw [put_len]
    exact h0
  -- a line of the new room stood there before, or is b's
  have dom : ∀ l', InR l' (r.put b ls') → l'.b = b ∨ ∃ l, InR l r ∧ l.b = l'.b ∧ (l'.d = true → l.d = true) := fun l' hl' => by
    rcases hl'.put with hl' | hl'
    · rcases S.dom l' hl' with z | ⟨l, hl, h1, h2⟩
      · exact .inl z
      · exact .inr ⟨l, .of h0 hl, h1, h2⟩
    · exact .inr ⟨l', hl', rfl, fun z => z⟩
  have oth : ∀ j, j ≠ i → (ha.own.set i (r.put b ls'))[j]? = ha.own[j]? := fun j z => List.getElem?_set_ne (Ne.symm z)
  have mine : (ha.own.set i (r.put b ls'))[i]? = some (r.put b ls') := List.getElem?_set_self hi
  have memC : ∀ q ∈ ha.own.set i (r.put b ls'), q = r.put b ls' ∨ ∃ j, j ≠ i ∧ ha.own[j]? = some q := fun q hq => by
    obtain ⟨j, hj, ej⟩ := List.mem_iff_getElem.mp hq
    have hg : (ha.own.set i (r.put b ls'))[j]? = some q := by rw [List.getElem?_eq_getElem hj, ej]
    by_cases z : j = i
    · subst z
      rw [mine] at hg
      exact .inl (Option.some.inj hg).symm
    · rw [oth j z] at hg
      exact .inr ⟨j, z, hg⟩
  have eb : effR r ha.t b = pl b := h.eff_of e h0 A
  have pl' : ∀ l, InR l (r.put b ls') → l.ns = if l.b = b then f (pl b) else pl l.b := fun l hl => by
    have h1 : effR (r.put b ls') t' l.b = l.ns := effS_mem (R'.w _ _ (ls_get h0' l.b)) (hl.ls R'.w) _
    rw [he, eb] at h1
    rw [← h1]
    by_cases z : l.b = b
    · rw [if_pos z, if_pos z]
    · rw [if_neg z, if_neg z]
      refine h.eff_of e h0 fun j q zj hg l2 hl2 hc => ?_
      rcases dom l hl with z2 | ⟨l0, h3, h4, _⟩
      · exact absurd z2 z
      · cases q2 : l2.d with
        | false => rfl
        | true => exact absurd (hc.trans h4.symm) (h.one j i q r zj hg e l2 l0 hl2 h3 q2)
  refine ⟨fun q hq => ?_, fun q hq hb l hl => ?_, R'.t, fun q hq l hl => ?_, fun j1 j2 q1 q2 hne g1 g2 l l2 hl hl2 hdl => ?_, fun c hc => ?_⟩
  · rcases memC q hq with z | ⟨j, _, hg⟩
    · rw [z]
      exact R'.w
    · exact h.w q (List.mem_of_getElem? hg)
  · rcases memC q hq with z | ⟨j, _, hg⟩
    · rw [z] at hl hb
      obtain ⟨lsx, hm, hl⟩ := hl
      exact (R'.c lsx hm).2 hb l hl
    · exact h.th q (List.mem_of_getElem? hg) hb l hl
  · rcases memC q hq with z | ⟨j, zj, hg⟩
    · rw [z] at hl
      exact pl' l hl
    · show l.ns = if l.b = b then f (pl b) else pl l.b
      rw [h.pn q (List.mem_of_getElem? hg) l hl]
      split
      · rename_i z
        rcases B with ⟨hf, _⟩ | B
        · rw [hf, z]
        · exact absurd z (B j q zj hg l hl)
      · rfl
  · have g1 : (ha.own.set i (r.put b ls'))[j1]? = some q1 := g1
    have g2 : (ha.own.set i (r.put b ls'))[j2]? = some q2 := g2
    intro hbb
    by_cases z1 : j1 = i
    · have z2 : j2 ≠ i := fun z => hne (z1.trans z.symm)
      rw [z1, mine] at g1
      rw [oth j2 z2] at g2
      cases g1
      rcases hl.put with hl' | hl'
      · rcases B with ⟨_, hdirt⟩ | B
        · obtain ⟨l0, h3, h4, h5⟩ := hdirt l hl' hdl
          exact h.one i j2 r q2 (Ne.symm z2) e g2 l0 l2 (.of h0 h3) hl2 h5 (h4.trans hbb)
        · rcases S.dom l hl' with z | ⟨l0, h3, h4, h5⟩
          · exact B j2 q2 z2 g2 l2 hl2 (hbb.symm.trans z)
          · exact h.one i j2 r q2 (Ne.symm z2) e g2 l0 l2 (.of h0 h3) hl2 (h5 hdl) (h4.trans hbb)
      · exact h.one i j2 r q2 (Ne.symm z2) e g2 l l2 hl' hl2 hdl hbb
    · rw [oth j1 z1] at g1
      by_cases z2 : j2 = i
      · rw [z2, mine] at g2
        cases g2
        rcases dom l2 hl2 with z | ⟨l0, h3, h4, _⟩
        · have := A j1 q1 z1 g1 l hl (hbb.trans z)
          rw [this] at hdl
          cases hdl
        · exact h.one j1 i q1 r z1 g1 e l l0 hl h3 hdl (hbb.trans h4.symm)
      · rw [oth j2 z2] at g2
        exact h.one j1 j2 q1 q2 hne g1 g2 l l2 hl hl2 hdl hbb
  · show eff t' c = if c = b then f (pl b) else pl c
    have hc : ∀ q ∈ ha.own.set i (r.put b ls'), ∀ l, InR l q → l.b = c → l.d = false := hc
    cases q : lnOf c ((r.put b ls').ls c) with
    | some l =>
      obtain ⟨h1, h2⟩ := lnOf_mem q
      have hin : InR l (r.put b ls') := .of h0' h1
      have h3 := (R'.c _ (ls_mem h0' c)).1 l h1 (hc _ (List.mem_of_getElem? mine) l hin h2)
      rw [← h2, ← h3]
      exact pl' l hin
    | none =>
      have h1 : effR (r.put b ls') t' c = eff t' c := by
        show effS _ _ c = _
        unfold effS
        rw [q]
      rw [← h1, he, eb]
      split
      · rfl
      · refine h.eff_of e h0 fun j q' zj hg l hl hcl => ?_
        refine hc q' ?_ l hl hcl
        have : (ha.own.set i (r.put b ls'))[j]? = some q' := by
          rw [oth j zj]
          exact hg
        exact List.mem_of_getElem? this
theorem HCoh.id (h : HCoh ha (fun c => if c = i then pl i else pl c)) : HCoh ha pl := by
  have : (fun c => if c = i then pl i else pl c) = pl := by
    funext c
    split
    · rename_i z
      rw [z]
    · rfl
  rw [this] at h
  exact h
/-- a hand that is asked yields -/
theorem HCoh.yieldAt (h : HCoh ha pl) (hk : HaOk n m ha) {b : Nat} (hb : b < 16) (g : Bool) (i : Nat) : HCoh (yieldAt n ha b g i) pl ∧ (∀ j, j ≠ i → (Ww.yieldAt n ha b g i).own[j]? = ha.own[j]?) ∧ (∀ q, (Ww.yieldAt n ha b g i).own[i]? = some q → ∃ r, ha.own[i]? = some r ∧ (∀ l, InR l q → (l.b = b → l.d = false) ∧ (g = true → l.b ≠ b) ∧ ∃ l0, InR l0 r ∧ l0.b = l.b)) := by
  unfold Ww.yieldAt
  cases e : ha.own[i]? with
  | none => exact ⟨h, fun _ _ => rfl, fun q hq => by rw [show ha.own[i]? = none from e] at hq; cases hq⟩
  | some r =>
    have hr := hk.own r (List.mem_of_getElem? e)
    have R := h.rw e hr.s0
    obtain ⟨s1, s2, s3⟩ := R.set hr.s0 b
    obtain ⟨S, sd, sg⟩ := yield_sem (ops_c n) s1 (hr.ls b) s2 hk.t R.t hb g
    have hold : (∃ l, InR l r ∧ l.b = b) ∨ (yieldL (ops n) r.ru (r.ls b) ha.t b g) = (r.ls b, ha.t) := by
      cases q : fnd b (r.ls b) with
      | none =>
        right
        unfold yieldL
        rw [q]
      | some j =>
        obtain ⟨l, hl, hlb, _⟩ := fnd_some q
        exact .inl ⟨l, .of hr.s0 (List.mem_of_getElem? hl), hlb⟩
    have hi := (List.getElem?_eq_some_iff.mp e).1
    refine ⟨?_, fun j z => List.getElem?_set_ne (Ne.symm z), fun q hq => ?_⟩
    · rcases hold with ⟨l, hl, hlb⟩ | hid
      · refine HCoh.id (i := b) (h.step e hr.s0 S (fun hbk l' hl' => ?_) (fun j q z hg l2 hl2 hb2 => ?_) (.inl ⟨fun _ => rfl, fun l' hl' hd' => ⟨l', (sd l' hl' hd').2, rfl, hd'⟩⟩))
        · cases q : l'.d with
          | false => rfl
          | true =>
            have := s3 hbk l' (sd l' hl' q).2
            rw [this] at q
            cases q
        · cases q2 : l2.d with
          | false => rfl
          | true => exact absurd (hb2.trans hlb.symm) (h.one j i q r z hg e l2 l hl2 hl q2)
      · show HCoh ⟨ha.own.set i (r.put b (yieldL (ops n) r.ru (r.ls b) ha.t b g).1), (yieldL (ops n) r.ru (r.ls b) ha.t b g).2⟩ pl
        rw [hid]
        show HCoh ⟨ha.own.set i (r.put b (r.ls b)), ha.t⟩ pl
        rw [put_self hr.s0]
        have : ha.own.set i r = ha.own := by
          apply List.ext_getElem?
          intro j
          by_cases z : i = j
          · subst z
            rw [List.getElem?_set_self hi, e]
          · rw [List.getElem?_set_ne z]
        rw [this]
        exact h
    · have hq : (ha.own.set i (r.put b (yieldL (ops n) r.ru (r.ls b) ha.t b g).1))[i]? = some q := hq
      rw [List.getElem?_set_self hi] at hq
      cases hq
      refine ⟨r, rfl, fun l hl => ?_⟩
      have S' := R.step hr.s0 S (fun hbk l' hl' => by
        cases q : l'.d with
        | false => rfl
        | true =>
          have := s3 hbk l' (sd l' hl' q).2
          rw [this] at q
          cases q)
      have hin : l.b = b → l ∈ (yieldL (ops n) r.ru (r.ls b) ha.t b g).1 := fun z => by
        have := hl.ls S'.1.w
        rw [z, ls_put hr.s0] at this
        exact this
      refine ⟨fun z => ?_, fun hg z => sg hg l (hin z) z, ?_⟩
      · cases q : l.d with
        | false => rfl
        | true => exact absurd z (sd l (hin z) q).1
      · rcases hl.put with hl | hl
        · rcases S.dom l hl with z | ⟨l0, h3, h4, _⟩
          · rcases hold with ⟨l0, h3, h4⟩ | hid
            · exact ⟨l0, h3, h4.trans z.symm⟩
            · rw [hid] at hl
              exact ⟨l, .of hr.s0 hl, rfl⟩
          · exact ⟨l0, .of hr.s0 h3, h4⟩
        · exact ⟨l, hl, rfl⟩
/-- all others asked -/
theorem HCoh.askN (h : HCoh ha pl) (hk : HaOk n m ha) {b : Nat} (hb : b < 16) (hand : Nat) (g : Bool) : ∀ k, HCoh (askN n hand b g k ha) pl ∧ HaOk n m (Ww.askN n hand b g k ha) ∧ (∀ j, k ≤ j ∨ j = hand → (Ww.askN n hand b g k ha).own[j]? = ha.own[j]?) ∧
    ∀ j, j < k → j ≠ hand → ∀ q, (Ww.askN n hand b g k ha).own[j]? = some q → ∃ r, ha.own[j]? = some r ∧ (∀ l, InR l q → (l.b = b → l.d = false) ∧ (g = true → l.b ≠ b) ∧ ∃ l0, InR l0 r ∧ l0.b = l.b)
  | 0 => ⟨h, hk, fun _ _ => rfl, fun j hj => absurd hj (Nat.not_lt_zero _)⟩
  | k + 1 => by
    obtain ⟨h1, h2, h3, h4⟩ := HCoh.askN h hk hb hand g k
    unfold Ww.askN
    split
    · rename_i z
      refine ⟨h1, h2, fun j hj => h3 j (by omega), fun j hj hne => h4 j (by omega) hne⟩
    · rename_i z
      obtain ⟨y1, y2, y3⟩ := h1.yieldAt h2 hb g k
      refine ⟨y1, (yieldAt_ok h2 hb g k).1, fun j hj => ?_, fun j hj hne q hq => ?_⟩
      · rw [y2 j (by omega)]
        exact h3 j (by omega)
      · by_cases ek : j = k
        · subst ek
          obtain ⟨r, g1, g2⟩ := y3 q hq
          rw [h3 j (by omega)] at g1
          exact ⟨r, g1, g2⟩
        · rw [y2 j ek] at hq
          exact h4 j (by omega) hne q hq
theorem HCoh.ask (h : HCoh ha pl) (hk : HaOk n m ha) {b : Nat} (hb : b < 16) (hand : Nat) (g : Bool) : HCoh (ask n ha hand b g) pl ∧ HaOk n m (Ww.ask n ha hand b g) ∧ (Ww.ask n ha hand b g).own[hand]? = ha.own[hand]? ∧
    ∀ j, j ≠ hand → ∀ q, (Ww.ask n ha hand b g).own[j]? = some q → ∃ r, ha.own[j]? = some r ∧ (∀ l, InR l q → (l.b = b → l.d = false) ∧ (g = true → l.b ≠ b) ∧ ∃ l0, InR l0 r ∧ l0.b = l.b) := by
  obtain ⟨h1, h2, h3, h4⟩ := h.askN hk hb hand g ha.own.length
  refine ⟨h1, h2, h3 hand (.inr rfl), fun j hne q hq => ?_⟩
  have hj : j < ha.own.length := by
    have := (List.getElem?_eq_some_iff.mp hq).1
    have e : (Ww.ask n ha hand b g).own.length = m := h2.len
    have e2 := hk.len
    omega
  exact h4 j hj hne q hq
def empty (ha : Ha) (i : Nat) : Prop := ∀ r, ha.own[i]? = some r → ∀ l, ¬ InR l r
/-- a look -/
theorem HCoh.look (h : HCoh ha pl) (hk : HaOk n m ha) {hand p : Nat} (hh : hand < m) (hp : p < 64) :
    HCoh (hLook n ha hand p).2 pl ∧ (hLook n ha hand p).1 = (pl (p / 4)).getD (p % 4) 0 ∧ (∀ i, i ≠ hand → empty ha i → empty (hLook n ha hand p).2 i) ∧ ∀ j, j ≠ hand → ∀ q, (hLook n ha hand p).2.own[j]? = some q → ∀ l, InR l q → l.b = p / 4 → l.d = false := by
  have hb : p / 4 < 16 := by omega
  obtain ⟨a1, a2, a3, a4⟩ := h.ask hk hb hand false
  unfold hLook
  have hlt : hand < ha.own.length := by rw [hk.len]; exact hh
  generalize Ww.ask n ha hand (p / 4) false = hb' at a1 a2 a3 a4 ⊢
  unfold lookAt
  have e : hb'.own[hand]? = some ha.own[hand] := by rw [a3, List.getElem?_eq_getElem hlt]
  rw [e]
  generalize ha.own[hand] = r at e ⊢
  have hr := a2.own r (List.mem_of_getElem? e)
  have R := a1.rw e hr.s0
  obtain ⟨s1, s2, s3⟩ := R.set hr.s0 (p / 4)
  obtain ⟨S, hdirt, hat⟩ := reach_sem (ops_c n) (ops_ok n) hr.ru s1 (hr.ls (p / 4)) s2 a2.t R.t hb rfl
  obtain ⟨_, _, ⟨l, hlg, hlb, hlo⟩, _⟩ := reachL_ok (ops_ok n) hr.ru (hr.ls (p / 4)) a2.t hb
  obtain ⟨_, hns⟩ := hat l hlg
  have A : ∀ (j : Nat) (q : Rm), j ≠ hand → hb'.own[j]? = some q → ∀ l, InR l q → l.b = p / 4 → l.d = false := fun j q z hg l hl hlb => by
    obtain ⟨_, _, g⟩ := a4 j z q hg
    exact (g l hl).1 hlb
  refine ⟨HCoh.id (i := p / 4) (a1.step e hr.s0 S (fun hbk l' hl' => ?_) A (.inl ⟨fun _ => rfl, fun l' hl' hd' => hdirt l' hl' hd'⟩)), ?_, fun i hne hem q hq l' hl' => ?_, fun j hne q hq => ?_⟩
  · cases q : l'.d with
    | false => rfl
    | true =>
      obtain ⟨l0, g1, _, g3⟩ := hdirt l' hl' q
      rw [s3 hbk l0 g1] at g3
      cases g3
  · show (lnAt _ _).ns.getD (p % 4) 0 = _
    rw [lnAt_get hlg, hns]
    have := a1.eff_of e hr.s0 (c := p / 4) fun j q z hg => A j q z hg
    rw [← this]
  · have hq : (hb'.own.set hand _)[i]? = some q := hq
    rw [List.getElem?_set_ne (Ne.symm hne)] at hq
    obtain ⟨r0, g1, g2⟩ := a4 i hne q hq
    obtain ⟨_, _, l0, g3, _⟩ := g2 l' hl'
    exact hem r0 g1 l0 g3
  · have hq : (hb'.own.set hand _)[j]? = some q := hq
    rw [List.getElem?_set_ne (Ne.symm hne)] at hq
    exact A j q hne hq
theorem HCoh.change (h : HCoh ha pl) (hk : HaOk n m ha) {hand p : Nat} (hh : hand < m) (hp : p < 64) (v : Int) :
    HCoh (hChange n ha hand p v) (fun c => if c = p / 4 then (pl (p / 4)).set (p % 4) v else pl c) ∧ (∀ i, i ≠ hand → empty ha i → empty (hChange n ha hand p v) i) ∧ ∀ j, j ≠ hand → ∀ q, (hChange n ha hand p v).own[j]? = some q → ∀ l, InR l q → l.b ≠ p / 4 := by
  have hb : p / 4 < 16 := by omega
  obtain ⟨a1, a2, a3, a4⟩ := h.ask hk hb hand true
  unfold hChange
  have hlt : hand < ha.own.length := by rw [hk.len]; exact hh
  generalize Ww.ask n ha hand (p / 4) true = hb' at a1 a2 a3 a4 ⊢
  unfold changeAt
  have e : hb'.own[hand]? = some ha.own[hand] := by rw [a3, List.getElem?_eq_getElem hlt]
  rw [e]
  generalize ha.own[hand] = r at e ⊢
  have hr := a2.own r (List.mem_of_getElem? e)
  have R := a1.rw e hr.s0
  obtain ⟨s1, s2, s3⟩ := R.set hr.s0 (p / 4)
  obtain ⟨S, sd⟩ := change_sem (ops_c n) (ops_ok n) hr.ru s1 (hr.ls (p / 4)) s2 a2.t R.t hp rfl v s3
  have A : ∀ (j : Nat) (q : Rm), j ≠ hand → hb'.own[j]? = some q → ∀ l, InR l q → l.b ≠ p / 4 := fun j q z hg l hl => by
    obtain ⟨_, _, g⟩ := a4 j z q hg
    exact (g l hl).2.1 rfl
  refine ⟨a1.step e hr.s0 S sd (fun j q z hg l hl hlb => absurd hlb (A j q z hg l hl)) (.inr A), fun i hne hem q hq l' hl' => ?_, fun j hne q hq => ?_⟩
  · have hq : (hb'.own.set hand _)[i]? = some q := hq
    rw [List.getElem?_set_ne (Ne.symm hne)] at hq
    obtain ⟨r0, g1, g2⟩ := a4 i hne q hq
    obtain ⟨_, _, l0, g3, _⟩ := g2 l' hl'
    exact hem r0 g1 l0 g3
  · have hq : (hb'.own.set hand _)[j]? = some q := hq
    rw [List.getElem?_set_ne (Ne.symm hne)] at hq
    exact A j q hne hq
end
/-! ### a new hall -/
theorem mkRm_none {u : Rul} {tl : List V} {l : Ln} : ¬ InR l (mkRm u tl) := by
  rintro ⟨ls, hm, hl⟩
  have : ls = [] := (List.mem_replicate.mp hm).2
  rw [this] at hl
  cases hl
theorem mkRm_w (u : Rul) (tl : List V) : RmW (mkRm u tl) := fun k ls hk => by
  have := (List.mem_replicate.mp (List.mem_of_getElem? hk)).2
  rw [this]
  exact ⟨List.nodup_nil, fun l hl => by cases hl⟩
theorem shRs_w : ∀ (lev : Nat) (us : List Rul) (far : List Int), ChW (shRs lev us) far ∧ ∀ c, effC (shRs lev us) far c = getBlk far c
  | _, [], far => ⟨trivial, fun _ => rfl⟩
  | lev, u :: us, far => by
    obtain ⟨h1, h2⟩ := shRs_w (lev + 1) us far
    refine ⟨⟨mkRm_w u _, fun ls hm => ⟨fun l hl => absurd ⟨ls, hm, hl⟩ mkRm_none, fun _ l hl => absurd ⟨ls, hm, hl⟩ mkRm_none⟩, h1⟩, fun c => ?_⟩
    show effS ((mkRm u [.int lev, .int 0]).ls c) (effC (shRs (lev + 1) us) far) c = _
    have : (mkRm u [.int lev, .int 0]).ls c = [] := by
      unfold Rm.ls
      rw [List.getD_eq_getElem?_getD]
      cases q : (mkRm u [.int lev, .int 0]).ss[(mkRm u [.int lev, .int 0]).ix c]? with
      | none => rfl
      | some x => exact (List.mem_replicate.mp (List.mem_of_getElem? q)).2
    rw [this]
    exact h2 c
theorem hall0_coh (us : List Rul) (m : Nat) : HCoh (hall0 us m) (getBlk (List.replicate 64 0)) ∧ ∀ i, empty (hall0 us m) i := by
  have hno : ∀ r ∈ (hall0 us m).own, ∀ l, ¬ InR l r := fun r hr l => by
    obtain ⟨i, _, rfl⟩ := List.mem_map.mp hr
    exact mkRm_none
  obtain ⟨h1, h2⟩ := shRs_w 1 (us.drop 1) (List.replicate 64 0)
  refine ⟨⟨fun r hr => ?_, fun r hr _ l hl => absurd hl (hno r hr l), h1, fun r hr l hl => absurd hl (hno r hr l), fun i j r q _ hr _ l _ hl => absurd hl (hno r (List.mem_of_getElem? hr) l), fun c _ => h2 c⟩, fun i r hr l => hno r (List.mem_of_getElem? hr) l⟩
  obtain ⟨i, _, rfl⟩ := List.mem_map.mp hr
  exact mkRm_w _ _
-- WwP
/-! ### the hands' lines, one behind the other -/
def linesOf (own : List Rm) : Nat → List (Nat × Ln)
  | 0 => []
  | i + 1 => linesOf own i ++ (match own[i]? with
    | none => []
    | some r => r.ss.flatten.map (Prod.mk i))
theorem linesOf_succ {own : List Rm} {i : Nat} {r : Rm} (e : own[i]? = some r) : linesOf own (i + 1) = linesOf own i ++ r.ss.flatten.map (Prod.mk i) := by
  show linesOf own i ++ _ = _
  rw [e]
theorem linesOf_mem {own : List Rm} : ∀ {i : Nat} {x : Nat × Ln}, x ∈ linesOf own i → ∃ r, own[x.1]? = some r ∧ InR x.2 r ∧ x.1 < i
  | 0, x, h => by cases h
  | i + 1, x, h => by
    rcases List.mem_append.mp h with h | h
    · obtain ⟨r, h1, h2, h3⟩ := linesOf_mem h
      exact ⟨r, h1, h2, by omega⟩
    · cases e : own[i]? with
      | none =>
        rw [e] at h
        cases h
      | some r =>
        rw [e] at h
        obtain ⟨l, hl, rfl⟩ := List.mem_map.mp h
        obtain ⟨ls, hm, hl⟩ := List.mem_flatten.mp hl
        exact ⟨r, e, ⟨ls, hm, hl⟩, by show i < i + 1; omega⟩
theorem flat_le : ∀ {ss : List (List Ln)}, (∀ ls ∈ ss, ls.length ≤ 4) → ss.flatten.length ≤ 4 * ss.length
  | [], _ => by simp
  | ls :: ss, h => by
    have := flat_le (ss := ss) fun l hl => h l (List.mem_cons_of_mem _ hl)
    have := h ls List.mem_cons_self
    simp only [List.flatten_cons, List.length_append, List.length_cons]
    omega
theorem rm_flat {r : Rm} (h : RmOk r) : r.ss.flatten.length ≤ 16 := by
  have := flat_le (ss := r.ss) fun ls hl => by
    have := (h.ln ls hl).len
    have := h.ru.w4
    omega
  have := h.s4
  omega
theorem linesOf_len {own : List Rm} (h : ∀ r ∈ own, RmOk r) : ∀ i, (linesOf own i).length ≤ 16 * i
  | 0 => by simp [linesOf]
  | i + 1 => by
    have ih := linesOf_len h i
    cases e : own[i]? with
    | none =>
      show (linesOf own i ++ _).length ≤ _
      rw [e, List.append_nil]
      omega
    | some r =>
      have := rm_flat (h r (List.mem_of_getElem? e))
      rw [linesOf_succ e, List.length_append, List.length_map]
      omega
theorem flat_nodup {s : Nat} : ∀ (off : Nat) {ss : List (List Ln)}, (∀ k ls, ss[k]? = some ls → SetW s (off + k) ls) → (ss.flatten.map (·.b)).Nodup
  | _, [], _ => List.nodup_nil
  | off, ls :: ss, h => by
    have h0 := h 0 ls rfl
    have ht := flat_nodup (off + 1) (ss := ss) fun k l hl => by
      have := h (k + 1) l (by simpa using hl)
      rwa [show off + 1 + k = off + (k + 1) by omega]
    rw [List.flatten_cons, List.map_append]
    refine List.nodup_append.mpr ⟨h0.nd, ht, fun a ha b hb e => ?_⟩
    obtain ⟨l, hl, rfl⟩ := List.mem_map.mp ha
    obtain ⟨l2, hl2, rfl⟩ := List.mem_map.mp hb
    obtain ⟨ls2, hm2, hl2⟩ := List.mem_flatten.mp hl2
    obtain ⟨k, hk, ek⟩ := List.mem_iff_getElem.mp hm2
    have g : ss[k]? = some ls2 := by rw [List.getElem?_eq_getElem hk, ek]
    have a1 := h0.ix l hl
    have a2 := (h (k + 1) ls2 (by simpa using g)).ix l2 hl2
    have e : l.b = l2.b := e
    rw [e] at a1
    omega
theorem rm_nodup {r : Rm} (w : RmW r) : (r.ss.flatten.map (·.b)).Nodup := flat_nodup (s := r.ss.length) 0 fun k ls hk => by
  rw [Nat.zero_add]
  exact w k ls hk
def dirtyB (L : List (Nat × Ln)) : List Int := (L.filter (·.2.d)).map fun x => (x.2.b : Int)
theorem dirtyB_nodup {ha : Ha} {pl : Nat → List Int} (h : HCoh ha pl) : ∀ i, (dirtyB (linesOf ha.own i)).Nodup
  | 0 => List.nodup_nil
  | i + 1 => by
    have ih := dirtyB_nodup h i
    cases e : ha.own[i]? with
    | none =>
      have : linesOf ha.own (i + 1) = linesOf ha.own i := by
        show linesOf ha.own i ++ _ = _
        rw [e, List.append_nil]
      rw [this]
      exact ih
    | some r =>
      rw [linesOf_succ e]
      unfold dirtyB
      rw [List.filter_append, List.map_append]
      refine List.nodup_append.mpr ⟨ih, ?_, fun a ha b hb eq => ?_⟩
      · rw [List.filter_map, List.map_map]
        have : ((fun x : Nat × Ln => (x.2.b : Int)) ∘ Prod.mk i) = ((fun n : Nat => (n : Int)) ∘ fun l : Ln => l.b) := rfl
        rw [this, ← List.map_map]
        refine List.Pairwise.map _ (S := fun a b : Int => a ≠ b) (R := fun a b : Nat => a ≠ b) (fun a b hab z => hab (Int.ofNat.inj z)) ?_
        exact List.Nodup.sublist (List.filter_sublist.map _) (rm_nodup (h.w r (List.mem_of_getElem? e)))
      · obtain ⟨x, hx, rfl⟩ := List.mem_map.mp ha
        obtain ⟨y, hy, rfl⟩ := List.mem_map.mp hb
        obtain ⟨hx1, hx2⟩ := List.mem_filter.mp hx
        obtain ⟨hy1, hy2⟩ := List.mem_filter.mp hy
        obtain ⟨l, hl, rfl⟩ := List.mem_map.mp hy1
        obtain ⟨ls, hm, hl⟩ := List.mem_flatten.mp hl
        obtain ⟨q, g1, g2, g3⟩ := linesOf_mem hx1
        have eq : (x.2.b : Int) = (l.b : Int) := eq
        exact h.one x.1 i q r (by omega) g1 e x.2 l g2 ⟨ls, hm, hl⟩ hx2 (by omega)
def LnsAt (N : List Cell) : List Addr → List (Nat × Ln) → Prop
  | [], [] => True
  | a :: as, x :: xs => (∃ na, (a, HO.tup [.int x.1, .int x.2.b, .ref na, .bl x.2.d]) ∈ N ∧ (na, HO.tup (x.2.ns.map V.int)) ∈ N) ∧ LnsAt N as xs
  | _, _ => False
theorem LnsAt.len {N : List Cell} : ∀ {as : List Addr} {xs : List (Nat × Ln)}, LnsAt N as xs → as.length = xs.length
  | [], [], _ => rfl
  | [], _ :: _, h => h.elim
  | _ :: _, [], h => h.elim
  | _ :: _, _ :: _, h => congrArg (· + 1) (LnsAt.len h.2)
theorem LnsAt.get {N : List Cell} : ∀ {as : List Addr} {xs : List (Nat × Ln)} {i : Nat} {a : Addr}, LnsAt N as xs → as[i]? = some a → ∃ x, xs[i]? = some x ∧ ∃ na, (a, HO.tup [.int x.1, .int x.2.b, .ref na, .bl x.2.d]) ∈ N ∧ (na, HO.tup (x.2.ns.map V.int)) ∈ N
  | [], _, i, a, _, e => by simp at e
  | _ :: _, [], _, _, h, _ => h.elim
  | b :: as, u :: us, 0, a, h, e => by
    simp at e
    subst e
    exact ⟨u, rfl, h.1⟩
  | b :: as, u :: us, i + 1, a, h, e => by
    obtain ⟨v, h1, h2⟩ := LnsAt.get (i := i) (a := a) h.2 (by simpa using e)
    exact ⟨v, by simpa using h1, h2⟩
theorem LnsAt.mono {N N' : List Cell} (hs : ∀ c ∈ N, c ∈ N') : ∀ {as : List Addr} {xs : List (Nat × Ln)}, LnsAt N as xs → LnsAt N' as xs
  | [], [], _ => trivial
  | [], _ :: _, h => h.elim
  | _ :: _, [], h => h.elim
  | _ :: _, _ :: _, h => ⟨let ⟨na, h1, h2⟩ := h.1; ⟨na, hs _ h1, hs _ h2⟩, LnsAt.mono hs h.2⟩
theorem LnsAt.app {N : List Cell} : ∀ {as bs : List Addr} {xs ys : List (Nat × Ln)}, LnsAt N as xs → LnsAt N bs ys → LnsAt N (as ++ bs) (xs ++ ys)
  | [], _, [], _, _, k => k
  | [], _, _ :: _, _, h, _ => h.elim
  | _ :: _, _, [], _, h, _ => h.elim
  | _ :: _, _, _ :: _, _, h, k => ⟨h.1, LnsAt.app h.2 k⟩
theorem DpL.lnI {N : List Cell} {v : V} {l : Ln} (h : DpL N v (lnD l)) : ∃ p na, v = .ref p ∧ (p, HO.tup [.int l.b, .ref na, .bl l.d]) ∈ N ∧ (na, HO.tup (l.ns.map V.int)) ∈ N := by
  obtain ⟨p, vs, rfl, h1, h2⟩ := h.tupI
  cases h2 with
  | cons a h2 =>
    cases h2 with
    | cons b h2 =>
      cases h2 with
      | cons c h2 =>
        cases h2
        cases a
        cases c
        obtain ⟨na, ws, rfl, h3, h4⟩ := b.tupI
        rw [h4.intsI] at h3
        exact ⟨p, na, rfl, h1, h3⟩
def dCells (cs : List Int) : Deed → List Int
  | .look _ _ => cs
  | .set _ p v => cs.set p v
theorem dCells_len {cs : List Int} {d : Deed} : (dCells cs d).length = cs.length := by
  cases d with
  | look => rfl
  | set h p v => exact List.length_set
theorem deed_coh {n m : Nat} {ha : Ha} {cs : List Int} {d : Deed} (h : HCoh ha (getBlk cs)) (hk : HaOk n m ha) (hcs : cs.length = 64) (hd : d.ok m) :
    HCoh (doDeed n ha d).2 (getBlk (dCells cs d)) ∧ (∀ i, i ≠ d.h → empty ha i → empty (doDeed n ha d).2 i) ∧
      ∀ j, j ≠ d.h → ∀ q, (doDeed n ha d).2.own[j]? = some q → ∀ l, InR l q → l.b = d.p / 4 → l.d = false ∧ ∃ h p, d = .look h p := by
  cases d with
  | look hh p =>
    obtain ⟨h1, _, h3, h4⟩ := h.look hk hd.1 hd.2
    exact ⟨h1, h3, fun j hj q hq l hl hb => ⟨h4 j hj q hq l hl hb, hh, p, rfl⟩⟩
  | set hh p v =>
    obtain ⟨h1, h3, h4⟩ := h.change hk hd.1 hd.2.1 v
    refine ⟨?_, h3, fun j hj q hq l hl hb => absurd hb (h4 j hj q hq l hl)⟩
    have : (fun c => if c = p / 4 then (getBlk cs (p / 4)).set (p % 4) v else getBlk cs c) = getBlk (cs.set p v) := by
      funext c
      rw [cell_get hcs hd.2.1 v c]
      split
      · rename_i z
        rw [z]
      · rfl
    rw [this] at h1
    exact h1
theorem cut_blk {cs : List Int} (h : cs.length = 64) {b : Nat} (hb : b < 16) : cutV (cs.map V.int) (some ((4 : Int) * (b : Int))) (some ((4 : Int) * (b : Int) + 4)) = (getBlk cs b).map V.int := by
  have e1 : (4 : Int) * (b : Int) = ((b * 4 : Nat) : Int) := by omega
  have e2 : (4 : Int) * (b : Int) + 4 = ((b * 4 + 4 : Nat) : Int) := by omega
  rw [e2, e1, cutV_nat (by omega) (by rw [List.length_map]; omega)]
  unfold getBlk
  rw [List.map_take, List.map_drop]
  congr 1
  omega
theorem fnOr {P : Program} {w : World} {K : PySem.W.Frag} {mg : Str → Option Value} {base : Heap} {CX : CXT} {k : Nat} {f : Addr} {fd : FuncData} {ps : List Str} {sp sp' : Sp} (F : FnOk P w K mg base CX k f fd ps sp) (G : FnOk P w K mg base CX k f fd ps sp') :
    FnOk P w K mg base CX k f fd ps (fun vs H Q E => sp vs H Q E ∨ sp' vs H Q E) :=
  ⟨fun vs H Q E h => h.elim (F.len vs H Q E) (G.len vs H Q E), fun A outer s H args us vs Q E hr he hb hv hs => hs.elim (F.run A outer s H args us vs Q E hr he hb hv) (G.run A outer s H args us vs Q E hr he hb hv)⟩
theorem Deed.at1 (d : Deed) : atI d.vs 1 = some (.int d.h) := by cases d <;> rfl
theorem Deed.at2 (d : Deed) : atI d.vs 2 = some (.int d.p) := by cases d <;> rfl
theorem DeedsAt.mono {R R' : List Cell} {p : Addr} {ds : List Deed} (h : DeedsAt R p ds) (hs : ∀ c ∈ R, c ∈ R') : DeedsAt R' p ds := by
  obtain ⟨as, h1, h2⟩ := h
  exact ⟨as, hs _ h1, h2.mono hs⟩
theorem DeedsAt.get {R : List Cell} {p : Addr} {ds : List Deed} (h : DeedsAt R p ds) : ∃ as : List Addr, as.length = ds.length ∧ (p, HO.lst (as.map V.ref)) ∈ R ∧ ∀ {i : Nat} {x : V}, (as.map V.ref)[i]? = some x → ∃ (a : Addr) (d : Deed), x = .ref a ∧ as[i]? = some a ∧ ds[i]? = some d ∧ (a, HO.tup d.vs) ∈ R := by
  obtain ⟨as, h1, h2⟩ := h
  refine ⟨as, by have := h2.len; rwa [List.length_map] at this, h1, fun {i x} hi => ?_⟩
  rw [List.getElem?_map] at hi
  cases e : as[i]? with
  | none =>
    rw [e] at hi
    cases hi
  | some a =>
    rw [e] at hi
    obtain ⟨u, hu1, hu2⟩ := h2.get e
    rw [List.getElem?_map] at hu1
    cases e2 : ds[i]? with
    | none =>
      rw [e2] at hu1
      cases hu1
    | some d =>
      rw [e2] at hu1
      have : d.vs = u := Option.some.inj hu1
      subst this
      exact ⟨a, d, (Option.some.inj hi).symm, rfl, rfl, hu2⟩
-- WwS
/-! ### settling -/
section
variable {o : Ops} {u : Ru}
theorem settleL_app : ∀ (a b : List Ln) (t : Ta), settleL o u (a ++ b) t = ((settleL o u a t).1 ++ (settleL o u b (settleL o u a t).2).1, (settleL o u b (settleL o u a t).2).2)
  | [], b, t => rfl
  | l :: a, b, t => by
    have ih := settleL_app a b (if l.d = true then passH o u.tl t l.b l.ns else t)
    show (_ :: (settleL o u (a ++ b) _).1, (settleL o u (a ++ b) _).2) = _
    rw [ih]
    rfl
theorem settleS_app : ∀ (a b : List (List Ln)) (t : Ta), settleS o u (a ++ b) t = ((settleS o u a t).1 ++ (settleS o u b (settleS o u a t).2).1, (settleS o u b (settleS o u a t).2).2)
  | [], b, t => rfl
  | l :: a, b, t => by
    have ih := settleS_app a b (settleL o u l t).2
    show (_ :: (settleS o u (a ++ b) _).1, (settleS o u (a ++ b) _).2) = _
    rw [ih]
    rfl
theorem settleL_fst : ∀ (ls : List Ln) (t : Ta), (settleL o u ls t).1 = ls.map fun l => { l with d := false }
  | [], t => rfl
  | l :: r, t => by
    show _ :: (settleL o u r _).1 = _
    rw [settleL_fst r]
    rfl
theorem settleS_fst : ∀ (ss : List (List Ln)) (t : Ta), (settleS o u ss t).1 = ss.map fun ls => ls.map fun l => { l with d := false }
  | [], t => rfl
  | ls :: r, t => by
    show (settleL o u ls t).1 :: (settleS o u r _).1 = _
    rw [settleS_fst r, settleL_fst]
    rfl
end
def cleanR (r : Rm) : Rm := { r with ss := r.ss.map fun ls => ls.map fun l => { l with d := false } }
def settleR (n : Nat) (r : Rm) (t : Ta) : Rm × Ta := (cleanR r, (settleS (ops n) r.ru r.ss t).2)
theorem settleS_ok {n g : Nat} {o : Ops} {u : Ru} (O : OpsOk n g o) : ∀ {ss : List (List Ln)} {t : Ta}, (∀ ls ∈ ss, ls.length ≤ 4 ∧ ∀ l ∈ ls, LnOk l) → TaOk n t → TaOk n (settleS o u ss t).2 ∧ (settleS o u ss t).2.log.length ≤ t.log.length + 4 * ss.length * (g + 1)
  | [], t, _, h => ⟨h, by show t.log.length ≤ _; omega⟩
  | ls :: r, t, hs, h => by
    obtain ⟨h1, h2⟩ := hs ls List.mem_cons_self
    obtain ⟨_, _, s3, s4⟩ := settleL_ok (u := u) O h2 h
    obtain ⟨i1, i2⟩ := settleS_ok (u := u) O (ss := r) (fun l hl => hs l (List.mem_cons_of_mem _ hl)) s3
    refine ⟨i1, ?_⟩
    show (settleS o u r (settleL o u ls t).2).2.log.length ≤ _
    have e : ls.length * (g + 1) ≤ 4 * (g + 1) := Nat.mul_le_mul_right _ h1
    have e2 : 4 * (ls :: r).length * (g + 1) = 4 * r.length * (g + 1) + 4 * (g + 1) := by
      rw [List.length_cons, show 4 * (r.length + 1) = 4 * r.length + 4 by omega, Nat.add_mul]
    omega
theorem settleR_ok {n : Nat} {r : Rm} {t : Ta} (hr : RmOk r) (h : TaOk n t) (hn : n ≤ 2) : RmOk (settleR n r t).1 ∧ TaOk n (settleR n r t).2 ∧ (settleR n r t).2.log.length ≤ t.log.length + 208 := by
  obtain ⟨h1, h2⟩ := settleS_ok (u := r.ru) (ops_ok n) (ss := r.ss) (fun ls hl => ⟨by have := (hr.ln ls hl).len; have := hr.ru.w4; omega, (hr.ln ls hl).ok⟩) h
  refine ⟨⟨?_, ?_, hr.ru, fun ls hl => ?_⟩, h1, ?_⟩
  · show 0 < (r.ss.map _).length
    rw [List.length_map]
    exact hr.s0
  · show (r.ss.map _).length ≤ 4
    rw [List.length_map]
    exact hr.s4
  · obtain ⟨ls0, h0, rfl⟩ := List.mem_map.mp hl
    refine ⟨by rw [List.length_map]; exact (hr.ln ls0 h0).len, fun l hl => ?_⟩
    obtain ⟨l0, hl0, rfl⟩ := List.mem_map.mp hl
    have := (hr.ln ls0 h0).ok l0 hl0
    exact ⟨this.b, this.ns⟩
  · show (settleS (ops n) r.ru r.ss t).2.log.length ≤ _
    have := g12 hn
    have := hr.s4
    have e : 4 * r.ss.length * (gOf n + 1) ≤ 16 * 13 := Nat.mul_le_mul (by omega) (by omega)
    omega
def spRSettle (K : PySem.W.Frag) : Sp := fun vs H Q _ => ∃ (n : Nat) (a : Addr) (be : Pa) (di : Addr) (r : Rm) (t : Ta) (C1 C D R : List Cell), vs = [.ref a] ∧ n ≤ 2 ∧ RmOk r ∧ TaOk n t ∧ t.log.length ≤ 990000 ∧ RmRepK K di a be r C1 ∧ RepK K di be t.rs t.far C ∧ DRep di t.log D ∧ Own H (C1 ++ (C ++ (D ++ R))) ∧
  ∀ H' : Hp, RPost K di a be R (settleR n r t).1 (settleR n r t).2 H' → Q .non H'
section
variable {P : Program} {w : World} {K : PySem.W.Frag} {mg : Str → Option Value} {base : Heap} {n lv : Nat}
theorem get_mid {α : Type} {a b : List α} {i : Nat} (h : a.length = i) : (a ++ b)[i]? = b[0]? := by
  rw [List.getElem?_append_right (by omega), h, Nat.sub_self]
end
-- WwS2
/-! ### a hall settles -/
def ownT (n : Nat) : List Rm → Ta → Ta
  | [], t => t
  | r :: rs, t => ownT n rs (settleR n r t).2
def shT : Nat → Ta → Ta
  | 0, t => t
  | n + 1, t => match t.rs with
    | [] => t
    | r :: rs => Ta.cons (cleanR r) (shT n (settleR n r { t with rs := rs }).2)
def hSettle (n : Nat) (ha : Ha) : Ha := ⟨ha.own.map cleanR, shT n (ownT n ha.own ha.t)⟩
theorem shT_cons {n : Nat} {t : Ta} {r : Rm} {rs : List Rm} (e : t.rs = r :: rs) : shT (n + 1) t = Ta.cons (cleanR r) (shT n (settleR n r { t with rs := rs }).2) := by
  show (match t.rs with | [] => t | r :: rs => _) = _
  rw [e]
theorem ownT_snoc {n : Nat} : ∀ (a : List Rm) (r : Rm) (t : Ta), ownT n (a ++ [r]) t = (settleR n r (ownT n a t)).2
  | [], r, t => rfl
  | b :: a, r, t => ownT_snoc a r _
theorem ownT_ok {n : Nat} (hn : n ≤ 2) : ∀ {rs : List Rm} {t : Ta}, (∀ r ∈ rs, RmOk r) → TaOk n t → TaOk n (ownT n rs t) ∧ (ownT n rs t).log.length ≤ t.log.length + 208 * rs.length
  | [], t, _, h => ⟨h, by show t.log.length ≤ _; omega⟩
  | r :: rs, t, hr, h => by
    obtain ⟨_, h2, h3⟩ := settleR_ok (hr r List.mem_cons_self) h hn
    obtain ⟨i1, i2⟩ := ownT_ok hn (rs := rs) (fun q hq => hr q (List.mem_cons_of_mem _ hq)) h2
    refine ⟨i1, ?_⟩
    show (ownT n rs (settleR n r t).2).log.length ≤ _
    rw [List.length_cons]
    omega
theorem cleanR_ok {r : Rm} (hr : RmOk r) : RmOk (cleanR r) := by
  refine ⟨?_, ?_, hr.ru, fun ls hl => ?_⟩
  · show 0 < (r.ss.map _).length
    rw [List.length_map]
    exact hr.s0
  · show (r.ss.map _).length ≤ 4
    rw [List.length_map]
    exact hr.s4
  · obtain ⟨ls0, h0, rfl⟩ := List.mem_map.mp hl
    refine ⟨by rw [List.length_map]; exact (hr.ln ls0 h0).len, fun l hl => ?_⟩
    obtain ⟨l0, hl0, rfl⟩ := List.mem_map.mp hl
    have := (hr.ln ls0 h0).ok l0 hl0
    exact ⟨this.b, this.ns⟩
theorem shT_ok : ∀ {n : Nat} {t : Ta}, n ≤ 2 → TaOk n t → TaOk n (shT n t) ∧ (shT n t).log.length ≤ t.log.length + 208 * n
  | 0, t, _, h => ⟨h, by show t.log.length ≤ _; omega⟩
  | n + 1, t, hn, h => by
    obtain ⟨r, rs, e, hr, ht⟩ := h.uncons
    obtain ⟨_, h2, h3⟩ := settleR_ok hr ht (by omega)
    obtain ⟨i1, i2⟩ := shT_ok (n := n) (by omega) h2
    rw [shT_cons e]
    refine ⟨cons_ok (cleanR_ok hr) i1, ?_⟩
    show (shT n _).log.length ≤ _
    have : ({ t with rs := rs } : Ta).log.length = t.log.length := rfl
    omega
theorem hSettle_ok {n m : Nat} {ha : Ha} (h : HaOk n m ha) : HaOk n m (hSettle n ha) ∧ (hSettle n ha).t.log.length ≤ ha.t.log.length + 1100 := by
  obtain ⟨h1, h2⟩ := ownT_ok h.n2 h.own h.t
  obtain ⟨h3, h4⟩ := shT_ok h.n2 h1
  have e1 := h.len
  have e2 := h.n2
  have e3 := h.m3
  refine ⟨⟨h3, by show (ha.own.map _).length = m; rw [List.length_map]; exact h.len, fun r hr => ?_, h.n2, h.m1, h.m3⟩, ?_⟩
  · obtain ⟨q, hq, rfl⟩ := List.mem_map.mp hr
    exact cleanR_ok (h.own q hq)
  · show (shT n (ownT n ha.own ha.t)).log.length ≤ _
    omega
def spHSettle (K : PySem.W.Frag) : Sp := fun vs H Q _ => ∃ (x : Addr) (n m : Nat) (ha : Ha) (C R : List Cell), vs = [.ref x] ∧ HaOk n m ha ∧ LH ha ∧ HallRep K x ha C ∧ Own H (C ++ R) ∧
  ∀ (C' : List Cell) (H' : Hp), HallRep K x (hSettle n ha) C' → Own H' (C' ++ R) → Q .non H'
def spHLog (K : PySem.W.Frag) : Sp := fun vs H Q _ => ∃ (x : Addr) (n m : Nat) (ha : Ha) (C R : List Cell), vs = [.ref x] ∧ HaOk n m ha ∧ LH ha ∧ HallRep K x ha C ∧ Own H (C ++ R) ∧
  ∀ (p : Addr) (as : List Addr) (H' : Hp), TA C as (ha.t.log.map Ent.vs) → Own H' ((p, .lst (as.map V.ref)) :: (C ++ R)) → Q (.ref p) H'
theorem logC_TA : ∀ {as : List Addr} {es : List Ent}, as.length = es.length → TA (logC as es) as (es.map Ent.vs)
  | [], [], _ => trivial
  | [], _ :: _, h => by cases h
  | _ :: _, [], h => by cases h
  | a :: as, e :: es, h => ⟨List.mem_cons_self, (logC_TA (as := as) (es := es) (by simpa using h)).mono fun c hc => List.mem_cons_of_mem _ hc⟩
section
variable {P : Program} {w : World} {K : PySem.W.Frag} {mg : Str → Option Value} {base : Heap} {n lv : Nat}
end
-- WwCoh4
/-! ### what settling means -/
section
variable {n : Nat} {o : Ops} {u : Ru} {s : Nat}
theorem settleL_sem (O : OpsC n o) (Ok : OpsOk n (gOf n) o) : ∀ {k : Nat} {ls : List Ln} {t : Ta}, SetW s k ls → (∀ l ∈ ls, LnOk l) → Cln ls (eff t) → TaOk n t → TaW t → TaW (settleL o u ls t).2 ∧ ∀ c, eff (settleL o u ls t).2 c = effS ls (eff t) c
  | k, [], t, w, hl, hc, h, hw => ⟨hw, fun c => rfl⟩
  | k, l :: r, t, w, hl, hc, h, hw => by
    have hlo := hl l List.mem_cons_self
    have key : TaOk n (if l.d = true then passH o u.tl t l.b l.ns else t) ∧ TaW (if l.d = true then passH o u.tl t l.b l.ns else t) ∧ ∀ c, eff (if l.d = true then passH o u.tl t l.b l.ns else t) c = if c = l.b then l.ns else eff t c := by
      split
      · obtain ⟨h1, h2⟩ := passH_eff (tl := u.tl) O h hw hlo.b hlo.ns
        exact ⟨(passH_ok Ok h hlo.b hlo.ns).1, h1, h2⟩
      · rename_i hd
        refine ⟨h, hw, fun c => ?_⟩
        split
        · rename_i e
          rw [e]
          exact (hc l List.mem_cons_self (by simpa using hd)).symm
        · rfl
    show TaW (settleL o u r _).2 ∧ ∀ c, eff (settleL o u r _).2 c = _
    generalize (if l.d = true then passH o u.tl t l.b l.ns else t) = t1 at key ⊢
    obtain ⟨h1, h2, h3⟩ := key
    have hne : ∀ l' ∈ r, l'.b ≠ l.b := w.head
    obtain ⟨i1, i2⟩ := settleL_sem O Ok w.tail (fun l' hm => hl l' (List.mem_cons_of_mem _ hm)) (fun l' hm hd => by
      rw [h3, if_neg (hne l' hm)]
      exact hc l' (List.mem_cons_of_mem _ hm) hd) h1 h2
    refine ⟨i1, fun c => ?_⟩
    rw [i2]
    by_cases e : c = l.b
    · subst e
      rw [effS_no hne, h3, if_pos rfl, effS_mem w List.mem_cons_self]
    · refine effS_same ?_ fun _ => by rw [h3, if_neg e]
      show _ = (if l.b = c then some l else lnOf c r)
      rw [if_neg (Ne.symm e)]
theorem effS_out {k : Nat} {ls : List Ln} (w : SetW s k ls) {c : Nat} (h : c % s ≠ k) (e : Nat → List Int) : effS ls e c = e c := effS_no (fun l hl z => h (by rw [← z]; exact w.ix l hl)) e
theorem settleS_sem (O : OpsC n o) (Ok : OpsOk n (gOf n) o) : ∀ {off : Nat} {ss : List (List Ln)} {t : Ta}, (∀ k ls, ss[k]? = some ls → SetW s (off + k) ls) → (∀ ls ∈ ss, (∀ l ∈ ls, LnOk l) ∧ Cln ls (eff t)) → TaOk n t → TaW t →
    TaW (settleS o u ss t).2 ∧ ∀ c, (∀ k ls, ss[k]? = some ls → c % s = off + k → eff (settleS o u ss t).2 c = effS ls (eff t) c) ∧ ((∀ k, k < ss.length → c % s ≠ off + k) → eff (settleS o u ss t).2 c = eff t c)
  | off, [], t, w, hl, h, hw => ⟨hw, fun c => ⟨fun k ls hk => by simp at hk, fun _ => rfl⟩⟩
  | off, ls :: r, t, w, hl, h, hw => by
    have w0 : SetW s off ls := w 0 ls rfl
    obtain ⟨l1, l2⟩ := hl ls List.mem_cons_self
    obtain ⟨a1, a2⟩ := settleL_sem O Ok (u := u) w0 l1 l2 h hw
    obtain ⟨_, _, a3, _⟩ := settleL_ok (u := u) Ok l1 h
    have wr : ∀ k l, r[k]? = some l → SetW s (off + 1 + k) l := fun k l hk => by
      have := w (k + 1) l (by simpa using hk)
      rwa [show off + 1 + k = off + (k + 1) by omega]
    show TaW (settleS o u r (settleL o u ls t).2).2 ∧ _
    generalize ht1 : (settleL o u ls t).2 = t1 at a1 a2 a3
    obtain ⟨i1, i2⟩ := settleS_sem O Ok (off := off + 1) (ss := r) (t := t1) wr (fun l' hm => ⟨(hl l' (List.mem_cons_of_mem _ hm)).1, fun q hq hd => by
      obtain ⟨k, hk, ek⟩ := List.mem_iff_getElem.mp hm
      have hg : r[k]? = some l' := by rw [List.getElem?_eq_getElem hk, ek]
      have := (wr k l' hg).ix q hq
      rw [a2, effS_out w0 (by omega)]
      exact (hl l' (List.mem_cons_of_mem _ hm)).2 q hq hd⟩) a3 a1
    have es : settleS o u (ls :: r) t = ((settleL o u ls t).1 :: (settleS o u r t1).1, (settleS o u r t1).2) := by
      rw [← ht1]
      rfl
    rw [es]
    refine ⟨i1, fun c => ⟨fun k l hk hc => ?_, fun hc => ?_⟩⟩
    · show eff (settleS o u r t1).2 c = _
      cases k with
      | zero =>
        have : ls = l := by simpa using hk
        subst this
        rw [(i2 c).2 (fun k _ => by omega), a2]
      | succ k =>
        have hk : r[k]? = some l := by simpa using hk
        rw [(i2 c).1 k l hk (by omega)]
        exact effS_same rfl fun _ => by rw [a2, effS_out w0 (by omega)]
    · show eff (settleS o u r t1).2 c = _
      have h0 : c % s ≠ off := by
        have := hc 0 (by simp)
        omega
      rw [(i2 c).2 (fun k hk => by have := hc (k + 1) (by simp; omega); omega), a2, effS_out w0 h0]
end
section
variable {n m : Nat} {r : Rm} {t : Ta}
theorem settleR_sem (R : RW r t) (hr : RmOk r) (h : TaOk n t) : TaW (settleR n r t).2 ∧ ∀ c, eff (settleR n r t).2 c = effR r t c := by
  obtain ⟨h1, h2⟩ := settleS_sem (s := r.ss.length) (ops_c n) (ops_ok n) (u := r.ru) (off := 0) (ss := r.ss) (t := t) (fun k ls hk => by rw [Nat.zero_add]; exact R.w k ls hk) (fun ls hm => ⟨(hr.ln ls hm).ok, (R.c ls hm).1⟩) h R.t
  refine ⟨h1, fun c => ?_⟩
  refine (h2 c).1 (r.ix c) (r.ls c) (ls_get hr.s0 c) ?_
  rw [Nat.zero_add]
  rfl
theorem clean_len (r : Rm) : (cleanR r).ss.length = r.ss.length := by
  show (r.ss.map _).length = _
  rw [List.length_map]
theorem InR.unclean {l : Ln} (h : InR l (cleanR r)) : l.d = false ∧ ∃ l0, InR l0 r ∧ l0.b = l.b ∧ l0.ns = l.ns := by
  obtain ⟨ls, hm, hl⟩ := h
  obtain ⟨ls0, h0, rfl⟩ := List.mem_map.mp hm
  obtain ⟨l0, hl0, rfl⟩ := List.mem_map.mp hl
  exact ⟨rfl, l0, ⟨ls0, h0, hl0⟩, rfl, rfl⟩
theorem InR.clean {l : Ln} (h : InR l r) : InR { l with d := false } (cleanR r) := by
  obtain ⟨ls, hm, hl⟩ := h
  exact ⟨_, List.mem_map.mpr ⟨ls, hm, rfl⟩, List.mem_map.mpr ⟨l, hl, rfl⟩⟩
theorem clean_w (w : RmW r) : RmW (cleanR r) := fun k ls hk => by
  have hk : (r.ss.map fun ls => ls.map fun l => { l with d := false })[k]? = some ls := hk
  rw [List.getElem?_map] at hk
  cases e : r.ss[k]? with
  | none =>
    rw [e] at hk
    cases hk
  | some ls0 =>
    rw [e] at hk
    have := w k ls0 e
    rw [← Option.some.inj hk, clean_len]
    refine ⟨?_, fun l hl => ?_⟩
    · rw [List.map_map]
      exact this.nd
    · obtain ⟨l0, hl0, rfl⟩ := List.mem_map.mp hl
      exact this.ix l0 hl0
theorem clean_eff (R : RW r t) (hr : RmOk r) {t' : Ta} (he : ∀ c, eff t' c = effR r t c) : (∀ l, InR l (cleanR r) → l.ns = eff t' l.b) ∧ ∀ c, effR (cleanR r) t' c = effR r t c := by
  have h1 : ∀ l, InR l (cleanR r) → l.ns = eff t' l.b := fun l hl => by
    obtain ⟨_, l0, h0, e1, e2⟩ := hl.unclean
    rw [he, ← e1, ← e2]
    exact (effS_mem (R.w _ _ (ls_get hr.s0 l0.b)) (h0.ls R.w) _).symm
  refine ⟨h1, fun c => ?_⟩
  show effS ((cleanR r).ls c) (eff t') c = _
  cases q : lnOf c ((cleanR r).ls c) with
  | some l =>
    obtain ⟨g1, g2⟩ := lnOf_mem q
    unfold effS
    rw [q]
    show l.ns = _
    have h0 : 0 < (cleanR r).ss.length := by rw [clean_len]; exact hr.s0
    rw [h1 l (.of h0 g1), g2]
    exact he c
  | none =>
    unfold effS
    rw [q]
    exact he c
end
section
variable {n m : Nat} {ha : Ha} {pl : Nat → List Int}
theorem HCoh.settle1 (h : HCoh ha pl) (hk : HaOk n m ha) {i : Nat} {r : Rm} (e : ha.own[i]? = some r) : HCoh ⟨ha.own.set i (cleanR r), (settleR n r ha.t).2⟩ pl := by
  have hr := hk.own r (List.mem_of_getElem? e)
  have R := h.rw e hr.s0
  obtain ⟨s1, s2⟩ := settleR_sem R hr hk.t
  have hi := (List.getElem?_eq_some_iff.mp e).1
  have hrm := List.mem_of_getElem? e
  have oth : ∀ j, j ≠ i → (ha.own.set i (cleanR r))[j]? = ha.own[j]? := fun j z => List.getElem?_set_ne (Ne.symm z)
  have mine : (ha.own.set i (cleanR r))[i]? = some (cleanR r) := List.getElem?_set_self hi
  have memC : ∀ q ∈ ha.own.set i (cleanR r), q = cleanR r ∨ ∃ j, j ≠ i ∧ ha.own[j]? = some q := fun q hq => by
    obtain ⟨j, hj, ej⟩ := List.mem_iff_getElem.mp hq
    have hg : (ha.own.set i (cleanR r))[j]? = some q := by rw [List.getElem?_eq_getElem hj, ej]
    by_cases z : j = i
    · subst z
      rw [mine] at hg
      exact .inl (Option.some.inj hg).symm
    · rw [oth j z] at hg
      exact .inr ⟨j, z, hg⟩
  refine ⟨fun q hq => ?_, fun q hq hb l hl => ?_, s1, fun q hq l hl => ?_, fun j1 j2 q1 q2 hne g1 g2 l l2 hl hl2 hdl => ?_, fun c hc => ?_⟩
  · rcases memC q hq with z | ⟨j, _, hg⟩
    · rw [z]
      exact clean_w (h.w r hrm)
    · exact h.w q (List.mem_of_getElem? hg)
  · rcases memC q hq with z | ⟨j, _, hg⟩
    · rw [z] at hl
      exact hl.unclean.1
    · exact h.th q (List.mem_of_getElem? hg) hb l hl
  · rcases memC q hq with z | ⟨j, _, hg⟩
    · rw [z] at hl
      obtain ⟨_, l0, h0, e1, e2⟩ := hl.unclean
      rw [← e1, ← e2]
      exact h.pn r hrm l0 h0
    · exact h.pn q (List.mem_of_getElem? hg) l hl
  · have g1 : (ha.own.set i (cleanR r))[j1]? = some q1 := g1
    have g2 : (ha.own.set i (cleanR r))[j2]? = some q2 := g2
    by_cases z1 : j1 = i
    · rw [z1, mine] at g1
      cases g1
      rw [hl.unclean.1] at hdl
      cases hdl
    · rw [oth j1 z1] at g1
      by_cases z2 : j2 = i
      · rw [z2, mine] at g2
        cases g2
        obtain ⟨_, l0, h0, e1, _⟩ := hl2.unclean
        rw [← e1]
        exact h.one j1 i q1 r z1 g1 e l l0 hl h0 hdl
      · rw [oth j2 z2] at g2
        exact h.one j1 j2 q1 q2 hne g1 g2 l l2 hl hl2 hdl
  · show eff (settleR n r ha.t).2 c = pl c
    rw [s2]
    refine h.eff_of e hr.s0 fun j q zj hg l hl hcl => ?_
    refine hc q ?_ l hl hcl
    have : (ha.own.set i (cleanR r))[j]? = some q := by
      rw [oth j zj]
      exact hg
    exact List.mem_of_getElem? this
theorem own_ok {i : Nat} (hk : HaOk n m ha) (hi : i ≤ m) : HaOk n m ⟨(ha.own.take i).map cleanR ++ ha.own.drop i, ownT n (ha.own.take i) ha.t⟩ := by
  obtain ⟨g1, g2⟩ := ownT_ok hk.n2 (rs := ha.own.take i) (fun r hr => hk.own r (List.mem_of_mem_take hr)) hk.t
  have := hk.len
  refine ⟨g1, ?_, fun r hr => ?_, hk.n2, hk.m1, hk.m3⟩
  · show ((ha.own.take i).map cleanR ++ ha.own.drop i).length = m
    rw [List.length_append, List.length_map, List.length_take, List.length_drop]
    omega
  · rcases List.mem_append.mp hr with hr | hr
    · obtain ⟨r0, h0, rfl⟩ := List.mem_map.mp hr
      exact cleanR_ok (hk.own r0 (List.mem_of_mem_take h0))
    · exact hk.own r (List.mem_of_mem_drop hr)
theorem HCoh.settleN (h : HCoh ha pl) (hk : HaOk n m ha) : ∀ i, i ≤ m → HCoh ⟨(ha.own.take i).map cleanR ++ ha.own.drop i, ownT n (ha.own.take i) ha.t⟩ pl
  | 0, _ => h
  | i + 1, hi => by
    have ih := HCoh.settleN h hk i (by omega)
    have hio : i < ha.own.length := by rw [hk.len]; omega
    obtain ⟨r, er0⟩ : ∃ r, ha.own[i]? = some r := ⟨_, List.getElem?_eq_getElem hio⟩
    have hpl : ((ha.own.take i).map cleanR).length = i := by
      rw [List.length_map, List.length_take]
      omega
    have er : ((ha.own.take i).map cleanR ++ ha.own.drop i)[i]? = some r := by
      rw [get_mid hpl, List.getElem?_drop, Nat.add_zero, er0]
    have := ih.settle1 (own_ok hk (by omega)) er
    have et : ha.own.take (i + 1) = ha.own.take i ++ [r] := take_snoc er0
    have eo : ((ha.own.take i).map cleanR ++ ha.own.drop i).set i (cleanR r) = (ha.own.take (i + 1)).map cleanR ++ ha.own.drop (i + 1) := by
      rw [List.set_append_right _ _ (by omega), hpl, Nat.sub_self, et, List.map_append, List.append_assoc]
      have hdr : ha.own.drop i = r :: ha.own.drop (i + 1) := by
        rw [List.drop_eq_getElem_cons hio]
        congr 1
        rw [List.getElem?_eq_getElem hio] at er0
        exact Option.some.inj er0
      rw [hdr]
      rfl
    have et2 : ownT n (ha.own.take (i + 1)) ha.t = (settleR n r (ownT n (ha.own.take i) ha.t)).2 := by
      rw [et, ownT_snoc]
    have this : HCoh ⟨((ha.own.take i).map cleanR ++ ha.own.drop i).set i (cleanR r), (settleR n r (ownT n (ha.own.take i) ha.t)).2⟩ pl := this
    rw [eo, ← et2] at this
    exact this
/-- the shared rooms settle -/
theorem shT_sem : ∀ {n : Nat} {t : Ta}, n ≤ 2 → TaOk n t → TaW t → TaW (shT n t) ∧ (∀ c, eff (shT n t) c = eff t c) ∧ (∀ c, getBlk (shT n t).far c = eff t c) ∧ ∀ r ∈ (shT n t).rs, ∀ l, InR l r → l.d = false ∧ l.ns = getBlk (shT n t).far l.b
  | 0, t, _, h, hw => by
    have ers : t.rs = [] := List.length_eq_zero_iff.mp h.len
    refine ⟨hw, fun _ => rfl, fun c => ?_, fun r hr => ?_⟩
    · show getBlk t.far c = effC t.rs t.far c
      rw [ers]
      rfl
    · have hr : r ∈ t.rs := hr
      rw [ers] at hr
      cases hr
  | n + 1, t, hn, h, hw => by
    obtain ⟨r, rs, e, hr, ht⟩ := h.uncons
    have R := hw.uncons e
    obtain ⟨s1, s2⟩ := settleR_sem R hr ht
    obtain ⟨_, s3, _⟩ := settleR_ok hr ht (by omega)
    obtain ⟨i1, i2, i3, i4⟩ := shT_sem (n := n) (by omega) s3 s1
    rw [shT_cons e]
    have he : ∀ c, eff (shT n (settleR n r { t with rs := rs }).2) c = effR r { t with rs := rs } c := fun c => by rw [i2, s2]
    obtain ⟨c1, c2⟩ := clean_eff R hr he
    have hfar : ∀ c, getBlk (shT n (settleR n r { t with rs := rs }).2).far c = effR r { t with rs := rs } c := fun c => by rw [i3, s2]
    refine ⟨RW.cons ⟨clean_w R.w, fun ls hm => ⟨fun l hl _ => c1 l ⟨ls, hm, hl⟩, fun _ l hl => (InR.unclean ⟨ls, hm, hl⟩).1⟩, i1⟩, fun c => ?_, fun c => ?_, fun q hq l hl => ?_⟩
    · rw [eff_cons, c2, eff_uncons e]
    · rw [eff_uncons e]
      exact hfar c
    · show l.d = false ∧ l.ns = getBlk (shT n (settleR n r { t with rs := rs }).2).far l.b
      rcases List.mem_cons.mp hq with z | hq
      · rw [z] at hl
        refine ⟨hl.unclean.1, ?_⟩
        rw [c1 l hl, he, hfar]
      · exact i4 q hq l hl
theorem blk_ext {a b : List Int} (ha : a.length = 64) (hb : b.length = 64) (h : ∀ c, c < 16 → getBlk a c = getBlk b c) : a = b := by
  apply List.ext_getElem?
  intro i
  by_cases hi : i < 64
  · have := congrArg (fun z : List Int => z[i % 4]?) (h (i / 4) (by omega))
    unfold getBlk at this
    rw [List.getElem?_take_of_lt (by omega), List.getElem?_take_of_lt (by omega), List.getElem?_drop, List.getElem?_drop] at this
    have e : i / 4 * 4 + i % 4 = i := by omega
    rw [e] at this
    exact this
  · rw [List.getElem?_eq_none (by omega), List.getElem?_eq_none (by omega)]
/-- all settled: the far room is as plainly, each line has what it has, none is dirty -/
theorem HCoh.settled {cs : List Int} (h : HCoh ha (getBlk cs)) (hk : HaOk n m ha) (hcs : cs.length = 64) : HCoh (hSettle n ha) (getBlk cs) ∧ (hSettle n ha).t.far = cs ∧ (∀ r ∈ (hSettle n ha).own ++ (hSettle n ha).t.rs, RmW r ∧ ∀ l, InR l r → l.d = false ∧ l.ns = getBlk cs l.b) := by
  have h1 := h.settleN hk m (Nat.le_refl _)
  rw [List.take_of_length_le (by rw [hk.len]; exact Nat.le_refl _), List.drop_of_length_le (by rw [hk.len]; exact Nat.le_refl _), List.append_nil] at h1
  obtain ⟨g1, g2⟩ := ownT_ok hk.n2 hk.own hk.t
  obtain ⟨s1, s2, s3, s4⟩ := shT_sem hk.n2 g1 h1.t
  have hcl : ∀ r ∈ ha.own.map cleanR, ∀ l, InR l r → l.d = false := fun r hr l hl => by
    obtain ⟨r0, _, rfl⟩ := List.mem_map.mp hr
    exact hl.unclean.1
  have hef : ∀ c, eff (ownT n ha.own ha.t) c = getBlk cs c := fun c => h1.ef c fun r hr l hl _ => hcl r hr l hl
  obtain ⟨ok1, _⟩ := shT_ok hk.n2 g1
  have hfar : (hSettle n ha).t.far = cs := blk_ext ok1.far hcs fun c _ => (s3 c).trans (hef c)
  refine ⟨⟨h1.w, h1.th, s1, h1.pn, h1.one, fun c hc => (s2 c).trans (hef c)⟩, hfar, fun r hr => ?_⟩
  rcases List.mem_append.mp hr with hr | hr
  · exact ⟨h1.w r hr, fun l hl => ⟨hcl r hr l hl, h1.pn r hr l hl⟩⟩
  · have hw : ∀ (rs : List Rm) (far : List Int), ChW rs far → ∀ r ∈ rs, RmW r := by
      intro rs
      induction rs with
      | nil => intro far _ r hr; cases hr
      | cons a rs ih =>
        intro far hw r hr
        rcases List.mem_cons.mp hr with e | hr
        · rw [e]
          exact hw.1
        · exact ih far hw.2.2 r hr
    refine ⟨hw _ _ s1 r hr, fun l hl => ?_⟩
    obtain ⟨d1, d2⟩ := s4 r hr l hl
    refine ⟨d1, d2.trans ?_⟩
    have : (shT n (ownT n ha.own ha.t)).far = cs := hfar
    rw [this]
end
-- WwLog
/-! ### what stands in the log -/
def WdOk (w : Str) : Prop := w = "home" ∨ w = "bring" ∨ w = "cell"
def RuP (P : Ent → Prop) (u : Ru) : Prop := ∀ w k, WdOk w → P ⟨u.tl, w, k⟩
structure LogP (P : Ent → Prop) (t : Ta) : Prop where
  rs : ∀ r ∈ t.rs, RuP P r.ru
  log : ∀ e ∈ t.log, P e
structure OpsP (P : Ent → Prop) (o : Ops) : Prop where
  hm : ∀ t b ns, LogP P t → LogP P (o.hm t b ns)
  br : ∀ t b, LogP P t → LogP P (o.br t b).2
  ch : ∀ t p v, LogP P t → LogP P (o.ch t p v)
section
variable {P : Ent → Prop} {o : Ops} {u : Ru} {ls : List Ln} {t : Ta}
theorem note_p (h : LogP P t) (hu : RuP P u) (w : Str) (k : Nat) (hw : WdOk w) : LogP P (t.note u.tl w k) := ⟨h.rs, fun e he => by
  rcases List.mem_append.mp he with he | he
  · exact h.log e he
  · rw [List.mem_singleton.mp he]
    exact hu w k hw⟩
theorem passH_p (O : OpsP P o) (h : LogP P t) (hu : RuP P u) (b : Nat) (ns : List Int) : LogP P (passH o u.tl t b ns) := O.hm _ b ns (note_p h hu "home" b (.inl rfl))
theorem passC_p (O : OpsP P o) (h : LogP P t) (hu : RuP P u) (p : Nat) (v : Int) : LogP P (passC o u.tl t p v) := O.ch _ p v (note_p h hu "cell" p (.inr (.inr rfl)))
theorem mkWay_p (O : OpsP P o) (h : LogP P t) (hu : RuP P u) : LogP P (mkWay o u ls t).2 := by
  unfold mkWay
  split
  · cases ls with
    | nil => exact h
    | cons l rest =>
      dsimp only
      split
      · exact passH_p O h hu _ _
      · exact h
  · exact h
theorem reach_p (O : OpsP P o) (h : LogP P t) (hu : RuP P u) (b : Nat) : LogP P (reachL o u ls t b).2.1 := by
  unfold reachL
  split
  · exact h
  · exact O.br _ b (note_p (mkWay_p O h hu) hu "bring" b (.inr (.inl rfl)))
theorem change_p (O : OpsP P o) (h : LogP P t) (hu : RuP P u) (p : Nat) (v : Int) : LogP P (changeL o u ls t p v).2 := by
  unfold changeL
  split
  · exact passC_p O h hu p v
  · dsimp only
    split
    · exact reach_p O h hu _
    · exact passC_p O (reach_p O h hu _) hu p v
theorem home_p (O : OpsP P o) (h : LogP P t) (hu : RuP P u) (b : Nat) (ns : List Int) : LogP P (homeL o u ls t b ns).2 := by
  unfold homeL
  split
  · split
    · dsimp only
      split
      · exact mkWay_p O h hu
      · exact passH_p O (mkWay_p O h hu) hu b ns
    · exact passH_p O h hu b ns
  · dsimp only
    split
    · exact h
    · exact passH_p O h hu b ns
theorem yield_p (O : OpsP P o) (h : LogP P t) (hu : RuP P u) (b : Nat) (g : Bool) : LogP P (yieldL o u ls t b g).2 := by
  unfold yieldL
  split
  · exact h
  · dsimp only
    split
    · exact passH_p O h hu b _
    · exact h
theorem settleL_p (O : OpsP P o) (hu : RuP P u) : ∀ {ls : List Ln} {t : Ta}, LogP P t → LogP P (settleL o u ls t).2
  | [], t, h => h
  | l :: r, t, h => by
    refine settleL_p O hu (ls := r) ?_
    split
    · exact passH_p O h hu _ _
    · exact h
theorem settleS_p (O : OpsP P o) (hu : RuP P u) : ∀ {ss : List (List Ln)} {t : Ta}, LogP P t → LogP P (settleS o u ss t).2
  | [], t, h => h
  | ls :: r, t, h => settleS_p O hu (ss := r) (settleL_p O hu h)
theorem LogP.tail {r : Rm} {rs : List Rm} (h : LogP P t) (e : t.rs = r :: rs) : RuP P r.ru ∧ LogP P { t with rs := rs } := ⟨h.rs r (by rw [e]; exact List.mem_cons_self), fun q hq => h.rs q (by rw [e]; exact List.mem_cons_of_mem _ hq), h.log⟩
theorem LogP.cons {r : Rm} (h : LogP P t) (hr : RuP P r.ru) : LogP P (Ta.cons r t) := ⟨fun q hq => by
  rcases List.mem_cons.mp hq with e | hq
  · rw [e]
    exact hr
  · exact h.rs q hq, h.log⟩
end
theorem ops_p {P : Ent → Prop} : ∀ n, OpsP P (ops n)
  | 0 => ⟨fun t b ns h => ⟨h.rs, h.log⟩, fun t b h => h, fun t p v h => ⟨h.rs, h.log⟩⟩
  | n + 1 => {
    hm := fun t b ns h => by
      show LogP P (match t.rs with | [] => t | r :: rs => _)
      cases e : t.rs with
      | nil => exact h
      | cons r rs =>
        obtain ⟨h1, h2⟩ := h.tail e
        exact LogP.cons (home_p (ops_p n) h2 h1 b ns) h1
    br := fun t b h => by
      show LogP P (match t.rs with | [] => ([], t) | r :: rs => _ : List Int × Ta).2
      cases e : t.rs with
      | nil => exact h
      | cons r rs =>
        obtain ⟨h1, h2⟩ := h.tail e
        exact LogP.cons (reach_p (ops_p n) h2 h1 b) h1
    ch := fun t p v h => by
      show LogP P (match t.rs with | [] => t | r :: rs => _)
      cases e : t.rs with
      | nil => exact h
      | cons r rs =>
        obtain ⟨h1, h2⟩ := h.tail e
        exact LogP.cons (change_p (ops_p n) h2 h1 p v) h1 }
-- WwS3
/-! ### a hall's log -/
structure HaP (P : Ent → Prop) (ha : Ha) : Prop where
  own : ∀ r ∈ ha.own, RuP P r.ru
  t : LogP P ha.t
section
variable {P : Ent → Prop} {ha : Ha} {n : Nat}
theorem HaP.set (h : HaP P ha) {i : Nat} {r : Rm} {t : Ta} (hr : RuP P r.ru) (ht : LogP P t) : HaP P ⟨ha.own.set i r, t⟩ := ⟨fun q hq => by
  rcases List.mem_or_eq_of_mem_set hq with hq | e
  · exact h.own q hq
  · rw [e]
    exact hr, ht⟩
theorem HaP.yieldAt (h : HaP P ha) (b : Nat) (g : Bool) (i : Nat) : HaP P (yieldAt n ha b g i) := by
  unfold Ww.yieldAt
  cases e : ha.own[i]? with
  | none => exact h
  | some r =>
    have hr := h.own r (List.mem_of_getElem? e)
    exact h.set hr (yield_p (ops_p n) h.t hr b g)
theorem HaP.askN (h : HaP P ha) (b hand : Nat) (g : Bool) : ∀ k, HaP P (askN n hand b g k ha)
  | 0 => h
  | k + 1 => by
    unfold Ww.askN
    split
    · exact HaP.askN h b hand g k
    · exact (HaP.askN h b hand g k).yieldAt b g k
theorem HaP.deed (h : HaP P ha) (d : Deed) : HaP P (doDeed n ha d).2 := by
  cases d with
  | look hh p =>
    show HaP P (lookAt n (ask n ha hh (p / 4) false) hh p).2
    have h1 : HaP P (ask n ha hh (p / 4) false) := h.askN (p / 4) hh false _
    unfold lookAt
    cases e : (ask n ha hh (p / 4) false).own[hh]? with
    | none => exact h1
    | some r =>
      have hr := h1.own r (List.mem_of_getElem? e)
      exact h1.set hr (reach_p (ops_p n) h1.t hr _)
  | set hh p v =>
    show HaP P (changeAt n (ask n ha hh (p / 4) true) hh p v)
    have h1 : HaP P (ask n ha hh (p / 4) true) := h.askN (p / 4) hh true _
    unfold changeAt
    cases e : (ask n ha hh (p / 4) true).own[hh]? with
    | none => exact h1
    | some r =>
      have hr := h1.own r (List.mem_of_getElem? e)
      exact h1.set hr (change_p (ops_p n) h1.t hr p v)
theorem ownT_p : ∀ {rs : List Rm} {t : Ta}, (∀ r ∈ rs, RuP P r.ru) → LogP P t → LogP P (ownT n rs t)
  | [], t, _, h => h
  | r :: rs, t, hr, h => ownT_p (rs := rs) (fun q hq => hr q (List.mem_cons_of_mem _ hq)) (settleS_p (ops_p n) (hr r List.mem_cons_self) h)
theorem shT_p : ∀ {n : Nat} {t : Ta}, LogP P t → LogP P (shT n t)
  | 0, t, h => h
  | n + 1, t, h => by
    show LogP P (match t.rs with | [] => t | r :: rs => _)
    cases e : t.rs with
    | nil => exact h
    | cons r rs =>
      obtain ⟨h1, h2⟩ := h.tail e
      exact LogP.cons (shT_p (n := n) (settleS_p (ops_p n) h1 h2)) h1
theorem HaP.settle (h : HaP P ha) : HaP P (hSettle n ha) := ⟨fun r hr => by
  obtain ⟨q, hq, rfl⟩ := List.mem_map.mp hr
  exact h.own q hq, shT_p (ownT_p h.own h.t)⟩
end
def EntI (e : Ent) : Prop := (∃ a b : Nat, e.tl = [.int a, .int b]) ∧ WdOk e.w
theorem hall0_p (us : List Rul) (m : Nat) : HaP EntI (hall0 us m) := by
  refine ⟨fun r hr => ?_, ⟨?_, fun e he => by cases he⟩⟩
  · obtain ⟨h, _, rfl⟩ := List.mem_map.mp hr
    exact fun w k hw => ⟨⟨0, h, rfl⟩, hw⟩
  · have : ∀ (us : List Rul) (lev : Nat), ∀ r ∈ shRs lev us, RuP EntI r.ru := by
      intro us
      induction us with
      | nil => intro lev r hr; cases hr
      | cons u us ih =>
        intro lev r hr
        rcases List.mem_cons.mp hr with e | hr
        · rw [e]
          exact fun w k hw => ⟨⟨lev, 0, rfl⟩, hw⟩
        · exact ih (lev + 1) r hr
    exact this _ _
def vD : V → PyData
  | .int i => .int i
  | _ => .none
def entD (e : Ent) : PyData := .tuple (e.tl.map vD ++ [.str e.w, .int e.n])
theorem entD_dp {C : List Cell} {a : Addr} {e : Ent} (h : (a, HO.tup e.vs) ∈ C) (he : EntI e) : DpL C (.ref a) (entD e) := by
  obtain ⟨⟨x, y, e1⟩, _⟩ := he
  unfold Ent.vs at h
  unfold entD
  rw [e1] at h ⊢
  exact .tup h (.cons (.int _) (.cons (.int _) (.cons (.str _) (.cons (.int _) .nil))))
theorem logD {C : List Cell} : ∀ {as : List Addr} {es : List Ent}, TA C as (es.map Ent.vs) → (∀ e ∈ es, EntI e) → DpsL C (as.map V.ref) (es.map entD)
  | [], [], _, _ => .nil
  | [], _ :: _, h, _ => h.elim
  | _ :: _, [], h, _ => h.elim
  | a :: as, e :: es, h, he => .cons (entD_dp h.1 (he e List.mem_cons_self)) (logD h.2 fun q hq => he q (List.mem_cons_of_mem _ hq))
theorem wd_ok {w : Str} (h : WdOk w) : PyData.canLay0 (.str w) = true := by
  rcases h with e | e | e <;> subst e <;> decide +kernel
theorem entD_lay {e : Ent} (h : EntI e) : (entD e).canLay0 = true ∧ (entD e).depth ≤ 1 := by
  obtain ⟨⟨x, y, e1⟩, hw⟩ := h
  unfold entD
  rw [e1]
  refine ⟨?_, ?_⟩
  · show (PyData.canLay0 (.int x) && (PyData.canLay0 (.int y) && (PyData.canLay0 (.str e.w) && (PyData.canLay0 (.int e.n) && true)))) = true
    rw [wd_ok hw]
    rfl
  · show PyData.depthAll [.int x, .int y, .str e.w, .int e.n] + 1 ≤ 1
    simp [PyData.depthAll, PyData.depth]
theorem logs_shaped {es : List Ent} (h : ∀ e ∈ es, EntI e) : SeqAt.shaped (.list (es.map entD)) = true := by
  have key : ∀ es : List Ent, (∀ e ∈ es, EntI e) → PyData.canLayAll0 (es.map entD) = true ∧ PyData.depthAll (es.map entD) ≤ 1 := by
    intro es
    induction es with
    | nil => intro _; exact ⟨rfl, by show 0 ≤ 1; omega⟩
    | cons e es ih =>
      intro h
      obtain ⟨i1, i2⟩ := ih fun q hq => h q (List.mem_cons_of_mem _ hq)
      obtain ⟨a1, a2⟩ := entD_lay (h e List.mem_cons_self)
      refine ⟨?_, ?_⟩
      · show (PyData.canLay0 (entD e) && PyData.canLayAll0 (es.map entD)) = true
        rw [a1, i1]
        rfl
      · show max (PyData.depth (entD e)) (PyData.depthAll (es.map entD)) ≤ 1
        omega
  obtain ⟨h1, h2⟩ := key es h
  refine shaped_of h1 ?_
  show PyData.depthAll (es.map entD) + 1 ≤ 64
  omega
/-! ### nothing to settle -/
def Clean (r : Rm) : Prop := ∀ l, InR l r → l.d = false
theorem cleanR_self {r : Rm} (h : Clean r) : cleanR r = r := by
  have : (r.ss.map fun ls => ls.map fun l => ({ l with d := false } : Ln)) = r.ss := by
    have h2 : ∀ ls ∈ r.ss, (ls.map fun l => ({ l with d := false } : Ln)) = ls := fun ls hm => by
      have : ∀ l ∈ ls, ({ l with d := false } : Ln) = l := fun l hl => by
        have hd := h l ⟨ls, hm, hl⟩
        cases l with
        | mk b ns d =>
          have hd : d = false := hd
          rw [hd]
      exact List.map_congr_left this |>.trans (List.map_id' ls)
    exact List.map_congr_left h2 |>.trans (List.map_id' r.ss)
  unfold cleanR
  rw [this]
theorem settleL_clean {o : Ops} {u : Ru} : ∀ {ls : List Ln} {t : Ta}, (∀ l ∈ ls, l.d = false) → (settleL o u ls t).2 = t
  | [], t, _ => rfl
  | l :: r, t, h => by
    show (settleL o u r (if l.d = true then _ else t)).2 = t
    rw [h l List.mem_cons_self, if_neg Bool.false_ne_true]
    exact settleL_clean fun q hq => h q (List.mem_cons_of_mem _ hq)
theorem settleS_clean {o : Ops} {u : Ru} : ∀ {ss : List (List Ln)} {t : Ta}, (∀ ls ∈ ss, ∀ l ∈ ls, l.d = false) → (settleS o u ss t).2 = t
  | [], t, _ => rfl
  | ls :: r, t, h => by
    show (settleS o u r (settleL o u ls t).2).2 = t
    rw [settleL_clean (h ls List.mem_cons_self)]
    exact settleS_clean fun q hq => h q (List.mem_cons_of_mem _ hq)
theorem settleR_clean {n : Nat} {r : Rm} {t : Ta} (h : Clean r) : (settleR n r t).2 = t := settleS_clean fun ls hm l hl => h l ⟨ls, hm, hl⟩
def spRSettle0 (K : PySem.W.Frag) : Sp := fun vs H Q _ => ∃ (a : Addr) (be : Pa) (di : Addr) (r : Rm) (C1 R : List Cell), vs = [.ref a] ∧ RmRepK K di a be r C1 ∧ Clean r ∧ Own H (C1 ++ R) ∧ Q .non H
def spHSettle0 (K : PySem.W.Frag) : Sp := fun vs H Q _ => ∃ (x : Addr) (n m : Nat) (ha : Ha) (C R : List Cell), vs = [.ref x] ∧ HaOk n m ha ∧ HallRep K x ha C ∧ (∀ r ∈ ha.own ++ ha.t.rs, Clean r) ∧ Own H (C ++ R) ∧ ∀ H' : Hp, Own H' (C ++ R) → Q .non H'
section
variable {P : Program} {w : World} {K : PySem.W.Frag} {mg : Str → Option Value} {base : Heap} {n lv : Nat}
end
-- WwAl
/-! ### alike -/
def rIxS (K : PySem.W.Frag) : R2 := fun x y H Q => rIxL K x y H Q ∨ rIxT K x y H Q
theorem ix_sq {X : Cx} : IxR X (rIxS X.K) := fun value slice pins s σ H x y v u Q I rx ry h hs => h.elim (fun h => ix_list value slice pins s σ H x y v u Q I rx ry h hs) (fun h => ix_tup value slice pins s σ H x y v u Q I rx ry h hs)
/-- data of at most so many layers, of lists that are not too long -/
def AlD : Nat → PyData → Prop
  | 0, _ => False
  | n + 1, .list ds => ds.length ≤ 100000 ∧ ∀ d ∈ ds, AlD n d
  | n + 1, .tuple ds => ds.length ≤ 100000 ∧ ∀ d ∈ ds, AlD n d
  | _ + 1, .dict _ => False
  | _ + 1, _ => True
def spAlike (n : Nat) : Sp := fun vs H Q _ => ∃ (x y : V) (d : PyData) (L : List Cell), vs = [x, y] ∧ DpL L x d ∧ DpL L y d ∧ AlD n d ∧ Own H L ∧ ∀ H', Own H' L → Q (.bl true) H'
theorem kit_anylst {K : PySem.W.Frag} : PySem.W.kitAny K (.type "list") [.type "tuple", .type "list"] = some true :=
  kitAny_cons (b := false) (kit_ty (by decide +kernel)) (fun _ => kitAny_cons (b := true) (kit_ty (by decide +kernel)) (fun z => nomatch z) fun _ => rfl) (fun z => nomatch z)
theorem kit_anytup {K : PySem.W.Frag} : PySem.W.kitAny K (.type "tuple") [.type "tuple", .type "list"] = some true :=
  kitAny_cons (b := true) (kit_ty (by decide +kernel)) (fun z => nomatch z) fun _ => rfl
section
variable {P : Program} {w : World} {K : PySem.W.Frag} {mg : Str → Option Value} {base : Heap} {n lv : Nat}
theorem ok_alike (T : Txt K mg) : ∀ n, FnOk P w K mg base CX0 n (He.fAd K ("_law_alike", none)) T.fd__law_alike ["_law_found", "_law_due"] (spAlike n)
  | 0 => ⟨fun vs H Q E ⟨_, _, _, _, _, _, _, h, _⟩ => h.elim, fun A outer s H args us vs Q E hr he hb hv ⟨_, _, _, _, _, _, _, h, _⟩ => h.elim⟩
  | n + 1 => by
    have G__law_alike := ok_alike T n
    refine okOf T.F__law_alike sc__law_alike (fun vs H Q E h => ?_) (fun cdv A outer s H vs Q E hr h => ?_)
    · obtain ⟨_, _, _, _, rfl, _⟩ := h
      rfl
    · obtain ⟨x, y, d, L, rfl, hx, hy, hd, O, k⟩ := h
      refine ⟨_, (pss_cons (ps_if (PW.pt (pw_or (pt_val (pe_callB call_isi (by rfl) T.n_isinstance (by decide +kernel) (pa_cons (pv 1) (pa_cons (pe_bltn (v := .ty "tuple") (by rfl) T.n_tuple (by decide +kernel) rfl) pa_nil)))) (pw_or1 (pt_val (pe_callB call_isi (by rfl) T.n_isinstance (by decide +kernel) (pa_cons (pv 1) (pa_cons (pe_bltn (v := .ty "list") (by rfl) T.n_list (by decide +kernel) rfl) pa_nil))))))) (pss_cons (ps_if (PW.pt (pw_or (pt_cmpR op_ne (pe_callB call_isi (by rfl) T.n_isinstance (by decide +kernel) (pa_cons (pv 0) (pa_cons (pe_bltn (v := .ty "tuple") (by rfl) T.n_tuple (by decide +kernel) rfl) pa_nil))) (pe_callB call_isi (by rfl) T.n_isinstance (by decide +kernel) (pa_cons (pv 1) (pa_cons (pe_bltn (v := .ty "tuple") (by rfl) T.n_tuple (by decide +kernel) rfl) pa_nil))) (nomark _)) (pw_or1 (pt_not (pt_val (pe_callB call_isiT (by rfl) T.n_isinstance (by decide +kernel) (pa_cons (pv 0) (pa_cons (pe_tup (pa_cons (pe_bltn (v := .ty "tuple") (by rfl) T.n_tuple (by decide +kernel) rfl) (pa_cons (pe_bltn (v := .ty "list") (by rfl) T.n_list (by decide +kernel) rfl) pa_nil))) pa_nil)))))))) (pss_one (ps_ret pe_bl)) pss_nil) (pss_cons (ps_if (pt_cmpR op_ne (pe_callB call_len_seq (by rfl) T.n_len PySem.boot_len (pa_cons (pv 0) pa_nil)) (pe_callB call_len_seq (by rfl) T.n_len PySem.boot_len (pa_cons (pv 1) pa_nil)) (nomark _)) (pss_one (ps_ret pe_bl)) pss_nil) (pss_one (ps_ret (pe_cmpR (op_eqD hr.units) (pe_lc (tt := (tNot (tB (tCall (spAlike n) [] E0 (tCons (tOp (rIxS K) (tVar 0) (tVar 2)) (tCons (tOp (rIxS K) (tVar 1) (tVar 2)) tNil)))))) (own := [("_law_k", 2)]) (by rfl) sc__law_alike.nd (pi_range1 (by rfl) T.n_range (pa_cons (pe_callB call_len_seq (by rfl) T.n_len PySem.boot_len (pa_cons (pv 1) pa_nil)) pa_nil)) (blkOk_by (own := [("_law_k", 2)]) (by kernel_rfl)) (fun _ _ _ _ _ => (pg_name (i := 2) sc__law_alike.nd rfl (Or.inl rfl))) (fun _ _ _ _ _ => (pts_one (pt_not (pt_val (pe_call G__law_alike (hr.mono (by omega)) rfl T.g__law_alike T.k__law_alike T.b__law_alike .nil pass0 (pa_cons (pe_ix ix_sq (pv 0) (pv 2) (fun _ _ => rfl)) (pa_cons (pe_ix ix_sq (pv 1) (pv 2) (fun _ _ => rfl)) pa_nil))))))) (fun _ _ _ _ _ => (pv 2))) (pe_lst pa_nil) (nomark _)))))) pss_nil) (pss_cons (ps_if (PW.pt (pw_or (pt_cmpR op_isN (pv 1) pe_non (nomark _)) (pw_or1 (pt_cmpR op_isN (pv 0) pe_non (nomark _))))) (pss_one (ps_ret (pe_and (pe_cmpR op_isN (pv 1) pe_non (nomark _)) (pe_one (pe_cmpR op_isN (pv 0) pe_non (nomark _)))))) pss_nil) (pss_cons (ps_if (PW.pt (pw_or (pt_val (pe_callB call_isi (by rfl) T.n_isinstance (by decide +kernel) (pa_cons (pv 1) (pa_cons (pe_bltn (v := .ty "bool") (by rfl) T.n_bool (by decide +kernel) rfl) pa_nil)))) (pw_or1 (pt_val (pe_callB call_isi (by rfl) T.n_isinstance (by decide +kernel) (pa_cons (pv 0) (pa_cons (pe_bltn (v := .ty "bool") (by rfl) T.n_bool (by decide +kernel) rfl) pa_nil))))))) (pss_one (ps_ret (pe_and (pe_callB call_isi (by rfl) T.n_isinstance (by decide +kernel) (pa_cons (pv 1) (pa_cons (pe_bltn (v := .ty "bool") (by rfl) T.n_bool (by decide +kernel) rfl) pa_nil))) (pe_and (pe_callB call_isi (by rfl) T.n_isinstance (by decide +kernel) (pa_cons (pv 0) (pa_cons (pe_bltn (v := .ty "bool") (by rfl) T.n_bool (by decide +kernel) rfl) pa_nil))) (pe_one (pe_cmpR op_eq (pv 0) (pv 1) (nomark _))))))) pss_nil) (pss_cons (ps_if (pt_val (pe_callB call_isi (by rfl) T.n_isinstance (by decide +kernel) (pa_cons (pv 1) (pa_cons (pe_bltn (v := .ty "str") (by rfl) T.n_str (by decide +kernel) rfl) pa_nil)))) (pss_one (ps_ret (pe_and (pe_callB call_isi (by rfl) T.n_isinstance (by decide +kernel) (pa_cons (pv 0) (pa_cons (pe_bltn (v := .ty "str") (by rfl) T.n_str (by decide +kernel) rfl) pa_nil))) (pe_one (pe_cmpR op_eq (pv 0) (pv 1) (nomark _)))))) pss_nil) (pss_one (ps_ret (pe_and (pe_callB call_isi (by rfl) T.n_isinstance (by decide +kernel) (pa_cons (pv 0) (pa_cons (pe_bltn (v := .ty "int") (by rfl) T.n_int (by decide +kernel) rfl) pa_nil))) (pe_one (pe_cmpR op_eq (pv 0) (pv 1) (nomark _)))))))))), ?_⟩
      cases hx with
      | non =>
        cases hy
        refine ⟨_, rfl, _, _, _, _, false, rfl, ClsV.ty _, TyX.base (.non), kit_ty (by decide +kernel), _, rfl, iteF ?_⟩
        refine ⟨_, rfl, _, _, _, _, false, rfl, ClsV.ty _, TyX.base (.non), kit_ty (by decide +kernel), _, rfl, iteF ?_⟩
        refine ⟨_, rfl, rfl, true, by rw [decide_eq_true rfl], iteT (iteT ?_)⟩
        refine ⟨_, rfl, rfl, true, by rw [decide_eq_true rfl], iteT ⟨_, rfl, rfl, ?_⟩⟩
        rw [decide_eq_true rfl]
        exact k H O
      | bl b =>
        cases hy
        refine ⟨_, rfl, _, _, _, _, false, rfl, ClsV.ty _, TyX.base (.bl b), kit_ty (by decide +kernel), _, rfl, iteF ?_⟩
        refine ⟨_, rfl, _, _, _, _, false, rfl, ClsV.ty _, TyX.base (.bl b), kit_ty (by decide +kernel), _, rfl, iteF ?_⟩
        refine ⟨_, rfl, rfl, false, by rw [decide_eq_false (fun e => nomatch e)], iteF ?_⟩
        refine ⟨_, rfl, rfl, false, by rw [decide_eq_false (fun e => nomatch e)], iteF ?_⟩
        refine ⟨_, rfl, _, _, _, _, true, rfl, ClsV.ty _, TyX.base (.bl b), kit_ty (by decide +kernel), _, rfl, iteT (iteT ?_)⟩
        refine ⟨_, rfl, _, _, _, _, true, rfl, ClsV.ty _, TyX.base (.bl b), kit_ty (by decide +kernel), _, rfl, iteT ?_⟩
        refine ⟨_, rfl, _, _, _, _, true, rfl, ClsV.ty _, TyX.base (.bl b), kit_ty (by decide +kernel), _, rfl, iteT ?_⟩
        refine ⟨_, rfl, _, rfl, rfl, ?_⟩
        rw [decide_eq_true rfl]
        exact k H O
      | int i =>
        cases hy
        refine ⟨_, rfl, _, _, _, _, false, rfl, ClsV.ty _, TyX.base (.int i), kit_ty (by decide +kernel), _, rfl, iteF ?_⟩
        refine ⟨_, rfl, _, _, _, _, false, rfl, ClsV.ty _, TyX.base (.int i), kit_ty (by decide +kernel), _, rfl, iteF ?_⟩
        refine ⟨_, rfl, rfl, false, by rw [decide_eq_false (fun e => nomatch e)], iteF ?_⟩
        refine ⟨_, rfl, rfl, false, by rw [decide_eq_false (fun e => nomatch e)], iteF ?_⟩
        refine ⟨_, rfl, _, _, _, _, false, rfl, ClsV.ty _, TyX.base (.int i), kit_ty (by decide +kernel), _, rfl, iteF ?_⟩
        refine ⟨_, rfl, _, _, _, _, false, rfl, ClsV.ty _, TyX.base (.int i), kit_ty (by decide +kernel), _, rfl, iteF ?_⟩
        refine ⟨_, rfl, _, _, _, _, false, rfl, ClsV.ty _, TyX.base (.int i), kit_ty (by decide +kernel), _, rfl, iteF ?_⟩
        refine ⟨_, rfl, _, _, _, _, true, rfl, ClsV.ty _, TyX.base (.int i), kit_ty (by decide +kernel), _, rfl, iteT ?_⟩
        refine ⟨_, rfl, _, rfl, rfl, ?_⟩
        rw [decide_eq_true rfl]
        exact k H O
      | str z =>
        cases hy
        refine ⟨_, rfl, _, _, _, _, false, rfl, ClsV.ty _, TyX.base (.str z), kit_ty (by decide +kernel), _, rfl, iteF ?_⟩
        refine ⟨_, rfl, _, _, _, _, false, rfl, ClsV.ty _, TyX.base (.str z), kit_ty (by decide +kernel), _, rfl, iteF ?_⟩
        refine ⟨_, rfl, rfl, false, by rw [decide_eq_false (fun e => nomatch e)], iteF ?_⟩
        refine ⟨_, rfl, rfl, false, by rw [decide_eq_false (fun e => nomatch e)], iteF ?_⟩
        refine ⟨_, rfl, _, _, _, _, false, rfl, ClsV.ty _, TyX.base (.str z), kit_ty (by decide +kernel), _, rfl, iteF ?_⟩
        refine ⟨_, rfl, _, _, _, _, false, rfl, ClsV.ty _, TyX.base (.str z), kit_ty (by decide +kernel), _, rfl, iteF ?_⟩
        refine ⟨_, rfl, _, _, _, _, true, rfl, ClsV.ty _, TyX.base (.str z), kit_ty (by decide +kernel), _, rfl, iteT ?_⟩
        refine ⟨_, rfl, _, _, _, _, true, rfl, ClsV.ty _, TyX.base (.str z), kit_ty (by decide +kernel), _, rfl, iteT ?_⟩
        refine ⟨_, rfl, _, rfl, rfl, ?_⟩
        rw [decide_eq_true rfl]
        exact k H O
      | @lst a1 xs1 ds h1 r1 =>
        cases hy with
        | @lst a2 xs2 _ h2 r2 =>
          have m1 := O.mem h1
          have m2 := O.mem h2
          have e1 := r1.len
          have e2 := r2.len
          obtain ⟨hd1, hd2⟩ : ds.length ≤ 100000 ∧ ∀ d ∈ ds, AlD n d := hd
          refine ⟨_, rfl, _, _, _, _, false, rfl, ClsV.ty _, TyX.base (.lst m2), kit_ty (by decide +kernel), _, rfl, iteF ?_⟩
          refine ⟨_, rfl, _, _, _, _, true, rfl, ClsV.ty _, TyX.base (.lst m2), kit_ty (by decide +kernel), _, rfl, iteT ?_⟩
          refine ⟨_, rfl, _, _, _, _, false, rfl, ClsV.ty _, TyX.base (.lst m1), kit_ty (by decide +kernel), ?_⟩
          refine ⟨_, rfl, _, _, _, _, false, rfl, ClsV.ty _, TyX.base (.lst m2), kit_ty (by decide +kernel), rfl, false, by rw [decide_eq_true rfl]; rfl, iteF ?_⟩
          refine ⟨_, rfl, by show 2 ≤ sizeLine; decide, fun tp htp => ?_⟩
          have O1 := O.new (o := .tup [.ty "tuple", .ty "list"]) htp
          refine ⟨_, tp, _, _, [.type "tuple", .type "list"], true, rfl, O1.a0, ?_, TyX.base (.lst (O1.tail.mem h1)), ?_, _, rfl, iteF ?_⟩
          · exact .cons (ClsV.ty _) (.cons (ClsV.ty _) .nil)
          · exact kit_anylst
          replace O1 := O1.tail
          generalize upd H tp _ = H1 at O1 ⊢
          refine ⟨_, rfl, a1, _, rfl, .inl (SqL.of (O1.mem h1)), _, rfl, a2, _, rfl, .inl (SqL.of (O1.mem h2)), rfl, false, by rw [e1, e2, decide_eq_true rfl]; rfl, iteF ?_⟩
          refine ⟨_, rfl, a2, _, rfl, .inl (SqL.of (O1.mem h2)), (xs2.length : Int), rfl, by omega, by omega, fun D hD => ?_⟩
          refine lc_range (lo := 0) (n := xs2.length) (fun i H' => Own H' ((D, .lst []) :: L)) (O1.new hD) ?_ ?_
          · rintro i H2 hi O2
            have ei : (0 : Int) + (i : Int) = ((i : Nat) : Int) := by omega
            rw [ei]
            obtain ⟨d, hdi⟩ : ∃ d, ds[i]? = some d := ⟨_, List.getElem?_eq_getElem (by omega)⟩
            obtain ⟨v1, hv1, p1⟩ := r1.get' hdi
            obtain ⟨v2, hv2, p2⟩ := r2.get' hdi
            have hs : ∀ c ∈ L, c ∈ (D, HO.lst []) :: L := fun c hc => List.mem_cons_of_mem _ hc
            exact ⟨rfl, _, rfl, _, rfl, .inl ⟨a1, _, _, v1, rfl, rfl, SqL.of (O2.mem (hs _ h1)), atI_nat hv1, _, rfl, _, rfl, .inl ⟨a2, _, _, v2, rfl, rfl, SqL.of (O2.mem (hs _ h2)), atI_nat hv2, v1, v2, d, _, rfl, p1.mono hs, p2.mono hs, hd2 d (List.mem_of_getElem? hdi), O2, fun H3 O3 => ⟨_, rfl, iteF O3⟩⟩⟩⟩
          · intro H2 O2
            refine ⟨by show 0 ≤ sizeLine; decide, fun e he => ?_⟩
            have O3 := O2.new (o := .lst []) he
            refine ⟨.list [], .list [], .lst (SqL.of O3.a1) .nil, .lst (SqL.of O3.a0) .nil, sh0, sh0, ?_⟩
            have ee : PyData.eqv (.list []) (.list []) = true := by decide +kernel
            rw [ee]
            exact k _ O3.tail.tail
      | @tup a1 xs1 ds h1 r1 =>
        cases hy with
        | @tup a2 xs2 _ h2 r2 =>
          have m1 := O.mem h1
          have m2 := O.mem h2
          have e1 := r1.len
          have e2 := r2.len
          obtain ⟨hd1, hd2⟩ : ds.length ≤ 100000 ∧ ∀ d ∈ ds, AlD n d := hd
          refine ⟨_, rfl, _, _, _, _, true, rfl, ClsV.ty _, TyX.base (.tup m2), kit_ty (by decide +kernel), _, rfl, iteT (iteT ?_)⟩
          refine ⟨_, rfl, _, _, _, _, true, rfl, ClsV.ty _, TyX.base (.tup m1), kit_ty (by decide +kernel), ?_⟩
          refine ⟨_, rfl, _, _, _, _, true, rfl, ClsV.ty _, TyX.base (.tup m2), kit_ty (by decide +kernel), rfl, false, by rw [decide_eq_true rfl]; rfl, iteF ?_⟩
          refine ⟨_, rfl, by show 2 ≤ sizeLine; decide, fun tp htp => ?_⟩
          have O1 := O.new (o := .tup [.ty "tuple", .ty "list"]) htp
          refine ⟨_, tp, _, _, [.type "tuple", .type "list"], true, rfl, O1.a0, ?_, TyX.base (.tup (O1.tail.mem h1)), ?_, _, rfl, iteF ?_⟩
          · exact .cons (ClsV.ty _) (.cons (ClsV.ty _) .nil)
          · exact kit_anytup
          replace O1 := O1.tail
          generalize upd H tp _ = H1 at O1 ⊢
          refine ⟨_, rfl, a1, _, rfl, .inr (SqT.of (O1.mem h1)), _, rfl, a2, _, rfl, .inr (SqT.of (O1.mem h2)), rfl, false, by rw [e1, e2, decide_eq_true rfl]; rfl, iteF ?_⟩
          refine ⟨_, rfl, a2, _, rfl, .inr (SqT.of (O1.mem h2)), (xs2.length : Int), rfl, by omega, by omega, fun D hD => ?_⟩
          refine lc_range (lo := 0) (n := xs2.length) (fun i H' => Own H' ((D, .lst []) :: L)) (O1.new hD) ?_ ?_
          · rintro i H2 hi O2
            have ei : (0 : Int) + (i : Int) = ((i : Nat) : Int) := by omega
            rw [ei]
            obtain ⟨d, hdi⟩ : ∃ d, ds[i]? = some d := ⟨_, List.getElem?_eq_getElem (by omega)⟩
            obtain ⟨v1, hv1, p1⟩ := r1.get' hdi
            obtain ⟨v2, hv2, p2⟩ := r2.get' hdi
            have hs : ∀ c ∈ L, c ∈ (D, HO.lst []) :: L := fun c hc => List.mem_cons_of_mem _ hc
            exact ⟨rfl, _, rfl, _, rfl, .inr ⟨a1, _, _, v1, rfl, rfl, SqT.of (O2.mem (hs _ h1)), atI_nat hv1, _, rfl, _, rfl, .inr ⟨a2, _, _, v2, rfl, rfl, SqT.of (O2.mem (hs _ h2)), atI_nat hv2, v1, v2, d, _, rfl, p1.mono hs, p2.mono hs, hd2 d (List.mem_of_getElem? hdi), O2, fun H3 O3 => ⟨_, rfl, iteF O3⟩⟩⟩⟩
          · intro H2 O2
            refine ⟨by show 0 ≤ sizeLine; decide, fun e he => ?_⟩
            have O3 := O2.new (o := .lst []) he
            refine ⟨.list [], .list [], .lst (SqL.of O3.a1) .nil, .lst (SqL.of O3.a0) .nil, sh0, sh0, ?_⟩
            have ee : PyData.eqv (.list []) (.list []) = true := by decide +kernel
            rw [ee]
            exact k _ O3.tail.tail
end
-- WwLy
/-! ### data that can be compared -/
def dD : Deed → PyData
  | .look h p => .tuple [.str "look", .int (h : Nat), .int (p : Nat)]
  | .set h p v => .tuple [.str "set", .int (h : Nat), .int (p : Nat), .int v]
theorem lay_look : PyData.canLay0 (.str "look") = true := by decide +kernel
theorem lay_set : PyData.canLay0 (.str "set") = true := by decide +kernel
theorem lay_bk (b : Bool) : PyData.canLay0 (.str (sBk b)) = true := by cases b <;> decide +kernel
theorem lay_in (b : Bool) : PyData.canLay0 (.str (sIn b)) = true := by cases b <;> decide +kernel
theorem lay_lt (b : Bool) : PyData.canLay0 (.str (sLt b)) = true := by cases b <;> decide +kernel
theorem dD_lay (d : Deed) : (dD d).canLay0 = true ∧ (dD d).depth ≤ 1 := by
  cases d with
  | look h p =>
    refine ⟨?_, Nat.le_refl _⟩
    show (PyData.canLay0 (.str "look") && _) = true
    rw [lay_look]
    rfl
  | set h p v =>
    refine ⟨?_, Nat.le_refl _⟩
    show (PyData.canLay0 (.str "set") && _) = true
    rw [lay_set]
    rfl
theorem dD_dp {N : List Cell} {a : Addr} (d : Deed) (h : (a, HO.tup d.vs) ∈ N) : DpL N (.ref a) (dD d) := by
  cases d with
  | look hh p => exact .tup h (.cons (.str _) (.cons (.int _) (.cons (.int _) .nil)))
  | set hh p v => exact .tup h (.cons (.str _) (.cons (.int _) (.cons (.int _) (.cons (.int _) .nil))))
theorem deeds_dp {N : List Cell} : ∀ {as : List Addr} {ds : List Deed}, TA N as (ds.map Deed.vs) → DpsL N (as.map V.ref) (ds.map dD)
  | [], [], _ => .nil
  | [], _ :: _, h => h.elim
  | _ :: _, [], h => h.elim
  | a :: as, d :: ds, h => .cons (dD_dp d h.1) (deeds_dp h.2)
theorem deeds_shaped (ds : List Deed) : SeqAt.shaped (.list (ds.map dD)) = true := by
  obtain ⟨h1, h2⟩ := layL (xs := ds) fun d _ => dD_lay d
  exact shaped_of h1 (by omega)
def ruD (u : Rul) : PyData := .tuple [.int (u.s : Nat), .int (u.w : Nat), .str (sBk u.bk), .str (sIn u.inn), .str (sLt u.lt)]
theorem ruD_lay (u : Rul) : (ruD u).canLay0 = true ∧ (ruD u).depth ≤ 1 := by
  refine ⟨?_, Nat.le_refl _⟩
  show (true && (true && (PyData.canLay0 (.str (sBk u.bk)) && (PyData.canLay0 (.str (sIn u.inn)) && (PyData.canLay0 (.str (sLt u.lt)) && true))))) = true
  rw [lay_bk, lay_in, lay_lt]
  rfl
theorem rules_dp {N : List Cell} : ∀ {as : List Addr} {us : List Rul}, RA N as us → DpsL N (as.map V.ref) (us.map ruD)
  | [], [], _ => .nil
  | [], _ :: _, h => h.elim
  | _ :: _, [], h => h.elim
  | a :: as, u :: us, h => .cons (.tup h.1 (.cons (.int _) (.cons (.int _) (.cons (.str _) (.cons (.str _) (.cons (.str _) .nil)))))) (rules_dp h.2)
theorem rules_shaped (us : List Rul) : SeqAt.shaped (.list (us.map ruD)) = true := by
  obtain ⟨h1, h2⟩ := layL (xs := us) fun u _ => ruD_lay u
  exact shaped_of h1 (by omega)
theorem alD_ints {n : Nat} {ns : List Int} (h : ns.length ≤ 100000) : AlD (n + 2) (.list (ns.map .int)) := ⟨by rw [List.length_map]; exact h, fun d hd => by
  obtain ⟨i, _, rfl⟩ := List.mem_map.mp hd
  trivial⟩
theorem alD_intsT {n : Nat} {ns : List Int} (h : ns.length ≤ 100000) : AlD (n + 2) (.tuple (ns.map .int)) := ⟨by rw [List.length_map]; exact h, fun d hd => by
  obtain ⟨i, _, rfl⟩ := List.mem_map.mp hd
  trivial⟩
-- WwRp
/-! ### rules and deeds that words write -/
theorem inV_2 {c : V} (h : OkF c) {a b : Str} (e : inV c [.str a, .str b] = true) : c = .str a ∨ c = .str b := by
  obtain ⟨x, hx, e⟩ := List.any_eq_true.mp e
  simp only [List.mem_cons, List.not_mem_nil, or_false] at hx
  cases h with
  | int i =>
    rcases hx with z | z <;> rw [z] at e <;> cases e
  | non =>
    rcases hx with z | z <;> rw [z] at e <;> cases e
  | str s =>
    rcases hx with z | z <;> rw [z] at e
    · exact .inl (by rw [show a = s from eq_of_beq e])
    · exact .inr (by rw [show b = s from eq_of_beq e])
theorem inV_3 {i : Int} (e : inV (.int i) [.int 1, .int 2, .int 4] = true) : i = 1 ∨ i = 2 ∨ i = 4 := by
  rw [show inV (.int i) [.int 1, .int 2, .int 4] = inV (.int i) ([1, 2, 4].map V.int) from rfl, inV_is] at e
  have := of_decide_eq_true e
  simpa using this
theorem num_of {x : V} {lo hi : Int} (e : numIn x lo hi = true) : ∃ i : Int, x = .int i ∧ lo ≤ i ∧ i ≤ hi := by
  cases x with
  | int i => exact ⟨i, rfl, (of_decide_eq_true e).1, (of_decide_eq_true e).2⟩
  | _ => cases e
theorem rule_shape {xs : List V} (hf : ∀ x ∈ xs, OkF x) (h : ruleB xs = true) : ∃ u : Rul, RulOk u ∧ xs = u.vs := by
  unfold ruleB at h
  split at h
  · rename_i a b c d e
    obtain ⟨h1, h⟩ := He.ba h
    obtain ⟨h2, h⟩ := He.ba h
    obtain ⟨h3, h⟩ := He.ba h
    obtain ⟨h4, h⟩ := He.ba h
    obtain ⟨h5, h6⟩ := He.ba h
    obtain ⟨i, rfl, _, _⟩ := num_of h1
    obtain ⟨j, rfl, hj1, hj4⟩ := num_of h3
    have hi := inV_3 h2
    have hc := inV_2 (hf c (by simp)) h4
    have hd := inV_2 (hf d (by simp)) h5
    have he := inV_2 (hf e (by simp)) h6
    obtain ⟨bk, hbk⟩ : ∃ bk : Bool, c = .str (sBk bk) := by
      rcases hc with z | z
      · exact ⟨false, z⟩
      · exact ⟨true, z⟩
    obtain ⟨inn, hin⟩ : ∃ inn : Bool, d = .str (sIn inn) := by
      rcases hd with z | z
      · exact ⟨true, z⟩
      · exact ⟨false, z⟩
    obtain ⟨lt, hlt⟩ : ∃ lt : Bool, e = .str (sLt lt) := by
      rcases he with z | z
      · exact ⟨false, z⟩
      · exact ⟨true, z⟩
    refine ⟨⟨i.toNat, j.toNat, bk, inn, lt⟩, ⟨by show i.toNat = 1 ∨ i.toNat = 2 ∨ i.toNat = 4; omega, by show 1 ≤ j.toNat; omega, by show j.toNat ≤ 4; omega⟩, ?_⟩
    show _ = [V.int ((i.toNat : Nat) : Int), .int ((j.toNat : Nat) : Int), .str (sBk bk), .str (sIn inn), .str (sLt lt)]
    rw [hbk, hin, hlt, Int.toNat_of_nonneg (by omega), Int.toNat_of_nonneg (by omega)]
  · cases h
theorem deed_shape {m : Nat} {xs : List V} (h : deedB (m : Int) xs = true) : ∃ d : Deed, d.ok m ∧ xs = d.vs := by
  unfold deedB at h
  split at h
  · rename_i a b c
    obtain ⟨h1, h⟩ := He.ba h
    obtain ⟨h2, h3⟩ := He.ba h
    obtain ⟨i, rfl, hi1, hi2⟩ := num_of h1
    obtain ⟨j, rfl, hj1, hj2⟩ := num_of h2
    have ha : a = .str "look" := of_decide_eq_true h3
    refine ⟨.look i.toNat j.toNat, ⟨by omega, by omega⟩, ?_⟩
    show _ = [V.str "look", .int ((i.toNat : Nat) : Int), .int ((j.toNat : Nat) : Int)]
    rw [ha, Int.toNat_of_nonneg hi1, Int.toNat_of_nonneg hj1]
  · rename_i a b c d
    obtain ⟨h1, h⟩ := He.ba h
    obtain ⟨h2, h⟩ := He.ba h
    obtain ⟨h3, h4⟩ := He.ba h
    obtain ⟨i, rfl, hi1, hi2⟩ := num_of h1
    obtain ⟨j, rfl, hj1, hj2⟩ := num_of h2
    obtain ⟨v, rfl, hv1, hv2⟩ := num_of h4
    have ha : a = .str "set" := of_decide_eq_true h3
    refine ⟨.set i.toNat j.toNat v, ⟨by omega, by omega, hv1, hv2⟩, ?_⟩
    show _ = [V.str "set", .int ((i.toNat : Nat) : Int), .int ((j.toNat : Nat) : Int), .int v]
    rw [ha, Int.toNat_of_nonneg hi1, Int.toNat_of_nonneg hj1]
  · cases h
def decR : List V → Option Rul
  | [.int s, .int w, .str b, .str i, .str l] => some ⟨s.toNat, w.toNat, decide (b = "back"), decide (i = "in"), decide (l = "late")⟩
  | _ => none
theorem decR_vs (u : Rul) : decR u.vs = some u := by
  obtain ⟨s, w, b, i, l⟩ := u
  cases b <;> cases i <;> cases l <;> (show some _ = some _; congr 1)
def decD : List V → Option Deed
  | [.str _, .int h, .int p] => some (.look h.toNat p.toNat)
  | [.str _, .int h, .int p, .int v] => some (.set h.toNat p.toNat v)
  | _ => none
theorem decD_vs (d : Deed) : decD d.vs = some d := by
  cases d <;> rfl
def ruleP (ws : List Str) : Option Rul := (ruleW ws).bind decR
def deedP (ws : List Str) : Option Deed := (deedW ws).bind decD
theorem ruleP_ok (ws : List Str) : (ruleW ws = none ∧ ruleP ws = none) ∨ ∃ u : Rul, RulOk u ∧ ruleW ws = some u.vs ∧ ruleP ws = some u := by
  cases e : ruleW ws with
  | none => exact .inl ⟨rfl, by unfold ruleP; rw [e]; rfl⟩
  | some xs =>
    have hs : (∀ x ∈ xs, OkF x) ∧ ruleB xs = true := by
      unfold ruleW at e
      split at e
      · split at e
        · rename_i hh
          obtain rfl := Option.some.inj e
          refine ⟨fun x hx => ?_, hh.2⟩
          simp only [List.mem_cons, List.not_mem_nil, or_false] at hx
          rcases hx with z | z | z | z | z <;> rw [z]
          · exact numOf_ok _
          · exact numOf_ok _
          · exact .str _
          · exact .str _
          · exact .str _
        · cases e
      · cases e
    obtain ⟨u, hu, rfl⟩ := rule_shape hs.1 hs.2
    exact .inr ⟨u, hu, rfl, by unfold ruleP; rw [e]; exact decR_vs u⟩
theorem deedP_ok (ws : List Str) : (deedW ws = none ∧ deedP ws = none) ∨ ∃ d : Deed, d.ok 3 ∧ deedW ws = some d.vs ∧ deedP ws = some d := by
  cases e : deedW ws with
  | none => exact .inl ⟨rfl, by unfold deedP; rw [e]; rfl⟩
  | some xs =>
    have hs : deedB ((3 : Nat) : Int) xs = true := by
      unfold deedW at e
      split at e
      · cases e
      · split at e
        · rename_i hh
          obtain rfl := Option.some.inj e
          exact hh.2
        · cases e
    obtain ⟨d, hd, rfl⟩ := deed_shape hs
    exact .inr ⟨d, hd, rfl, by unfold deedP; rw [e]; exact decD_vs d⟩
/-- rows of words, read -/
def rdGo : List (List Str) → List Rul → List Deed → Nat → Nat ⊕ (List Rul × List Deed)
  | [], us, ds, _ => .inr (us, ds)
  | ws :: more, us, ds, i => match (if ds.isEmpty = true ∧ us.length < 3 then ruleP ws else none) with
    | some u => rdGo more (us ++ [u]) ds (i + 1)
    | none => match (if us.isEmpty = false ∧ ds.length < 200 then deedP ws else none) with
      | some d => rdGo more us (ds ++ [d]) (i + 1)
      | none => .inl i
def rowsOf (x : Str) : List (List Str) := (Txt.split x "\n").map fun l => Txt.split l " "
-- WwLn
/-! ### the law's own numbers -/
theorem numL_hd : ∀ (m n : Nat), n ≤ m → 1 ≤ n → (TL.numL n).head? ≠ some 48
  | 0, n, h, h1 => by omega
  | m + 1, n, h, h1 => by
    by_cases h10 : n < 10
    · rw [TL.numL_lt h10]
      show some (48 + n) ≠ some 48
      intro z
      have := Option.some.inj z
      omega
    · rw [TL.numL_step (by omega)]
      have ih := numL_hd m (n / 10) (by omega) (by omega)
      have hne := TL.numL_ne (n / 10)
      cases e : TL.numL (n / 10) with
      | nil => exact (hne e).elim
      | cons a l =>
        rw [e] at ih
        exact ih
theorem digs_back {cs : List Nat} (h : NumText.AllDigits cs) (hne : cs ≠ []) (h0 : cs.head? ≠ some 48) : TL.numL (NumText.digitsVal cs) = cs := by
  obtain ⟨c, r, rfl⟩ : ∃ c r, cs = c :: r := by
    cases cs with
    | nil => exact (hne rfl).elim
    | cons c r => exact ⟨c, r, rfl⟩
  have hc := h c List.mem_cons_self
  have hc2 : c ≠ 48 := fun z => h0 (by rw [z]; rfl)
  unfold TL.numL
  rw [NumText.toDigits_digitsVal r.length (c :: r) rfl h (.inr ⟨c, r, rfl, by omega⟩), List.map_map]
  have : ∀ l : List Nat, NumText.AllDigits l → l.map (Char.toNat ∘ Char.ofNat) = l := fun l => by
    induction l with
    | nil => exact fun _ => rfl
    | cons a l ih =>
      intro hl
      rw [List.map_cons, ih hl.tail]
      have ha := hl a List.mem_cons_self
      have : (Char.ofNat a).toNat = a := by
        rcases (show a = 48 ∨ a = 49 ∨ a = 50 ∨ a = 51 ∨ a = 52 ∨ a = 53 ∨ a = 54 ∨ a = 55 ∨ a = 56 ∨ a = 57 by omega) with e | e | e | e | e | e | e | e | e | e <;> rw [e] <;> rfl
      show (Char.ofNat a).toNat :: l = a :: l
      rw [this]
  exact this _ h
theorem str_back {x : Str} (h : NumText.AllDigits (TL.tl x)) (hne : TL.tl x ≠ []) : decide (V.str (Str.ofString (toString ((NumText.digitsVal (TL.tl x) : Nat) : Int))) = V.str x) = decide (x = "0" ∨ (TL.tl x).head? ≠ some 48) := by
  by_cases hd : x = "0" ∨ (TL.tl x).head? ≠ some 48
  · rw [decide_eq_true hd]
    refine decide_eq_true ?_
    rcases hd with e | e
    · rw [e]
      decide +kernel
    · congr 1
      refine TL.ext_tl ?_
      rw [TL.tl_num]
      exact digs_back h hne e
  · rw [decide_eq_false hd]
    refine decide_eq_false fun z => hd ?_
    have z := congrArg TL.tl (V.str.inj z)
    rw [TL.tl_num] at z
    by_cases h0 : NumText.digitsVal (TL.tl x) = 0
    · left
      refine TL.ext_tl ?_
      rw [← z, h0]
      decide +kernel
    · right
      have := numL_hd _ _ (Nat.le_refl (NumText.digitsVal (TL.tl x))) (by omega)
      rw [z] at this
      exact this
theorem dv_lt : ∀ (cs : List Nat) (a : Nat), NumText.AllDigits cs → cs.foldl (fun acc c => acc * 10 + (c - 48)) a < (a + 1) * 10 ^ cs.length
  | [], a, _ => by
    show a < (a + 1) * 1
    omega
  | c :: r, a, h => by
    have ih := dv_lt r (a * 10 + (c - 48)) h.tail
    have hc := h c List.mem_cons_self
    rw [List.foldl_cons, List.length_cons, Nat.pow_succ]
    refine Nat.lt_of_lt_of_le ih ?_
    rw [Nat.mul_comm (10 ^ r.length) 10, ← Nat.mul_assoc]
    exact Nat.mul_le_mul_right _ (by omega)
theorem dv_1000 {cs : List Nat} (h : NumText.AllDigits cs) (hl : cs.length ≤ 3) : NumText.digitsVal cs < 1000 := by
  have h1 := dv_lt cs 0 h
  rw [Nat.zero_add, Nat.one_mul] at h1
  exact Nat.lt_of_lt_of_le h1 (Nat.pow_le_pow_right (n := 10) (by decide) hl)
/-- a number of at most so much -/
def lnum (x : Str) (most : Nat) : V := match numOf x with
  | .int i => if i ≤ (most : Int) then .int i else .non
  | _ => .non
theorem lnum_no {x : Str} {m : Nat} (h : numOf x = .non) : lnum x m = .non := by
  unfold lnum
  rw [h]
theorem lnum_int {x : Str} {m : Nat} {i : Int} (h : numOf x = .int i) : lnum x m = if i ≤ (m : Int) then .int i else .non := by
  unfold lnum
  rw [h]
def spLNum : Sp := fun vs H Q _ => ∃ (x : Str) (m : Nat) (R : List Cell), vs = [.str x, .int (m : Nat)] ∧ x.length ≤ 100000 ∧ Sgn x ∧ Own H R ∧ ∀ H' : Hp, Own H' R → Q (lnum x m) H'
section
variable {P : Program} {w : World} {K : PySem.W.Frag} {mg : Str → Option Value} {base : Heap} {n lv : Nat}
theorem ok_lnum (T : Txt K mg) : FnOk P w K mg base CX0 1 (He.fAd K ("_law_number", none)) T.fd__law_number ["_law_word_here", "_law_most"] spLNum := by
  refine okOf T.F__law_number sc__law_number (fun vs H Q E h => ?_) (fun cdv A outer s H vs Q E hr h => ?_)
  · obtain ⟨_, _, _, rfl, _⟩ := h
    rfl
  · obtain ⟨x, m, R, rfl, hl, hsg, O, k⟩ := h
    refine ⟨_, (pss_cons (ps_if (PW.pt (pw_or (pt_not (pt_chain op_lt op_lt pe_int (pe_callB call_len_str (by rfl) T.n_len PySem.boot_len (pa_cons (pv 0) pa_nil)) pe_int)) (pw_or1 (pt_cmpR (op_neD hr.units) (pe_lc (own := [("_law_sign", 2)]) (by rfl) sc__law_number.nd (pi_str (pv 0)) (blkOk_by (own := [("_law_sign", 2)]) (by kernel_rfl)) (fun _ _ _ _ _ => (pg_name (i := 2) sc__law_number.nd rfl (Or.inl rfl))) (fun _ _ _ _ _ => (pts_one (pt_cmpR op_notIn_sign (pv 2) pe_str (by rfl)))) (fun _ _ _ _ _ => (pv 2))) (pe_lst pa_nil) (nomark _))))) (pss_one (ps_ret pe_non)) pss_nil) (pss_one (ps_ret (pe_ifExp (PW.pt (pw_and (pt_cmpR op_eq (pe_callTy call_str_int (by rfl) T.n_str (by decide +kernel) (pa_cons (pe_callTy call_int_str (by rfl) T.n_int (by decide +kernel) (pa_cons (pv 0) pa_nil)) pa_nil)) (pv 0) (nomark _)) (pw_and1 (pt_cmpR op_le (pe_callTy call_int_str (by rfl) T.n_int (by decide +kernel) (pa_cons (pv 0) pa_nil)) (pv 1) (nomark _))))) (pe_callTy call_int_str (by rfl) T.n_int (by decide +kernel) (pa_cons (pv 0) pa_nil)) pe_non)))), ?_⟩
    have hsz : x.length ≤ sizeLine := Nat.le_of_lt (size1 (by omega))
    refine ⟨_, rfl, x, rfl, hsz, _, _, rfl, rfl, _, rfl, ?_⟩
    by_cases h1 : 1 ≤ x.length
    · refine iteTo (decide_eq_true (show (0 : Int) < ((x.length : Nat) : Int) by omega)) ?_
      refine ⟨_, _, rfl, rfl, _, rfl, ?_⟩
      by_cases h3 : x.length ≤ 3
      · rw [decide_eq_true (show ((x.length : Nat) : Int) < 4 by omega)]
        refine iteF ?_
        refine ⟨_, rfl, x, rfl, fun D hD => ?_⟩
        refine lc_str (x := x) (fun i H' => Own H' ((D, .lst ((((TL.tl x).take i).filter fun c => !digB c).map fun c => V.str (sgn1 c))) :: R)) (O.new hD) ?_ ?_
        · intro i c H1 hc O1
          have hc2 : (TL.tl x)[i]? = some c := by
            show x.cps.toList[i]? = some c
            rw [Array.getElem?_toList]
            exact hc
          refine ⟨rfl, ⟨_, rfl, c, _, rfl, rfl, _, rfl, ?_⟩⟩
          rw [figs_mem, take_snoc hc2, List.filter_append]
          have hil : i < (TL.tl x).length := (List.getElem?_eq_some_iff.mp hc2).1
          rw [← TL.len_tl] at hil
          cases hd : digB c with
          | true =>
            refine iteFo rfl ?_
            rw [List.filter_cons_of_neg (by rw [hd]; decide), List.filter_nil, List.append_nil]
            exact O1
          | false =>
            refine iteTo rfl ?_
            rw [List.filter_cons_of_pos (by rw [hd]; rfl), List.filter_nil, List.map_append]
            refine ⟨_, rfl, _, O1.a0, ?_, O1.set⟩
            rw [List.length_map]
            have := List.length_filter_le (fun c => !digB c) ((TL.tl x).take i)
            rw [List.length_take] at this
            exact size1 (by omega)
        · intro H1 O1
          have e : x.cps.size = (TL.tl x).length := Array.length_toList.symm
          rw [e, List.take_length] at O1
          refine ⟨by show 0 ≤ sizeLine; decide, fun q hq => ?_⟩
          have O2 := O1.new (o := .lst []) hq
          have hbs : ∀ c ∈ badS x, c < 1114112 := fun c hc => hsg c (List.mem_filter.mp hc).1
          refine ⟨.list ((badS x).map fun c => .str (sgn1 c)), .list [], .lst (SqL.of O2.a1) ((strs_dp (L := []) _).dps fun c hc => absurd hc List.not_mem_nil), .lst (SqL.of O2.a0) .nil, strs_shaped hbs, sh0, ?_⟩
          cases hb : badS x with
          | cons c cs =>
            refine ⟨true, by show V.bl (!PyData.eqv (.list (_ :: _)) (.list [])) = V.bl true; rw [eqv_nilL]; rfl, iteT ?_⟩
            rw [lnum_no (numOf_no (fun z => by have := (badS_nil x).mpr z.2.2; rw [hb] at this; cases this))] at k
            exact k _ O2.tail.tail
          | nil =>
            have hall := (badS_nil x).mp hb
            refine ⟨false, by show V.bl (!PyData.eqv (.list []) (.list [])) = V.bl false; rw [not_eqv_nil], iteF ?_⟩
            have ek : numOf x = if x = "0" ∨ (TL.tl x).head? ≠ some 48 then .int ((NumText.digitsVal (TL.tl x) : Nat) : Int) else .non := if_pos ⟨h1, h3, hall⟩
            have O3 := O2.tail.tail
            have hne : TL.tl x ≠ [] := fun z => by
              rw [TL.len_tl, z] at h1
              exact absurd h1 (by decide)
            have hdg : NumText.AllDigits (TL.tl x) := fun c hc => by
              have := List.all_eq_true.mp hall c hc
              unfold digB at this
              simpa using this
            have hint : PySem.intText? x = some ((NumText.digitsVal (TL.tl x) : Nat) : Int) := intText_digits hdg hne (by omega)
            have hsb := str_back hdg hne
            have hlt := dv_1000 hdg (by rw [← TL.len_tl]; exact h3)
            generalize NumText.digitsVal (TL.tl x) = dv at *
            refine ⟨_, rfl, x, _, rfl, hint, by omega, _, rfl, log60 (by omega), _, rfl, rfl, _, rfl, ?_⟩
            rw [hsb]
            by_cases hd : x = "0" ∨ (TL.tl x).head? ≠ some 48
            · refine iteTo (decide_eq_true hd) ?_
              rw [if_pos hd] at ek
              rw [lnum_int ek] at k
              refine ⟨_, rfl, x, _, rfl, hint, by omega, _, rfl, _, _, rfl, rfl, _, rfl, ?_⟩
              by_cases hm : ((dv : Nat) : Int) ≤ (m : Nat)
              · rw [if_pos hm] at k
                exact iteTo (decide_eq_true hm) ⟨_, rfl, x, _, rfl, hint, by omega, k _ O3⟩
              · rw [if_neg hm] at k
                exact iteFo (decide_eq_false hm) (k _ O3)
            · refine iteFo (decide_eq_false hd) ?_
              rw [if_neg hd] at ek
              rw [lnum_no ek] at k
              exact k _ O3
      · rw [decide_eq_false (show ¬ ((x.length : Nat) : Int) < 4 by omega)]
        refine iteT ?_
        rw [lnum_no (numOf_no (fun z => h3 z.2.1))] at k
        exact k H O
    · refine iteFo (decide_eq_false (show ¬ (0 : Int) < ((x.length : Nat) : Int) by omega)) ?_
      refine ⟨_, rfl, iteT ?_⟩
      rw [lnum_no (numOf_no (fun z => h1 z.1))] at k
      exact k H O
end
-- WwRd
/-! ### read -/
def spRead (K : PySem.W.Frag) : Sp := fun vs H Q E => ∃ (x : Str) (R : List Cell), vs = [.str x] ∧ x.length ≤ 80000 ∧ Sgn x ∧ Own H R ∧
  (∀ i : Nat, rdGo (rowsOf x) [] [] 0 = .inl i → ∀ (d : Addr) (H' : Hp), Own H' ((d, .xd [("row", .int (i : Nat))]) :: R) → E (.ref (He.ga K "BadText")) (some d) H') ∧
  ∀ (us : List Rul) (ds : List Deed), rdGo (rowsOf x) [] [] 0 = .inr (us, ds) → (∀ u ∈ us, RulOk u) → us.length ≤ 3 → (∀ d ∈ ds, d.ok 3) → ds.length ≤ 200 → ∀ (p pr pd : Addr) (ras das : List Addr) (N : List Cell) (H' : Hp), RA N ras us → TA N das (ds.map Deed.vs) →
    Own H' ((p, .tup [.ref pr, .ref pd]) :: (pr, .lst (ras.map V.ref)) :: (pd, .lst (das.map V.ref)) :: (N ++ R)) → Q (.ref p) H'
def someT (o : Option (List V)) (v : V) (NR : List Cell) : Prop := match o with
  | none => v = .non ∧ NR = []
  | some xs => ∃ a, v = .ref a ∧ NR = [(a, .tup xs)]
theorem eqv_emp {α : Type} (f : α → PyData) (xs : List α) : PyData.eqv (.list (xs.map f)) (.list []) = xs.isEmpty := by
  cases xs with
  | nil =>
    have := SeqAt.eqv_refl (.list []) (SeqAt.canLay_of_shaped sh0)
    exact this
  | cons a xs => exact eqv_nilL _ _
section
variable {P : Program} {w : World} {K : PySem.W.Frag} {mg : Str → Option Value} {base : Heap} {n lv : Nat}
theorem ok_read (T : Txt K mg) : FnOk P w K mg base (L2.CX P w) 5 (He.fAd K ("read", none)) T.fd_read ["text"] (spRead K) := by
  have G_rule_of := ok_rule_of (P := P) (w := w) (base := base) T
  have G_deed_of := ok_deed_of (P := P) (w := w) (base := base) T
  have G_BadText := ok_BadText (P := P) (w := w) (base := base) T
  refine okX T.F_read sc_read (fun vs H Q E h => ?_) (fun cdv A outer s H vs Q E hr h => ?_)
  · obtain ⟨_, _, rfl, _⟩ := h
    rfl
  · obtain ⟨x, R, rfl, hxl, hxs, O, k1, k2⟩ := h
    refine ⟨_, (pss_cons (ps_set (i := 1) sc_read.nd rfl (Or.inl rfl) (pe_lst pa_nil)) (pss_cons (ps_set (i := 2) sc_read.nd rfl (Or.inl rfl) (pe_lst pa_nil)) (pss_cons (ps_for (passes_of rfl) rfl (pi_enum (by rfl) T.n_enumerate (pa_cons (pe_split (pv 0) pe_str) pa_nil)) (pg_tup (by rfl) (pgs_cons (pg_name (i := 3) sc_read.nd rfl (Or.inl rfl)) (pgs_cons (pg_name (i := 4) sc_read.nd rfl (Or.inl rfl)) pgs_nil))) (pss_cons (ps_set (i := 5) sc_read.nd rfl (Or.inl rfl) (pe_split (pv 4) pe_str)) (Evl.pss_cut (ps_set (i := 6) sc_read.nd rfl (Or.inl rfl) (pe_ifExp (PW.pt (pw_and (pt_cmpR (op_eqD hr.units) (pv 2) (pe_lst pa_nil) (nomark _)) (pw_and1 (pt_cmpR op_lt (pe_callB call_len_seq (by rfl) T.n_len PySem.boot_len (pa_cons (pv 1) pa_nil)) (pe_globI rfl T.g_MOST_RULES) (nomark _))))) (pe_call G_rule_of (hr.mono (by omega)) rfl T.g_rule_of T.k_rule_of T.b_rule_of .nil pass0 (pa_cons (pv 5) pa_nil)) pe_non)) (Evl.pss_cut (ps_set (i := 7) sc_read.nd rfl (Or.inl rfl) (pe_ifExp (PW.pt (pw_and (pt_cmpR (op_neD hr.units) (pv 1) (pe_lst pa_nil) (nomark _)) (pw_and1 (pt_cmpR op_lt (pe_callB call_len_seq (by rfl) T.n_len PySem.boot_len (pa_cons (pv 2) pa_nil)) (pe_globI rfl T.g_MOST_DEEDS) (nomark _))))) (pe_call G_deed_of (hr.mono (by omega)) rfl T.g_deed_of T.k_deed_of T.b_deed_of .nil pass0 (pa_cons (pv 5) pa_nil)) pe_non)) (pss_one (ps_if (pt_cmpR op_notN (pv 6) pe_non (nomark _)) (pss_one (ps_expr (pe_bm PySem.F.plainAttrs_list PySem.F.slot_list_append PySem.F.type_list_append mt_append (pv 1) (pa_cons (pv 6) pa_nil)))) (pss_one (ps_if (pt_cmpR op_notN (pv 7) pe_non (nomark _)) (pss_one (ps_expr (pe_bm PySem.F.plainAttrs_list PySem.F.slot_list_append PySem.F.type_list_append mt_append (pv 2) (pa_cons (pv 7) pa_nil)))) (pss_one (ps_raise rfl (takes_of rfl rfl rfl rfl) (pmk_oex ((T.xt.xc "BadText" (by decide)).oex T.ox_BadText) T.m_BadText___init__.at_ (isFn_ty T.m_BadText___init__.fn) G_BadText (hr.mono (by omega)) T.b_BadText___init__ .nil pass0 (by rfl) T.g_BadText (pa_cons (pv 3) pa_nil)))))))))))) (pss_one (ps_ret (pe_tup (pa_cons (pv 1) (pa_cons (pv 2) pa_nil)))))))), ?_⟩
    obtain ⟨J, hJ⟩ : ∃ J, J = rdGo (rowsOf x) [] [] 0 := ⟨_, rfl⟩
    rw [← hJ] at k1 k2
    refine ⟨by show 0 ≤ sizeLine; decide, fun pr hpr => ?_⟩
    have O1 := O.new (o := .lst (([] : List Addr).map V.ref)) hpr
    refine ⟨by show 0 ≤ sizeLine; decide, fun pd hpd => ?_⟩
    have O2 := O1.new (o := .lst (([] : List Addr).map V.ref)) hpd
    have nlk : (Str.ofString "\n").cps.all (· < 256) = true := by decide +kernel
    have nln : TL.tl (Str.ofString "\n") ≠ [] := by decide +kernel
    have blk : (Str.ofString " ").cps.all (· < 256) = true := by decide +kernel
    have bln : TL.tl (Str.ofString " ") ≠ [] := by decide +kernel
    obtain ⟨hl1, hl2, hl3⟩ := split_facts nln nlk hxs
    refine ⟨_, rfl, ⟨_, rfl⟩, x, _, rfl, rfl, by decide +kernel, Nat.le_of_lt (size1 (by omega)), fun pl hpl => ?_⟩
    obtain ⟨lines, hlines⟩ : ∃ lines, lines = Txt.split x "\n" := ⟨_, rfl⟩
    rw [← hlines] at hl1 hl2 hl3 ⊢
    have O3 := O2.new (o := .lst (lines.map V.str)) hpl
    have hJ2 : rdGo (lines.map fun l => Txt.split l " ") [] [] 0 = J := by
      rw [hJ, hlines]
      rfl
    refine ⟨pl, _, rfl, SqL.of O3.a0, ?_⟩
    refine for_enum (K := K) (a := pl) (xs := lines.map V.str) (fun i σ H' => ∃ (us : List Rul) (ds : List Deed) (ras das : List Addr) (N : List Cell) (v3 v4 v5 v6 v7 : Option V), σ = [some (.str x), some (.ref pr), some (.ref pd), v3, v4, v5, v6, v7] ∧ (∀ u ∈ us, RulOk u) ∧ us.length ≤ 3 ∧ (∀ d ∈ ds, d.ok 3) ∧ ds.length ≤ 200 ∧ RA N ras us ∧ TA N das (ds.map Deed.vs) ∧ rdGo ((lines.drop i).map fun l => Txt.split l " ") us ds i = J ∧ Own H' ((pl, .lst (lines.map V.str)) :: (pr, .lst (ras.map V.ref)) :: (pd, .lst (das.map V.ref)) :: (N ++ R)))
      ⟨[], [], [], [], [], none, none, none, none, none, rfl, (fun u hu => nomatch hu), Nat.zero_le _, (fun u hu => nomatch hu), Nat.zero_le _, trivial, trivial, hJ2, O3.perm (by walk_at "perm")⟩ (fun i σ H' _ ⟨_, _, _, _, _, _, _, _, _, _, _, _, _, _, _, _, _, _, O'⟩ => SqL.of O'.a0) ?_ ?_
    · rintro i y σ H4 p hi ⟨us, ds, ras, das, N, v3, v4, v5, v6, v7, rfl, hus, husl, hds, hdsl, hra, hta, hj, O4⟩ hp
      rw [List.getElem?_map] at hi
      cases ha : lines[i]? with
      | none =>
        rw [ha] at hi
        cases hi
      | some l =>
        rw [ha] at hi
        obtain rfl : V.str l = y := Option.some.inj hi
        have hil : i < lines.length := (List.getElem?_eq_some_iff.mp ha).1
        have hdrop : lines.drop i = l :: lines.drop (i + 1) := by
          rw [List.drop_eq_getElem_cons hil]
          congr 1
          exact (List.getElem?_eq_some_iff.mp ha).2
        rw [hdrop, List.map_cons] at hj
        unfold rdGo at hj
        obtain ⟨hll, hls⟩ := hl3 l (List.mem_of_getElem? ha)
        obtain ⟨hw1, hw2, hw3⟩ := split_facts bln blk hls
        have O5 := O4.new (o := .tup [.int (i : Nat), .str l]) hp
        refine ⟨p, _, rfl, SqT.of O5.a0, rfl, _, _, rfl, _, _, rfl, rfl, ?_⟩
        refine ⟨_, rfl, ⟨_, rfl⟩, l, _, rfl, rfl, by decide +kernel, Nat.le_of_lt (size1 (by omega)), fun pw hpw => ?_⟩
        obtain ⟨ws, hws⟩ : ∃ ws, ws = Txt.split l " " := ⟨_, rfl⟩
        rw [← hws] at hw1 hw2 hw3 hj ⊢
        have O6 := O5.new (o := .lst (ws.map V.str)) hpw
        have hwok : WsOk ws := ⟨hw1, by omega, fun z hz => ⟨by have := (hw3 z hz).1; omega, (hw3 z hz).2⟩⟩
        have hrasl := hra.len
        have hdasl := hta.len
        rw [List.length_map] at hdasl
        obtain ⟨W, hW⟩ : ∃ W : List Cell, W = (pw, HO.lst (ws.map V.str)) :: (p, .tup [.int (i : Nat), .str l]) :: (pl, .lst (lines.map V.str)) :: (pr, .lst (ras.map V.ref)) :: (pd, .lst (das.map V.ref)) :: (N ++ R) := ⟨_, rfl⟩
        rw [← hW] at O6
        have mpw : (pw, HO.lst (ws.map V.str)) ∈ W := by rw [hW]; simp
        have mpr : (pr, HO.lst (ras.map V.ref)) ∈ W := by rw [hW]; simp
        have mpd : (pd, HO.lst (das.map V.ref)) ∈ W := by rw [hW]; simp
        have hraW : RA W ras us := hra.mono fun c hc => by rw [hW]; simp [hc]
        have htaW : TA W das (ds.map Deed.vs) := hta.mono fun c hc => by rw [hW]; simp [hc]
        generalize upd _ pw _ = H5 at O6 ⊢
        -- a rule
        refine ⟨fun σ H' => ∃ (rv : V) (NR : List Cell), σ = [some (.str x), some (.ref pr), some (.ref pd), some (.int (i : Nat)), some (.str l), some (.ref pw), some rv, v7] ∧ someT (if ds.isEmpty = true ∧ us.length < 3 then ruleW ws else none) rv NR ∧ Own H' (NR ++ W), ?_, ?_⟩
        · refine ⟨_, rfl, by show 0 ≤ sizeLine; decide, fun q hq => ?_⟩
          have O7 := O6.new (o := .lst []) hq
          refine ⟨.list (ds.map dD), .list [], .lst (SqL.of (O7.mem (List.mem_cons_of_mem _ mpd))) ((deeds_dp htaW).dps fun c hc => O7.2 c (List.mem_cons_of_mem _ hc)), .lst (SqL.of O7.a0) .nil, deeds_shaped _, sh0, _, rfl, ?_⟩
          rw [eqv_emp]
          have no : ¬ (ds.isEmpty = true ∧ us.length < 3) → ∃ (rv : V) (NR : List Cell), [some (V.str x), some (.ref pr), some (.ref pd), some (.int (i : Nat)), some (.str l), some (.ref pw), some .non, v7] = [some (.str x), some (.ref pr), some (.ref pd), some (.int (i : Nat)), some (.str l), some (.ref pw), some rv, v7] ∧ someT (if ds.isEmpty = true ∧ us.length < 3 then ruleW ws else none) rv NR ∧ Own (upd H5 q (.lst [])) (NR ++ W) := fun h => ⟨.non, [], rfl, by rw [if_neg h]; exact ⟨rfl, rfl⟩, O7.tail⟩
          cases hde : ds.isEmpty with
          | false =>
            rw [hde] at no
            exact iteF (no fun z => nomatch z.1)
          | true =>
            rw [hde] at no
            refine iteT ⟨_, rfl, pr, _, rfl, .inl (SqL.of (O7.mem (List.mem_cons_of_mem _ mpr))), _, _, rfl, rfl, _, rfl, ?_⟩
            rw [List.length_map, hrasl]
            by_cases h3 : us.length < 3
            · refine iteTo (decide_eq_true (show ((us.length : Nat) : Int) < 3 by omega)) ?_
              refine ⟨_, rfl, pw, ws, W, rfl, hwok, mpw, O7.tail, ?_⟩
              rw [if_pos ⟨rfl, h3⟩]
              cases hr : ruleW ws with
              | none => exact fun H' O' => ⟨.non, [], rfl, ⟨rfl, rfl⟩, O'⟩
              | some xs => exact fun p H' O' => ⟨.ref p, [_], rfl, ⟨p, rfl, rfl⟩, O'⟩
            · exact iteFo (decide_eq_false (show ¬ ((us.length : Nat) : Int) < 3 by omega)) (no fun z => h3 z.2)
        rintro σ H6 ⟨rv, NR, rfl, hrv, O8⟩
        have hNR : ∀ {c : Cell}, c ∈ W → c ∈ NR ++ W := fun h => List.mem_append_right _ h
        -- a deed
        refine ⟨fun σ H' => ∃ (dv : V) (ND : List Cell), σ = [some (.str x), some (.ref pr), some (.ref pd), some (.int (i : Nat)), some (.str l), some (.ref pw), some rv, some dv] ∧ someT (if us.isEmpty = false ∧ ds.length < 200 then deedW ws else none) dv ND ∧ Own H' (ND ++ (NR ++ W)), ?_, ?_⟩
        · refine ⟨_, rfl, by show 0 ≤ sizeLine; decide, fun q hq => ?_⟩
          have O9 := O8.new (o := .lst []) hq
          refine ⟨.list (us.map ruD), .list [], .lst (SqL.of (O9.mem (List.mem_cons_of_mem _ (hNR mpr)))) ((rules_dp hraW).dps fun c hc => O9.2 c (List.mem_cons_of_mem _ (hNR hc))), .lst (SqL.of O9.a0) .nil, rules_shaped _, sh0, _, rfl, ?_⟩
          rw [eqv_emp]
          have no : ¬ (us.isEmpty = false ∧ ds.length < 200) → ∃ (dv : V) (ND : List Cell), [some (V.str x), some (.ref pr), some (.ref pd), some (.int (i : Nat)), some (.str l), some (.ref pw), some rv, some .non] = [some (.str x), some (.ref pr), some (.ref pd), some (.int (i : Nat)), some (.str l), some (.ref pw), some rv, some dv] ∧ someT (if us.isEmpty = false ∧ ds.length < 200 then deedW ws else none) dv ND ∧ Own (upd H6 q (.lst [])) (ND ++ (NR ++ W)) := fun h => ⟨.non, [], rfl, by rw [if_neg h]; exact ⟨rfl, rfl⟩, O9.tail⟩
          cases hue : us.isEmpty with
          | true =>
            rw [hue] at no
            exact iteF (no fun z => nomatch z.1)
          | false =>
            rw [hue] at no
            refine iteT ⟨_, rfl, pd, _, rfl, .inl (SqL.of (O9.mem (List.mem_cons_of_mem _ (hNR mpd)))), _, _, rfl, rfl, _, rfl, ?_⟩
            rw [List.length_map, hdasl]
            by_cases h3 : ds.length < 200
            · refine iteTo (decide_eq_true (show ((ds.length : Nat) : Int) < 200 by omega)) ?_
              refine ⟨_, rfl, pw, ws, NR ++ W, rfl, hwok, hNR mpw, O9.tail, ?_⟩
              rw [if_pos ⟨rfl, h3⟩]
              cases hr : deedW ws with
              | none => exact fun H' O' => ⟨.non, [], rfl, ⟨rfl, rfl⟩, O'⟩
              | some xs => exact fun p H' O' => ⟨.ref p, [_], rfl, ⟨p, rfl, rfl⟩, O'⟩
            · exact iteFo (decide_eq_false (show ¬ ((ds.length : Nat) : Int) < 200 by omega)) (no fun z => h3 z.2)
        rintro σ H7 ⟨dv, ND, rfl, hdv, O10⟩
        -- which
        have eR : (if ds.isEmpty = true ∧ us.length < 3 then ruleW ws else none) = none ∧ (if ds.isEmpty = true ∧ us.length < 3 then ruleP ws else none) = none ∨ ∃ u : Rul, RulOk u ∧ us.length < 3 ∧ (if ds.isEmpty = true ∧ us.length < 3 then ruleW ws else none) = some u.vs ∧ (if ds.isEmpty = true ∧ us.length < 3 then ruleP ws else none) = some u := by
          by_cases h : ds.isEmpty = true ∧ us.length < 3
          · rw [if_pos h, if_pos h]
            rcases ruleP_ok ws with z | ⟨u, z1, z2, z3⟩
            · exact .inl z
            · exact .inr ⟨u, z1, h.2, z2, z3⟩
          · rw [if_neg h, if_neg h]
            exact .inl ⟨rfl, rfl⟩
        have eD : (if us.isEmpty = false ∧ ds.length < 200 then deedW ws else none) = none ∧ (if us.isEmpty = false ∧ ds.length < 200 then deedP ws else none) = none ∨ ∃ d : Deed, d.ok 3 ∧ ds.length < 200 ∧ (if us.isEmpty = false ∧ ds.length < 200 then deedW ws else none) = some d.vs ∧ (if us.isEmpty = false ∧ ds.length < 200 then deedP ws else none) = some d := by
          by_cases h : us.isEmpty = false ∧ ds.length < 200
          · rw [if_pos h, if_pos h]
            rcases deedP_ok ws with z | ⟨u, z1, z2, z3⟩
            · exact .inl z
            · exact .inr ⟨u, z1, h.2, z2, z3⟩
          · rw [if_neg h, if_neg h]
            exact .inl ⟨rfl, rfl⟩
        rcases eR with ⟨r1, r2⟩ | ⟨u, hu, hu3, r1, r2⟩
        · rw [r2] at hj
          rw [r1] at hrv
          obtain ⟨rfl, rfl⟩ := hrv
          refine ⟨_, rfl, rfl, _, rfl, iteFo rfl ?_⟩
          rcases eD with ⟨d1, d2⟩ | ⟨d, hd, hd2, d1, d2⟩
          · rw [d2] at hj
            rw [d1] at hdv
            obtain ⟨rfl, rfl⟩ := hdv
            refine ⟨_, rfl, rfl, _, rfl, iteFo rfl ?_⟩
            refine ⟨_, rfl, rz_go (by omega) fun dd hdd => k1 i hj.symm dd _ ?_⟩
            have O11 := O10.new (o := .xd [("row", .int (i : Nat))]) hdd
            rw [hW] at O11
            exact O11.sub (List.Sublist.cons_cons _ (List.sublist_append_right (_ :: _ :: _ :: _ :: _ :: N) R))
          · rw [d2] at hj
            rw [d1] at hdv
            obtain ⟨a, rfl, rfl⟩ := hdv
            refine ⟨_, rfl, rfl, _, rfl, iteTo rfl ?_⟩
            refine ⟨_, rfl, .inl ⟨rfl, _, SqL.of (O10.mem (show (pd, HO.lst (das.map V.ref)) ∈ _ by simp [mpd]))⟩, _, rfl, pd, _, _, rfl, rfl, O10.mem (show (pd, HO.lst (das.map V.ref)) ∈ _ by simp [mpd]), by rw [List.length_map]; exact size1 (by omega), us, ds ++ [d], ras, das ++ [a], (a, .tup d.vs) :: (pw, .lst (ws.map V.str)) :: (p, .tup [.int (i : Nat), .str l]) :: N, _, _, _, _, _, rfl, hus, husl, fun z hz => ?_, by rw [List.length_append]; exact hd2, hra.mono fun c hc => by simp [hc], ?_, hj, ?_⟩
            · rcases List.mem_append.mp hz with h | h
              · exact hds z h
              · rw [List.mem_singleton.mp h]
                exact hd
            · rw [List.map_append]
              exact (hta.mono fun c hc => by simp [hc]).app ⟨by simp, trivial⟩
            · rw [hW] at O10
              rw [List.map_append]
              exact ((O10.perm (L' := (pd, .lst (das.map V.ref)) :: (a, .tup d.vs) :: (pw, .lst (ws.map V.str)) :: (p, .tup [.int (i : Nat), .str l]) :: (pl, .lst (lines.map V.str)) :: (pr, .lst (ras.map V.ref)) :: (N ++ R)) (by walk_at "perm")).set (o' := .lst (das.map V.ref ++ [a].map V.ref))).perm (by walk_at "perm")
        · rw [r2] at hj
          rw [r1] at hrv
          obtain ⟨a, rfl, rfl⟩ := hrv
          refine ⟨_, rfl, rfl, _, rfl, iteTo rfl ?_⟩
          have mpr2 : (pr, HO.lst (ras.map V.ref)) ∈ ND ++ ([(a, HO.tup u.vs)] ++ W) := by simp [mpr]
          refine ⟨_, rfl, .inl ⟨rfl, _, SqL.of (O10.mem mpr2)⟩, _, rfl, pr, _, _, rfl, rfl, O10.mem mpr2, by rw [List.length_map]; exact size1 (by omega), us ++ [u], ds, ras ++ [a], das, (a, .tup u.vs) :: (pw, .lst (ws.map V.str)) :: (p, .tup [.int (i : Nat), .str l]) :: (ND ++ N), _, _, _, _, _, rfl, fun z hz => ?_, by rw [List.length_append]; exact hu3, hds, hdsl, ?_, hta.mono fun c hc => by simp [hc], hj, ?_⟩
          · rcases List.mem_append.mp hz with h | h
            · exact hus z h
            · rw [List.mem_singleton.mp h]
              exact hu
          · exact (hra.mono fun c hc => by simp [hc]).app ⟨by simp, trivial⟩
          · rw [hW] at O10
            rw [List.map_append]
            exact ((O10.perm (L' := (pr, .lst (ras.map V.ref)) :: (a, .tup u.vs) :: (pw, .lst (ws.map V.str)) :: (p, .tup [.int (i : Nat), .str l]) :: (pl, .lst (lines.map V.str)) :: (pd, .lst (das.map V.ref)) :: (ND ++ (N ++ R))) (by walk_at "perm")).set (o' := .lst (ras.map V.ref ++ [a].map V.ref))).perm (by walk_at "perm")
    · rintro σ H4 ⟨us, ds, ras, das, N, v3, v4, v5, v6, v7, rfl, hus, husl, hds, hdsl, hra, hta, hj, O4⟩
      rw [List.length_map, List.drop_length, List.map_nil] at hj
      have hj : Sum.inr (us, ds) = J := hj
      refine ⟨_, rfl, _, rfl, by show 2 ≤ sizeLine; decide, fun p hp => ?_⟩
      have O5 := O4.new (o := .tup [.ref pr, .ref pd]) hp
      exact k2 us ds hj.symm hus husl hds hdsl p pr pd ras das ((pl, .lst (lines.map V.str)) :: N) _ (hra.mono fun c hc => List.mem_cons_of_mem _ hc) (hta.mono fun c hc => List.mem_cons_of_mem _ hc) (O5.perm (by walk_at "perm"))
end
-- WwLi
/-! ### the law's own lines -/
def lineW : List Str → Option (List V)
  | [] => none
  | w :: r => if w = "room" then ruleW (w :: r) else deedW (w :: r)
theorem lineW_cons (w : Str) (r : List Str) : lineW (w :: r) = if w = "room" then ruleW (w :: r) else deedW (w :: r) := rfl
def spLLine : Sp := fun vs H Q _ => ∃ (x : Str) (R : List Cell), vs = [.str x] ∧ x.length ≤ 80000 ∧ Sgn x ∧ Own H R ∧ tellO (lineW (Txt.split x " ")) R Q
/-- how great the numbers of a line may be -/
def mostOf (w : Str) : List Nat := if w = "room" then [4, 4] else if w = "look" then [2, 63] else if w = "set" then [2, 63, 999] else []
theorem numOf_nat (x : Str) : numOf x = .non ∨ ∃ n : Nat, numOf x = .int (n : Nat) := by
  unfold numOf
  split
  · split
    · exact .inr ⟨_, rfl⟩
    · exact .inl rfl
  · exact .inl rfl
theorem lnum_cases (x : Str) (m : Nat) : (lnum x m = .non ∧ numIn (numOf x) 0 (m : Int) = false) ∨ ∃ i : Int, 0 ≤ i ∧ i ≤ (m : Int) ∧ lnum x m = .int i ∧ numOf x = .int i ∧ numIn (numOf x) 0 (m : Int) = true := by
  rcases numOf_nat x with h | ⟨n, h⟩
  · exact .inl ⟨lnum_no h, by rw [h]; rfl⟩
  · by_cases hm : ((n : Nat) : Int) ≤ (m : Int)
    · exact .inr ⟨n, by omega, hm, by rw [lnum_int h, if_pos hm], h, by rw [h]; exact decide_eq_true ⟨by omega, hm⟩⟩
    · exact .inl ⟨by rw [lnum_int h, if_neg hm], by rw [h]; exact decide_eq_false (fun z => hm z.2)⟩
theorem most_room : mostOf "room" = [4, 4] := by decide +kernel
theorem most_look : mostOf "look" = [2, 63] := by decide +kernel
theorem most_set : mostOf "set" = [2, 63, 999] := by decide +kernel
theorem most_ne {w : Str} (h : mostOf w ≠ []) : w = "room" ∨ w = "look" ∨ w = "set" := by
  unfold mostOf at h
  split at h
  · exact .inl (by assumption)
  · split at h
    · exact .inr (.inl (by assumption))
    · split at h
      · exact .inr (.inr (by assumption))
      · exact absurd rfl h
def numsOf (w : Str) (wr : List Str) : List V := List.zipWith lnum wr (mostOf w)
theorem line_other {w : Str} {wr : List Str} (h : mostOf w = []) : lineW (w :: wr) = none := by
  have hr : w ≠ "room" := fun z => by rw [z, most_room] at h; cases h
  have hl : w ≠ "look" := fun z => by rw [z, most_look] at h; cases h
  have hs : w ≠ "set" := fun z => by rw [z, most_set] at h; cases h
  rw [lineW_cons, if_neg hr]
  exact if_neg (fun z => z.1.elim hl hs)
theorem non_in {x : Str} {m : Nat} (h : lnum x m = .non) (r : List V) : inV .non (lnum x m :: r) = true := by
  rw [h]
  rfl
theorem non_no {x : Str} {m : Nat} {i : Int} (h : lnum x m = .int i) (r : List V) : inV .non (lnum x m :: r) = inV .non r := by
  rw [h]
  rfl
theorem deedW_no {w : Str} {r : List Str} (h : deedB 3 (.str w :: r.map numOf) = false) : deedW (w :: r) = none := if_neg (fun z => by rw [h] at z; exact Bool.noConfusion z.2)
theorem deedW_yes {w : Str} {r : List Str} (hw : w = "look" ∨ w = "set") (h : deedB 3 (.str w :: r.map numOf) = true) : deedW (w :: r) = some (.str w :: r.map numOf) := if_pos ⟨hw, h⟩
theorem and3 {a b c : Bool} : (a && (b && c)) = true ↔ a = true ∧ b = true ∧ c = true := by cases a <;> cases b <;> cases c <;> decide
theorem look_B (a b : V) : deedB 3 [.str "look", a, b] = (numIn a 0 2 && numIn b 0 63) := by
  show (numIn a 0 (3 - 1) && (numIn b 0 63 && eqS (.str "look") "look")) = _
  rw [show eqS (.str "look") "look" = true by decide +kernel, Bool.and_true]
  rfl
theorem set_B (a b c : V) : deedB 3 [.str "set", a, b, c] = (numIn a 0 2 && (numIn b 0 63 && numIn c 0 999)) := by
  show (numIn a 0 (3 - 1) && (numIn b 0 63 && (eqS (.str "set") "set" && numIn c 0 999))) = _
  rw [show eqS (.str "set") "set" = true by decide +kernel, Bool.true_and]
  rfl
theorem look_B4 (a b c : V) : deedB 3 [.str "look", a, b, c] = false := by
  show (numIn a 0 (3 - 1) && (numIn b 0 63 && (eqS (.str "look") "set" && numIn c 0 999))) = false
  rw [show eqS (.str "look") "set" = false by decide +kernel, Bool.false_and, Bool.and_false, Bool.and_false]
theorem set_B3 (a b : V) : deedB 3 [.str "set", a, b] = false := by
  show (numIn a 0 (3 - 1) && (numIn b 0 63 && eqS (.str "set") "look")) = false
  rw [show eqS (.str "set") "look" = false by decide +kernel, Bool.and_false, Bool.and_false]
theorem line_l (wr : List Str) : lineW ("look" :: wr) = deedW ("look" :: wr) := by
  rw [lineW_cons]
  exact if_neg (by decide +kernel)
theorem line_s (wr : List Str) : lineW ("set" :: wr) = deedW ("set" :: wr) := by
  rw [lineW_cons]
  exact if_neg (by decide +kernel)
theorem look_no {wr : List Str} (h : inV .non (numsOf "look" wr) = true ∨ wr.length ≠ 2) : lineW ("look" :: wr) = none := by
  rw [line_l]
  refine deedW_no ?_
  unfold numsOf at h
  rw [most_look] at h
  match wr, h with
  | [], _ => rfl
  | [a], _ => rfl
  | [a, b], h =>
    show deedB 3 [.str "look", numOf a, numOf b] = false
    rw [look_B]
    have h : inV .non [lnum a 2, lnum b 63] = true := h.resolve_right (fun z => z rfl)
    rcases lnum_cases a 2 with ⟨_, h2⟩ | ⟨i, _, _, h1, _, _⟩
    · rw [show numIn (numOf a) 0 2 = false from h2, Bool.false_and]
    · rcases lnum_cases b 63 with ⟨_, h5⟩ | ⟨j, _, _, h4, _, _⟩
      · rw [show numIn (numOf b) 0 63 = false from h5, Bool.and_false]
      · rw [non_no h1, non_no h4] at h
        exact Bool.noConfusion h
  | [a, b, c], _ => exact look_B4 _ _ _
  | a :: b :: c :: d :: r, _ => rfl
theorem look_yes {wr : List Str} (h : inV .non (numsOf "look" wr) = false) (hl : wr.length = 2) : lineW ("look" :: wr) = some (.str "look" :: numsOf "look" wr) := by
  rw [line_l]
  unfold numsOf at h ⊢
  rw [most_look] at h ⊢
  match wr, h, hl with
  | [a, b], h, _ =>
    have h : inV .non [lnum a 2, lnum b 63] = false := h
    rcases lnum_cases a 2 with ⟨h1, _⟩ | ⟨i, _, _, h1, h2, h3⟩
    · rw [non_in h1] at h
      exact Bool.noConfusion h
    · rcases lnum_cases b 63 with ⟨h4, _⟩ | ⟨j, _, _, h4, h5, h6⟩
      · rw [non_no h1, non_in h4] at h
        exact Bool.noConfusion h
      · rw [deedW_yes (.inl rfl) (by show deedB 3 [.str "look", numOf a, numOf b] = true; rw [look_B, show numIn (numOf a) 0 2 = true from h3, show numIn (numOf b) 0 63 = true from h6]; rfl)]
        show some [V.str "look", numOf a, numOf b] = some [.str "look", lnum a 2, lnum b 63]
        rw [h1, h2, h4, h5]
theorem set_no {wr : List Str} (h : inV .non (numsOf "set" wr) = true ∨ wr.length ≠ 3) : lineW ("set" :: wr) = none := by
  rw [line_s]
  refine deedW_no ?_
  unfold numsOf at h
  rw [most_set] at h
  match wr, h with
  | [], _ => rfl
  | [a], _ => rfl
  | [a, b], _ => exact set_B3 _ _
  | [a, b, c], h =>
    show deedB 3 [.str "set", numOf a, numOf b, numOf c] = false
    rw [set_B]
    have h : inV .non [lnum a 2, lnum b 63, lnum c 999] = true := h.resolve_right (fun z => z rfl)
    rcases lnum_cases a 2 with ⟨_, h2⟩ | ⟨i, _, _, h1, _, _⟩
    · rw [show numIn (numOf a) 0 2 = false from h2, Bool.false_and]
    · rcases lnum_cases b 63 with ⟨_, h5⟩ | ⟨j, _, _, h4, _, _⟩
      · rw [show numIn (numOf b) 0 63 = false from h5, Bool.false_and, Bool.and_false]
      · rcases lnum_cases c 999 with ⟨_, h8⟩ | ⟨l, _, _, h7, _, _⟩
        · rw [show numIn (numOf c) 0 999 = false from h8, Bool.and_false, Bool.and_false]
        · rw [non_no h1, non_no h4, non_no h7] at h
          exact Bool.noConfusion h
  | a :: b :: c :: d :: r, _ => rfl
theorem set_yes {wr : List Str} (h : inV .non (numsOf "set" wr) = false) (hl : wr.length = 3) : lineW ("set" :: wr) = some (.str "set" :: numsOf "set" wr) := by
  rw [line_s]
  unfold numsOf at h ⊢
  rw [most_set] at h ⊢
  match wr, h, hl with
  | [a, b, c], h, _ =>
    have h : inV .non [lnum a 2, lnum b 63, lnum c 999] = false := h
    rcases lnum_cases a 2 with ⟨h1, _⟩ | ⟨i, _, _, h1, h2, h3⟩
    · rw [non_in h1] at h
      exact Bool.noConfusion h
    · rcases lnum_cases b 63 with ⟨h4, _⟩ | ⟨j, _, _, h4, h5, h6⟩
      · rw [non_no h1, non_in h4] at h
        exact Bool.noConfusion h
      · rcases lnum_cases c 999 with ⟨h7, _⟩ | ⟨l, _, _, h7, h8, h9⟩
        · rw [non_no h1, non_no h4, non_in h7] at h
          exact Bool.noConfusion h
        · rw [deedW_yes (.inr rfl) (by show deedB 3 [.str "set", numOf a, numOf b, numOf c] = true; rw [set_B, show numIn (numOf a) 0 2 = true from h3, show numIn (numOf b) 0 63 = true from h6, show numIn (numOf c) 0 999 = true from h9]; rfl)]
          show some [V.str "set", numOf a, numOf b, numOf c] = some [.str "set", lnum a 2, lnum b 63, lnum c 999]
          rw [h1, h2, h4, h5, h7, h8]
theorem line_r (wr : List Str) : lineW ("room" :: wr) = ruleW ("room" :: wr) := by
  rw [lineW_cons]
  exact if_pos rfl
/-- a room's line, once its numbers are numbers -/
def goodR (i j : Int) (c d e : Str) : Bool := inV (.int i) [.int 1, .int 2, .int 4] && (decide (0 < j) && (inV (.str c) [.str "through", .str "back"] && (inV (.str d) [.str "in", .str "by"] && inV (.str e) [.str "first", .str "late"])))
theorem room_no {wr : List Str} (h : inV .non (numsOf "room" wr) = true ∨ wr.length ≠ 5) : lineW ("room" :: wr) = none := by
  rw [line_r]
  by_cases hl : wr.length = 5
  · have h := h.resolve_right (fun z => z hl)
    unfold numsOf at h
    rw [most_room] at h
    match wr, h, hl with
    | [a, b, c, d, e], h, _ =>
      have h : inV .non [lnum a 4, lnum b 4] = true := h
      refine if_neg fun z => ?_
      have z2 : (numIn (numOf a) 1 64 && (inV (numOf a) [.int 1, .int 2, .int 4] && (numIn (numOf b) 1 4 && (inV (.str c) [.str "through", .str "back"] && (inV (.str d) [.str "in", .str "by"] && inV (.str e) [.str "first", .str "late"]))))) = true := z.2
      obtain ⟨g1, z2⟩ := He.ba z2
      obtain ⟨g2, z2⟩ := He.ba z2
      obtain ⟨g3, _⟩ := He.ba z2
      obtain ⟨i, hi, _, _⟩ := num_of g1
      obtain ⟨j, hj, hj1, hj4⟩ := num_of g3
      rw [hi] at g2
      have hi4 := inV_3 g2
      have e1 : lnum a 4 = .int i := by rw [lnum_int hi, if_pos (by omega)]
      have e2 : lnum b 4 = .int j := by rw [lnum_int hj, if_pos (by omega)]
      rw [non_no e1, non_no e2] at h
      exact Bool.noConfusion h
  · exact ruleW_len (fun z => hl (by have z : wr.length + 1 = 6 := z; omega))
theorem room_yes {a b c d e : Str} {i j : Int} (h1 : lnum a 4 = .int i) (h2 : lnum b 4 = .int j) : lineW ["room", a, b, c, d, e] = if goodR i j c d e = true then some [.int i, .int j, .str c, .str d, .str e] else none := by
  rw [line_r]
  rcases lnum_cases a 4 with ⟨g1, _⟩ | ⟨i', hi0, hi4, g1, g2, _⟩
  · rw [g1] at h1
    cases h1
  rcases lnum_cases b 4 with ⟨g3, _⟩ | ⟨j', hj0, hj4, g3, g4, _⟩
  · rw [g3] at h2
    cases h2
  obtain rfl : i' = i := by
    rw [g1] at h1
    cases h1
    rfl
  obtain rfl : j' = j := by
    rw [g3] at h2
    cases h2
    rfl
  have e1 : ruleB [.int i', .int j', .str c, .str d, .str e] = goodR i' j' c d e := by
    show (numIn (.int i') 1 64 && (inV (.int i') [.int 1, .int 2, .int 4] && (numIn (.int j') 1 4 && (inV (.str c) [.str "through", .str "back"] && (inV (.str d) [.str "in", .str "by"] && inV (.str e) [.str "first", .str "late"]))))) = _
    unfold goodR
    have e3 : numIn (.int j') 1 4 = decide (0 < j') := by
      show decide (1 ≤ j' ∧ j' ≤ 4) = decide (0 < j')
      by_cases h : 0 < j'
      · rw [decide_eq_true h, decide_eq_true ⟨by omega, by omega⟩]
      · rw [decide_eq_false h, decide_eq_false (fun z => h (by omega))]
    rw [e3]
    cases hin : inV (.int i') [.int 1, .int 2, .int 4] with
    | false => simp
    | true =>
      have := inV_3 hin
      rw [show numIn (.int i') 1 64 = true from decide_eq_true (by omega), Bool.true_and]
  show (if (("room" : Str) = "room" ∧ ruleB [numOf a, numOf b, .str c, .str d, .str e] = true) then some [numOf a, numOf b, .str c, .str d, .str e] else none) = _
  rw [g2, g4, e1]
  by_cases hg : goodR i' j' c d e = true
  · rw [if_pos ⟨rfl, hg⟩, if_pos hg]
  · rw [if_neg (fun z => hg z.2), if_neg hg]
theorem val3 (a b c : V) (w : Str) : valV (mergeK [] [((Sum.inr "room" : Key), a), (Sum.inr "look", b), (Sum.inr "set", c)]) (Sum.inr w) = if w = "room" then some a else if w = "look" then some b else if w = "set" then some c else none := by
  have e : mergeK [] [((Sum.inr "room" : Key), a), (Sum.inr "look", b), (Sum.inr "set", c)] = [((Sum.inr "room" : Key), a), (Sum.inr "look", b), (Sum.inr "set", c)] := by
    rfl
  rw [e]
  by_cases h1 : w = "room"
  · rw [if_pos h1, valV_pos (by rw [h1])]
  · rw [if_neg h1, valV_neg (fun z => h1 (Sum.inr.inj z).symm)]
    by_cases h2 : w = "look"
    · rw [if_pos h2, valV_pos (by rw [h2])]
    · rw [if_neg h2, valV_neg (fun z => h2 (Sum.inr.inj z).symm)]
      by_cases h3 : w = "set"
      · rw [if_pos h3, valV_pos (by rw [h3])]
      · rw [if_neg h3, valV_neg (fun z => h3 (Sum.inr.inj z).symm), valV_nil]
theorem lnum_flat (x : Str) (m : Nat) : flatV (lnum x m) = true := by
  rcases lnum_cases x m with ⟨h, _⟩ | ⟨i, _, _, h, _, _⟩ <;> rw [h] <;> rfl
theorem nums_flat : ∀ (xs : List Str) (ms : List Nat), (List.zipWith lnum xs ms).all flatV = true
  | [], _ => by simp
  | _ :: _, [] => by simp
  | x :: xs, m :: ms => by
    rw [List.zipWith_cons_cons, List.all_cons, lnum_flat, nums_flat xs ms]
    rfl
section
variable {P : Program} {w : World} {K : PySem.W.Frag} {mg : Str → Option Value} {base : Heap} {n lv : Nat}
theorem ok_lline (T : Txt K mg) : FnOk P w K mg base CX0 3 (He.fAd K ("_law_line", none)) T.fd__law_line ["_law_line_here"] spLLine := by
  have G__law_number := ok_lnum (P := P) (w := w) (base := base) T
  refine okOf T.F__law_line sc__law_line (fun vs H Q E h => ?_) (fun cdv A outer s H vs Q E hr h => ?_)
  · obtain ⟨_, _, rfl, _⟩ := h
    rfl
  · obtain ⟨x, R, rfl, hxl, hxs, O, k⟩ := h
    refine ⟨_, (pss_cons (ps_set (i := 1) sc__law_line.nd rfl (Or.inl rfl) (pe_split (pv 0) pe_str)) (pss_cons (ps_set (i := 2) sc__law_line.nd rfl (Or.inl rfl) (pe_dget2 (hu_of hr) (pe_disp (pps_cons pe_str (pe_lst (pa_cons pe_int (pa_cons pe_int pa_nil))) (pps_cons pe_str (pe_lst (pa_cons pe_int (pa_cons pe_int pa_nil))) (pps_cons pe_str (pe_lst (pa_cons pe_int (pa_cons pe_int (pa_cons pe_int pa_nil)))) pps_nil))) (by rfl) (by rfl) (fun z => by cases z) (by decide)) (pe_ix ix_list (pv 1) pe_int (fun _ _ => rfl)) (pe_lst pa_nil) ⟨by rfl, by rfl, by rfl, by rfl⟩)) (pss_cons (ps_setLc (i := 3) (te := (tCall spLNum [] E0 (tCons (tVar 5) (tCons (tVar 6) tNil)))) (g := (gTup K 2 (gCons (gName 5) (gCons (gName 6) gNil)))) (own := [("_law_word_here", 5), ("_law_great", 6)]) (by rfl) sc__law_line.nd rfl rfl (sw_true rfl rfl rfl (by decide +kernel)) (pi_zip (by rfl) T.n_zip (pa_cons (pe_slice sl_list (pv 1) (po_some pe_int) po_none) (pa_cons (pv 2) pa_nil))) (blkOk_by (own := [("_law_word_here", 5), ("_law_great", 6)]) (by kernel_rfl)) (fun _ _ _ _ _ => (pg_tup (by rfl) (pgs_cons (pg_name (i := 5) sc__law_line.nd rfl (Or.inl rfl)) (pgs_cons (pg_name (i := 6) sc__law_line.nd rfl (Or.inl rfl)) pgs_nil)))) (fun _ _ _ _ _ => pts_nil) (fun _ _ _ _ _ => (pe_call G__law_number (hr.mono (by omega)) rfl T.g__law_number T.k__law_number T.b__law_number .nil pass0 (pa_cons (pv 5) (pa_cons (pv 6) pa_nil))))) (pss_cons (ps_if (PW.pt (pw_or (pt_cmpR (op_eqD hr.units) (pv 2) (pe_lst pa_nil) (nomark _)) (pw_or (pt_cmpR op_in_seq pe_non (pv 3) (by rfl)) (pw_or1 (pt_cmpR op_lt (pe_callB call_len_seq (by rfl) T.n_len PySem.boot_len (pa_cons (pv 3) pa_nil)) (pe_callB call_len_seq (by rfl) T.n_len PySem.boot_len (pa_cons (pv 2) pa_nil)) (nomark _)))))) (pss_one (ps_ret pe_non)) pss_nil) (pss_cons (ps_if (pt_cmpR op_ne (pe_ix ix_list (pv 1) pe_int (fun _ _ => rfl)) pe_str (nomark _)) (pss_one (ps_ret (pe_ifExp (pt_cmpR op_eq (pe_callB call_len_seq (by rfl) T.n_len PySem.boot_len (pa_cons (pv 1) pa_nil)) (pe_op op_add (pe_callB call_len_seq (by rfl) T.n_len PySem.boot_len (pa_cons (pv 2) pa_nil)) pe_int) (nomark _)) (pe_op op_catA (pe_tup (pa_cons (pe_ix ix_list (pv 1) pe_int (fun _ _ => rfl)) pa_nil)) (pe_callTy call_tuple_of (by rfl) T.n_tuple (by decide +kernel) (pa_cons (pv 3) pa_nil))) pe_non))) pss_nil) (pss_cons (ps_set (i := 4) sc__law_line.nd rfl (Or.inl rfl) (pe_and (pe_cmpR op_eq (pe_callB call_len_seq (by rfl) T.n_len PySem.boot_len (pa_cons (pv 1) pa_nil)) pe_int (nomark _)) (pe_and (pe_cmpR op_in_seq (pe_ix ix_list (pv 3) pe_int (fun _ _ => rfl)) (pe_tup (pa_cons pe_int (pa_cons pe_int (pa_cons pe_int pa_nil)))) (by rfl)) (pe_and (pe_cmpR op_gt (pe_ix ix_list (pv 3) pe_int (fun _ _ => rfl)) pe_int (nomark _)) (pe_one (pe_cmpR op_in_seq (pe_ix ix_list (pv 1) pe_int (fun _ _ => rfl)) (pe_tup (pa_cons pe_str (pa_cons pe_str pa_nil))) (by rfl))))))) (pss_cons (ps_set (i := 4) sc__law_line.nd rfl (Or.inl rfl) (pe_and (pv 4) (pe_and (pe_cmpR op_in_seq (pe_ix ix_list (pv 1) pe_int (fun _ _ => rfl)) (pe_tup (pa_cons pe_str (pa_cons pe_str pa_nil))) (by rfl)) (pe_one (pe_cmpR op_in_seq (pe_ix ix_list (pv 1) pe_int (fun _ _ => rfl)) (pe_tup (pa_cons pe_str (pa_cons pe_str pa_nil))) (by rfl)))))) (pss_one (ps_ret (pe_ifExp (pt_val (pv 4)) (pe_op op_catA (pe_callTy call_tuple_of (by rfl) T.n_tuple (by decide +kernel) (pa_cons (pv 3) pa_nil)) (pe_callTy call_tuple_of (by rfl) T.n_tuple (by decide +kernel) (pa_cons (pe_slice sl_list (pv 1) (po_some pe_int) po_none) pa_nil))) pe_non)))))))))), ?_⟩
    have blk : (Str.ofString " ").cps.all (· < 256) = true := by decide +kernel
    have bln : TL.tl (Str.ofString " ") ≠ [] := by decide +kernel
    obtain ⟨hl1, hl2, hl3⟩ := split_facts bln blk hxs
    refine ⟨_, rfl, ⟨_, rfl⟩, x, _, rfl, rfl, by decide +kernel, Nat.le_of_lt (size1 (by omega)), fun pw hpw => ?_⟩
    obtain ⟨ws, hws⟩ : ∃ ws, ws = Txt.split x " " := ⟨_, rfl⟩
    rw [← hws] at hl1 hl2 hl3 k ⊢
    have O1 := O.new (o := .lst (ws.map V.str)) hpw
    obtain ⟨w0, wr, rfl⟩ : ∃ w0 wr, ws = w0 :: wr := by
      cases ws with
      | nil => exact (hl1 rfl).elim
      | cons a b => exact ⟨a, b, rfl⟩
    have hwl : wr.length ≤ 80001 := by
      have h : wr.length + 1 ≤ x.length + 1 := hl2
      omega
    have kN : lineW (w0 :: wr) = none → ∀ H', Own H' R → Q .non H' := fun e => by
      rw [e] at k
      exact k
    have kS : ∀ {xs : List V}, lineW (w0 :: wr) = some xs → ∀ (p : Addr) (H' : Hp), Own H' ((p, .tup xs) :: R) → Q (.ref p) H' := fun e => by
      rw [e] at k
      exact k
    -- how great
    refine fun pd hpd => ?_
    have O2 := O1.new (o := .dK []) hpd
    refine ⟨by show 2 ≤ sizeLine; decide, fun l1 hl1' => ?_⟩
    have O3 := O2.new (o := .lst [.int 4, .int 4]) hl1'
    refine ⟨by show 2 ≤ sizeLine; decide, fun l2 hl2' => ?_⟩
    have O4 := O3.new (o := .lst [.int 2, .int 63]) hl2'
    refine ⟨by show 3 ≤ sizeLine; decide, fun l3 hl3' => ?_⟩
    have O5 := O4.new (o := .lst [.int 2, .int 63, .int 999]) hl3'
    refine ⟨O5.a3, [(Sum.inr "room", .ref l1), (Sum.inr "look", .ref l2), (Sum.inr "set", .ref l3)], rfl, by show 3 ≤ 15; decide, ?_⟩
    obtain ⟨dk, hdk⟩ : ∃ dk, dk = mergeK [] [((Sum.inr "room" : Key), V.ref l1), (Sum.inr "look", .ref l2), (Sum.inr "set", .ref l3)] := ⟨_, rfl⟩
    rw [← hdk]
    have O6 := (O5.perm (L' := (pd, .dK []) :: (l3, .lst [.int 2, .int 63, .int 999]) :: (l2, .lst [.int 2, .int 63]) :: (l1, .lst [.int 4, .int 4]) :: (pw, .lst ((w0 :: wr).map V.str)) :: R) (by walk_at "perm")).set (o' := .dK dk)
    refine ⟨pd, rfl, .inl ⟨dk, .inl O6.a0⟩, _, rfl, pw, (w0 :: wr).map V.str, 0, .str w0, rfl, rfl, SqL.of (O6.mem (show (pw, HO.lst ((w0 :: wr).map V.str)) ∈ _ by simp)), atI_nat (j := 0) rfl, by show 0 ≤ sizeLine; decide, fun pz hpz => ?_⟩
    have O7 := O6.new (o := .lst []) hpz
    refine ⟨valV dk (Sum.inr w0), DGet.k (k := Sum.inr w0) O7.a1, ?_⟩
    obtain ⟨L, hL⟩ : ∃ L : List Cell, L = (pz, HO.lst []) :: (pd, .dK dk) :: (l3, .lst [.int 2, .int 63, .int 999]) :: (l2, .lst [.int 2, .int 63]) :: (l1, .lst [.int 4, .int 4]) :: (pw, .lst ((w0 :: wr).map V.str)) :: R := ⟨_, rfl⟩
    obtain ⟨pm, hpm, hpmL⟩ : ∃ pm, (valV dk (Sum.inr w0)).getD (.ref pz) = .ref pm ∧ (pm, HO.lst ((mostOf w0).map fun m => V.int (m : Nat))) ∈ L := by
      rw [hL, hdk, val3]
      unfold mostOf
      by_cases h1 : w0 = "room"
      · rw [if_pos h1, if_pos h1]
        exact ⟨l1, rfl, by simp⟩
      · rw [if_neg h1, if_neg h1]
        by_cases h2 : w0 = "look"
        · rw [if_pos h2, if_pos h2]
          exact ⟨l2, rfl, by simp⟩
        · rw [if_neg h2, if_neg h2]
          by_cases h3 : w0 = "set"
          · rw [if_pos h3, if_pos h3]
            exact ⟨l3, rfl, by simp⟩
          · rw [if_neg h3, if_neg h3]
            exact ⟨pz, rfl, by simp⟩
    rw [hpm]
    have hpwL : (pw, HO.lst ((w0 :: wr).map V.str)) ∈ L := by rw [hL]; simp
    have hLR : R.Sublist L := by
      rw [hL]
      exact List.sublist_append_right [_, _, _, _, _, _] R
    rw [← hL] at O7
    clear O6 O5 O4 O3 O2 O1
    generalize upd _ pz _ = H1 at O7 ⊢
    -- numbers
    refine ⟨_, rfl, 1, rfl, pw, _, rfl, SqL.of (O7.mem hpwL), fun s1 hs1 => ?_⟩
    rw [show (some (1 : Int)) = some ((1 : Nat) : Int) from rfl, cutDrop (by show 1 ≤ (wr.map V.str).length + 1; omega), show ((w0 :: wr).map V.str).drop 1 = wr.map V.str from rfl]
    have O8 := O7.new (o := .lst (wr.map V.str)) hs1
    refine ⟨_, rfl, s1, pm, _, _, rfl, SqL.of O8.a0, SqL.of (O8.mem (List.mem_cons_of_mem _ hpmL)), fun D hD => ?_⟩
    refine lc_it (walk_zip (xs := wr.map V.str) (ys := (mostOf w0).map fun m => V.int (m : Nat)) rfl) (fun i H' => Own H' ((D, .lst ((numsOf w0 wr).take i)) :: (s1, .lst (wr.map V.str)) :: L)) (O8.new hD) (fun i H' _ O' => ⟨SqL.of O'.a1, SqL.of (O'.mem (by simp [hpmL]))⟩) ?_ ?_
    · rintro i v H2 H3 hi O9 ⟨Tp, x1, y1, rfl, hTp, rfl, hx1, hy1⟩
      have hx1 : (wr.map V.str)[i]? = some x1 := hx1
      have hy1 : ((mostOf w0).map fun m => V.int (m : Nat))[i]? = some y1 := hy1
      rw [List.getElem?_map] at hx1 hy1
      cases ha : wr[i]? with
      | none =>
        rw [ha] at hx1
        cases hx1
      | some a =>
        rw [ha] at hx1
        obtain rfl : V.str a = x1 := Option.some.inj hx1
        cases hb : (mostOf w0)[i]? with
        | none =>
          rw [hb] at hy1
          cases hy1
        | some m =>
          rw [hb] at hy1
          obtain rfl : V.int (m : Nat) = y1 := Option.some.inj hy1
          have hg : (numsOf w0 wr)[i]? = some (lnum a m) := by
            unfold numsOf
            rw [List.getElem?_zipWith, ha, hb]
          have hga := hl3 a (List.mem_cons_of_mem _ (List.mem_of_getElem? ha))
          have O10 := O9.new (o := .tup [.str a, .int (m : Nat)]) hTp
          refine ⟨Tp, _, rfl, SqT.of O10.a0, rfl, _, _, rfl, _, _, rfl, rfl, rfl, tYes_go (iteT ?_)⟩
          refine ⟨_, rfl, _, rfl, a, m, _, rfl, by omega, hga.2, O10, fun H4 O11 => ?_⟩
          refine ⟨_, O11.a1, ?_, ?_⟩
          · rw [List.length_take]
            refine size1 ?_
            have : i < (wr.map V.str).length := by omega
            rw [List.length_map] at this
            omega
          · rw [take_snoc hg]
            exact ((O11.perm (L' := (D, .lst ((numsOf w0 wr).take i)) :: (Tp, .tup [.str a, .int (m : Nat)]) :: (s1, .lst (wr.map V.str)) :: L) (by walk_at "perm")).set).sub (List.Sublist.cons_cons _ (List.sublist_cons_self _ _))
    · intro H2 O9
      have hnl : (numsOf w0 wr).length = min wr.length (mostOf w0).length := List.length_zipWith
      rw [List.length_map, List.length_map, ← hnl, List.take_length] at O9
      clear O8 O7
      obtain ⟨ns, hns⟩ : ∃ ns : List Int, ns = (mostOf w0).map fun m => ((m : Nat) : Int) := ⟨_, rfl⟩
      have em : ((mostOf w0).map fun m => V.int (m : Nat)) = ns.map V.int := by
        rw [hns, List.map_map]
        rfl
      rw [em] at hpmL
      have hnsl : ns.length = (mostOf w0).length := by rw [hns, List.length_map]
      -- no line, no numbers, too few
      refine ⟨_, rfl, by show 0 ≤ sizeLine; decide, fun q hq => ?_⟩
      have O10 := O9.new (o := .lst []) hq
      have subR : ∀ {H' : Hp} {M : List Cell}, Own H' (M ++ L) → Own H' R := fun {H' M} O' => O'.right.sub hLR
      refine ⟨.list (ns.map .int), .list [], .lst (SqL.of (O10.mem (by simp [hpmL]))) (dpInts ns), .lst (SqL.of O10.a0) .nil, PySem.W.shaped_ints ns, sh0, _, rfl, ?_⟩
      rw [eqv_emp]
      cases hne : ns.isEmpty with
      | true =>
        have : mostOf w0 = [] := by
          have z := List.isEmpty_iff.mp hne
          rw [hns] at z
          exact List.map_eq_nil_iff.mp z
        exact iteT (kN (line_other this) _ (subR (M := [_, _, _]) O10))
      | false =>
        have hmne : mostOf w0 ≠ [] := fun z => by
          rw [hns, z] at hne
          cases hne
        refine iteF ⟨_, rfl, D, _, rfl, .inl (SqL.of O10.a1), rfl, nums_flat _ _, _, rfl, ?_⟩
        cases hin : inV .non (numsOf w0 wr) with
        | true =>
          refine iteTo rfl (kN ?_ _ (subR (M := [_, _, _]) O10))
          rcases most_ne hmne with e | e | e <;> subst e
          · exact room_no (.inl hin)
          · exact look_no (.inl hin)
          · exact set_no (.inl hin)
        | false =>
          refine iteFo rfl ?_
          refine ⟨_, rfl, D, _, rfl, .inl (SqL.of O10.a1), _, rfl, pm, _, rfl, .inl (SqL.of (O10.mem (show (pm, HO.lst (ns.map V.int)) ∈ _ by simp [hpmL]))), _, _, rfl, rfl, _, rfl, ?_⟩
          rw [List.length_map, hnsl, hnl]
          by_cases hsh : min wr.length (mostOf w0).length < (mostOf w0).length
          · refine iteTo (decide_eq_true (by omega)) (kN ?_ _ (subR (M := [_, _, _]) O10))
            rcases most_ne hmne with e | e | e <;> subst e
            · refine room_no (.inr fun z => ?_)
              rw [most_room, z] at hsh
              exact absurd hsh (by decide)
            · refine look_no (.inr fun z => ?_)
              rw [most_look, z] at hsh
              exact absurd hsh (by decide)
            · refine set_no (.inr fun z => ?_)
              rw [most_set, z] at hsh
              exact absurd hsh (by decide)
          · refine iteFo (decide_eq_false (by omega)) ?_
            have hwm : (mostOf w0).length ≤ wr.length := by omega
            have hpw10 : (pw, HO.lst ((w0 :: wr).map V.str)) ∈ (q, HO.lst []) :: (D, .lst (numsOf w0 wr)) :: (s1, .lst (wr.map V.str)) :: L := List.mem_cons_of_mem _ (List.mem_cons_of_mem _ (List.mem_cons_of_mem _ hpwL))
            refine ⟨_, rfl, pw, _, _, .str w0, rfl, rfl, SqL.of (O10.mem hpw10), atI_nat (j := 0) rfl, rfl, _, rfl, ?_⟩
            by_cases h0 : w0 = "room"
            · refine iteFo (by rw [decide_eq_true (by rw [h0])]; rfl) ?_
              subst h0
              by_cases h5 : wr.length = 5
              · obtain ⟨a, b, c, d, e, rfl⟩ : ∃ a b c d e, wr = [a, b, c, d, e] := by
                  match wr, h5 with
                  | [a, b, c, d, e], _ => exact ⟨a, b, c, d, e, rfl⟩
                have hnu : numsOf "room" [a, b, c, d, e] = [lnum a 4, lnum b 4] := by
                  unfold numsOf
                  rw [most_room]
                  rfl
                rw [hnu] at hin O10
                rcases lnum_cases a 4 with ⟨g1, _⟩ | ⟨i, _, _, g1, _, _⟩
                · rw [non_in g1] at hin
                  exact Bool.noConfusion hin
                rcases lnum_cases b 4 with ⟨g3, _⟩ | ⟨j, _, _, g3, _, _⟩
                · rw [non_no g1, non_in g3] at hin
                  exact Bool.noConfusion hin
                have hyes := room_yes (c := c) (d := d) (e := e) g1 g3
                rw [g1, g3] at O10
                obtain ⟨M, hM⟩ : ∃ M : List Cell, M = (q, HO.lst []) :: (D, .lst [.int i, .int j]) :: (s1, .lst ([a, b, c, d, e].map V.str)) :: L := ⟨_, rfl⟩
                rw [← hM] at O10
                have mD : (D, HO.lst [.int i, .int j]) ∈ M := by rw [hM]; simp
                have mW : (pw, HO.lst ((("room" : Str) :: [a, b, c, d, e]).map V.str)) ∈ M := by
                  rw [hM]
                  exact List.mem_cons_of_mem _ (List.mem_cons_of_mem _ (List.mem_cons_of_mem _ hpwL))
                have hno : goodR i j c d e = false → ∀ {H' : Hp} {M' : List Cell}, Own H' (M' ++ M) → Q .non H' := fun hg {H' M'} O' => by
                  rw [if_neg (by rw [hg]; decide)] at hyes
                  rw [hM] at O'
                  exact kN hyes _ (subR (M := [_, _, _]) O'.right)
                refine ⟨_, rfl, pw, _, rfl, .inl (SqL.of (O10.mem mW)), rfl, _, rfl, iteTo rfl ?_⟩
                refine ⟨_, rfl, D, _, _, .int i, rfl, rfl, SqL.of (O10.mem mD), rfl, by show 3 ≤ sizeLine; decide, fun t0 ht0 => ?_⟩
                have Y1 := O10.new (o := .tup [.int 1, .int 2, .int 4]) ht0
                refine ⟨t0, _, rfl, .inr (SqT.of Y1.a0), rfl, rfl, _, rfl, ?_⟩
                cases b1 : inV (.int i) [.int 1, .int 2, .int 4] with
                | false =>
                  refine iteFo rfl ⟨_, rfl, _, rfl, iteF ?_⟩
                  exact ⟨_, rfl, _, rfl, iteF (hno (by unfold goodR; rw [b1]; rfl) (M' := [_]) Y1)⟩
                | true =>
                  refine iteTo rfl ?_
                  refine ⟨_, rfl, D, _, _, .int j, rfl, rfl, SqL.of (Y1.mem (List.mem_cons_of_mem _ mD)), rfl, _, _, rfl, rfl, _, rfl, ?_⟩
                  by_cases b2 : 0 < j
                  · refine iteTo (decide_eq_true b2) ?_
                    refine ⟨_, rfl, pw, _, _, .str c, rfl, rfl, SqL.of (Y1.mem (List.mem_cons_of_mem _ mW)), rfl, by show 2 ≤ sizeLine; decide, fun t1 ht1 => ?_⟩
                    have Y2 := Y1.new (o := .tup [.str "through", .str "back"]) ht1
                    refine ⟨t1, _, rfl, .inr (SqT.of Y2.a0), rfl, rfl, ?_⟩
                    cases b3 : inV (.str c) [.str "through", .str "back"] with
                    | false =>
                      refine ⟨_, rfl, _, rfl, iteF ?_⟩
                      exact ⟨_, rfl, _, rfl, iteF (hno (by unfold goodR; rw [b3, Bool.false_and, Bool.and_false, Bool.and_false]) (M' := [_, _]) Y2)⟩
                    | true =>
                      refine ⟨_, rfl, _, rfl, iteT ?_⟩
                      refine ⟨_, rfl, pw, _, _, .str d, rfl, rfl, SqL.of (Y2.mem (List.mem_cons_of_mem _ (List.mem_cons_of_mem _ mW))), rfl, by show 2 ≤ sizeLine; decide, fun t2 ht2 => ?_⟩
                      have Y3 := Y2.new (o := .tup [.str "in", .str "by"]) ht2
                      refine ⟨t2, _, rfl, .inr (SqT.of Y3.a0), rfl, rfl, _, rfl, ?_⟩
                      cases b4 : inV (.str d) [.str "in", .str "by"] with
                      | false =>
                        refine iteFo rfl ?_
                        exact ⟨_, rfl, _, rfl, iteF (hno (by unfold goodR; rw [b4, Bool.false_and, Bool.and_false, Bool.and_false, Bool.and_false]) (M' := [_, _, _]) Y3)⟩
                      | true =>
                        refine iteTo rfl ?_
                        refine ⟨_, rfl, pw, _, _, .str e, rfl, rfl, SqL.of (Y3.mem (List.mem_cons_of_mem _ (List.mem_cons_of_mem _ (List.mem_cons_of_mem _ mW)))), rfl, by show 2 ≤ sizeLine; decide, fun t3 ht3 => ?_⟩
                        have Y4 := Y3.new (o := .tup [.str "first", .str "late"]) ht3
                        refine ⟨t3, _, rfl, .inr (SqT.of Y4.a0), rfl, rfl, ?_⟩
                        cases b5 : inV (.str e) [.str "first", .str "late"] with
                        | false =>
                          exact ⟨_, rfl, _, rfl, iteF (hno (by unfold goodR; rw [b5, Bool.and_false, Bool.and_false, Bool.and_false, Bool.and_false]) (M' := [_, _, _, _]) Y4)⟩
                        | true =>
                          have hgood : goodR i j c d e = true := by
                            unfold goodR
                            rw [b1, decide_eq_true b2, b3, b4, b5]
                            rfl
                          rw [if_pos hgood] at hyes
                          refine ⟨_, rfl, _, rfl, iteT ?_⟩
                          refine ⟨_, rfl, D, _, rfl, .inl ⟨SqL.of (Y4.mem (show (D, HO.lst [.int i, .int j]) ∈ _ by simp [mD])), fun u1 hu1 => ?_⟩⟩
                          have Y5 := Y4.new (o := .tup [.int i, .int j]) hu1
                          refine ⟨_, rfl, 3, rfl, noPart ⟨pw, _, rfl, SqL.of (Y5.mem (List.mem_cons_of_mem _ (List.mem_cons_of_mem _ (List.mem_cons_of_mem _ (List.mem_cons_of_mem _ (List.mem_cons_of_mem _ mW)))))), fun u2 hu2 => ?_⟩⟩
                          have Y6 := Y5.new (o := .lst [.str c, .str d, .str e]) hu2
                          refine ⟨u2, _, rfl, .inl ⟨SqL.of Y6.a0, fun u3 hu3 => ?_⟩⟩
                          have Y7 := Y6.new (o := .tup [.str c, .str d, .str e]) hu3
                          refine ⟨u1, u3, _, _, rfl, rfl, SqT.of Y7.a2, SqT.of Y7.a0, by show 2 + 3 ≤ sizeLine; decide, (fun z => nomatch z), (fun _ z => nomatch z), fun _ _ u4 hu4 => ?_⟩
                          have Y8 := Y7.new (o := .tup [.int i, .int j, .str c, .str d, .str e]) hu4
                          refine kS hyes u4 _ (Y8.sub (List.Sublist.cons_cons _ ?_))
                          rw [hM]
                          exact hLR.trans (List.sublist_append_right [_, _, _, _, _, _, _, _, _, _] L)
                  · refine iteFo (decide_eq_false b2) ⟨_, rfl, _, rfl, iteF ?_⟩
                    exact ⟨_, rfl, _, rfl, iteF (hno (by unfold goodR; rw [decide_eq_false b2, Bool.false_and, Bool.and_false]) (M' := [_]) Y1)⟩
              · refine ⟨_, rfl, pw, _, rfl, .inl (SqL.of (O10.mem hpw10)), rfl, _, rfl, ?_⟩
                rw [List.length_map]
                refine iteFo (decide_eq_false (fun z => h5 ?_)) ?_
                · have z := V.int.inj z
                  have z : ((wr.length + 1 : Nat) : Int) = 6 := z
                  omega
                · refine ⟨_, rfl, _, rfl, iteF ?_⟩
                  exact ⟨_, rfl, _, rfl, iteF (kN (room_no (.inr h5)) _ (subR (M := [_, _, _]) O10))⟩
            · refine iteTo (by rw [decide_eq_false (fun z => h0 (V.str.inj z))]; rfl) ?_
              refine ⟨_, rfl, pw, _, rfl, .inl (SqL.of (O10.mem hpw10)), _, rfl, pm, _, rfl, .inl (SqL.of (O10.mem (show (pm, HO.lst (ns.map V.int)) ∈ _ by simp [hpmL]))), _, _, rfl, rfl, rfl, _, rfl, ?_⟩
              rw [List.length_map, List.length_map, hnsl]
              by_cases hle : wr.length = (mostOf w0).length
              · refine iteTo (decide_eq_true (by rw [← hle]; rfl)) ?_
                refine ⟨_, rfl, pw, _, _, .str w0, rfl, rfl, SqL.of (O10.mem hpw10), atI_nat (j := 0) rfl, by show 1 ≤ sizeLine; decide, fun t1 ht1 => ?_⟩
                have O11 := O10.new (o := .tup [.str w0]) ht1
                refine ⟨_, rfl, D, _, rfl, .inl ⟨SqL.of O11.a2, fun q2 hq2 => ?_⟩⟩
                have O12 := O11.new (o := .tup (numsOf w0 wr)) hq2
                refine ⟨t1, q2, _, _, rfl, rfl, SqT.of O12.a1, SqT.of O12.a0, Nat.le_of_lt (size1 (by show 1 + _ ≤ 1000000; omega)), (fun z => nomatch z), fun _ z => ?_, fun _ _ q3 hq3 => ?_⟩
                · have z : numsOf w0 wr = [] := z
                  rw [z] at hnl
                  have : (mostOf w0).length ≠ 0 := fun z => hmne (List.length_eq_zero_iff.mp z)
                  have hnl : 0 = min wr.length (mostOf w0).length := hnl
                  omega
                · have O13 := O12.new (o := .tup (.str w0 :: numsOf w0 wr)) hq3
                  refine kS ?_ q3 _ ((O13.sub (List.Sublist.cons_cons _ (List.Sublist.trans hLR (List.sublist_append_right [_, _, _, _, _] L)))))
                  rcases (most_ne hmne).resolve_left h0 with e | e <;> subst e
                  · exact look_yes hin (by rw [hle, most_look]; rfl)
                  · exact set_yes hin (by rw [hle, most_set]; rfl)
              · refine iteFo (decide_eq_false (fun z => hle ?_)) (kN ?_ _ (subR (M := [_, _, _]) O10))
                · have z := V.int.inj z
                  have z : ((wr.length + 1 : Nat) : Int) = ((mostOf w0).length : Int) + 1 := z
                  omega
                · rcases (most_ne hmne).resolve_left h0 with e | e <;> subst e
                  · exact look_no (.inr fun z => hle (by rw [z, most_look]; rfl))
                  · exact set_no (.inr fun z => hle (by rw [z, most_set]; rfl))
end
-- WwLd
/-! ### the law's own reader -/
theorem spl_first (S : List Nat) : ∀ (l acc : List Nat), ∃ p rest t, TL.spl S 0 acc l = p :: rest ∧ p ++ t = acc ++ l
  | [], acc => ⟨acc, [], [], TL.spl_nil S 0 acc, rfl⟩
  | c :: r, acc => by
    cases h : TL.pre S (c :: r) with
    | true => exact ⟨acc, _, c :: r, TL.spl_hit h, rfl⟩
    | false =>
      obtain ⟨p, rest, t, h1, h2⟩ := spl_first S r (acc ++ [c])
      exact ⟨p, rest, t, by rw [TL.spl_miss h, h1], by rw [h2, List.append_assoc]; rfl⟩
theorem split_first {x w : Str} {wr : List Str} (h : Txt.split x " " = w :: wr) : ∃ t, TL.tl x = TL.tl w ++ t := by
  have e := TL.split_spl x " " (by decide +kernel) (TL.kind_ok (by decide +kernel))
  obtain ⟨p, rest, t, h1, h2⟩ := spl_first (TL.tl (Str.ofString " ")) (TL.tl x) []
  rw [h, h1, List.map_cons] at e
  injection e with e1 _
  exact ⟨t, by rw [e1, h2, List.nil_append]⟩
theorem tl_cut4 (x : Str) : TL.tl (cutS x none (some 4)) = (TL.tl x).take 4 := by
  show ((x.cps.toList.drop (HT.sIx x.length 0 none)).take (HT.sIx x.length x.length (some ((4 : Nat) : Int)) - HT.sIx x.length 0 none)) = _
  rw [HT.sIx_none, HT.sIx_nat, List.drop_zero, Nat.sub_zero]
  show (TL.tl x).take (min 4 x.length) = _
  rw [TL.len_tl]
  by_cases h : 4 ≤ (TL.tl x).length
  · rw [Nat.min_eq_left h]
  · rw [Nat.min_eq_right (by omega), List.take_length, List.take_of_length_le (by omega)]
theorem cut_room {x w : Str} {wr : List Str} (h : Txt.split x " " = w :: wr) (hw : w = "room" ∨ w = "look" ∨ w = "set") : decide (V.str (cutS x none (some 4)) = V.str "room") = decide (w = "room") := by
  obtain ⟨t, ht⟩ := split_first h
  rcases hw with e | e | e <;> subst e
  · rw [decide_eq_true rfl]
    refine decide_eq_true ?_
    congr 1
    refine TL.ext_tl ?_
    rw [tl_cut4, ht, show TL.tl (Str.ofString "room") = [114, 111, 111, 109] by decide +kernel]
    rfl
  · rw [show decide ((Str.ofString "look") = (Str.ofString "room")) = false by decide +kernel]
    refine decide_eq_false fun z => ?_
    have z := congrArg TL.tl (V.str.inj z)
    rw [tl_cut4, ht, show TL.tl (Str.ofString "room") = [114, 111, 111, 109] by decide +kernel, show TL.tl (Str.ofString "look") = [108, 111, 111, 107] by decide +kernel] at z
    have z2 := congrArg List.head? z
    exact absurd (Option.some.inj z2) (by decide)
  · rw [show decide ((Str.ofString "set") = (Str.ofString "room")) = false by decide +kernel]
    refine decide_eq_false fun z => ?_
    have z := congrArg TL.tl (V.str.inj z)
    rw [tl_cut4, ht, show TL.tl (Str.ofString "room") = [114, 111, 111, 109] by decide +kernel, show TL.tl (Str.ofString "set") = [115, 101, 116] by decide +kernel] at z
    have z2 := congrArg List.head? z
    exact absurd (Option.some.inj z2) (by decide)
theorem line_first {w : Str} {wr : List Str} {xs : List V} (h : lineW (w :: wr) = some xs) : w = "room" ∨ w = "look" ∨ w = "set" := by
  refine most_ne fun z => ?_
  rw [line_other z] at h
  cases h
theorem rdGo_cons (ws : List Str) (more : List (List Str)) (us : List Rul) (ds : List Deed) (i : Nat) : rdGo (ws :: more) us ds i = match (if ds.isEmpty = true ∧ us.length < 3 then ruleP ws else none) with
    | some u => rdGo more (us ++ [u]) ds (i + 1)
    | none => match (if us.isEmpty = false ∧ ds.length < 200 then deedP ws else none) with
      | some d => rdGo more us (ds ++ [d]) (i + 1)
      | none => .inl i := by
  (conv => lhs; unfold rdGo) <;> rfl
theorem ruleP_no {ws : List Str} (h : ruleW ws = none) : ruleP ws = none := by
  unfold ruleP
  rw [h]
  rfl
theorem deedP_no {ws : List Str} (h : deedW ws = none) : deedP ws = none := by
  unfold deedP
  rw [h]
  rfl
theorem ruleW_not {w : Str} {wr : List Str} (h : w ≠ "room") : ruleW (w :: wr) = none := by
  unfold ruleW
  split
  · rename_i r a b c d e2 he
    injection he with he1 he2
    rw [if_neg (fun z => h (he1.trans z.1))]
  · rfl
theorem deedW_room (wr : List Str) : deedW ("room" :: wr) = none := by
  unfold deedW
  exact if_neg (fun z => z.1.elim (by decide +kernel) (by decide +kernel))
theorem rd_none {w : Str} {wr : List Str} {more : List (List Str)} {us : List Rul} {ds : List Deed} {i : Nat} (h : lineW (w :: wr) = none) : rdGo ((w :: wr) :: more) us ds i = .inl i := by
  have h12 : ruleP (w :: wr) = none ∧ deedP (w :: wr) = none := by
    rw [lineW_cons] at h
    by_cases hw : w = "room"
    · subst hw
      rw [if_pos rfl] at h
      exact ⟨ruleP_no h, deedP_no (deedW_room wr)⟩
    · rw [if_neg hw] at h
      exact ⟨ruleP_no (ruleW_not hw), deedP_no h⟩
  rw [rdGo_cons, h12.1, h12.2, ite_self, ite_self]
theorem rd_rule {wr : List Str} {xs : List V} {more : List (List Str)} {us : List Rul} {ds : List Deed} {i : Nat} (h : lineW ("room" :: wr) = some xs) : ∃ u : Rul, RulOk u ∧ xs = u.vs ∧
    (ds.isEmpty = true ∧ us.length < 3 → rdGo (("room" :: wr) :: more) us ds i = rdGo more (us ++ [u]) ds (i + 1)) ∧ (¬ (ds.isEmpty = true ∧ us.length < 3) → rdGo (("room" :: wr) :: more) us ds i = .inl i) := by
  rw [line_r] at h
  rcases ruleP_ok ("room" :: wr) with ⟨z, _⟩ | ⟨u, hu, h1, h2⟩
  · rw [z] at h
    cases h
  · rw [h] at h1
    refine ⟨u, hu, Option.some.inj h1, fun c => ?_, fun c => ?_⟩
    · rw [rdGo_cons, if_pos c, h2]
    · rw [rdGo_cons, if_neg c, deedP_no (deedW_room wr), ite_self]
theorem rd_deed {w : Str} {wr : List Str} {xs : List V} {more : List (List Str)} {us : List Rul} {ds : List Deed} {i : Nat} (hw : w ≠ "room") (h : lineW (w :: wr) = some xs) : ∃ d : Deed, d.ok 3 ∧ xs = d.vs ∧
    (us.isEmpty = false ∧ ds.length < 200 → rdGo ((w :: wr) :: more) us ds i = rdGo more us (ds ++ [d]) (i + 1)) ∧ (¬ (us.isEmpty = false ∧ ds.length < 200) → rdGo ((w :: wr) :: more) us ds i = .inl i) := by
  rw [lineW_cons, if_neg hw] at h
  rcases deedP_ok (w :: wr) with ⟨z, _⟩ | ⟨d, hd, h1, h2⟩
  · rw [z] at h
    cases h
  · rw [h] at h1
    refine ⟨d, hd, Option.some.inj h1, fun c => ?_, fun c => ?_⟩
    · rw [rdGo_cons, ruleP_no (ruleW_not hw), ite_self, if_pos c, h2]
    · rw [rdGo_cons, ruleP_no (ruleW_not hw), ite_self, if_neg c]
def spLRead : Sp := fun vs H Q _ => ∃ (x : Str) (R : List Cell), vs = [.str x] ∧ x.length ≤ 80000 ∧ Sgn x ∧ Own H R ∧
  (∀ i : Nat, rdGo (rowsOf x) [] [] 0 = .inl i → ∀ (p : Addr) (H' : Hp), Own H' ((p, .tup [.int (i : Nat), .non]) :: R) → Q (.ref p) H') ∧
  ∀ (us : List Rul) (ds : List Deed), rdGo (rowsOf x) [] [] 0 = .inr (us, ds) → us.length ≤ 3 → ds.length ≤ 200 → ∀ (p p2 pr pd : Addr) (ras das : List Addr) (N : List Cell) (H' : Hp), RA N ras us → TA N das (ds.map Deed.vs) →
    Own H' ((p, .tup [.non, .ref p2]) :: (p2, .tup [.ref pr, .ref pd]) :: (pr, .lst (ras.map V.ref)) :: (pd, .lst (das.map V.ref)) :: (N ++ R)) → Q (.ref p) H'
section
variable {P : Program} {w : World} {K : PySem.W.Frag} {mg : Str → Option Value} {base : Heap} {n lv : Nat}
theorem ok_lread (T : Txt K mg) : FnOk P w K mg base CX0 5 (He.fAd K ("_law_read", none)) T.fd__law_read ["_law_text"] spLRead := by
  have G__law_line := ok_lline (P := P) (w := w) (base := base) T
  refine okOf T.F__law_read sc__law_read (fun vs H Q E h => ?_) (fun cdv A outer s H vs Q E hr h => ?_)
  · obtain ⟨_, _, rfl, _⟩ := h
    rfl
  · obtain ⟨x, R, rfl, hxl, hxs, O, k1, k2⟩ := h
    refine ⟨_, (pss_cons (ps_par (by rfl) sc__law_read.nd (i := 1) (j := 2) rfl rfl (by decide) rfl rfl (pa_cons (pe_lst pa_nil) (pa_cons (pe_lst pa_nil) pa_nil)) (by rfl)) (pss_cons (ps_set (i := 3) sc__law_read.nd rfl (Or.inl rfl) (pe_split (pv 0) pe_str)) (pss_cons (ps_for PassesOwn.never rfl (pi_range1 (by rfl) T.n_range (pa_cons (pe_callB call_len_seq (by rfl) T.n_len PySem.boot_len (pa_cons (pv 3) pa_nil)) pa_nil)) (pg_name (i := 4) sc__law_read.nd rfl (Or.inl rfl)) (pss_cons (ps_set (i := 5) sc__law_read.nd rfl (Or.inl rfl) (pe_call G__law_line (hr.mono (by omega)) rfl T.g__law_line T.k__law_line T.b__law_line .nil pass0 (pa_cons (pe_ix ix_list (pv 3) (pv 4) (fun _ _ => rfl)) pa_nil))) (pss_cons (ps_if (pt_cmpR op_isN (pv 5) pe_non (nomark _)) (pss_one (ps_ret (pe_tup (pa_cons (pv 4) (pa_cons pe_non pa_nil))))) pss_nil) (pss_one (ps_if (pt_cmpR op_eq (pe_slice sl_str (pe_ix ix_list (pv 3) (pv 4) (fun _ _ => rfl)) po_none (po_some pe_int)) pe_str (nomark _)) (pss_cons (ps_if (PW.pt (pw_or (pt_cmpR (op_neD hr.units) (pv 2) (pe_lst pa_nil) (nomark _)) (pw_or1 (pt_cmpR op_eq (pe_callB call_len_seq (by rfl) T.n_len PySem.boot_len (pa_cons (pv 1) pa_nil)) pe_int (nomark _))))) (pss_one (ps_ret (pe_tup (pa_cons (pv 4) (pa_cons pe_non pa_nil))))) pss_nil) (pss_one (ps_expr (pe_bm PySem.F.plainAttrs_list PySem.F.slot_list_append PySem.F.type_list_append mt_append (pv 1) (pa_cons (pv 5) pa_nil))))) (pss_cons (ps_if (PW.pt (pw_or (pt_cmpR (op_eqD hr.units) (pv 1) (pe_lst pa_nil) (nomark _)) (pw_or1 (pt_cmpR op_eq (pe_callB call_len_seq (by rfl) T.n_len PySem.boot_len (pa_cons (pv 2) pa_nil)) pe_int (nomark _))))) (pss_one (ps_ret (pe_tup (pa_cons (pv 4) (pa_cons pe_non pa_nil))))) pss_nil) (pss_one (ps_expr (pe_bm PySem.F.plainAttrs_list PySem.F.slot_list_append PySem.F.type_list_append mt_append (pv 2) (pa_cons (pv 5) pa_nil)))))))))) (pss_one (ps_ret (pe_tup (pa_cons pe_non (pa_cons (pe_tup (pa_cons (pv 1) (pa_cons (pv 2) pa_nil))) pa_nil)))))))), ?_⟩
    obtain ⟨J, hJ⟩ : ∃ J, J = rdGo (rowsOf x) [] [] 0 := ⟨_, rfl⟩
    rw [← hJ] at k1 k2
    refine ⟨by show 0 ≤ sizeLine; decide, fun pr hpr => ?_⟩
    have O1 := O.new (o := .lst (([] : List Addr).map V.ref)) hpr
    refine ⟨by show 0 ≤ sizeLine; decide, fun pd hpd => ?_⟩
    have O2 := O1.new (o := .lst (([] : List Addr).map V.ref)) hpd
    refine ⟨_, _, rfl, ?_⟩
    have nlk : (Str.ofString "\n").cps.all (· < 256) = true := by decide +kernel
    have nln : TL.tl (Str.ofString "\n") ≠ [] := by decide +kernel
    obtain ⟨hl1, hl2, hl3⟩ := split_facts nln nlk hxs
    refine ⟨_, rfl, ⟨_, rfl⟩, x, _, rfl, rfl, by decide +kernel, Nat.le_of_lt (size1 (by omega)), fun pl hpl => ?_⟩
    obtain ⟨lines, hlines⟩ : ∃ lines, lines = Txt.split x "\n" := ⟨_, rfl⟩
    rw [← hlines] at hl1 hl2 hl3 ⊢
    have O3 := O2.new (o := .lst (lines.map V.str)) hpl
    have hJ2 : rdGo (lines.map fun l => Txt.split l " ") [] [] 0 = J := by
      rw [hJ, hlines]
      rfl
    refine ⟨_, rfl, pl, _, rfl, .inl (SqL.of O3.a0), ?_⟩
    refine ⟨_, rfl, by omega, by rw [List.length_map]; omega, ?_⟩
    rw [List.length_map, Int.toNat_natCast]
    refine for_range (lo := 0) (n := lines.length) (fun i σ H' => ∃ (us : List Rul) (ds : List Deed) (ras das : List Addr) (N : List Cell) (v4 v5 : Option V), σ = [some (.str x), some (.ref pr), some (.ref pd), some (.ref pl), v4, v5] ∧ us.length ≤ 3 ∧ ds.length ≤ 200 ∧ RA N ras us ∧ TA N das (ds.map Deed.vs) ∧ rdGo ((lines.drop i).map fun l => Txt.split l " ") us ds i = J ∧ Own H' ((pl, .lst (lines.map V.str)) :: (pr, .lst (ras.map V.ref)) :: (pd, .lst (das.map V.ref)) :: (N ++ R)))
      ⟨[], [], [], [], [], none, none, rfl, Nat.zero_le _, Nat.zero_le _, trivial, trivial, hJ2, O3.perm (by walk_at "perm")⟩ ?_ ?_
    · rintro i σ H4 hi ⟨us, ds, ras, das, N, v4, v5, rfl, husl, hdsl, hra, hta, hj, O4⟩
      have hli : lines[i]? = some lines[i] := List.getElem?_eq_getElem hi
      obtain ⟨l, hl⟩ : ∃ l, l = lines[i] := ⟨_, rfl⟩
      rw [← hl] at hli
      have hll := hl3 l (List.mem_of_getElem? hli)
      rw [List.drop_eq_getElem_cons hi, ← hl, List.map_cons] at hj
      obtain ⟨w0, wr, hws⟩ : ∃ w0 wr, Txt.split l " " = w0 :: wr := by
        have := (split_facts (y := " ") (by decide +kernel) (by decide +kernel) hll.2).1
        cases e : Txt.split l " " with
        | nil => exact (this e).elim
        | cons a b => exact ⟨a, b, rfl⟩
      rw [hws] at hj
      refine ⟨_, rfl, _, rfl, pl, _, _, .str l, rfl, rfl, SqL.of O4.a0, ?_, l, _, rfl, by omega, hll.2, O4, ?_⟩
      · rw [Int.zero_add]
        refine atI_nat ?_
        rw [List.getElem?_map, hli]
        rfl
      · rw [hws]
        cases hw : lineW (w0 :: wr) with
        | none =>
          rw [rd_none hw] at hj
          intro H5 O5
          refine ⟨_, rfl, rfl, _, rfl, iteTo rfl ?_⟩
          refine ⟨_, rfl, by show 2 ≤ sizeLine; decide, fun p hp => ?_⟩
          have O6 := O5.new (o := .tup [.int (0 + (i : Int)), .non]) hp
          rw [Int.zero_add] at O6
          have e0 : (0 : Int) + (i : Int) = (i : Int) := Int.zero_add _
          have := k1 i hj.symm p _ (O6.sub (List.Sublist.cons_cons _ (List.Sublist.trans (List.sublist_append_right N R) (List.sublist_append_right [_, _, _] (N ++ R)))))
          rw [e0]
          exact this
        | some xs =>
          intro f H5 O5
          refine ⟨_, rfl, rfl, _, rfl, iteFo rfl ?_⟩
          have hfw := line_first hw
          refine ⟨_, rfl, _, rfl, pl, _, _, .str l, rfl, rfl, SqL.of O5.a1, ?_, ?_⟩
          · rw [Int.zero_add]
            refine atI_nat ?_
            rw [List.getElem?_map, hli]
            rfl
          · refine ⟨4, rfl, l, rfl, Nat.le_of_lt (size1 (by omega)), rfl, _, rfl, ?_⟩
            rw [cut_room hws hfw]
            by_cases h0 : w0 = "room"
            · refine iteTo (decide_eq_true h0) ?_
              subst h0
              obtain ⟨u, hu, rfl, hy, hn⟩ := rd_rule (more := (lines.drop (i + 1)).map fun l => Txt.split l " ") (us := us) (ds := ds) (i := i) hw
              refine ⟨_, rfl, by show 0 ≤ sizeLine; decide, fun q hq => ?_⟩
              have O6 := O5.new (o := .lst []) hq
              refine ⟨.list (ds.map dD), .list [], .lst (SqL.of (O6.mem (show (pd, HO.lst (das.map V.ref)) ∈ _ by simp))) ((deeds_dp hta).dps fun c hc => O6.2 c (by simp [hc])), .lst (SqL.of O6.a0) .nil, deeds_shaped _, sh0, _, rfl, ?_⟩
              rw [eqv_emp]
              have bad : ∀ {HH : Hp} {M : List Cell}, ¬ (ds.isEmpty = true ∧ us.length < 3) → Own HH (M ++ ((pl, .lst (lines.map V.str)) :: (pr, .lst (ras.map V.ref)) :: (pd, .lst (das.map V.ref)) :: (N ++ R))) → ∀ p, HH p = none → Q (.ref p) (upd HH p (.tup [.int (0 + (i : Int)), .non])) := fun {HH M} hc OO p hp => by
                rw [hn hc] at hj
                have e0 : (0 : Int) + (i : Int) = (i : Int) := Int.zero_add _
                rw [e0]
                exact k1 i hj.symm p _ ((OO.new (o := .tup [.int (i : Nat), .non]) hp).sub (List.Sublist.cons_cons _ (List.Sublist.trans (List.sublist_append_right N R) (List.Sublist.trans (List.sublist_append_right [_, _, _] (N ++ R)) (List.sublist_append_right M _)))))
              cases hde : ds.isEmpty with
              | false =>
                refine iteT ⟨_, rfl, by show 2 ≤ sizeLine; decide, fun p hp => ?_⟩
                exact bad (M := [_, _]) (fun z => by rw [hde] at z; cases z.1) O6 p hp
              | true =>
                refine iteF ?_
                have hrl := hra.len
                refine ⟨_, rfl, pr, _, rfl, .inl (SqL.of (O6.mem (show (pr, HO.lst (ras.map V.ref)) ∈ _ by simp))), rfl, _, rfl, ?_⟩
                rw [List.length_map]
                by_cases h3 : us.length < 3
                · refine iteFo (decide_eq_false (fun z => by have z := V.int.inj z; omega)) ?_
                  refine ⟨_, rfl, .inl ⟨rfl, _, SqL.of (O6.mem (show (pr, HO.lst (ras.map V.ref)) ∈ _ by simp))⟩, _, rfl, pr, _, _, rfl, rfl, O6.mem (show (pr, HO.lst (ras.map V.ref)) ∈ _ by simp), by rw [List.length_map]; exact size1 (by omega), ?_⟩
                  rw [hy ⟨hde, h3⟩] at hj
                  refine ⟨us ++ [u], ds, ras ++ [f], das, (f, .tup u.vs) :: N, _, _, rfl, by rw [List.length_append]; show us.length + 1 ≤ 3; omega, hdsl, (hra.mono fun c hc => List.mem_cons_of_mem _ hc).app ⟨List.mem_cons_self, trivial⟩, hta.mono fun c hc => List.mem_cons_of_mem _ hc, hj, ?_⟩
                  rw [List.map_append]
                  exact ((O6.perm (L' := (pr, .lst (ras.map V.ref)) :: (q, .lst []) :: (pl, .lst (lines.map V.str)) :: (pd, .lst (das.map V.ref)) :: (((f, .tup u.vs) :: N) ++ R)) (by walk_at "perm")).set (o' := .lst (ras.map V.ref ++ [.ref f])) |>.perm (L' := (q, .lst []) :: (pl, .lst (lines.map V.str)) :: (pr, .lst (ras.map V.ref ++ [.ref f])) :: (pd, .lst (das.map V.ref)) :: (((f, .tup u.vs) :: N) ++ R)) (by walk_at "perm")).tail
                · refine iteTo (decide_eq_true (by rw [show ras.length = 3 by omega]; rfl)) ?_
                  refine ⟨_, rfl, by show 2 ≤ sizeLine; decide, fun p hp => ?_⟩
                  exact bad (M := [_, _]) (fun z => h3 z.2) O6 p hp
            · refine iteFo (decide_eq_false h0) ?_
              obtain ⟨d, hd, rfl, hy, hn⟩ := rd_deed (more := (lines.drop (i + 1)).map fun l => Txt.split l " ") (us := us) (ds := ds) (i := i) h0 hw
              refine ⟨_, rfl, by show 0 ≤ sizeLine; decide, fun q hq => ?_⟩
              have O6 := O5.new (o := .lst []) hq
              refine ⟨.list (us.map ruD), .list [], .lst (SqL.of (O6.mem (show (pr, HO.lst (ras.map V.ref)) ∈ _ by simp))) ((rules_dp hra).dps fun c hc => O6.2 c (by simp [hc])), .lst (SqL.of O6.a0) .nil, rules_shaped _, sh0, _, rfl, ?_⟩
              rw [eqv_emp]
              have bad : ∀ {HH : Hp} {M : List Cell}, ¬ (us.isEmpty = false ∧ ds.length < 200) → Own HH (M ++ ((pl, .lst (lines.map V.str)) :: (pr, .lst (ras.map V.ref)) :: (pd, .lst (das.map V.ref)) :: (N ++ R))) → ∀ p, HH p = none → Q (.ref p) (upd HH p (.tup [.int (0 + (i : Int)), .non])) := fun {HH M} hc OO p hp => by
                rw [hn hc] at hj
                have e0 : (0 : Int) + (i : Int) = (i : Int) := Int.zero_add _
                rw [e0]
                exact k1 i hj.symm p _ ((OO.new (o := .tup [.int (i : Nat), .non]) hp).sub (List.Sublist.cons_cons _ (List.Sublist.trans (List.sublist_append_right N R) (List.Sublist.trans (List.sublist_append_right [_, _, _] (N ++ R)) (List.sublist_append_right M _)))))
              cases hde : us.isEmpty with
              | true =>
                refine iteT ⟨_, rfl, by show 2 ≤ sizeLine; decide, fun p hp => ?_⟩
                exact bad (M := [_, _]) (fun z => by rw [hde] at z; cases z.1) O6 p hp
              | false =>
                refine iteF ?_
                have hrl := hta.len
                rw [List.length_map] at hrl
                refine ⟨_, rfl, pd, _, rfl, .inl (SqL.of (O6.mem (show (pd, HO.lst (das.map V.ref)) ∈ _ by simp))), rfl, _, rfl, ?_⟩
                rw [List.length_map]
                by_cases h3 : ds.length < 200
                · refine iteFo (decide_eq_false (fun z => by have z := V.int.inj z; omega)) ?_
                  refine ⟨_, rfl, .inl ⟨rfl, _, SqL.of (O6.mem (show (pd, HO.lst (das.map V.ref)) ∈ _ by simp))⟩, _, rfl, pd, _, _, rfl, rfl, O6.mem (show (pd, HO.lst (das.map V.ref)) ∈ _ by simp), by rw [List.length_map]; exact size1 (by omega), ?_⟩
                  rw [hy ⟨hde, h3⟩] at hj
                  refine ⟨us, ds ++ [d], ras, das ++ [f], (f, .tup d.vs) :: N, _, _, rfl, husl, by rw [List.length_append]; show ds.length + 1 ≤ 200; omega, hra.mono fun c hc => List.mem_cons_of_mem _ hc, by rw [List.map_append]; exact (hta.mono fun c hc => List.mem_cons_of_mem _ hc).app ⟨List.mem_cons_self, trivial⟩, hj, ?_⟩
                  rw [List.map_append]
                  exact ((O6.perm (L' := (pd, .lst (das.map V.ref)) :: (q, .lst []) :: (pl, .lst (lines.map V.str)) :: (pr, .lst (ras.map V.ref)) :: (((f, .tup d.vs) :: N) ++ R)) (by walk_at "perm")).set (o' := .lst (das.map V.ref ++ [.ref f])) |>.perm (L' := (q, .lst []) :: (pl, .lst (lines.map V.str)) :: (pr, .lst (ras.map V.ref)) :: (pd, .lst (das.map V.ref ++ [.ref f])) :: (((f, .tup d.vs) :: N) ++ R)) (by walk_at "perm")).tail
                · refine iteTo (decide_eq_true (by rw [show das.length = 200 by omega]; rfl)) ?_
                  refine ⟨_, rfl, by show 2 ≤ sizeLine; decide, fun p hp => ?_⟩
                  exact bad (M := [_, _]) (fun z => h3 z.2) O6 p hp
    · rintro σ H4 ⟨us, ds, ras, das, N, v4, v5, rfl, husl, hdsl, hra, hta, hj, O4⟩
      rw [List.drop_length] at hj
      have hj : (Sum.inr (us, ds) : Nat ⊕ (List Rul × List Deed)) = J := hj
      refine ⟨_, rfl, _, rfl, by show 2 ≤ sizeLine; decide, fun p2 hp2 => ?_⟩
      have O5 := O4.new (o := .tup [.ref pr, .ref pd]) hp2
      refine ⟨by show 2 ≤ sizeLine; decide, fun p hp => ?_⟩
      have O6 := O5.new (o := .tup [.non, .ref p2]) hp
      refine k2 us ds hj.symm husl hdsl p p2 pr pd ras das N _ hra hta ?_
      exact (O6.perm (L' := (pl, .lst (lines.map V.str)) :: (p, .tup [.non, .ref p2]) :: (p2, .tup [.ref pr, .ref pd]) :: (pr, .lst (ras.map V.ref)) :: (pd, .lst (das.map V.ref)) :: (N ++ R)) (by walk_at "perm")).tail
end
-- WwNx
/-! ### rules, hands, deeds needed, of whatever is handed in -/
def FlatX (xs : List V) : Prop := (∀ x ∈ xs, OkF x) ∧ xs.length ≤ 1000
def RuleAt (xss : List (List V)) (i : Nat) : Prop := i < 3 ∧ ∃ xs, xss[i]? = some xs ∧ ruleB xs = true
def RuleBad (xss : List (List V)) (i : Nat) : Prop := i < xss.length ∧ ¬ RuleAt xss i ∧ ∀ j, j < i → RuleAt xss j
def DeedAt (m : Int) (xss : List (List V)) (i : Nat) : Prop := i < 200 ∧ ∃ xs, xss[i]? = some xs ∧ deedB m xs = true
def DeedBad (m : Int) (xss : List (List V)) (i : Nat) : Prop := i < xss.length ∧ ¬ DeedAt m xss i ∧ ∀ j, j < i → DeedAt m xss j
def spNeedRulesX (K : PySem.W.Frag) : Sp := fun vs H Q E => ∃ (pr : Addr) (as : List Addr) (xss : List (List V)) (R : List Cell), vs = [.ref pr] ∧ (pr, HO.lst (as.map V.ref)) ∈ R ∧ TA R as xss ∧ (∀ xs ∈ xss, FlatX xs) ∧ xss.length ≤ 100000 ∧ Own H R ∧
  (∀ i, RuleBad xss i ∨ (xss = [] ∧ i = 0) → ∀ (d : Addr) (H' : Hp), Own H' ((d, .xd [("number", .int (i : Nat))]) :: R) → E (.ref (He.ga K "BadRule")) (some d) H') ∧
  (xss ≠ [] → (∀ i, i < xss.length → RuleAt xss i) → ∀ H', Own H' R → Q .non H')
def spNeedDeedsX (K : PySem.W.Frag) : Sp := fun vs H Q E => ∃ (pd : Addr) (m : Int) (as : List Addr) (xss : List (List V)) (R : List Cell), vs = [.ref pd, .int m] ∧ (pd, HO.lst (as.map V.ref)) ∈ R ∧ TA R as xss ∧ (∀ xs ∈ xss, FlatX xs) ∧ xss.length ≤ 100000 ∧ Own H R ∧
  (∀ i, DeedBad m xss i → ∀ (d : Addr) (H' : Hp), Own H' ((d, .xd [("number", .int (i : Nat))]) :: R) → E (.ref (He.ga K "BadDeed")) (some d) H') ∧
  ((∀ i, i < xss.length → DeedAt m xss i) → ∀ H', Own H' R → Q .non H')
def spNeedHandsX (K : PySem.W.Frag) : Sp := fun vs H Q E => ∃ (m : Int), vs = [.int m] ∧ (1 ≤ m ∧ m ≤ 3 → Q .non H) ∧ (¬ (1 ≤ m ∧ m ≤ 3) → E (.ref (He.ga K "BadHands")) none H)
section
variable {P : Program} {w : World} {K : PySem.W.Frag} {mg : Str → Option Value} {base : Heap} {n lv : Nat}
end
-- WwWr
/-! ### written -/
/-- str(part) -/
def partS : V → Str
  | .int i => Str.ofString (toString i)
  | .str x => x
  | _ => Str.empty
def rowR (u : Rul) : Str := Txt.join " " (("room" : Str) :: u.vs.map partS : List Str)
def rowD (d : Deed) : Str := Txt.join " " (d.vs.map partS)
def textOf (us : List Rul) (ds : List Deed) : Str := Txt.join "\n" (us.map rowR ++ ds.map rowD)
def PartOk (x : V) : Prop := (∃ i : Int, x = .int i ∧ 0 ≤ i ∧ i < 1000) ∨ ∃ s : Str, x = .str s ∧ s.length ≤ 7
theorem PartOk.len {x : V} (h : PartOk x) : (partS x).length ≤ 7 := by
  rcases h with ⟨i, rfl, h0, h1⟩ | ⟨s, rfl, h⟩
  · have e := int_text_length_le10 (a := i) (k := 3) (by decide) (by omega)
    show (Str.ofString (toString i)).length ≤ 7
    rw [PySem.ofString_length]
    omega
  · exact h
theorem sBk_len (b : Bool) : (sBk b).length ≤ 7 := by cases b <;> decide +kernel
theorem sIn_len (b : Bool) : (sIn b).length ≤ 7 := by cases b <;> decide +kernel
theorem sLt_len (b : Bool) : (sLt b).length ≤ 7 := by cases b <;> decide +kernel
theorem rul_parts {u : Rul} (hu : RulOk u) : ∀ x ∈ u.vs, PartOk x := fun x hx => by
  unfold Rul.vs at hx
  simp only [List.mem_cons, List.not_mem_nil, or_false] at hx
  have hs := hu.s
  have hw := hu.w4
  rcases hx with e | e | e | e | e <;> rw [e]
  · exact .inl ⟨_, rfl, by omega, by omega⟩
  · exact .inl ⟨_, rfl, by omega, by omega⟩
  · exact .inr ⟨_, rfl, sBk_len _⟩
  · exact .inr ⟨_, rfl, sIn_len _⟩
  · exact .inr ⟨_, rfl, sLt_len _⟩
theorem deed_parts {d : Deed} (hd : d.ok 3) : ∀ x ∈ d.vs, PartOk x := fun x hx => by
  cases d with
  | look h p =>
    obtain ⟨h1, h2⟩ := hd
    have hx : x ∈ [V.str "look", .int (h : Nat), .int (p : Nat)] := hx
    simp only [List.mem_cons, List.not_mem_nil, or_false] at hx
    rcases hx with e | e | e <;> rw [e]
    · exact .inr ⟨_, rfl, by decide +kernel⟩
    · exact .inl ⟨_, rfl, by omega, by omega⟩
    · exact .inl ⟨_, rfl, by omega, by omega⟩
  | set h p v =>
    obtain ⟨h1, h2, h3, h4⟩ := hd
    have hx : x ∈ [V.str "set", .int (h : Nat), .int (p : Nat), .int v] := hx
    simp only [List.mem_cons, List.not_mem_nil, or_false] at hx
    rcases hx with e | e | e | e <;> rw [e]
    · exact .inr ⟨_, rfl, by decide +kernel⟩
    · exact .inl ⟨_, rfl, by omega, by omega⟩
    · exact .inl ⟨_, rfl, by omega, by omega⟩
    · exact .inl ⟨_, rfl, by omega, by omega⟩
theorem joinL_len (S : List Nat) : ∀ ps : List (List Nat), (TL.joinL S ps).length ≤ (ps.map List.length).sum + ps.length * S.length
  | [] => Nat.zero_le _
  | [p] => by
    show p.length ≤ _
    simp
  | p :: q :: r => by
    have ih := joinL_len S (q :: r)
    show (p ++ (S ++ TL.joinL S (q :: r))).length ≤ ((p :: q :: r).map List.length).sum + (r.length + 1 + 1) * S.length
    rw [List.length_append, List.length_append, List.map_cons, List.sum_cons, Nat.add_mul, Nat.one_mul]
    have e : (q :: r).length = r.length + 1 := rfl
    rw [e] at ih
    omega
theorem join_len (y : Str) (ps : List Str) : (Txt.join y ps).length ≤ (ps.map (·.length)).sum + ps.length * y.length := by
  rw [TL.join_eq, TL.len_tl, TL.tl_join]
  refine Nat.le_trans (joinL_len _ _) ?_
  rw [List.length_map, TL.len_tl y, List.map_map]
  have e : ps.map (List.length ∘ TL.tl) = ps.map (·.length) := List.map_congr_left fun x _ => (TL.len_tl x).symm
  rw [e]
  exact Nat.le_refl _
theorem sum_le {xs : List Str} {m : Nat} (h : ∀ x ∈ xs, x.length ≤ m) : (xs.map (·.length)).sum ≤ xs.length * m := by
  induction xs with
  | nil => exact Nat.zero_le _
  | cons a xs ih =>
    have h1 := h a List.mem_cons_self
    have h2 := ih fun x hx => h x (List.mem_cons_of_mem _ hx)
    rw [List.map_cons, List.sum_cons, List.length_cons, Nat.add_mul, Nat.one_mul]
    omega
theorem row_len {xs : List V} (h : ∀ x ∈ xs, PartOk x) (hl : xs.length ≤ 5) : (Txt.join " " (xs.map partS)).length ≤ 40 ∧ (Txt.join " " ("room" :: xs.map partS)).length ≤ 48 := by
  have hb : ∀ x ∈ xs.map partS, x.length ≤ 7 := fun x hx => by
    obtain ⟨y, hy, rfl⟩ := List.mem_map.mp hx
    exact (h y hy).len
  have h1 := join_len " " (xs.map partS)
  have h2 := join_len " " ("room" :: xs.map partS)
  have h3 := sum_le hb
  have e1 : (Str.ofString " ").length = 1 := by decide +kernel
  have e2 : (Str.ofString "room").length = 4 := by decide +kernel
  rw [List.length_map] at h1 h3
  rw [List.map_cons, List.sum_cons, List.length_cons, List.length_map] at h2
  rw [e1] at h1 h2
  rw [e2] at h2
  omega
theorem parts_go {K : PySem.W.Frag} {s : Nat} {p : Addr} {a0 a1 a2 a3 a4 a5 : Option V} {H : Hp} {Q : VK} {xs : List V} {L : List Cell} (hs : ([a0, a1, a2, a3, a4, a5] : List (Option V))[s]? = some (some (.ref p))) (hp : (p, HO.tup xs) ∈ L) (hx : ∀ x ∈ xs, PartOk x) (hl : xs.length ≤ 5) (O : Own H L)
    (k : ∀ (D : Addr) (H' : Hp), Own H' ((D, .lst ((xs.map partS).map V.str)) :: L) → Q (.ref D) H') :
    tLc (iTup K (tVar s)) (gName 5) tYes (tCB rStrF (tCons (tVar 5) tNil)) [5] [a0, a1, a2, a3, a4, a5] H Q := by
  refine ⟨_, hs, p, rfl, ⟨_, SqT.of (O.mem hp)⟩, fun D hD => ?_⟩
  refine lc_tup (K := K) (a := p) (xs := xs) (fun i H' => Own H' ((D, .lst (((xs.take i).map partS).map V.str)) :: L)) (O.new hD) (fun i H' _ O' => SqT.of (O'.mem (List.mem_cons_of_mem _ hp))) ?_ ?_
  · rintro i y H1 hi O1
    have hil : i < xs.length := (List.getElem?_eq_some_iff.mp hi).1
    have fin : ∀ z, partS y = z → ∃ acc, H1 D = some (.lst acc) ∧ acc.length < sizeLine ∧ Own (upd H1 D (.lst (acc ++ [.str z]))) ((D, .lst (((xs.take (i + 1)).map partS).map V.str)) :: L) := fun z hz => by
      refine ⟨_, O1.a0, by rw [List.length_map, List.length_map, List.length_take]; exact size1 (by omega), ?_⟩
      rw [take_snoc hi, List.map_append, List.map_append, ← hz]
      exact O1.set
    refine ⟨rfl, tYes_go (iteT ⟨_, rfl, ?_⟩)⟩
    rcases hx y (List.mem_of_getElem? hi) with ⟨j, rfl, h0, h1⟩ | ⟨z, rfl, hz⟩
    · exact .inl ⟨j, rfl, log60 (by omega), fin _ rfl⟩
    · exact .inr ⟨z, rfl, fin _ rfl⟩
  · intro H1 O1
    rw [List.take_length] at O1
    exact k D H1 O1
def spWritten (K : PySem.W.Frag) : Sp := fun vs H Q E => ∃ (pr pd : Addr) (ras das : List Addr) (xss yss : List (List V)) (R : List Cell), vs = [.ref pr, .ref pd] ∧ (pr, HO.lst (ras.map V.ref)) ∈ R ∧ TA R ras xss ∧ (∀ xs ∈ xss, FlatX xs) ∧ xss.length ≤ 100000 ∧ (pd, HO.lst (das.map V.ref)) ∈ R ∧ TA R das yss ∧ (∀ xs ∈ yss, FlatX xs) ∧ yss.length ≤ 100000 ∧ Own H R ∧
  (∀ i, RuleBad xss i ∨ (xss = [] ∧ i = 0) → ∀ (d : Addr) (H' : Hp), Own H' ((d, .xd [("number", .int (i : Nat))]) :: R) → E (.ref (He.ga K "BadRule")) (some d) H') ∧
  (xss ≠ [] → (∀ i, i < xss.length → RuleAt xss i) → ∀ i, DeedBad 3 yss i → ∀ (d : Addr) (H' : Hp), Own H' ((d, .xd [("number", .int (i : Nat))]) :: R) → E (.ref (He.ga K "BadDeed")) (some d) H') ∧
  (xss ≠ [] → (∀ i, i < xss.length → RuleAt xss i) → (∀ i, i < yss.length → DeedAt 3 yss i) → ∃ (us : List Rul) (ds : List Deed), xss = us.map Rul.vs ∧ yss = ds.map Deed.vs ∧ (∀ u ∈ us, RulOk u) ∧ us.length ≤ 3 ∧ (∀ d ∈ ds, d.ok 3) ∧ ds.length ≤ 200 ∧ ∀ H', Own H' R → Q (.str (textOf us ds)) H')
section
variable {P : Program} {w : World} {K : PySem.W.Frag} {mg : Str → Option Value} {base : Heap} {n lv : Nat}
end
-- WwRt
/-! ### what is written is read -/
theorem numL_head : ∀ (m n : Nat), n ≤ m → 1 ≤ n → (TL.numL n).head? ≠ some 48
  | 0, n, h, h1 => by omega
  | m + 1, n, h, h1 => by
    by_cases h10 : n < 10
    · rw [TL.numL_lt h10]
      show some (48 + n) ≠ some 48
      intro z
      have := Option.some.inj z
      omega
    · rw [TL.numL_step (by omega)]
      have ih := numL_head m (n / 10) (by omega) (by omega)
      have hne := TL.numL_ne (n / 10)
      cases e : TL.numL (n / 10) with
      | nil => exact (hne e).elim
      | cons a l =>
        rw [e] at ih
        exact ih
theorem num_back {n : Nat} (h : n < 1000) : numOf (Str.ofString (toString ((n : Nat) : Int))) = .int (n : Nat) := by
  have e := TL.tl_num n
  have hl := TL.numL_len (n := n) (k := 3) (by decide) (by omega)
  have hl1 : 1 ≤ (TL.numL n).length := List.length_pos_iff.mpr (TL.numL_ne n)
  have hd : allDig (Str.ofString (toString ((n : Nat) : Int))) = true := by
    unfold allDig
    rw [e, List.all_eq_true]
    intro c hc
    have := TL.numL_digits n c hc
    show (decide (48 ≤ c) && decide (c ≤ 57)) = true
    rw [decide_eq_true this.1, decide_eq_true this.2]
    rfl
  unfold numOf
  rw [if_pos ⟨by rw [TL.len_tl, e]; exact hl1, by rw [TL.len_tl, e]; exact hl, hd⟩]
  rw [if_pos, e, TL.numL_val]
  by_cases h0 : n = 0
  · left
    rw [h0]
    decide +kernel
  · right
    rw [e]
    exact numL_head n n (Nat.le_refl _) (by omega)
theorem int_back {i : Int} (h0 : 0 ≤ i) (h : i < 1000) : numOf (partS (.int i)) = .int i := by
  obtain ⟨n, rfl⟩ : ∃ n : Nat, i = (n : Int) := ⟨i.toNat, by omega⟩
  exact num_back (by omega)
/-- signs of a word -/
def Pln (x : Str) : Prop := ∀ c ∈ TL.tl x, c < 128 ∧ c ≠ 32 ∧ c ≠ 10
theorem pln_dec {x : Str} (h : (TL.tl x).all (fun c => decide (c < 128) && (decide (c ≠ 32) && decide (c ≠ 10))) = true) : Pln x := fun c hc => by
  have := List.all_eq_true.mp h c hc
  obtain ⟨h1, h2⟩ := He.ba this
  obtain ⟨h2, h3⟩ := He.ba h2
  exact ⟨of_decide_eq_true h1, of_decide_eq_true h2, of_decide_eq_true h3⟩
theorem pln_num (n : Nat) : Pln (Str.ofString (toString ((n : Nat) : Int))) := fun c hc => by
  rw [TL.tl_num] at hc
  have := TL.numL_digits n c hc
  exact ⟨by have := this.2; omega, by have := this.1; omega, by have := this.1; omega⟩
theorem pln_int {i : Int} (h : 0 ≤ i) : Pln (partS (.int i)) := by
  obtain ⟨n, rfl⟩ : ∃ n : Nat, i = (n : Int) := ⟨i.toNat, by omega⟩
  exact pln_num n
theorem pln_room : Pln "room" := pln_dec (by decide +kernel)
theorem pln_rul (u : Rul) : ∀ x ∈ u.vs.map partS, Pln x := fun x hx => by
  obtain ⟨y, hy, rfl⟩ := List.mem_map.mp hx
  unfold Rul.vs at hy
  simp only [List.mem_cons, List.not_mem_nil, or_false] at hy
  rcases hy with e | e | e | e | e <;> rw [e]
  · exact pln_num _
  · exact pln_num _
  · exact pln_dec (by cases u.bk <;> decide +kernel)
  · exact pln_dec (by cases u.inn <;> decide +kernel)
  · exact pln_dec (by cases u.lt <;> decide +kernel)
theorem pln_deed {d : Deed} (hd : d.ok 3) : ∀ x ∈ d.vs.map partS, Pln x := fun x hx => by
  obtain ⟨y, hy, rfl⟩ := List.mem_map.mp hx
  cases d with
  | look h p =>
    have hy : y ∈ [V.str "look", .int (h : Nat), .int (p : Nat)] := hy
    simp only [List.mem_cons, List.not_mem_nil, or_false] at hy
    rcases hy with e | e | e <;> rw [e]
    · exact pln_dec (by decide +kernel)
    · exact pln_num _
    · exact pln_num _
  | set h p v =>
    obtain ⟨h1, h2, h3, h4⟩ := hd
    have hy : y ∈ [V.str "set", .int (h : Nat), .int (p : Nat), .int v] := hy
    simp only [List.mem_cons, List.not_mem_nil, or_false] at hy
    rcases hy with e | e | e | e <;> rw [e]
    · exact pln_dec (by decide +kernel)
    · exact pln_num _
    · exact pln_num _
    · exact pln_int h3
def wR (u : Rul) : List Str := (("room" : Str) :: u.vs.map partS : List Str)
def wD (d : Deed) : List Str := d.vs.map partS
theorem joinL_mem (S : List Nat) : ∀ (ps : List (List Nat)) (c : Nat), c ∈ TL.joinL S ps → c ∈ S ∨ ∃ p ∈ ps, c ∈ p
  | [], c, h => by cases h
  | [p], c, h => .inr ⟨p, List.mem_cons_self, h⟩
  | p :: q :: r, c, h => by
    have h : c ∈ p ++ (S ++ TL.joinL S (q :: r)) := h
    rcases List.mem_append.mp h with h | h
    · exact .inr ⟨p, List.mem_cons_self, h⟩
    · rcases List.mem_append.mp h with h | h
      · exact .inl h
      · rcases joinL_mem S (q :: r) c h with h | ⟨p', hp, h⟩
        · exact .inl h
        · exact .inr ⟨p', List.mem_cons_of_mem _ hp, h⟩
theorem join_mem {y : Str} {ps : List Str} {c : Nat} (h : c ∈ TL.tl (Txt.join y ps)) : c ∈ TL.tl y ∨ ∃ p ∈ ps, c ∈ TL.tl p := by
  rw [TL.join_eq, TL.tl_join] at h
  rcases joinL_mem _ _ _ h with h | ⟨p, hp, h⟩
  · exact .inl h
  · obtain ⟨q, hq, rfl⟩ := List.mem_map.mp hp
    exact .inr ⟨q, hq, h⟩
theorem tl_nl : TL.tl (Str.ofString "\n") = [10] := by decide +kernel
theorem tl_bl : TL.tl (Str.ofString " ") = [32] := by decide +kernel
theorem row_sg {ps : List Str} (h : ∀ x ∈ ps, Pln x) : ∀ c ∈ TL.tl (Txt.join " " ps), c < 128 ∧ c ≠ 10 := fun c hc => by
  rcases join_mem hc with h1 | ⟨p, hp, h1⟩
  · rw [tl_bl, List.mem_singleton] at h1
    omega
  · exact ⟨(h p hp c h1).1, (h p hp c h1).2.2⟩
theorem row_split {ps : List Str} (hne : ps ≠ []) (h : ∀ x ∈ ps, Pln x) : Txt.split (Txt.join " " ps) " " = ps :=
  TL.split_join tl_bl (by decide +kernel) hne fun p hp hc => (h p hp _ hc).2.1 rfl
theorem wR_pln (u : Rul) : ∀ x ∈ wR u, Pln x := fun x hx => by
  rcases List.mem_cons.mp hx with e | e
  · rw [e]
    exact pln_room
  · exact pln_rul u x e
theorem text_rows {us : List Rul} {ds : List Deed} (hne : us ≠ []) (hds : ∀ d ∈ ds, d.ok 3) : rowsOf (textOf us ds) = us.map wR ++ ds.map wD := by
  have e1 : Txt.split (textOf us ds) "\n" = us.map rowR ++ ds.map rowD := by
    refine TL.split_join tl_nl (by decide +kernel) (fun z => ?_) fun p hp hc => ?_
    · cases us with
      | nil => exact hne rfl
      | cons u us => cases z
    · rcases List.mem_append.mp hp with h | h
      · obtain ⟨u, hu, rfl⟩ := List.mem_map.mp h
        exact (row_sg (wR_pln u) _ hc).2 rfl
      · obtain ⟨d, hd, rfl⟩ := List.mem_map.mp h
        exact (row_sg (pln_deed (hds d hd)) _ hc).2 rfl
  unfold rowsOf
  rw [e1, List.map_append, List.map_map, List.map_map]
  congr 1
  · exact List.map_congr_left fun u _ => row_split (fun z => nomatch z) (wR_pln u)
  · refine List.map_congr_left fun d hd => row_split (fun z => ?_) (pln_deed (hds d hd))
    cases d <;> cases z
theorem text_sg {us : List Rul} {ds : List Deed} (hds : ∀ d ∈ ds, d.ok 3) : Sgn (textOf us ds) := fun c hc => by
  rcases join_mem hc with h1 | ⟨p, hp, h1⟩
  · rw [tl_nl, List.mem_singleton] at h1
    omega
  · rcases List.mem_append.mp hp with h | h
    · obtain ⟨u, hu, rfl⟩ := List.mem_map.mp h
      have := (row_sg (wR_pln u) _ h1).1
      omega
    · obtain ⟨d, hd, rfl⟩ := List.mem_map.mp h
      have := (row_sg (pln_deed (hds d hd)) _ h1).1
      omega
theorem text_len {us : List Rul} {ds : List Deed} (hus : ∀ u ∈ us, RulOk u) (hul : us.length ≤ 3) (hds : ∀ d ∈ ds, d.ok 3) (hdl : ds.length ≤ 200) : (textOf us ds).length ≤ 20000 := by
  have hrl : ∀ x ∈ us.map rowR ++ ds.map rowD, x.length ≤ 48 := fun x hx => by
    rcases List.mem_append.mp hx with h | h
    · obtain ⟨u, hu, rfl⟩ := List.mem_map.mp h
      exact (row_len (rul_parts (hus u hu)) (Nat.le_refl 5)).2
    · obtain ⟨d, hd, rfl⟩ := List.mem_map.mp h
      have := (row_len (deed_parts (hds d hd)) (by cases d with | look h p => exact (by decide : 3 ≤ 5) | set h p v => exact (by decide : 4 ≤ 5))).1
      exact Nat.le_trans this (by decide)
  have hsum := sum_le hrl
  have h1 := join_len "\n" (us.map rowR ++ ds.map rowD)
  have e3 : (Str.ofString "\n").length = 1 := by decide +kernel
  rw [e3] at h1
  have hll : (us.map rowR ++ ds.map rowD).length ≤ 203 := by
    simp only [List.length_append, List.length_map]
    omega
  show (Txt.join "\n" (us.map rowR ++ ds.map rowD)).length ≤ 20000
  omega
theorem rul_B {u : Rul} (hu : RulOk u) : ruleB u.vs = true := by
  have h1 : numIn (.int u.s) 1 64 = true := decide_eq_true (by rcases hu.s with e | e | e <;> omega)
  have h2 : numIn (.int u.w) 1 4 = true := decide_eq_true (by have := hu.w0; have := hu.w4; omega)
  show (numIn (.int u.s) 1 64 && (inV (.int u.s) [.int 1, .int 2, .int 4] && (numIn (.int u.w) 1 4 && (inV (.str (sBk u.bk)) [.str "through", .str "back"] && (inV (.str (sIn u.inn)) [.str "in", .str "by"] && inV (.str (sLt u.lt)) [.str "first", .str "late"]))))) = true
  rw [h1, h2, inBk, inIn, inLt, in3 u hu]
  rfl
theorem deed_B {d : Deed} (hd : d.ok 3) : deedB 3 d.vs = true := by
  cases d with
  | look h p =>
    obtain ⟨h1, h2⟩ := hd
    show (numIn (.int (h : Nat)) 0 (3 - 1) && (numIn (.int (p : Nat)) 0 63 && decide (V.str "look" = V.str "look"))) = true
    rw [show numIn (.int (h : Nat)) 0 (3 - 1) = true from decide_eq_true (by omega), show numIn (.int (p : Nat)) 0 63 = true from decide_eq_true (by omega)]
    rfl
  | set h p v =>
    obtain ⟨h1, h2, h3, h4⟩ := hd
    show (numIn (.int (h : Nat)) 0 (3 - 1) && (numIn (.int (p : Nat)) 0 63 && (decide (V.str "set" = V.str "set") && numIn (.int v) 0 999))) = true
    rw [show numIn (.int (h : Nat)) 0 (3 - 1) = true from decide_eq_true (by omega), show numIn (.int (p : Nat)) 0 63 = true from decide_eq_true (by omega), show numIn (.int v) 0 999 = true from decide_eq_true (by omega)]
    rfl
theorem ruleP_wR {u : Rul} (hu : RulOk u) : ruleP (wR u) = some u := by
  have hs := hu.s
  have hw := hu.w4
  have e1 : numOf (partS (.int u.s)) = .int u.s := int_back (by omega) (by omega)
  have e2 : numOf (partS (.int u.w)) = .int u.w := int_back (by omega) (by omega)
  have e : ruleW (wR u) = some u.vs := by
    show (if (("room" : Str) = "room" ∧ ruleB [numOf (partS (.int u.s)), numOf (partS (.int u.w)), .str (sBk u.bk), .str (sIn u.inn), .str (sLt u.lt)] = true) then some [numOf (partS (.int u.s)), numOf (partS (.int u.w)), .str (sBk u.bk), .str (sIn u.inn), .str (sLt u.lt)] else none) = some u.vs
    rw [e1, e2]
    exact if_pos ⟨rfl, rul_B hu⟩
  unfold ruleP
  rw [e]
  exact decR_vs u
theorem ruleP_wD (d : Deed) : ruleP (wD d) = none := by
  unfold ruleP
  rw [ruleW_len (by cases d <;> (intro z; cases z))]
  rfl
theorem deedP_wD {d : Deed} (hd : d.ok 3) : deedP (wD d) = some d := by
  have hB := deed_B hd
  have e : deedW (wD d) = some d.vs := by
    cases d with
    | look h p =>
      obtain ⟨h1, h2⟩ := hd
      have e1 : numOf (partS (.int (h : Nat))) = .int (h : Nat) := int_back (by omega) (by omega)
      have e2 : numOf (partS (.int (p : Nat))) = .int (p : Nat) := int_back (by omega) (by omega)
      show (if (("look" : Str) = "look" ∨ ("look" : Str) = "set") ∧ deedB 3 [.str "look", numOf (partS (.int (h : Nat))), numOf (partS (.int (p : Nat)))] = true then some [V.str "look", numOf (partS (.int (h : Nat))), numOf (partS (.int (p : Nat)))] else none) = _
      rw [e1, e2]
      exact if_pos ⟨.inl rfl, hB⟩
    | set h p v =>
      obtain ⟨h1, h2, h3, h4⟩ := hd
      have e1 : numOf (partS (.int (h : Nat))) = .int (h : Nat) := int_back (by omega) (by omega)
      have e2 : numOf (partS (.int (p : Nat))) = .int (p : Nat) := int_back (by omega) (by omega)
      have e3 : numOf (partS (.int v)) = .int v := int_back h3 (by omega)
      show (if (("set" : Str) = "look" ∨ ("set" : Str) = "set") ∧ deedB 3 [.str "set", numOf (partS (.int (h : Nat))), numOf (partS (.int (p : Nat))), numOf (partS (.int v))] = true then some [V.str "set", numOf (partS (.int (h : Nat))), numOf (partS (.int (p : Nat))), numOf (partS (.int v))] else none) = _
      rw [e1, e2, e3]
      exact if_pos ⟨.inr rfl, hB⟩
  unfold deedP
  rw [e]
  exact decD_vs d
theorem rd_deeds {us : List Rul} (hne : us ≠ []) : ∀ (d2 d1 : List Deed) (i : Nat), (∀ d ∈ d2, d.ok 3) → d1.length + d2.length ≤ 200 → rdGo (d2.map wD) us d1 i = .inr (us, d1 ++ d2)
  | [], d1, i, _, _ => by
    rw [List.append_nil]
    rfl
  | d :: d2, d1, i, hd, hl => by
    have hl : d1.length + (d2.length + 1) ≤ 200 := hl
    rw [List.map_cons]
    unfold rdGo
    have e1 : (if d1.isEmpty = true ∧ us.length < 3 then ruleP (wD d) else none) = none := by
      rw [ruleP_wD]
      exact ite_self _
    have e2 : us.isEmpty = false := by
      cases us with
      | nil => exact (hne rfl).elim
      | cons _ _ => rfl
    rw [e1]
    show (match (if us.isEmpty = false ∧ d1.length < 200 then deedP (wD d) else none) with
      | some d => rdGo (d2.map wD) us (d1 ++ [d]) (i + 1)
      | none => .inl i) = _
    rw [if_pos ⟨e2, by omega⟩, deedP_wD (hd d List.mem_cons_self)]
    show rdGo (d2.map wD) us (d1 ++ [d]) (i + 1) = _
    rw [rd_deeds hne d2 (d1 ++ [d]) (i + 1) (fun x hx => hd x (List.mem_cons_of_mem _ hx)) (by simp; omega), List.append_assoc]
    rfl
theorem rd_rules {more : List (List Str)} : ∀ (u2 u1 : List Rul) (i : Nat), (∀ u ∈ u2, RulOk u) → u1.length + u2.length ≤ 3 → rdGo (u2.map wR ++ more) u1 [] i = rdGo more (u1 ++ u2) [] (i + u2.length)
  | [], u1, i, _, _ => by
    rw [List.append_nil]
    rfl
  | u :: u2, u1, i, hu, hl => by
    have hl : u1.length + (u2.length + 1) ≤ 3 := hl
    rw [List.map_cons, List.cons_append]
    conv => lhs; unfold rdGo
    rw [if_pos ⟨rfl, by omega⟩, ruleP_wR (hu u List.mem_cons_self)]
    show rdGo (u2.map wR ++ more) (u1 ++ [u]) [] (i + 1) = _
    rw [rd_rules u2 (u1 ++ [u]) (i + 1) (fun x hx => hu x (List.mem_cons_of_mem _ hx)) (by simp; omega), List.append_assoc]
    show rdGo more (u1 ++ (u :: u2)) [] (i + 1 + u2.length) = rdGo more (u1 ++ (u :: u2)) [] (i + (u2.length + 1))
    rw [show i + 1 + u2.length = i + (u2.length + 1) by omega]
theorem rd_back {us : List Rul} {ds : List Deed} (hne : us ≠ []) (hus : ∀ u ∈ us, RulOk u) (hul : us.length ≤ 3) (hds : ∀ d ∈ ds, d.ok 3) (hdl : ds.length ≤ 200) : rdGo (rowsOf (textOf us ds)) [] [] 0 = .inr (us, ds) := by
  rw [text_rows hne hds, rd_rules us [] 0 hus (by simpa using hul), List.nil_append, rd_deeds hne ds [] _ hds (by simpa using hdl), List.nil_append]
-- WwSp
/-! ### a text told otherwise -/
def tot (ws : List Str) : Nat := (ws.map (·.length)).sum + ws.length
theorem tot_cons (a : Str) (ws : List Str) : tot (a :: ws) = a.length + 1 + tot ws := by
  unfold tot
  rw [List.map_cons, List.sum_cons, List.length_cons]
  omega
theorem tot_app (a b : List Str) : tot (a ++ b) = tot a + tot b := by
  unfold tot
  rw [List.map_append, List.sum_append, List.length_append]
  omega
theorem tot_sub {a b : List Str} (h : a.Sublist b) : tot a ≤ tot b := by
  induction h with
  | slnil => exact Nat.le_refl _
  | cons x _ ih =>
    rw [tot_cons]
    omega
  | cons_cons x _ ih =>
    rw [tot_cons, tot_cons]
    omega
theorem spl_tot (S : List Nat) (k : Nat) (acc l : List Nat) : ((TL.spl S k acc l).map List.length).sum + (TL.spl S k acc l).length ≤ acc.length + l.length + 1 := by
  fun_induction TL.spl S k acc l with
  | case1 _ acc => simp
  | case2 acc c r h ih =>
    rw [List.map_cons, List.sum_cons, List.length_cons]
    simp only [List.length_nil, List.length_cons] at ih ⊢
    omega
  | case3 acc c r h ih =>
    simp only [List.length_append, List.length_cons, List.length_nil] at ih ⊢
    omega
  | case4 acc k' c r ih =>
    simp only [List.length_cons] at ih ⊢
    omega
theorem split_tot {x y : Str} (hy : TL.tl y ≠ []) (hk : y.cps.all (· < 256) = true) : tot (Txt.split x y) ≤ x.length + 1 := by
  have e := TL.split_spl x y hy (TL.kind_ok hk)
  have h := spl_tot (TL.tl y) 0 [] (TL.tl x)
  rw [← e, List.map_map, List.length_map] at h
  have e2 : (Txt.split x y).map (List.length ∘ TL.tl) = (Txt.split x y).map (·.length) := List.map_congr_left fun z _ => (TL.len_tl z).symm
  rw [e2, List.length_nil, Nat.zero_add, ← TL.len_tl] at h
  exact h
theorem join_tot {y : Str} (h : y.length = 1) (ps : List Str) : (Txt.join y ps).length ≤ tot ps := by
  have := join_len y ps
  rw [h, Nat.mul_one] at this
  exact this
theorem join_sgn {y : Str} {ps : List Str} (hy : Sgn y) (h : ∀ p ∈ ps, Sgn p) : Sgn (Txt.join y ps) := fun c hc => by
  rcases join_mem hc with z | ⟨p, hp, z⟩
  · exact hy c z
  · exact h p hp c z
theorem sgn_app {a b : Str} (ha : Sgn a) (hb : Sgn b) : Sgn (a ++ b) := fun c hc => by
  rw [TL.tl_append] at hc
  rcases List.mem_append.mp hc with z | z
  · exact ha c z
  · exact hb c z
theorem sgn_cut {x : Str} (h : Sgn x) (lo hi : Option Int) : Sgn (cutS x lo hi) := fun c hc => h c (List.mem_of_mem_drop (List.mem_of_mem_take hc))
theorem sgn_of {x : Str} (h : (TL.tl x).all (fun c => decide (c < 1114112)) = true) : Sgn x := fun c hc => of_decide_eq_true (List.all_eq_true.mp h c hc)
theorem len_app0 (a b : Str) : (a ++ b).length = a.length + b.length := by
  rw [TL.len_tl, TL.tl_append, List.length_append, ← TL.len_tl, ← TL.len_tl]
theorem sign_pick {sg : Str} (h1 : 12 ≤ sg.length) (hs : Sgn sg) {v : Int} (h0 : 0 ≤ v) (h2 : v < 2) : ∃ m : Nat, atI [V.int 12, .int (sg.length : Nat)] v = some (.int (m : Nat)) ∧ 0 < m ∧ ∀ i : Int, 0 ≤ i → i < (m : Nat) → ∃ ch, atI sg.cps.toList i = some ch ∧ ch < 1114112 := by
  have go : ∀ m : Nat, m ≤ sg.length → ∀ i : Int, 0 ≤ i → i < (m : Nat) → ∃ ch, atI sg.cps.toList i = some ch ∧ ch < 1114112 := fun m hm i hi0 him => by
    obtain ⟨j, rfl⟩ : ∃ j : Nat, i = (j : Int) := ⟨i.toNat, by omega⟩
    have hl : j < sg.cps.toList.length := by
      have : sg.length = sg.cps.toList.length := by simp [Str.length]
      omega
    exact ⟨sg.cps.toList[j], atI_nat (List.getElem?_eq_getElem hl), hs _ (List.getElem_mem hl)⟩
  have : v = 0 ∨ v = 1 := by omega
  rcases this with e | e <;> subst e
  · exact ⟨12, rfl, by decide, go 12 h1⟩
  · exact ⟨sg.length, rfl, by omega, go _ (Nat.le_refl _)⟩
theorem skip_sub {α : Type} (xs : List α) (k : Nat) : (xs.take k ++ xs.drop (k + 1)).Sublist xs := by
  have h : (xs.drop (k + 1)).Sublist (xs.drop k) := by
    rw [← List.drop_drop]
    exact List.drop_sublist _ _
  have := List.Sublist.append (List.Sublist.refl (xs.take k)) h
  rw [List.take_append_drop] at this
  exact this
theorem cutTakeS {ws : List Str} {k : Nat} (h : k ≤ ws.length) : cutV (ws.map V.str) none (some (k : Int)) = (ws.take k).map V.str := by
  rw [cutTake (by rw [List.length_map]; exact h), List.map_take]
theorem cutDropS {ws : List Str} {k : Nat} (h : k ≤ ws.length) : cutV (ws.map V.str) (some (k : Int)) none = (ws.drop k).map V.str := by
  rw [cutDrop (by rw [List.length_map]; exact h), List.map_drop]
/-- the odd words -/
def OddOk (ys : List Str) : Prop := ys.length = 18 ∧ ∀ y ∈ ys, y.length ≤ 4 ∧ Sgn y
def spSpoilt (K : PySem.W.Frag) : Sp := fun vs H Q _ => ∃ (rw : Addr) (S : List Cell) (c : Cell) (x : Str) (R : List Cell), vs = [.ref rw, .str x] ∧ RowC K rw S c ∧ x.length ≤ 20000 ∧ Sgn x ∧ Own H (c :: (S ++ R)) ∧
  ∀ (y : Str) (c' : Cell) (H' : Hp), y.length ≤ 4 * x.length + 10 → Sgn y → RowC K rw S c' → Own H' (c' :: (S ++ R)) → Q (.str y) H'
section
variable {P : Program} {w : World} {K : PySem.W.Frag} {mg : Str → Option Value} {base : Heap} {n lv : Nat}
theorem ok_spoilt (T : Txt K mg) : FnOk P w K mg base CX0 2 (He.fAd K ("_law_spoilt", none)) T.fd__law_spoilt ["_law_row", "_law_text"] (spSpoilt K) := by
  have G__law_taken := ok_taken (P := P) (w := w) (base := base) T
  refine okOf T.F__law_spoilt sc__law_spoilt (fun vs H Q E h => ?_) (fun cdv A outer s H vs Q E hr h => ?_)
  · obtain ⟨_, _, _, _, _, rfl, _⟩ := h
    rfl
  · obtain ⟨rw, S, c, x, R, rfl, hc, hxl, hxs, O, k⟩ := h
    refine ⟨_, (pss_cons (ps_set (i := 2) sc__law_spoilt.nd rfl (Or.inl rfl) (pe_call G__law_taken (hr.mono (by omega)) rfl T.g__law_taken T.k__law_taken T.b__law_taken .nil pass0 (pa_cons (pv 0) (pa_cons pe_int pa_nil)))) (pss_cons (ps_set (i := 3) sc__law_spoilt.nd rfl (Or.inl rfl) (pe_call G__law_taken (hr.mono (by omega)) rfl T.g__law_taken T.k__law_taken T.b__law_taken .nil pass0 (pa_cons (pv 0) (pa_cons (pe_op op_add (pe_callB call_len_str (by rfl) T.n_len PySem.boot_len (pa_cons (pv 1) pa_nil)) pe_int) pa_nil)))) (pss_cons (ps_set (i := 4) sc__law_spoilt.nd rfl (Or.inl rfl) pe_str) (pss_cons (ps_set (i := 5) sc__law_spoilt.nd rfl (Or.inl rfl) (pe_ix ix_str (pv 4) (pe_call G__law_taken (hr.mono (by omega)) rfl T.g__law_taken T.k__law_taken T.b__law_taken .nil pass0 (pa_cons (pv 0) (pa_cons (pe_ix ix_list (pe_lst (pa_cons pe_int (pa_cons (pe_callB call_len_str (by rfl) T.n_len PySem.boot_len (pa_cons (pv 4) pa_nil)) pa_nil))) (pe_call G__law_taken (hr.mono (by omega)) rfl T.g__law_taken T.k__law_taken T.b__law_taken .nil pass0 (pa_cons (pv 0) (pa_cons pe_int pa_nil))) (fun _ _ => rfl)) pa_nil))) (fun _ _ => rfl))) (pss_cons (ps_if (pt_cmpR op_lt (pv 2) pe_int (nomark _)) (pss_one (ps_ret (pe_op op_add_str (pe_op op_add_str (pe_slice sl_str (pv 1) po_none (po_some (pv 3))) (pe_ix ix_list (pe_lst (pa_cons (pv 5) (pa_cons pe_str (pa_cons (pv 5) pa_nil)))) (pv 2) (fun _ _ => rfl))) (pe_slice sl_str (pv 1) (po_some (pe_op op_add (pv 3) (pe_callTy call_int1 (by rfl) T.n_int (by decide +kernel) (pa_cons (pe_cmpR op_gt (pv 2) pe_int (nomark _)) pa_nil)))) po_none)))) pss_nil) (pss_cons (ps_set (i := 6) sc__law_spoilt.nd rfl (Or.inl rfl) (pe_split (pv 1) pe_str)) (pss_cons (ps_set (i := 7) sc__law_spoilt.nd rfl (Or.inl rfl) (pe_call G__law_taken (hr.mono (by omega)) rfl T.g__law_taken T.k__law_taken T.b__law_taken .nil pass0 (pa_cons (pv 0) (pa_cons (pe_callB call_len_seq (by rfl) T.n_len PySem.boot_len (pa_cons (pv 6) pa_nil)) pa_nil)))) (pss_cons (ps_if (pt_cmpR op_lt (pv 2) pe_int (nomark _)) (pss_one (ps_ret (pe_join pe_str (pe_ix ix_list (pe_lst (pa_cons (pe_op op_cat (pe_slice sl_list (pv 6) po_none (po_some (pv 7))) (pe_slice sl_list (pv 6) (po_some (pe_op op_add (pv 7) pe_int)) po_none)) (pa_cons (pe_op op_cat (pe_slice sl_list (pv 6) po_none (po_some (pe_op op_add (pv 7) pe_int))) (pe_slice sl_list (pv 6) (po_some (pv 7)) po_none)) (pa_cons (pe_op op_cat (pe_slice sl_list (pv 6) (po_some (pv 7)) po_none) (pe_slice sl_list (pv 6) po_none (po_some (pv 7)))) pa_nil)))) (pe_op op_sub (pv 2) pe_int) (fun _ _ => rfl))))) pss_nil) (pss_cons (ps_set (i := 8) sc__law_spoilt.nd rfl (Or.inl rfl) (pe_split (pe_ix ix_list (pv 6) (pv 7) (fun _ _ => rfl)) pe_str)) (pss_cons (ps_set (i := 9) sc__law_spoilt.nd rfl (Or.inl rfl) (pe_call G__law_taken (hr.mono (by omega)) rfl T.g__law_taken T.k__law_taken T.b__law_taken .nil pass0 (pa_cons (pv 0) (pa_cons (pe_callB call_len_seq (by rfl) T.n_len PySem.boot_len (pa_cons (pv 8) pa_nil)) pa_nil)))) (pss_cons (ps_set (i := 10) sc__law_spoilt.nd rfl (Or.inl rfl) (pe_lst (pa_cons pe_str (pa_cons pe_str (pa_cons pe_str (pa_cons pe_str (pa_cons pe_str (pa_cons pe_str (pa_cons pe_str (pa_cons pe_str (pa_cons pe_str (pa_cons pe_str (pa_cons pe_str (pa_cons pe_str (pa_cons pe_str (pa_cons pe_str (pa_cons pe_str (pa_cons pe_str pa_nil)))))))))))))))))) (pss_cons (ps_set (i := 10) sc__law_spoilt.nd rfl (Or.inl rfl) (pe_op op_cat (pv 10) (pe_lst (pa_cons pe_str (pa_cons pe_str pa_nil))))) (pss_cons (ps_set (i := 8) sc__law_spoilt.nd rfl (Or.inl rfl) (pe_op op_cat (pe_op op_cat (pe_slice sl_list (pv 8) po_none (po_some (pv 9))) (pe_ix ix_list (pe_lst (pa_cons (pe_lst pa_nil) (pa_cons (pe_op op_rep (pe_lst (pa_cons (pe_ix ix_list (pv 8) (pv 9) (fun _ _ => rfl)) pa_nil)) pe_int) (pa_cons (pe_lst (pa_cons (pe_ix ix_list (pv 10) (pe_call G__law_taken (hr.mono (by omega)) rfl T.g__law_taken T.k__law_taken T.b__law_taken .nil pass0 (pa_cons (pv 0) (pa_cons pe_int pa_nil))) (fun _ _ => rfl)) pa_nil)) pa_nil)))) (pe_op op_sub (pv 2) pe_int) (fun _ _ => rfl))) (pe_slice sl_list (pv 8) (po_some (pe_op op_add (pv 9) pe_int)) po_none))) (pss_one (ps_ret (pe_join pe_str (pe_op op_cat (pe_op op_cat (pe_slice sl_list (pv 6) po_none (po_some (pv 7))) (pe_lst (pa_cons (pe_join pe_str (pv 8)) pa_nil))) (pe_slice sl_list (pv 6) (po_some (pe_op op_add (pv 7) pe_int)) po_none)))))))))))))))))), ?_⟩
    refine ⟨_, rfl, rw, S, c, 9, R, rfl, hc, by decide, O, fun way c1 H1 hw0 hw9 hc1 O1 => ?_⟩
    refine ⟨_, rfl, _, rfl, x, rfl, Nat.le_of_lt (size1 (by omega)), _, _, rfl, rfl, rw, S, c1, _, R, rfl, hc1, by omega, O1, fun at' c2 H2 ha0 ha1 hc2 O2 => ?_⟩
    generalize hsg : (Str.ofString "0123456789 \nabcdefghij\
      klmnopqrstuvwxyz!#$&'()*\
      +,-./:;<=>?@ABCDEFGHIJKL\
      MNOPQRSTUVWXYZ[]^_{|}~") = sg
    have hg1 : 12 ≤ sg.length ∧ sg.length ≤ 1000 ∧ Sgn sg := by
      rw [← hsg]
      exact ⟨by decide +kernel, by decide +kernel, sgn_of (by decide +kernel)⟩
    obtain ⟨hg12, hg1000, hgs⟩ := hg1
    have hsz : sg.length ≤ sizeLine := Nat.le_of_lt (size1 (by omega))
    refine ⟨_, rfl, _, rfl, _, rfl, sg, rfl, hsz, by show 2 ≤ sizeLine; decide, fun p0 hp0 => ?_⟩
    have O3 := O2.new (o := .lst [.int 12, .int (sg.length : Nat)]) hp0
    refine ⟨_, rfl, rw, S, c2, 2, (p0, .lst [.int 12, .int (sg.length : Nat)]) :: R, rfl, hc2, by decide, O3.perm (by walk_at "perm"), fun v2 c3 H3 h20 h22 hc3 O4 => ?_⟩
    obtain ⟨m, hm, hm0, hpk⟩ := sign_pick hg12 hgs h20 h22
    refine ⟨p0, _, _, _, rfl, rfl, SqL.of (O4.mem (by simp)), hm, ?_⟩
    refine ⟨rw, S, c3, _, (p0, .lst [.int 12, .int (sg.length : Nat)]) :: R, rfl, hc3, by omega, O4, fun v3 c4 H4 h30 h3m hc4 O5 => ?_⟩
    obtain ⟨ch, hch, hch2⟩ := hpk v3 h30 h3m
    refine ⟨sg, _, ch, rfl, rfl, hsz, hch, ?_⟩
    have O6 := (O5.perm (L' := (p0, .lst [.int 12, .int (sg.length : Nat)]) :: (c4 :: (S ++ R))) (by walk_at "perm")).tail
    clear O5 O4 O3 O2 O1 O
    have hsn : Sgn ⟨#[ch]⟩ := fun d hd => by
      have hd : d ∈ [ch] := hd
      rw [List.mem_singleton.mp hd]
      exact hch2
    have hsl : (⟨#[ch]⟩ : Str).length = 1 := rfl
    generalize (⟨#[ch]⟩ : Str) = sn at hsn hsl ⊢
    have hxz : x.length ≤ sizeLine := Nat.le_of_lt (size1 (by omega))
    refine ⟨_, rfl, _, _, rfl, rfl, _, rfl, ?_⟩
    by_cases h3 : way < 3
    · refine iteTo (decide_eq_true h3) ?_
      refine ⟨_, rfl, _, rfl, _, rfl, x, rfl, hxz, _, rfl, _, rfl, by show 3 ≤ sizeLine; decide, fun p1 hp1 => ?_⟩
      have O7 := O6.new (o := .lst [.str sn, .str "", .str sn]) hp1
      obtain ⟨pc, hpc, hpc2, hpc3⟩ : ∃ pc : Str, atI [V.str sn, .str "", .str sn] way = some (.str pc) ∧ pc.length ≤ 1 ∧ Sgn pc := by
        obtain ⟨y, ey, e | e | e⟩ := pick3 (a := V.str sn) (b := .str "") (c := .str sn) hw0 h3
        · exact ⟨sn, by rw [ey, e], by omega, hsn⟩
        · exact ⟨"", by rw [ey, e], by decide +kernel, sgn_of (by decide +kernel)⟩
        · exact ⟨sn, by rw [ey, e], by omega, hsn⟩
      have hcl := fun lo hi => cutS_length x lo hi
      refine ⟨_, rfl, p1, _, _, _, rfl, rfl, SqL.of O7.a0, hpc, _, _, rfl, rfl, ?_, ?_⟩
      · have := hcl none (some at')
        exact Nat.le_of_lt (size1 (by omega))
      · refine ⟨_, rfl, _, rfl, _, rfl, _, _, rfl, rfl, .inr ⟨_, rfl, _, _, rfl, rfl, _, rfl, x, rfl, hxz, _, _, rfl, rfl, ?_, ?_⟩⟩
        · rw [len_app0]
          have := hcl none (some at')
          have := hcl (some (at' + if decide (0 < way) = true then 1 else 0)) none
          exact Nat.le_of_lt (size1 (by omega))
        · refine k _ c4 _ ?_ (sgn_app (sgn_app (sgn_cut hxs _ _) hpc3) (sgn_cut hxs _ _)) hc4 O7.tail
          rw [len_app0, len_app0]
          have := hcl none (some at')
          have := hcl (some (at' + if decide (0 < way) = true then 1 else 0)) none
          omega
    · refine iteFo (decide_eq_false h3) ?_
      have nlk : (Str.ofString "\n").cps.all (· < 256) = true := by decide +kernel
      have nln : TL.tl (Str.ofString "\n") ≠ [] := by decide +kernel
      have nl1 : (Str.ofString "\n").length = 1 := by decide +kernel
      have nls : Sgn (Str.ofString "\n") := sgn_of (by decide +kernel)
      have blk : (Str.ofString " ").cps.all (· < 256) = true := by decide +kernel
      have bln : TL.tl (Str.ofString " ") ≠ [] := by decide +kernel
      have bl1 : (Str.ofString " ").length = 1 := by decide +kernel
      have bls : Sgn (Str.ofString " ") := sgn_of (by decide +kernel)
      obtain ⟨hl1, hl2, hl3⟩ := split_facts nln nlk hxs
      have hlt := split_tot (x := x) nln nlk
      refine ⟨_, rfl, ⟨_, rfl⟩, x, _, rfl, rfl, by decide +kernel, Nat.le_of_lt (size1 (by omega)), fun pl hpl => ?_⟩
      obtain ⟨lines, hlines⟩ : ∃ lines, lines = Txt.split x "\n" := ⟨_, rfl⟩
      rw [← hlines] at hl1 hl2 hl3 hlt ⊢
      have O7 := O6.new (o := .lst (lines.map V.str)) hpl
      have hln : 0 < lines.length := List.length_pos_iff.mpr hl1
      refine ⟨_, rfl, _, rfl, pl, _, rfl, .inl (SqL.of O7.a0), rw, S, c4, _, (pl, .lst (lines.map V.str)) :: R, rfl, hc4, by rw [List.length_map]; omega, O7.perm (by walk_at "perm"), fun vk c5 H5 hk0 hk1 hc5 O8 => ?_⟩
      rw [List.length_map] at hk1
      obtain ⟨kk, rfl⟩ : ∃ kk : Nat, vk = (kk : Int) := ⟨vk.toNat, by omega⟩
      have hkl : kk < lines.length := by omega
      have O9 := O8.perm (L' := (pl, .lst (lines.map V.str)) :: (c5 :: (S ++ R))) (by walk_at "perm")
      clear O8 O7 O6
      have ek : (kk : Int) + 1 = ((kk + 1 : Nat) : Int) := by omega
      refine ⟨_, rfl, _, _, rfl, rfl, _, rfl, ?_⟩
      by_cases h6 : way < 6
      · refine iteTo (decide_eq_true h6) ?_
        refine ⟨⟨_, rfl⟩, _, rfl, _, rfl, _, rfl, pl, _, rfl, SqL.of O9.a0, fun s1 hs1 => ?_⟩
        rw [cutTakeS (by omega)]
        have W1 := O9.new (o := .lst ((lines.take kk).map V.str)) hs1
        refine ⟨_, rfl, _, rfl, _, _, rfl, rfl, _, rfl, pl, _, rfl, SqL.of W1.a1, fun s2 hs2 => ?_⟩
        rw [ek, cutDropS (by omega)]
        have W2 := W1.new (o := .lst ((lines.drop (kk + 1)).map V.str)) hs2
        have tk : ∀ j, (lines.take j).length ≤ lines.length := fun j => by rw [List.length_take]; omega
        have dk : ∀ j, (lines.drop j).length ≤ lines.length := fun j => by rw [List.length_drop]; omega
        have sz : ∀ a b : List Str, a.length ≤ lines.length → b.length ≤ lines.length → (a.map V.str).length + (b.map V.str).length ≤ sizeLine := fun a b ha hb => by
          rw [List.length_map, List.length_map]
          exact Nat.le_of_lt (size1 (by omega))
        refine ⟨s1, s2, _, _, rfl, rfl, W2.a1, W2.a0, sz _ _ (tk _) (dk _), fun s3 hs3 => ?_⟩
        rw [← List.map_append]
        have W3 := W2.new (o := .lst ((lines.take kk ++ lines.drop (kk + 1)).map V.str)) hs3
        refine ⟨_, rfl, _, rfl, _, _, rfl, rfl, _, rfl, pl, _, rfl, SqL.of W3.a3, fun s4 hs4 => ?_⟩
        rw [ek, cutTakeS (by omega)]
        have W4 := W3.new (o := .lst ((lines.take (kk + 1)).map V.str)) hs4
        refine ⟨_, rfl, _, rfl, _, rfl, pl, _, rfl, SqL.of W4.a4, fun s5 hs5 => ?_⟩
        rw [cutDropS (by omega)]
        have W5 := W4.new (o := .lst ((lines.drop kk).map V.str)) hs5
        refine ⟨s4, s5, _, _, rfl, rfl, W5.a1, W5.a0, sz _ _ (tk _) (dk _), fun s6 hs6 => ?_⟩
        rw [← List.map_append]
        have W6 := W5.new (o := .lst ((lines.take (kk + 1) ++ lines.drop kk).map V.str)) hs6
        refine ⟨_, rfl, _, rfl, _, rfl, pl, _, rfl, SqL.of W6.a6, fun s7 hs7 => ?_⟩
        rw [cutDropS (by omega)]
        have W7 := W6.new (o := .lst ((lines.drop kk).map V.str)) hs7
        refine ⟨_, rfl, _, rfl, _, rfl, pl, _, rfl, SqL.of W7.a7, fun s8 hs8 => ?_⟩
        rw [cutTakeS (by omega)]
        have W8 := W7.new (o := .lst ((lines.take kk).map V.str)) hs8
        refine ⟨s7, s8, _, _, rfl, rfl, W8.a1, W8.a0, sz _ _ (dk _) (tk _), fun s9 hs9 => ?_⟩
        rw [← List.map_append]
        have W9 := W8.new (o := .lst ((lines.drop kk ++ lines.take kk).map V.str)) hs9
        refine ⟨by show 3 ≤ sizeLine; decide, fun s0 hs0 => ?_⟩
        have W10 := W9.new (o := .lst [.ref s3, .ref s6, .ref s9]) hs0
        obtain ⟨q, ys, hq, hqm, hyt, hys⟩ : ∃ (q : Addr) (ys : List Str), atI [V.ref s3, .ref s6, .ref s9] (way - 3) = some (.ref q) ∧ (q, HO.lst (ys.map V.str)) ∈ [(s0, HO.lst [.ref s3, .ref s6, .ref s9]), (s9, .lst ((lines.drop kk ++ lines.take kk).map V.str)), (s8, .lst ((lines.take kk).map V.str)), (s7, .lst ((lines.drop kk).map V.str)), (s6, .lst ((lines.take (kk + 1) ++ lines.drop kk).map V.str)), (s5, .lst ((lines.drop kk).map V.str)), (s4, .lst ((lines.take (kk + 1)).map V.str)), (s3, .lst ((lines.take kk ++ lines.drop (kk + 1)).map V.str))] ∧ tot ys ≤ 2 * tot lines ∧ ∀ y ∈ ys, y ∈ lines := by
          have t1 : ∀ j, tot (lines.take j) ≤ tot lines := fun j => tot_sub (List.take_sublist _ _)
          have t2 : ∀ j, tot (lines.drop j) ≤ tot lines := fun j => tot_sub (List.drop_sublist _ _)
          obtain ⟨y, ey, e | e | e⟩ := pick3 (v := way - 3) (a := V.ref s3) (b := .ref s6) (c := .ref s9) (by omega) (by omega)
          · refine ⟨s3, lines.take kk ++ lines.drop (kk + 1), by rw [ey, e], by simp only [List.mem_cons, true_or, or_true], ?_, fun y hy => ?_⟩
            · have := t1 kk
              have := t2 (kk + 1)
              rw [tot_app]
              omega
            · rcases List.mem_append.mp hy with z | z
              · exact List.mem_of_mem_take z
              · exact List.mem_of_mem_drop z
          · refine ⟨s6, lines.take (kk + 1) ++ lines.drop kk, by rw [ey, e], by simp only [List.mem_cons, true_or, or_true], ?_, fun y hy => ?_⟩
            · have := t1 (kk + 1)
              have := t2 kk
              rw [tot_app]
              omega
            · rcases List.mem_append.mp hy with z | z
              · exact List.mem_of_mem_take z
              · exact List.mem_of_mem_drop z
          · refine ⟨s9, lines.drop kk ++ lines.take kk, by rw [ey, e], by simp only [List.mem_cons, true_or, or_true], ?_, fun y hy => ?_⟩
            · have := t1 kk
              have := t2 kk
              rw [tot_app]
              omega
            · rcases List.mem_append.mp hy with z | z
              · exact List.mem_of_mem_drop z
              · exact List.mem_of_mem_take z
        refine ⟨_, rfl, _, _, rfl, rfl, s0, _, _, _, rfl, rfl, SqL.of W10.a0, hq, ?_⟩
        have hjt := join_tot nl1 ys
        refine ⟨_, q, ys, rfl, rfl, .inl (SqL.of (W10.mem (List.mem_append_left _ hqm))), ?_, ?_⟩
        · rw [nl1, Nat.mul_one]
          show tot ys ≤ _
          omega
        · refine k _ c5 _ (by omega) (join_sgn nls fun y hy => (hl3 y (hys y hy)).2) hc5 ?_
          exact Own.right (L' := [_, _, _, _, _, _, _, _, _, _, _]) W10
      · refine iteFo (decide_eq_false h6) ?_
        obtain ⟨l, hl⟩ : ∃ l, lines[kk]? = some l := ⟨_, List.getElem?_eq_getElem hkl⟩
        have hll := hl3 l (List.mem_of_getElem? hl)
        have hat : atI (lines.map V.str) (kk : Int) = some (.str l) := atI_nat (by rw [List.getElem?_map, hl]; rfl)
        refine ⟨_, rfl, _, rfl, pl, _, _, .str l, rfl, rfl, SqL.of O9.a0, hat, ⟨_, rfl⟩, l, _, rfl, rfl, by decide +kernel, Nat.le_of_lt (size1 (by omega)), fun pw hpw => ?_⟩
        obtain ⟨hw1, hw2, hw3⟩ := split_facts bln blk hll.2
        have hwt := split_tot (x := l) bln blk
        obtain ⟨ws, hws⟩ : ∃ ws, ws = Txt.split l " " := ⟨_, rfl⟩
        rw [← hws] at hw1 hw2 hw3 hwt ⊢
        have W1 := O9.new (o := .lst (ws.map V.str)) hpw
        have hwn : 0 < ws.length := List.length_pos_iff.mpr hw1
        refine ⟨_, rfl, _, rfl, pw, _, rfl, .inl (SqL.of W1.a0), rw, S, c5, _, (pw, .lst (ws.map V.str)) :: (pl, .lst (lines.map V.str)) :: R, rfl, hc5, by rw [List.length_map]; omega, W1.perm (by walk_at "perm"), fun vj c6 H6 hj0 hj1 hc6 W2 => ?_⟩
        rw [List.length_map] at hj1
        obtain ⟨jj, rfl⟩ : ∃ jj : Nat, vj = (jj : Int) := ⟨vj.toNat, by omega⟩
        have hjl : jj < ws.length := by omega
        have ej : (jj : Int) + 1 = ((jj + 1 : Nat) : Int) := by omega
        have W3 := W2.perm (L' := (pw, .lst (ws.map V.str)) :: (pl, .lst (lines.map V.str)) :: (c6 :: (S ++ R))) (by walk_at "perm")
        clear W2 W1 O9
        -- odd words
        refine ⟨by show 16 ≤ sizeLine; decide, fun po hpo => ?_⟩
        obtain ⟨od, hod, hod2⟩ : ∃ od : List Str, [V.str "", .str "0", .str "3", .str "4", .str "5", .str "63", .str "64", .str "999", .str "1000", .str "00", .str "07", .str "-1", .str "back", .str "by", .str "late", .str "room"] = od.map V.str ∧ OddOk (od ++ (["set", "Look"] : List Str)) := by
          refine ⟨["", "0", "3", "4", "5", "63", "64", "999", "1000", "00", "07", "-1", "back", "by", "late", "room"], rfl, rfl, fun y hy => ?_⟩
          have : ((["", "0", "3", "4", "5", "63", "64", "999", "1000", "00", "07", "-1", "back", "by", "late", "room"] : List Str) ++ (["set", "Look"] : List Str)).all (fun y => decide (y.length ≤ 4) && (TL.tl y).all (fun c => decide (c < 1114112))) = true := by decide +kernel
          have h := He.ba (List.all_eq_true.mp this y hy)
          exact ⟨of_decide_eq_true h.1, sgn_of h.2⟩
        rw [hod]
        have W4 := W3.new (o := .lst (od.map V.str)) hpo
        refine ⟨_, rfl, by show 2 ≤ sizeLine; decide, fun po2 hpo2 => ?_⟩
        have W5 := W4.new (o := .lst ((["set", "Look"] : List Str).map V.str)) hpo2
        have hodl : od.length = 16 := by
          have := hod2.1
          rw [List.length_append] at this
          have e : (["set", "Look"] : List Str).length = 2 := rfl
          omega
        refine ⟨po, po2, _, _, rfl, rfl, W5.a1, W5.a0, by rw [List.length_map, hodl]; show 18 ≤ sizeLine; decide, fun po3 hpo3 => ?_⟩
        rw [show [V.str "set", V.str "Look"] = (["set", "Look"] : List Str).map V.str from rfl, ← List.map_append]
        obtain ⟨odd, hodd⟩ : ∃ odd : List Str, odd = od ++ (["set", "Look"] : List Str) := ⟨_, rfl⟩
        rw [← hodd] at hod2 ⊢
        have W6 := (W5.new (o := .lst (odd.map V.str)) hpo3).perm (L' := (po3, .lst (odd.map V.str)) :: (pw, .lst (ws.map V.str)) :: (pl, .lst (lines.map V.str)) :: ((po2, .lst ((["set", "Look"] : List Str).map V.str)) :: (po, .lst (od.map V.str)) :: (c6 :: (S ++ R)))) (by walk_at "perm")
        clear W5 W4 W3
        -- words
        obtain ⟨wj, hwj⟩ : ∃ wj, ws[jj]? = some wj := ⟨_, List.getElem?_eq_getElem hjl⟩
        have hwjl := hw3 wj (List.mem_of_getElem? hwj)
        refine ⟨_, rfl, _, rfl, _, rfl, pw, _, rfl, SqL.of W6.a1, fun s1 hs1 => ?_⟩
        rw [cutTakeS (by omega)]
        have V1 := W6.new (o := .lst ((ws.take jj).map V.str)) hs1
        refine ⟨by show 0 ≤ sizeLine; decide, fun e0 he0 => ?_⟩
        have V2 := V1.new (o := .lst (([] : List Str).map V.str)) he0
        refine ⟨_, rfl, _, rfl, pw, _, _, .str wj, rfl, rfl, SqL.of V2.a3, atI_nat (by rw [List.getElem?_map, hwj]; rfl), by show 1 ≤ sizeLine; decide, fun e1 he1 => ?_⟩
        have V3 := V2.new (o := .lst [.str wj]) he1
        refine ⟨e1, 2, _, rfl, rfl, V3.a0, by decide, by decide, by show 1 * 2 ≤ sizeLine; decide, fun e2 he2 => ?_⟩
        have V4 := V3.new (o := .lst ([wj, wj].map V.str)) he2
        refine ⟨_, rfl, _, rfl, rw, S, c6, 18, (e2, .lst ([wj, wj].map V.str)) :: (e1, .lst [.str wj]) :: (e0, .lst (([] : List Str).map V.str)) :: (s1, .lst ((ws.take jj).map V.str)) :: (po3, .lst (odd.map V.str)) :: (pw, .lst (ws.map V.str)) :: (pl, .lst (lines.map V.str)) :: ((po2, .lst ((["set", "Look"] : List Str).map V.str)) :: (po, .lst (od.map V.str)) :: R), rfl, hc6, by decide, V4.perm (by walk_at "perm"), fun vo c7 H7 ho0 ho1 hc7 V5 => ?_⟩
        obtain ⟨oo, rfl⟩ : ∃ oo : Nat, vo = (oo : Int) := ⟨vo.toNat, by omega⟩
        obtain ⟨ow, how⟩ : ∃ ow, odd[oo]? = some ow := ⟨_, List.getElem?_eq_getElem (by rw [hod2.1]; omega)⟩
        have howl := hod2.2 ow (List.mem_of_getElem? how)
        have V6 := V5.perm (L' := (e2, .lst ([wj, wj].map V.str)) :: (e1, .lst [.str wj]) :: (e0, .lst (([] : List Str).map V.str)) :: (s1, .lst ((ws.take jj).map V.str)) :: (po3, .lst (odd.map V.str)) :: (pw, .lst (ws.map V.str)) :: (pl, .lst (lines.map V.str)) :: ((po2, .lst ((["set", "Look"] : List Str).map V.str)) :: (po, .lst (od.map V.str)) :: (c7 :: (S ++ R)))) (by walk_at "perm")
        clear V5 V4 V3 V2 V1 W6
        refine ⟨po3, _, _, .str ow, rfl, rfl, SqL.of V6.a4, atI_nat (by rw [List.getElem?_map, how]; rfl), by show 1 ≤ sizeLine; decide, fun e3 he3 => ?_⟩
        have V7 := V6.new (o := .lst ([ow].map V.str)) he3
        refine ⟨by show 3 ≤ sizeLine; decide, fun e4 he4 => ?_⟩
        have V8 := V7.new (o := .lst [.ref e0, .ref e2, .ref e3]) he4
        obtain ⟨q, ms, hq, hqm, hmt, hms⟩ : ∃ (q : Addr) (ms : List Str), atI [V.ref e0, .ref e2, .ref e3] (way - 6) = some (.ref q) ∧ (q, HO.lst (ms.map V.str)) ∈ [(e4, HO.lst [.ref e0, .ref e2, .ref e3]), (e3, .lst ([ow].map V.str)), (e2, .lst ([wj, wj].map V.str)), (e1, .lst [.str wj]), (e0, .lst (([] : List Str).map V.str))] ∧ (tot ms ≤ 2 * x.length + 5 ∧ ms.length ≤ 2) ∧ ∀ y ∈ ms, Sgn y := by
          obtain ⟨y, ey, e | e | e⟩ := pick3 (v := way - 6) (a := V.ref e0) (b := .ref e2) (c := .ref e3) (by omega) (by omega)
          · refine ⟨e0, [], by rw [ey, e], by simp only [List.mem_cons, true_or, or_true], ⟨by show 0 ≤ _; omega, by show 0 ≤ 2; decide⟩, fun y hy => nomatch hy⟩
          · refine ⟨e2, [wj, wj], by rw [ey, e], by simp only [List.mem_cons, true_or, or_true], ⟨?_, Nat.le_refl 2⟩, fun y hy => ?_⟩
            · rw [tot_cons, tot_cons]
              show _ + 1 + (_ + 1 + 0) ≤ _
              omega
            · simp only [List.mem_cons, List.not_mem_nil, or_false, or_self] at hy
              rw [hy]
              exact hwjl.2
          · refine ⟨e3, [ow], by rw [ey, e], by simp only [List.mem_cons, true_or, or_true], ⟨?_, (by decide : 1 ≤ 2)⟩, fun y hy => ?_⟩
            · rw [tot_cons]
              show _ + 1 + 0 ≤ _
              omega
            · rw [List.mem_singleton.mp hy]
              exact howl.2
        refine ⟨_, rfl, _, _, rfl, rfl, e4, _, _, _, rfl, rfl, SqL.of V8.a0, hq, ?_⟩
        have tkl : (ws.take jj).length ≤ ws.length := by rw [List.length_take]; omega
        refine ⟨s1, q, _, _, rfl, rfl, V8.a5, V8.mem (List.mem_append_left _ hqm), by rw [List.length_map, List.length_map]; exact Nat.le_of_lt (size1 (by omega)), fun s2 hs2 => ?_⟩
        rw [← List.map_append]
        have V9 := V8.new (o := .lst ((ws.take jj ++ ms).map V.str)) hs2
        refine ⟨_, rfl, _, rfl, _, _, rfl, rfl, _, rfl, pw, _, rfl, SqL.of (V9.mem (show (pw, HO.lst (ws.map V.str)) ∈ _ by simp)), fun s3 hs3 => ?_⟩
        rw [ej, cutDropS (by omega)]
        have V10 := V9.new (o := .lst ((ws.drop (jj + 1)).map V.str)) hs3
        have dkl : (ws.drop (jj + 1)).length ≤ ws.length := by rw [List.length_drop]; omega
        refine ⟨s2, s3, _, _, rfl, rfl, V10.a1, V10.a0, by rw [List.length_map, List.length_map, List.length_append]; exact Nat.le_of_lt (size1 (by omega)), fun s4 hs4 => ?_⟩
        rw [← List.map_append]
        have V11 := V10.new (o := .lst ((ws.take jj ++ ms ++ ws.drop (jj + 1)).map V.str)) hs4
        have htot : tot (ws.take jj ++ ms ++ ws.drop (jj + 1)) ≤ tot ws + (2 * x.length + 5) := by
          have h1 := tot_sub (skip_sub ws jj)
          rw [tot_app] at h1
          rw [tot_app, tot_app]
          omega
        have hsg2 : ∀ y ∈ ws.take jj ++ ms ++ ws.drop (jj + 1), Sgn y := fun y hy => by
          simp only [List.mem_append] at hy
          rcases hy with (z | z) | z
          · exact (hw3 y (List.mem_of_mem_take z)).2
          · exact hms y z
          · exact (hw3 y (List.mem_of_mem_drop z)).2
        generalize ws.take jj ++ ms ++ ws.drop (jj + 1) = nw at V11 htot hsg2 ⊢
        have hjn := join_tot bl1 nw
        -- rows
        refine ⟨⟨_, rfl⟩, _, rfl, _, rfl, _, rfl, pl, _, rfl, SqL.of (V11.mem (show (pl, HO.lst (lines.map V.str)) ∈ _ by simp)), fun s5 hs5 => ?_⟩
        rw [cutTakeS (by omega)]
        have U1 := V11.new (o := .lst ((lines.take kk).map V.str)) hs5
        refine ⟨⟨_, rfl⟩, _, rfl, _, s4, nw, rfl, rfl, .inl (SqL.of U1.a1), ?_, by show 1 ≤ sizeLine; decide, fun s6 hs6 => ?_⟩
        · rw [bl1, Nat.mul_one]
          show tot nw ≤ _
          omega
        have U2 := U1.new (o := .lst ([Txt.join " " nw].map V.str)) hs6
        have tll : (lines.take kk).length ≤ lines.length := by rw [List.length_take]; omega
        have dll : (lines.drop (kk + 1)).length ≤ lines.length := by rw [List.length_drop]; omega
        refine ⟨s5, s6, _, _, rfl, rfl, U2.a1, U2.a0, by rw [List.length_map]; exact Nat.le_of_lt (size1 (by show _ + 1 ≤ _; omega)), fun s7 hs7 => ?_⟩
        rw [show [V.str (Txt.join " " nw)] = [Txt.join " " nw].map V.str from rfl, ← List.map_append]
        have U3 := U2.new (o := .lst ((lines.take kk ++ [Txt.join " " nw]).map V.str)) hs7
        refine ⟨_, rfl, _, rfl, _, _, rfl, rfl, _, rfl, pl, _, rfl, SqL.of (U3.mem (show (pl, HO.lst (lines.map V.str)) ∈ _ by simp)), fun s8 hs8 => ?_⟩
        rw [ek, cutDropS (by omega)]
        have U4 := U3.new (o := .lst ((lines.drop (kk + 1)).map V.str)) hs8
        refine ⟨s7, s8, _, _, rfl, rfl, U4.a1, U4.a0, by rw [List.length_map, List.length_map, List.length_append]; exact Nat.le_of_lt (size1 (by show _ + 1 + _ ≤ _; omega)), fun s9 hs9 => ?_⟩
        rw [← List.map_append]
        have U5 := U4.new (o := .lst ((lines.take kk ++ [Txt.join " " nw] ++ lines.drop (kk + 1)).map V.str)) hs9
        have htot2 : tot (lines.take kk ++ [Txt.join " " nw] ++ lines.drop (kk + 1)) ≤ tot lines + (tot nw + 1) := by
          have h1 := tot_sub (skip_sub lines kk)
          rw [tot_app] at h1
          rw [tot_app, tot_app, tot_cons]
          show _ + (_ + 1 + 0) + _ ≤ _
          omega
        have hsg3 : ∀ y ∈ lines.take kk ++ [Txt.join " " nw] ++ lines.drop (kk + 1), Sgn y := fun y hy => by
          simp only [List.mem_append, List.mem_singleton] at hy
          rcases hy with (z | z) | z
          · exact (hl3 y (List.mem_of_mem_take z)).2
          · rw [z]
            exact join_sgn bls hsg2
          · exact (hl3 y (List.mem_of_mem_drop z)).2
        have hjl2 := join_tot nl1 (lines.take kk ++ [Txt.join " " nw] ++ lines.drop (kk + 1))
        refine ⟨_, s9, _, rfl, rfl, .inl (SqL.of U5.a0), ?_, ?_⟩
        · rw [nl1, Nat.mul_one]
          show tot (lines.take kk ++ [Txt.join " " nw] ++ lines.drop (kk + 1)) ≤ _
          omega
        · refine k _ c7 _ (by omega) (join_sgn nls hsg3) hc7 ?_
          exact Own.right (L' := [_, _, _, _, _, _, _, _, _, _, _, _, _, _, _, _, _, _, _]) U5
end
-- WwL19
/-! ### the law -/
abbrev lawLv : Nat := 18
def lamQ : Str := (envOfC "law" (defScope s_law) 0 0 .none).qual ++ "<lambda>"
abbrev lamP (K : PySem.W.Frag) : Addr := (He.cT K ("law", none)).2
abbrev lamTs (K : PySem.W.Frag) : List (Addr × Str) := [(lamP K, lamQ)]
def spLaw (K : PySem.W.Frag) : Sp := fun vs H Q _ => ∃ (sc : Addr) (ns : List Int) (S TL : List Cell), vs = [.ref sc] ∧ Scr K sc ns S ∧ NT S ∧ TabC TL (lamP K) lamQ ∧ Own H (S ++ TL) ∧ ∀ H', Q (.bl true) H'
theorem RowC.nt {K : PySem.W.Frag} {rw : Addr} {S : List Cell} {c : Cell} (h : RowC K rw S c) : isTb c.2 = false := by
  obtain ⟨_, _, _, _, _, _, _, rfl⟩ := h
  rfl
theorem TA.ntOf {N : List Cell} : ∀ {as : List Addr} {us : List (List V)}, TA N as us → TA (nt N) as us
  | [], [], _ => trivial
  | [], _ :: _, h => h.elim
  | _ :: _, [], h => h.elim
  | _ :: _, _ :: _, h => ⟨nt_mem.mpr ⟨h.1, rfl⟩, TA.ntOf h.2⟩
theorem RA.ntOf {N : List Cell} : ∀ {as : List Addr} {us : List Rul}, RA N as us → RA (nt N) as us
  | [], [], _ => trivial
  | [], _ :: _, h => h.elim
  | _ :: _, [], h => h.elim
  | _ :: _, _ :: _, h => ⟨nt_mem.mpr ⟨h.1, rfl⟩, RA.ntOf h.2⟩
theorem alD_ru (n : Nat) (u : Rul) : AlD (n + 2) (ruD u) := ⟨by show 5 ≤ 100000; decide, fun d hd => by
  simp only [List.mem_cons, List.not_mem_nil, or_false] at hd
  rcases hd with e | e | e | e | e <;> rw [e] <;> trivial⟩
theorem alD_dd (n : Nat) (d : Deed) : AlD (n + 2) (dD d) := by
  cases d with
  | look h p => exact ⟨by show 3 ≤ 100000; decide, fun d hd => by
      simp only [List.mem_cons, List.not_mem_nil, or_false] at hd
      rcases hd with e | e | e <;> rw [e] <;> trivial⟩
  | set h p v => exact ⟨by show 4 ≤ 100000; decide, fun d hd => by
      simp only [List.mem_cons, List.not_mem_nil, or_false] at hd
      rcases hd with e | e | e | e <;> rw [e] <;> trivial⟩
theorem alD_both {us : List Rul} {ds : List Deed} (hul : us.length ≤ 3) (hdl : ds.length ≤ 200) : AlD 4 (.tuple [.list (us.map ruD), .list (ds.map dD)]) := ⟨by show 2 ≤ 100000; decide, fun d hd => by
  simp only [List.mem_cons, List.not_mem_nil, or_false] at hd
  rcases hd with e | e <;> rw [e]
  · exact ⟨by rw [List.length_map]; omega, fun d hd => by
      obtain ⟨u, _, rfl⟩ := List.mem_map.mp hd
      exact alD_ru 0 u⟩
  · exact ⟨by rw [List.length_map]; omega, fun d hd => by
      obtain ⟨u, _, rfl⟩ := List.mem_map.mp hd
      exact alD_dd 0 u⟩⟩
theorem both_shaped (us : List Rul) (ds : List Deed) : SeqAt.shaped (.list [.list (us.map ruD), .list (ds.map dD)]) = true := by
  obtain ⟨h1, h2⟩ := layL (xs := us) fun u _ => ruD_lay u
  obtain ⟨h3, h4⟩ := layL (xs := ds) fun d _ => dD_lay d
  refine shaped_of ?_ ?_
  · show (PyData.canLay0 (.list (us.map ruD)) && (PyData.canLay0 (.list (ds.map dD)) && true)) = true
    rw [h1, h3]
    rfl
  · show max (PyData.depth (.list (us.map ruD))) (max (PyData.depth (.list (ds.map dD))) 0) + 1 ≤ 64
    omega
/-! the odd texts -/
def TxV (v : V) : Prop := ∃ x : Str, v = .str x ∧ x.length ≤ 30000 ∧ Sgn x
def TxL (l : List V) : Prop := ∀ v ∈ l, TxV v
def txB : V → Bool
  | .str x => decide (x.length ≤ 30000) && (TL.tl x).all (fun c => decide (c < 1114112))
  | _ => false
theorem txB_ok {v : V} (h : txB v = true) : TxV v := by
  cases v with
  | str x =>
    have h := He.ba h
    exact ⟨x, rfl, of_decide_eq_true h.1, sgn_of h.2⟩
  | _ => cases h
theorem txL_of {l : List V} (h : l.all txB = true) : TxL l := fun v hv => txB_ok (List.all_eq_true.mp h v hv)
theorem TxL.app {a b : List V} (ha : TxL a) (hb : TxL b) : TxL (a ++ b) := fun v hv => (List.mem_append.mp hv).elim (ha v) (hb v)
theorem TxL.cons {a : V} {b : List V} (ha : TxV a) (hb : TxL b) : TxL (a :: b) := fun v hv => (List.mem_cons.mp hv).elim (fun e => e ▸ ha) (hb v)
theorem TxL.nil : TxL [] := fun v hv => nomatch hv
theorem tot_rep (n m : Nat) {x : Str} (h : x.length ≤ m) : tot (List.replicate n x) ≤ n * (m + 1) := by
  induction n with
  | zero => exact Nat.zero_le _
  | succ n ih =>
    rw [List.replicate_succ, tot_cons, Nat.add_mul]
    omega
theorem nl_one : (Str.ofString "\n").length = 1 := by decide +kernel
theorem nl_sgn : Sgn (Str.ofString "\n") := sgn_of (by decide +kernel)
theorem tx_join {ys : List Str} (h : tot ys ≤ 30000) (hs : ∀ y ∈ ys, Sgn y) : TxV (.str (Txt.join "\n" ys)) := ⟨_, rfl, Nat.le_trans (join_tot nl_one ys) h, join_sgn nl_sgn hs⟩
abbrev hdT : Str := "room 1 1 back in late"
theorem hd_len : hdT.length ≤ 30 := by decide +kernel
theorem hd_sgn : Sgn hdT := sgn_of (by decide +kernel)
theorem rep_flat (n : Nat) (v : V) : (List.replicate n [v]).flatten = List.replicate n v := by
  induction n with
  | zero => rfl
  | succ n ih =>
    rw [List.replicate_succ, List.flatten_cons, ih, List.replicate_succ]
    rfl
theorem rep_strs (n : Nat) (x : Str) : (List.replicate n [V.str x]).flatten = (List.replicate n x).map V.str := by
  rw [rep_flat, List.map_replicate]
def tx1 : List V := [.str "", .str "\n", .str hdT, .str (hdT ++ "\n"), .str (" " ++ hdT), .str (hdT ++ " "), .str "look 0 0", .str (hdT ++ "\nlook 0 0"), .str (hdT ++ "\nlook 0  0")]
abbrev txS : Str := hdT ++ "\nset 0 0 0\n"
def tx2 : List V := [.str (Txt.join "\n" (List.replicate 3 hdT)), .str (Txt.join "\n" (List.replicate 4 hdT)), .str (txS ++ hdT), .str "room 1 1 back in"]
def tx3 : List V := [.str (hdT ++ "\nlook 3 0"), .str (hdT ++ "\nlook 2 63"), .str (hdT ++ "\nlook 2 64"), .str (hdT ++ "\nset 2 63 999")]
def tx4 : List V := [.str (hdT ++ "\nset 2 63 1000"), .str (hdT ++ "\nset 2 63 00"), .str (hdT ++ "\nset 2 63 07"), .str (hdT ++ "\nlook 0 -1")]
def tx5 : List V := [.str "room 4 4 through by first", .str "room 3 1 back in late", .str "room 4 5 back in late"]
def tx6 : List V := [.str "room 0 1 back in late", .str "room 1 0 back in late"]
def rows7 : List Str := hdT :: List.replicate 200 "look 0 0"
def rows8 : List Str := hdT :: List.replicate 201 "look 0 0"
def rows9 : List Str := (hdT :: List.replicate 200 "set 1 2 3") ++ [hdT]
def tx7 : List V := [.str "Room 1 1 back in late", .str (Txt.join "\n" rows7)]
def txA : List V := tx1 ++ tx2 ++ tx3 ++ tx4 ++ tx5 ++ tx6 ++ tx7 ++ [.str (Txt.join "\n" rows8)] ++ [.str (Txt.join "\n" rows9)]
theorem rows_ok {x : Str} {n : Nat} (h : x.length ≤ 9) (hs : Sgn x) (hn : n ≤ 201) : tot (hdT :: List.replicate n x) ≤ 5000 ∧ ∀ y ∈ hdT :: List.replicate n x, Sgn y := by
  have h1 := tot_rep n 9 h
  have h2 := hd_len
  refine ⟨?_, fun y hy => ?_⟩
  · rw [tot_cons]
    omega
  · rcases List.mem_cons.mp hy with e | e
    · rw [e]
      exact hd_sgn
    · rw [(List.mem_replicate.mp e).2]
      exact hs
theorem look_ok : (Str.ofString "look 0 0").length ≤ 9 ∧ Sgn "look 0 0" := ⟨by decide +kernel, sgn_of (by decide +kernel)⟩
theorem setT_ok : (Str.ofString "set 1 2 3").length ≤ 9 ∧ Sgn "set 1 2 3" := ⟨by decide +kernel, sgn_of (by decide +kernel)⟩
theorem rows7_ok : tot rows7 ≤ 5000 ∧ ∀ y ∈ rows7, Sgn y := rows_ok look_ok.1 look_ok.2 (by decide)
theorem rows8_ok : tot rows8 ≤ 5000 ∧ ∀ y ∈ rows8, Sgn y := rows_ok look_ok.1 look_ok.2 (by decide)
theorem rows9_ok : tot rows9 ≤ 6000 ∧ ∀ y ∈ rows9, Sgn y := by
  obtain ⟨h1, h2⟩ := rows_ok (n := 200) setT_ok.1 setT_ok.2 (by decide)
  have h3 := hd_len
  refine ⟨?_, fun y hy => ?_⟩
  · unfold rows9
    rw [tot_app, tot_cons hdT []]
    show _ + (_ + 1 + 0) ≤ _
    omega
  · rcases List.mem_append.mp hy with e | e
    · exact h2 y e
    · rw [List.mem_singleton.mp e]
      exact hd_sgn
theorem hds_ok (n : Nat) (hn : n ≤ 4) : tot (List.replicate n hdT) ≤ 200 ∧ ∀ y ∈ List.replicate n hdT, Sgn y := by
  have h1 := tot_rep n 30 hd_len
  refine ⟨by omega, fun y hy => ?_⟩
  rw [(List.mem_replicate.mp hy).2]
  exact hd_sgn
theorem txA_ok : txA.length = 30 ∧ TxL txA := by
  refine ⟨rfl, ?_⟩
  have j3 := hds_ok 3 (by decide)
  have j4 := hds_ok 4 (by decide)
  have h2 : TxL tx2 := .cons (tx_join (by omega) j3.2) (.cons (tx_join (by omega) j4.2) (txL_of (by decide +kernel)))
  have h7 : TxL tx7 := .cons (txB_ok (by decide +kernel)) (.cons (tx_join (Nat.le_trans rows7_ok.1 (by decide)) rows7_ok.2) .nil)
  exact ((((((((txL_of (by decide +kernel) : TxL tx1).app h2).app (txL_of (by decide +kernel))).app (txL_of (by decide +kernel))).app (txL_of (by decide +kernel))).app (txL_of (by decide +kernel))).app h7).app (.cons (tx_join (Nat.le_trans rows8_ok.1 (by decide)) rows8_ok.2) .nil)).app (.cons (tx_join (Nat.le_trans rows9_ok.1 (by decide)) rows9_ok.2) .nil)
theorem txA_pick {v : Int} (h0 : 0 ≤ v) (h1 : v < 30) : ∃ x : Str, atI txA v = some (.str x) ∧ x.length ≤ 30000 ∧ Sgn x := by
  obtain ⟨j, rfl⟩ : ∃ j : Nat, v = (j : Int) := ⟨v.toNat, by omega⟩
  have hj : j < txA.length := by
    rw [txA_ok.1]
    omega
  obtain ⟨x, hx, h2, h3⟩ := txA_ok.2 _ (List.getElem_mem hj)
  exact ⟨x, atI_nat (by rw [List.getElem?_eq_getElem hj, hx]), h2, h3⟩
def bnd : Nat → Nat
  | 0 => 900
  | i + 1 => 4 * bnd i + 10
theorem text_len14 {us : List Rul} {ds : List Deed} (hus : ∀ u ∈ us, RulOk u) (hul : us.length ≤ 3) (hds : ∀ d ∈ ds, d.ok 3) (hdl : ds.length ≤ 14) : (textOf us ds).length ≤ 900 ∧ tot (us.map rowR ++ ds.map rowD) ≤ 900 := by
  have hrl : ∀ x ∈ us.map rowR ++ ds.map rowD, x.length ≤ 48 := fun x hx => by
    rcases List.mem_append.mp hx with h | h
    · obtain ⟨u, hu, rfl⟩ := List.mem_map.mp h
      exact (row_len (rul_parts (hus u hu)) (Nat.le_refl 5)).2
    · obtain ⟨d, hd, rfl⟩ := List.mem_map.mp h
      have := (row_len (deed_parts (hds d hd)) (by cases d with | look h p => exact (by decide : 3 ≤ 5) | set h p v => exact (by decide : 4 ≤ 5))).1
      exact Nat.le_trans this (by decide)
  have hsum := sum_le hrl
  have hll : (us.map rowR ++ ds.map rowD).length ≤ 17 := by
    simp only [List.length_append, List.length_map]
    omega
  have h2 : tot (us.map rowR ++ ds.map rowD) ≤ 900 := by
    unfold tot
    have : (us.map rowR ++ ds.map rowD).length * 48 ≤ 17 * 48 := Nat.mul_le_mul_right _ hll
    omega
  exact ⟨Nat.le_trans (join_tot nl_one _) h2, h2⟩
theorem parts_go19 {K : PySem.W.Frag} {s : Nat} {p : Addr} {a0 a1 a2 a3 a4 a5 a6 a7 a8 a9 a10 a11 a12 a13 a14 : Option V} {H : Hp} {Q : VK} {xs : List V} {L : List Cell} (hs : ([a0, a1, a2, a3, a4, a5, a6, a7, a8, a9, a10, a11, a12, a13, a14] : List (Option V))[s]? = some (some (.ref p))) (hp : (p, HO.tup xs) ∈ L) (hx : ∀ x ∈ xs, PartOk x) (hl : xs.length ≤ 5) (O : Own H L)
    (k : ∀ (D : Addr) (H' : Hp), Own H' ((D, .lst ((xs.map partS).map V.str)) :: L) → Q (.ref D) H') :
    tLc (iTup K (tVar s)) (gName 14) tYes (tCB rStrF (tCons (tVar 14) tNil)) [14] [a0, a1, a2, a3, a4, a5, a6, a7, a8, a9, a10, a11, a12, a13, a14] H Q := by
  refine ⟨_, hs, p, rfl, ⟨_, SqT.of (O.mem hp)⟩, fun D hD => ?_⟩
  refine lc_tup (K := K) (a := p) (xs := xs) (fun i H' => Own H' ((D, .lst (((xs.take i).map partS).map V.str)) :: L)) (O.new hD) (fun i H' _ O' => SqT.of (O'.mem (List.mem_cons_of_mem _ hp))) ?_ ?_
  · rintro i y H1 hi O1
    have hil : i < xs.length := (List.getElem?_eq_some_iff.mp hi).1
    have fin : ∀ z, partS y = z → ∃ acc, H1 D = some (.lst acc) ∧ acc.length < sizeLine ∧ Own (upd H1 D (.lst (acc ++ [.str z]))) ((D, .lst (((xs.take (i + 1)).map partS).map V.str)) :: L) := fun z hz => by
      refine ⟨_, O1.a0, by rw [List.length_map, List.length_map, List.length_take]; exact size1 (by omega), ?_⟩
      rw [take_snoc hi, List.map_append, List.map_append, ← hz]
      exact O1.set
    refine ⟨rfl, tYes_go (iteT ⟨_, rfl, ?_⟩)⟩
    rcases hx y (List.mem_of_getElem? hi) with ⟨j, rfl, h0, h1⟩ | ⟨z, rfl, hz⟩
    · exact .inl ⟨j, rfl, log60 (by omega), fin _ rfl⟩
    · exact .inr ⟨z, rfl, fin _ rfl⟩
  · intro H1 O1
    rw [List.take_length] at O1
    exact k D H1 O1
section
variable {P : Program} {w : World} {K : PySem.W.Frag} {mg : Str → Option Value} {base : Heap} {n lv : Nat}
theorem ok_law (T : Txt K mg) (TB : LamX.TabB base mg (He.cT K ("law", none)).1 (lamP K)) : FnOk P w K mg base CX0 18 (He.fAd K ("law", none)) T.fd_law ["_law_script"] (spLaw K) := by
  have G__law_taken := ok_taken (P := P) (w := w) (base := base) T
  have G__law_rules := ok_rules (P := P) (w := w) (base := base) T
  have G__law_deeds := ok_deeds (P := P) (w := w) (base := base) T
  have G__law_alike := ok_alike (P := P) (w := w) (base := base) T 4
  have G__law_spoilt := ok_spoilt (P := P) (w := w) (base := base) T
  have G__law_read := ok_lread (P := P) (w := w) (base := base) T
  have G_read := ok_read (P := P) (w := w) (base := base) T
  obtain ⟨oc, od, dV, kV, doc, pm, an, cdg, ct, osl, efd, lkW, hcW, _, _⟩ := T.F__law_word.ex
  have bW := T.b__law_word
  rw [efd] at lkW bW
  refine okTab T.F_law sc_law (fun vs H Q E h => ?_) (fun A outer s H vs Q E hr h => ?_)
  · obtain ⟨_, _, _, _, rfl, _⟩ := h
    rfl
  · obtain ⟨sc, ns, S, TL, rfl, hsc, hS, hT, O, kq⟩ := h
    refine ⟨_, (pss_cons (ps_set (i := 1) sc_law.nd rfl (Or.inl rfl) (pe_lst (pa_cons (pv 0) (pa_cons pe_int (pa_cons pe_int pa_nil))))) (pss_cons (ps_set (i := 2) sc_law.nd rfl (Or.inl rfl) pe_str) (pss_cons (ps_set (i := 3) sc_law.nd rfl (Or.inl rfl) (pe_lst (pa_cons pe_str (pa_cons pe_str (pa_cons (pv 2) (pa_cons (pe_op op_add_str (pv 2) pe_str) (pa_cons (pe_op op_add_str pe_str (pv 2)) (pa_cons (pe_op op_add_str (pv 2) pe_str) (pa_cons pe_str (pa_cons (pe_op op_add_str (pv 2) pe_str) (pa_cons (pe_op op_add_str (pv 2) pe_str) pa_nil))))))))))) (pss_cons (ps_set (i := 3) sc_law.nd rfl (Or.inl rfl) (pe_op op_cat (pv 3) (pe_lst (pa_cons (pe_join pe_str (pe_op op_rep (pe_lst (pa_cons (pv 2) pa_nil)) pe_int)) (pa_cons (pe_join pe_str (pe_op op_rep (pe_lst (pa_cons (pv 2) pa_nil)) pe_int)) (pa_cons (pe_op op_add_str (pe_op op_add_str (pv 2) pe_str) (pv 2)) (pa_cons pe_str pa_nil))))))) (pss_cons (ps_set (i := 3) sc_law.nd rfl (Or.inl rfl) (pe_op op_cat (pv 3) (pe_lst (pa_cons (pe_op op_add_str (pv 2) pe_str) (pa_cons (pe_op op_add_str (pv 2) pe_str) (pa_cons (pe_op op_add_str (pv 2) pe_str) (pa_cons (pe_op op_add_str (pv 2) pe_str) pa_nil))))))) (pss_cons (ps_set (i := 3) sc_law.nd rfl (Or.inl rfl) (pe_op op_cat (pv 3) (pe_lst (pa_cons (pe_op op_add_str (pv 2) pe_str) (pa_cons (pe_op op_add_str (pv 2) pe_str) (pa_cons (pe_op op_add_str (pv 2) pe_str) (pa_cons (pe_op op_add_str (pv 2) pe_str) pa_nil))))))) (pss_cons (ps_set (i := 3) sc_law.nd rfl (Or.inl rfl) (pe_op op_cat (pv 3) (pe_lst (pa_cons pe_str (pa_cons pe_str (pa_cons pe_str pa_nil)))))) (pss_cons (ps_set (i := 3) sc_law.nd rfl (Or.inl rfl) (pe_op op_cat (pv 3) (pe_lst (pa_cons pe_str (pa_cons pe_str pa_nil))))) (pss_cons (ps_set (i := 3) sc_law.nd rfl (Or.inl rfl) (pe_op op_cat (pv 3) (pe_lst (pa_cons pe_str (pa_cons (pe_join pe_str (pe_op op_cat (pe_lst (pa_cons (pv 2) pa_nil)) (pe_op op_rep (pe_lst (pa_cons pe_str pa_nil)) pe_int))) pa_nil))))) (pss_cons (ps_expr (pe_bm PySem.F.plainAttrs_list PySem.F.slot_list_append PySem.F.type_list_append mt_append (pv 3) (pa_cons (pe_join pe_str (pe_op op_cat (pe_lst (pa_cons (pv 2) pa_nil)) (pe_op op_rep (pe_lst (pa_cons pe_str pa_nil)) pe_int))) pa_nil))) (pss_cons (ps_expr (pe_bm PySem.F.plainAttrs_list PySem.F.slot_list_append PySem.F.type_list_append mt_append (pv 3) (pa_cons (pe_join pe_str (pe_op op_cat (pe_op op_cat (pe_lst (pa_cons (pv 2) pa_nil)) (pe_op op_rep (pe_lst (pa_cons pe_str pa_nil)) pe_int)) (pe_lst (pa_cons (pv 2) pa_nil)))) pa_nil))) (pss_cons (ps_for PassesOwn.never rfl (pi_range1 (by rfl) T.n_range (pa_cons pe_int pa_nil)) (pg_name (i := 4) sc_law.nd rfl (Or.inl rfl)) (pss_cons (ps_setLc (i := 5) (te := (tM1 (rJoin K) (tC (.str " ")) (tOp rCat (tLst (tCons (tC (.str "room")) tNil)) (tLc (iTup K (tVar 12)) (gName 14) tYes (tCB rStrF (tCons (tVar 14) tNil)) [14])))) (own := [("_law_rule_here", 12)]) (by rfl) sc_law.nd rfl rfl (sw_true rfl rfl rfl (by decide +kernel)) (pi_list (pe_call G__law_rules (hr.mono (by omega)) rfl T.g__law_rules T.k__law_rules T.b__law_rules .nil pass0 (pa_cons (pv 1) pa_nil))) (blkOk_by (own := [("_law_rule_here", 12)]) (by kernel_rfl)) (fun _ _ _ _ _ => (pg_name (i := 12) sc_law.nd rfl (Or.inl rfl))) (fun _ _ _ _ _ => pts_nil) (fun _ _ _ _ _ => (pe_join pe_str (pe_op op_cat (pe_lst (pa_cons pe_str pa_nil)) (pe_lc (te := (tCB rStrF (tCons (tVar 14) tNil))) (own := [("_law_part", 14)]) (by rfl) sc_law.nd (pi_tup (pv 12)) (blkOk_by (own := [("_law_part", 14)]) (by kernel_rfl)) (fun _ _ _ _ _ => (pg_name (i := 14) sc_law.nd rfl (Or.inl rfl))) (fun _ _ _ _ _ => pts_nil) (fun _ _ _ _ _ => (pe_callTy call_strF (by rfl) T.n_str (by decide +kernel) (pa_cons (pv 14) pa_nil)))))))) (pss_cons (ps_setLc (i := 6) (te := (tM1 (rJoin K) (tC (.str " ")) (tLc (iTup K (tVar 13)) (gName 14) tYes (tCB rStrF (tCons (tVar 14) tNil)) [14]))) (own := [("_law_deed", 13)]) (by rfl) sc_law.nd rfl rfl (sw_true rfl rfl rfl (by decide +kernel)) (pi_list (pe_call G__law_deeds (hr.mono (by omega)) rfl T.g__law_deeds T.k__law_deeds T.b__law_deeds .nil pass0 (pa_cons (pv 1) (pa_cons pe_int (pa_cons pe_int pa_nil))))) (blkOk_by (own := [("_law_deed", 13)]) (by kernel_rfl)) (fun _ _ _ _ _ => (pg_name (i := 13) sc_law.nd rfl (Or.inl rfl))) (fun _ _ _ _ _ => pts_nil) (fun _ _ _ _ _ => (pe_join pe_str (pe_lc (te := (tCB rStrF (tCons (tVar 14) tNil))) (own := [("_law_part", 14)]) (by rfl) sc_law.nd (pi_tup (pv 13)) (blkOk_by (own := [("_law_part", 14)]) (by kernel_rfl)) (fun _ _ _ _ _ => (pg_name (i := 14) sc_law.nd rfl (Or.inl rfl))) (fun _ _ _ _ _ => pts_nil) (fun _ _ _ _ _ => (pe_callTy call_strF (by rfl) T.n_str (by decide +kernel) (pa_cons (pv 14) pa_nil))))))) (pss_cons (ps_set (i := 7) sc_law.nd rfl (Or.inl rfl) (pe_join pe_str (pe_op op_cat (pv 5) (pv 6)))) (pss_cons (ps_for PassesOwn.never rfl (pi_range1 (by rfl) T.n_range (pa_cons (pe_call G__law_taken (hr.mono (by omega)) rfl T.g__law_taken T.k__law_taken T.b__law_taken .nil pass0 (pa_cons (pv 1) (pa_cons pe_int pa_nil))) pa_nil)) (pg_name (i := 8) sc_law.nd rfl (Or.inl rfl)) (pss_one (ps_set (i := 7) sc_law.nd rfl (Or.inl rfl) (pe_call G__law_spoilt (hr.mono (by omega)) rfl T.g__law_spoilt T.k__law_spoilt T.b__law_spoilt .nil pass0 (pa_cons (pv 1) (pa_cons (pv 7) pa_nil)))))) (pss_one (ps_for PassesOwn.never rfl (pi_list (pe_lst (pa_cons (pv 7) (pa_cons (pe_ix ix_list (pv 3) (pe_call G__law_taken (hr.mono (by omega)) rfl T.g__law_taken T.k__law_taken T.b__law_taken .nil pass0 (pa_cons (pv 1) (pa_cons pe_int pa_nil))) (fun _ _ => rfl)) pa_nil)))) (pg_name (i := 9) sc_law.nd rfl (Or.inr rfl)) (pss_cons (ps_asg (pe_call G__law_read (hr.mono (by omega)) rfl T.g__law_read T.k__law_read T.b__law_read .nil pass0 (pa_cons (pv 9) pa_nil)) (pg_tup (by rfl) (pgs_cons (pg_name (i := 10) sc_law.nd rfl (Or.inl rfl)) (pgs_cons (pg_name (i := 11) sc_law.nd rfl (Or.inl rfl)) pgs_nil)))) (pss_one (ps_if (pt_cmpR op_notN (pv 10) pe_non (nomark _)) (pss_one (ps_if (pt_cmpR (op_neD hr.units) (LamX.pe_lamcall (T := lamTs K) (k := 6) (by rfl) T.g__law_word T.k__law_word lkW hcW bW sc__law_word rfl (.inl rfl) (word_gives T) TB rfl List.mem_cons_self (fun p hp _ => by rw [List.mem_singleton.mp hp]; rfl) (hr.mono (by omega)) (LamX.lamS_by (by rfl)) rfl (fun _ _ _ _ _ => rfl) (fun A outer s H E f c' hr => (pe_call G_read (hr.mono (by omega)) rfl T.g_read T.k_read T.b_read .nil (passes_call (takes_of rfl rfl rfl rfl) fun _ _ _ _ z => z) (pa_cons (pv 9) pa_nil)))) (pe_tup (pa_cons pe_str (pa_cons (pv 10) pa_nil))) (nomark _)) (pss_one (ps_ret pe_bl)) pss_nil)) (pss_one (ps_if (pt_not (pt_val (pe_call G__law_alike (hr.mono (by omega)) rfl T.g__law_alike T.k__law_alike T.b__law_alike .nil pass0 (pa_cons (pe_call G_read (hr.mono (by omega)) rfl T.g_read T.k_read T.b_read .nil (passes_call LamX.takes0 fun _ _ _ _ z => z) (pa_cons (pv 9) pa_nil)) (pa_cons (pv 11) pa_nil))))) (pss_one (ps_ret pe_bl)) pss_nil)))))))))))) (pss_one (ps_ret pe_bl)))))))))))))), ?_⟩
    refine ⟨_, rfl, by show 3 ≤ sizeLine; decide, fun rw hrw => ?_⟩
    have O0 := O.new (o := .lst [.ref sc, .int 0, .int 0]) hrw
    generalize upd H rw _ = H0 at O0 ⊢
    refine ⟨_, rfl, _, rfl, _, _, rfl, rfl, by decide +kernel, _, rfl, _, _, rfl, rfl, by decide +kernel, _, rfl, _, _, rfl, rfl, by decide +kernel, _, rfl, _, _, rfl, rfl, by decide +kernel, _, rfl, _, _, rfl, rfl, by decide +kernel, by show 9 ≤ sizeLine; decide, fun p1 hp1 => ?_⟩
    show gName 3 (V.ref p1) _ (upd H0 p1 (HO.lst tx1)) _
    have A1 := O0.new (o := .lst tx1) hp1
    generalize upd H0 p1 _ = H1 at A1 ⊢
    -- some more
    refine ⟨_, rfl, ⟨_, rfl⟩, _, rfl, by show 1 ≤ sizeLine; decide, fun a1 ha1 => ?_⟩
    have B1 := A1.new (o := .lst [.str hdT]) ha1
    refine ⟨a1, 3, _, rfl, rfl, B1.a0, by decide, by decide, by show 1 * 3 ≤ sizeLine; decide, fun a2 ha2 => ?_⟩
    have B2 := B1.new (o := .lst ((List.replicate 3 hdT).map V.str)) ha2
    refine ⟨_, a2, List.replicate 3 hdT, rfl, rfl, .inl (SqL.of B2.a0), by decide +kernel, ?_⟩
    refine ⟨⟨_, rfl⟩, _, rfl, by show 1 ≤ sizeLine; decide, fun a3 ha3 => ?_⟩
    have B3 := B2.new (o := .lst [.str hdT]) ha3
    refine ⟨a3, 4, _, rfl, rfl, B3.a0, by decide, by decide, by show 1 * 4 ≤ sizeLine; decide, fun a4 ha4 => ?_⟩
    have B4 := B3.new (o := .lst ((List.replicate 4 hdT).map V.str)) ha4
    refine ⟨_, a4, List.replicate 4 hdT, rfl, rfl, .inl (SqL.of B4.a0), by decide +kernel, ?_⟩
    refine ⟨_, rfl, _, _, rfl, rfl, by decide +kernel, _, rfl, _, _, rfl, rfl, by decide +kernel, by show 4 ≤ sizeLine; decide, fun a5 ha5 => ?_⟩
    have B5 := B4.new (o := .lst tx2) ha5
    refine ⟨p1, a5, tx1, tx2, rfl, rfl, B5.mem (by simp), B5.a0, by show 9 + 4 ≤ sizeLine; decide, fun p2 hp2 => ?_⟩
    have A2 := (B5.new (o := .lst (tx1 ++ tx2)) hp2).sub (L' := (p2, .lst (tx1 ++ tx2)) :: (rw, .lst [.ref sc, .int 0, .int 0]) :: (S ++ TL)) (List.Sublist.cons_cons _ (List.sublist_append_right [_, _, _, _, _, _] _))
    refine ⟨_, rfl, _, rfl, _, _, rfl, rfl, by decide +kernel, _, rfl, _, _, rfl, rfl, by decide +kernel, _, rfl, _, _, rfl, rfl, by decide +kernel, _, rfl, _, _, rfl, rfl, by decide +kernel, by show 4 ≤ sizeLine; decide, fun a6 ha6 => ?_⟩
    have B6 := A2.new (o := .lst tx3) ha6
    refine ⟨p2, a6, tx1 ++ tx2, tx3, rfl, rfl, B6.a1, B6.a0, by show 13 + 4 ≤ sizeLine; decide, fun p3 hp3 => ?_⟩
    have A3 := (B6.new (o := .lst (tx1 ++ tx2 ++ tx3)) hp3).sub (L' := (p3, .lst (tx1 ++ tx2 ++ tx3)) :: (rw, .lst [.ref sc, .int 0, .int 0]) :: (S ++ TL)) (List.Sublist.cons_cons _ (List.sublist_append_right [_, _] _))
    refine ⟨_, rfl, _, rfl, _, _, rfl, rfl, by decide +kernel, _, rfl, _, _, rfl, rfl, by decide +kernel, _, rfl, _, _, rfl, rfl, by decide +kernel, _, rfl, _, _, rfl, rfl, by decide +kernel, by show 4 ≤ sizeLine; decide, fun a7 ha7 => ?_⟩
    have B7 := A3.new (o := .lst tx4) ha7
    refine ⟨p3, a7, tx1 ++ tx2 ++ tx3, tx4, rfl, rfl, B7.a1, B7.a0, by show 17 + 4 ≤ sizeLine; decide, fun p4 hp4 => ?_⟩
    have A4 := (B7.new (o := .lst (tx1 ++ tx2 ++ tx3 ++ tx4)) hp4).sub (L' := (p4, .lst (tx1 ++ tx2 ++ tx3 ++ tx4)) :: (rw, .lst [.ref sc, .int 0, .int 0]) :: (S ++ TL)) (List.Sublist.cons_cons _ (List.sublist_append_right [_, _] _))
    refine ⟨_, rfl, by show 3 ≤ sizeLine; decide, fun a8 ha8 => ?_⟩
    have B8 := A4.new (o := .lst tx5) ha8
    refine ⟨p4, a8, tx1 ++ tx2 ++ tx3 ++ tx4, tx5, rfl, rfl, B8.a1, B8.a0, by show 21 + 3 ≤ sizeLine; decide, fun p5 hp5 => ?_⟩
    have A5 := (B8.new (o := .lst (tx1 ++ tx2 ++ tx3 ++ tx4 ++ tx5)) hp5).sub (L' := (p5, .lst (tx1 ++ tx2 ++ tx3 ++ tx4 ++ tx5)) :: (rw, .lst [.ref sc, .int 0, .int 0]) :: (S ++ TL)) (List.Sublist.cons_cons _ (List.sublist_append_right [_, _] _))
    refine ⟨_, rfl, by show 2 ≤ sizeLine; decide, fun a9 ha9 => ?_⟩
    have B9 := A5.new (o := .lst tx6) ha9
    refine ⟨p5, a9, tx1 ++ tx2 ++ tx3 ++ tx4 ++ tx5, tx6, rfl, rfl, B9.a1, B9.a0, by show 24 + 2 ≤ sizeLine; decide, fun p6 hp6 => ?_⟩
    have A6 := (B9.new (o := .lst (tx1 ++ tx2 ++ tx3 ++ tx4 ++ tx5 ++ tx6)) hp6).sub (L' := (p6, .lst (tx1 ++ tx2 ++ tx3 ++ tx4 ++ tx5 ++ tx6)) :: (rw, .lst [.ref sc, .int 0, .int 0]) :: (S ++ TL)) (List.Sublist.cons_cons _ (List.sublist_append_right [_, _] _))
    -- two hundred deeds
    refine ⟨_, rfl, ⟨_, rfl⟩, _, rfl, by show 1 ≤ sizeLine; decide, fun b1 hb1 => ?_⟩
    have C1 := A6.new (o := .lst [.str hdT]) hb1
    refine ⟨by show 1 ≤ sizeLine; decide, fun b2 hb2 => ?_⟩
    have C2 := C1.new (o := .lst [.str "look 0 0"]) hb2
    refine ⟨b2, 200, _, rfl, rfl, C2.a0, by decide, by decide, by show 1 * 200 ≤ sizeLine; decide, fun b3 hb3 => ?_⟩
    rw [show (200 : Int).toNat = 200 from rfl, rep_strs]
    have C3 := C2.new (o := .lst ((List.replicate 200 (Str.ofString "look 0 0")).map V.str)) hb3
    refine ⟨b1, b3, _, _, rfl, rfl, C3.a2, C3.a0, by rw [List.length_map, List.length_replicate]; show 1 + 200 ≤ sizeLine; decide, fun b4 hb4 => ?_⟩
    have C4 := C3.new (o := .lst (rows7.map V.str)) hb4
    refine ⟨_, b4, rows7, rfl, rfl, .inl (SqL.of C4.a0), ?_, ?_⟩
    · rw [nl_one, Nat.mul_one]
      exact Nat.le_trans rows7_ok.1 (by decide)
    refine ⟨by show 2 ≤ sizeLine; decide, fun b5 hb5 => ?_⟩
    have C5 := C4.new (o := .lst tx7) hb5
    refine ⟨p6, b5, tx1 ++ tx2 ++ tx3 ++ tx4 ++ tx5 ++ tx6, tx7, rfl, rfl, C5.mem (by simp), C5.a0, by show 26 + 2 ≤ sizeLine; decide, fun p7 hp7 => ?_⟩
    have A7 := (C5.new (o := .lst (tx1 ++ tx2 ++ tx3 ++ tx4 ++ tx5 ++ tx6 ++ tx7)) hp7).sub (L' := (p7, .lst (tx1 ++ tx2 ++ tx3 ++ tx4 ++ tx5 ++ tx6 ++ tx7)) :: (rw, .lst [.ref sc, .int 0, .int 0]) :: (S ++ TL)) (List.Sublist.cons_cons _ (List.sublist_append_right [_, _, _, _, _, _] _))
    clear C5 C4 C3 C2 C1 B9 B8 B7 B6 B5 B4 B3 B2 B1 A6 A5 A4 A3 A2 A1
    -- one more
    refine ⟨_, rfl, .inl ⟨rfl, _, SqL.of A7.a0⟩, ⟨_, rfl⟩, _, rfl, by show 1 ≤ sizeLine; decide, fun b1 hb1 => ?_⟩
    have C1 := A7.new (o := .lst [.str hdT]) hb1
    refine ⟨by show 1 ≤ sizeLine; decide, fun b2 hb2 => ?_⟩
    have C2 := C1.new (o := .lst [.str "look 0 0"]) hb2
    refine ⟨b2, 201, _, rfl, rfl, C2.a0, by decide, by decide, by show 1 * 201 ≤ sizeLine; decide, fun b3 hb3 => ?_⟩
    rw [show (201 : Int).toNat = 201 from rfl, rep_strs]
    have C3 := C2.new (o := .lst ((List.replicate 201 (Str.ofString "look 0 0")).map V.str)) hb3
    refine ⟨b1, b3, _, _, rfl, rfl, C3.a2, C3.a0, by rw [List.length_map, List.length_replicate]; show 1 + 201 ≤ sizeLine; decide, fun b4 hb4 => ?_⟩
    have C4 := C3.new (o := .lst (rows8.map V.str)) hb4
    refine ⟨_, b4, rows8, rfl, rfl, .inl (SqL.of C4.a0), ?_, ?_⟩
    · rw [nl_one, Nat.mul_one]
      exact Nat.le_trans rows8_ok.1 (by decide)
    refine ⟨p7, _, _, rfl, rfl, C4.mem (show (p7, HO.lst (tx1 ++ tx2 ++ tx3 ++ tx4 ++ tx5 ++ tx6 ++ tx7)) ∈ _ by simp), by show 28 < sizeLine; decide, ?_⟩
    have A9 := (Own.right (L' := [_, _, _, _]) C4).set (o' := .lst (tx1 ++ tx2 ++ tx3 ++ tx4 ++ tx5 ++ tx6 ++ tx7 ++ [.str (Txt.join "\n" rows8)]))
    clear C4 C3 C2 C1 A7
    refine ⟨_, rfl, .inl ⟨rfl, _, SqL.of A9.a0⟩, ⟨_, rfl⟩, _, rfl, by show 1 ≤ sizeLine; decide, fun b1 hb1 => ?_⟩
    have C1 := A9.new (o := .lst [.str hdT]) hb1
    refine ⟨by show 1 ≤ sizeLine; decide, fun b2 hb2 => ?_⟩
    have C2 := C1.new (o := .lst [.str "set 1 2 3"]) hb2
    refine ⟨b2, 200, _, rfl, rfl, C2.a0, by decide, by decide, by show 1 * 200 ≤ sizeLine; decide, fun b3 hb3 => ?_⟩
    rw [show (200 : Int).toNat = 200 from rfl, rep_strs]
    have C3 := C2.new (o := .lst ((List.replicate 200 (Str.ofString "set 1 2 3")).map V.str)) hb3
    refine ⟨b1, b3, _, _, rfl, rfl, C3.a2, C3.a0, by rw [List.length_map, List.length_replicate]; show 1 + 200 ≤ sizeLine; decide, fun b4 hb4 => ?_⟩
    have C4 := C3.new (o := .lst ((hdT :: List.replicate 200 "set 1 2 3").map V.str)) hb4
    refine ⟨_, rfl, by show 1 ≤ sizeLine; decide, fun b5 hb5 => ?_⟩
    have C5 := C4.new (o := .lst ([hdT].map V.str)) hb5
    refine ⟨b4, b5, (hdT :: List.replicate 200 "set 1 2 3").map V.str, [hdT].map V.str, rfl, rfl, C5.a1, C5.a0, by rw [List.length_map, List.length_cons, List.length_replicate]; show 201 + 1 ≤ sizeLine; decide, fun b6 hb6 => ?_⟩
    rw [← List.map_append]
    have C6 := C5.new (o := .lst (rows9.map V.str)) hb6
    refine ⟨_, b6, rows9, rfl, rfl, .inl (SqL.of C6.a0), ?_, ?_⟩
    · rw [nl_one, Nat.mul_one]
      exact Nat.le_trans rows9_ok.1 (by decide)
    refine ⟨p7, _, _, rfl, rfl, C6.mem (show (p7, HO.lst (tx1 ++ tx2 ++ tx3 ++ tx4 ++ tx5 ++ tx6 ++ tx7 ++ [.str (Txt.join "\n" rows8)])) ∈ _ by simp), by show 29 < sizeLine; decide, ?_⟩
    have A10 := (Own.right (L' := [_, _, _, _, _, _]) C6).set (o' := .lst txA)
    clear C6 C5 C4 C3 C2 C1 A9
    refine ⟨5, rfl, by decide, by decide, ?_⟩
    refine for_range (lo := 0) (n := 5) (fun i σ H' => (∃ v4 v5 v6 v7 v8 v9 v10 v11 v12 v13 v14, σ = [some (.ref sc), some (.ref rw), some (.str hdT), some (.ref p7), v4, v5, v6, v7, v8, v9, v10, v11, v12, v13, v14]) ∧ ∃ c' TL, RowC K rw S c' ∧ TabC TL (lamP K) lamQ ∧ Own H' (c' :: (S ++ ((p7, .lst txA) :: TL))))
      ⟨⟨none, none, none, none, none, none, none, none, none, none, none, rfl⟩, (rw, .lst [.ref sc, .int 0, .int 0]), TL, ⟨sc, ns, 0, 0, hsc, by decide, by decide, rfl⟩, hT, A10.perm (by walk_at "perm")⟩ ?_ ?_
    · rintro ti σ H1 hti ⟨⟨v4, v5, v6, v7, v8, v9, v10, v11, v12, v13, v14, rfl⟩, c1, TL, hc1, hT, O1⟩
      have e1 : (Str.ofString " ").length = 1 := by decide +kernel
      have e2 : (Str.ofString "room").length = 4 := by decide +kernel
      -- rows of rules
      refine ⟨_, rfl, rw, S, c1, (p7, .lst txA) :: TL, rfl, hc1, O1, fun us pr Nu c2 H2 hus hra hc2 O2 => ?_⟩
      obtain ⟨ras, hpr, hra⟩ := hra
      have hul3 := hus.l3
      have hrl := hra.len
      have hin : ∀ c ∈ Nu, c ∈ c2 :: (S ++ (Nu ++ ((p7, HO.lst txA) :: TL))) := fun c hc => by simp [hc]
      obtain ⟨L1, hL1⟩ : ∃ L1, L1 = c2 :: (S ++ (Nu ++ ((p7, HO.lst txA) :: TL))) := ⟨_, rfl⟩
      rw [← hL1] at O2 hin
      refine ⟨pr, rfl, ⟨_, SqL.of (O2.mem (hin _ hpr))⟩, fun D hD => ?_⟩
      refine lc_list (K := K) (a := pr) (xs := ras.map V.ref) (fun i H' => Own H' ((D, .lst (((us.take i).map rowR).map V.str)) :: L1)) (O2.new hD) (fun i H' _ O' => SqL.of (O'.mem (List.mem_cons_of_mem _ (hin _ hpr)))) ?_ ?_
      · rintro i y H3 hi O3
        rw [List.getElem?_map] at hi
        cases ha : ras[i]? with
        | none =>
          rw [ha] at hi
          cases hi
        | some a =>
          rw [ha] at hi
          obtain rfl : V.ref a = y := Option.some.inj hi
          obtain ⟨u, hu, hx2⟩ := hra.get ha
          have hil : i < us.length := (List.getElem?_eq_some_iff.mp hu).1
          have hpk := rul_parts (hus.ok u (List.mem_of_getElem? hu))
          refine ⟨rfl, tYes_go (iteT ⟨⟨_, rfl⟩, by show 1 ≤ sizeLine; decide, fun q1 hq1 => ?_⟩)⟩
          have O4 := O3.new (o := .lst ((["room"] : List Str).map V.str)) hq1
          refine parts_go19 (s := 12) rfl (by simp [hin _ hx2]) hpk (Nat.le_refl 5) O4 fun q2 H4 O5 => ?_
          refine ⟨q1, q2, _, _, rfl, rfl, O5.a1, O5.a0, by show 1 + 5 ≤ sizeLine; decide, fun q3 hq3 => ?_⟩
          have O6 := O5.new (o := .lst ((("room" : Str) :: u.vs.map partS : List Str).map V.str)) hq3
          have hb : ∀ x ∈ (("room" : Str) :: u.vs.map partS : List Str), x.length ≤ 7 := fun x hx => by
            rcases List.mem_cons.mp hx with e | hx
            · rw [e, e2]
              decide
            · obtain ⟨y, hy, rfl⟩ := List.mem_map.mp hx
              exact (hpk y hy).len
          have hsum := sum_le hb
          have hl6 : (("room" : Str) :: u.vs.map partS : List Str).length = 6 := rfl
          rw [hl6] at hsum
          refine ⟨_, q3, (("room" : Str) :: u.vs.map partS : List Str), rfl, rfl, .inl (SqL.of O6.a0), by rw [hl6, e1]; omega, _, O6.mem (show (D, HO.lst (((us.take i).map rowR).map V.str)) ∈ _ by simp), by rw [List.length_map, List.length_map, List.length_take]; exact size1 (by omega), ?_⟩
          rw [take_snoc hu, List.map_append, List.map_append]
          exact ((O6.perm (L' := (D, .lst (((us.take i).map rowR).map V.str)) :: (q3, .lst ((("room" : Str) :: u.vs.map partS : List Str).map V.str)) :: (q2, .lst ((u.vs.map partS).map V.str)) :: (q1, .lst ((["room"] : List Str).map V.str)) :: L1) (by walk_at "perm")).set).sub (List.Sublist.cons_cons _ (List.sublist_append_right [_, _, _] L1))
      intro H3 O3
      rw [List.length_map, hrl, List.take_length, hL1] at O3
      -- rows of deeds
      refine ⟨_, rfl, rw, S, c2, 3, 14, (D, .lst ((us.map rowR).map V.str)) :: (Nu ++ ((p7, .lst txA) :: TL)), rfl, by decide, by decide, by decide, hc2, O3.perm (by walk_at "perm"), fun ds pd Nd c3 H4 hds hdl hda hc3 O4 => ?_⟩
      obtain ⟨das, hpd, hda⟩ := hda
      have hdal := hda.len
      rw [List.length_map] at hdal
      clear hin
      obtain ⟨L2, hL2⟩ : ∃ L2, L2 = c3 :: (S ++ (Nd ++ ((D, .lst ((us.map rowR).map V.str)) :: (Nu ++ ((p7, .lst txA) :: TL))))) := ⟨_, rfl⟩
      rw [← hL2] at O4
      have hin : ∀ c ∈ Nd, c ∈ L2 := fun c hc => by rw [hL2]; simp [hc]
      refine ⟨pd, rfl, ⟨_, SqL.of (O4.mem (hin _ hpd))⟩, fun D2 hD2 => ?_⟩
      refine lc_list (K := K) (a := pd) (xs := das.map V.ref) (fun i H' => Own H' ((D2, .lst (((ds.take i).map rowD).map V.str)) :: L2)) (O4.new hD2) (fun i H' _ O' => SqL.of (O'.mem (List.mem_cons_of_mem _ (hin _ hpd)))) ?_ ?_
      · rintro i y H5 hi O5
        rw [List.getElem?_map] at hi
        cases ha : das[i]? with
        | none =>
          rw [ha] at hi
          cases hi
        | some a =>
          rw [ha] at hi
          obtain rfl : V.ref a = y := Option.some.inj hi
          obtain ⟨xs, hx1, hx2⟩ := hda.get ha
          rw [List.getElem?_map] at hx1
          cases hd : ds[i]? with
          | none =>
            rw [hd] at hx1
            cases hx1
          | some d =>
            rw [hd] at hx1
            obtain rfl : d.vs = xs := Option.some.inj hx1
            have hil : i < ds.length := (List.getElem?_eq_some_iff.mp hd).1
            have hpk := deed_parts (hds d (List.mem_of_getElem? hd))
            have hdl5 : d.vs.length ≤ 5 := by cases d with | look h p => exact (by decide : 3 ≤ 5) | set h p v => exact (by decide : 4 ≤ 5)
            refine ⟨rfl, tYes_go (iteT ⟨⟨_, rfl⟩, ?_⟩)⟩
            refine parts_go19 (s := 13) rfl (List.mem_cons_of_mem _ (hin _ hx2)) hpk hdl5 O5 fun q2 H6 O6 => ?_
            have hb : ∀ x ∈ d.vs.map partS, x.length ≤ 7 := fun x hx => by
              obtain ⟨y, hy, rfl⟩ := List.mem_map.mp hx
              exact (hpk y hy).len
            have hsum := sum_le hb
            rw [List.length_map] at hsum
            refine ⟨_, q2, d.vs.map partS, rfl, rfl, .inl (SqL.of O6.a0), by rw [List.length_map, e1]; omega, _, O6.a1, by rw [List.length_map, List.length_map, List.length_take]; exact size1 (by omega), ?_⟩
            rw [take_snoc hd, List.map_append, List.map_append]
            exact ((O6.perm (L' := (D2, .lst (((ds.take i).map rowD).map V.str)) :: (q2, .lst ((d.vs.map partS).map V.str)) :: L2) (by walk_at "perm")).set).sub (List.Sublist.cons_cons _ (List.sublist_cons_self _ _))
      intro H5 O5
      rw [List.length_map, hdal, List.take_length, hL2] at O5
      -- the text
      obtain ⟨htl, htt⟩ := text_len14 hus.ok hul3 hds hdl
      refine ⟨⟨_, rfl⟩, _, rfl, _, rfl, D, D2, (us.map rowR).map V.str, (ds.map rowD).map V.str, rfl, rfl, O5.mem (by simp), O5.a0, by simp only [List.length_map]; exact Nat.le_of_lt (size1 (by omega)), fun D3 hD3 => ?_⟩
      rw [← List.map_append]
      have O6 := O5.new (o := .lst ((us.map rowR ++ ds.map rowD).map V.str)) hD3
      refine ⟨_, D3, us.map rowR ++ ds.map rowD, rfl, rfl, .inl (SqL.of O6.a0), ?_, ?_⟩
      · rw [nl_one, Nat.mul_one]
        show tot _ ≤ _
        omega
      have O7 := Own.right (L' := (D3, .lst ((us.map rowR ++ ds.map rowD).map V.str)) :: (D2, .lst ((ds.map rowD).map V.str)) :: (Nd ++ ((D, .lst ((us.map rowR).map V.str)) :: Nu))) (L := c3 :: (S ++ ((p7, .lst txA) :: TL))) (O6.perm (by walk_at "perm"))
      have htx : Sgn (textOf us ds) := text_sg hds
      clear O6 O5 O4 O3 O2 O1
      -- spoilt
      refine ⟨_, rfl, rw, S, c3, 4, (p7, .lst txA) :: TL, rfl, hc3, by decide, O7, fun vm c4 H6 hm0 hm4 hc4 O8 => ?_⟩
      obtain ⟨m, rfl⟩ : ∃ m : Nat, vm = (m : Int) := ⟨vm.toNat, by omega⟩
      refine ⟨_, rfl, by omega, by omega, ?_⟩
      rw [Int.toNat_natCast]
      refine for_range (lo := 0) (n := m) (fun i σ H' => ∃ (v8 : Option V) (x : Str) (c' : Cell), σ = [some (.ref sc), some (.ref rw), some (.str hdT), some (.ref p7), some (.int (0 + (ti : Int))), some (.ref D), some (.ref D2), some (.str x), v8, v9, v10, v11, v12, v13, v14] ∧ x.length ≤ bnd i ∧ Sgn x ∧ RowC K rw S c' ∧ Own H' (c' :: (S ++ ((p7, .lst txA) :: TL))))
        ⟨_, _, c4, rfl, htl, htx, hc4, O8⟩ ?_ ?_
      · rintro i σ H7 hi ⟨v8, x, c5, rfl, hxl, hxs, hc5, O9⟩
        have hb : bnd i ≤ 20000 := by
          have : i = 0 ∨ i = 1 ∨ i = 2 := by omega
          rcases this with e | e | e <;> subst e <;> decide
        refine ⟨_, rfl, _, rfl, rw, S, c5, x, (p7, .lst txA) :: TL, rfl, hc5, by omega, hxs, O9, fun y c6 H8 hyl hys hc6 O10 => ?_⟩
        exact ⟨_, y, c6, rfl, by show y.length ≤ 4 * bnd i + 10; omega, hys, hc6, O10⟩
      rintro σ H7 ⟨v8, x, c5, rfl, hxl, hxs, hc5, O9⟩
      have hb : bnd m ≤ 60000 := by
        have : m = 0 ∨ m = 1 ∨ m = 2 ∨ m = 3 := by omega
        rcases this with e | e | e | e <;> subst e <;> decide
      clear O8 O7
      -- both texts
      refine ⟨_, rfl, _, rfl, _, rfl, rw, S, c5, 30, (p7, .lst txA) :: TL, rfl, hc5, by decide, O9, fun vo c6 H8 ho0 ho1 hc6 O10 => ?_⟩
      obtain ⟨xo, hxo, hxol, hxos⟩ := txA_pick ho0 ho1
      refine ⟨p7, _, _, .str xo, rfl, rfl, SqL.of (O10.mem (by simp)), hxo, by show 2 ≤ sizeLine; decide, fun pz hpz => ?_⟩
      have O11 := O10.new (o := .lst [.str x, .str xo]) hpz
      refine ⟨pz, rfl, ⟨_, SqL.of O11.a0⟩, ?_⟩
      obtain ⟨L0, hL0⟩ : ∃ L0, L0 = c6 :: (S ++ [(pz, HO.lst [.str x, .str xo]), (p7, .lst txA)]) := ⟨_, rfl⟩
      have hN0 : NT L0 := by
        rw [hL0]
        exact NT.cons hc6.nt (NT.app hS (NT.cons rfl (NT.cons rfl NT.nil)))
      have hz0 : (pz, HO.lst [.str x, .str xo]) ∈ L0 := by rw [hL0]; simp
      refine for_list (K := K) (a := pz) (xs := [.str x, .str xo]) (fun i σ H' => (∃ v9 v10 v11, σ = [some (.ref sc), some (.ref rw), some (.str hdT), some (.ref p7), some (.int (0 + (ti : Int))), some (.ref D), some (.ref D2), some (.str x), v8, v9, v10, v11, v12, v13, v14]) ∧ ∃ TL, TabC TL (lamP K) lamQ ∧ Own H' (L0 ++ TL))
        ⟨⟨_, _, _, rfl⟩, TL, hT, O11.perm (by rw [hL0]; walk_at "perm")⟩ (fun i σ H' _ ⟨_, TL, _, O'⟩ => SqL.of (O'.mem (List.mem_append_left _ hz0))) ?_ ?_
      · rintro i y σ H9 hi ⟨⟨v9, v10, v11, rfl⟩, TL, hT, P0⟩
        obtain ⟨z, rfl, hzl, hzs⟩ : ∃ z : Str, y = .str z ∧ z.length ≤ 80000 ∧ Sgn z := by
          have : y ∈ [V.str x, .str xo] := List.mem_of_getElem? hi
          simp only [List.mem_cons, List.not_mem_nil, or_false] at this
          rcases this with e | e
          · exact ⟨x, e, by omega, hxs⟩
          · exact ⟨xo, e, by omega, hxos⟩
        refine ⟨_, rfl, z, L0 ++ TL, rfl, hzl, hzs, P0, fun j hj p H10 P1 => ?_, fun us2 ds2 hj hu2 hd2 p p2 pr2 pd2 ras2 das2 N2 H10 hra2 hda2 P1 => ?_⟩
        · refine ⟨p, _, rfl, SqT.of P1.a0, rfl, _, _, rfl, _, _, rfl, rfl, ?_⟩
          refine ⟨_, rfl, rfl, _, rfl, iteTo rfl ?_⟩
          refine lam_go (L := (p, .tup [.int (j : Nat), .non]) :: L0) P1 (NT.cons rfl hN0) hT fun HE TL2 hT2 V7 => ?_
          refine ⟨_, rfl, z, _, rfl, hzl, hzs, V7, fun j' hj' d HF V8 => ?_, fun us2 ds2 h' => (by rw [hj] at h'; cases h')⟩
          obtain rfl : j = j' := by
            rw [hj] at hj'
            cases hj'
            rfl
          refine ⟨9, _, _, _, rfl, rfl, rfl, V8, .inr ⟨d, "row", _, rfl, rfl, List.mem_cons_self, fun t1 HG V9 => ?_⟩⟩
          refine ⟨_, rfl, by show 2 ≤ sizeLine; decide, fun t2 ht2 => ?_⟩
          have V10 := V9.new (o := .tup [.str "text", .int (j : Nat)]) ht2
          have hsh : SeqAt.shaped (.tuple [.str "text", .int (j : Nat)]) = true := shapedWI (by decide +kernel)
          exact ⟨_, _, .tup (SqT.of V10.a1) (.cons (.str _) (.cons (.int _) .nil)), .tup (SqT.of V10.a0) (.cons (.str _) (.cons (.int _) .nil)), hsh, hsh, false, by rw [eqv_self _ hsh], iteF ⟨⟨_, _, _, rfl⟩, TL2, hT2, V10.tail.tail.tail.tail⟩⟩
        · refine ⟨p, _, rfl, SqT.of P1.a0, rfl, _, _, rfl, _, _, rfl, rfl, ?_⟩
          refine ⟨_, rfl, rfl, _, rfl, iteFo rfl ?_⟩
          refine ⟨_, rfl, z, _, rfl, hzl, hzs, P1, fun j' hj' => (by rw [hj] at hj'; cases hj'), fun us3 ds3 h' _ hul4 _ hdl4 pf fr fd fras fdas Nf H11 hfr hfd P2 => ?_⟩
          rw [hj] at h'
          obtain ⟨rfl, rfl⟩ : us2 = us3 ∧ ds2 = ds3 := by
            cases h'
            exact ⟨rfl, rfl⟩
          obtain ⟨LA, hLA⟩ : ∃ LA, LA = (pf, HO.tup [.ref fr, .ref fd]) :: (fr, .lst (fras.map V.ref)) :: (fd, .lst (fdas.map V.ref)) :: (Nf ++ ((p, .tup [.non, .ref p2]) :: (p2, .tup [.ref pr2, .ref pd2]) :: (pr2, .lst (ras2.map V.ref)) :: (pd2, .lst (das2.map V.ref)) :: (N2 ++ (L0 ++ TL)))) := ⟨_, rfl⟩
          rw [← hLA] at P2
          have m1 : (pf, HO.tup [.ref fr, .ref fd]) ∈ LA := by rw [hLA]; simp
          have m2 : (fr, HO.lst (fras.map V.ref)) ∈ LA := by rw [hLA]; simp
          have m3 : (fd, HO.lst (fdas.map V.ref)) ∈ LA := by rw [hLA]; simp
          have m4 : (p2, HO.tup [.ref pr2, .ref pd2]) ∈ LA := by rw [hLA]; simp
          have m5 : (pr2, HO.lst (ras2.map V.ref)) ∈ LA := by rw [hLA]; simp
          have m6 : (pd2, HO.lst (das2.map V.ref)) ∈ LA := by rw [hLA]; simp
          have n1 : ∀ c ∈ Nf, c ∈ LA := fun c hc => by rw [hLA]; simp [hc]
          have n2 : ∀ c ∈ N2, c ∈ LA := fun c hc => by rw [hLA]; simp [hc]
          refine ⟨_, rfl, .ref pf, .ref p2, .tuple [.list (us2.map ruD), .list (ds2.map dD)], LA, rfl, .tup m1 (.cons (.lst m2 ((rules_dp hfr).mono n1)) (.cons (.lst m3 ((deeds_dp hfd).mono n1)) .nil)), .tup m4 (.cons (.lst m5 ((rules_dp hra2).mono n2)) (.cons (.lst m6 ((deeds_dp hda2).mono n2)) .nil)), alD_both hul4 hdl4, P2, fun H12 P3 => ⟨_, rfl, iteF ?_⟩⟩
          rw [hLA] at P3
          exact ⟨⟨_, _, _, rfl⟩, TL, hT, Own.right (L' := N2) (Own.right (L' := [_, _, _, _]) (Own.right (L' := Nf) (Own.right (L' := [_, _, _]) P3)))⟩
      · rintro σ H9 ⟨⟨v9, v10, v11, rfl⟩, TL, hT, P0⟩
        rw [hL0] at P0
        exact ⟨⟨_, _, _, _, _, _, _, _, _, _, _, rfl⟩, c6, TL, hc6, hT, (P0.perm (L' := (pz, .lst [.str x, .str xo]) :: (c6 :: (S ++ ((p7, .lst txA) :: TL)))) (by walk_at "perm")).tail⟩
    · rintro σ H1 ⟨⟨v4, v5, v6, v7, v8, v9, v10, v11, v12, v13, v14, rfl⟩, c1, TL, hc1, hT, O1⟩
      exact kq H1
end
-- EndX
def fa : List He.Fa := [.glo "is_number", .glo "is_rule", .glo "is_deed", .glo "number_of", .glo "rule_of", .glo "deed_of", .glo "read", .glo "_law_taken", .glo "_law_alike", .glo "_law_word", .glo "_law_rule", .glo "_law_rules", .glo "_law_place", .glo "_law_deeds", .glo "_law_number", .glo "_law_line", .glo "_law_read", .glo "_law_spoilt", .glo "law", .glo "WayError", .glo "BadRule", .glo "BadHands", .glo "BadHand", .glo "BadPlace", .glo "BadNumber", .glo "BadDeed", .glo "BadRoom", .glo "BadWays", .glo "BadLeavings", .glo "BadText", .int "CELLS" 64, .int "MOST_NUMBER" 999, .int "MOST_WAYS" 4, .int "MOST_RULES" 3, .int "MOST_HANDS" 3, .int "MOST_DEEDS" 200, .glo "SETS", .glo "WRITES", .glo "TAKES", .glo "LEAVES", .str "LOOK" "look", .str "SET" "set", .str "FIGURES" "0123456789", .int "MOST_FIGURES" 3, .str "ROOM" "room", .free "ValueError", .free "len", .free "isinstance", .free "range", .free "list", .free "tuple", .free "enumerate", .free "int", .free "bool", .free "set", .free "str", .free "zip", .meth "BadRule" "__init__", .noat "BadRule" "number", .exc "BadHands", .exc "BadHand", .exc "BadPlace", .exc "BadNumber", .meth "BadDeed" "__init__", .noat "BadDeed" "number", .exc "BadRoom", .exc "BadWays", .meth "BadLeavings" "__init__", .noat "BadLeavings" "number", .meth "BadText" "__init__", .noat "BadText" "row"]
def d_BadRule___init__ : He.DefD := ⟨("BadRule", some "__init__"), "__init__", "BadRule.__init__", defArgs s_BadRule___init__, defBody s_BadRule___init__, defScope s_BadRule___init__, [], []⟩
def d_BadDeed___init__ : He.DefD := ⟨("BadDeed", some "__init__"), "__init__", "BadDeed.__init__", defArgs s_BadDeed___init__, defBody s_BadDeed___init__, defScope s_BadDeed___init__, [], []⟩
def d_BadLeavings___init__ : He.DefD := ⟨("BadLeavings", some "__init__"), "__init__", "BadLeavings.__init__", defArgs s_BadLeavings___init__, defBody s_BadLeavings___init__, defScope s_BadLeavings___init__, [], []⟩
def d_BadText___init__ : He.DefD := ⟨("BadText", some "__init__"), "__init__", "BadText.__init__", defArgs s_BadText___init__, defBody s_BadText___init__, defScope s_BadText___init__, [], []⟩
def d_is_number : He.DefD := ⟨("is_number", none), "is_number", "is_number", defArgs s_is_number, defBody s_is_number, defScope s_is_number, [], []⟩
def d_is_rule : He.DefD := ⟨("is_rule", none), "is_rule", "is_rule", defArgs s_is_rule, defBody s_is_rule, defScope s_is_rule, [], []⟩
def d_is_deed : He.DefD := ⟨("is_deed", none), "is_deed", "is_deed", defArgs s_is_deed, defBody s_is_deed, defScope s_is_deed, [], []⟩
def d_number_of : He.DefD := ⟨("number_of", none), "number_of", "number_of", defArgs s_number_of, defBody s_number_of, defScope s_number_of, [], []⟩
def d_rule_of : He.DefD := ⟨("rule_of", none), "rule_of", "rule_of", defArgs s_rule_of, defBody s_rule_of, defScope s_rule_of, [], []⟩
def d_deed_of : He.DefD := ⟨("deed_of", none), "deed_of", "deed_of", defArgs s_deed_of, defBody s_deed_of, defScope s_deed_of, [], []⟩
def d_read : He.DefD := ⟨("read", none), "read", "read", defArgs s_read, defBody s_read, defScope s_read, [], []⟩
def d__law_taken : He.DefD := ⟨("_law_taken", none), "_law_taken", "_law_taken", defArgs s__law_taken, defBody s__law_taken, defScope s__law_taken, [], []⟩
def d__law_alike : He.DefD := ⟨("_law_alike", none), "_law_alike", "_law_alike", defArgs s__law_alike, defBody s__law_alike, defScope s__law_alike, [], []⟩
def d__law_word : He.DefD := ⟨("_law_word", none), "_law_word", "_law_word", defArgs s__law_word, defBody s__law_word, defScope s__law_word, [], []⟩
def d__law_rule : He.DefD := ⟨("_law_rule", none), "_law_rule", "_law_rule", defArgs s__law_rule, defBody s__law_rule, defScope s__law_rule, [], []⟩
def d__law_rules : He.DefD := ⟨("_law_rules", none), "_law_rules", "_law_rules", defArgs s__law_rules, defBody s__law_rules, defScope s__law_rules, [], []⟩
def d__law_place : He.DefD := ⟨("_law_place", none), "_law_place", "_law_place", defArgs s__law_place, defBody s__law_place, defScope s__law_place, [], []⟩
def d__law_deeds : He.DefD := ⟨("_law_deeds", none), "_law_deeds", "_law_deeds", defArgs s__law_deeds, defBody s__law_deeds, defScope s__law_deeds, [], []⟩
def d__law_number : He.DefD := ⟨("_law_number", none), "_law_number", "_law_number", defArgs s__law_number, defBody s__law_number, defScope s__law_number, [], []⟩
def d__law_line : He.DefD := ⟨("_law_line", none), "_law_line", "_law_line", defArgs s__law_line, defBody s__law_line, defScope s__law_line, [], []⟩
def d__law_read : He.DefD := ⟨("_law_read", none), "_law_read", "_law_read", defArgs s__law_read, defBody s__law_read, defScope s__law_read, [], []⟩
def d__law_spoilt : He.DefD := ⟨("_law_spoilt", none), "_law_spoilt", "_law_spoilt", defArgs s__law_spoilt, defBody s__law_spoilt, defScope s__law_spoilt, [], []⟩
def d_law : He.DefD := ⟨("law", none), "law", "law", defArgs s_law, defBody s_law, defScope s_law, [], []⟩
def fn : List He.DefD := [d_BadRule___init__, d_BadDeed___init__, d_BadLeavings___init__, d_BadText___init__, d_is_number, d_is_rule, d_is_deed, d_number_of, d_rule_of, d_deed_of, d_read, d__law_taken, d__law_alike, d__law_word, d__law_rule, d__law_rules, d__law_place, d__law_deeds, d__law_number, d__law_line, d__law_read, d__law_spoilt, d_law]
def ex (K : PySem.W.Frag) : Bool := (He.tupB K "SETS" [.int 1, .int 2, .int 4] && (He.tupB K "WRITES" [.str "through", .str "back"] && (He.tupB K "TAKES" [.str "in", .str "by"] && (He.tupB K "LEAVES" [.str "first", .str "late"] && (excTB K bads && (oexB K (He.ga K "BadRule") && (oexB K (He.ga K "BadDeed") && (oexB K (He.ga K "BadLeavings") && (oexB K (He.ga K "BadText") && true)))))))))
def tf : List He.Defn := [("law", none)]
abbrev R : PySem.W.OpenRow := PySem.W.OpenLaw.row PySem.Challenge.rw_writeways_k19_texts_refused
abbrev hk : PySem.W.Hook := hookY 5 fa fn tf ex
def ob (s : PySem.W.SharedT) : He.AlX := obsY 5 fa fn tf ex (HandSHeadRun.getT s)
theorem ob_eq (s : PySem.W.SharedT) : ob s = hk.obs s.abs := obsY_eq (HandSHeadRun.getT_eq s)
def loose0 : List PySem.Str := ["WayError", "BadRule", "BadHands", "BadHand", "BadPlace", "BadNumber", "BadDeed", "BadRoom", "BadWays", "BadLeavings", "BadText", "CELLS", "MOST_NUMBER", "MOST_WAYS", "MOST_RULES", "MOST_HANDS", "MOST_DEEDS", "SETS", "WRITES", "TAKES", "LEAVES", "LOOK", "SET", "is_number", "is_rule", "is_deed", "FIGURES", "MOST_FIGURES", "ROOM", "number_of"]
def loose1 : List PySem.Str := ["rule_of", "deed_of", "read", "_law_taken", "_law_alike", "_law_word", "_law_rule", "_law_rules", "_law_place", "_law_deeds", "_law_number", "_law_line", "_law_read", "_law_spoilt"]
def loose : List PySem.Str := loose0 ++ loose1
set_option maxHeartbeats 0 in
theorem run (w : World) : HandSHeadRun.RunEq R (PySem.W.view R.prog [48]) hk ob 6000 loose w := by
  intro os
  kernel_rfl
theorem txt_of {w : World} {K : PySem.W.Frag} {h hh : Heap} {mg : Str → Option Value} (X : K.In h) (G : h.Ns mainGlobals mg) (c0 : He.SaysX fa fn [] tf ex w hh K) : Nonempty (Txt K mg) := by
  have c := c0.t.d
  have e0 : ex K = true := c0.more
  obtain ⟨x0, e1⟩ := He.ba (show (He.tupB K "SETS" [.int 1, .int 2, .int 4] && _) = true from e0)
  obtain ⟨x1, e2⟩ := He.ba (show (He.tupB K "WRITES" [.str "through", .str "back"] && _) = true from e1)
  obtain ⟨x2, e3⟩ := He.ba (show (He.tupB K "TAKES" [.str "in", .str "by"] && _) = true from e2)
  obtain ⟨x3, e4⟩ := He.ba (show (He.tupB K "LEAVES" [.str "first", .str "late"] && _) = true from e3)
  obtain ⟨x4, e5⟩ := He.ba (show (excTB K bads && _) = true from e4)
  obtain ⟨x5, e6⟩ := He.ba (show (oexB K (He.ga K "BadRule") && _) = true from e5)
  obtain ⟨x6, e7⟩ := He.ba (show (oexB K (He.ga K "BadDeed") && _) = true from e6)
  obtain ⟨x7, e8⟩ := He.ba (show (oexB K (He.ga K "BadLeavings") && _) = true from e7)
  obtain ⟨x8, e9⟩ := He.ba (show (oexB K (He.ga K "BadText") && _) = true from e8)
  obtain ⟨fd0, F0⟩ := c.def_ 0 (d := d_BadRule___init__) rfl
  obtain ⟨fd1, F1⟩ := c.def_ 1 (d := d_BadDeed___init__) rfl
  obtain ⟨fd2, F2⟩ := c.def_ 2 (d := d_BadLeavings___init__) rfl
  obtain ⟨fd3, F3⟩ := c.def_ 3 (d := d_BadText___init__) rfl
  obtain ⟨fd4, F4⟩ := c.def_ 4 (d := d_is_number) rfl
  obtain ⟨fd5, F5⟩ := c.def_ 5 (d := d_is_rule) rfl
  obtain ⟨fd6, F6⟩ := c.def_ 6 (d := d_is_deed) rfl
  obtain ⟨fd7, F7⟩ := c.def_ 7 (d := d_number_of) rfl
  obtain ⟨fd8, F8⟩ := c.def_ 8 (d := d_rule_of) rfl
  obtain ⟨fd9, F9⟩ := c.def_ 9 (d := d_deed_of) rfl
  obtain ⟨fd10, F10⟩ := c.def_ 10 (d := d_read) rfl
  obtain ⟨fd11, F11⟩ := c.def_ 11 (d := d__law_taken) rfl
  obtain ⟨fd12, F12⟩ := c.def_ 12 (d := d__law_alike) rfl
  obtain ⟨fd13, F13⟩ := c.def_ 13 (d := d__law_word) rfl
  obtain ⟨fd14, F14⟩ := c.def_ 14 (d := d__law_rule) rfl
  obtain ⟨fd15, F15⟩ := c.def_ 15 (d := d__law_rules) rfl
  obtain ⟨fd16, F16⟩ := c.def_ 16 (d := d__law_place) rfl
  obtain ⟨fd17, F17⟩ := c.def_ 17 (d := d__law_deeds) rfl
  obtain ⟨fd18, F18⟩ := c.def_ 18 (d := d__law_number) rfl
  obtain ⟨fd19, F19⟩ := c.def_ 19 (d := d__law_line) rfl
  obtain ⟨fd20, F20⟩ := c.def_ 20 (d := d__law_read) rfl
  obtain ⟨fd21, F21⟩ := c.def_ 21 (d := d__law_spoilt) rfl
  obtain ⟨fd22, F22⟩ := c.def_ 22 (d := d_law) rfl
  exact ⟨{
    g_is_number := He.glo_ok X G (c.fact 0 (f := .glo "is_number") rfl)
    g_is_rule := He.glo_ok X G (c.fact 1 (f := .glo "is_rule") rfl)
    g_is_deed := He.glo_ok X G (c.fact 2 (f := .glo "is_deed") rfl)
    g_number_of := He.glo_ok X G (c.fact 3 (f := .glo "number_of") rfl)
    g_rule_of := He.glo_ok X G (c.fact 4 (f := .glo "rule_of") rfl)
    g_deed_of := He.glo_ok X G (c.fact 5 (f := .glo "deed_of") rfl)
    g_read := He.glo_ok X G (c.fact 6 (f := .glo "read") rfl)
    g__law_taken := He.glo_ok X G (c.fact 7 (f := .glo "_law_taken") rfl)
    g__law_alike := He.glo_ok X G (c.fact 8 (f := .glo "_law_alike") rfl)
    g__law_word := He.glo_ok X G (c.fact 9 (f := .glo "_law_word") rfl)
    g__law_rule := He.glo_ok X G (c.fact 10 (f := .glo "_law_rule") rfl)
    g__law_rules := He.glo_ok X G (c.fact 11 (f := .glo "_law_rules") rfl)
    g__law_place := He.glo_ok X G (c.fact 12 (f := .glo "_law_place") rfl)
    g__law_deeds := He.glo_ok X G (c.fact 13 (f := .glo "_law_deeds") rfl)
    g__law_number := He.glo_ok X G (c.fact 14 (f := .glo "_law_number") rfl)
    g__law_line := He.glo_ok X G (c.fact 15 (f := .glo "_law_line") rfl)
    g__law_read := He.glo_ok X G (c.fact 16 (f := .glo "_law_read") rfl)
    g__law_spoilt := He.glo_ok X G (c.fact 17 (f := .glo "_law_spoilt") rfl)
    g_law := He.glo_ok X G (c.fact 18 (f := .glo "law") rfl)
    g_WayError := He.glo_ok X G (c.fact 19 (f := .glo "WayError") rfl)
    g_BadRule := He.glo_ok X G (c.fact 20 (f := .glo "BadRule") rfl)
    g_BadHands := He.glo_ok X G (c.fact 21 (f := .glo "BadHands") rfl)
    g_BadHand := He.glo_ok X G (c.fact 22 (f := .glo "BadHand") rfl)
    g_BadPlace := He.glo_ok X G (c.fact 23 (f := .glo "BadPlace") rfl)
    g_BadNumber := He.glo_ok X G (c.fact 24 (f := .glo "BadNumber") rfl)
    g_BadDeed := He.glo_ok X G (c.fact 25 (f := .glo "BadDeed") rfl)
    g_BadRoom := He.glo_ok X G (c.fact 26 (f := .glo "BadRoom") rfl)
    g_BadWays := He.glo_ok X G (c.fact 27 (f := .glo "BadWays") rfl)
    g_BadLeavings := He.glo_ok X G (c.fact 28 (f := .glo "BadLeavings") rfl)
    g_BadText := He.glo_ok X G (c.fact 29 (f := .glo "BadText") rfl)
    g_CELLS := He.int_ok X G (c.fact 30 (f := .int "CELLS" 64) rfl)
    g_MOST_NUMBER := He.int_ok X G (c.fact 31 (f := .int "MOST_NUMBER" 999) rfl)
    g_MOST_WAYS := He.int_ok X G (c.fact 32 (f := .int "MOST_WAYS" 4) rfl)
    g_MOST_RULES := He.int_ok X G (c.fact 33 (f := .int "MOST_RULES" 3) rfl)
    g_MOST_HANDS := He.int_ok X G (c.fact 34 (f := .int "MOST_HANDS" 3) rfl)
    g_MOST_DEEDS := He.int_ok X G (c.fact 35 (f := .int "MOST_DEEDS" 200) rfl)
    g_SETS := He.glo_ok X G (c.fact 36 (f := .glo "SETS") rfl)
    g_WRITES := He.glo_ok X G (c.fact 37 (f := .glo "WRITES") rfl)
    g_TAKES := He.glo_ok X G (c.fact 38 (f := .glo "TAKES") rfl)
    g_LEAVES := He.glo_ok X G (c.fact 39 (f := .glo "LEAVES") rfl)
    g_LOOK := He.str_ok X G (c.fact 40 (f := .str "LOOK" "look") rfl)
    g_SET := He.str_ok X G (c.fact 41 (f := .str "SET" "set") rfl)
    g_FIGURES := He.str_ok X G (c.fact 42 (f := .str "FIGURES" "0123456789") rfl)
    g_MOST_FIGURES := He.int_ok X G (c.fact 43 (f := .int "MOST_FIGURES" 3) rfl)
    g_ROOM := He.str_ok X G (c.fact 44 (f := .str "ROOM" "room") rfl)
    n_ValueError := He.free_ok X G (c.fact 45 (f := .free "ValueError") rfl)
    n_len := He.free_ok X G (c.fact 46 (f := .free "len") rfl)
    n_isinstance := He.free_ok X G (c.fact 47 (f := .free "isinstance") rfl)
    n_range := He.free_ok X G (c.fact 48 (f := .free "range") rfl)
    n_list := He.free_ok X G (c.fact 49 (f := .free "list") rfl)
    n_tuple := He.free_ok X G (c.fact 50 (f := .free "tuple") rfl)
    n_enumerate := He.free_ok X G (c.fact 51 (f := .free "enumerate") rfl)
    n_int := He.free_ok X G (c.fact 52 (f := .free "int") rfl)
    n_bool := He.free_ok X G (c.fact 53 (f := .free "bool") rfl)
    n_set := He.free_ok X G (c.fact 54 (f := .free "set") rfl)
    n_str := He.free_ok X G (c.fact 55 (f := .free "str") rfl)
    n_zip := He.free_ok X G (c.fact 56 (f := .free "zip") rfl)
    m_BadRule___init__ := He.meth_ok (c.fact 57 (f := .meth "BadRule" "__init__") rfl)
    na_BadRule_number := He.noat_ok (c.fact 58 (f := .noat "BadRule" "number") rfl)
    xe_BadHands := He.exc_ok (c.fact 59 (f := .exc "BadHands") rfl)
    xe_BadHand := He.exc_ok (c.fact 60 (f := .exc "BadHand") rfl)
    xe_BadPlace := He.exc_ok (c.fact 61 (f := .exc "BadPlace") rfl)
    xe_BadNumber := He.exc_ok (c.fact 62 (f := .exc "BadNumber") rfl)
    m_BadDeed___init__ := He.meth_ok (c.fact 63 (f := .meth "BadDeed" "__init__") rfl)
    na_BadDeed_number := He.noat_ok (c.fact 64 (f := .noat "BadDeed" "number") rfl)
    xe_BadRoom := He.exc_ok (c.fact 65 (f := .exc "BadRoom") rfl)
    xe_BadWays := He.exc_ok (c.fact 66 (f := .exc "BadWays") rfl)
    m_BadLeavings___init__ := He.meth_ok (c.fact 67 (f := .meth "BadLeavings" "__init__") rfl)
    na_BadLeavings_number := He.noat_ok (c.fact 68 (f := .noat "BadLeavings" "number") rfl)
    m_BadText___init__ := He.meth_ok (c.fact 69 (f := .meth "BadText" "__init__") rfl)
    na_BadText_row := He.noat_ok (c.fact 70 (f := .noat "BadText" "row") rfl)
    t_SETS := fun H => He.tupB_ok x0 H
    t_WRITES := fun H => He.tupB_ok x1 H
    t_TAKES := fun H => He.tupB_ok x2 H
    t_LEAVES := fun H => He.tupB_ok x3 H
    xt := excTB_ok x4
    ox_BadRule := x5
    ox_BadDeed := x6
    ox_BadLeavings := x7
    ox_BadText := x8
    fd_BadRule___init__ := fd0
    F_BadRule___init__ := F0
    b_BadRule___init__ := F0.bindsN fun _ _ _ _ _ _ us hl => match us, hl with | [_, _], _ => rfl
    k_BadRule___init__ := F0.kp
    fd_BadDeed___init__ := fd1
    F_BadDeed___init__ := F1
    b_BadDeed___init__ := F1.bindsN fun _ _ _ _ _ _ us hl => match us, hl with | [_, _], _ => rfl
    k_BadDeed___init__ := F1.kp
    fd_BadLeavings___init__ := fd2
    F_BadLeavings___init__ := F2
    b_BadLeavings___init__ := F2.bindsN fun _ _ _ _ _ _ us hl => match us, hl with | [_, _], _ => rfl
    k_BadLeavings___init__ := F2.kp
    fd_BadText___init__ := fd3
    F_BadText___init__ := F3
    b_BadText___init__ := F3.bindsN fun _ _ _ _ _ _ us hl => match us, hl with | [_, _], _ => rfl
    k_BadText___init__ := F3.kp
    fd_is_number := fd4
    F_is_number := F4
    b_is_number := F4.bindsN fun _ _ _ _ _ _ us hl => match us, hl with | [_, _, _], _ => rfl
    k_is_number := F4.kp
    fd_is_rule := fd5
    F_is_rule := F5
    b_is_rule := F5.bindsN fun _ _ _ _ _ _ us hl => match us, hl with | [_], _ => rfl
    k_is_rule := F5.kp
    fd_is_deed := fd6
    F_is_deed := F6
    b_is_deed := F6.bindsN fun _ _ _ _ _ _ us hl => match us, hl with | [_, _], _ => rfl
    k_is_deed := F6.kp
    fd_number_of := fd7
    F_number_of := F7
    b_number_of := F7.bindsN fun _ _ _ _ _ _ us hl => match us, hl with | [_], _ => rfl
    k_number_of := F7.kp
    fd_rule_of := fd8
    F_rule_of := F8
    b_rule_of := F8.bindsN fun _ _ _ _ _ _ us hl => match us, hl with | [_], _ => rfl
    k_rule_of := F8.kp
    fd_deed_of := fd9
    F_deed_of := F9
    b_deed_of := F9.bindsN fun _ _ _ _ _ _ us hl => match us, hl with | [_], _ => rfl
    k_deed_of := F9.kp
    fd_read := fd10
    F_read := F10
    b_read := F10.bindsN fun _ _ _ _ _ _ us hl => match us, hl with | [_], _ => rfl
    k_read := F10.kp
    fd__law_taken := fd11
    F__law_taken := F11
    b__law_taken := F11.bindsN fun _ _ _ _ _ _ us hl => match us, hl with | [_, _], _ => rfl
    k__law_taken := F11.kp
    fd__law_alike := fd12
    F__law_alike := F12
    b__law_alike := F12.bindsN fun _ _ _ _ _ _ us hl => match us, hl with | [_, _], _ => rfl
    k__law_alike := F12.kp
    fd__law_word := fd13
    F__law_word := F13
    b__law_word := F13.bindsN fun _ _ _ _ _ _ us hl => match us, hl with | [_], _ => rfl
    k__law_word := F13.kp
    fd__law_rule := fd14
    F__law_rule := F14
    b__law_rule := F14.bindsN fun _ _ _ _ _ _ us hl => match us, hl with | [_], _ => rfl
    k__law_rule := F14.kp
    fd__law_rules := fd15
    F__law_rules := F15
    b__law_rules := F15.bindsN fun _ _ _ _ _ _ us hl => match us, hl with | [_], _ => rfl
    k__law_rules := F15.kp
    fd__law_place := fd16
    F__law_place := F16
    b__law_place := F16.bindsN fun _ _ _ _ _ _ us hl => match us, hl with | [_, _], _ => rfl
    k__law_place := F16.kp
    fd__law_deeds := fd17
    F__law_deeds := F17
    b__law_deeds := F17.bindsN fun _ _ _ _ _ _ us hl => match us, hl with | [_, _, _], _ => rfl
    k__law_deeds := F17.kp
    fd__law_number := fd18
    F__law_number := F18
    b__law_number := F18.bindsN fun _ _ _ _ _ _ us hl => match us, hl with | [_, _], _ => rfl
    k__law_number := F18.kp
    fd__law_line := fd19
    F__law_line := F19
    b__law_line := F19.bindsN fun _ _ _ _ _ _ us hl => match us, hl with | [_], _ => rfl
    k__law_line := F19.kp
    fd__law_read := fd20
    F__law_read := F20
    b__law_read := F20.bindsN fun _ _ _ _ _ _ us hl => match us, hl with | [_], _ => rfl
    k__law_read := F20.kp
    fd__law_spoilt := fd21
    F__law_spoilt := F21
    b__law_spoilt := F21.bindsN fun _ _ _ _ _ _ us hl => match us, hl with | [_, _], _ => rfl
    k__law_spoilt := F21.kp
    fd_law := fd22
    F_law := F22
    b_law := F22.bindsN fun _ _ _ _ _ _ us hl => match us, hl with | [_], _ => rfl
    k_law := F22.kp
  }⟩
theorem law_enterX {K : PySem.W.Frag} {H : Hp} {a Pt : Addr} {q : Str} {ns : List Int} (h : SqL K H a (ns.map V.int)) (hp : H Pt = some (.tbl #[])) : ∃ S TL : List Cell, Scr K a ns S ∧ NT S ∧ TabC TL Pt q ∧ Own H (S ++ TL) := by
  have tab : TabC [(Pt, HO.tbl #[])] Pt q := ⟨#[], List.mem_cons_self, trivial, fun pos cv hc => by
    have z : codeAmong pos [] = some cv := hc
    simp [codeAmong] at z⟩
  have one : ∀ {o : HO}, H a = some o → isTb o = false → Own H ([(a, o)] ++ [(Pt, .tbl #[])]) := fun {o} e f => by
    refine ⟨?_, fun c hc => ?_⟩
    · show [a, Pt].Nodup
      refine List.nodup_cons.mpr ⟨fun z => ?_, List.nodup_cons.mpr ⟨List.not_mem_nil, List.nodup_nil⟩⟩
      rw [List.mem_singleton.mp z, hp] at e
      rw [← Option.some.inj e] at f
      cases f
    · rcases List.mem_cons.mp hc with z | z
      · rw [z]
        exact e
      · rw [List.mem_singleton.mp z]
        exact hp
  rcases h with (h | ⟨o, h⟩) | h
  · exact ⟨[(a, .lst (ns.map V.int))], _, fun H' h' => .inl (.inl (h' _ List.mem_cons_self)), NT.cons rfl NT.nil, tab, one h rfl⟩
  · exact ⟨[(a, .frz o (.lst (ns.map V.int)))], _, fun H' h' => .inl (.inr ⟨o, h' _ List.mem_cons_self⟩), NT.cons rfl NT.nil, tab, one h rfl⟩
  · exact ⟨[], _, fun H' _ => .inr h, NT.nil, tab, List.nodup_cons.mpr ⟨List.not_mem_nil, List.nodup_nil⟩, fun c hc => by rw [List.mem_singleton.mp hc]; exact hp⟩
theorem lawFactsX {l : PySem.W.OpenLaw} {w : World} {K : PySem.W.Frag} {h : Heap} {mg : Str → Option Value} {f : Addr} (X : K.In h) (G : h.Ns mainGlobals mg) (hf : mg ("law" : Str) = some (.ref f)) (c : He.SaysX fa fn [] tf ex w h K) : LamX.LawAtS l w K CX0 lawLv 63 "_law_script" mg f h := by
  obtain ⟨T⟩ := txt_of X G c
  have e : some (Value.ref f) = some (.ref (He.fAd K ("law", none))) := hf.symm.trans T.g_law
  cases e
  have b := FunD.bindsA (ps := ["_law_script"]) T.F_law fun _ _ _ _ _ _ us hl => match us, hl with | [_], _ => rfl
  have m1 : (("law", none) : He.Defn) ∈ tf := by decide
  refine ⟨T.fd_law, [He.cT K ("law", none)], spLaw K, fun p hp => ?_, fun p hp => ?_, fun p hp => ?_, fun s v => b s [v] rfl, fun H a ns _ _ hH hS => ?_, fun base _ _ hT => ok_law T (hT _ List.mem_cons_self)⟩
  · rw [List.mem_singleton.mp hp]
    exact c.empty _ m1
  · rw [List.mem_singleton.mp hp]
    exact c.out _ m1
  · rw [List.mem_singleton.mp hp]
    exact PySem.W.codeHd_of_K X (c.hd _ m1)
  · obtain ⟨S, TL, h1, h2, h3, h4⟩ := law_enterX hS (hH _ List.mem_cons_self)
    exact ⟨a, ns, S, TL, rfl, h1, h2, h3, h4, fun _ => rfl⟩
end Ww
open PySem PySem.W PySem.Calls PyProof.Rows
theorem PySem.Challenge.cw_writeways_k19_texts_refused_holds : PySem.Challenge.rw_writeways_k19_texts_refused.Holds := by
  w_on; o_law
  refine HandSHeadRun.head_any (r := OpenLaw.row PySem.Challenge.rw_writeways_k19_texts_refused) (q := view (OpenLaw.row PySem.Challenge.rw_writeways_k19_texts_refused).prog [48]) (H := Ww.hk) (ob := Ww.ob) (M := 6000) (loose := Ww.loose) (d := HandSHeadRun.topDef (OpenLaw.row PySem.Challenge.rw_writeways_k19_texts_refused).prog 48) (kwd := []) Ww.ob_eq
    (by kernel_rfl) (fun s => by kernel_rfl) Ww.run (by kernel_rfl) (by kernel_rfl) (by kernel_rfl) (by rfl) (by first | assumption | decide +kernel) (by decide +kernel) ⟨rfl, rfl, rfl, rfl, rfl, by decide +kernel⟩ ?hw ?hc
  case hw => w_witness2
  case hc =>
    refine LamX.walk_ofTsE (l := PySem.Challenge.rw_writeways_k19_texts_refused) (n := 63) (k := Ww.lawLv) (x := "_law_script") (CX := fun _ => L2.CX0) rfl (by decide) (by kernel_rfl) ⟨rfl, by decide, by decide⟩ ?F (fun _ _ _ _ _ z => z)
    intro w mg f h Y G hmg0
    obtain ⟨K, KX, c⟩ := Y
    have hmg : mg ("law" : PySem.Str) = some (.ref f) := by
      have e : (HandSHeadRun.topDef (OpenLaw.row PySem.Challenge.rw_writeways_k19_texts_refused).prog 48).name = ("law" : PySem.Str) := by kernel_rfl
      rw [← e]
      exact hmg0
    exact ⟨K, KX, Ww.lawFactsX KX G hmg c⟩
