import PyProof.Rows.All
import Wide.All
import OpenK.AllK
import Wide.FinOn
import KE.KStateDown
import KE.DataFind
import PyProof.InstEq
import HandS.ForMost
import HandS.ForExc
import HandS.Defaults
import HandS.IsInst
import HandS.TupAny
import HandS.Head0
import HandS.Head1
import HandS.Head2
import HandS.HeadEnd
import HandS.HeadHook1
import HandS.HeadHook2
import HandS.HeadHook3
import HandS.HeadHook4
import KE.KExcIs
import HandS.ExcInit
import HandS.ExcField
import HandS.FStr
import HandS.Lambda
import HandS.EndTab
import HandS.HeadWalk
import HandS.Style
import HandS.Zip
import HandS.Evl
import HandS.SetFor
import HandS.Conv
import PyProof.EqAt
import HandS.Comp
import HandS.RaiseMore
import PySem.Challenge.RW_writeways_k01_refused
set_option Elab.async false
set_option linter.all false
set_option maxRecDepth 100000
set_option maxHeartbeats 4000000
namespace Ww
open PySem PySem.Spec PyProof.Rows L2
-- WwBase
/-! ### cells: a part of the abstract heap that is known -/
abbrev Cell := Addr × HO
def Own (H : Hp) (L : List Cell) : Prop := (L.map (·.1)).Nodup ∧ ∀ p ∈ L, H p.1 = some p.2
section
variable {H : Hp} {L L' R : List Cell} {a p : Addr} {o o' : HO} {c0 c1 c2 c3 c4 c5 c6 c7 : Cell}
theorem Own.mem (h : Own H L) (m : (a, o) ∈ L) : H a = some o := h.2 _ m
theorem Own.perm (h : Own H L) (e : L.Perm L') : Own H L' := ⟨((e.map _).nodup_iff).mp h.1, fun q m => h.2 q (e.mem_iff.mpr m)⟩
theorem Own.sub (h : Own H L) (e : L'.Sublist L) : Own H L' := ⟨List.Nodup.sublist (e.map _) h.1, fun q m => h.2 q (e.subset m)⟩
theorem Own.tail (h : Own H (c0 :: L)) : Own H L := h.sub (List.sublist_cons_self _ _)
theorem Own.right (h : Own H (L' ++ L)) : Own H L := h.sub (List.sublist_append_right _ _)
theorem Own.left (h : Own H (L ++ L')) : Own H L := h.sub (List.sublist_append_left _ _)
theorem Own.a0 (h : Own H ((a, o) :: L)) : H a = some o := h.2 (a, o) (by simp)
theorem Own.a1 (h : Own H (c0 :: (a, o) :: L)) : H a = some o := h.2 (a, o) (by simp)
theorem Own.a2 (h : Own H (c0 :: c1 :: (a, o) :: L)) : H a = some o := h.2 (a, o) (by simp)
theorem Own.a3 (h : Own H (c0 :: c1 :: c2 :: (a, o) :: L)) : H a = some o := h.2 (a, o) (by simp)
theorem Own.a4 (h : Own H (c0 :: c1 :: c2 :: c3 :: (a, o) :: L)) : H a = some o := h.2 (a, o) (by simp)
theorem Own.a5 (h : Own H (c0 :: c1 :: c2 :: c3 :: c4 :: (a, o) :: L)) : H a = some o := h.2 (a, o) (by simp)
theorem Own.a6 (h : Own H (c0 :: c1 :: c2 :: c3 :: c4 :: c5 :: (a, o) :: L)) : H a = some o := h.2 (a, o) (by simp)
theorem Own.a7 (h : Own H (c0 :: c1 :: c2 :: c3 :: c4 :: c5 :: c6 :: (a, o) :: L)) : H a = some o := h.2 (a, o) (by simp)
theorem Own.fresh (h : Own H L) (hp : H p = none) : p ∉ L.map (·.1) := fun m => by
  obtain ⟨q, hq, e⟩ := List.mem_map.mp m
  have := h.2 q hq
  rw [e, hp] at this
  cases this
theorem Own.keep (h : Own H L) (hp : p ∉ L.map (·.1)) : Own (upd H p o) L := ⟨h.1, fun q m => by
  rw [upd_ne (fun e => hp (List.mem_map.mpr ⟨q, m, e⟩))]
  exact h.2 q m⟩
theorem Own.new (h : Own H L) (hp : H p = none) : Own (upd H p o) ((p, o) :: L) := by
  refine ⟨List.nodup_cons.mpr ⟨h.fresh hp, h.1⟩, fun q m => ?_⟩
  rcases List.mem_cons.mp m with e | m
  · rw [e]
    exact upd_same
  · exact (h.keep (h.fresh hp)).2 q m
theorem Own.keepNew (h : Own H L) (hp : H p = none) : Own (upd H p o) L := h.keep (h.fresh hp)
theorem Own.set (h : Own H ((a, o) :: L)) : Own (upd H a o') ((a, o') :: L) := by
  have hn := List.nodup_cons.mp h.1
  refine ⟨h.1, fun q m => ?_⟩
  rcases List.mem_cons.mp m with e | m
  · rw [e]
    exact upd_same
  · exact (h.tail.keep hn.1).2 q m
theorem Own.nil : Own H [] := ⟨List.nodup_nil, fun _ m => by cases m⟩
theorem Own.setAt (h : Own H L) (e : L.Perm ((a, o) :: R)) : Own (upd H a o') ((a, o') :: R) := (h.perm e).set
theorem Own.seqL {K : PySem.W.Frag} {xs : List V} (h : Own H ((a, .lst xs) :: L)) : SqL K H a xs := SqL.of h.a0
end
/-- one in a count -/
noncomputable def one1 (c d : Cell) : Nat := by classical exact if d = c then 1 else 0
noncomputable def cnt (c : Cell) : List Cell → Nat
  | [] => 0
  | d :: r => one1 c d + cnt c r
theorem cnt_nil (c : Cell) : cnt c [] = 0 := rfl
theorem cnt_cons (c d : Cell) (r : List Cell) : cnt c (d :: r) = one1 c d + cnt c r := rfl
theorem cnt_app (c : Cell) : ∀ l r : List Cell, cnt c (l ++ r) = cnt c l + cnt c r
  | [], r => by rw [List.nil_append, cnt_nil, Nat.zero_add]
  | d :: l, r => by rw [List.cons_append, cnt_cons, cnt_cons, cnt_app c l r, Nat.add_assoc]
theorem cnt_mem {c : Cell} : ∀ {l : List Cell}, 0 < cnt c l → c ∈ l
  | [], h => by rw [cnt_nil] at h; omega
  | d :: r, h => by
    classical
    by_cases e : d = c
    · rw [e]; exact List.mem_cons_self
    · rw [cnt_cons] at h
      have z : one1 c d = 0 := by unfold one1; rw [if_neg e]
      exact List.mem_cons_of_mem _ (cnt_mem (by omega))
theorem cnt_perm : ∀ {l r : List Cell}, (∀ c, cnt c l = cnt c r) → l.Perm r
  | [], r, h => by
    cases r with
    | nil => exact List.Perm.nil
    | cons d r =>
      have := h d
      rw [cnt_nil, cnt_cons] at this
      have z : one1 d d = 1 := by unfold one1; rw [if_pos rfl]
      omega
  | d :: l, r, h => by
    have hd := h d
    rw [cnt_cons] at hd
    have z : one1 d d = 1 := by unfold one1; rw [if_pos rfl]
    obtain ⟨r1, r2, e⟩ := List.append_of_mem (cnt_mem (c := d) (l := r) (by omega))
    subst e
    have e2 : l.Perm (r1 ++ r2) := cnt_perm fun c => by
      have := h c
      rw [cnt_cons, cnt_app, cnt_cons] at this
      rw [cnt_app]
      omega
    exact (e2.cons d).trans List.perm_middle.symm
local macro_rules | `(tactic| walk_at "perm") => `(tactic| (refine cnt_perm fun c => ?_; simp only [cnt_app, cnt_cons, cnt_nil, List.append_assoc, List.cons_append, List.nil_append] <;> omega))
example (A B C : List Cell) (x y : Cell) : (A ++ x :: B ++ (y :: C)).Perm (y :: (C ++ A) ++ ([x] ++ B)) := by walk_at "perm"

/-! ### globals -/
section
variable {X : Cx}
theorem pe_globI {x : Str} {i : Int} {pos : Pos} (hg : Gl X x) (hm : ∃ t, X.mg x = some (.int i t)) (hd : (x == ("__debug__" : Str)) = false := by decide) : PE X (.Name x pos) (tC (.int i)) := by
  obtain ⟨t, hm⟩ := hm
  exact pe_glob hg hm ⟨t, rfl⟩ hd
theorem pe_globR {x : Str} {a : Addr} {pos : Pos} (hg : Gl X x) (hm : X.mg x = some (.ref a)) (hd : (x == ("__debug__" : Str)) = false := by decide) : PE X (.Name x pos) (tC (.ref a)) := pe_glob hg hm (show RelV (.ref a) (.ref a) from rfl) hd
theorem pe_globS {x z : Str} {pos : Pos} (hg : Gl X x) (hm : ∃ t, X.mg x = some (.str z t)) (hd : (x == ("__debug__" : Str)) = false := by decide) : PE X (.Name x pos) (tC (.str z)) := by
  obtain ⟨t, hm⟩ := hm
  exact pe_glob hg hm ⟨t, rfl⟩ hd
end

/-! ### two instances of a class without its own __eq__ -/
def CmpC (K : PySem.W.Frag) (C : Addr) : Prop :=
  ∃ (nm q : Str) (N : Addr) (bs : List Value) (hdct : Bool) (sn : List Str) (sub : List Value) (ab : Bool) (col : Option Bool) (dd : Option Addr) (k0 k1 k2 k3 k5 : Option Value) (newId : String),
    K.lookup C = some (excClassObj nm q C N bs [.type "object"] hdct sn sub ab col dd k0 k1 k2 k3 k5 newId) ∧ PySem.W.nsOkIn K N = true ∧ PySem.W.nsIn K N "__eq__" = some none ∧ PySem.W.nsIn K N "__ne__" = some none
def cmpB (K : PySem.W.Frag) (C : Addr) : Bool := match K.lookup C with
  | some ⟨.type t, _, .cls cd, sl⟩ => (match cd.mro, sl.toList with
    | [.ref C', .type o], [_, _, _, _, some (.builtin _), _] => decide (t = "type") && (decide (C' = C) && (decide (o = "object") && (!cd.hasDel && (PySem.W.nsOkIn K cd.ns && (He.eqO (PySem.W.nsIn K cd.ns "__eq__") (some none) && He.eqO (PySem.W.nsIn K cd.ns "__ne__") (some none))))))
    | _, _ => false)
  | _ => false
theorem cmpB_ok {K : PySem.W.Frag} {C : Addr} (q : cmpB K C = true) : CmpC K C := by
  unfold cmpB at q
  split at q
  · rename_i t dd cd sl ho
    split at q
    · rename_i C' o k0 k1 k2 k3 n k5 hm hs
      obtain ⟨q1, q⟩ := He.ba q
      obtain ⟨q2, q⟩ := He.ba q
      obtain ⟨q3, q⟩ := He.ba q
      obtain ⟨q4, q⟩ := He.ba q
      obtain ⟨q5, q⟩ := He.ba q
      obtain ⟨q6, q7⟩ := He.ba q
      have e1 := of_decide_eq_true q1
      have e2 := of_decide_eq_true q2
      have e3 := of_decide_eq_true q3
      obtain ⟨nm, bs, mro, ns, qn, hd, sn, sub, ab, col, del⟩ := cd
      dsimp only at hm q4 q5 q6 q7
      have e4 : del = false := by
        cases del with
        | false => rfl
        | true => cases q4
      subst hm e1 e2 e3 e4
      have hsl : sl = #[k0, k1, k2, k3, some (.builtin n), k5] := by
        obtain ⟨l⟩ := sl
        simp only at hs
        rw [hs]
      subst hsl
      exact ⟨nm, qn, ns, bs, hd, sn, sub, ab, col, dd, k0, k1, k2, k3, k5, n, ho, q5, He.eqO_ok q6, He.eqO_ok q7⟩
    · cases q
  · cases q
theorem CmpC.inst {K : PySem.W.Frag} {C : Addr} {h : Heap} (c : CmpC K C) (X : K.In h) {x dx : Addr} (hx : h.get? x = some (PySem.W.instObj C dx)) : h.CmpInst x C [.type "object"] := by
  obtain ⟨nm, q, N, bs, hdct, sn, sub, ab, col, dd, k0, k1, k2, k3, k5, newId, hC, ho, h1, h2⟩ := c
  exact ⟨_, nm, q, N, bs, hdct, sn, sub, ab, col, dd, k0, k1, k2, k3, k5, newId, _, hx, rfl, X _ _ hC, .of_isNs (PySem.W.isNs_of_in X ho), PySem.W.nsMap_none_of_in X ho h1, PySem.W.nsMap_none_of_in X ho h2⟩
section
variable {X : Cx}
/-- xs.remove(o), xs a list of instances of the class at C -/
def rRemO (C : Addr) : V → List V → Hp → VK → Prop := fun x xs H Q => ∃ (l : Addr) (as : List Addr) (a : Addr) (j : Nat), x = .ref l ∧ xs = [.ref a] ∧ H l = some (.lst (as.map V.ref)) ∧ (∀ b ∈ as, ∃ dx fs, H b = some (.ins C dx fs)) ∧
  as[j]? = some a ∧ (∀ m : Nat, m < j → as[m]? ≠ some a) ∧ Q .non (upd H l (.lst ((as.eraseIdx j).map V.ref)))
theorem refs_of_vals : ∀ {as : List Addr} {us : List Value}, Vals (as.map V.ref) us → us = as.map Value.ref
  | [], _, h => by cases h; rfl
  | a :: as, _, h => by
    cases h with
    | cons r t =>
      obtain rfl := r
      rw [refs_of_vals t]
      rfl
theorem erase_map {α β : Type} (f : α → β) : ∀ (as : List α) (j : Nat), (as.map f).eraseIdx j = (as.eraseIdx j).map f
  | [], _ => rfl
  | _ :: _, 0 => rfl
  | a :: as, j + 1 => by
    show f a :: (as.map f).eraseIdx j = f a :: (as.eraseIdx j).map f
    rw [erase_map f as j]
theorem erase_mapR (as : List Addr) (j : Nat) : (as.map V.ref).eraseIdx j = (as.eraseIdx j).map V.ref := erase_map _ as j
theorem mt_removeO {C : Addr} (c : CmpC X.K C) (hu : X.A.units + 1 < cLine) : MtM X "list.remove" (rRemO C) := by
  intro pins s σ H x xs v us Q I rx rxs h
  obtain ⟨l, as, a, j, rfl, rfl, hH, hI, hj, hno, q⟩ := h
  cases rx
  obtain ⟨u, rfl, ru⟩ := rxs.one
  obtain rfl : u = Value.ref a := ru
  obtain ⟨z, its, n, r, hl, e⟩ := I.lstM hH
  have hi := refs_of_vals r
  subst hi
  rw [List.length_map] at z hl
  have hjn : j < as.length := (List.getElem?_eq_some_iff.mp hj).1
  have inst : ∀ b ∈ as, ∃ dx, s.heap.get? b = some (PySem.W.instObj C dx) := fun b hb => by
    obtain ⟨dx, fs, hb⟩ := hI b hb
    obtain ⟨_, _, _, e, _⟩ := I.hok b _ hb
    exact ⟨dx, e⟩
  have ha : a ∈ as := List.mem_of_getElem? hj
  obtain ⟨dxa, hoa⟩ := inst a ha
  have KX : X.K.In s.heap := I.kIn
  have hsz : (as.map Value.ref).toArray.size = as.length := by simp
  refine call_meets PySem.F.slot_list_remove ⟨_, e, rfl⟩ PySem.F.entry_list_remove (PySem.F.args_list_remove_2 _ _)
    (SeqAt.list_removeAt l (as.map Value.ref).toArray n none #[] (.ref a) (fun y => decide (y = .ref a)) j (by omega) ?_ ?_ (by omega)) ⟨e, fun y hy => ?_, ?_⟩
  · obtain ⟨h1, h2⟩ := List.getElem?_eq_some_iff.mp hj
    simp [h2]
  · intro m hm hmj
    have hmn : m < as.length := by omega
    have hne := hno m hmj
    rw [List.getElem?_eq_getElem hmn] at hne
    simp only [List.getElem_toArray, List.getElem_map, decide_eq_false_iff_not, Value.ref.injEq]
    exact fun q => hne (by rw [q])
  · have hy2 : y ∈ as.map Value.ref := by simpa using hy
    obtain ⟨b, hb, rfl⟩ := List.mem_map.mp hy2
    by_cases eb : b = a
    · subst eb
      rw [decide_eq_true rfl]
      exact SeqAt.EqAt.same _
    · rw [decide_eq_false (by intro q; injection q with q; exact eb q)]
      obtain ⟨dxb, hob⟩ := inst b hb
      refine SeqAt.EqAt.of_refs eb fun prog w E Q hq => ?_
      have F0 := PySem.F.cmp_object
      obtain ⟨hp, g, d, t, os⟩ := s
      exact PySem.richCompare_eq_other F0 F0 (c.inst KX hob) (c.inst KX hoa) eb hu hq
  · have rr := r.eraseIdx j
    rw [erase_mapR] at rr
    refine ⟨.non, _, I.lset (its' := (as.map Value.ref).eraseIdx j) (t' := s.toks) hH e ?_ rr ?_, rfl, q⟩
    · rw [List.eraseIdxIfInBounds_toArray]
    · rw [List.length_map]
      have := List.length_eraseIdx_le as j
      omega
end
/-! ### xs[a:b] = ys -/
def gSlice (to : TE) (tl th : TO) : TG := fun v σ H Q => to σ H fun x H1 => tl σ H1 fun lo H2 => th σ H2 fun hi H3 => ∃ (l b : Addr) (xs ys : List V) (i j : Int), x = .ref l ∧ v = .ref b ∧ lo = some i ∧ hi = some j ∧
  H3 l = some (.lst xs) ∧ H3 b = some (.lst ys) ∧ l ≠ b ∧ 0 ≤ i ∧ i ≤ j ∧ j ≤ xs.length ∧ xs.length + ys.length ≤ sizeLine ∧ Q σ (upd H3 l (.lst (xs.take i.toNat ++ ys ++ xs.drop j.toNat)))
theorem part_int {v : Value} {i : Int} (h : IsPart v (some i)) : RelV (.int i) v := by
  cases h
  exact ⟨_, rfl⟩
theorem pg_slice {X : Cx} {o : Expr} {lo hi : Option Expr} {p2 pos : Pos} {to : TE} {tl th : TO} (ho : PE X o to) (hl : PO X lo tl) (hu : PO X hi th) : PG X (.Subscript o (.Slice lo hi none p2) pos) (gSlice to tl th) := by
  refine ⟨fun pins s σ H v u Q I r h => ?_⟩
  show wpAny _ _ (do
      let ov ← holding [u] (eval o X.env)
      let iv ← holding [u, ov] (eval (.Slice lo hi none p2) X.env)
      standAt pos
      holding [u, ov, iv] (setItem ov iv u)
      release [iv, u, ov] []) _ _ _
  refine wpAny_bind (wpAny_holding (thn (ho.run pins s σ H _ I h) fun ov s1 ⟨x, H1, I1, r1, q1⟩ => ?_))
  refine wpAny_bind (wpAny_holding (wpAny_Slice (thn (hl.run pins s1 σ H1 _ I1 q1) fun vl s2 ⟨l, H2, I2, pl, q2⟩ => thn (hu.run pins s2 σ H2 _ I2 q2) fun vu s3 ⟨u3, H3, I3, pu, q3⟩ => ?_)))
  rw [evalPart_none]
  refine wpAny_pure ?_
  have I4 : Inv X pins σ H3 { s3 with heap := s3.heap.push { cls := .type "slice", data := .fields #[vl, vu, .none] } } := I3.kept (t' := s3.toks) fun b ob q => Heap.get?_push_of_some _ q
  obtain ⟨a, b, xs, ys, i, j, rfl, rfl, rfl, rfl, ha, hb, hne, h0, hij, hjx, hz, q⟩ := q3
  obtain rfl : ov = Value.ref a := r1
  obtain rfl : u = Value.ref b := r
  refine wpAny_bind (wpAny_standAt (wpAny_bind (wpAny_holding (set_slice I4 ha hb hne (Heap.IsSliceOf.new ..) (part_int pl) (part_int pu) h0 hij hjx hz fun s' I5 => ?_))))
  exact wpAny_release ⟨σ, _, I5, q⟩

/-! ### names of readings -/
abbrev rAddI : R2 := rI0 fun i j => .int (i + j)
abbrev rSubI : R2 := rI0 fun i j => .int (i - j)
abbrev rMulI : R2 := rI CMul fun i j => .int (i * j)
abbrev rDivI : R2 := rI CDiv fun i j => .int (i / j)
abbrev rModI : R2 := rI (fun _ j => 0 < j) fun i j => .int (i % j)
abbrev rLtI : R2 := rI0 fun i j => .bl (decide (i < j))
abbrev rLeI : R2 := rI0 fun i j => .bl (decide (i ≤ j))
abbrev rGtI : R2 := rI0 fun i j => .bl (decide (j < i))
abbrev rGeI : R2 := rI0 fun i j => .bl (decide (j ≤ i))
abbrev rLenQ (K : PySem.W.Frag) : List V → Hp → VK → Prop := fun xs H Q => ∃ p ys, xs = [.ref p] ∧ (SqL K H p ys ∨ SqT K H p ys) ∧ Q (.int ys.length) H
abbrev rListQ (K : PySem.W.Frag) : List V → Hp → VK → Prop := fun xs H Q => ∃ p ys, xs = [.ref p] ∧ (SqL K H p ys ∨ SqT K H p ys) ∧ ∀ l, H l = none → Q (.ref l) (upd H l (.lst ys))
abbrev rTupQ (K : PySem.W.Frag) : List V → Hp → VK → Prop := fun xs H Q => ∃ p ys, xs = [.ref p] ∧ ((SqL K H p ys ∧ ∀ l, H l = none → Q (.ref l) (upd H l (.tup ys))) ∨ (SqT K H p ys ∧ Q (.ref p) H))
/-- a for over enumerate(xs) -/
theorem for_enum {K : PySem.W.Frag} {a : Addr} {xs : List V} {g : TG} {tb : TS} {D : Ends} {σ : L2.St} {H : Hp} (Pv : Nat → L2.St → Hp → Prop) (h0 : Pv 0 σ H) (hl : ∀ i σ H, i ≤ xs.length → Pv i σ H → SqL K H a xs)
    (hs : ∀ i x σ H T, xs[i]? = some x → Pv i σ H → H T = none → g (.ref T) σ (upd H T (.tup [.int (i : Nat), x])) fun σ2 H2 => tb { D with nx := Pv (i + 1), ct := Pv (i + 1), bk := D.nx } σ2 H2) (hd : ∀ σ H, Pv xs.length σ H → D.nx σ H) :
    ∃ W : Nat → Nat → L2.St → Hp → Prop, (∃ m, W 0 m σ H) ∧ ∀ i m σ H, W i m σ H →
      ((Ite K a).stop i H ∧ D.nx σ H) ∨ ((Ite K a).go i H ∧ ∃ N : L2.St → Hp → Prop, (∀ σ' H', N σ' H' → ∃ m', m' < m ∧ W (i + 1) m' σ' H') ∧ ∀ x H', (Ite K a).yld i H x H' → g x σ H' fun σ2 H2 => tb { D with nx := N, ct := N, bk := D.nx } σ2 H2) := by
  refine ⟨fun i m σ H => m = xs.length - i ∧ i ≤ xs.length ∧ Pv i σ H, ⟨xs.length, by simp, Nat.zero_le _, h0⟩, ?_⟩
  rintro i m σ H ⟨rfl, hi, p⟩
  have q := hl i σ H hi p
  by_cases hlt : i < xs.length
  · refine .inr ⟨⟨xs, xs[i], q, by simp [hlt]⟩, Pv (i + 1), fun σ' H' p' => ⟨xs.length - (i + 1), by omega, rfl, hlt, p'⟩, fun v H' y => ?_⟩
    obtain ⟨T, x, e1, e2, e3, e4⟩ := y
    subst e1 e3
    exact hs i x σ H T (e4 xs q) p e2
  · have e : i = xs.length := by omega
    subst e
    exact .inl ⟨⟨xs, q, Nat.le_refl _⟩, hd σ H p⟩
-- WwModel
/-! ### the rooms, plainly -/
structure Ln where
  b : Nat
  ns : List Int
  d : Bool
/-- a room's rule: ways, write back, take in, leave late; its title -/
structure Ru where
  ways : Nat
  bk : Bool
  inn : Bool
  lt : Bool
  tl : List V
structure Rm where
  ru : Ru
  ss : List (List Ln)
structure Ent where
  tl : List V
  w : Str
  n : Nat
/-- what stands behind: rooms, the far room's cells, the log -/
structure Ta where
  rs : List Rm
  far : List Int
  log : List Ent
def Ent.vs (e : Ent) : List V := e.tl ++ [.str e.w, .int e.n]
def Rm.ix (r : Rm) (b : Nat) : Nat := b % r.ss.length
def Rm.ls (r : Rm) (b : Nat) : List Ln := r.ss.getD (r.ix b) []
def Rm.put (r : Rm) (b : Nat) (ls : List Ln) : Rm := { r with ss := r.ss.set (r.ix b) ls }
def fnd (b : Nat) : List Ln → Option Nat
  | [] => none
  | l :: r => if l.b = b then some 0 else (fnd b r).map (· + 1)
def Ta.note (t : Ta) (tl : List V) (w : Str) (n : Nat) : Ta := { t with log := t.log ++ [⟨tl, w, n⟩] }
def Ta.cons (r : Rm) (t : Ta) : Ta := { t with rs := r :: t.rs }
def setBlk (far : List Int) (b : Nat) (ns : List Int) : List Int := far.take (b * 4) ++ ns ++ far.drop (b * 4 + 4)
def getBlk (far : List Int) (b : Nat) : List Int := (far.drop (b * 4)).take 4
/-- what may be asked of what stands behind -/
structure Ops where
  hm : Ta → Nat → List Int → Ta
  br : Ta → Nat → List Int × Ta
  ch : Ta → Nat → Int → Ta
def farOps : Ops where
  hm := fun t b ns => { t with far := setBlk t.far b ns }
  br := fun t b => (getBlk t.far b, t)
  ch := fun t p v => { t with far := t.far.set p v }
def passH (o : Ops) (tl : List V) (t : Ta) (b : Nat) (ns : List Int) : Ta := o.hm (t.note tl "home" b) b ns
def passC (o : Ops) (tl : List V) (t : Ta) (p : Nat) (v : Int) : Ta := o.ch (t.note tl "cell" p) p v
/-- one set's lines, by what is done of them -/
def mkWay (o : Ops) (u : Ru) (ls : List Ln) (t : Ta) : List Ln × Ta :=
  if ls.length = u.ways then
    match ls with
    | [] => ([], t)
    | l :: rest => (rest, if l.d = true then passH o u.tl t l.b l.ns else t)
  else (ls, t)
def touchL {α : Type} (lt : Bool) (ls : List α) (i : Nat) : List α := if lt = true then ls.eraseIdx i ++ (ls[i]?).toList else ls
def touchI {α : Type} (lt : Bool) (ls : List α) (i : Nat) : Nat := if lt = true then ls.length - 1 else i
/-- reach: the lines, what is behind, the line's place -/
def reachL (o : Ops) (u : Ru) (ls : List Ln) (t : Ta) (b : Nat) : List Ln × Ta × Nat :=
  match fnd b ls with
  | some i => (touchL u.lt ls i, t, touchI u.lt ls i)
  | none => ((mkWay o u ls t).1 ++ [⟨b, (o.br ((mkWay o u ls t).2.note u.tl "bring" b) b).1, false⟩], (o.br ((mkWay o u ls t).2.note u.tl "bring" b) b).2, (mkWay o u ls t).1.length)
def lnAt (ls : List Ln) (i : Nat) : Ln := ls.getD i ⟨0, [], false⟩
def bringL (o : Ops) (u : Ru) (ls : List Ln) (t : Ta) (b : Nat) : List Int × List Ln × Ta :=
  ((lnAt (reachL o u ls t b).1 (reachL o u ls t b).2.2).ns, (reachL o u ls t b).1, (reachL o u ls t b).2.1)
def lookL (o : Ops) (u : Ru) (ls : List Ln) (t : Ta) (p : Nat) : Int × List Ln × Ta :=
  ((lnAt (reachL o u ls t (p / 4)).1 (reachL o u ls t (p / 4)).2.2).ns.getD (p % 4) 0, (reachL o u ls t (p / 4)).1, (reachL o u ls t (p / 4)).2.1)
def setCell (bk : Bool) (l : Ln) (p : Nat) (v : Int) : Ln := { l with ns := l.ns.set (p % 4) v, d := bk || l.d }
def changeL (o : Ops) (u : Ru) (ls : List Ln) (t : Ta) (p : Nat) (v : Int) : List Ln × Ta :=
  if u.inn = false ∧ fnd (p / 4) ls = none then (ls, passC o u.tl t p v)
  else
    ((reachL o u ls t (p / 4)).1.set (reachL o u ls t (p / 4)).2.2 (setCell u.bk (lnAt (reachL o u ls t (p / 4)).1 (reachL o u ls t (p / 4)).2.2) p v),
      if u.bk = true then (reachL o u ls t (p / 4)).2.1 else passC o u.tl (reachL o u ls t (p / 4)).2.1 p v)
def homeL (o : Ops) (u : Ru) (ls : List Ln) (t : Ta) (b : Nat) (ns : List Int) : List Ln × Ta :=
  match fnd b ls with
  | none =>
    if u.inn = true then ((mkWay o u ls t).1 ++ [⟨b, ns, u.bk⟩], if u.bk = true then (mkWay o u ls t).2 else passH o u.tl (mkWay o u ls t).2 b ns)
    else (ls, passH o u.tl t b ns)
  | some i => ((touchL u.lt ls i).set (touchI u.lt ls i) ⟨b, ns, u.bk⟩, if u.bk = true then t else passH o u.tl t b ns)
def yieldL (o : Ops) (u : Ru) (ls : List Ln) (t : Ta) (b : Nat) (gone : Bool) : List Ln × Ta :=
  match fnd b ls with
  | none => (ls, t)
  | some i => (if gone = true then ls.eraseIdx i else ls.set i { lnAt ls i with d := false }, if (lnAt ls i).d = true then passH o u.tl t b (lnAt ls i).ns else t)
def settleL (o : Ops) (u : Ru) : List Ln → Ta → List Ln × Ta
  | [], t => ([], t)
  | l :: r, t => ({ l with d := false } :: (settleL o u r (if l.d = true then passH o u.tl t l.b l.ns else t)).1, (settleL o u r (if l.d = true then passH o u.tl t l.b l.ns else t)).2)
def settleS (o : Ops) (u : Ru) : List (List Ln) → Ta → List (List Ln) × Ta
  | [], t => ([], t)
  | ls :: r, t => ((settleL o u ls t).1 :: (settleS o u r (settleL o u ls t).2).1, (settleS o u r (settleL o u ls t).2).2)
def ops : Nat → Ops
  | 0 => farOps
  | n + 1 => {
      hm := fun t b ns => match t.rs with
        | [] => t
        | r :: rs => Ta.cons (r.put b (homeL (ops n) r.ru (r.ls b) { t with rs := rs } b ns).1) (homeL (ops n) r.ru (r.ls b) { t with rs := rs } b ns).2
      br := fun t b => match t.rs with
        | [] => ([], t)
        | r :: rs => ((bringL (ops n) r.ru (r.ls b) { t with rs := rs } b).1, Ta.cons (r.put b (bringL (ops n) r.ru (r.ls b) { t with rs := rs } b).2.1) (bringL (ops n) r.ru (r.ls b) { t with rs := rs } b).2.2)
      ch := fun t p v => match t.rs with
        | [] => t
        | r :: rs => Ta.cons (r.put (p / 4) (changeL (ops n) r.ru (r.ls (p / 4)) { t with rs := rs } p v).1) (changeL (ops n) r.ru (r.ls (p / 4)) { t with rs := rs } p v).2 }

/-! ### what holds of them -/
structure LnOk (l : Ln) : Prop where
  b : l.b < 16
  ns : l.ns.length = 4
structure LsOk (u : Ru) (ls : List Ln) : Prop where
  len : ls.length ≤ u.ways
  ok : ∀ l ∈ ls, LnOk l
structure RuOk (u : Ru) : Prop where
  w0 : 0 < u.ways
  w4 : u.ways ≤ 4
  t4 : u.tl.length ≤ 4
structure RmOk (r : Rm) : Prop where
  s0 : 0 < r.ss.length
  s4 : r.ss.length ≤ 4
  ru : RuOk r.ru
  ln : ∀ ls ∈ r.ss, LsOk r.ru ls
structure TaOk (n : Nat) (t : Ta) : Prop where
  len : t.rs.length = n
  rs : ∀ r ∈ t.rs, RmOk r
  far : t.far.length = 64

/-! ### the same with addresses -/
structure LnA where
  a : Addr
  dx : Addr
  na : Addr
  l : Ln
/-- what stands behind: rooms one before the other, the far one last -/
inductive Pa where
  | far (la : Addr)
  | room (a : Addr) (be : Pa)
def Pa.ad : Pa → Addr
  | .far la => la
  | .room a _ => a
/-- a room's head: its object, its dict, the list of its sets, its title; its rule, what is behind, the diary, the sets -/
structure Hd where
  a : Addr
  dx : Addr
  sl : Addr
  ti : Addr
  u : Ru
  be : Pa
  di : Addr
  sas : List Addr
def fLine (b n d : V) : List (Str × V) := [("block", b), ("numbers", n), ("is_dirty", d)]
def fRoom (w bk inn lt be ti di ss : V) : List (Str × V) := [("ways", w), ("is_back", bk), ("is_in", inn), ("is_late", lt), ("behind", be), ("title", ti), ("diary", di), ("sets", ss)]
def fFar (h : V) : List (Str × V) := [("held", h)]
def fHall (d l s o : V) : List (Str × V) := [("diary", d), ("last", l), ("shared", s), ("own", o)]
def lnC (CL : Addr) (l : LnA) : List Cell := [(l.a, .ins CL l.dx (fLine (.int l.l.b) (.ref l.na) (.bl l.l.d))), (l.na, .lst (l.l.ns.map V.int))]
def lnsC (CL : Addr) : List LnA → List Cell
  | [] => []
  | l :: r => lnC CL l ++ lnsC CL r
def stC (CL : Addr) (s : Addr × List LnA) : List Cell := (s.1, .lst (s.2.map fun l => V.ref l.a)) :: lnsC CL s.2
def stsC (CL : Addr) : List (Addr × List LnA) → List Cell
  | [] => []
  | s :: r => stC CL s ++ stsC CL r
def hdO (CR : Addr) (h : Hd) : HO := .ins CR h.dx (fRoom (.int h.u.ways) (.bl h.u.bk) (.bl h.u.inn) (.bl h.u.lt) (.ref h.be.ad) (.ref h.ti) (.ref h.di) (.ref h.sl))
def hdC (CR : Addr) (h : Hd) : List Cell := [(h.a, hdO CR h), (h.sl, .lst (h.sas.map V.ref)), (h.ti, .tup h.u.tl)]
/-- a room at a, with be behind and the diary di -/
def RmRep (CL CR di a : Addr) (be : Pa) (r : Rm) (C : List Cell) : Prop := ∃ (h : Hd) (ss : List (Addr × List LnA)), h.a = a ∧ h.be = be ∧ h.di = di ∧ h.u = r.ru ∧ h.sas = ss.map (·.1) ∧ r.ss = ss.map (fun s => s.2.map (·.l)) ∧ C = hdC CR h ++ stsC CL ss
/-- what stands behind -/
def Rep (CF CL CR di : Addr) : Pa → List Rm → List Int → List Cell → Prop
  | .far la, [], far, C => ∃ dx fl, C = [(la, .ins CF dx (fFar (.ref fl))), (fl, .lst (far.map V.int))]
  | .room a be, r :: rs, far, C => ∃ C1 C2 : List Cell, RmRep CL CR di a be r C1 ∧ Rep CF CL CR di be rs far C2 ∧ C = C1 ++ C2
  | _, _, _, _ => False
def logC : List Addr → List Ent → List Cell
  | a :: as, e :: es => (a, .tup e.vs) :: logC as es
  | _, _ => []
def DRep (di : Addr) (log : List Ent) (C : List Cell) : Prop := ∃ as : List Addr, as.length = log.length ∧ C = (di, .lst (as.map V.ref)) :: logC as log
-- WwXc
/-! ### own classes of exceptions: what is checked of the written part -/
/-- the class's object is as the making of its instances wants it -/
def oexB (K : PySem.W.Frag) (C : Addr) : Bool := match K.lookup C with
  | some ⟨.type "type", _, .cls cd, sl⟩ => (match cd.mro, sl.toList with
    | .ref D :: bm, [_, _, _, _, some (.builtin n), _] => D == C && (n == "ValueError.__new__" && (!cd.hasDel && (cd.hasDict && PySem.HandSPX.refsVE bm)))
    | _, _ => false)
  | _ => false
theorem oexB_ok {K : PySem.W.Frag} {C : Addr} (q : oexB K C = true) : ∃ nm qn N bs bm sn sub ab col dd k0 k1 k2 k3 k5, K.lookup C = some (excClassObj nm qn C N bs bm true sn sub ab col dd k0 k1 k2 k3 k5 "ValueError.__new__") ∧ PySem.HandSPX.refsVE bm = true := by
  unfold oexB at q
  split at q
  · rename_i dct cd sl hk
    split at q
    · rename_i D bm y0 y1 y2 y3 n y5 em es
      obtain ⟨q1, q⟩ := Bool.and_eq_true_iff.mp q
      obtain ⟨q2, q⟩ := Bool.and_eq_true_iff.mp q
      obtain ⟨q3, q⟩ := Bool.and_eq_true_iff.mp q
      obtain ⟨q4, q5⟩ := Bool.and_eq_true_iff.mp q
      obtain ⟨c1, c2, c3, c4, c5, c6, c7, c8, c9, c10, c11⟩ := cd
      have e3 : c11 = false := by
        have : (!c11) = true := q3
        cases c11
        · rfl
        · cases this
      have e4 : c6 = true := q4
      have em : c3 = .ref D :: bm := em
      have eD : D = C := eq_of_beq q1
      have en : n = "ValueError.__new__" := eq_of_beq q2
      have hsl : sl = #[y0, y1, y2, y3, some (.builtin n), y5] := by
        obtain ⟨sl⟩ := sl
        have es : sl = _ := es
        rw [es]
      subst e3 e4 em eD en hsl
      exact ⟨c1, c5, c4, c2, bm, c7, c8, c9, c10, dct, y0, y1, y2, y3, y5, hk, q5⟩
    · cases q
  · cases q
/-- all that is asked of a class of exceptions -/
structure XcC (K : PySem.W.Frag) (C : Addr) : Prop where
  cl : (PySem.W.clsIn K C).isSome = true
  ga : PySem.W.findIn K (.ref C) "__getattribute__" = some (some (.builtin "BaseException.__getattribute__"))
  gg : PySem.W.findIn K (.ref C) "__getattr__" = some none
  sb : PySem.W.subIn K (.ref C) (.type "BaseException") = some true
  hd : PySem.W.hasDictIn K C = true
  hc : PySem.W.findIn K (.ref C) "__class__" = some (some (.builtin "object.__class__"))
  sg : PySem.W.specialIn K (.builtin "object.__class__") "__get__" = some (some (.builtin "getset_descriptor.__get__"))
  tk : PySem.W.takesIn K (.builtin "object.__class__") = some true
  mo : PySem.W.mroIn K C (.type "object") = some true
  sa : PySem.W.findIn K (.ref C) "__setattr__" = some (some (.builtin "object.__setattr__"))
  ty : PySem.W.typeIn K (.ref C) = some (.type "type")
  kp : PySem.W.keepIn K (.ref C) = true
def xcB (K : PySem.W.Frag) (C : Addr) : Bool :=
  (PySem.W.clsIn K C).isSome && (He.eqO (PySem.W.findIn K (.ref C) "__getattribute__") (some (some (.builtin "BaseException.__getattribute__"))) && (He.eqO (PySem.W.findIn K (.ref C) "__getattr__") (some none) && (decide (PySem.W.subIn K (.ref C) (.type "BaseException") = some true) &&
  (PySem.W.hasDictIn K C && (He.eqO (PySem.W.findIn K (.ref C) "__class__") (some (some (.builtin "object.__class__"))) && (He.eqO (PySem.W.specialIn K (.builtin "object.__class__") "__get__") (some (some (.builtin "getset_descriptor.__get__"))) &&
  (decide (PySem.W.takesIn K (.builtin "object.__class__") = some true) && (decide (PySem.W.mroIn K C (.type "object") = some true) && (He.eqO (PySem.W.findIn K (.ref C) "__setattr__") (some (some (.builtin "object.__setattr__"))) && (decide (PySem.W.typeIn K (.ref C) = some (.type "type")) && PySem.W.keepIn K (.ref C)))))))))))
theorem xcB_ok {K : PySem.W.Frag} {C : Addr} (q : xcB K C = true) : XcC K C := by
  obtain ⟨q1, q⟩ := He.ba q
  obtain ⟨q2, q⟩ := He.ba q
  obtain ⟨q3, q⟩ := He.ba q
  obtain ⟨q4, q⟩ := He.ba q
  obtain ⟨q5, q⟩ := He.ba q
  obtain ⟨q6, q⟩ := He.ba q
  obtain ⟨q7, q⟩ := He.ba q
  obtain ⟨q8, q⟩ := He.ba q
  obtain ⟨q9, q⟩ := He.ba q
  obtain ⟨q10, q⟩ := He.ba q
  obtain ⟨q11, q12⟩ := He.ba q
  exact ⟨q1, He.eqO_ok q2, He.eqO_ok q3, of_decide_eq_true q4, q5, He.eqO_ok q6, He.eqO_ok q7, of_decide_eq_true q8, of_decide_eq_true q9, He.eqO_ok q10, of_decide_eq_true q11, q12⟩
theorem XcC.oex {K : PySem.W.Frag} {C : Addr} (x : XcC K C) (o : oexB K C = true) : OexC K C := ⟨oexB_ok o, x.sa, x.sb, x.ty, x.kp⟩
theorem XcC.xf {K : PySem.W.Frag} {C : Addr} (x : XcC K C) : XfC K C := ⟨x.ga, x.gg, x.sb, x.hd⟩
/-! ### isinstance(e, c) in the suite, whatever the exception's dict -/
def rIsX (K : PySem.W.Frag) (a : Addr) (cls : Value) (d : Option Addr) : List V → Hp → VK → Prop := fun xs H Q =>
  ∃ (D : Addr) (c : V) (cv : Value) (b : Bool), cls = .ref D ∧ XcC K D ∧ (∀ dd, d = some dd → ∃ fs, H dd = some (.xd fs)) ∧ xs = [.ref a, c] ∧ (∀ u, RelV c u → u = cv) ∧ PySem.W.kitOne K (.ref D) cv = some b ∧ Q (.bl b) H
theorem call_isX {X : Cx} {a : Addr} {oe : Obj} {cls : Value} {d : Option Addr} {pn : List (Addr × Obj)} (hz : Zc cls d oe) (hf : ∃ vs, oe.data = .fields vs) : CallR (X.suite a ((a, oe) :: pn)) (.builtin "isinstance") (rIsX X.K a cls d) := by
  intro pins s σ H xs us Q I r h
  obtain ⟨D, c, cv, b, rfl, C, hd, rfl, hcv, e, q⟩ := h
  cases r with
  | cons rx rr =>
    cases rr with
    | cons rt rr =>
      cases rr
      cases rx
      have ec := hcv _ rt
      subst ec
      obtain ⟨hget, _⟩ := I.pin (a, oe) (List.mem_append_left _ List.mem_cons_self)
      obtain ⟨vs, hv⟩ := hf
      obtain ⟨z1, z2⟩ := hz
      obtain ⟨od, J⟩ : ∃ od, PySem.W.InstAt s.heap a oe D od := by
        cases d with
        | none =>
          refine ⟨none, hget, z1, by unfold PySem.W.notCls; rw [hv] <;> rfl, ?_⟩
          rw [z2]
          trivial
        | some dd =>
          obtain ⟨fs, hfs⟩ := hd dd rfl
          have hx : ObjOk X.prog X.w H s.heap dd (.xd fs) := I.hok dd _ hfs
          obtain ⟨mA, ⟨o, _, _, ho, _⟩, _⟩ := hx
          refine ⟨some o, hget, z1, by unfold PySem.W.notCls; rw [hv] <;> rfl, ?_⟩
          rw [z2]
          exact ho
      exact PySem.W.kia_one (PySem.W.kitx_exc C.cl C.ga C.gg C.sb C.hc C.sg C.tk C.mo) I.kIn J e (fun z => nomatch z) fun tk => ⟨.bl b, H, I.kept (t' := tk) fun _ _ z => z, rfl, q⟩
/-! ### e.f in the suite -/
def tXg (K : PySem.W.Frag) (a : Addr) (cls : Value) (d : Option Addr) (f : Str) (te : TE) : TE := fun σ H Q => te σ H fun x H1 => x = .ref a ∧ ∃ (C dd : Addr) (fs : List (Str × V)) (v : V), cls = .ref C ∧ XcC K C ∧ PySem.W.findIn K (.ref C) f = some none ∧ d = some dd ∧ H1 dd = some (.xd fs) ∧ fs.lookup f = some v ∧ Q v H1
theorem pe_xg {X : Cx} {a : Addr} {oe : Obj} {cls : Value} {d : Option Addr} {pn : List (Addr × Obj)} {e : Expr} {te : TE} {pos : Pos} {n : Str} (hz : Zc cls d oe) (hf : ∃ vs, oe.data = .fields vs) (he : PE (X.suite a ((a, oe) :: pn)) e te)
    (hb : attributeBase e n X.env (eval e X.env) = eval e X.env := by rfl) : PE (X.suite a ((a, oe) :: pn)) (.Attribute e n pos) (tXg X.K a cls d n te) := by
  refine ⟨fun pins s σ H Q I h => ?_⟩
  have base := (he.run pins s σ H _ I h)
  refine attr_of hb (thn base fun u s1 hh => ?_)
  obtain ⟨x, H1, I1, rx, ex, C, dd, fs, v, rfl, T, hno, rfl, ea, l, q⟩ := hh
  subst ex
  obtain rfl : u = Value.ref a := rx
  obtain ⟨ha, _⟩ := I1.pin (a, oe) (List.mem_append_left _ List.mem_cons_self)
  obtain ⟨vs, hdt⟩ := hf
  have hx : ObjOk X.prog X.w H1 s1.heap dd (.xd fs) := I1.hok dd _ ea
  obtain ⟨mA, hns, hr⟩ := hx
  obtain ⟨od, ho, hl⟩ := lookIn_ns hns
  obtain ⟨u, hu, ru⟩ := RelO.some_of (v := v) (o := mA n) (by rw [← l]; exact hr n)
  have nc : PySem.W.notCls oe = true := by unfold PySem.W.notCls; rw [hdt] <;> rfl
  have J : PySem.W.InstAt s1.heap a oe C (some od) := ⟨ha, hz.1, nc, by rw [hz.2]; exact ho⟩
  refine HandSPX.exc_get I1.kIn J T.ga T.gg T.sb (PySem.W.findObj_own T.hd hno rfl (by rw [hl, hu])) (handed_of ru) ⟨v, H1, I1.tok _, ru, q⟩
/-! ### W.__init__(self, ..), W an own class over ValueError without an own __init__ -/
theorem pe_weinit {X : Cx} {e : Expr} {es : List Expr} {ta : TA} {x : Str} {p1 p2 pos : Pos} {pl : Sem Bool} {W : Addr} (gx : Gl X x) (mx : X.mg x = some (.ref W))
    (sg : PySem.W.specialIn X.K (.ref W) "__getattribute__" = some (some (.builtin "type.__getattribute__"))) (rd : PySem.W.readsIn X.K W (.type "type") = true)
    (fc : PySem.W.findCls X.K (.ref W) (.type "type") "__init__" = some (.val (.builtin "ValueError.__init__"))) (pa : PA X (e :: es) ta)
    (ec : eval (.Call (.Attribute (.Name x p1) "__init__" p2) (e :: es) [] pos) X.env = (do
      let ov ← eval (.Name x p1) X.env
      standAt p2.atName
      let (fu, fi) ← holding [ov] (getMethod ov "__init__" pl)
      callWith pos fu fi (backTo pos (starEach (e :: es) X.env)) (backToKw pos (keywordEach [] X.env))) := by rfl)
    (hdb : (x == ("__debug__" : Str)) = false := by decide) (h1 : starEach (e :: es) X.env = (false, eval e X.env) :: starEach es X.env := by rfl) (h2 : (backTo pos (starEach es X.env)).any (·.1) = false := by rfl) :
    PE X (.Call (.Attribute (.Name x p1) "__init__" p2) (e :: es) [] pos) (tVeI X.K ta) := by
  refine ⟨fun pins s σ H Q I h => ?_⟩
  refine PySem.W.methodCall_KW (ld_glob I gx mx ?_ hdb) ec
  refine PySem.W.method_cls I.kIn sg (PySem.W.cls_value I.kIn rd fc (by decide +kernel) ?_)
  refine PyProof.Rows.callWith_method1 (thn (pa.run pos pins _ σ H _ (I.tok _) h) fun us s1 hh => ?_) h1 h2
  obtain ⟨vs, H1, I1, r1, a, C, ws, ev, hl, T, ea, q⟩ := hh
  subst ev
  cases r1 with
  | @cons _ u0 _ ur ra rw' =>
    obtain rfl : u0 = Value.ref a := ra
    refine oinit_ok T I1 ea (by rw [← Paired.length rw', sizeLine_eq]; omega) fun s' J => ⟨.non, H1, J, rfl, q⟩
/-! ### raise C(n) of a class whose __init__ keeps one field -/
/-- what __init__ of such a class does -/
def spExI (K : PySem.W.Frag) (C : Addr) (f : Str) : Sp := fun vs H Q _ => ∃ (a : Addr) (n : Int), vs = [.ref a, .int n] ∧ n.natAbs < 2 ^ 60 ∧ H a = some (exo a C none) ∧
  ∀ dx, H dx = none → dx ≠ a → Q .non (upd (upd H dx (exd dx [(f, .int n)])) a (exo a C (some dx)))
theorem rz_go {C : Addr} {f : Str} {K : PySem.W.Frag} {H1 : Hp} {Q : XK} {n : Int} (hn : n.natAbs < 2 ^ 60) (k : ∀ d, H1 d = none → Q (.ref C) (some d) (upd H1 d (.xd [(f, .int n)]))) :
    ([V.int n] : List V).length ≤ 1000 ∧ ∀ a, H1 a = none → spExI K C f (.ref a :: ([V.int n] ++ [])) (upd H1 a (exo a C none))
      (fun v H2 => v = .non ∧ ∃ (d : Addr) (fs : List (Str × V)), H2 a = some (exo a C (some d)) ∧ H2 d = some (exd d fs) ∧ H1 d = none ∧ Q (.ref C) (some d) (upd (del H2 a) d (.xd fs))) (fun _ _ _ => False) := by
  refine ⟨by show 1 ≤ 1000; decide, fun a ha => ⟨a, n, rfl, hn, upd_same, fun dx hdx hne => ?_⟩⟩
  have hd1 : H1 dx = none := by
    rw [upd_ne hne] at hdx
    exact hdx
  refine ⟨rfl, dx, [(f, .int n)], upd_same, by rw [upd_ne hne, upd_same], hd1, ?_⟩
  have e : upd (del (upd (upd (upd H1 a (exo a C none)) dx (exd dx [(f, V.int n)])) a (exo a C (some dx))) a) dx (HO.xd [(f, V.int n)]) = upd H1 dx (.xd [(f, .int n)]) := by
    funext b
    by_cases hb : b = dx
    · rw [hb, upd_same, upd_same]
    · rw [upd_ne hb, upd_ne hb]
      by_cases ha2 : b = a
      · rw [ha2, del_same, ha]
      · rw [del_ne ha2, upd_ne ha2, upd_ne hb, upd_ne ha2]
  rw [e]
  exact k dx hd1
theorem log60 {n : Int} (h : n.natAbs < 2 ^ 60) : n.natAbs.log2 < 1920 := by
  by_cases z : n.natAbs = 0
  · rw [z]
    decide
  · exact Nat.lt_trans ((Nat.log2_lt z).mpr h) (by decide)
theorem int_fits60 {n : Int} (h : n.natAbs < 2 ^ 60) {x : Str} (hx : x.length ≤ 100) : (x ++ Str.ofString (toString n)).length ≤ sizeLine := by
  have e := int_text_length_le (a := n) (k := 1920) (by decide) (log60 h)
  rw [Str.length_append, PySem.ofString_length, sizeLine_eq]
  omega
theorem isFn_ty {K : PySem.W.Frag} {v : Value} (h : PySem.W.isFn K v = true) : PySem.W.typeIn K v = some (.type "function") := eq_of_beq h
/-- the slots are as many as the names -/
theorem takesLen {X : Cx} {W : WX} (t : Takes X W) : Takes X (fun cls d σ H => σ.length = X.N.length → W cls d σ H) := fun u s' ⟨a, B, sI, pins, σ, H, cls, d, e, I, nb, up, sky, na, os, ag, w⟩ =>
  t u s' ⟨a, B, sI, pins, σ, H, cls, d, e, I, nb, up, sky, na, os, ag, w I.len⟩
/-! ### the program's classes of exceptions, by their names -/
structure ExcT (K : PySem.W.Frag) (cs : List Str) : Prop where
  xc : ∀ c ∈ cs, XcC K (He.ga K c)
  ex : ∀ c ∈ cs, PySem.W.exmOne K (.ref (He.ga K c)) (.ref (He.ga K "WayError")) = some true
  kit : ∀ c ∈ cs, ∀ d ∈ cs, PySem.W.kitOne K (.ref (He.ga K c)) (.ref (He.ga K d)) = some (decide (c = d))
  kv : ∀ c ∈ cs, PySem.W.kitOne K (.ref (He.ga K c)) (.type "ValueError") = some true
  sg : PySem.W.specialIn K (.ref (He.ga K "WayError")) "__getattribute__" = some (some (.builtin "type.__getattribute__"))
  rd : PySem.W.readsIn K (He.ga K "WayError") (.type "type") = true
  fc : PySem.W.findCls K (.ref (He.ga K "WayError")) (.type "type") "__init__" = some (.val (.builtin "ValueError.__init__"))
def isVal (r : Option PySem.W.CFound) (v : Value) : Bool := match r with
  | some (.val u) => decide (u = v)
  | _ => false
theorem isVal_ok {r : Option PySem.W.CFound} {v : Value} (h : isVal r v = true) : r = some (.val v) := by
  unfold isVal at h
  split at h
  · rw [of_decide_eq_true h]
  · cases h
def excTB (K : PySem.W.Frag) (cs : List Str) : Bool :=
  (cs.all fun c => xcB K (He.ga K c) && (decide (PySem.W.exmOne K (.ref (He.ga K c)) (.ref (He.ga K "WayError")) = some true) && (decide (PySem.W.kitOne K (.ref (He.ga K c)) (.type "ValueError") = some true) && cs.all fun d => decide (PySem.W.kitOne K (.ref (He.ga K c)) (.ref (He.ga K d)) = some (decide (c = d)))))) &&
  (He.eqO (PySem.W.specialIn K (.ref (He.ga K "WayError")) "__getattribute__") (some (some (.builtin "type.__getattribute__"))) && (PySem.W.readsIn K (He.ga K "WayError") (.type "type") && isVal (PySem.W.findCls K (.ref (He.ga K "WayError")) (.type "type") "__init__") (.builtin "ValueError.__init__")))
theorem excTB_ok {K : PySem.W.Frag} {cs : List Str} (h : excTB K cs = true) : ExcT K cs := by
  obtain ⟨h1, h⟩ := He.ba h
  obtain ⟨h2, h⟩ := He.ba h
  obtain ⟨h3, h4⟩ := He.ba h
  have at_ := List.all_eq_true.mp h1
  refine ⟨fun c hc => ?_, fun c hc => ?_, fun c hc d hd => ?_, fun c hc => ?_, He.eqO_ok h2, h3, isVal_ok h4⟩
  · exact xcB_ok (He.ba (at_ c hc)).1
  · exact of_decide_eq_true (He.ba (He.ba (at_ c hc)).2).1
  · exact of_decide_eq_true (List.all_eq_true.mp (He.ba (He.ba (He.ba (at_ c hc)).2).2).2 d hd)
  · exact of_decide_eq_true (He.ba (He.ba (He.ba (at_ c hc)).2).2).1
def bads4 : List Str := ["BadRule", "BadDeed", "BadLeavings", "BadText"]
def bads : List Str := ["BadRule", "BadHands", "BadHand", "BadPlace", "BadNumber", "BadDeed", "BadRoom", "BadWays", "BadLeavings", "BadText"]
/-! ### the head's facts, the interpreter's statics among them -/
def asY (g : Addr → Option Obj) (n : Nat) : List Addr := He.asD g n ++ [cStatics]
def obsY (n : Nat) (fa : List He.Fa) (fn : List He.DefD) (tf : List He.Defn) (ex : PySem.W.Frag → Bool) (g : Addr → Option Obj) : He.AlX := (He.obsT fa fn [] (He.frT g (asY g n)), ex (He.frT g (asY g n)) && He.tabsB g tf (He.frT g (asY g n)))
theorem saysY_of {n : Nat} {fa : List He.Fa} {fn : List He.DefD} {tf : List He.Defn} {ex : PySem.W.Frag → Bool} {w : World} {h : Heap} (e : obsY n fa fn tf ex h.get? = He.valX fn [] w) : He.SaysX fa fn [] tf ex w h (He.frT h.get? (asY h.get? n)) := by
  have out : ∀ {a : Addr} {o : Obj}, h.get? a = some o → He.emptyTab o = true → (He.frT h.get? (asY h.get? n)).lookup a = none := fun q z => He.frT_none q z
  have e1 := congrArg Prod.fst e
  have e2 := congrArg Prod.snd e
  dsimp only [obsY] at e1 e2
  generalize He.frT h.get? (asY h.get? n) = K at e1 e2 out ⊢
  obtain ⟨a1, a2⟩ := He.ba (show (ex K && He.tabsB h.get? tf K) = true from e2)
  have key : ∀ p ∈ tf, PySem.W.codeHdIn K (He.cT K p).1 (He.cT K p).2 = true ∧ ∃ o, h.get? (He.cT K p).2 = some o ∧ He.emptyTab o = true := fun p hp => by
    obtain ⟨b1, b2⟩ := He.ba (List.all_eq_true.mp a2 p hp)
    refine ⟨b1, ?_⟩
    split at b2
    · rename_i o q
      exact ⟨o, q, b2⟩
    · cases b2
  refine ⟨e1, a1, fun p hp => (key p hp).1, fun p hp => ?_, fun p hp => ?_⟩
  · obtain ⟨_, o, q, z⟩ := key p hp
    exact out q z
  · obtain ⟨_, o, q, z⟩ := key p hp
    rw [q, He.emptyTab_eq z]
def hookY (n : Nat) (fa : List He.Fa) (fn : List He.DefD) (tf : List He.Defn) (ex : PySem.W.Frag → Bool) : PySem.W.Hook where
  α := He.AlX
  obs s := obsY n fa fn tf ex s.heap.get?
  val w := He.valX fn [] w
  says w h := ∃ K : PySem.W.Frag, K.In h ∧ He.SaysX fa fn [] tf ex w h K
  of _ _ e := ⟨_, He.frT_in, saysY_of e⟩
  keeps _ _ _ z k := by
    obtain ⟨K, hK, c⟩ := z
    exact ⟨K, hK.keeps k, c.t, c.more, c.hd, c.out, fun p hp => k _ _ (c.empty p hp)⟩
theorem obsY_eq {n : Nat} {fa : List He.Fa} {fn : List He.DefD} {tf : List He.Defn} {ex : PySem.W.Frag → Bool} {g : Addr → Option Obj} {s : Shared} (h : ∀ a, g a = s.heap.get? a) : obsY n fa fn tf ex g = (hookY n fa fn tf ex).obs s := by
  have e : g = s.heap.get? := funext h
  subst e
  rfl
/-! ### tables of code objects, as cells -/
def isTb : HO → Bool
  | .tbl _ => true
  | .ext _ => true
  | _ => false
/-- cells that are no tables and no code objects -/
def NT (L : List Cell) : Prop := ∀ c ∈ L, isTb c.2 = false
theorem NT.nil : NT [] := fun c hc => by cases hc
theorem NT.cons {c : Cell} {L : List Cell} (h : isTb c.2 = false) (k : NT L) : NT (c :: L) := fun d hd => by
  rcases List.mem_cons.mp hd with e | e
  · rw [e]
    exact h
  · exact k d e
theorem NT.app {L M : List Cell} (h : NT L) (k : NT M) : NT (L ++ M) := fun d hd => (List.mem_append.mp hd).elim (h d) (k d)
theorem NT.left {L M : List Cell} (h : NT (L ++ M)) : NT L := fun d hd => h d (List.mem_append_left _ hd)
theorem NT.right {L M : List Cell} (h : NT (L ++ M)) : NT M := fun d hd => h d (List.mem_append_right _ hd)
/-- of any cells those that are none -/
def nt (L : List Cell) : List Cell := L.filter fun c => !isTb c.2
theorem nt_mem {L : List Cell} {c : Cell} : c ∈ nt L ↔ c ∈ L ∧ isTb c.2 = false := by
  unfold nt
  rw [List.mem_filter]
  cases isTb c.2 <;> simp
theorem nt_NT (L : List Cell) : NT (nt L) := fun c hc => (nt_mem.mp hc).2
theorem nt_sub (L : List Cell) : (nt L).Sublist L := List.filter_sublist
theorem Own.extN {H H1 : Hp} {L : List Cell} (O : Own H L) (n : NT L) (e : LamX.ExtN H H1) : Own H1 L := ⟨O.1, fun c hc => e c.1 c.2 (O.2 c hc) fun ps z => by
  have := n c hc
  rw [z] at this
  cases this⟩
def TabC (TL : List Cell) (P : Addr) (q : Str) : Prop := ∃ ps : Array Value, (P, HO.tbl ps) ∈ TL ∧ TriplesOk ps.toList ∧ ∀ (pos : Pos) (cv : Value), codeAmong pos ps.toList = some cv → ∃ c, cv = .ref c ∧ (c, LamX.CodeO c q) ∈ TL
theorem TabC.tab {TL : List Cell} {P : Addr} {q : Str} (t : TabC TL P q) {H : Hp} (O : ∀ c ∈ TL, H c.1 = some c.2) : LamX.TabS H P q := by
  obtain ⟨ps, h1, h2, h3⟩ := t
  refine ⟨ps, O _ h1, h2, fun pos cv hc => ?_⟩
  obtain ⟨c, e, hm⟩ := h3 pos cv hc
  exact ⟨c, e, O _ hm⟩
def uniq : List Addr → List Addr
  | [] => []
  | a :: l => if a ∈ l then uniq l else a :: uniq l
theorem uniq_mem {a : Addr} : ∀ {l : List Addr}, a ∈ uniq l ↔ a ∈ l
  | [] => Iff.rfl
  | b :: l => by
    unfold uniq
    split
    · rename_i h
      rw [uniq_mem, List.mem_cons]
      exact ⟨.inr, fun z => z.elim (fun e => e ▸ h) id⟩
    · rw [List.mem_cons, List.mem_cons, uniq_mem]
theorem uniq_nd : ∀ l : List Addr, (uniq l).Nodup
  | [] => List.nodup_nil
  | b :: l => by
    unfold uniq
    split
    · exact uniq_nd l
    · rename_i h
      exact List.nodup_cons.mpr ⟨fun z => h (uniq_mem.mp z), uniq_nd l⟩
theorem among_mem {pos : Pos} {cv : Value} : ∀ {l : List Value}, codeAmong pos l = some cv → cv ∈ l := by
  intro l
  fun_induction codeAmong pos l with
  | case1 =>
    intro h
    obtain rfl := Option.some.inj h
    simp
  | case2 _ _ _ _ _ _ _ ih =>
    intro h
    have := ih h
    simp [this]
  | case3 => exact fun h => nomatch h
def refsIn (vs : List Value) : List Addr := vs.filterMap fun v => match v with
  | .ref c => some c
  | _ => none
theorem tab_cells {H : Hp} {L : List Cell} {P : Addr} {q : Str} (t : LamX.TabS H P q) (O : Own H L) (n : NT L) : ∃ TL, TabC TL P q ∧ Own H (L ++ TL) := by
  classical
  obtain ⟨ps, hP, ht, ha⟩ := t
  obtain ⟨cs, hcs⟩ : ∃ cs, cs = uniq ((refsIn ps.toList).filter fun c => decide (H c = some (LamX.CodeO c q))) := ⟨_, rfl⟩
  have hc : ∀ c ∈ cs, H c = some (LamX.CodeO c q) := fun c h => by
    rw [hcs] at h
    exact of_decide_eq_true (List.mem_filter.mp (uniq_mem.mp h)).2
  have nd : cs.Nodup := by
    rw [hcs]
    exact uniq_nd _
  have isT : ∀ d ∈ ((P, HO.tbl ps) :: cs.map fun c => (c, LamX.CodeO c q)), H d.1 = some d.2 ∧ isTb d.2 = true := fun d hd => by
    rcases List.mem_cons.mp hd with e | e
    · rw [e]
      exact ⟨hP, rfl⟩
    · obtain ⟨c, h, rfl⟩ := List.mem_map.mp e
      exact ⟨hc c h, rfl⟩
  refine ⟨(P, .tbl ps) :: cs.map fun c => (c, LamX.CodeO c q), ⟨ps, List.mem_cons_self, ht, fun pos cv h => ?_⟩, ?_, fun d hd => ?_⟩
  · obtain ⟨c, rfl, h2⟩ := ha pos cv h
    refine ⟨c, rfl, List.mem_cons_of_mem _ (List.mem_map.mpr ⟨c, ?_, rfl⟩)⟩
    rw [hcs]
    exact uniq_mem.mpr (List.mem_filter.mpr ⟨List.mem_filterMap.mpr ⟨.ref c, among_mem h, rfl⟩, decide_eq_true h2⟩)
  · rw [List.map_append]
    refine List.nodup_append.mpr ⟨O.1, ?_, fun a h1 b h2 e => ?_⟩
    · show (P :: (cs.map fun c => (c, LamX.CodeO c q)).map (·.1)).Nodup
      rw [List.map_map]
      have : cs.map ((fun x : Cell => x.1) ∘ fun c => (c, LamX.CodeO c q)) = cs := by
        show cs.map (fun c => c) = cs
        exact List.map_id' cs
      rw [this]
      refine List.nodup_cons.mpr ⟨fun z => ?_, nd⟩
      have := hc P z
      rw [hP] at this
      exact LamX.codeO_ne ps (Option.some.inj this).symm
    · obtain ⟨d, hd, rfl⟩ := List.mem_map.mp h1
      obtain ⟨d2, hd2, rfl⟩ := List.mem_map.mp h2
      have g1 := O.2 d hd
      obtain ⟨g2, g3⟩ := isT d2 hd2
      rw [e, g2] at g1
      have := n d hd
      rw [← Option.some.inj g1, g3] at this
      cases this
  · rcases List.mem_append.mp hd with h | h
    · exact O.2 d h
    · exact (isT d h).1
/-- x(lambda: ..) by cells -/
theorem lam_go {P : Addr} {q : Str} {TT : (XK → Hp → VK → Prop) → Hp → VK → Prop} {t : XK → TE} {σ : L2.St} {H : Hp} {Q : VK} {L TL : List Cell} (O : Own H (L ++ TL)) (n : NT L) (ht : TabC TL P q)
    (k : ∀ (H1 : Hp) (TL' : List Cell), TabC TL' P q → Own H1 (L ++ TL') → TT (fun E H' Q' => t E σ H' Q') H1 Q) : LamX.tLam [(P, q)] TT t σ H Q := by
  refine ⟨fun p hp => ?_, fun H1 e T1 => ?_⟩
  · rw [List.mem_singleton.mp hp]
    exact ht.tab fun c hc => O.2 c (List.mem_append_right _ hc)
  · obtain ⟨TL', h1, h2⟩ := tab_cells (T1 (P, q) List.mem_cons_self) ((O.left).extN n e) n
    exact k H1 TL' h1 h2
-- WwText
def top (i : Nat) : Stmt := PySem.Challenge.pw_writeways_k01_refused.main.body.getD i (.Pass ⟨0, 0, 0, 0⟩)
abbrev s_BadRule___init__ : Stmt := inClass (top 2) 0
abbrev s_BadDeed___init__ : Stmt := inClass (top 7) 0
abbrev s_BadLeavings___init__ : Stmt := inClass (top 10) 0
abbrev s_BadText___init__ : Stmt := inClass (top 11) 0
abbrev s_is_number : Stmt := top 26
abbrev s_is_rule : Stmt := top 27
abbrev s_need_rules : Stmt := top 28
abbrev s_need_hands : Stmt := top 29
abbrev s_is_deed : Stmt := top 30
abbrev s_need_deeds : Stmt := top 31
abbrev s_block_of : Stmt := top 32
abbrev s_Far___init__ : Stmt := inClass (top 37) 0
abbrev s_Far_bring : Stmt := inClass (top 37) 1
abbrev s_Far_home : Stmt := inClass (top 37) 2
abbrev s_Far_change : Stmt := inClass (top 37) 3
abbrev s_Line___init__ : Stmt := inClass (top 38) 0
abbrev s_Room___init__ : Stmt := inClass (top 39) 0
abbrev s_Room_lines_of : Stmt := inClass (top 39) 1
abbrev s_Room_line_of : Stmt := inClass (top 39) 2
abbrev s_Room_note : Stmt := inClass (top 39) 3
abbrev s_Room_pass_home : Stmt := inClass (top 39) 4
abbrev s_Room_pass_cell : Stmt := inClass (top 39) 5
abbrev s_Room_make_way : Stmt := inClass (top 39) 6
abbrev s_Room_touch : Stmt := inClass (top 39) 7
abbrev s_Room_reach : Stmt := inClass (top 39) 8
abbrev s_Room_bring : Stmt := inClass (top 39) 9
abbrev s_Room_look : Stmt := inClass (top 39) 10
abbrev s_Room_change : Stmt := inClass (top 39) 11
abbrev s_Room_home : Stmt := inClass (top 39) 12
abbrev s_Room_yield_up : Stmt := inClass (top 39) 13
abbrev s_Room_settle : Stmt := inClass (top 39) 14
abbrev s_Room_holds : Stmt := inClass (top 39) 15
abbrev s_Hall___init__ : Stmt := inClass (top 41) 0
abbrev s_Hall_need : Stmt := inClass (top 41) 1
abbrev s_Hall_ask_others : Stmt := inClass (top 41) 2
abbrev s_Hall_look : Stmt := inClass (top 41) 3
abbrev s_Hall_change : Stmt := inClass (top 41) 4
abbrev s_Hall_settle : Stmt := inClass (top 41) 5
abbrev s_Hall_far : Stmt := inClass (top 41) 6
abbrev s_Hall_near : Stmt := inClass (top 41) 7
abbrev s_Hall_log : Stmt := inClass (top 41) 8
abbrev s_Hall_moves : Stmt := inClass (top 41) 9
abbrev s_done : Stmt := top 42
abbrev s_told : Stmt := top 43
abbrev s_plain : Stmt := top 44
abbrev s_weight : Stmt := top 47
abbrev s_least : Stmt := top 48
abbrev s_written : Stmt := top 51
abbrev s__law_taken : Stmt := top 53
abbrev s__law_alike : Stmt := top 54
abbrev s__law_word : Stmt := top 55
abbrev s__law_rule : Stmt := top 56
abbrev s__law_rules : Stmt := top 57
abbrev s__law_place : Stmt := top 58
abbrev s__law_deeds : Stmt := top 59
abbrev s__law_bad_rules : Stmt := top 60
abbrev s__law_odd : Stmt := top 61
abbrev s__law_halls : Stmt := top 62
abbrev s_law : Stmt := top 63
theorem sc_BadRule___init__ : FnScope ["self", "number"] ["self", "number"] (defScope s_BadRule___init__) := ⟨rfl, rfl, rfl, by decide +kernel, rfl, by decide +kernel, by decide +kernel⟩
theorem sc_BadDeed___init__ : FnScope ["self", "number"] ["self", "number"] (defScope s_BadDeed___init__) := ⟨rfl, rfl, rfl, by decide +kernel, rfl, by decide +kernel, by decide +kernel⟩
theorem sc_BadLeavings___init__ : FnScope ["self", "number"] ["self", "number"] (defScope s_BadLeavings___init__) := ⟨rfl, rfl, rfl, by decide +kernel, rfl, by decide +kernel, by decide +kernel⟩
theorem sc_BadText___init__ : FnScope ["self", "row"] ["self", "row"] (defScope s_BadText___init__) := ⟨rfl, rfl, rfl, by decide +kernel, rfl, by decide +kernel, by decide +kernel⟩
theorem sc_is_number : FnScope ["part", "low", "high"] ["part", "low", "high"] (defScope s_is_number) := ⟨rfl, rfl, rfl, by decide +kernel, rfl, by decide +kernel, by decide +kernel⟩
theorem sc_is_rule : FnScope ["rule"] ["rule"] (defScope s_is_rule) := ⟨rfl, rfl, rfl, by decide +kernel, rfl, by decide +kernel, by decide +kernel⟩
theorem sc_need_rules : FnScope ["rules", "number", "rule"] ["rules"] (defScope s_need_rules) := ⟨rfl, rfl, rfl, by decide +kernel, rfl, by decide +kernel, by decide +kernel⟩
theorem sc_need_hands : FnScope ["hands"] ["hands"] (defScope s_need_hands) := ⟨rfl, rfl, rfl, by decide +kernel, rfl, by decide +kernel, by decide +kernel⟩
theorem sc_is_deed : FnScope ["deed", "hands"] ["deed", "hands"] (defScope s_is_deed) := ⟨rfl, rfl, rfl, by decide +kernel, rfl, by decide +kernel, by decide +kernel⟩
theorem sc_need_deeds : FnScope ["deeds", "hands", "number", "deed"] ["deeds", "hands"] (defScope s_need_deeds) := ⟨rfl, rfl, rfl, by decide +kernel, rfl, by decide +kernel, by decide +kernel⟩
theorem sc_block_of : FnScope ["place"] ["place"] (defScope s_block_of) := ⟨rfl, rfl, rfl, by decide +kernel, rfl, by decide +kernel, by decide +kernel⟩
theorem sc_Far___init__ : FnScope ["self"] ["self"] (defScope s_Far___init__) := ⟨rfl, rfl, rfl, by decide +kernel, rfl, by decide +kernel, by decide +kernel⟩
theorem sc_Far_bring : FnScope ["self", "block"] ["self", "block"] (defScope s_Far_bring) := ⟨rfl, rfl, rfl, by decide +kernel, rfl, by decide +kernel, by decide +kernel⟩
theorem sc_Far_home : FnScope ["self", "block", "numbers"] ["self", "block", "numbers"] (defScope s_Far_home) := ⟨rfl, rfl, rfl, by decide +kernel, rfl, by decide +kernel, by decide +kernel⟩
theorem sc_Far_change : FnScope ["self", "place", "number"] ["self", "place", "number"] (defScope s_Far_change) := ⟨rfl, rfl, rfl, by decide +kernel, rfl, by decide +kernel, by decide +kernel⟩
theorem sc_Line___init__ : FnScope ["self", "block", "numbers"] ["self", "block", "numbers"] (defScope s_Line___init__) := ⟨rfl, rfl, rfl, by decide +kernel, rfl, by decide +kernel, by decide +kernel⟩
theorem sc_Room___init__ : FnScope ["self", "rule", "behind", "title", "diary", "number"] ["self", "rule", "behind", "title", "diary"] (defScope s_Room___init__) := ⟨rfl, rfl, rfl, by decide +kernel, rfl, by decide +kernel, by decide +kernel⟩
theorem sc_Room_lines_of : FnScope ["self", "block"] ["self", "block"] (defScope s_Room_lines_of) := ⟨rfl, rfl, rfl, by decide +kernel, rfl, by decide +kernel, by decide +kernel⟩
theorem sc_Room_line_of : FnScope ["self", "block", "line"] ["self", "block"] (defScope s_Room_line_of) := ⟨rfl, rfl, rfl, by decide +kernel, rfl, by decide +kernel, by decide +kernel⟩
theorem sc_Room_note : FnScope ["self", "word", "number"] ["self", "word", "number"] (defScope s_Room_note) := ⟨rfl, rfl, rfl, by decide +kernel, rfl, by decide +kernel, by decide +kernel⟩
theorem sc_Room_pass_home : FnScope ["self", "line"] ["self", "line"] (defScope s_Room_pass_home) := ⟨rfl, rfl, rfl, by decide +kernel, rfl, by decide +kernel, by decide +kernel⟩
theorem sc_Room_pass_cell : FnScope ["self", "place", "number"] ["self", "place", "number"] (defScope s_Room_pass_cell) := ⟨rfl, rfl, rfl, by decide +kernel, rfl, by decide +kernel, by decide +kernel⟩
theorem sc_Room_make_way : FnScope ["self", "block", "lines", "line"] ["self", "block"] (defScope s_Room_make_way) := ⟨rfl, rfl, rfl, by decide +kernel, rfl, by decide +kernel, by decide +kernel⟩
theorem sc_Room_touch : FnScope ["self", "line", "lines"] ["self", "line"] (defScope s_Room_touch) := ⟨rfl, rfl, rfl, by decide +kernel, rfl, by decide +kernel, by decide +kernel⟩
theorem sc_Room_reach : FnScope ["self", "block", "line"] ["self", "block"] (defScope s_Room_reach) := ⟨rfl, rfl, rfl, by decide +kernel, rfl, by decide +kernel, by decide +kernel⟩
theorem sc_Room_bring : FnScope ["self", "block"] ["self", "block"] (defScope s_Room_bring) := ⟨rfl, rfl, rfl, by decide +kernel, rfl, by decide +kernel, by decide +kernel⟩
theorem sc_Room_look : FnScope ["self", "place"] ["self", "place"] (defScope s_Room_look) := ⟨rfl, rfl, rfl, by decide +kernel, rfl, by decide +kernel, by decide +kernel⟩
theorem sc_Room_change : FnScope ["self", "place", "number", "line"] ["self", "place", "number"] (defScope s_Room_change) := ⟨rfl, rfl, rfl, by decide +kernel, rfl, by decide +kernel, by decide +kernel⟩
theorem sc_Room_home : FnScope ["self", "block", "numbers", "line"] ["self", "block", "numbers"] (defScope s_Room_home) := ⟨rfl, rfl, rfl, by decide +kernel, rfl, by decide +kernel, by decide +kernel⟩
theorem sc_Room_yield_up : FnScope ["self", "block", "is_gone", "line"] ["self", "block", "is_gone"] (defScope s_Room_yield_up) := ⟨rfl, rfl, rfl, by decide +kernel, rfl, by decide +kernel, by decide +kernel⟩
theorem sc_Room_settle : FnScope ["self", "lines", "line"] ["self"] (defScope s_Room_settle) := ⟨rfl, rfl, rfl, by decide +kernel, rfl, by decide +kernel, by decide +kernel⟩
theorem sc_Room_holds : FnScope ["self", "lines", "line"] ["self"] (defScope s_Room_holds) := ⟨rfl, rfl, rfl, by decide +kernel, rfl, by decide +kernel, by decide +kernel⟩
theorem sc_Hall___init__ : FnScope ["self", "rules", "hands", "behind", "level", "hand"] ["self", "rules", "hands"] (defScope s_Hall___init__) := ⟨rfl, rfl, rfl, by decide +kernel, rfl, by decide +kernel, by decide +kernel⟩
theorem sc_Hall_need : FnScope ["self", "hand", "place"] ["self", "hand", "place"] (defScope s_Hall_need) := ⟨rfl, rfl, rfl, by decide +kernel, rfl, by decide +kernel, by decide +kernel⟩
theorem sc_Hall_ask_others : FnScope ["self", "hand", "place", "is_gone", "other"] ["self", "hand", "place", "is_gone"] (defScope s_Hall_ask_others) := ⟨rfl, rfl, rfl, by decide +kernel, rfl, by decide +kernel, by decide +kernel⟩
theorem sc_Hall_look : FnScope ["self", "hand", "place"] ["self", "hand", "place"] (defScope s_Hall_look) := ⟨rfl, rfl, rfl, by decide +kernel, rfl, by decide +kernel, by decide +kernel⟩
theorem sc_Hall_change : FnScope ["self", "hand", "place", "number"] ["self", "hand", "place", "number"] (defScope s_Hall_change) := ⟨rfl, rfl, rfl, by decide +kernel, rfl, by decide +kernel, by decide +kernel⟩
theorem sc_Hall_settle : FnScope ["self", "room"] ["self"] (defScope s_Hall_settle) := ⟨rfl, rfl, rfl, by decide +kernel, rfl, by decide +kernel, by decide +kernel⟩
theorem sc_Hall_far : FnScope ["self"] ["self"] (defScope s_Hall_far) := ⟨rfl, rfl, rfl, by decide +kernel, rfl, by decide +kernel, by decide +kernel⟩
theorem sc_Hall_near : FnScope ["self", "level", "hand"] ["self", "level", "hand"] (defScope s_Hall_near) := ⟨rfl, rfl, rfl, by decide +kernel, rfl, by decide +kernel, by decide +kernel⟩
theorem sc_Hall_log : FnScope ["self"] ["self"] (defScope s_Hall_log) := ⟨rfl, rfl, rfl, by decide +kernel, rfl, by decide +kernel, by decide +kernel⟩
theorem sc_Hall_moves : FnScope ["self", "found", "level", "words", "one", "hand", "word", "number"] ["self"] (defScope s_Hall_moves) := ⟨rfl, rfl, rfl, by decide +kernel, rfl, by decide +kernel, by decide +kernel⟩
theorem sc_done : FnScope ["hall", "deeds", "found", "deed"] ["hall", "deeds"] (defScope s_done) := ⟨rfl, rfl, rfl, by decide +kernel, rfl, by decide +kernel, by decide +kernel⟩
theorem sc_told : FnScope ["rules", "hands", "deeds", "hall", "found"] ["rules", "hands", "deeds"] (defScope s_told) := ⟨rfl, rfl, rfl, by decide +kernel, rfl, by decide +kernel, by decide +kernel⟩
theorem sc_plain : FnScope ["hands", "deeds", "cells", "found", "deed"] ["hands", "deeds"] (defScope s_plain) := ⟨rfl, rfl, rfl, by decide +kernel, rfl, by decide +kernel, by decide +kernel⟩
theorem sc_weight : FnScope ["moves", "brought", "home", "cells"] ["moves"] (defScope s_weight) := ⟨rfl, rfl, rfl, by decide +kernel, rfl, by decide +kernel, by decide +kernel⟩
theorem sc_least : FnScope ["halls", "hands", "deeds", "rules", "found", "hall"] ["halls", "hands", "deeds"] (defScope s_least) := ⟨rfl, rfl, rfl, by decide +kernel, rfl, by decide +kernel, by decide +kernel⟩
theorem sc_written : FnScope ["rules", "deeds", "rows", "rule", "deed", "part"] ["rules", "deeds"] (defScope s_written) := ⟨rfl, rfl, rfl, by decide +kernel, rfl, by decide +kernel, by decide +kernel⟩
theorem sc__law_taken : FnScope ["_law_row", "_law_many", "_law_cell"] ["_law_row", "_law_many"] (defScope s__law_taken) := ⟨rfl, rfl, rfl, by decide +kernel, rfl, by decide +kernel, by decide +kernel⟩
theorem sc__law_alike : FnScope ["_law_found", "_law_due", "_law_k"] ["_law_found", "_law_due"] (defScope s__law_alike) := ⟨rfl, rfl, rfl, by decide +kernel, rfl, by decide +kernel, by decide +kernel⟩
theorem sc__law_word : FnScope ["_law_work", "_law_kinds", "_law_e", "_law_word_here"] ["_law_work"] (defScope s__law_word) := ⟨rfl, rfl, rfl, by decide +kernel, rfl, by decide +kernel, by decide +kernel⟩
theorem sc__law_rule : FnScope ["_law_row", "_law_write", "_law_take"] ["_law_row"] (defScope s__law_rule) := ⟨rfl, rfl, rfl, by decide +kernel, rfl, by decide +kernel, by decide +kernel⟩
theorem sc__law_rules : FnScope ["_law_row", "_law_k"] ["_law_row"] (defScope s__law_rules) := ⟨rfl, rfl, rfl, by decide +kernel, rfl, by decide +kernel, by decide +kernel⟩
theorem sc__law_place : FnScope ["_law_row", "_law_most"] ["_law_row", "_law_most"] (defScope s__law_place) := ⟨rfl, rfl, rfl, by decide +kernel, rfl, by decide +kernel, by decide +kernel⟩
theorem sc__law_deeds : FnScope ["_law_row", "_law_hands", "_law_most", "_law_few", "_law_found", "_law_k", "_law_hand", "_law_place_here"] ["_law_row", "_law_hands", "_law_most"] (defScope s__law_deeds) := ⟨rfl, rfl, rfl, by decide +kernel, rfl, by decide +kernel, by decide +kernel⟩
theorem sc__law_bad_rules : FnScope ["_law_row", "_law_rules_here", "_law_far", "_law_at", "_law_rule_here", "_law_some", "_law_odd_here"] ["_law_row", "_law_rules_here", "_law_far"] (defScope s__law_bad_rules) := ⟨rfl, rfl, rfl, by decide +kernel, rfl, by decide +kernel, by decide +kernel⟩
theorem sc__law_odd : FnScope ["_law_row", "_law_hands", "_law_far", "_law_some"] ["_law_row", "_law_hands", "_law_far"] (defScope s__law_odd) := ⟨rfl, rfl, rfl, by decide +kernel, rfl, by decide +kernel, by decide +kernel⟩
theorem sc__law_halls : FnScope ["_law_row", "_law_rules_here", "_law_hands", "_law_far", "_law_hall", "_law_hand", "_law_place_here", "_law_number", "_law_words", "_law_level"] ["_law_row", "_law_rules_here", "_law_hands", "_law_far"] (defScope s__law_halls) := ⟨rfl, rfl, rfl, by decide +kernel, rfl, by decide +kernel, by decide +kernel⟩
theorem sc_law : FnScope ["_law_script", "_law_row", "_law_turn", "_law_rules_here", "_law_hands", "_law_deeds_here", "_law_far", "_law_bad", "_law_due", "_law_works", "_law_odd_here", "_law_at", "_law_spoilt", "_law_many", "_law_some", "_law_work"] ["_law_script"] (defScope s_law) := ⟨rfl, rfl, rfl, by decide +kernel, rfl, by decide +kernel, by decide +kernel⟩
structure Txt (K : PySem.W.Frag) (mg : Str → Option Value) where
  g_is_number : mg "is_number" = some (.ref (He.ga K "is_number"))
  g_is_rule : mg "is_rule" = some (.ref (He.ga K "is_rule"))
  g_need_rules : mg "need_rules" = some (.ref (He.ga K "need_rules"))
  g_need_hands : mg "need_hands" = some (.ref (He.ga K "need_hands"))
  g_is_deed : mg "is_deed" = some (.ref (He.ga K "is_deed"))
  g_need_deeds : mg "need_deeds" = some (.ref (He.ga K "need_deeds"))
  g_block_of : mg "block_of" = some (.ref (He.ga K "block_of"))
  g_done : mg "done" = some (.ref (He.ga K "done"))
  g_told : mg "told" = some (.ref (He.ga K "told"))
  g_plain : mg "plain" = some (.ref (He.ga K "plain"))
  g_weight : mg "weight" = some (.ref (He.ga K "weight"))
  g_least : mg "least" = some (.ref (He.ga K "least"))
  g_written : mg "written" = some (.ref (He.ga K "written"))
  g__law_taken : mg "_law_taken" = some (.ref (He.ga K "_law_taken"))
  g__law_alike : mg "_law_alike" = some (.ref (He.ga K "_law_alike"))
  g__law_word : mg "_law_word" = some (.ref (He.ga K "_law_word"))
  g__law_rule : mg "_law_rule" = some (.ref (He.ga K "_law_rule"))
  g__law_rules : mg "_law_rules" = some (.ref (He.ga K "_law_rules"))
  g__law_place : mg "_law_place" = some (.ref (He.ga K "_law_place"))
  g__law_deeds : mg "_law_deeds" = some (.ref (He.ga K "_law_deeds"))
  g__law_bad_rules : mg "_law_bad_rules" = some (.ref (He.ga K "_law_bad_rules"))
  g__law_odd : mg "_law_odd" = some (.ref (He.ga K "_law_odd"))
  g__law_halls : mg "_law_halls" = some (.ref (He.ga K "_law_halls"))
  g_law : mg "law" = some (.ref (He.ga K "law"))
  g_WayError : mg "WayError" = some (.ref (He.ga K "WayError"))
  g_BadRule : mg "BadRule" = some (.ref (He.ga K "BadRule"))
  g_BadHands : mg "BadHands" = some (.ref (He.ga K "BadHands"))
  g_BadHand : mg "BadHand" = some (.ref (He.ga K "BadHand"))
  g_BadPlace : mg "BadPlace" = some (.ref (He.ga K "BadPlace"))
  g_BadNumber : mg "BadNumber" = some (.ref (He.ga K "BadNumber"))
  g_BadDeed : mg "BadDeed" = some (.ref (He.ga K "BadDeed"))
  g_BadRoom : mg "BadRoom" = some (.ref (He.ga K "BadRoom"))
  g_BadWays : mg "BadWays" = some (.ref (He.ga K "BadWays"))
  g_BadLeavings : mg "BadLeavings" = some (.ref (He.ga K "BadLeavings"))
  g_BadText : mg "BadText" = some (.ref (He.ga K "BadText"))
  g_Far : mg "Far" = some (.ref (He.ga K "Far"))
  g_Line : mg "Line" = some (.ref (He.ga K "Line"))
  g_Room : mg "Room" = some (.ref (He.ga K "Room"))
  g_Hall : mg "Hall" = some (.ref (He.ga K "Hall"))
  cl_Far : Cls K (He.ga K "Far")
  na_Far_held : NoAttr K (He.ga K "Far") "held"
  mk_Far : Mk K (He.ga K "Far") (He.ma K (He.ga K "Far") "__init__")
  m_Far_bring : Meth K (He.ga K "Far") "bring" (He.ma K (He.ga K "Far") "bring")
  m_Far_home : Meth K (He.ga K "Far") "home" (He.ma K (He.ga K "Far") "home")
  m_Far_change : Meth K (He.ga K "Far") "change" (He.ma K (He.ga K "Far") "change")
  cl_Line : Cls K (He.ga K "Line")
  na_Line_block : NoAttr K (He.ga K "Line") "block"
  na_Line_numbers : NoAttr K (He.ga K "Line") "numbers"
  na_Line_is_dirty : NoAttr K (He.ga K "Line") "is_dirty"
  mk_Line : Mk K (He.ga K "Line") (He.ma K (He.ga K "Line") "__init__")
  cl_Room : Cls K (He.ga K "Room")
  na_Room_ways : NoAttr K (He.ga K "Room") "ways"
  na_Room_is_back : NoAttr K (He.ga K "Room") "is_back"
  na_Room_is_in : NoAttr K (He.ga K "Room") "is_in"
  na_Room_is_late : NoAttr K (He.ga K "Room") "is_late"
  na_Room_behind : NoAttr K (He.ga K "Room") "behind"
  na_Room_title : NoAttr K (He.ga K "Room") "title"
  na_Room_diary : NoAttr K (He.ga K "Room") "diary"
  na_Room_sets : NoAttr K (He.ga K "Room") "sets"
  mk_Room : Mk K (He.ga K "Room") (He.ma K (He.ga K "Room") "__init__")
  m_Room_lines_of : Meth K (He.ga K "Room") "lines_of" (He.ma K (He.ga K "Room") "lines_of")
  m_Room_line_of : Meth K (He.ga K "Room") "line_of" (He.ma K (He.ga K "Room") "line_of")
  m_Room_note : Meth K (He.ga K "Room") "note" (He.ma K (He.ga K "Room") "note")
  m_Room_pass_home : Meth K (He.ga K "Room") "pass_home" (He.ma K (He.ga K "Room") "pass_home")
  m_Room_pass_cell : Meth K (He.ga K "Room") "pass_cell" (He.ma K (He.ga K "Room") "pass_cell")
  m_Room_make_way : Meth K (He.ga K "Room") "make_way" (He.ma K (He.ga K "Room") "make_way")
  m_Room_touch : Meth K (He.ga K "Room") "touch" (He.ma K (He.ga K "Room") "touch")
  m_Room_reach : Meth K (He.ga K "Room") "reach" (He.ma K (He.ga K "Room") "reach")
  m_Room_bring : Meth K (He.ga K "Room") "bring" (He.ma K (He.ga K "Room") "bring")
  m_Room_look : Meth K (He.ga K "Room") "look" (He.ma K (He.ga K "Room") "look")
  m_Room_change : Meth K (He.ga K "Room") "change" (He.ma K (He.ga K "Room") "change")
  m_Room_home : Meth K (He.ga K "Room") "home" (He.ma K (He.ga K "Room") "home")
  m_Room_yield_up : Meth K (He.ga K "Room") "yield_up" (He.ma K (He.ga K "Room") "yield_up")
  m_Room_settle : Meth K (He.ga K "Room") "settle" (He.ma K (He.ga K "Room") "settle")
  m_Room_holds : Meth K (He.ga K "Room") "holds" (He.ma K (He.ga K "Room") "holds")
  cl_Hall : Cls K (He.ga K "Hall")
  na_Hall_diary : NoAttr K (He.ga K "Hall") "diary"
  na_Hall_last : NoAttr K (He.ga K "Hall") "last"
  na_Hall_shared : NoAttr K (He.ga K "Hall") "shared"
  na_Hall_own : NoAttr K (He.ga K "Hall") "own"
  mk_Hall : Mk K (He.ga K "Hall") (He.ma K (He.ga K "Hall") "__init__")
  m_Hall_need : Meth K (He.ga K "Hall") "need" (He.ma K (He.ga K "Hall") "need")
  m_Hall_ask_others : Meth K (He.ga K "Hall") "ask_others" (He.ma K (He.ga K "Hall") "ask_others")
  m_Hall_look : Meth K (He.ga K "Hall") "look" (He.ma K (He.ga K "Hall") "look")
  m_Hall_change : Meth K (He.ga K "Hall") "change" (He.ma K (He.ga K "Hall") "change")
  m_Hall_settle : Meth K (He.ga K "Hall") "settle" (He.ma K (He.ga K "Hall") "settle")
  m_Hall_far : Meth K (He.ga K "Hall") "far" (He.ma K (He.ga K "Hall") "far")
  m_Hall_near : Meth K (He.ga K "Hall") "near" (He.ma K (He.ga K "Hall") "near")
  m_Hall_log : Meth K (He.ga K "Hall") "log" (He.ma K (He.ga K "Hall") "log")
  m_Hall_moves : Meth K (He.ga K "Hall") "moves" (He.ma K (He.ga K "Hall") "moves")
  g_CELLS : ∃ t, mg "CELLS" = some (.int 64 t)
  g_BLOCK : ∃ t, mg "BLOCK" = some (.int 4 t)
  g_MOST_NUMBER : ∃ t, mg "MOST_NUMBER" = some (.int 999 t)
  g_MOST_WAYS : ∃ t, mg "MOST_WAYS" = some (.int 4 t)
  g_MOST_RULES : ∃ t, mg "MOST_RULES" = some (.int 3 t)
  g_MOST_HANDS : ∃ t, mg "MOST_HANDS" = some (.int 3 t)
  g_MOST_DEEDS : ∃ t, mg "MOST_DEEDS" = some (.int 200 t)
  g_SETS : mg "SETS" = some (.ref (He.ga K "SETS"))
  g_WRITES : mg "WRITES" = some (.ref (He.ga K "WRITES"))
  g_TAKES : mg "TAKES" = some (.ref (He.ga K "TAKES"))
  g_LEAVES : mg "LEAVES" = some (.ref (He.ga K "LEAVES"))
  g_LOOK : ∃ t, mg "LOOK" = some (.str "look" t)
  g_SET : ∃ t, mg "SET" = some (.str "set" t)
  g_BRING : ∃ t, mg "BRING" = some (.str "bring" t)
  g_HOME : ∃ t, mg "HOME" = some (.str "home" t)
  g_CELL : ∃ t, mg "CELL" = some (.str "cell" t)
  g_MOST_HALLS : ∃ t, mg "MOST_HALLS" = some (.int 6 t)
  g_ROOM : ∃ t, mg "ROOM" = some (.str "room" t)
  n_ValueError : mg "ValueError" = none
  n_len : mg "len" = none
  n_isinstance : mg "isinstance" = none
  n_range : mg "range" = none
  n_list : mg "list" = none
  n_tuple : mg "tuple" = none
  n_enumerate : mg "enumerate" = none
  n_int : mg "int" = none
  n_bool : mg "bool" = none
  n_set : mg "set" = none
  n_sum : mg "sum" = none
  n_min : mg "min" = none
  n_str : mg "str" = none
  m_BadRule___init__ : Meth K (He.ga K "BadRule") "__init__" (He.ma K (He.ga K "BadRule") "__init__")
  na_BadRule_number : NoAttr K (He.ga K "BadRule") "number"
  xe_BadHands : PySem.W.excIn K (He.ga K "BadHands") He.veBase "ValueError.__new__" = true ∧ PySem.W.keepIn K (.ref (He.ga K "BadHands")) = true ∧ PySem.W.subIn K (.ref (He.ga K "BadHands")) (.type "BaseException") = some true ∧ PySem.W.typeIn K (.ref (He.ga K "BadHands")) = some (.type "type")
  xe_BadHand : PySem.W.excIn K (He.ga K "BadHand") He.veBase "ValueError.__new__" = true ∧ PySem.W.keepIn K (.ref (He.ga K "BadHand")) = true ∧ PySem.W.subIn K (.ref (He.ga K "BadHand")) (.type "BaseException") = some true ∧ PySem.W.typeIn K (.ref (He.ga K "BadHand")) = some (.type "type")
  xe_BadPlace : PySem.W.excIn K (He.ga K "BadPlace") He.veBase "ValueError.__new__" = true ∧ PySem.W.keepIn K (.ref (He.ga K "BadPlace")) = true ∧ PySem.W.subIn K (.ref (He.ga K "BadPlace")) (.type "BaseException") = some true ∧ PySem.W.typeIn K (.ref (He.ga K "BadPlace")) = some (.type "type")
  xe_BadNumber : PySem.W.excIn K (He.ga K "BadNumber") He.veBase "ValueError.__new__" = true ∧ PySem.W.keepIn K (.ref (He.ga K "BadNumber")) = true ∧ PySem.W.subIn K (.ref (He.ga K "BadNumber")) (.type "BaseException") = some true ∧ PySem.W.typeIn K (.ref (He.ga K "BadNumber")) = some (.type "type")
  m_BadDeed___init__ : Meth K (He.ga K "BadDeed") "__init__" (He.ma K (He.ga K "BadDeed") "__init__")
  na_BadDeed_number : NoAttr K (He.ga K "BadDeed") "number"
  xe_BadRoom : PySem.W.excIn K (He.ga K "BadRoom") He.veBase "ValueError.__new__" = true ∧ PySem.W.keepIn K (.ref (He.ga K "BadRoom")) = true ∧ PySem.W.subIn K (.ref (He.ga K "BadRoom")) (.type "BaseException") = some true ∧ PySem.W.typeIn K (.ref (He.ga K "BadRoom")) = some (.type "type")
  xe_BadWays : PySem.W.excIn K (He.ga K "BadWays") He.veBase "ValueError.__new__" = true ∧ PySem.W.keepIn K (.ref (He.ga K "BadWays")) = true ∧ PySem.W.subIn K (.ref (He.ga K "BadWays")) (.type "BaseException") = some true ∧ PySem.W.typeIn K (.ref (He.ga K "BadWays")) = some (.type "type")
  m_BadLeavings___init__ : Meth K (He.ga K "BadLeavings") "__init__" (He.ma K (He.ga K "BadLeavings") "__init__")
  na_BadLeavings_number : NoAttr K (He.ga K "BadLeavings") "number"
  m_BadText___init__ : Meth K (He.ga K "BadText") "__init__" (He.ma K (He.ga K "BadText") "__init__")
  na_BadText_row : NoAttr K (He.ga K "BadText") "row"
  t_SETS : ∀ H : Hp, SqT K H (He.ga K "SETS") [V.int 1, V.int 2, V.int 4]
  t_WRITES : ∀ H : Hp, SqT K H (He.ga K "WRITES") [V.str "through", V.str "back"]
  t_TAKES : ∀ H : Hp, SqT K H (He.ga K "TAKES") [V.str "in", V.str "by"]
  t_LEAVES : ∀ H : Hp, SqT K H (He.ga K "LEAVES") [V.str "first", V.str "late"]
  cmp_Line : CmpC K (He.ga K "Line")
  xt : ExcT K bads
  ox_BadRule : oexB K (He.ga K "BadRule") = true
  ox_BadDeed : oexB K (He.ga K "BadDeed") = true
  ox_BadLeavings : oexB K (He.ga K "BadLeavings") = true
  ox_BadText : oexB K (He.ga K "BadText") = true
  pp : (He.cT K ("law", none)).2 ≠ (He.cT K ("_law_halls", none)).2
  fd_BadRule___init__ : FuncData
  F_BadRule___init__ : FunD K "__init__" "BadRule.__init__" (defArgs s_BadRule___init__) (defBody s_BadRule___init__) (defScope s_BadRule___init__) [] [] (He.fAd K ("BadRule", some "__init__")) fd_BadRule___init__
  b_BadRule___init__ : Binds K fd_BadRule___init__ ["self", "number"] []
  k_BadRule___init__ : PySem.W.keepIn K (.ref (He.fAd K ("BadRule", some "__init__"))) = true
  fd_BadDeed___init__ : FuncData
  F_BadDeed___init__ : FunD K "__init__" "BadDeed.__init__" (defArgs s_BadDeed___init__) (defBody s_BadDeed___init__) (defScope s_BadDeed___init__) [] [] (He.fAd K ("BadDeed", some "__init__")) fd_BadDeed___init__
  b_BadDeed___init__ : Binds K fd_BadDeed___init__ ["self", "number"] []
  k_BadDeed___init__ : PySem.W.keepIn K (.ref (He.fAd K ("BadDeed", some "__init__"))) = true
  fd_BadLeavings___init__ : FuncData
  F_BadLeavings___init__ : FunD K "__init__" "BadLeavings.__init__" (defArgs s_BadLeavings___init__) (defBody s_BadLeavings___init__) (defScope s_BadLeavings___init__) [] [] (He.fAd K ("BadLeavings", some "__init__")) fd_BadLeavings___init__
  b_BadLeavings___init__ : Binds K fd_BadLeavings___init__ ["self", "number"] []
  k_BadLeavings___init__ : PySem.W.keepIn K (.ref (He.fAd K ("BadLeavings", some "__init__"))) = true
  fd_BadText___init__ : FuncData
  F_BadText___init__ : FunD K "__init__" "BadText.__init__" (defArgs s_BadText___init__) (defBody s_BadText___init__) (defScope s_BadText___init__) [] [] (He.fAd K ("BadText", some "__init__")) fd_BadText___init__
  b_BadText___init__ : Binds K fd_BadText___init__ ["self", "row"] []
  k_BadText___init__ : PySem.W.keepIn K (.ref (He.fAd K ("BadText", some "__init__"))) = true
  fd_is_number : FuncData
  F_is_number : FunD K "is_number" "is_number" (defArgs s_is_number) (defBody s_is_number) (defScope s_is_number) [] [] (He.fAd K ("is_number", none)) fd_is_number
  b_is_number : Binds K fd_is_number ["part", "low", "high"] []
  k_is_number : PySem.W.keepIn K (.ref (He.fAd K ("is_number", none))) = true
  fd_is_rule : FuncData
  F_is_rule : FunD K "is_rule" "is_rule" (defArgs s_is_rule) (defBody s_is_rule) (defScope s_is_rule) [] [] (He.fAd K ("is_rule", none)) fd_is_rule
  b_is_rule : Binds K fd_is_rule ["rule"] []
  k_is_rule : PySem.W.keepIn K (.ref (He.fAd K ("is_rule", none))) = true
  fd_need_rules : FuncData
  F_need_rules : FunD K "need_rules" "need_rules" (defArgs s_need_rules) (defBody s_need_rules) (defScope s_need_rules) [] [] (He.fAd K ("need_rules", none)) fd_need_rules
  b_need_rules : Binds K fd_need_rules ["rules"] []
  k_need_rules : PySem.W.keepIn K (.ref (He.fAd K ("need_rules", none))) = true
  fd_need_hands : FuncData
  F_need_hands : FunD K "need_hands" "need_hands" (defArgs s_need_hands) (defBody s_need_hands) (defScope s_need_hands) [] [] (He.fAd K ("need_hands", none)) fd_need_hands
  b_need_hands : Binds K fd_need_hands ["hands"] []
  k_need_hands : PySem.W.keepIn K (.ref (He.fAd K ("need_hands", none))) = true
  fd_is_deed : FuncData
  F_is_deed : FunD K "is_deed" "is_deed" (defArgs s_is_deed) (defBody s_is_deed) (defScope s_is_deed) [] [] (He.fAd K ("is_deed", none)) fd_is_deed
  b_is_deed : Binds K fd_is_deed ["deed", "hands"] []
  k_is_deed : PySem.W.keepIn K (.ref (He.fAd K ("is_deed", none))) = true
  fd_need_deeds : FuncData
  F_need_deeds : FunD K "need_deeds" "need_deeds" (defArgs s_need_deeds) (defBody s_need_deeds) (defScope s_need_deeds) [] [] (He.fAd K ("need_deeds", none)) fd_need_deeds
  b_need_deeds : Binds K fd_need_deeds ["deeds", "hands"] []
  k_need_deeds : PySem.W.keepIn K (.ref (He.fAd K ("need_deeds", none))) = true
  fd_block_of : FuncData
  F_block_of : FunD K "block_of" "block_of" (defArgs s_block_of) (defBody s_block_of) (defScope s_block_of) [] [] (He.fAd K ("block_of", none)) fd_block_of
  b_block_of : Binds K fd_block_of ["place"] []
  k_block_of : PySem.W.keepIn K (.ref (He.fAd K ("block_of", none))) = true
  fd_Far___init__ : FuncData
  F_Far___init__ : FunD K "__init__" "Far.__init__" (defArgs s_Far___init__) (defBody s_Far___init__) (defScope s_Far___init__) [] [] (He.fAd K ("Far", some "__init__")) fd_Far___init__
  b_Far___init__ : Binds K fd_Far___init__ ["self"] []
  k_Far___init__ : PySem.W.keepIn K (.ref (He.fAd K ("Far", some "__init__"))) = true
  fd_Far_bring : FuncData
  F_Far_bring : FunD K "bring" "Far.bring" (defArgs s_Far_bring) (defBody s_Far_bring) (defScope s_Far_bring) [] [] (He.fAd K ("Far", some "bring")) fd_Far_bring
  b_Far_bring : Binds K fd_Far_bring ["self", "block"] []
  k_Far_bring : PySem.W.keepIn K (.ref (He.fAd K ("Far", some "bring"))) = true
  fd_Far_home : FuncData
  F_Far_home : FunD K "home" "Far.home" (defArgs s_Far_home) (defBody s_Far_home) (defScope s_Far_home) [] [] (He.fAd K ("Far", some "home")) fd_Far_home
  b_Far_home : Binds K fd_Far_home ["self", "block", "numbers"] []
  k_Far_home : PySem.W.keepIn K (.ref (He.fAd K ("Far", some "home"))) = true
  fd_Far_change : FuncData
  F_Far_change : FunD K "change" "Far.change" (defArgs s_Far_change) (defBody s_Far_change) (defScope s_Far_change) [] [] (He.fAd K ("Far", some "change")) fd_Far_change
  b_Far_change : Binds K fd_Far_change ["self", "place", "number"] []
  k_Far_change : PySem.W.keepIn K (.ref (He.fAd K ("Far", some "change"))) = true
  fd_Line___init__ : FuncData
  F_Line___init__ : FunD K "__init__" "Line.__init__" (defArgs s_Line___init__) (defBody s_Line___init__) (defScope s_Line___init__) [] [] (He.fAd K ("Line", some "__init__")) fd_Line___init__
  b_Line___init__ : Binds K fd_Line___init__ ["self", "block", "numbers"] []
  k_Line___init__ : PySem.W.keepIn K (.ref (He.fAd K ("Line", some "__init__"))) = true
  fd_Room___init__ : FuncData
  F_Room___init__ : FunD K "__init__" "Room.__init__" (defArgs s_Room___init__) (defBody s_Room___init__) (defScope s_Room___init__) [] [] (He.fAd K ("Room", some "__init__")) fd_Room___init__
  b_Room___init__ : Binds K fd_Room___init__ ["self", "rule", "behind", "title", "diary"] []
  k_Room___init__ : PySem.W.keepIn K (.ref (He.fAd K ("Room", some "__init__"))) = true
  fd_Room_lines_of : FuncData
  F_Room_lines_of : FunD K "lines_of" "Room.lines_of" (defArgs s_Room_lines_of) (defBody s_Room_lines_of) (defScope s_Room_lines_of) [] [] (He.fAd K ("Room", some "lines_of")) fd_Room_lines_of
  b_Room_lines_of : Binds K fd_Room_lines_of ["self", "block"] []
  k_Room_lines_of : PySem.W.keepIn K (.ref (He.fAd K ("Room", some "lines_of"))) = true
  fd_Room_line_of : FuncData
  F_Room_line_of : FunD K "line_of" "Room.line_of" (defArgs s_Room_line_of) (defBody s_Room_line_of) (defScope s_Room_line_of) [] [] (He.fAd K ("Room", some "line_of")) fd_Room_line_of
  b_Room_line_of : Binds K fd_Room_line_of ["self", "block"] []
  k_Room_line_of : PySem.W.keepIn K (.ref (He.fAd K ("Room", some "line_of"))) = true
  fd_Room_note : FuncData
  F_Room_note : FunD K "note" "Room.note" (defArgs s_Room_note) (defBody s_Room_note) (defScope s_Room_note) [] [] (He.fAd K ("Room", some "note")) fd_Room_note
  b_Room_note : Binds K fd_Room_note ["self", "word", "number"] []
  k_Room_note : PySem.W.keepIn K (.ref (He.fAd K ("Room", some "note"))) = true
  fd_Room_pass_home : FuncData
  F_Room_pass_home : FunD K "pass_home" "Room.pass_home" (defArgs s_Room_pass_home) (defBody s_Room_pass_home) (defScope s_Room_pass_home) [] [] (He.fAd K ("Room", some "pass_home")) fd_Room_pass_home
  b_Room_pass_home : Binds K fd_Room_pass_home ["self", "line"] []
  k_Room_pass_home : PySem.W.keepIn K (.ref (He.fAd K ("Room", some "pass_home"))) = true
  fd_Room_pass_cell : FuncData
  F_Room_pass_cell : FunD K "pass_cell" "Room.pass_cell" (defArgs s_Room_pass_cell) (defBody s_Room_pass_cell) (defScope s_Room_pass_cell) [] [] (He.fAd K ("Room", some "pass_cell")) fd_Room_pass_cell
  b_Room_pass_cell : Binds K fd_Room_pass_cell ["self", "place", "number"] []
  k_Room_pass_cell : PySem.W.keepIn K (.ref (He.fAd K ("Room", some "pass_cell"))) = true
  fd_Room_make_way : FuncData
  F_Room_make_way : FunD K "make_way" "Room.make_way" (defArgs s_Room_make_way) (defBody s_Room_make_way) (defScope s_Room_make_way) [] [] (He.fAd K ("Room", some "make_way")) fd_Room_make_way
  b_Room_make_way : Binds K fd_Room_make_way ["self", "block"] []
  k_Room_make_way : PySem.W.keepIn K (.ref (He.fAd K ("Room", some "make_way"))) = true
  fd_Room_touch : FuncData
  F_Room_touch : FunD K "touch" "Room.touch" (defArgs s_Room_touch) (defBody s_Room_touch) (defScope s_Room_touch) [] [] (He.fAd K ("Room", some "touch")) fd_Room_touch
  b_Room_touch : Binds K fd_Room_touch ["self", "line"] []
  k_Room_touch : PySem.W.keepIn K (.ref (He.fAd K ("Room", some "touch"))) = true
  fd_Room_reach : FuncData
  F_Room_reach : FunD K "reach" "Room.reach" (defArgs s_Room_reach) (defBody s_Room_reach) (defScope s_Room_reach) [] [] (He.fAd K ("Room", some "reach")) fd_Room_reach
  b_Room_reach : Binds K fd_Room_reach ["self", "block"] []
  k_Room_reach : PySem.W.keepIn K (.ref (He.fAd K ("Room", some "reach"))) = true
  fd_Room_bring : FuncData
  F_Room_bring : FunD K "bring" "Room.bring" (defArgs s_Room_bring) (defBody s_Room_bring) (defScope s_Room_bring) [] [] (He.fAd K ("Room", some "bring")) fd_Room_bring
  b_Room_bring : Binds K fd_Room_bring ["self", "block"] []
  k_Room_bring : PySem.W.keepIn K (.ref (He.fAd K ("Room", some "bring"))) = true
  fd_Room_look : FuncData
  F_Room_look : FunD K "look" "Room.look" (defArgs s_Room_look) (defBody s_Room_look) (defScope s_Room_look) [] [] (He.fAd K ("Room", some "look")) fd_Room_look
  b_Room_look : Binds K fd_Room_look ["self", "place"] []
  k_Room_look : PySem.W.keepIn K (.ref (He.fAd K ("Room", some "look"))) = true
  fd_Room_change : FuncData
  F_Room_change : FunD K "change" "Room.change" (defArgs s_Room_change) (defBody s_Room_change) (defScope s_Room_change) [] [] (He.fAd K ("Room", some "change")) fd_Room_change
  b_Room_change : Binds K fd_Room_change ["self", "place", "number"] []
  k_Room_change : PySem.W.keepIn K (.ref (He.fAd K ("Room", some "change"))) = true
  fd_Room_home : FuncData
  F_Room_home : FunD K "home" "Room.home" (defArgs s_Room_home) (defBody s_Room_home) (defScope s_Room_home) [] [] (He.fAd K ("Room", some "home")) fd_Room_home
  b_Room_home : Binds K fd_Room_home ["self", "block", "numbers"] []
  k_Room_home : PySem.W.keepIn K (.ref (He.fAd K ("Room", some "home"))) = true
  fd_Room_yield_up : FuncData
  F_Room_yield_up : FunD K "yield_up" "Room.yield_up" (defArgs s_Room_yield_up) (defBody s_Room_yield_up) (defScope s_Room_yield_up) [] [] (He.fAd K ("Room", some "yield_up")) fd_Room_yield_up
  b_Room_yield_up : Binds K fd_Room_yield_up ["self", "block", "is_gone"] []
  k_Room_yield_up : PySem.W.keepIn K (.ref (He.fAd K ("Room", some "yield_up"))) = true
  fd_Room_settle : FuncData
  F_Room_settle : FunD K "settle" "Room.settle" (defArgs s_Room_settle) (defBody s_Room_settle) (defScope s_Room_settle) [] [] (He.fAd K ("Room", some "settle")) fd_Room_settle
  b_Room_settle : Binds K fd_Room_settle ["self"] []
  k_Room_settle : PySem.W.keepIn K (.ref (He.fAd K ("Room", some "settle"))) = true
  fd_Room_holds : FuncData
  F_Room_holds : FunD K "holds" "Room.holds" (defArgs s_Room_holds) (defBody s_Room_holds) (defScope s_Room_holds) [] [] (He.fAd K ("Room", some "holds")) fd_Room_holds
  b_Room_holds : Binds K fd_Room_holds ["self"] []
  k_Room_holds : PySem.W.keepIn K (.ref (He.fAd K ("Room", some "holds"))) = true
  fd_Hall___init__ : FuncData
  F_Hall___init__ : FunD K "__init__" "Hall.__init__" (defArgs s_Hall___init__) (defBody s_Hall___init__) (defScope s_Hall___init__) [] [] (He.fAd K ("Hall", some "__init__")) fd_Hall___init__
  b_Hall___init__ : Binds K fd_Hall___init__ ["self", "rules", "hands"] []
  k_Hall___init__ : PySem.W.keepIn K (.ref (He.fAd K ("Hall", some "__init__"))) = true
  fd_Hall_need : FuncData
  F_Hall_need : FunD K "need" "Hall.need" (defArgs s_Hall_need) (defBody s_Hall_need) (defScope s_Hall_need) [] [] (He.fAd K ("Hall", some "need")) fd_Hall_need
  b_Hall_need : Binds K fd_Hall_need ["self", "hand", "place"] []
  k_Hall_need : PySem.W.keepIn K (.ref (He.fAd K ("Hall", some "need"))) = true
  fd_Hall_ask_others : FuncData
  F_Hall_ask_others : FunD K "ask_others" "Hall.ask_others" (defArgs s_Hall_ask_others) (defBody s_Hall_ask_others) (defScope s_Hall_ask_others) [] [] (He.fAd K ("Hall", some "ask_others")) fd_Hall_ask_others
  b_Hall_ask_others : Binds K fd_Hall_ask_others ["self", "hand", "place", "is_gone"] []
  k_Hall_ask_others : PySem.W.keepIn K (.ref (He.fAd K ("Hall", some "ask_others"))) = true
  fd_Hall_look : FuncData
  F_Hall_look : FunD K "look" "Hall.look" (defArgs s_Hall_look) (defBody s_Hall_look) (defScope s_Hall_look) [] [] (He.fAd K ("Hall", some "look")) fd_Hall_look
  b_Hall_look : Binds K fd_Hall_look ["self", "hand", "place"] []
  k_Hall_look : PySem.W.keepIn K (.ref (He.fAd K ("Hall", some "look"))) = true
  fd_Hall_change : FuncData
  F_Hall_change : FunD K "change" "Hall.change" (defArgs s_Hall_change) (defBody s_Hall_change) (defScope s_Hall_change) [] [] (He.fAd K ("Hall", some "change")) fd_Hall_change
  b_Hall_change : Binds K fd_Hall_change ["self", "hand", "place", "number"] []
  k_Hall_change : PySem.W.keepIn K (.ref (He.fAd K ("Hall", some "change"))) = true
  fd_Hall_settle : FuncData
  F_Hall_settle : FunD K "settle" "Hall.settle" (defArgs s_Hall_settle) (defBody s_Hall_settle) (defScope s_Hall_settle) [] [] (He.fAd K ("Hall", some "settle")) fd_Hall_settle
  b_Hall_settle : Binds K fd_Hall_settle ["self"] []
  k_Hall_settle : PySem.W.keepIn K (.ref (He.fAd K ("Hall", some "settle"))) = true
  fd_Hall_far : FuncData
  F_Hall_far : FunD K "far" "Hall.far" (defArgs s_Hall_far) (defBody s_Hall_far) (defScope s_Hall_far) [] [] (He.fAd K ("Hall", some "far")) fd_Hall_far
  b_Hall_far : Binds K fd_Hall_far ["self"] []
  k_Hall_far : PySem.W.keepIn K (.ref (He.fAd K ("Hall", some "far"))) = true
  fd_Hall_near : FuncData
  F_Hall_near : FunD K "near" "Hall.near" (defArgs s_Hall_near) (defBody s_Hall_near) (defScope s_Hall_near) [] [] (He.fAd K ("Hall", some "near")) fd_Hall_near
  b_Hall_near : Binds K fd_Hall_near ["self", "level", "hand"] []
  k_Hall_near : PySem.W.keepIn K (.ref (He.fAd K ("Hall", some "near"))) = true
  fd_Hall_log : FuncData
  F_Hall_log : FunD K "log" "Hall.log" (defArgs s_Hall_log) (defBody s_Hall_log) (defScope s_Hall_log) [] [] (He.fAd K ("Hall", some "log")) fd_Hall_log
  b_Hall_log : Binds K fd_Hall_log ["self"] []
  k_Hall_log : PySem.W.keepIn K (.ref (He.fAd K ("Hall", some "log"))) = true
  fd_Hall_moves : FuncData
  F_Hall_moves : FunD K "moves" "Hall.moves" (defArgs s_Hall_moves) (defBody s_Hall_moves) (defScope s_Hall_moves) [] [] (He.fAd K ("Hall", some "moves")) fd_Hall_moves
  b_Hall_moves : Binds K fd_Hall_moves ["self"] []
  k_Hall_moves : PySem.W.keepIn K (.ref (He.fAd K ("Hall", some "moves"))) = true
  fd_done : FuncData
  F_done : FunD K "done" "done" (defArgs s_done) (defBody s_done) (defScope s_done) [] [] (He.fAd K ("done", none)) fd_done
  b_done : Binds K fd_done ["hall", "deeds"] []
  k_done : PySem.W.keepIn K (.ref (He.fAd K ("done", none))) = true
  fd_told : FuncData
  F_told : FunD K "told" "told" (defArgs s_told) (defBody s_told) (defScope s_told) [] [] (He.fAd K ("told", none)) fd_told
  b_told : Binds K fd_told ["rules", "hands", "deeds"] []
  k_told : PySem.W.keepIn K (.ref (He.fAd K ("told", none))) = true
  fd_plain : FuncData
  F_plain : FunD K "plain" "plain" (defArgs s_plain) (defBody s_plain) (defScope s_plain) [] [] (He.fAd K ("plain", none)) fd_plain
  b_plain : Binds K fd_plain ["hands", "deeds"] []
  k_plain : PySem.W.keepIn K (.ref (He.fAd K ("plain", none))) = true
  fd_weight : FuncData
  F_weight : FunD K "weight" "weight" (defArgs s_weight) (defBody s_weight) (defScope s_weight) [] [] (He.fAd K ("weight", none)) fd_weight
  b_weight : Binds K fd_weight ["moves"] []
  k_weight : PySem.W.keepIn K (.ref (He.fAd K ("weight", none))) = true
  fd_least : FuncData
  F_least : FunD K "least" "least" (defArgs s_least) (defBody s_least) (defScope s_least) [] [] (He.fAd K ("least", none)) fd_least
  b_least : Binds K fd_least ["halls", "hands", "deeds"] []
  k_least : PySem.W.keepIn K (.ref (He.fAd K ("least", none))) = true
  fd_written : FuncData
  F_written : FunD K "written" "written" (defArgs s_written) (defBody s_written) (defScope s_written) [] [] (He.fAd K ("written", none)) fd_written
  b_written : Binds K fd_written ["rules", "deeds"] []
  k_written : PySem.W.keepIn K (.ref (He.fAd K ("written", none))) = true
  fd__law_taken : FuncData
  F__law_taken : FunD K "_law_taken" "_law_taken" (defArgs s__law_taken) (defBody s__law_taken) (defScope s__law_taken) [] [] (He.fAd K ("_law_taken", none)) fd__law_taken
  b__law_taken : Binds K fd__law_taken ["_law_row", "_law_many"] []
  k__law_taken : PySem.W.keepIn K (.ref (He.fAd K ("_law_taken", none))) = true
  fd__law_alike : FuncData
  F__law_alike : FunD K "_law_alike" "_law_alike" (defArgs s__law_alike) (defBody s__law_alike) (defScope s__law_alike) [] [] (He.fAd K ("_law_alike", none)) fd__law_alike
  b__law_alike : Binds K fd__law_alike ["_law_found", "_law_due"] []
  k__law_alike : PySem.W.keepIn K (.ref (He.fAd K ("_law_alike", none))) = true
  fd__law_word : FuncData
  F__law_word : FunD K "_law_word" "_law_word" (defArgs s__law_word) (defBody s__law_word) (defScope s__law_word) [] [] (He.fAd K ("_law_word", none)) fd__law_word
  b__law_word : Binds K fd__law_word ["_law_work"] []
  k__law_word : PySem.W.keepIn K (.ref (He.fAd K ("_law_word", none))) = true
  fd__law_rule : FuncData
  F__law_rule : FunD K "_law_rule" "_law_rule" (defArgs s__law_rule) (defBody s__law_rule) (defScope s__law_rule) [] [] (He.fAd K ("_law_rule", none)) fd__law_rule
  b__law_rule : Binds K fd__law_rule ["_law_row"] []
  k__law_rule : PySem.W.keepIn K (.ref (He.fAd K ("_law_rule", none))) = true
  fd__law_rules : FuncData
  F__law_rules : FunD K "_law_rules" "_law_rules" (defArgs s__law_rules) (defBody s__law_rules) (defScope s__law_rules) [] [] (He.fAd K ("_law_rules", none)) fd__law_rules
  b__law_rules : Binds K fd__law_rules ["_law_row"] []
  k__law_rules : PySem.W.keepIn K (.ref (He.fAd K ("_law_rules", none))) = true
  fd__law_place : FuncData
  F__law_place : FunD K "_law_place" "_law_place" (defArgs s__law_place) (defBody s__law_place) (defScope s__law_place) [] [] (He.fAd K ("_law_place", none)) fd__law_place
  b__law_place : Binds K fd__law_place ["_law_row", "_law_most"] []
  k__law_place : PySem.W.keepIn K (.ref (He.fAd K ("_law_place", none))) = true
  fd__law_deeds : FuncData
  F__law_deeds : FunD K "_law_deeds" "_law_deeds" (defArgs s__law_deeds) (defBody s__law_deeds) (defScope s__law_deeds) [] [] (He.fAd K ("_law_deeds", none)) fd__law_deeds
  b__law_deeds : Binds K fd__law_deeds ["_law_row", "_law_hands", "_law_most"] []
  k__law_deeds : PySem.W.keepIn K (.ref (He.fAd K ("_law_deeds", none))) = true
  fd__law_bad_rules : FuncData
  F__law_bad_rules : FunD K "_law_bad_rules" "_law_bad_rules" (defArgs s__law_bad_rules) (defBody s__law_bad_rules) (defScope s__law_bad_rules) [] [] (He.fAd K ("_law_bad_rules", none)) fd__law_bad_rules
  b__law_bad_rules : Binds K fd__law_bad_rules ["_law_row", "_law_rules_here", "_law_far"] []
  k__law_bad_rules : PySem.W.keepIn K (.ref (He.fAd K ("_law_bad_rules", none))) = true
  fd__law_odd : FuncData
  F__law_odd : FunD K "_law_odd" "_law_odd" (defArgs s__law_odd) (defBody s__law_odd) (defScope s__law_odd) [] [] (He.fAd K ("_law_odd", none)) fd__law_odd
  b__law_odd : Binds K fd__law_odd ["_law_row", "_law_hands", "_law_far"] []
  k__law_odd : PySem.W.keepIn K (.ref (He.fAd K ("_law_odd", none))) = true
  fd__law_halls : FuncData
  F__law_halls : FunD K "_law_halls" "_law_halls" (defArgs s__law_halls) (defBody s__law_halls) (defScope s__law_halls) [] [] (He.fAd K ("_law_halls", none)) fd__law_halls
  b__law_halls : Binds K fd__law_halls ["_law_row", "_law_rules_here", "_law_hands", "_law_far"] []
  k__law_halls : PySem.W.keepIn K (.ref (He.fAd K ("_law_halls", none))) = true
  fd_law : FuncData
  F_law : FunD K "law" "law" (defArgs s_law) (defBody s_law) (defScope s_law) [] [] (He.fAd K ("law", none)) fd_law
  b_law : Binds K fd_law ["_law_script"] []
  k_law : PySem.W.keepIn K (.ref (He.fAd K ("law", none))) = true
-- Run
def fa : List He.Fa := [.glo "is_number", .glo "is_rule", .glo "need_rules", .glo "need_hands", .glo "is_deed", .glo "need_deeds", .glo "block_of", .glo "done", .glo "told", .glo "plain", .glo "weight", .glo "least", .glo "written", .glo "_law_taken", .glo "_law_alike", .glo "_law_word", .glo "_law_rule", .glo "_law_rules", .glo "_law_place", .glo "_law_deeds", .glo "_law_bad_rules", .glo "_law_odd", .glo "_law_halls", .glo "law", .glo "WayError", .glo "BadRule", .glo "BadHands", .glo "BadHand", .glo "BadPlace", .glo "BadNumber", .glo "BadDeed", .glo "BadRoom", .glo "BadWays", .glo "BadLeavings", .glo "BadText", .glo "Far", .glo "Line", .glo "Room", .glo "Hall", .cls "Far", .noat "Far" "held", .mkr "Far", .meth "Far" "bring", .meth "Far" "home", .meth "Far" "change", .cls "Line", .noat "Line" "block", .noat "Line" "numbers", .noat "Line" "is_dirty", .mkr "Line", .cls "Room", .noat "Room" "ways", .noat "Room" "is_back", .noat "Room" "is_in", .noat "Room" "is_late", .noat "Room" "behind", .noat "Room" "title", .noat "Room" "diary", .noat "Room" "sets", .mkr "Room", .meth "Room" "lines_of", .meth "Room" "line_of", .meth "Room" "note", .meth "Room" "pass_home", .meth "Room" "pass_cell", .meth "Room" "make_way", .meth "Room" "touch", .meth "Room" "reach", .meth "Room" "bring", .meth "Room" "look", .meth "Room" "change", .meth "Room" "home", .meth "Room" "yield_up", .meth "Room" "settle", .meth "Room" "holds", .cls "Hall", .noat "Hall" "diary", .noat "Hall" "last", .noat "Hall" "shared", .noat "Hall" "own", .mkr "Hall", .meth "Hall" "need", .meth "Hall" "ask_others", .meth "Hall" "look", .meth "Hall" "change", .meth "Hall" "settle", .meth "Hall" "far", .meth "Hall" "near", .meth "Hall" "log", .meth "Hall" "moves", .int "CELLS" 64, .int "BLOCK" 4, .int "MOST_NUMBER" 999, .int "MOST_WAYS" 4, .int "MOST_RULES" 3, .int "MOST_HANDS" 3, .int "MOST_DEEDS" 200, .glo "SETS", .glo "WRITES", .glo "TAKES", .glo "LEAVES", .str "LOOK" "look", .str "SET" "set", .str "BRING" "bring", .str "HOME" "home", .str "CELL" "cell", .int "MOST_HALLS" 6, .str "ROOM" "room", .free "ValueError", .free "len", .free "isinstance", .free "range", .free "list", .free "tuple", .free "enumerate", .free "int", .free "bool", .free "set", .free "sum", .free "min", .free "str", .meth "BadRule" "__init__", .noat "BadRule" "number", .exc "BadHands", .exc "BadHand", .exc "BadPlace", .exc "BadNumber", .meth "BadDeed" "__init__", .noat "BadDeed" "number", .exc "BadRoom", .exc "BadWays", .meth "BadLeavings" "__init__", .noat "BadLeavings" "number", .meth "BadText" "__init__", .noat "BadText" "row"]
def d_BadRule___init__ : He.DefD := ⟨("BadRule", some "__init__"), "__init__", "BadRule.__init__", defArgs s_BadRule___init__, defBody s_BadRule___init__, defScope s_BadRule___init__, [], []⟩
def d_BadDeed___init__ : He.DefD := ⟨("BadDeed", some "__init__"), "__init__", "BadDeed.__init__", defArgs s_BadDeed___init__, defBody s_BadDeed___init__, defScope s_BadDeed___init__, [], []⟩
def d_BadLeavings___init__ : He.DefD := ⟨("BadLeavings", some "__init__"), "__init__", "BadLeavings.__init__", defArgs s_BadLeavings___init__, defBody s_BadLeavings___init__, defScope s_BadLeavings___init__, [], []⟩
def d_BadText___init__ : He.DefD := ⟨("BadText", some "__init__"), "__init__", "BadText.__init__", defArgs s_BadText___init__, defBody s_BadText___init__, defScope s_BadText___init__, [], []⟩
def d_is_number : He.DefD := ⟨("is_number", none), "is_number", "is_number", defArgs s_is_number, defBody s_is_number, defScope s_is_number, [], []⟩
def d_is_rule : He.DefD := ⟨("is_rule", none), "is_rule", "is_rule", defArgs s_is_rule, defBody s_is_rule, defScope s_is_rule, [], []⟩
def d_need_rules : He.DefD := ⟨("need_rules", none), "need_rules", "need_rules", defArgs s_need_rules, defBody s_need_rules, defScope s_need_rules, [], []⟩
def d_need_hands : He.DefD := ⟨("need_hands", none), "need_hands", "need_hands", defArgs s_need_hands, defBody s_need_hands, defScope s_need_hands, [], []⟩
def d_is_deed : He.DefD := ⟨("is_deed", none), "is_deed", "is_deed", defArgs s_is_deed, defBody s_is_deed, defScope s_is_deed, [], []⟩
def d_need_deeds : He.DefD := ⟨("need_deeds", none), "need_deeds", "need_deeds", defArgs s_need_deeds, defBody s_need_deeds, defScope s_need_deeds, [], []⟩
def d_block_of : He.DefD := ⟨("block_of", none), "block_of", "block_of", defArgs s_block_of, defBody s_block_of, defScope s_block_of, [], []⟩
def d_Far___init__ : He.DefD := ⟨("Far", some "__init__"), "__init__", "Far.__init__", defArgs s_Far___init__, defBody s_Far___init__, defScope s_Far___init__, [], []⟩
def d_Far_bring : He.DefD := ⟨("Far", some "bring"), "bring", "Far.bring", defArgs s_Far_bring, defBody s_Far_bring, defScope s_Far_bring, [], []⟩
def d_Far_home : He.DefD := ⟨("Far", some "home"), "home", "Far.home", defArgs s_Far_home, defBody s_Far_home, defScope s_Far_home, [], []⟩
def d_Far_change : He.DefD := ⟨("Far", some "change"), "change", "Far.change", defArgs s_Far_change, defBody s_Far_change, defScope s_Far_change, [], []⟩
def d_Line___init__ : He.DefD := ⟨("Line", some "__init__"), "__init__", "Line.__init__", defArgs s_Line___init__, defBody s_Line___init__, defScope s_Line___init__, [], []⟩
def d_Room___init__ : He.DefD := ⟨("Room", some "__init__"), "__init__", "Room.__init__", defArgs s_Room___init__, defBody s_Room___init__, defScope s_Room___init__, [], []⟩
def d_Room_lines_of : He.DefD := ⟨("Room", some "lines_of"), "lines_of", "Room.lines_of", defArgs s_Room_lines_of, defBody s_Room_lines_of, defScope s_Room_lines_of, [], []⟩
def d_Room_line_of : He.DefD := ⟨("Room", some "line_of"), "line_of", "Room.line_of", defArgs s_Room_line_of, defBody s_Room_line_of, defScope s_Room_line_of, [], []⟩
def d_Room_note : He.DefD := ⟨("Room", some "note"), "note", "Room.note", defArgs s_Room_note, defBody s_Room_note, defScope s_Room_note, [], []⟩
def d_Room_pass_home : He.DefD := ⟨("Room", some "pass_home"), "pass_home", "Room.pass_home", defArgs s_Room_pass_home, defBody s_Room_pass_home, defScope s_Room_pass_home, [], []⟩
def d_Room_pass_cell : He.DefD := ⟨("Room", some "pass_cell"), "pass_cell", "Room.pass_cell", defArgs s_Room_pass_cell, defBody s_Room_pass_cell, defScope s_Room_pass_cell, [], []⟩
def d_Room_make_way : He.DefD := ⟨("Room", some "make_way"), "make_way", "Room.make_way", defArgs s_Room_make_way, defBody s_Room_make_way, defScope s_Room_make_way, [], []⟩
def d_Room_touch : He.DefD := ⟨("Room", some "touch"), "touch", "Room.touch", defArgs s_Room_touch, defBody s_Room_touch, defScope s_Room_touch, [], []⟩
def d_Room_reach : He.DefD := ⟨("Room", some "reach"), "reach", "Room.reach", defArgs s_Room_reach, defBody s_Room_reach, defScope s_Room_reach, [], []⟩
def d_Room_bring : He.DefD := ⟨("Room", some "bring"), "bring", "Room.bring", defArgs s_Room_bring, defBody s_Room_bring, defScope s_Room_bring, [], []⟩
def d_Room_look : He.DefD := ⟨("Room", some "look"), "look", "Room.look", defArgs s_Room_look, defBody s_Room_look, defScope s_Room_look, [], []⟩
def d_Room_change : He.DefD := ⟨("Room", some "change"), "change", "Room.change", defArgs s_Room_change, defBody s_Room_change, defScope s_Room_change, [], []⟩
def d_Room_home : He.DefD := ⟨("Room", some "home"), "home", "Room.home", defArgs s_Room_home, defBody s_Room_home, defScope s_Room_home, [], []⟩
def d_Room_yield_up : He.DefD := ⟨("Room", some "yield_up"), "yield_up", "Room.yield_up", defArgs s_Room_yield_up, defBody s_Room_yield_up, defScope s_Room_yield_up, [], []⟩
def d_Room_settle : He.DefD := ⟨("Room", some "settle"), "settle", "Room.settle", defArgs s_Room_settle, defBody s_Room_settle, defScope s_Room_settle, [], []⟩
def d_Room_holds : He.DefD := ⟨("Room", some "holds"), "holds", "Room.holds", defArgs s_Room_holds, defBody s_Room_holds, defScope s_Room_holds, [], []⟩
def d_Hall___init__ : He.DefD := ⟨("Hall", some "__init__"), "__init__", "Hall.__init__", defArgs s_Hall___init__, defBody s_Hall___init__, defScope s_Hall___init__, [], []⟩
def d_Hall_need : He.DefD := ⟨("Hall", some "need"), "need", "Hall.need", defArgs s_Hall_need, defBody s_Hall_need, defScope s_Hall_need, [], []⟩
def d_Hall_ask_others : He.DefD := ⟨("Hall", some "ask_others"), "ask_others", "Hall.ask_others", defArgs s_Hall_ask_others, defBody s_Hall_ask_others, defScope s_Hall_ask_others, [], []⟩
def d_Hall_look : He.DefD := ⟨("Hall", some "look"), "look", "Hall.look", defArgs s_Hall_look, defBody s_Hall_look, defScope s_Hall_look, [], []⟩
def d_Hall_change : He.DefD := ⟨("Hall", some "change"), "change", "Hall.change", defArgs s_Hall_change, defBody s_Hall_change, defScope s_Hall_change, [], []⟩
def d_Hall_settle : He.DefD := ⟨("Hall", some "settle"), "settle", "Hall.settle", defArgs s_Hall_settle, defBody s_Hall_settle, defScope s_Hall_settle, [], []⟩
def d_Hall_far : He.DefD := ⟨("Hall", some "far"), "far", "Hall.far", defArgs s_Hall_far, defBody s_Hall_far, defScope s_Hall_far, [], []⟩
def d_Hall_near : He.DefD := ⟨("Hall", some "near"), "near", "Hall.near", defArgs s_Hall_near, defBody s_Hall_near, defScope s_Hall_near, [], []⟩
def d_Hall_log : He.DefD := ⟨("Hall", some "log"), "log", "Hall.log", defArgs s_Hall_log, defBody s_Hall_log, defScope s_Hall_log, [], []⟩
def d_Hall_moves : He.DefD := ⟨("Hall", some "moves"), "moves", "Hall.moves", defArgs s_Hall_moves, defBody s_Hall_moves, defScope s_Hall_moves, [], []⟩
def d_done : He.DefD := ⟨("done", none), "done", "done", defArgs s_done, defBody s_done, defScope s_done, [], []⟩
def d_told : He.DefD := ⟨("told", none), "told", "told", defArgs s_told, defBody s_told, defScope s_told, [], []⟩
def d_plain : He.DefD := ⟨("plain", none), "plain", "plain", defArgs s_plain, defBody s_plain, defScope s_plain, [], []⟩
def d_weight : He.DefD := ⟨("weight", none), "weight", "weight", defArgs s_weight, defBody s_weight, defScope s_weight, [], []⟩
def d_least : He.DefD := ⟨("least", none), "least", "least", defArgs s_least, defBody s_least, defScope s_least, [], []⟩
def d_written : He.DefD := ⟨("written", none), "written", "written", defArgs s_written, defBody s_written, defScope s_written, [], []⟩
def d__law_taken : He.DefD := ⟨("_law_taken", none), "_law_taken", "_law_taken", defArgs s__law_taken, defBody s__law_taken, defScope s__law_taken, [], []⟩
def d__law_alike : He.DefD := ⟨("_law_alike", none), "_law_alike", "_law_alike", defArgs s__law_alike, defBody s__law_alike, defScope s__law_alike, [], []⟩
def d__law_word : He.DefD := ⟨("_law_word", none), "_law_word", "_law_word", defArgs s__law_word, defBody s__law_word, defScope s__law_word, [], []⟩
def d__law_rule : He.DefD := ⟨("_law_rule", none), "_law_rule", "_law_rule", defArgs s__law_rule, defBody s__law_rule, defScope s__law_rule, [], []⟩
def d__law_rules : He.DefD := ⟨("_law_rules", none), "_law_rules", "_law_rules", defArgs s__law_rules, defBody s__law_rules, defScope s__law_rules, [], []⟩
def d__law_place : He.DefD := ⟨("_law_place", none), "_law_place", "_law_place", defArgs s__law_place, defBody s__law_place, defScope s__law_place, [], []⟩
def d__law_deeds : He.DefD := ⟨("_law_deeds", none), "_law_deeds", "_law_deeds", defArgs s__law_deeds, defBody s__law_deeds, defScope s__law_deeds, [], []⟩
def d__law_bad_rules : He.DefD := ⟨("_law_bad_rules", none), "_law_bad_rules", "_law_bad_rules", defArgs s__law_bad_rules, defBody s__law_bad_rules, defScope s__law_bad_rules, [], []⟩
def d__law_odd : He.DefD := ⟨("_law_odd", none), "_law_odd", "_law_odd", defArgs s__law_odd, defBody s__law_odd, defScope s__law_odd, [], []⟩
def d__law_halls : He.DefD := ⟨("_law_halls", none), "_law_halls", "_law_halls", defArgs s__law_halls, defBody s__law_halls, defScope s__law_halls, [], []⟩
def d_law : He.DefD := ⟨("law", none), "law", "law", defArgs s_law, defBody s_law, defScope s_law, [], []⟩
def fn : List He.DefD := [d_BadRule___init__, d_BadDeed___init__, d_BadLeavings___init__, d_BadText___init__, d_is_number, d_is_rule, d_need_rules, d_need_hands, d_is_deed, d_need_deeds, d_block_of, d_Far___init__, d_Far_bring, d_Far_home, d_Far_change, d_Line___init__, d_Room___init__, d_Room_lines_of, d_Room_line_of, d_Room_note, d_Room_pass_home, d_Room_pass_cell, d_Room_make_way, d_Room_touch, d_Room_reach, d_Room_bring, d_Room_look, d_Room_change, d_Room_home, d_Room_yield_up, d_Room_settle, d_Room_holds, d_Hall___init__, d_Hall_need, d_Hall_ask_others, d_Hall_look, d_Hall_change, d_Hall_settle, d_Hall_far, d_Hall_near, d_Hall_log, d_Hall_moves, d_done, d_told, d_plain, d_weight, d_least, d_written, d__law_taken, d__law_alike, d__law_word, d__law_rule, d__law_rules, d__law_place, d__law_deeds, d__law_bad_rules, d__law_odd, d__law_halls, d_law]
def ex (K : PySem.W.Frag) : Bool := (He.tupB K "SETS" [.int 1, .int 2, .int 4] && (He.tupB K "WRITES" [.str "through", .str "back"] && (He.tupB K "TAKES" [.str "in", .str "by"] && (He.tupB K "LEAVES" [.str "first", .str "late"] && (cmpB K (He.ga K "Line") && (excTB K bads && (oexB K (He.ga K "BadRule") && (oexB K (He.ga K "BadDeed") && (oexB K (He.ga K "BadLeavings") && (oexB K (He.ga K "BadText") && (decide ((He.cT K ("law", none)).2 ≠ (He.cT K ("_law_halls", none)).2) && true)))))))))))
def tf : List He.Defn := [("law", none), ("_law_halls", none)]
abbrev R : PySem.W.OpenRow := PySem.W.OpenLaw.row PySem.Challenge.rw_writeways_k01_refused
abbrev hk : PySem.W.Hook := hookY 5 fa fn tf ex
def ob (s : PySem.W.SharedT) : He.AlX := obsY 5 fa fn tf ex (HandSHeadRun.getT s)
theorem ob_eq (s : PySem.W.SharedT) : ob s = hk.obs s.abs := obsY_eq (HandSHeadRun.getT_eq s)
def loose0 : List PySem.Str := ["WayError", "BadRule", "BadHands", "BadHand", "BadPlace", "BadNumber", "BadDeed", "BadRoom", "BadWays", "BadLeavings", "BadText", "CELLS", "BLOCK", "MOST_NUMBER", "MOST_WAYS", "MOST_RULES", "MOST_HANDS", "MOST_DEEDS", "SETS", "WRITES", "TAKES", "LEAVES", "LOOK", "SET", "is_number", "is_rule", "need_rules", "need_hands", "is_deed", "need_deeds"]
def loose1 : List PySem.Str := ["block_of", "BRING", "HOME", "CELL", "Far", "Line", "Room", "Hall", "done", "told", "plain", "MOST_HALLS", "weight", "least", "ROOM", "written", "_law_taken", "_law_alike", "_law_word", "_law_rule", "_law_rules", "_law_place", "_law_deeds", "_law_bad_rules", "_law_odd", "_law_halls"]
def loose : List PySem.Str := loose0 ++ loose1
set_option maxHeartbeats 0 in
theorem run (w : World) : HandSHeadRun.RunEq R (PySem.W.view R.prog [63]) hk ob 6000 loose w := by
  intro os
  kernel_rfl
-- WwDa
theorem size1 {n : Nat} (h : n ≤ 1000000) : n < sizeLine := Nat.lt_of_le_of_lt h (by decide)
theorem tYes_go {σ : L2.St} {H : Hp} {Q : Bool → Hp → Prop} (h : Q true H) : tYes σ H Q := h
theorem iteTo {b : Bool} {p q : Prop} (e : b = true) (h : p) : if b = true then p else q := by
  rw [if_pos e]
  exact h
theorem iteFo {b : Bool} {p q : Prop} (e : b = false) (h : q) : if b = true then p else q := by
  rw [if_neg (by rw [e]; decide)]
  exact h
/-! ### data by cells -/
mutual
inductive DpL (L : List Cell) : V → PyData → Prop
  | non : DpL L .non .none
  | bl (b : Bool) : DpL L (.bl b) (.bool b)
  | int (i : Int) : DpL L (.int i) (.int i)
  | str (x : Str) : DpL L (.str x) (.str x)
  | lst {a : Addr} {xs : List V} {ds : List PyData} : (a, HO.lst xs) ∈ L → DpsL L xs ds → DpL L (.ref a) (.list ds)
  | tup {a : Addr} {xs : List V} {ds : List PyData} : (a, HO.tup xs) ∈ L → DpsL L xs ds → DpL L (.ref a) (.tuple ds)
inductive DpsL (L : List Cell) : List V → List PyData → Prop
  | nil : DpsL L [] []
  | cons {v : V} {vs : List V} {d : PyData} {ds : List PyData} : DpL L v d → DpsL L vs ds → DpsL L (v :: vs) (d :: ds)
end
mutual
theorem DpL.mono {L L' : List Cell} (hs : ∀ c ∈ L, c ∈ L') : ∀ {v : V} {d : PyData}, DpL L v d → DpL L' v d
  | _, _, .non => .non
  | _, _, .bl b => .bl b
  | _, _, .int i => .int i
  | _, _, .str x => .str x
  | _, _, .lst h r => .lst (hs _ h) (DpsL.mono hs r)
  | _, _, .tup h r => .tup (hs _ h) (DpsL.mono hs r)
theorem DpsL.mono {L L' : List Cell} (hs : ∀ c ∈ L, c ∈ L') : ∀ {vs : List V} {ds : List PyData}, DpsL L vs ds → DpsL L' vs ds
  | _, _, .nil => .nil
  | _, _, .cons h r => .cons (DpL.mono hs h) (DpsL.mono hs r)
end
mutual
theorem DpL.dp {K : PySem.W.Frag} {H : Hp} {L : List Cell} (O : ∀ c ∈ L, H c.1 = some c.2) : ∀ {v : V} {d : PyData}, DpL L v d → Dp K H v d
  | _, _, .non => .non
  | _, _, .bl b => .bl b
  | _, _, .int i => .int i
  | _, _, .str x => .str x
  | _, _, .lst h r => .lst (SqL.of (O _ h)) (DpsL.dps O r)
  | _, _, .tup h r => .tup (SqT.of (O _ h)) (DpsL.dps O r)
theorem DpsL.dps {K : PySem.W.Frag} {H : Hp} {L : List Cell} (O : ∀ c ∈ L, H c.1 = some c.2) : ∀ {vs : List V} {ds : List PyData}, DpsL L vs ds → DpAll K H vs ds
  | _, _, .nil => .nil
  | _, _, .cons h r => .cons (DpL.dp O h) (DpsL.dps O r)
end
theorem DpsL.app {L : List Cell} : ∀ {vs ws : List V} {ds es : List PyData}, DpsL L vs ds → DpsL L ws es → DpsL L (vs ++ ws) (ds ++ es)
  | _, _, _, _, .nil, k => k
  | _, _, _, _, .cons h r, k => .cons h (DpsL.app r k)
theorem DpsL.ints {L : List Cell} : ∀ ns : List Int, DpsL L (ns.map V.int) (ns.map PyData.int)
  | [] => .nil
  | n :: ns => .cons (.int n) (DpsL.ints ns)
theorem DpsL.len {L : List Cell} : ∀ {vs : List V} {ds : List PyData}, DpsL L vs ds → vs.length = ds.length
  | _, _, .nil => rfl
  | _, _, .cons _ r => congrArg (· + 1) r.len
theorem DpsL.get {L : List Cell} : ∀ {vs : List V} {ds : List PyData} {i : Nat} {v : V}, DpsL L vs ds → vs[i]? = some v → ∃ d, ds[i]? = some d ∧ DpL L v d
  | _, _, i, v, .nil, e => by simp at e
  | _, _, 0, v, .cons h _, e => by
    simp at e
    subst e
    exact ⟨_, rfl, h⟩
  | _, _, i + 1, v, .cons _ r, e => by
    obtain ⟨d, h1, h2⟩ := DpsL.get (i := i) (v := v) r (by simpa using e)
    exact ⟨d, by simpa using h1, h2⟩
theorem DpsL.get' {L : List Cell} : ∀ {vs : List V} {ds : List PyData} {i : Nat} {d : PyData}, DpsL L vs ds → ds[i]? = some d → ∃ v, vs[i]? = some v ∧ DpL L v d
  | _, _, i, v, .nil, e => by simp at e
  | _, _, 0, v, .cons h _, e => by
    simp at e
    subst e
    exact ⟨_, rfl, h⟩
  | _, _, i + 1, v, .cons _ r, e => by
    obtain ⟨d, h1, h2⟩ := DpsL.get' (i := i) (d := v) r (by simpa using e)
    exact ⟨d, by simpa using h1, h2⟩

theorem noPart {σ : L2.St} {H : Hp} {Q : Option Int → Hp → Prop} (h : Q none H) : tNoPart σ H Q := h
theorem take_snoc {α : Type} {xs : List α} {i : Nat} {x : α} (h : xs[i]? = some x) : xs.take (i + 1) = xs.take i ++ [x] := by
  rw [List.take_succ, h]
  rfl
theorem DpL.lstI {N : List Cell} {v : V} {ds : List PyData} (h : DpL N v (.list ds)) : ∃ p vs, v = .ref p ∧ (p, HO.lst vs) ∈ N ∧ DpsL N vs ds := by
  cases h with
  | lst h r => exact ⟨_, _, rfl, h, r⟩
theorem DpL.tupI {N : List Cell} {v : V} {ds : List PyData} (h : DpL N v (.tuple ds)) : ∃ p vs, v = .ref p ∧ (p, HO.tup vs) ∈ N ∧ DpsL N vs ds := by
  cases h with
  | tup h r => exact ⟨_, _, rfl, h, r⟩
theorem DpsL.intsI {N : List Cell} : ∀ {ns : List Int} {vs : List V}, DpsL N vs (ns.map PyData.int) → vs = ns.map V.int
  | [], _, .nil => rfl
  | n :: ns, _, .cons h r => by
    cases h with
    | int => rw [DpsL.intsI r]; rfl
theorem not_eqv_nil : (!PyData.eqv (.list []) (.list [])) = false := by decide +kernel
theorem eqv_self (d : PyData) (h : SeqAt.shaped d = true) : (!PyData.eqv d d) = false := by rw [SeqAt.eqv_refl d (SeqAt.canLay_of_shaped h)]; rfl
theorem dpInts {K : PySem.W.Frag} {H : Hp} (ns : List Int) : DpAll K H (ns.map V.int) (ns.map PyData.int) := (DpsL.ints (L := []) ns).dps fun c hc => absurd hc List.not_mem_nil
theorem shaped_of {d : PyData} (h1 : d.canLay0 = true) (h2 : d.depth ≤ 64) : SeqAt.shaped d = true := by
  unfold SeqAt.shaped
  rw [h1, decide_eq_true h2]
  rfl
theorem layAll {α : Type} {f : α → PyData} {k : Nat} : ∀ {xs : List α}, (∀ a ∈ xs, (f a).canLay0 = true ∧ (f a).depth ≤ k) → PyData.canLayAll0 (xs.map f) = true ∧ PyData.depthAll (xs.map f) ≤ k
  | [], _ => ⟨rfl, Nat.zero_le _⟩
  | a :: xs, h => by
    obtain ⟨a1, a2⟩ := h a List.mem_cons_self
    obtain ⟨b1, b2⟩ := layAll (xs := xs) fun b hb => h b (List.mem_cons_of_mem _ hb)
    refine ⟨?_, ?_⟩
    · show (PyData.canLay0 (f a) && PyData.canLayAll0 (xs.map f)) = true
      rw [a1, b1]
      rfl
    · show max (PyData.depth (f a)) (PyData.depthAll (xs.map f)) ≤ k
      omega
theorem layL {α : Type} {f : α → PyData} {k : Nat} {xs : List α} (h : ∀ a ∈ xs, (f a).canLay0 = true ∧ (f a).depth ≤ k) : (PyData.list (xs.map f)).canLay0 = true ∧ (PyData.list (xs.map f)).depth ≤ k + 1 := by
  obtain ⟨h1, h2⟩ := layAll h
  refine ⟨h1, ?_⟩
  show PyData.depthAll (xs.map f) + 1 ≤ k + 1
  omega
theorem layT {α : Type} {f : α → PyData} {k : Nat} {xs : List α} (h : ∀ a ∈ xs, (f a).canLay0 = true ∧ (f a).depth ≤ k) : (PyData.tuple (xs.map f)).canLay0 = true ∧ (PyData.tuple (xs.map f)).depth ≤ k + 1 := by
  obtain ⟨h1, h2⟩ := layAll h
  refine ⟨h1, ?_⟩
  show PyData.depthAll (xs.map f) + 1 ≤ k + 1
  omega
theorem layI (i : Int) : (PyData.int i).canLay0 = true ∧ (PyData.int i).depth ≤ 0 := ⟨rfl, Nat.le_refl _⟩
theorem layIs (ns : List Int) : (PyData.list (ns.map .int)).canLay0 = true ∧ (PyData.list (ns.map .int)).depth ≤ 1 := layL fun i _ => layI i
/-- tuples, by their addresses -/
def TA (R : List Cell) : List Addr → List (List V) → Prop
  | [], [] => True
  | a :: as, u :: us => (a, HO.tup u) ∈ R ∧ TA R as us
  | _, _ => False
theorem TA.len {R : List Cell} : ∀ {as : List Addr} {us : List (List V)}, TA R as us → as.length = us.length
  | [], [], _ => rfl
  | [], _ :: _, h => h.elim
  | _ :: _, [], h => h.elim
  | _ :: _, _ :: _, h => congrArg (· + 1) (TA.len h.2)
theorem TA.get {R : List Cell} : ∀ {as : List Addr} {us : List (List V)} {i : Nat} {a : Addr}, TA R as us → as[i]? = some a → ∃ u, us[i]? = some u ∧ (a, HO.tup u) ∈ R
  | [], _, i, a, _, e => by simp at e
  | _ :: _, [], _, _, h, _ => h.elim
  | b :: as, u :: us, 0, a, h, e => by
    simp at e
    subst e
    exact ⟨u, rfl, h.1⟩
  | b :: as, u :: us, i + 1, a, h, e => by
    obtain ⟨v, h1, h2⟩ := TA.get (i := i) (a := a) h.2 (by simpa using e)
    exact ⟨v, by simpa using h1, h2⟩
theorem TA.mono {R R' : List Cell} (hs : ∀ c ∈ R, c ∈ R') : ∀ {as : List Addr} {us : List (List V)}, TA R as us → TA R' as us
  | [], [], _ => trivial
  | [], _ :: _, h => h.elim
  | _ :: _, [], h => h.elim
  | _ :: _, _ :: _, h => ⟨hs _ h.1, TA.mono hs h.2⟩
theorem TA.app {R : List Cell} : ∀ {as bs : List Addr} {us vs : List (List V)}, TA R as us → TA R bs vs → TA R (as ++ bs) (us ++ vs)
  | [], _, [], _, _, k => k
  | [], _, _ :: _, _, h, _ => h.elim
  | _ :: _, _, [], _, h, _ => h.elim
  | _ :: _, _, _ :: _, _, h, k => ⟨h.1, TA.app h.2 k⟩
theorem pick3 {v : Int} {a b c : V} (h0 : 0 ≤ v) (h3 : v < 3) : ∃ y, atI [a, b, c] v = some y ∧ (y = a ∨ y = b ∨ y = c) := by
  have : v = 0 ∨ v = 1 ∨ v = 2 := by omega
  rcases this with e | e | e <;> subst e
  · exact ⟨a, rfl, .inl rfl⟩
  · exact ⟨b, rfl, .inr (.inl rfl)⟩
  · exact ⟨c, rfl, .inr (.inr rfl)⟩
theorem pick2 {v : Int} {a b : V} (h0 : 0 ≤ v) (h3 : v < 2) : ∃ y, atI [a, b] v = some y ∧ (y = a ∨ y = b) := by
  have : v = 0 ∨ v = 1 := by omega
  rcases this with e | e <;> subst e
  · exact ⟨a, rfl, .inl rfl⟩
  · exact ⟨b, rfl, .inr rfl⟩
theorem pick4 {v : Int} {a b c d : V} (h0 : 0 ≤ v) (h3 : v < 4) : ∃ y, atI [a, b, c, d] v = some y ∧ (y = a ∨ y = b ∨ y = c ∨ y = d) := by
  have : v = 0 ∨ v = 1 ∨ v = 2 ∨ v = 3 := by omega
  rcases this with e | e | e | e <;> subst e
  · exact ⟨a, rfl, .inl rfl⟩
  · exact ⟨b, rfl, .inr (.inl rfl)⟩
  · exact ⟨c, rfl, .inr (.inr (.inl rfl))⟩
  · exact ⟨d, rfl, .inr (.inr (.inr rfl))⟩
theorem ixN_nat {n k : Nat} (h : k < n) : ixN n (k : Int) = some k := by
  unfold ixN
  rw [if_pos (by omega), if_pos (by omega), Int.toNat_natCast]
theorem seqIx {n k : Nat} (h : k < n) : seqIndex? (k : Int) n = some k := (ixN_seq (ixN_nat h)).1
theorem seqIxN {n k : Nat} (h : k < n) : seqIndex? (k : Int) n = some k := seqIx h
/-! ### list.count of truth values -/
def eqBl (k : Bool) (v : Value) : Bool := match v with
  | .bool n => n == k
  | _ => false
inductive BlAre : List Value → List Bool → Prop
  | nil : BlAre [] []
  | cons {us : List Value} {ns : List Bool} (x : Bool) : BlAre us ns → BlAre (.bool x :: us) (x :: ns)
theorem blAre_of : ∀ {ns : List Bool} {us : List Value}, Vals (ns.map V.bl) us → BlAre us ns
  | [], _, .nil => .nil
  | n :: ns, _, .cons r h => by
    cases r
    exact .cons n (blAre_of h)
theorem eqBl_at {A : Around} {s : Shared} {k : Bool} : ∀ {us : List Value} {ns : List Bool}, BlAre us ns → ∀ y ∈ us, SeqAt.EqAt A s y (.bool k) (eqBl k y)
  | _, _, .nil => fun y hy => by cases hy
  | _, _, .cons n h => fun y hy => by
    rcases List.mem_cons.mp hy with e | e
    · rw [e]
      exact SeqAt.EqAt.bool_bool n k
    · exact eqBl_at h y e
theorem eqBl_count {k : Bool} : ∀ {us : List Value} {ns : List Bool}, BlAre us ns → us.countP (eqBl k) = ns.countP (· == k)
  | _, _, .nil => rfl
  | _, _, .cons n h => by
    have ih := eqBl_count (k := k) h
    rw [List.countP_cons, List.countP_cons, ih] <;> rfl
def rCntB (K : PySem.W.Frag) : V → List V → Hp → VK → Prop := fun x xs H Q => ∃ (p : Addr) (ns : List Bool) (k : Bool), x = .ref p ∧ xs = [.bl k] ∧ SqL K H p (ns.map V.bl) ∧ Q (.int (ns.countP (· == k) : Nat)) H
theorem mt_lcountB {X : Cx} : MtR X "list.count" (rCntB X.K) := by
  intro pins s σ H x xs v us Q I rx rxs h
  obtain ⟨p, ns, k, rfl, rfl, hs, q⟩ := h
  cases rx
  obtain ⟨u, rfl, ru⟩ := rxs.one
  cases ru
  obtain ⟨its, rv, ⟨⟨cls, dd, data, sl⟩, n, ho, hc, hdn, hd⟩, hlen⟩ := I.list hs
  simp only at hc hd
  subst hc hd
  have hi := blAre_of rv
  refine call_meets PySem.F.slot_list_count ⟨_, ho, rfl⟩ PySem.F.entry_list_count (PySem.F.args_list_count_2 _ _) (SeqAt.list_countAt p its.toArray n dd sl (.bool k) (eqBl k)) ⟨ho, fun y hy => eqBl_at hi y (by simpa using hy), ?_⟩
  have ec : its.toArray.toList.countP (eqBl k) = ns.countP (· == k) := eqBl_count hi
  refine ⟨.int (ns.countP (· == k) : Nat), H, I.tok _, ⟨s.toks, ?_⟩, q⟩
  show Value.int ((its.toArray.toList.countP (eqBl k) : Nat) : Int) s.toks = _
  rw [ec]
/-! ### len(set(..)) of a list of ints -/
theorem dedup_nodup (val : Nat → Int) : ∀ i, (PyProof.Rows.firstMet val i).Nodup
  | 0 => by
    rw [PyProof.Rows.firstMet_zero]
    exact List.nodup_nil
  | i + 1 => by
    have ih := dedup_nodup val i
    rw [PyProof.Rows.firstMet_succ]
    unfold PyProof.Rows.step_dedup
    split
    · exact ih
    · rename_i h
      refine List.nodup_append.mpr ⟨ih, List.nodup_cons.mpr ⟨(fun q => by cases q), List.nodup_nil⟩, fun a ha b hb e => h ?_⟩
      rw [List.mem_singleton.mp hb] at e
      subst e
      exact List.any_eq_true.mpr ⟨_, ha, beq_self_eq_true _⟩
theorem range_getD (ns : List Int) : (List.range ns.length).map (fun i => ns.getD i 0) = ns := by
  refine List.ext_getElem? fun i => ?_
  rw [List.getElem?_map]
  by_cases h : i < ns.length
  · rw [List.getElem?_range h, List.getElem?_eq_getElem h]
    show some (ns.getD i 0) = _
    rw [List.getD_eq_getElem?_getD, List.getElem?_eq_getElem h]
    rfl
  · rw [List.getElem?_eq_none (by rw [List.length_range]; omega), List.getElem?_eq_none (by omega)]
    rfl
theorem dedup_mem (ns : List Int) (k : Int) : k ∈ PyProof.Rows.firstMet (fun i => ns.getD i 0) ns.length ↔ k ∈ ns := by
  have h := PyProof.Rows.firstMet_any (fun i => ns.getD i 0) ns.length k
  rw [range_getD] at h
  constructor
  · intro q
    have : (PyProof.Rows.firstMet (fun i => ns.getD i 0) ns.length).any (· == k) = true := List.any_eq_true.mpr ⟨k, q, beq_self_eq_true _⟩
    rw [h] at this
    obtain ⟨x, hx, e⟩ := List.any_eq_true.mp this
    rw [← eq_of_beq e]
    exact hx
  · intro q
    have : ns.any (· == k) = true := List.any_eq_true.mpr ⟨k, q, beq_self_eq_true _⟩
    rw [← h] at this
    obtain ⟨x, hx, e⟩ := List.any_eq_true.mp this
    rw [← eq_of_beq e]
    exact hx
def tLenSet (K : PySem.W.Frag) (ta : TE) : TE := fun σ H Q => ta σ H fun x H1 => ∃ (l : Addr) (ns : List Int), x = .ref l ∧ SqL K H1 l (ns.map V.int) ∧ ns.length ≤ 4000 ∧ ∀ us : List Int, us.Nodup → (∀ k, k ∈ us ↔ k ∈ ns) → Q (.int (us.length : Nat)) H1
theorem pe_lenSet {X : Cx} {a : Expr} {ta : TE} {p p2 q pos : Pos} (hg : Gl X "len") (hm : X.mg "len" = none) (hg2 : Gl X "set") (hm2 : X.mg "set" = none) (ha : PE X a ta) (hc : X.calm = true := by rfl)
    (na : starEach [a] X.env = (false, eval a X.env) :: starEach [] X.env := by rfl) : PE X (.Call (.Name "len" p) [.Call (.Name "set" p2) [a] [] q] [] pos) (tLenSet X.K ta) := by
  refine ⟨fun pins s σ H Q I h => ?_⟩
  refine Call_ (ld_blt I hg hm boot_len ?_)
  refine PyProof.Rows.callWith_builtin1 (PyProof.Rows.args_cons ?_ rfl) rfl rfl
  refine Call_ (ld_blt I hg2 hm2 boot_set ?_)
  refine PyProof.Rows.callWith_type1 (PyProof.Rows.args_cons (thn (ha.run pins s σ H _ I h) fun v s1 ⟨x, H1, I1, r1, q1⟩ => PyProof.Rows.args_nil ?_) na) na rfl
  obtain ⟨l, ns, rfl, hq, hl, q1⟩ := q1
  cases r1
  obtain ⟨its, r, pl, hz⟩ := I1.list hq
  have hlen : its.toArray.size = ns.length := by rw [List.size_toArray, ← r.length, List.length_map]
  refine call_set_list (I1.ok.hd hc) pl.isList (by simpa using RZ.intsAre_vals r) (by rw [hlen]; unfold scanBound; omega) fun h' tk hS hk => ?_
  refine PyProof.Rows.args_nil ?_
  rw [hlen] at hS
  have hle := PyProof.Rows.firstMet_length_le (fun i => ns.getD i 0) ns.length
  obtain ⟨o, es, ep, t, ho, hex, hd, _, _, _, hf, hn⟩ := hS
  have I2 : Inv X pins σ H1 { s1 with heap := h', toks := tk } := I1.kept fun b o e => hk b o (Heap.lt_size e) e
  exact call_len_set ho hex hd hf (by rw [hn] <;> omega) ⟨.int (PyProof.Rows.firstMet (fun i => ns.getD i 0) ns.length).length, H1, I2.tok _, ⟨_, by rw [hn]⟩, q1 _ (dedup_nodup _ _) (dedup_mem ns)⟩
abbrev rIsNo : R2 := fun x y H Q => y = .non ∧ Q (.bl (decide (x = .non))) H
/-! ### blocks, their depths -/

def blV (bs : List Nat) : List V := bs.map fun b => V.int (b : Nat)
theorem blV_len (bs : List Nat) : (blV bs).length = bs.length := List.length_map _
theorem blV_flat (bs : List Nat) : (blV bs).all flatV = true := List.all_eq_true.mpr fun x hx => by
  obtain ⟨b, _, rfl⟩ := List.mem_map.mp hx
  rfl
theorem eqV_int (a b : Int) : eqV (.int a) (.int b) = (a == b) := rfl
theorem inV_bl (b : Nat) (bs : List Nat) : inV (.int (b : Nat)) (blV bs) = decide (b ∈ bs) := by
  unfold inV
  by_cases h : b ∈ bs
  · rw [decide_eq_true h]
    exact List.any_eq_true.mpr ⟨.int (b : Nat), List.mem_map.mpr ⟨b, h, rfl⟩, beq_self_eq_true (b : Int)⟩
  · rw [decide_eq_false h]
    refine Bool.eq_false_iff.mpr fun q => h ?_
    obtain ⟨x, hx, e⟩ := List.any_eq_true.mp q
    obtain ⟨c, hc, rfl⟩ := List.mem_map.mp hx
    have e : ((c : Nat) : Int) = ((b : Nat) : Int) := eq_of_beq e
    rw [← Int.ofNat.inj e]
    exact hc
theorem inV_is (b : Int) (bs : List Int) : inV (.int b) (bs.map V.int) = decide (b ∈ bs) := by
  unfold inV
  by_cases h : b ∈ bs
  · rw [decide_eq_true h]
    exact List.any_eq_true.mpr ⟨.int b, List.mem_map.mpr ⟨b, h, rfl⟩, beq_self_eq_true b⟩
  · rw [decide_eq_false h]
    refine Bool.eq_false_iff.mpr fun q => h ?_
    obtain ⟨x, hx, e⟩ := List.any_eq_true.mp q
    obtain ⟨c, hc, rfl⟩ := List.mem_map.mp hx
    have e : (c == b) = true := e
    rw [← eq_of_beq e]
    exact hc
theorem isV_flat (bs : List Int) : (bs.map V.int).all flatV = true := List.all_eq_true.mpr fun x hx => by
  obtain ⟨b, _, rfl⟩ := List.mem_map.mp hx
  rfl
def intsOf (bs : List Nat) : List Int := bs.map fun b => ((b : Nat) : Int)
theorem blV_is (bs : List Nat) : blV bs = (intsOf bs).map V.int := by
  unfold blV intsOf
  rw [List.map_map]
  rfl
theorem sh0 : SeqAt.shaped (.list []) = true := PySem.W.shaped_ints []
theorem cutTake {xs : List V} {k : Nat} (h : k ≤ xs.length) : cutV xs none (some (k : Int)) = xs.take k := by
  unfold cutV
  rw [HT.sIx_none, HT.sIx_nat, Nat.min_eq_left h, List.drop_zero, Nat.sub_zero]
theorem cutDrop {xs : List V} {k : Nat} (h : k ≤ xs.length) : cutV xs (some (k : Int)) none = xs.drop k := by
  unfold cutV
  rw [HT.sIx_none, HT.sIx_nat, Nat.min_eq_left h]
  exact List.take_of_length_le (by rw [List.length_drop]; omega)
/-- a slice of a list of ints -/
def cutI (ns : List Int) (lo hi : Option Int) : List Int := (ns.drop (HT.sIx ns.length 0 lo)).take (HT.sIx ns.length ns.length hi - HT.sIx ns.length 0 lo)
theorem cutI_eq (ns : List Int) (lo hi : Option Int) : cutV (ns.map V.int) lo hi = (cutI ns lo hi).map V.int := by
  unfold cutV cutI
  rw [List.length_map, List.map_take, List.map_drop]
theorem cutI_len (ns : List Int) (lo hi : Option Int) : (cutI ns lo hi).length ≤ ns.length := by
  unfold cutI
  rw [List.length_take, List.length_drop]
  omega
-- WwT0
/-! ### the law's draws -/
/-- the script, as cells S -/
def Scr (K : PySem.W.Frag) (sc : Addr) (ns : List Int) (S : List Cell) : Prop := ∀ H : Hp, (∀ c ∈ S, H c.1 = some c.2) → SqL K H sc (ns.map V.int)
/-- the row of a law: the script, how many cells were taken, what is mixed -/
def RowC (K : PySem.W.Frag) (rw : Addr) (S : List Cell) (c : Cell) : Prop := ∃ (sc : Addr) (ns : List Int) (i : Nat) (z : Int), Scr K sc ns S ∧ 0 ≤ z ∧ z < 2147483647 ∧ c = (rw, .lst [.ref sc, .int i, .int z])
theorem Own.scr {K : PySem.W.Frag} {H : Hp} {sc : Addr} {ns : List Int} {S R : List Cell} {c : Cell} (h : Scr K sc ns S) (O : Own H (c :: (S ++ R))) : SqL K H sc (ns.map V.int) := h H fun d hd => O.2 d (List.mem_cons_of_mem _ (List.mem_append_left _ hd))
def spTaken (K : PySem.W.Frag) : Sp := fun vs H Q _ => ∃ (rw : Addr) (S : List Cell) (c : Cell) (many : Int) (R : List Cell), vs = [.ref rw, .int many] ∧ RowC K rw S c ∧ 0 < many ∧ Own H (c :: (S ++ R)) ∧
  ∀ (v : Int) (c' : Cell) (H' : Hp), 0 ≤ v → v < many → RowC K rw S c' → Own H' (c' :: (S ++ R)) → Q (.int v) H'
def spIsNum : Sp := fun vs H Q _ => ∃ (x lo hi : Int), vs = [.int x, .int lo, .int hi] ∧ Q (.bl (decide (lo ≤ x ∧ x ≤ hi))) H
section
variable {P : Program} {w : World} {K : PySem.W.Frag} {mg : Str → Option Value} {base : Heap} {n lv : Nat}
theorem okOf {x qual : Str} {params : Arguments} {body : List Stmt} {scope : Scope} {f : Addr} {fd : FuncData} {N ps : List Str} {k : Nat} {sp : Sp} (F : FunD K x qual params body scope [] [] f fd) (S : FnScope N ps scope) (len : ∀ vs H Q E, sp vs H Q E → vs.length = ps.length)
    (hbody : ∀ (cdv : Value) (A : Around) (outer : List Env) (s : Shared) (H : Hp) (vs : List V) (Q : VK) (E : XK), Room k (A.deeper (envOfC qual scope s.heap.objs.size f cdv)) → sp vs H Q E →
      ∃ t, PSs (cxOf CX0 P w K mg base N qual scope f cdv A outer s H E).nox body t ∧ t { nx := fun _ H' => Q .non H', rt := Q } (start N vs) H) : FnOk P w K mg base CX0 (k + 1) f fd ps sp :=
  F.ok S len fun cdv A outer s H vs Q E hr h => by
    obtain ⟨t, h1, h2⟩ := hbody cdv A outer s H vs Q E hr h
    exact ⟨t, h1.nox, h2⟩
theorem okX {x qual : Str} {params : Arguments} {body : List Stmt} {scope : Scope} {f : Addr} {fd : FuncData} {N ps : List Str} {k : Nat} {sp : Sp} (F : FunD K x qual params body scope [] [] f fd) (S : FnScope N ps scope) (len : ∀ vs H Q E, sp vs H Q E → vs.length = ps.length)
    (hb : ∀ (cdv : Value) (A : Around) (outer : List Env) (s : Shared) (H : Hp) (vs : List V) (Q : VK) (E : XK), Room k (A.deeper (envOfC qual scope s.heap.objs.size f cdv)) → sp vs H Q E →
      ∃ t, PSs (cxOf (L2.CX P w) P w K mg base N qual scope f cdv A outer s H E) body t ∧ t { nx := fun _ H' => Q .non H', rt := Q } (start N vs) H) : FnOk P w K mg base (L2.CX P w) (k + 1) f fd ps sp := F.ok S len hb
/-- a def whose code object and table are told -/
theorem okTab {p : He.Defn} {x qual : Str} {params : Arguments} {body : List Stmt} {scope : Scope} {fd : FuncData} {N ps : List Str} {k : Nat} {sp : Sp} (F : FunD K x qual params body scope [] [] (He.fAd K p) fd) (S : FnScope N ps scope) (len : ∀ vs H Q E, sp vs H Q E → vs.length = ps.length)
    (hb : ∀ (A : Around) (outer : List Env) (s : Shared) (H : Hp) (vs : List V) (Q : VK) (E : XK), Room k (A.deeper (envOfC qual scope s.heap.objs.size (He.fAd K p) (.ref (He.codeOf K p)))) → sp vs H Q E →
      ∃ t, PSs (cxOf CX0 P w K mg base N qual scope (He.fAd K p) (.ref (He.codeOf K p)) A outer s H E).nox body t ∧ t { nx := fun _ H' => Q .non H', rt := Q } (start N vs) H) : FnOk P w K mg base CX0 (k + 1) (He.fAd K p) fd ps sp := by
  obtain ⟨oc, od, dV, kV, doc, pm, an, cdv, ct, osl, rfl, lk, hcd, _, _⟩ := F.ex
  obtain ⟨c, rfl⟩ := He.codeIn_ref hcd
  have e := He.codeOf_eq lk rfl
  rw [e] at hb
  refine fn_of lk hcd S len fun A outer s H vs Q E hr hsp => ?_
  obtain ⟨t, h1, h2⟩ := hb A outer s H vs Q E hr hsp
  exact ⟨t, h1.nox, h2⟩
theorem ok_taken (T : Txt K mg) : FnOk P w K mg base CX0 1 (He.fAd K ("_law_taken", none)) T.fd__law_taken ["_law_row", "_law_many"] (spTaken K) := by
  refine okOf T.F__law_taken sc__law_taken (fun vs H Q E h => ?_) (fun cdv A outer s H vs Q E hr h => ?_)
  · obtain ⟨_, _, _, _, _, rfl, _⟩ := h
    rfl
  · obtain ⟨rw, S, c, many, R, rfl, ⟨sc, ns, i, z, hsc, hz0, hz1, rfl⟩, hm, O, k⟩ := h
    refine ⟨_, (pss_cons (ps_asg (pe_op op_add (pe_ix ix_list (pv 0) pe_int (fun _ _ => rfl)) pe_int) (pg_sub (pv 0) pe_int set_list)) (pss_cons (ps_if (pt_cmpR op_gt (pe_ix ix_list (pv 0) pe_int (fun _ _ => rfl)) (pe_callB call_len_seq (by rfl) T.n_len PySem.boot_len (pa_cons (pe_ix ix_list (pv 0) pe_int (fun _ _ => rfl)) pa_nil)) (nomark _)) (pss_cons (ps_asg (pe_op op_mod (pe_op op_add (pe_op op_mul (pe_ix ix_list (pv 0) pe_int (fun _ _ => rfl)) pe_int) pe_int) pe_int) (pg_sub (pv 0) pe_int set_list)) (pss_one (ps_ret (pe_op op_mod (pe_op op_fdiv (pe_ix ix_list (pv 0) pe_int (fun _ _ => rfl)) pe_int) (pv 1))))) pss_nil) (pss_cons (ps_set (i := 2) sc__law_taken.nd rfl (Or.inl rfl) (pe_ix ix_list (pe_ix ix_list (pv 0) pe_int (fun _ _ => rfl)) (pe_op op_sub (pe_ix ix_list (pv 0) pe_int (fun _ _ => rfl)) pe_int) (fun _ _ => rfl))) (pss_cons (ps_asg (pe_op op_mod (pe_op op_add (pe_op op_add (pe_op op_mul (pe_ix ix_list (pv 0) pe_int (fun _ _ => rfl)) pe_int) (pv 2)) pe_int) pe_int) (pg_sub (pv 0) pe_int set_list)) (pss_one (ps_ret (pe_op op_mod (pv 2) (pv 1)))))))), ?_⟩
    refine ⟨_, rfl, rw, _, 1, .int i, rfl, rfl, SqL.of O.a0, rfl, _, _, rfl, rfl, _, rfl, rw, _, 1, 1, rfl, rfl, O.a0, rfl, ?_⟩
    have O1 := O.set (o' := .lst [.ref sc, .int ((i : Int) + 1), .int z])
    refine ⟨_, rfl, rw, _, 1, .int ((i : Int) + 1), rfl, rfl, SqL.of O1.a0, rfl, _, rfl, rw, _, 0, .ref sc, rfl, rfl, SqL.of O1.a0, rfl, sc, _, rfl, .inl (O1.scr hsc), _, _, rfl, rfl, _, rfl, ?_⟩
    have hi1 : (i : Int) + 1 = ((i + 1 : Nat) : Int) := by omega
    refine ite2 (fun e => ?_) (fun e => ?_)
    · refine ⟨_, rfl, rw, _, 2, .int z, rfl, rfl, SqL.of O1.a0, rfl, _, _, rfl, rfl, .inr ⟨by decide, by decide⟩, _, _, rfl, rfl, _, _, rfl, rfl, (by show (0 : Int) < 2147483647; decide), _, rfl, rw, _, 2, 2, rfl, rfl, O1.a0, rfl, ?_⟩
      have O2 := O1.set (o' := .lst [.ref sc, .int ((i : Int) + 1), .int ((z * 48271 + 11) % 2147483647)])
      have hz2 := Int.emod_nonneg (z * 48271 + 11) (by decide : (2147483647 : Int) ≠ 0)
      have hz3 := Int.emod_lt_of_pos (z * 48271 + 11) (by decide : (0 : Int) < 2147483647)
      refine ⟨_, rfl, rw, _, 2, .int ((z * 48271 + 11) % 2147483647), rfl, rfl, SqL.of O2.a0, rfl, _, _, rfl, rfl, ⟨by decide, by decide⟩, _, rfl, _, _, rfl, rfl, hm, ?_⟩
      exact k _ _ _ (Int.emod_nonneg _ (by omega)) (Int.emod_lt_of_pos _ hm) ⟨sc, ns, i + 1, _, hsc, hz2, hz3, rfl⟩ O2
    · have hlt : i < ns.length := by
        have e' : ¬ decide ((((ns.map V.int).length : Nat) : Int) < (i : Int) + 1) = true := e
        rw [List.length_map] at e'
        have := of_decide_eq_false (Bool.eq_false_iff.mpr e')
        omega
      refine ⟨_, rfl, rw, _, 0, .ref sc, rfl, rfl, SqL.of O1.a0, rfl, _, rfl, rw, _, 1, .int ((i : Int) + 1), rfl, rfl, SqL.of O1.a0, rfl, _, _, rfl, rfl, sc, _, _, .int ns[i], rfl, rfl, O1.scr hsc, ?_, ?_⟩
      · have e1 : (i : Int) + 1 - 1 = (i : Int) := by omega
        rw [e1]
        refine atI_nat ?_
        rw [List.getElem?_map, List.getElem?_eq_getElem hlt]
        rfl
      · refine ⟨_, rfl, rw, _, 2, .int z, rfl, rfl, SqL.of O1.a0, rfl, _, _, rfl, rfl, .inr ⟨by decide, by decide⟩, _, rfl, _, _, rfl, rfl, _, _, rfl, rfl, _, _, rfl, rfl, (by show (0 : Int) < 2147483647; decide), _, rfl, rw, _, 2, 2, rfl, rfl, O1.a0, rfl, ?_⟩
        have O2 := O1.set (o' := .lst [.ref sc, .int ((i : Int) + 1), .int ((z * 48271 + ns[i] + 11) % 2147483647)])
        have hz2 := Int.emod_nonneg (z * 48271 + ns[i] + 11) (by decide : (2147483647 : Int) ≠ 0)
        have hz3 := Int.emod_lt_of_pos (z * 48271 + ns[i] + 11) (by decide : (0 : Int) < 2147483647)
        refine ⟨_, rfl, _, rfl, _, _, rfl, rfl, hm, ?_⟩
        exact k _ _ _ (Int.emod_nonneg _ (by omega)) (Int.emod_lt_of_pos _ hm) ⟨sc, ns, i + 1, _, hsc, hz2, hz3, rfl⟩ O2
theorem ok_is_number (T : Txt K mg) : FnOk P w K mg base CX0 1 (He.fAd K ("is_number", none)) T.fd_is_number ["part", "low", "high"] spIsNum := by
  refine okOf T.F_is_number sc_is_number (fun vs H Q E h => ?_) (fun cdv A outer s H vs Q E hr h => ?_)
  · obtain ⟨_, _, _, rfl, _⟩ := h
    rfl
  · obtain ⟨x, lo, hi, rfl, k⟩ := h
    refine ⟨_, (pss_one (ps_ret (pe_and (pe_callB call_isi (by rfl) T.n_isinstance (by decide +kernel) (pa_cons (pv 0) (pa_cons (pe_bltn (v := .ty "int") (by rfl) T.n_int (by decide +kernel) rfl) pa_nil))) (pe_and (pe_not (pe_callB call_isi (by rfl) T.n_isinstance (by decide +kernel) (pa_cons (pv 0) (pa_cons (pe_bltn (v := .ty "bool") (by rfl) T.n_bool (by decide +kernel) rfl) pa_nil)))) (pe_one (pe_chain op_le op_le (pv 1) (pv 0) (pv 2))))))), ?_⟩
    refine ⟨_, rfl, _, _, _, _, true, rfl, ClsV.ty _, TyX.base (.int x), kit_ty (by decide +kernel), true, rfl, iteT ?_⟩
    refine ⟨_, rfl, _, _, _, _, false, rfl, ClsV.ty _, TyX.base (.int x), kit_ty (by decide +kernel), false, rfl, true, rfl, iteT ?_⟩
    refine ⟨_, rfl, _, rfl, lo, x, rfl, rfl, _, rfl, ?_⟩
    by_cases h1 : lo ≤ x
    · rw [decide_eq_true h1]
      refine iteT ⟨_, rfl, x, hi, rfl, rfl, ?_⟩
      have e : decide (x ≤ hi) = decide (lo ≤ x ∧ x ≤ hi) := by simp [h1]
      show Q (.bl (decide (x ≤ hi))) H
      rw [e]
      exact k
    · rw [decide_eq_false h1]
      refine iteF ?_
      have e : decide (lo ≤ x ∧ x ≤ hi) = false := by simp [h1]
      rw [e] at k
      exact k
end
-- WwWd
/-! ### rules whose reading names the written part by itself -/
theorem mt_cntK (K : PySem.W.Frag) {X : Cx} (hK : X.K = K) : MtR X "list.count" (rCntB K) := by
  subst hK
  exact mt_lcountB
theorem mt_idxK (K : PySem.W.Frag) {X : Cx} (hK : X.K = K) : MtR X "list.index" (rIndex K) := by
  subst hK
  exact mt_index
theorem ix_listK (K : PySem.W.Frag) {X : Cx} (hK : X.K = K) : IxR X (rIxL K) := by
  subst hK
  exact ix_list
theorem op_inK (K : PySem.W.Frag) {X : Cx} (hK : X.K = K) : OpR X (compareOp .In) (rIn K false) := by
  subst hK
  exact op_in_seq
theorem pe_bmK (K : PySem.W.Frag) {X : Cx} (hK : X.K = K) {o e : Expr} {es : List Expr} {to : TE} {t : L2.TA} {name : Str} {apos cpos : Pos} {T id : String} {r : V → List V → Hp → VK → Prop} (pa : PlainAttrs T) (slot : Slot T name id) (hty : typeOf (.builtin id) = pure (.type "method_descriptor")) (hm : MtR X id r) (ho : PE X o to) (ha : PA X (e :: es) t)
    (h1 : attributeBase o name X.env (eval o X.env) = eval o X.env := by rfl)
    (h2 : ((backTo cpos (starEach (e :: es) X.env)).all (fun x => !x.1) && (backToKw cpos (keywordEach [] X.env)).all (fun x => x.1.isSome) && decide ((e :: es).length + ([] : List Keyword).length + (if ([] : List Keyword).isEmpty then 0 else 1) < 30)) = true := by rfl)
    (h3 : (apos.endLine == cpos.line) = true := by rfl) (h4 : starEach (e :: es) X.env = (false, eval e X.env) :: starEach es X.env := by rfl) (h5 : (backTo cpos (starEach es X.env)).any (·.1) = false := by rfl) :
    PE X (.Call (.Attribute o name apos) (e :: es) [] cpos) (tBM K T r to t) := by
  subst hK
  exact pe_bm pa slot hty hm ho ha h1 h2 h3 h4 h5
/-! ### refusals, and the word of a refusal -/
section
variable {P : Program} {w : World} {K : PySem.W.Frag} {mg : Str → Option Value} {base : Heap} {n lv : Nat}
theorem ok_BadRule (T : Txt K mg) : FnOk P w K mg base CX0 1 (He.ma K (He.ga K "BadRule") "__init__") T.fd_BadRule___init__ ["self", "number"] (spExI K (He.ga K "BadRule") "number") := by
  refine okOf T.F_BadRule___init__ sc_BadRule___init__ (fun vs H Q E h => ?_) (fun cdv A outer s H vs Q E hr h => ?_)
  · obtain ⟨_, _, rfl, _⟩ := h
    rfl
  · obtain ⟨a, n, rfl, hn, ha, k⟩ := h
    have T1 := (T.xt.xc "BadRule" (by decide)).oex T.ox_BadRule
    refine ⟨_, (pss_cons (ps_expr (pe_weinit (by rfl) T.g_WayError T.xt.sg T.xt.rd T.xt.fc (pa_cons (pv 0) (pa_cons (pe_joined (.cons pe_str (.cons (pe_fmt (pv 1)) .nil))) pa_nil)))) (pss_one (ps_ost (pv 0) (pv 1)))), ?_⟩
    refine ⟨_, rfl, ⟨"rule ", rfl, by decide, _, rfl, .inr ⟨n, rfl, log60 hn, _, rfl, int_fits60 hn (by decide), ?_⟩⟩⟩
    refine ⟨a, _, _, rfl, by show 1 ≤ 1000; decide, T1, ha, ?_⟩
    exact ⟨_, rfl, _, rfl, a, _, rfl, T1, T.na_BadRule_number, .inl ⟨ha, fun dx h1 h2 => k dx h1 h2⟩⟩
theorem ok_BadDeed (T : Txt K mg) : FnOk P w K mg base CX0 1 (He.ma K (He.ga K "BadDeed") "__init__") T.fd_BadDeed___init__ ["self", "number"] (spExI K (He.ga K "BadDeed") "number") := by
  refine okOf T.F_BadDeed___init__ sc_BadDeed___init__ (fun vs H Q E h => ?_) (fun cdv A outer s H vs Q E hr h => ?_)
  · obtain ⟨_, _, rfl, _⟩ := h
    rfl
  · obtain ⟨a, n, rfl, hn, ha, k⟩ := h
    have T1 := (T.xt.xc "BadDeed" (by decide)).oex T.ox_BadDeed
    refine ⟨_, (pss_cons (ps_expr (pe_weinit (by rfl) T.g_WayError T.xt.sg T.xt.rd T.xt.fc (pa_cons (pv 0) (pa_cons (pe_joined (.cons pe_str (.cons (pe_fmt (pv 1)) .nil))) pa_nil)))) (pss_one (ps_ost (pv 0) (pv 1)))), ?_⟩
    refine ⟨_, rfl, ⟨"deed ", rfl, by decide, _, rfl, .inr ⟨n, rfl, log60 hn, _, rfl, int_fits60 hn (by decide), ?_⟩⟩⟩
    refine ⟨a, _, _, rfl, by show 1 ≤ 1000; decide, T1, ha, ?_⟩
    exact ⟨_, rfl, _, rfl, a, _, rfl, T1, T.na_BadDeed_number, .inl ⟨ha, fun dx h1 h2 => k dx h1 h2⟩⟩
theorem ok_BadLeavings (T : Txt K mg) : FnOk P w K mg base CX0 1 (He.ma K (He.ga K "BadLeavings") "__init__") T.fd_BadLeavings___init__ ["self", "number"] (spExI K (He.ga K "BadLeavings") "number") := by
  refine okOf T.F_BadLeavings___init__ sc_BadLeavings___init__ (fun vs H Q E h => ?_) (fun cdv A outer s H vs Q E hr h => ?_)
  · obtain ⟨_, _, rfl, _⟩ := h
    rfl
  · obtain ⟨a, n, rfl, hn, ha, k⟩ := h
    have T1 := (T.xt.xc "BadLeavings" (by decide)).oex T.ox_BadLeavings
    refine ⟨_, (pss_cons (ps_expr (pe_weinit (by rfl) T.g_WayError T.xt.sg T.xt.rd T.xt.fc (pa_cons (pv 0) (pa_cons (pe_joined (.cons pe_str (.cons (pe_fmt (pv 1)) .nil))) pa_nil)))) (pss_one (ps_ost (pv 0) (pv 1)))), ?_⟩
    refine ⟨_, rfl, ⟨"leaving ", rfl, by decide, _, rfl, .inr ⟨n, rfl, log60 hn, _, rfl, int_fits60 hn (by decide), ?_⟩⟩⟩
    refine ⟨a, _, _, rfl, by show 1 ≤ 1000; decide, T1, ha, ?_⟩
    exact ⟨_, rfl, _, rfl, a, _, rfl, T1, T.na_BadLeavings_number, .inl ⟨ha, fun dx h1 h2 => k dx h1 h2⟩⟩
theorem ok_BadText (T : Txt K mg) : FnOk P w K mg base CX0 1 (He.ma K (He.ga K "BadText") "__init__") T.fd_BadText___init__ ["self", "row"] (spExI K (He.ga K "BadText") "row") := by
  refine okOf T.F_BadText___init__ sc_BadText___init__ (fun vs H Q E h => ?_) (fun cdv A outer s H vs Q E hr h => ?_)
  · obtain ⟨_, _, rfl, _⟩ := h
    rfl
  · obtain ⟨a, n, rfl, hn, ha, k⟩ := h
    have T1 := (T.xt.xc "BadText" (by decide)).oex T.ox_BadText
    refine ⟨_, (pss_cons (ps_expr (pe_weinit (by rfl) T.g_WayError T.xt.sg T.xt.rd T.xt.fc (pa_cons (pv 0) (pa_cons (pe_joined (.cons pe_str (.cons (pe_fmt (pv 1)) .nil))) pa_nil)))) (pss_one (ps_ost (pv 0) (pv 1)))), ?_⟩
    refine ⟨_, rfl, ⟨"row ", rfl, by decide, _, rfl, .inr ⟨n, rfl, log60 hn, _, rfl, int_fits60 hn (by decide), ?_⟩⟩⟩
    refine ⟨a, _, _, rfl, by show 1 ≤ 1000; decide, T1, ha, ?_⟩
    exact ⟨_, rfl, _, rfl, a, _, rfl, T1, T.na_BadText_row, .inl ⟨ha, fun dx h1 h2 => k dx h1 h2⟩⟩
end
def wordsL : List Str := ["rule", "hands", "hand", "place", "number", "deed", "room", "ways", "leavings", "text"]
def fldOf (i : Nat) : Option Str := if i = 0 ∨ i = 5 ∨ i = 8 then some "number" else if i = 9 then some "row" else none
/-- what the word of a refusal asks of the exception -/
def wishW (K : PySem.W.Frag) (Q : VK) : XK := fun cls d H => ∃ (i : Nat) (c wd : Str) (L : List Cell), bads[i]? = some c ∧ wordsL[i]? = some wd ∧ cls = .ref (He.ga K c) ∧ Own H L ∧
  ((d = none ∧ fldOf i = none ∧ ∀ H', Own H' L → Q (.str wd) H') ∨
    ∃ (dd : Addr) (f : Str) (n : Int), d = some dd ∧ fldOf i = some f ∧ (dd, HO.xd [(f, .int n)]) ∈ L ∧ ∀ (t : Addr) (H' : Hp), Own H' ((t, .tup [.str wd, .int n]) :: L) → Q (.ref t) H')
def TTword (K : PySem.W.Frag) : (XK → Hp → VK → Prop) → Hp → VK → Prop := fun tl H Q => tl (wishW K Q) H fun _ H' => Q (.str "") H'
def kindsL (c : Str) : List Bool := bads.map fun d => decide (c = d)
theorem kinds_of {i : Nat} {c : Str} (h : bads[i]? = some c) : (kindsL c).countP (· == true) = 1 ∧ (kindsL c)[i]? = some true ∧ (∀ m z, m < i → (kindsL c)[m]? = some z → z = false) ∧ i < 10 := by
  have hi : i < 10 := (List.getElem?_eq_some_iff.mp h).1
  have : i = 0 ∨ i = 1 ∨ i = 2 ∨ i = 3 ∨ i = 4 ∨ i = 5 ∨ i = 6 ∨ i = 7 ∨ i = 8 ∨ i = 9 := by omega
  have key : ∀ (j : Nat), j < 10 → ∀ c, bads[j]? = some c → (kindsL c).countP (· == true) = 1 ∧ (kindsL c)[j]? = some true ∧ ∀ m, m < j → (kindsL c)[m]? = some false := by
    intro j hj c hc
    rcases (show j = 0 ∨ j = 1 ∨ j = 2 ∨ j = 3 ∨ j = 4 ∨ j = 5 ∨ j = 6 ∨ j = 7 ∨ j = 8 ∨ j = 9 by omega) with e | e | e | e | e | e | e | e | e | e <;> subst e <;> obtain rfl := Option.some.inj hc <;> decide +kernel
  obtain ⟨h1, h2, h3⟩ := key i hi c h
  refine ⟨h1, h2, fun m z hm hz => ?_, hi⟩
  rw [h3 m hm] at hz
  exact (Option.some.inj hz).symm
theorem wordIn {i : Nat} {wd : Str} (h : wordsL[i]? = some wd) : inV (.str wd) [.str "rule", .str "deed", .str "leavings"] = decide (i = 0 ∨ i = 5 ∨ i = 8) ∧ decide (V.str wd = V.str "text") = decide (i = 9) := by
  have hi : i < 10 := (List.getElem?_eq_some_iff.mp h).1
  rcases (show i = 0 ∨ i = 1 ∨ i = 2 ∨ i = 3 ∨ i = 4 ∨ i = 5 ∨ i = 6 ∨ i = 7 ∨ i = 8 ∨ i = 9 by omega) with e | e | e | e | e | e | e | e | e | e <;> subst e <;> obtain rfl := Option.some.inj h <;> decide +kernel
theorem len4 {σ : L2.St} (h : σ.length = 4) : ∃ a b c d, σ = [a, b, c, d] := by
  match σ, h with
  | [a, b, c, d], _ => exact ⟨a, b, c, d, rfl⟩
theorem shapedWI {x : Str} {n : Int} (h : PyData.canLay0 (.str x) = true) : SeqAt.shaped (.tuple [.str x, .int n]) = true := by
  refine shaped_of ?_ ?_
  · show (PyData.canLay0 (.str x) && (true && true)) = true
    rw [h]
    rfl
  · show max 0 (max 0 0) + 1 ≤ 64
    decide
theorem pss_ex {X : Cx} {α : Type _} {c : α → Prop} {t : α → TS} {body : List Stmt} (h : ∀ x, c x → PSs X body (t x)) : PSs X body (fun D σ H => ∃ x, c x ∧ t x D σ H) :=
  ⟨fun pins s σ H D I ⟨x, hc, ht⟩ => (h x hc).run pins s σ H D I ht⟩
theorem word_gives {X : Cx} (T : Txt X.K X.mg) {cdg : Value} {q : Str} : LamX.GivesTo X ["_law_work", "_law_kinds", "_law_e", "_law_word_here"] "_law_word" (defScope s__law_word) (He.fAd X.K ("_law_word", none)) cdg (defBody s__law_word) "_law_work" q (TTword X.K) := by
  intro f c' s H Q tl act hc h
  refine ⟨_, pss_cons (ps_try_as (X := (cxOf C8.CX0 X.prog X.w X.K X.mg X.base ["_law_work", "_law_kinds", "_law_e", "_law_word_here"] "_law_word" (defScope s__law_word) (He.fAd X.K ("_law_word", none)) cdg X.A X.stack s H C8.E0).nox) (c := .ref (He.ga X.K "WayError")) (i := 2)
      (tb := fun W D σ H => ∃ Ech : XK, (∀ cls d σ' H', σ'.length = 4 → Ech cls d H' → W cls d σ' H') ∧ σ[0]? = some (some (.ref f)) ∧ H c' = some (LamX.CodeO c' q) ∧ tl Ech H fun _ H' => D.nx σ H')
      rfl rfl sc__law_word.nd rfl rfl ⟨rfl, by decide, .inl T.g_WayError⟩ LamX.takes0 (fun W pn xe tk _ => ?_) (fun a oe cls d pn hz hf => (pss_cons (ps_set (i := 1) sc__law_word.nd rfl (Or.inl rfl) (pe_lst (pa_cons (pe_callB (call_isX hz hf) (by rfl) T.n_isinstance (by decide +kernel) (pa_cons (pv 2) (pa_cons (pe_globR rfl T.g_BadRule) pa_nil))) (pa_cons (pe_callB (call_isX hz hf) (by rfl) T.n_isinstance (by decide +kernel) (pa_cons (pv 2) (pa_cons (pe_globR rfl T.g_BadHands) pa_nil))) (pa_cons (pe_callB (call_isX hz hf) (by rfl) T.n_isinstance (by decide +kernel) (pa_cons (pv 2) (pa_cons (pe_globR rfl T.g_BadHand) pa_nil))) (pa_cons (pe_callB (call_isX hz hf) (by rfl) T.n_isinstance (by decide +kernel) (pa_cons (pv 2) (pa_cons (pe_globR rfl T.g_BadPlace) pa_nil))) pa_nil)))))) (pss_cons (ps_set (i := 1) sc__law_word.nd rfl (Or.inl rfl) (pe_op op_cat (pv 1) (pe_lst (pa_cons (pe_callB (call_isX hz hf) (by rfl) T.n_isinstance (by decide +kernel) (pa_cons (pv 2) (pa_cons (pe_globR rfl T.g_BadNumber) pa_nil))) (pa_cons (pe_callB (call_isX hz hf) (by rfl) T.n_isinstance (by decide +kernel) (pa_cons (pv 2) (pa_cons (pe_globR rfl T.g_BadDeed) pa_nil))) (pa_cons (pe_callB (call_isX hz hf) (by rfl) T.n_isinstance (by decide +kernel) (pa_cons (pv 2) (pa_cons (pe_globR rfl T.g_BadRoom) pa_nil))) pa_nil)))))) (pss_cons (ps_set (i := 1) sc__law_word.nd rfl (Or.inl rfl) (pe_op op_cat (pv 1) (pe_lst (pa_cons (pe_callB (call_isX hz hf) (by rfl) T.n_isinstance (by decide +kernel) (pa_cons (pv 2) (pa_cons (pe_globR rfl T.g_BadWays) pa_nil))) (pa_cons (pe_callB (call_isX hz hf) (by rfl) T.n_isinstance (by decide +kernel) (pa_cons (pv 2) (pa_cons (pe_globR rfl T.g_BadLeavings) pa_nil))) (pa_cons (pe_callB (call_isX hz hf) (by rfl) T.n_isinstance (by decide +kernel) (pa_cons (pv 2) (pa_cons (pe_globR rfl T.g_BadText) pa_nil))) pa_nil)))))) (pss_cons (ps_if (PW.pt (pw_or (pt_cmpR op_ne (pe_bmK X.K (by rfl) PySem.F.plainAttrs_list PySem.F.slot_list_count PySem.F.type_list_count (mt_cntK X.K (by rfl)) (pv 1) (pa_cons pe_bl pa_nil)) pe_int (nomark _)) (pw_or1 (pt_not (pt_val (pe_callB (call_isX hz hf) (by rfl) T.n_isinstance (by decide +kernel) (pa_cons (pv 2) (pa_cons (pe_bltn (v := .ty "ValueError") (by rfl) T.n_ValueError (by decide +kernel) rfl) pa_nil)))))))) (pss_one (ps_ret pe_str)) pss_nil) (pss_cons (ps_set (i := 3) sc__law_word.nd rfl (Or.inl rfl) (pe_lst (pa_cons pe_str (pa_cons pe_str (pa_cons pe_str (pa_cons pe_str (pa_cons pe_str (pa_cons pe_str (pa_cons pe_str (pa_cons pe_str (pa_cons pe_str (pa_cons pe_str pa_nil)))))))))))) (pss_cons (ps_set (i := 3) sc__law_word.nd rfl (Or.inl rfl) (pe_ix (ix_listK X.K (by rfl)) (pv 3) (pe_bmK X.K (by rfl) PySem.F.plainAttrs_list PySem.F.slot_list_index PySem.F.type_list_index (mt_idxK X.K (by rfl)) (pv 1) (pa_cons pe_bl pa_nil)) (fun _ _ => rfl))) (pss_cons (ps_if (pt_cmpR (op_inK X.K (by rfl)) (pv 3) (pe_tup (pa_cons pe_str (pa_cons pe_str (pa_cons pe_str pa_nil)))) (by rfl)) (pss_one (ps_ret (pe_tup (pa_cons (pv 3) (pa_cons (pe_xg hz hf (pv 2)) pa_nil))))) pss_nil) (pss_one (ps_ret (pe_ifExp (pt_cmpR op_eq (pv 3) pe_str (nomark _)) (pe_tup (pa_cons (pv 3) (pa_cons (pe_xg hz hf (pv 2)) pa_nil))) (pv 3))))))))))))) (pss_one (ps_ret pe_str)), ?_⟩
  · refine pss_ex (c := fun Ech : XK => ∀ cls d (σ' : L2.St) H', σ'.length = 4 → Ech cls d H' → W cls d σ' H') fun Ech hW => pss_one (ps_expr (act _ pn xe Ech _ _ (takesLen tk) fun cls d σ' H' e l => hW cls d σ' H' l e))
  · refine ⟨wishW X.K Q, fun cls d σ' H' hl hw => ?_, rfl, hc, h⟩
    obtain ⟨b0, b1, b2, b3, rfl⟩ := len4 hl
    obtain ⟨i, c, wd, L, hi, hwd, rfl, O, hk⟩ := hw
    have hcm : c ∈ bads := List.mem_of_getElem? hi
    have hdd : ∀ dd, d = some dd → ∃ fs, (dd, HO.xd fs) ∈ L := fun dd e => by
      rcases hk with ⟨e2, _⟩ | ⟨d2, f2, n2, e2, _, hm, _⟩
      · rw [e2] at e
        cases e
      · rw [e2] at e
        cases e
        exact ⟨_, hm⟩
    refine ⟨true, T.xt.ex c hcm, fun _ a ha => ?_, fun z => nomatch z⟩
    have hx := T.xt.xc c hcm
    have hd0 : ∀ {HH : Hp} {LL : List Cell}, Own HH (LL ++ L) → ∀ dd, d = some dd → ∃ fs, HH dd = some (.xd fs) := fun O dd e => by
      obtain ⟨fs, hm⟩ := hdd dd e
      exact ⟨fs, O.mem (List.mem_append_right _ hm)⟩
    have hd1 := hd0 (LL := []) O
    refine ⟨_, rfl, _, _, _, _, rfl, hx, hd1, rfl, fun u r => r, T.xt.kit c hcm "BadRule" (by decide), ?_⟩
    refine ⟨_, rfl, _, _, _, _, rfl, hx, hd1, rfl, fun u r => r, T.xt.kit c hcm "BadHands" (by decide), ?_⟩
    refine ⟨_, rfl, _, _, _, _, rfl, hx, hd1, rfl, fun u r => r, T.xt.kit c hcm "BadHand" (by decide), ?_⟩
    refine ⟨_, rfl, _, _, _, _, rfl, hx, hd1, rfl, fun u r => r, T.xt.kit c hcm "BadPlace" (by decide), ?_⟩
    refine ⟨by show 4 ≤ sizeLine; decide, fun p1 hp1 => ?_⟩
    have O1 := O.new (o := .lst ([decide (c = "BadRule"), decide (c = "BadHands"), decide (c = "BadHand"), decide (c = "BadPlace")].map V.bl)) hp1
    have hd2 := hd0 (LL := [_]) O1
    refine ⟨_, rfl, ?_⟩
    refine ⟨_, rfl, _, _, _, _, rfl, hx, hd2, rfl, fun u r => r, T.xt.kit c hcm "BadNumber" (by decide), ?_⟩
    refine ⟨_, rfl, _, _, _, _, rfl, hx, hd2, rfl, fun u r => r, T.xt.kit c hcm "BadDeed" (by decide), ?_⟩
    refine ⟨_, rfl, _, _, _, _, rfl, hx, hd2, rfl, fun u r => r, T.xt.kit c hcm "BadRoom" (by decide), ?_⟩
    refine ⟨by show 3 ≤ sizeLine; decide, fun p2 hp2 => ?_⟩
    have O2 := O1.new (o := .lst ([decide (c = "BadNumber"), decide (c = "BadDeed"), decide (c = "BadRoom")].map V.bl)) hp2
    refine ⟨p1, p2, _, _, rfl, rfl, O2.a1, O2.a0, by show 4 + 3 ≤ sizeLine; decide, fun p3 hp3 => ?_⟩
    have O3 := O2.new (o := .lst ([decide (c = "BadRule"), decide (c = "BadHands"), decide (c = "BadHand"), decide (c = "BadPlace"), decide (c = "BadNumber"), decide (c = "BadDeed"), decide (c = "BadRoom")].map V.bl)) hp3
    have hd3 := hd0 (LL := [_, _, _]) O3
    refine ⟨_, rfl, ?_⟩
    refine ⟨_, rfl, _, _, _, _, rfl, hx, hd3, rfl, fun u r => r, T.xt.kit c hcm "BadWays" (by decide), ?_⟩
    refine ⟨_, rfl, _, _, _, _, rfl, hx, hd3, rfl, fun u r => r, T.xt.kit c hcm "BadLeavings" (by decide), ?_⟩
    refine ⟨_, rfl, _, _, _, _, rfl, hx, hd3, rfl, fun u r => r, T.xt.kit c hcm "BadText" (by decide), ?_⟩
    refine ⟨by show 3 ≤ sizeLine; decide, fun p4 hp4 => ?_⟩
    have O4 := O3.new (o := .lst ([decide (c = "BadWays"), decide (c = "BadLeavings"), decide (c = "BadText")].map V.bl)) hp4
    refine ⟨p3, p4, _, _, rfl, rfl, O4.a1, O4.a0, by show 7 + 3 ≤ sizeLine; decide, fun p5 hp5 => ?_⟩
    have O5 := O4.new (o := .lst ((kindsL c).map V.bl)) hp5
    have hd5 := hd0 (LL := [_, _, _, _, _]) O5
    obtain ⟨k1, k2, k3, hi10⟩ := kinds_of hi
    refine ⟨_, rfl, .inl ⟨rfl, _, SqL.of O5.a0⟩, p5, kindsL c, true, rfl, rfl, SqL.of O5.a0, ?_⟩
    rw [k1]
    refine ⟨rfl, false, rfl, iteF ?_⟩
    refine ⟨_, rfl, _, _, _, _, rfl, hx, hd5, rfl, fun u r => r, T.xt.kv c hcm, _, rfl, iteF ?_⟩
    refine ⟨by show 10 ≤ sizeLine; decide, fun p6 hp6 => ?_⟩
    have O6 := O5.new (o := .lst (wordsL.map V.str)) hp6
    refine ⟨_, rfl, _, rfl, .inl ⟨rfl, _, SqL.of O6.a1⟩, p5, _, _, i, .bl true, rfl, rfl, SqL.of O6.a1, rfl, ?_, by rw [List.getElem?_map, k2]; rfl, rfl, fun m z hm hz => ?_, ?_⟩
    · rw [List.all_eq_true]
      intro x hx2
      obtain ⟨b, _, rfl⟩ := List.mem_map.mp hx2
      rfl
    · rw [List.getElem?_map] at hz
      cases e : (kindsL c)[m]? with
      | none =>
        rw [e] at hz
        cases hz
      | some b =>
        rw [e] at hz
        have ez : V.bl b = z := Option.some.inj hz
        rw [← ez, k3 m b hm e]
        rfl
    refine ⟨p6, _, _, .str wd, rfl, rfl, SqL.of O6.a0, atI_nat (by rw [List.getElem?_map, hwd]; rfl), ?_⟩
    obtain ⟨w1, w2⟩ := wordIn hwd
    have hpar : ∀ {f : Str}, fldOf i = some f → PySem.W.findIn X.K (.ref (He.ga X.K c)) f = some none := fun {f} hf => by
      unfold fldOf at hf
      split at hf
      · rename_i h3
        obtain rfl := Option.some.inj hf
        rcases h3 with e | e | e <;> subst e <;> obtain rfl := Option.some.inj hi
        · exact T.na_BadRule_number
        · exact T.na_BadDeed_number
        · exact T.na_BadLeavings_number
      · split at hf
        · rename_i e
          subst e
          obtain rfl := Option.some.inj hf
          obtain rfl := Option.some.inj hi
          exact T.na_BadText_row
        · cases hf
    refine ⟨_, rfl, by show 3 ≤ sizeLine; decide, fun p7 hp7 => ?_⟩
    have O7 := O6.new (o := .tup [.str "rule", .str "deed", .str "leavings"]) hp7
    refine ⟨p7, _, rfl, .inr (SqT.of O7.a0), rfl, rfl, ?_⟩
    rw [w1]
    have OL : ∀ {HH : Hp} {LL : List Cell}, Own HH (LL ++ L) → Own HH L := fun O => Own.right O
    refine ⟨_, rfl, ?_⟩
    by_cases h3 : i = 0 ∨ i = 5 ∨ i = 8
    · refine iteTo (decide_eq_true h3) ?_
      rcases hk with ⟨_, e2, _⟩ | ⟨dd, f2, n2, rfl, e2, hm, k⟩
      · unfold fldOf at e2
        rw [if_pos h3] at e2
        cases e2
      have e3 := e2
      unfold fldOf at e3
      rw [if_pos h3] at e3
      obtain rfl := Option.some.inj e3
      refine ⟨_, rfl, _, rfl, rfl, _, dd, _, .int n2, rfl, hx, hpar e2, rfl, O7.mem (show (dd, HO.xd [("number", V.int n2)]) ∈ _ by simp [hm]), rfl, by show 2 ≤ sizeLine; decide, fun p8 hp8 => ?_⟩
      have O8 := O7.new (o := .tup [.str wd, .int n2]) hp8
      exact k p8 _ (O8.sub (List.Sublist.cons_cons _ (List.sublist_append_right [_, _, _, _, _, _, _] L)))
    · refine iteFo (decide_eq_false h3) ?_
      refine ⟨_, rfl, ?_⟩
      refine ⟨rfl, _, rfl, ?_⟩
      rw [w2]
      by_cases h9 : i = 9
      · refine iteTo (decide_eq_true h9) ?_
        rcases hk with ⟨_, e2, _⟩ | ⟨dd, f2, n2, rfl, e2, hm, k⟩
        · unfold fldOf at e2
          rw [if_neg h3, if_pos h9] at e2
          cases e2
        have e3 := e2
        unfold fldOf at e3
        rw [if_neg h3, if_pos h9] at e3
        obtain rfl := Option.some.inj e3
        refine ⟨_, rfl, _, rfl, rfl, _, dd, _, .int n2, rfl, hx, hpar e2, rfl, O7.mem (show (dd, HO.xd [("row", V.int n2)]) ∈ _ by simp [hm]), rfl, by show 2 ≤ sizeLine; decide, fun p8 hp8 => ?_⟩
        have O8 := O7.new (o := .tup [.str wd, .int n2]) hp8
        exact k p8 _ (O8.sub (List.Sublist.cons_cons _ (List.sublist_append_right [_, _, _, _, _, _, _] L)))
      · refine iteFo (decide_eq_false h9) ⟨_, rfl, ?_⟩
        rcases hk with ⟨rfl, e2, k⟩ | ⟨dd, f2, n2, rfl, e2, hm, k⟩
        · exact k _ (O7.sub (List.sublist_append_right [_, _, _, _, _, _, _] L))
        · unfold fldOf at e2
          rw [if_neg h3, if_neg h9] at e2
          cases e2
-- WwGn
/-! ### whether something is a number, a rule, a deed, an ask: of whatever texts and numbers -/
inductive OkF : V → Prop
  | int (i : Int) : OkF (.int i)
  | str (x : Str) : OkF (.str x)
  | non : OkF .non
def numIn : V → Int → Int → Bool
  | .int i, lo, hi => decide (lo ≤ i ∧ i ≤ hi)
  | _, _, _ => false
theorem OkF.flat {x : V} (h : OkF x) : flatV x = true := by cases h <;> rfl
def ruleB : List V → Bool
  | [a, b, c, d, e] => numIn a 1 64 && (inV a [.int 1, .int 2, .int 4] && (numIn b 1 4 && (inV c [.str "through", .str "back"] && (inV d [.str "in", .str "by"] && inV e [.str "first", .str "late"]))))
  | _ => false
def askB : List V → Bool
  | [.str a, b] => if inV (.str a) [.str "look", .str "cell"] then numIn b 0 63 else inV (.str a) [.str "bring", .str "home"] && numIn b 0 15
  | _ => false
def eqS (x : V) (s : Str) : Bool := decide (x = .str s)
def deedB (m : Int) : List V → Bool
  | [a, b, c] => numIn b 0 (m - 1) && (numIn c 0 63 && eqS a "look")
  | [a, b, c, d] => numIn b 0 (m - 1) && (numIn c 0 63 && (eqS a "set" && numIn d 0 999))
  | _ => false
def spIsNumG : Sp := fun vs H Q _ => ∃ (x : V) (lo hi : Int), vs = [x, .int lo, .int hi] ∧ OkF x ∧ Q (.bl (numIn x lo hi)) H
def spIsRuleG : Sp := fun vs H Q _ => ∃ (ra : Addr) (xs : List V), vs = [.ref ra] ∧ (∀ x ∈ xs, OkF x) ∧ H ra = some (.tup xs) ∧ xs.length ≤ 1000 ∧ Q (.bl (ruleB xs)) H
def spIsAskG : Sp := fun vs H Q _ => ∃ (da : Addr) (xs : List V) (R : List Cell), vs = [.ref da] ∧ (∀ x ∈ xs, OkF x) ∧ (da, HO.tup xs) ∈ R ∧ xs.length ≤ 1000 ∧ Own H R ∧ ∀ H' : Hp, Own H' R → Q (.bl (askB xs)) H'
def spIsDeedG : Sp := fun vs H Q _ => ∃ (da : Addr) (m : Int) (xs : List V), vs = [.ref da, .int m] ∧ (∀ x ∈ xs, OkF x) ∧ H da = some (.tup xs) ∧ xs.length ≤ 100000 ∧ Q (.bl (deedB m xs)) H
theorem len5 {xs : List V} (h : xs.length = 5) : ∃ a b c d e, xs = [a, b, c, d, e] := by
  match xs, h with
  | [a, b, c, d, e], _ => exact ⟨a, b, c, d, e, rfl⟩
theorem len2 {xs : List V} (h : xs.length = 2) : ∃ a b, xs = [a, b] := by
  match xs, h with
  | [a, b], _ => exact ⟨a, b, rfl⟩
theorem ruleB_len {xs : List V} (h : xs.length ≠ 5) : ruleB xs = false := by
  unfold ruleB
  split
  · exact absurd rfl h
  · rfl
theorem askB_len {xs : List V} (h : xs.length ≠ 2) : askB xs = false := by
  unfold askB
  split
  · exact absurd rfl h
  · rfl
theorem eq_flat {a : V} (h : OkF a) {s : Str} : scal a (.str s) = true := by cases h <;> rfl
theorem at3 (a b c : V) (r : List V) : atI (a :: b :: c :: r) 0 = some a ∧ atI (a :: b :: c :: r) 1 = some b ∧ atI (a :: b :: c :: r) 2 = some c :=
  ⟨atI_nat (j := 0) rfl, atI_nat (j := 1) rfl, atI_nat (j := 2) rfl⟩
theorem neGn {n k : Nat} (h : n ≠ k) : (!decide (V.int ((n : Nat) : Int) = V.int ((k : Nat) : Int))) = true := by
  rw [decide_eq_false (fun z => h (by have z : ((n : Nat) : Int) = (k : Int) := V.int.inj z; omega))]
  rfl
section
variable {P : Program} {w : World} {K : PySem.W.Frag} {mg : Str → Option Value} {base : Heap} {n lv : Nat}
theorem ok_is_numG (T : Txt K mg) : FnOk P w K mg base CX0 1 (He.fAd K ("is_number", none)) T.fd_is_number ["part", "low", "high"] spIsNumG := by
  refine okOf T.F_is_number sc_is_number (fun vs H Q E h => ?_) (fun cdv A outer s H vs Q E hr h => ?_)
  · obtain ⟨_, _, _, rfl, _⟩ := h
    rfl
  · obtain ⟨x, lo, hi, rfl, hx, k⟩ := h
    refine ⟨_, (pss_one (ps_ret (pe_and (pe_callB call_isi (by rfl) T.n_isinstance (by decide +kernel) (pa_cons (pv 0) (pa_cons (pe_bltn (v := .ty "int") (by rfl) T.n_int (by decide +kernel) rfl) pa_nil))) (pe_and (pe_not (pe_callB call_isi (by rfl) T.n_isinstance (by decide +kernel) (pa_cons (pv 0) (pa_cons (pe_bltn (v := .ty "bool") (by rfl) T.n_bool (by decide +kernel) rfl) pa_nil)))) (pe_one (pe_chain op_le op_le (pv 1) (pv 0) (pv 2))))))), ?_⟩
    cases hx with
    | int x =>
      refine ⟨_, rfl, _, _, _, _, true, rfl, ClsV.ty _, TyX.base (.int x), kit_ty (by decide +kernel), true, rfl, iteT ?_⟩
      refine ⟨_, rfl, _, _, _, _, false, rfl, ClsV.ty _, TyX.base (.int x), kit_ty (by decide +kernel), false, rfl, true, rfl, iteT ?_⟩
      refine ⟨_, rfl, _, rfl, lo, x, rfl, rfl, _, rfl, ?_⟩
      by_cases h1 : lo ≤ x
      · rw [decide_eq_true h1]
        refine iteT ⟨_, rfl, x, hi, rfl, rfl, ?_⟩
        have e : decide (x ≤ hi) = decide (lo ≤ x ∧ x ≤ hi) := by simp [h1]
        show Q (.bl (decide (x ≤ hi))) H
        rw [e]
        exact k
      · rw [decide_eq_false h1]
        refine iteF ?_
        have e : numIn (.int x) lo hi = false := by unfold numIn; simp [h1]
        rw [e] at k
        exact k
    | str x => exact ⟨_, rfl, _, _, _, _, false, rfl, ClsV.ty _, TyX.base (.str x), kit_ty (by decide +kernel), false, rfl, iteF k⟩
    | non => exact ⟨_, rfl, _, _, _, _, false, rfl, ClsV.ty _, TyX.base .non, kit_ty (by decide +kernel), false, rfl, iteF k⟩
theorem ok_is_ruleG (T : Txt K mg) : FnOk P w K mg base CX0 2 (He.fAd K ("is_rule", none)) T.fd_is_rule ["rule"] spIsRuleG := by
  have G_is_number := ok_is_numG (P := P) (w := w) (base := base) T
  refine okOf T.F_is_rule sc_is_rule (fun vs H Q E h => ?_) (fun cdv A outer s H vs Q E hr h => ?_)
  · obtain ⟨_, _, rfl, _⟩ := h
    rfl
  · obtain ⟨ra, xs, rfl, hxs, hra, hl, k⟩ := h
    refine ⟨_, (pss_cons (ps_if (PW.pt (pw_or (pt_not (pt_val (pe_callB call_isi (by rfl) T.n_isinstance (by decide +kernel) (pa_cons (pv 0) (pa_cons (pe_bltn (v := .ty "tuple") (by rfl) T.n_tuple (by decide +kernel) rfl) pa_nil))))) (pw_or (pt_cmpR op_ne (pe_callB call_len_seq (by rfl) T.n_len PySem.boot_len (pa_cons (pv 0) pa_nil)) pe_int (nomark _)) (pw_or (pt_not (pt_val (pe_call G_is_number (hr.mono (by omega)) rfl T.g_is_number T.k_is_number T.b_is_number .nil pass0 (pa_cons (pe_ix ix_tup (pv 0) pe_int (fun _ _ => rfl)) (pa_cons pe_int (pa_cons (pe_globI rfl T.g_CELLS) pa_nil)))))) (pw_or1 (pt_cmpR op_notIn_seq (pe_ix ix_tup (pv 0) pe_int (fun _ _ => rfl)) (pe_globR rfl T.g_SETS) (by rfl))))))) (pss_one (ps_ret pe_bl)) pss_nil) (pss_one (ps_ret (pe_and (pe_call G_is_number (hr.mono (by omega)) rfl T.g_is_number T.k_is_number T.b_is_number .nil pass0 (pa_cons (pe_ix ix_tup (pv 0) pe_int (fun _ _ => rfl)) (pa_cons pe_int (pa_cons (pe_globI rfl T.g_MOST_WAYS) pa_nil)))) (pe_and (pe_cmpR op_in_seq (pe_ix ix_tup (pv 0) pe_int (fun _ _ => rfl)) (pe_globR rfl T.g_WRITES) (by rfl)) (pe_and (pe_cmpR op_in_seq (pe_ix ix_tup (pv 0) pe_int (fun _ _ => rfl)) (pe_globR rfl T.g_TAKES) (by rfl)) (pe_one (pe_cmpR op_in_seq (pe_ix ix_tup (pv 0) pe_int (fun _ _ => rfl)) (pe_globR rfl T.g_LEAVES) (by rfl))))))))), ?_⟩
    refine ⟨_, rfl, _, _, _, _, true, rfl, ClsV.ty _, TyX.base (.tup hra), kit_ty (by decide +kernel), true, rfl, iteF ?_⟩
    refine ⟨_, rfl, ra, _, rfl, .inr (SqT.of hra), rfl, _, rfl, ?_⟩
    by_cases h5 : xs.length = 5
    · obtain ⟨a, b, c, d, e, rfl⟩ := len5 h5
      have fa : OkF a := hxs a (by simp)
      have fb : OkF b := hxs b (by simp)
      have fc : OkF c := hxs c (by simp)
      have fd : OkF d := hxs d (by simp)
      have fe : OkF e := hxs e (by simp)
      refine iteFo rfl ?_
      refine ⟨_, rfl, ra, _, 0, a, rfl, rfl, SqT.of hra, rfl, a, 1, 64, rfl, fa, _, rfl, ?_⟩
      cases h1 : numIn a 1 64 with
      | false =>
        refine iteT ?_
        rw [show ruleB [a, b, c, d, e] = false by show (numIn a 1 64 && _) = false; rw [h1]; rfl] at k
        exact k
      | true =>
        refine iteF ?_
        refine ⟨_, rfl, ra, _, 0, a, rfl, rfl, SqT.of hra, rfl, _, _, rfl, .inr (T.t_SETS H), fa.flat, rfl, _, rfl, ?_⟩
        cases h2 : inV a [.int 1, .int 2, .int 4] with
        | false =>
          refine iteT ?_
          rw [show ruleB [a, b, c, d, e] = false by show (numIn a 1 64 && (inV a [.int 1, .int 2, .int 4] && _)) = false; rw [h1, h2]; rfl] at k
          exact k
        | true =>
          refine iteF ?_
          refine ⟨_, rfl, ra, _, 1, b, rfl, rfl, SqT.of hra, rfl, b, 1, 4, rfl, fb, _, rfl, ?_⟩
          have ek : ruleB [a, b, c, d, e] = (numIn b 1 4 && (inV c [.str "through", .str "back"] && (inV d [.str "in", .str "by"] && inV e [.str "first", .str "late"]))) := by show (numIn a 1 64 && (inV a [.int 1, .int 2, .int 4] && _)) = _; rw [h1, h2]; rfl
          rw [ek] at k
          cases h3 : numIn b 1 4 with
          | false =>
            rw [h3] at k
            exact iteF k
          | true =>
            rw [h3, Bool.true_and] at k
            refine iteT ?_
            refine ⟨_, rfl, ra, _, 2, c, rfl, rfl, SqT.of hra, rfl, _, _, rfl, .inr (T.t_WRITES H), fc.flat, rfl, _, rfl, ?_⟩
            cases h4 : inV c [.str "through", .str "back"] with
            | false =>
              rw [h4] at k
              exact iteF k
            | true =>
              rw [h4, Bool.true_and] at k
              refine iteT ?_
              refine ⟨_, rfl, ra, _, 3, d, rfl, rfl, SqT.of hra, rfl, _, _, rfl, .inr (T.t_TAKES H), fd.flat, rfl, _, rfl, ?_⟩
              cases h6 : inV d [.str "in", .str "by"] with
              | false =>
                rw [h6] at k
                exact iteF k
              | true =>
                rw [h6, Bool.true_and] at k
                refine iteT ?_
                exact ⟨_, rfl, ra, _, 4, e, rfl, rfl, SqT.of hra, rfl, _, _, rfl, .inr (T.t_LEAVES H), fe.flat, rfl, k⟩
    · refine iteTo (neGn h5) ?_
      rw [ruleB_len h5] at k
      exact k
theorem ok_is_deedG (T : Txt K mg) : FnOk P w K mg base CX0 2 (He.fAd K ("is_deed", none)) T.fd_is_deed ["deed", "hands"] spIsDeedG := by
  have G_is_number := ok_is_numG (P := P) (w := w) (base := base) T
  refine okOf T.F_is_deed sc_is_deed (fun vs H Q E h => ?_) (fun cdv A outer s H vs Q E hr h => ?_)
  · obtain ⟨_, _, _, rfl, _⟩ := h
    rfl
  · obtain ⟨da, m, xs, rfl, hxs, hda, hl, k⟩ := h
    refine ⟨_, (pss_cons (ps_if (PW.pt (pw_or (pt_not (pt_val (pe_callB call_isi (by rfl) T.n_isinstance (by decide +kernel) (pa_cons (pv 0) (pa_cons (pe_bltn (v := .ty "tuple") (by rfl) T.n_tuple (by decide +kernel) rfl) pa_nil))))) (pw_or (pt_cmpR op_lt (pe_callB call_len_seq (by rfl) T.n_len PySem.boot_len (pa_cons (pv 0) pa_nil)) pe_int (nomark _)) (pw_or1 (pt_not (pt_val (pe_call G_is_number (hr.mono (by omega)) rfl T.g_is_number T.k_is_number T.b_is_number .nil pass0 (pa_cons (pe_ix ix_tup (pv 0) pe_int (fun _ _ => rfl)) (pa_cons pe_int (pa_cons (pe_op op_sub (pv 1) pe_int) pa_nil)))))))))) (pss_one (ps_ret pe_bl)) pss_nil) (pss_cons (ps_if (pt_not (pt_val (pe_call G_is_number (hr.mono (by omega)) rfl T.g_is_number T.k_is_number T.b_is_number .nil pass0 (pa_cons (pe_ix ix_tup (pv 0) pe_int (fun _ _ => rfl)) (pa_cons pe_int (pa_cons (pe_op op_sub (pe_globI rfl T.g_CELLS) pe_int) pa_nil)))))) (pss_one (ps_ret pe_bl)) pss_nil) (pss_cons (ps_if (pt_cmpR op_eq (pe_ix ix_tup (pv 0) pe_int (fun _ _ => rfl)) (pe_globS rfl T.g_LOOK) (nomark _)) (pss_one (ps_ret (pe_cmpR op_eq (pe_callB call_len_seq (by rfl) T.n_len PySem.boot_len (pa_cons (pv 0) pa_nil)) pe_int (nomark _)))) pss_nil) (pss_one (ps_ret (pe_and (pe_cmpR op_eq (pe_ix ix_tup (pv 0) pe_int (fun _ _ => rfl)) (pe_globS rfl T.g_SET) (nomark _)) (pe_and (pe_cmpR op_eq (pe_callB call_len_seq (by rfl) T.n_len PySem.boot_len (pa_cons (pv 0) pa_nil)) pe_int (nomark _)) (pe_one (pe_call G_is_number (hr.mono (by omega)) rfl T.g_is_number T.k_is_number T.b_is_number .nil pass0 (pa_cons (pe_ix ix_tup (pv 0) pe_int (fun _ _ => rfl)) (pa_cons pe_int (pa_cons (pe_globI rfl T.g_MOST_NUMBER) pa_nil)))))))))))), ?_⟩
    refine ⟨_, rfl, _, _, _, _, true, rfl, ClsV.ty _, TyX.base (.tup hda), kit_ty (by decide +kernel), true, rfl, iteF ?_⟩
    refine ⟨_, rfl, da, _, rfl, .inr (SqT.of hda), _, _, rfl, rfl, _, rfl, ?_⟩
    by_cases h3 : xs.length < 3
    · refine iteTo (decide_eq_true (show ((xs.length : Nat) : Int) < 3 by omega)) ?_
      have e : deedB m xs = false := by
        unfold deedB
        split
        · exact absurd h3 (by show ¬ 3 < 3; omega)
        · exact absurd h3 (by show ¬ 4 < 3; omega)
        · rfl
      rw [e] at k
      exact k
    · refine iteFo (decide_eq_false (show ¬ ((xs.length : Nat) : Int) < 3 by omega)) ?_
      obtain ⟨a, b, c, r, rfl⟩ : ∃ a b c r, xs = a :: b :: c :: r := by
        match xs, h3 with
        | a :: b :: c :: r, _ => exact ⟨a, b, c, r, rfl⟩
        | [], h => exact absurd (by show 0 < 3; omega) h
        | [_], h => exact absurd (by show 1 < 3; omega) h
        | [_, _], h => exact absurd (by show 2 < 3; omega) h
      have fa : OkF a := hxs a (by simp)
      have fb : OkF b := hxs b (by simp)
      have fc : OkF c := hxs c (by simp)
      have ng : ∀ {H : Hp}, numIn b 0 (m - 1) = false ∨ numIn c 0 63 = false → deedB m (a :: b :: c :: r) = false := fun {H} z => by
        match r with
        | [] =>
          show (numIn b 0 (m - 1) && (numIn c 0 63 && eqS a "look")) = false
          rcases z with z | z <;> rw [z] <;> simp
        | [d] =>
          show (numIn b 0 (m - 1) && (numIn c 0 63 && (eqS a "set" && numIn d 0 999))) = false
          rcases z with z | z <;> rw [z] <;> simp
        | _ :: _ :: _ => rfl
      refine ⟨_, rfl, da, _, 1, b, rfl, rfl, SqT.of hda, (at3 a b c r).2.1, _, rfl, _, _, rfl, rfl, b, 0, m - 1, rfl, fb, _, rfl, ?_⟩
      cases h1 : numIn b 0 (m - 1) with
      | false =>
        rw [ng (H := H) (.inl h1)] at k
        exact iteT k
      | true =>
        refine iteF ?_
        refine ⟨_, rfl, da, _, 2, c, rfl, rfl, SqT.of hda, (at3 a b c r).2.2, _, _, rfl, rfl, c, 0, 63, rfl, fc, _, rfl, ?_⟩
        cases h2 : numIn c 0 63 with
        | false =>
          rw [ng (H := H) (.inr h2)] at k
          exact iteT k
        | true =>
          refine iteF ?_
          refine ⟨_, rfl, da, _, 0, a, rfl, rfl, SqT.of hda, (at3 a b c r).1, eq_flat fa, _, rfl, ?_⟩
          by_cases e1 : a = .str "look"
          · subst e1
            refine iteTo (decide_eq_true rfl) ?_
            refine ⟨_, rfl, da, _, rfl, .inr (SqT.of hda), rfl, ?_⟩
            have ek : deedB m (.str "look" :: b :: c :: r) = decide (V.int (((V.str "look" :: b :: c :: r).length : Nat) : Int) = V.int 3) := by
              match r with
              | [] =>
                show (numIn b 0 (m - 1) && (numIn c 0 63 && eqS (.str "look") "look")) = true
                rw [h1, h2]
                decide +kernel
              | [d] =>
                show (numIn b 0 (m - 1) && (numIn c 0 63 && (eqS (.str "look") "set" && numIn d 0 999))) = false
                rw [h1, h2, show eqS (.str "look") "set" = false by decide +kernel]
                rfl
              | x :: y :: z =>
                refine (decide_eq_false fun q => ?_).symm
                have q : (((V.str "look" :: b :: c :: x :: y :: z).length : Nat) : Int) = 3 := V.int.inj q
                simp at q
                omega
            rw [ek] at k
            exact k
          · refine iteFo (decide_eq_false e1) ?_
            refine ⟨_, rfl, da, _, 0, a, rfl, rfl, SqT.of hda, (at3 a b c r).1, eq_flat fa, _, rfl, ?_⟩
            by_cases e2 : a = .str "set"
            · subst e2
              refine iteTo (decide_eq_true rfl) ?_
              refine ⟨_, rfl, da, _, rfl, .inr (SqT.of hda), rfl, _, rfl, ?_⟩
              match r with
              | [d] =>
                refine iteTo rfl ?_
                have fd : OkF d := hxs d (by simp)
                refine ⟨_, rfl, da, _, 3, d, rfl, rfl, SqT.of hda, rfl, d, 0, 999, rfl, fd, ?_⟩
                have ek : deedB m [.str "set", b, c, d] = numIn d 0 999 := by
                  show (numIn b 0 (m - 1) && (numIn c 0 63 && (eqS (.str "set") "set" && numIn d 0 999))) = _
                  rw [h1, h2, show eqS (.str "set") "set" = true by decide +kernel]
                  rfl
                rw [ek] at k
                exact k
              | [] =>
                refine iteFo rfl ?_
                have ek : deedB m [.str "set", b, c] = false := by
                  show (numIn b 0 (m - 1) && (numIn c 0 63 && eqS (.str "set") "look")) = false
                  rw [h1, h2, show eqS (.str "set") "look" = false by decide +kernel]
                  rfl
                rw [ek] at k
                exact k
              | x :: y :: z =>
                refine iteFo (decide_eq_false fun q => ?_) k
                have q : (((V.str "set" :: b :: c :: x :: y :: z).length : Nat) : Int) = 4 := V.int.inj q
                simp at q
                omega
            · refine iteFo (decide_eq_false e2) ?_
              have ek : deedB m (a :: b :: c :: r) = false := by
                match r with
                | [] =>
                  show (numIn b 0 (m - 1) && (numIn c 0 63 && eqS a "look")) = false
                  rw [show eqS a "look" = false from decide_eq_false e1]
                  simp
                | [d] =>
                  show (numIn b 0 (m - 1) && (numIn c 0 63 && (eqS a "set" && numIn d 0 999))) = false
                  rw [show eqS a "set" = false from decide_eq_false e2]
                  simp
                | _ :: _ :: _ => rfl
              rw [ek] at k
              exact k
end
-- WwNx
/-! ### rules, hands, deeds needed, of whatever is handed in -/
def FlatX (xs : List V) : Prop := (∀ x ∈ xs, OkF x) ∧ xs.length ≤ 1000
def RuleAt (xss : List (List V)) (i : Nat) : Prop := i < 3 ∧ ∃ xs, xss[i]? = some xs ∧ ruleB xs = true
def RuleBad (xss : List (List V)) (i : Nat) : Prop := i < xss.length ∧ ¬ RuleAt xss i ∧ ∀ j, j < i → RuleAt xss j
def DeedAt (m : Int) (xss : List (List V)) (i : Nat) : Prop := i < 200 ∧ ∃ xs, xss[i]? = some xs ∧ deedB m xs = true
def DeedBad (m : Int) (xss : List (List V)) (i : Nat) : Prop := i < xss.length ∧ ¬ DeedAt m xss i ∧ ∀ j, j < i → DeedAt m xss j
def spNeedRulesX (K : PySem.W.Frag) : Sp := fun vs H Q E => ∃ (pr : Addr) (as : List Addr) (xss : List (List V)) (R : List Cell), vs = [.ref pr] ∧ (pr, HO.lst (as.map V.ref)) ∈ R ∧ TA R as xss ∧ (∀ xs ∈ xss, FlatX xs) ∧ xss.length ≤ 100000 ∧ Own H R ∧
  (∀ i, RuleBad xss i ∨ (xss = [] ∧ i = 0) → ∀ (d : Addr) (H' : Hp), Own H' ((d, .xd [("number", .int (i : Nat))]) :: R) → E (.ref (He.ga K "BadRule")) (some d) H') ∧
  (xss ≠ [] → (∀ i, i < xss.length → RuleAt xss i) → ∀ H', Own H' R → Q .non H')
def spNeedDeedsX (K : PySem.W.Frag) : Sp := fun vs H Q E => ∃ (pd : Addr) (m : Int) (as : List Addr) (xss : List (List V)) (R : List Cell), vs = [.ref pd, .int m] ∧ (pd, HO.lst (as.map V.ref)) ∈ R ∧ TA R as xss ∧ (∀ xs ∈ xss, FlatX xs) ∧ xss.length ≤ 100000 ∧ Own H R ∧
  (∀ i, DeedBad m xss i → ∀ (d : Addr) (H' : Hp), Own H' ((d, .xd [("number", .int (i : Nat))]) :: R) → E (.ref (He.ga K "BadDeed")) (some d) H') ∧
  ((∀ i, i < xss.length → DeedAt m xss i) → ∀ H', Own H' R → Q .non H')
def spNeedHandsX (K : PySem.W.Frag) : Sp := fun vs H Q E => ∃ (m : Int), vs = [.int m] ∧ (1 ≤ m ∧ m ≤ 3 → Q .non H) ∧ (¬ (1 ≤ m ∧ m ≤ 3) → E (.ref (He.ga K "BadHands")) none H)
section
variable {P : Program} {w : World} {K : PySem.W.Frag} {mg : Str → Option Value} {base : Heap} {n lv : Nat}
theorem ok_need_rulesX (T : Txt K mg) : FnOk P w K mg base (L2.CX P w) 3 (He.fAd K ("need_rules", none)) T.fd_need_rules ["rules"] (spNeedRulesX K) := by
  have G_is_rule := ok_is_ruleG (P := P) (w := w) (base := base) T
  have G_BadRule := ok_BadRule (P := P) (w := w) (base := base) T
  refine okX T.F_need_rules sc_need_rules (fun vs H Q E h => ?_) (fun cdv A outer s H vs Q E hr h => ?_)
  · obtain ⟨_, _, _, _, rfl, _⟩ := h
    rfl
  · obtain ⟨pa, as, axs, R, rfl, hpa, hta, hax, hal, O, k2, k3⟩ := h
    refine ⟨_, (pss_cons (ps_for (passes_of rfl) rfl (pi_enum (by rfl) T.n_enumerate (pa_cons (pv 0) pa_nil)) (pg_tup (by rfl) (pgs_cons (pg_name (i := 1) sc_need_rules.nd rfl (Or.inl rfl)) (pgs_cons (pg_name (i := 2) sc_need_rules.nd rfl (Or.inl rfl)) pgs_nil))) (pss_one (ps_if (PW.pt (pw_or (pt_cmpR op_ge (pv 1) (pe_globI rfl T.g_MOST_RULES) (nomark _)) (pw_or1 (pt_not (pt_val (pe_call G_is_rule (hr.mono (by omega)) rfl T.g_is_rule T.k_is_rule T.b_is_rule .nil pass0 (pa_cons (pv 2) pa_nil))))))) (pss_one (ps_raise rfl (takes_of rfl rfl rfl rfl) (pmk_oex ((T.xt.xc "BadRule" (by decide)).oex T.ox_BadRule) T.m_BadRule___init__.at_ (isFn_ty T.m_BadRule___init__.fn) G_BadRule (hr.mono (by omega)) T.b_BadRule___init__ .nil pass0 (by rfl) T.g_BadRule (pa_cons (pv 1) pa_nil)))) pss_nil))) (pss_one (ps_if (pt_cmpR op_eq (pe_callB call_len_seq (by rfl) T.n_len PySem.boot_len (pa_cons (pv 0) pa_nil)) pe_int (nomark _)) (pss_one (ps_raise rfl (takes_of rfl rfl rfl rfl) (pmk_oex ((T.xt.xc "BadRule" (by decide)).oex T.ox_BadRule) T.m_BadRule___init__.at_ (isFn_ty T.m_BadRule___init__.fn) G_BadRule (hr.mono (by omega)) T.b_BadRule___init__ .nil pass0 (by rfl) T.g_BadRule (pa_cons pe_int pa_nil)))) pss_nil))), ?_⟩
    refine ⟨_, rfl, pa, _, rfl, SqL.of (O.mem hpa), ?_⟩
    have hasl := hta.len
    refine for_enum (K := K) (a := pa) (xs := as.map V.ref) (fun i σ H' => (∃ v2 v3, σ = [some (.ref pa), v2, v3]) ∧ (∀ j, j < i → RuleAt axs j) ∧ Own H' R) ⟨⟨none, none, rfl⟩, fun j hj => absurd hj (by omega), O⟩ (fun i σ H' _ ⟨_, _, O'⟩ => SqL.of (O'.mem hpa)) ?_ ?_
    · rintro i x σ H1 p hi ⟨⟨v2, v3, rfl⟩, hj, O1⟩ hp
      rw [List.getElem?_map] at hi
      cases ha : as[i]? with
      | none =>
        rw [ha] at hi
        cases hi
      | some a =>
        rw [ha] at hi
        have ex : V.ref a = x := Option.some.inj hi
        subst ex
        obtain ⟨xs, hx1, hx2⟩ := hta.get ha
        have hil : i < axs.length := (List.getElem?_eq_some_iff.mp hx1).1
        obtain ⟨hf1, hf2⟩ := hax xs (List.mem_of_getElem? hx1)
        have O2 := O1.new (o := .tup [.int (i : Nat), .ref a]) hp
        have bad : ¬ RuleAt axs i → ∀ {HH : Hp}, Own HH R → ∀ d, HH d = none → E (.ref (He.ga K "BadRule")) (some d) (upd HH d (.xd [("number", .int (i : Nat))])) := fun hb HH O' d hd => k2 i (.inl ⟨hil, hb, hj⟩) d _ (O'.new hd)
        refine ⟨p, _, rfl, SqT.of O2.a0, rfl, _, _, rfl, _, _, rfl, rfl, ?_⟩
        refine ⟨_, rfl, i, 3, rfl, rfl, _, rfl, ?_⟩
        by_cases h2 : (3 : Int) ≤ (i : Int)
        · refine iteTo (decide_eq_true h2) ?_
          exact ⟨_, rfl, rz_go (by omega) (bad (fun z => by have := z.1; omega) O2.tail)⟩
        · refine iteFo (decide_eq_false h2) ?_
          refine ⟨_, rfl, a, xs, rfl, hf1, O2.mem (List.mem_cons_of_mem _ hx2), hf2, _, rfl, ?_⟩
          cases hq : ruleB xs with
          | true =>
            refine iteF ⟨⟨_, _, rfl⟩, fun j hj2 => ?_, O2.tail⟩
            by_cases e : j = i
            · rw [e]
              exact ⟨by omega, xs, hx1, hq⟩
            · exact hj j (by omega)
          | false =>
            refine iteT ⟨_, rfl, rz_go (by omega) (bad (fun z => ?_) O2.tail)⟩
            obtain ⟨_, ys, hy, hy2⟩ := z
            rw [hx1] at hy
            cases hy
            rw [hq] at hy2
            cases hy2
    · rintro σ H1 ⟨⟨v2, v3, rfl⟩, hj, O1⟩
      rw [List.length_map, hasl] at hj
      refine ⟨_, rfl, pa, _, rfl, .inl (SqL.of (O1.mem hpa)), rfl, _, rfl, ?_⟩
      rw [List.length_map, hasl]
      by_cases h0 : axs = []
      · refine iteTo (decide_eq_true (by rw [h0]; rfl)) ?_
        exact rz_go (n := 0) (by decide) fun d hd => k2 0 (.inr ⟨h0, rfl⟩) d _ (O1.new hd)
      · refine iteFo (decide_eq_false (fun z => h0 ?_)) (k3 h0 hj H1 O1)
        have z : ((axs.length : Nat) : Int) = 0 := V.int.inj z
        exact List.length_eq_zero_iff.mp (by omega)
theorem ok_need_deedsX (T : Txt K mg) : FnOk P w K mg base (L2.CX P w) 3 (He.fAd K ("need_deeds", none)) T.fd_need_deeds ["deeds", "hands"] (spNeedDeedsX K) := by
  have G_is_deed := ok_is_deedG (P := P) (w := w) (base := base) T
  have G_BadDeed := ok_BadDeed (P := P) (w := w) (base := base) T
  refine okX T.F_need_deeds sc_need_deeds (fun vs H Q E h => ?_) (fun cdv A outer s H vs Q E hr h => ?_)
  · obtain ⟨_, _, _, _, _, rfl, _⟩ := h
    rfl
  · obtain ⟨pa, m, as, axs, R, rfl, hpa, hta, hax, hal, O, k2, k3⟩ := h
    refine ⟨_, (pss_one (ps_for (passes_of rfl) rfl (pi_enum (by rfl) T.n_enumerate (pa_cons (pv 0) pa_nil)) (pg_tup (by rfl) (pgs_cons (pg_name (i := 2) sc_need_deeds.nd rfl (Or.inl rfl)) (pgs_cons (pg_name (i := 3) sc_need_deeds.nd rfl (Or.inl rfl)) pgs_nil))) (pss_one (ps_if (PW.pt (pw_or (pt_cmpR op_ge (pv 2) (pe_globI rfl T.g_MOST_DEEDS) (nomark _)) (pw_or1 (pt_not (pt_val (pe_call G_is_deed (hr.mono (by omega)) rfl T.g_is_deed T.k_is_deed T.b_is_deed .nil pass0 (pa_cons (pv 3) (pa_cons (pv 1) pa_nil)))))))) (pss_one (ps_raise rfl (takes_of rfl rfl rfl rfl) (pmk_oex ((T.xt.xc "BadDeed" (by decide)).oex T.ox_BadDeed) T.m_BadDeed___init__.at_ (isFn_ty T.m_BadDeed___init__.fn) G_BadDeed (hr.mono (by omega)) T.b_BadDeed___init__ .nil pass0 (by rfl) T.g_BadDeed (pa_cons (pv 2) pa_nil)))) pss_nil)))), ?_⟩
    refine ⟨_, rfl, pa, _, rfl, SqL.of (O.mem hpa), ?_⟩
    have hasl := hta.len
    refine for_enum (K := K) (a := pa) (xs := as.map V.ref) (fun i σ H' => (∃ v2 v3, σ = [some (.ref pa), some (.int m), v2, v3]) ∧ (∀ j, j < i → DeedAt m axs j) ∧ Own H' R) ⟨⟨none, none, rfl⟩, fun j hj => absurd hj (by omega), O⟩ (fun i σ H' _ ⟨_, _, O'⟩ => SqL.of (O'.mem hpa)) ?_ ?_
    · rintro i x σ H1 p hi ⟨⟨v2, v3, rfl⟩, hj, O1⟩ hp
      rw [List.getElem?_map] at hi
      cases ha : as[i]? with
      | none =>
        rw [ha] at hi
        cases hi
      | some a =>
        rw [ha] at hi
        have ex : V.ref a = x := Option.some.inj hi
        subst ex
        obtain ⟨xs, hx1, hx2⟩ := hta.get ha
        have hil : i < axs.length := (List.getElem?_eq_some_iff.mp hx1).1
        obtain ⟨hf1, hf2⟩ := hax xs (List.mem_of_getElem? hx1)
        have O2 := O1.new (o := .tup [.int (i : Nat), .ref a]) hp
        have bad : ¬ DeedAt m axs i → ∀ {HH : Hp}, Own HH R → ∀ d, HH d = none → E (.ref (He.ga K "BadDeed")) (some d) (upd HH d (.xd [("number", .int (i : Nat))])) := fun hb HH O' d hd => k2 i ⟨hil, hb, hj⟩ d _ (O'.new hd)
        refine ⟨p, _, rfl, SqT.of O2.a0, rfl, _, _, rfl, _, _, rfl, rfl, ?_⟩
        refine ⟨_, rfl, i, 200, rfl, rfl, _, rfl, ?_⟩
        by_cases h2 : (200 : Int) ≤ (i : Int)
        · refine iteTo (decide_eq_true h2) ?_
          exact ⟨_, rfl, rz_go (by omega) (bad (fun z => by have := z.1; omega) O2.tail)⟩
        · refine iteFo (decide_eq_false h2) ?_
          refine ⟨_, rfl, _, rfl, a, m, xs, rfl, hf1, O2.mem (List.mem_cons_of_mem _ hx2), by omega, _, rfl, ?_⟩
          cases hq : deedB m xs with
          | true =>
            refine iteF ⟨⟨_, _, rfl⟩, fun j hj2 => ?_, O2.tail⟩
            by_cases e : j = i
            · rw [e]
              exact ⟨by omega, xs, hx1, hq⟩
            · exact hj j (by omega)
          | false =>
            refine iteT ⟨_, rfl, rz_go (by omega) (bad (fun z => ?_) O2.tail)⟩
            obtain ⟨_, ys, hy, hy2⟩ := z
            rw [hx1] at hy
            cases hy
            rw [hq] at hy2
            cases hy2
    · rintro σ H1 ⟨⟨v2, v3, rfl⟩, hj, O1⟩
      rw [List.length_map, hasl] at hj
      exact k3 hj H1 O1
theorem ok_need_handsX (T : Txt K mg) : FnOk P w K mg base (L2.CX P w) 2 (He.fAd K ("need_hands", none)) T.fd_need_hands ["hands"] (spNeedHandsX K) := by
  have G_is_number := ok_is_number (P := P) (w := w) (base := base) T
  refine okX T.F_need_hands sc_need_hands (fun vs H Q E h => ?_) (fun cdv A outer s H vs Q E hr h => ?_)
  · obtain ⟨_, rfl, _⟩ := h
    rfl
  · obtain ⟨m, rfl, k, ke⟩ := h
    refine ⟨_, (pss_one (ps_if (pt_not (pt_val (pe_call G_is_number (hr.mono (by omega)) rfl T.g_is_number T.k_is_number T.b_is_number .nil pass0 (pa_cons (pv 0) (pa_cons pe_int (pa_cons (pe_globI rfl T.g_MOST_HANDS) pa_nil)))))) (pss_one (ps_raise rfl (takes_of rfl rfl rfl rfl) (pmk_own PySem.F.excBase_ValueError T.xe_BadHands.1 T.g_BadHands T.xe_BadHands.2.1 (raises_own T.xe_BadHands.2.2.1 T.xe_BadHands.2.2.2) (by rfl)))) pss_nil)), ?_⟩
    refine ⟨_, rfl, m, 1, 3, rfl, _, rfl, ?_⟩
    by_cases h3 : 1 ≤ m ∧ m ≤ 3
    · rw [decide_eq_true h3]
      exact iteF (k h3)
    · rw [decide_eq_false h3]
      exact iteT (ke h3)
end
-- WwField
theorem lk_hd {f : Str} {y : V} {fs : List (Str × V)} : ((f, y) :: fs).lookup f = some y := by simp [List.lookup]
theorem lk_tl {f g : Str} {y : V} {fs : List (Str × V)} (h : (g == f) = false) : ((f, y) :: fs).lookup g = fs.lookup g := by simp [List.lookup, h]
theorem pf_hd {f : Str} {y z : V} {fs : List (Str × V)} : putF f z ((f, y) :: fs) = (f, z) :: fs := by unfold putF; rw [if_pos rfl]
theorem pf_tl {f g : Str} {y z : V} {fs : List (Str × V)} (h : (g == f) = false) : putF g z ((f, y) :: fs) = (f, y) :: putF g z fs := by
  have e : ¬ f = g := fun q => by rw [q, beq_self_eq_true] at h; cases h
  show (if f = g then _ else _) = _
  rw [if_neg e]
theorem pf_nil {f : Str} {z : V} : putF f z [] = [(f, z)] := rfl
theorem ne_ask_others_diary : (("ask_others" : Str) == ("diary" : Str)) = false := by decide +kernel
theorem ne_ask_others_last : (("ask_others" : Str) == ("last" : Str)) = false := by decide +kernel
theorem ne_ask_others_own : (("ask_others" : Str) == ("own" : Str)) = false := by decide +kernel
theorem ne_ask_others_shared : (("ask_others" : Str) == ("shared" : Str)) = false := by decide +kernel
theorem ne_behind_is_back : (("behind" : Str) == ("is_back" : Str)) = false := by decide +kernel
theorem ne_behind_is_in : (("behind" : Str) == ("is_in" : Str)) = false := by decide +kernel
theorem ne_behind_is_late : (("behind" : Str) == ("is_late" : Str)) = false := by decide +kernel
theorem ne_behind_ways : (("behind" : Str) == ("ways" : Str)) = false := by decide +kernel
theorem ne_bring_behind : (("bring" : Str) == ("behind" : Str)) = false := by decide +kernel
theorem ne_bring_diary : (("bring" : Str) == ("diary" : Str)) = false := by decide +kernel
theorem ne_bring_held : (("bring" : Str) == ("held" : Str)) = false := by decide +kernel
theorem ne_bring_is_back : (("bring" : Str) == ("is_back" : Str)) = false := by decide +kernel
theorem ne_bring_is_in : (("bring" : Str) == ("is_in" : Str)) = false := by decide +kernel
theorem ne_bring_is_late : (("bring" : Str) == ("is_late" : Str)) = false := by decide +kernel
theorem ne_bring_sets : (("bring" : Str) == ("sets" : Str)) = false := by decide +kernel
theorem ne_bring_title : (("bring" : Str) == ("title" : Str)) = false := by decide +kernel
theorem ne_bring_ways : (("bring" : Str) == ("ways" : Str)) = false := by decide +kernel
theorem ne_change_behind : (("change" : Str) == ("behind" : Str)) = false := by decide +kernel
theorem ne_change_diary : (("change" : Str) == ("diary" : Str)) = false := by decide +kernel
theorem ne_change_held : (("change" : Str) == ("held" : Str)) = false := by decide +kernel
theorem ne_change_is_back : (("change" : Str) == ("is_back" : Str)) = false := by decide +kernel
theorem ne_change_is_in : (("change" : Str) == ("is_in" : Str)) = false := by decide +kernel
theorem ne_change_is_late : (("change" : Str) == ("is_late" : Str)) = false := by decide +kernel
theorem ne_change_last : (("change" : Str) == ("last" : Str)) = false := by decide +kernel
theorem ne_change_own : (("change" : Str) == ("own" : Str)) = false := by decide +kernel
theorem ne_change_sets : (("change" : Str) == ("sets" : Str)) = false := by decide +kernel
theorem ne_change_shared : (("change" : Str) == ("shared" : Str)) = false := by decide +kernel
theorem ne_change_title : (("change" : Str) == ("title" : Str)) = false := by decide +kernel
theorem ne_change_ways : (("change" : Str) == ("ways" : Str)) = false := by decide +kernel
theorem ne_diary_behind : (("diary" : Str) == ("behind" : Str)) = false := by decide +kernel
theorem ne_diary_is_back : (("diary" : Str) == ("is_back" : Str)) = false := by decide +kernel
theorem ne_diary_is_in : (("diary" : Str) == ("is_in" : Str)) = false := by decide +kernel
theorem ne_diary_is_late : (("diary" : Str) == ("is_late" : Str)) = false := by decide +kernel
theorem ne_diary_title : (("diary" : Str) == ("title" : Str)) = false := by decide +kernel
theorem ne_diary_ways : (("diary" : Str) == ("ways" : Str)) = false := by decide +kernel
theorem ne_far_diary : (("far" : Str) == ("diary" : Str)) = false := by decide +kernel
theorem ne_far_last : (("far" : Str) == ("last" : Str)) = false := by decide +kernel
theorem ne_far_own : (("far" : Str) == ("own" : Str)) = false := by decide +kernel
theorem ne_far_shared : (("far" : Str) == ("shared" : Str)) = false := by decide +kernel
theorem ne_holds_behind : (("holds" : Str) == ("behind" : Str)) = false := by decide +kernel
theorem ne_holds_diary : (("holds" : Str) == ("diary" : Str)) = false := by decide +kernel
theorem ne_holds_is_back : (("holds" : Str) == ("is_back" : Str)) = false := by decide +kernel
theorem ne_holds_is_in : (("holds" : Str) == ("is_in" : Str)) = false := by decide +kernel
theorem ne_holds_is_late : (("holds" : Str) == ("is_late" : Str)) = false := by decide +kernel
theorem ne_holds_sets : (("holds" : Str) == ("sets" : Str)) = false := by decide +kernel
theorem ne_holds_title : (("holds" : Str) == ("title" : Str)) = false := by decide +kernel
theorem ne_holds_ways : (("holds" : Str) == ("ways" : Str)) = false := by decide +kernel
theorem ne_home_behind : (("home" : Str) == ("behind" : Str)) = false := by decide +kernel
theorem ne_home_diary : (("home" : Str) == ("diary" : Str)) = false := by decide +kernel
theorem ne_home_held : (("home" : Str) == ("held" : Str)) = false := by decide +kernel
theorem ne_home_is_back : (("home" : Str) == ("is_back" : Str)) = false := by decide +kernel
theorem ne_home_is_in : (("home" : Str) == ("is_in" : Str)) = false := by decide +kernel
theorem ne_home_is_late : (("home" : Str) == ("is_late" : Str)) = false := by decide +kernel
theorem ne_home_sets : (("home" : Str) == ("sets" : Str)) = false := by decide +kernel
theorem ne_home_title : (("home" : Str) == ("title" : Str)) = false := by decide +kernel
theorem ne_home_ways : (("home" : Str) == ("ways" : Str)) = false := by decide +kernel
theorem ne_is_back_ways : (("is_back" : Str) == ("ways" : Str)) = false := by decide +kernel
theorem ne_is_dirty_block : (("is_dirty" : Str) == ("block" : Str)) = false := by decide +kernel
theorem ne_is_dirty_numbers : (("is_dirty" : Str) == ("numbers" : Str)) = false := by decide +kernel
theorem ne_is_in_is_back : (("is_in" : Str) == ("is_back" : Str)) = false := by decide +kernel
theorem ne_is_in_ways : (("is_in" : Str) == ("ways" : Str)) = false := by decide +kernel
theorem ne_is_late_is_back : (("is_late" : Str) == ("is_back" : Str)) = false := by decide +kernel
theorem ne_is_late_is_in : (("is_late" : Str) == ("is_in" : Str)) = false := by decide +kernel
theorem ne_is_late_ways : (("is_late" : Str) == ("ways" : Str)) = false := by decide +kernel
theorem ne_last_diary : (("last" : Str) == ("diary" : Str)) = false := by decide +kernel
theorem ne_line_of_behind : (("line_of" : Str) == ("behind" : Str)) = false := by decide +kernel
theorem ne_line_of_diary : (("line_of" : Str) == ("diary" : Str)) = false := by decide +kernel
theorem ne_line_of_is_back : (("line_of" : Str) == ("is_back" : Str)) = false := by decide +kernel
theorem ne_line_of_is_in : (("line_of" : Str) == ("is_in" : Str)) = false := by decide +kernel
theorem ne_line_of_is_late : (("line_of" : Str) == ("is_late" : Str)) = false := by decide +kernel
theorem ne_line_of_sets : (("line_of" : Str) == ("sets" : Str)) = false := by decide +kernel
theorem ne_line_of_title : (("line_of" : Str) == ("title" : Str)) = false := by decide +kernel
theorem ne_line_of_ways : (("line_of" : Str) == ("ways" : Str)) = false := by decide +kernel
theorem ne_lines_of_behind : (("lines_of" : Str) == ("behind" : Str)) = false := by decide +kernel
theorem ne_lines_of_diary : (("lines_of" : Str) == ("diary" : Str)) = false := by decide +kernel
theorem ne_lines_of_is_back : (("lines_of" : Str) == ("is_back" : Str)) = false := by decide +kernel
theorem ne_lines_of_is_in : (("lines_of" : Str) == ("is_in" : Str)) = false := by decide +kernel
theorem ne_lines_of_is_late : (("lines_of" : Str) == ("is_late" : Str)) = false := by decide +kernel
theorem ne_lines_of_sets : (("lines_of" : Str) == ("sets" : Str)) = false := by decide +kernel
theorem ne_lines_of_title : (("lines_of" : Str) == ("title" : Str)) = false := by decide +kernel
theorem ne_lines_of_ways : (("lines_of" : Str) == ("ways" : Str)) = false := by decide +kernel
theorem ne_log_diary : (("log" : Str) == ("diary" : Str)) = false := by decide +kernel
theorem ne_log_last : (("log" : Str) == ("last" : Str)) = false := by decide +kernel
theorem ne_log_own : (("log" : Str) == ("own" : Str)) = false := by decide +kernel
theorem ne_log_shared : (("log" : Str) == ("shared" : Str)) = false := by decide +kernel
theorem ne_look_behind : (("look" : Str) == ("behind" : Str)) = false := by decide +kernel
theorem ne_look_diary : (("look" : Str) == ("diary" : Str)) = false := by decide +kernel
theorem ne_look_is_back : (("look" : Str) == ("is_back" : Str)) = false := by decide +kernel
theorem ne_look_is_in : (("look" : Str) == ("is_in" : Str)) = false := by decide +kernel
theorem ne_look_is_late : (("look" : Str) == ("is_late" : Str)) = false := by decide +kernel
theorem ne_look_last : (("look" : Str) == ("last" : Str)) = false := by decide +kernel
theorem ne_look_own : (("look" : Str) == ("own" : Str)) = false := by decide +kernel
theorem ne_look_sets : (("look" : Str) == ("sets" : Str)) = false := by decide +kernel
theorem ne_look_shared : (("look" : Str) == ("shared" : Str)) = false := by decide +kernel
theorem ne_look_title : (("look" : Str) == ("title" : Str)) = false := by decide +kernel
theorem ne_look_ways : (("look" : Str) == ("ways" : Str)) = false := by decide +kernel
theorem ne_make_way_behind : (("make_way" : Str) == ("behind" : Str)) = false := by decide +kernel
theorem ne_make_way_diary : (("make_way" : Str) == ("diary" : Str)) = false := by decide +kernel
theorem ne_make_way_is_back : (("make_way" : Str) == ("is_back" : Str)) = false := by decide +kernel
theorem ne_make_way_is_in : (("make_way" : Str) == ("is_in" : Str)) = false := by decide +kernel
theorem ne_make_way_is_late : (("make_way" : Str) == ("is_late" : Str)) = false := by decide +kernel
theorem ne_make_way_sets : (("make_way" : Str) == ("sets" : Str)) = false := by decide +kernel
theorem ne_make_way_title : (("make_way" : Str) == ("title" : Str)) = false := by decide +kernel
theorem ne_make_way_ways : (("make_way" : Str) == ("ways" : Str)) = false := by decide +kernel
theorem ne_moves_diary : (("moves" : Str) == ("diary" : Str)) = false := by decide +kernel
theorem ne_moves_last : (("moves" : Str) == ("last" : Str)) = false := by decide +kernel
theorem ne_moves_own : (("moves" : Str) == ("own" : Str)) = false := by decide +kernel
theorem ne_moves_shared : (("moves" : Str) == ("shared" : Str)) = false := by decide +kernel
theorem ne_near_diary : (("near" : Str) == ("diary" : Str)) = false := by decide +kernel
theorem ne_near_last : (("near" : Str) == ("last" : Str)) = false := by decide +kernel
theorem ne_near_own : (("near" : Str) == ("own" : Str)) = false := by decide +kernel
theorem ne_near_shared : (("near" : Str) == ("shared" : Str)) = false := by decide +kernel
theorem ne_need_diary : (("need" : Str) == ("diary" : Str)) = false := by decide +kernel
theorem ne_need_last : (("need" : Str) == ("last" : Str)) = false := by decide +kernel
theorem ne_need_own : (("need" : Str) == ("own" : Str)) = false := by decide +kernel
theorem ne_need_shared : (("need" : Str) == ("shared" : Str)) = false := by decide +kernel
theorem ne_note_behind : (("note" : Str) == ("behind" : Str)) = false := by decide +kernel
theorem ne_note_diary : (("note" : Str) == ("diary" : Str)) = false := by decide +kernel
theorem ne_note_is_back : (("note" : Str) == ("is_back" : Str)) = false := by decide +kernel
theorem ne_note_is_in : (("note" : Str) == ("is_in" : Str)) = false := by decide +kernel
theorem ne_note_is_late : (("note" : Str) == ("is_late" : Str)) = false := by decide +kernel
theorem ne_note_sets : (("note" : Str) == ("sets" : Str)) = false := by decide +kernel
theorem ne_note_title : (("note" : Str) == ("title" : Str)) = false := by decide +kernel
theorem ne_note_ways : (("note" : Str) == ("ways" : Str)) = false := by decide +kernel
theorem ne_numbers_block : (("numbers" : Str) == ("block" : Str)) = false := by decide +kernel
theorem ne_own_diary : (("own" : Str) == ("diary" : Str)) = false := by decide +kernel
theorem ne_own_last : (("own" : Str) == ("last" : Str)) = false := by decide +kernel
theorem ne_own_shared : (("own" : Str) == ("shared" : Str)) = false := by decide +kernel
theorem ne_pass_cell_behind : (("pass_cell" : Str) == ("behind" : Str)) = false := by decide +kernel
theorem ne_pass_cell_diary : (("pass_cell" : Str) == ("diary" : Str)) = false := by decide +kernel
theorem ne_pass_cell_is_back : (("pass_cell" : Str) == ("is_back" : Str)) = false := by decide +kernel
theorem ne_pass_cell_is_in : (("pass_cell" : Str) == ("is_in" : Str)) = false := by decide +kernel
theorem ne_pass_cell_is_late : (("pass_cell" : Str) == ("is_late" : Str)) = false := by decide +kernel
theorem ne_pass_cell_sets : (("pass_cell" : Str) == ("sets" : Str)) = false := by decide +kernel
theorem ne_pass_cell_title : (("pass_cell" : Str) == ("title" : Str)) = false := by decide +kernel
theorem ne_pass_cell_ways : (("pass_cell" : Str) == ("ways" : Str)) = false := by decide +kernel
theorem ne_pass_home_behind : (("pass_home" : Str) == ("behind" : Str)) = false := by decide +kernel
theorem ne_pass_home_diary : (("pass_home" : Str) == ("diary" : Str)) = false := by decide +kernel
theorem ne_pass_home_is_back : (("pass_home" : Str) == ("is_back" : Str)) = false := by decide +kernel
theorem ne_pass_home_is_in : (("pass_home" : Str) == ("is_in" : Str)) = false := by decide +kernel
theorem ne_pass_home_is_late : (("pass_home" : Str) == ("is_late" : Str)) = false := by decide +kernel
theorem ne_pass_home_sets : (("pass_home" : Str) == ("sets" : Str)) = false := by decide +kernel
theorem ne_pass_home_title : (("pass_home" : Str) == ("title" : Str)) = false := by decide +kernel
theorem ne_pass_home_ways : (("pass_home" : Str) == ("ways" : Str)) = false := by decide +kernel
theorem ne_reach_behind : (("reach" : Str) == ("behind" : Str)) = false := by decide +kernel
theorem ne_reach_diary : (("reach" : Str) == ("diary" : Str)) = false := by decide +kernel
theorem ne_reach_is_back : (("reach" : Str) == ("is_back" : Str)) = false := by decide +kernel
theorem ne_reach_is_in : (("reach" : Str) == ("is_in" : Str)) = false := by decide +kernel
theorem ne_reach_is_late : (("reach" : Str) == ("is_late" : Str)) = false := by decide +kernel
theorem ne_reach_sets : (("reach" : Str) == ("sets" : Str)) = false := by decide +kernel
theorem ne_reach_title : (("reach" : Str) == ("title" : Str)) = false := by decide +kernel
theorem ne_reach_ways : (("reach" : Str) == ("ways" : Str)) = false := by decide +kernel
theorem ne_sets_behind : (("sets" : Str) == ("behind" : Str)) = false := by decide +kernel
theorem ne_sets_diary : (("sets" : Str) == ("diary" : Str)) = false := by decide +kernel
theorem ne_sets_is_back : (("sets" : Str) == ("is_back" : Str)) = false := by decide +kernel
theorem ne_sets_is_in : (("sets" : Str) == ("is_in" : Str)) = false := by decide +kernel
theorem ne_sets_is_late : (("sets" : Str) == ("is_late" : Str)) = false := by decide +kernel
theorem ne_sets_title : (("sets" : Str) == ("title" : Str)) = false := by decide +kernel
theorem ne_sets_ways : (("sets" : Str) == ("ways" : Str)) = false := by decide +kernel
theorem ne_settle_behind : (("settle" : Str) == ("behind" : Str)) = false := by decide +kernel
theorem ne_settle_diary : (("settle" : Str) == ("diary" : Str)) = false := by decide +kernel
theorem ne_settle_is_back : (("settle" : Str) == ("is_back" : Str)) = false := by decide +kernel
theorem ne_settle_is_in : (("settle" : Str) == ("is_in" : Str)) = false := by decide +kernel
theorem ne_settle_is_late : (("settle" : Str) == ("is_late" : Str)) = false := by decide +kernel
theorem ne_settle_last : (("settle" : Str) == ("last" : Str)) = false := by decide +kernel
theorem ne_settle_own : (("settle" : Str) == ("own" : Str)) = false := by decide +kernel
theorem ne_settle_sets : (("settle" : Str) == ("sets" : Str)) = false := by decide +kernel
theorem ne_settle_shared : (("settle" : Str) == ("shared" : Str)) = false := by decide +kernel
theorem ne_settle_title : (("settle" : Str) == ("title" : Str)) = false := by decide +kernel
theorem ne_settle_ways : (("settle" : Str) == ("ways" : Str)) = false := by decide +kernel
theorem ne_shared_diary : (("shared" : Str) == ("diary" : Str)) = false := by decide +kernel
theorem ne_shared_last : (("shared" : Str) == ("last" : Str)) = false := by decide +kernel
theorem ne_title_behind : (("title" : Str) == ("behind" : Str)) = false := by decide +kernel
theorem ne_title_is_back : (("title" : Str) == ("is_back" : Str)) = false := by decide +kernel
theorem ne_title_is_in : (("title" : Str) == ("is_in" : Str)) = false := by decide +kernel
theorem ne_title_is_late : (("title" : Str) == ("is_late" : Str)) = false := by decide +kernel
theorem ne_title_ways : (("title" : Str) == ("ways" : Str)) = false := by decide +kernel
theorem ne_touch_behind : (("touch" : Str) == ("behind" : Str)) = false := by decide +kernel
theorem ne_touch_diary : (("touch" : Str) == ("diary" : Str)) = false := by decide +kernel
theorem ne_touch_is_back : (("touch" : Str) == ("is_back" : Str)) = false := by decide +kernel
theorem ne_touch_is_in : (("touch" : Str) == ("is_in" : Str)) = false := by decide +kernel
theorem ne_touch_is_late : (("touch" : Str) == ("is_late" : Str)) = false := by decide +kernel
theorem ne_touch_sets : (("touch" : Str) == ("sets" : Str)) = false := by decide +kernel
theorem ne_touch_title : (("touch" : Str) == ("title" : Str)) = false := by decide +kernel
theorem ne_touch_ways : (("touch" : Str) == ("ways" : Str)) = false := by decide +kernel
theorem ne_yield_up_behind : (("yield_up" : Str) == ("behind" : Str)) = false := by decide +kernel
theorem ne_yield_up_diary : (("yield_up" : Str) == ("diary" : Str)) = false := by decide +kernel
theorem ne_yield_up_is_back : (("yield_up" : Str) == ("is_back" : Str)) = false := by decide +kernel
theorem ne_yield_up_is_in : (("yield_up" : Str) == ("is_in" : Str)) = false := by decide +kernel
theorem ne_yield_up_is_late : (("yield_up" : Str) == ("is_late" : Str)) = false := by decide +kernel
theorem ne_yield_up_sets : (("yield_up" : Str) == ("sets" : Str)) = false := by decide +kernel
theorem ne_yield_up_title : (("yield_up" : Str) == ("title" : Str)) = false := by decide +kernel
theorem ne_yield_up_ways : (("yield_up" : Str) == ("ways" : Str)) = false := by decide +kernel
theorem lk_Far_held {v0 : V} : (fFar v0).lookup ("held" : Str) = some v0 := lk_hd
theorem no_Far_bring {v0 : V} : (fFar v0).lookup ("bring" : Str) = none := (lk_tl ne_bring_held).trans (rfl)
theorem no_Far_home {v0 : V} : (fFar v0).lookup ("home" : Str) = none := (lk_tl ne_home_held).trans (rfl)
theorem no_Far_change {v0 : V} : (fFar v0).lookup ("change" : Str) = none := (lk_tl ne_change_held).trans (rfl)
theorem pf_Far_held {v0 z : V} : putF "held" z (fFar v0) = fFar z := by
  unfold fFar
  rw [pf_hd]
theorem lk_Line_block {v0 v1 v2 : V} : (fLine v0 v1 v2).lookup ("block" : Str) = some v0 := lk_hd
theorem lk_Line_numbers {v0 v1 v2 : V} : (fLine v0 v1 v2).lookup ("numbers" : Str) = some v1 := (lk_tl ne_numbers_block).trans lk_hd
theorem lk_Line_is_dirty {v0 v1 v2 : V} : (fLine v0 v1 v2).lookup ("is_dirty" : Str) = some v2 := (lk_tl ne_is_dirty_block).trans ((lk_tl ne_is_dirty_numbers).trans lk_hd)
theorem pf_Line_block {v0 v1 v2 z : V} : putF "block" z (fLine v0 v1 v2) = fLine z v1 v2 := by
  unfold fLine
  rw [pf_hd]
theorem pf_Line_numbers {v0 v1 v2 z : V} : putF "numbers" z (fLine v0 v1 v2) = fLine v0 z v2 := by
  unfold fLine
  rw [pf_tl ne_numbers_block]
  rw [pf_hd]
theorem pf_Line_is_dirty {v0 v1 v2 z : V} : putF "is_dirty" z (fLine v0 v1 v2) = fLine v0 v1 z := by
  unfold fLine
  rw [pf_tl ne_is_dirty_block]
  rw [pf_tl ne_is_dirty_numbers]
  rw [pf_hd]
theorem lk_Room_ways {v0 v1 v2 v3 v4 v5 v6 v7 : V} : (fRoom v0 v1 v2 v3 v4 v5 v6 v7).lookup ("ways" : Str) = some v0 := lk_hd
theorem lk_Room_is_back {v0 v1 v2 v3 v4 v5 v6 v7 : V} : (fRoom v0 v1 v2 v3 v4 v5 v6 v7).lookup ("is_back" : Str) = some v1 := (lk_tl ne_is_back_ways).trans lk_hd
theorem lk_Room_is_in {v0 v1 v2 v3 v4 v5 v6 v7 : V} : (fRoom v0 v1 v2 v3 v4 v5 v6 v7).lookup ("is_in" : Str) = some v2 := (lk_tl ne_is_in_ways).trans ((lk_tl ne_is_in_is_back).trans lk_hd)
theorem lk_Room_is_late {v0 v1 v2 v3 v4 v5 v6 v7 : V} : (fRoom v0 v1 v2 v3 v4 v5 v6 v7).lookup ("is_late" : Str) = some v3 := (lk_tl ne_is_late_ways).trans ((lk_tl ne_is_late_is_back).trans ((lk_tl ne_is_late_is_in).trans lk_hd))
theorem lk_Room_behind {v0 v1 v2 v3 v4 v5 v6 v7 : V} : (fRoom v0 v1 v2 v3 v4 v5 v6 v7).lookup ("behind" : Str) = some v4 := (lk_tl ne_behind_ways).trans ((lk_tl ne_behind_is_back).trans ((lk_tl ne_behind_is_in).trans ((lk_tl ne_behind_is_late).trans lk_hd)))
theorem lk_Room_title {v0 v1 v2 v3 v4 v5 v6 v7 : V} : (fRoom v0 v1 v2 v3 v4 v5 v6 v7).lookup ("title" : Str) = some v5 := (lk_tl ne_title_ways).trans ((lk_tl ne_title_is_back).trans ((lk_tl ne_title_is_in).trans ((lk_tl ne_title_is_late).trans ((lk_tl ne_title_behind).trans lk_hd))))
theorem lk_Room_diary {v0 v1 v2 v3 v4 v5 v6 v7 : V} : (fRoom v0 v1 v2 v3 v4 v5 v6 v7).lookup ("diary" : Str) = some v6 := (lk_tl ne_diary_ways).trans ((lk_tl ne_diary_is_back).trans ((lk_tl ne_diary_is_in).trans ((lk_tl ne_diary_is_late).trans ((lk_tl ne_diary_behind).trans ((lk_tl ne_diary_title).trans lk_hd)))))
theorem lk_Room_sets {v0 v1 v2 v3 v4 v5 v6 v7 : V} : (fRoom v0 v1 v2 v3 v4 v5 v6 v7).lookup ("sets" : Str) = some v7 := (lk_tl ne_sets_ways).trans ((lk_tl ne_sets_is_back).trans ((lk_tl ne_sets_is_in).trans ((lk_tl ne_sets_is_late).trans ((lk_tl ne_sets_behind).trans ((lk_tl ne_sets_title).trans ((lk_tl ne_sets_diary).trans lk_hd))))))
theorem no_Room_lines_of {v0 v1 v2 v3 v4 v5 v6 v7 : V} : (fRoom v0 v1 v2 v3 v4 v5 v6 v7).lookup ("lines_of" : Str) = none := (lk_tl ne_lines_of_ways).trans ((lk_tl ne_lines_of_is_back).trans ((lk_tl ne_lines_of_is_in).trans ((lk_tl ne_lines_of_is_late).trans ((lk_tl ne_lines_of_behind).trans ((lk_tl ne_lines_of_title).trans ((lk_tl ne_lines_of_diary).trans ((lk_tl ne_lines_of_sets).trans (rfl))))))))
theorem no_Room_line_of {v0 v1 v2 v3 v4 v5 v6 v7 : V} : (fRoom v0 v1 v2 v3 v4 v5 v6 v7).lookup ("line_of" : Str) = none := (lk_tl ne_line_of_ways).trans ((lk_tl ne_line_of_is_back).trans ((lk_tl ne_line_of_is_in).trans ((lk_tl ne_line_of_is_late).trans ((lk_tl ne_line_of_behind).trans ((lk_tl ne_line_of_title).trans ((lk_tl ne_line_of_diary).trans ((lk_tl ne_line_of_sets).trans (rfl))))))))
theorem no_Room_note {v0 v1 v2 v3 v4 v5 v6 v7 : V} : (fRoom v0 v1 v2 v3 v4 v5 v6 v7).lookup ("note" : Str) = none := (lk_tl ne_note_ways).trans ((lk_tl ne_note_is_back).trans ((lk_tl ne_note_is_in).trans ((lk_tl ne_note_is_late).trans ((lk_tl ne_note_behind).trans ((lk_tl ne_note_title).trans ((lk_tl ne_note_diary).trans ((lk_tl ne_note_sets).trans (rfl))))))))
theorem no_Room_pass_home {v0 v1 v2 v3 v4 v5 v6 v7 : V} : (fRoom v0 v1 v2 v3 v4 v5 v6 v7).lookup ("pass_home" : Str) = none := (lk_tl ne_pass_home_ways).trans ((lk_tl ne_pass_home_is_back).trans ((lk_tl ne_pass_home_is_in).trans ((lk_tl ne_pass_home_is_late).trans ((lk_tl ne_pass_home_behind).trans ((lk_tl ne_pass_home_title).trans ((lk_tl ne_pass_home_diary).trans ((lk_tl ne_pass_home_sets).trans (rfl))))))))
theorem no_Room_pass_cell {v0 v1 v2 v3 v4 v5 v6 v7 : V} : (fRoom v0 v1 v2 v3 v4 v5 v6 v7).lookup ("pass_cell" : Str) = none := (lk_tl ne_pass_cell_ways).trans ((lk_tl ne_pass_cell_is_back).trans ((lk_tl ne_pass_cell_is_in).trans ((lk_tl ne_pass_cell_is_late).trans ((lk_tl ne_pass_cell_behind).trans ((lk_tl ne_pass_cell_title).trans ((lk_tl ne_pass_cell_diary).trans ((lk_tl ne_pass_cell_sets).trans (rfl))))))))
theorem no_Room_make_way {v0 v1 v2 v3 v4 v5 v6 v7 : V} : (fRoom v0 v1 v2 v3 v4 v5 v6 v7).lookup ("make_way" : Str) = none := (lk_tl ne_make_way_ways).trans ((lk_tl ne_make_way_is_back).trans ((lk_tl ne_make_way_is_in).trans ((lk_tl ne_make_way_is_late).trans ((lk_tl ne_make_way_behind).trans ((lk_tl ne_make_way_title).trans ((lk_tl ne_make_way_diary).trans ((lk_tl ne_make_way_sets).trans (rfl))))))))
theorem no_Room_touch {v0 v1 v2 v3 v4 v5 v6 v7 : V} : (fRoom v0 v1 v2 v3 v4 v5 v6 v7).lookup ("touch" : Str) = none := (lk_tl ne_touch_ways).trans ((lk_tl ne_touch_is_back).trans ((lk_tl ne_touch_is_in).trans ((lk_tl ne_touch_is_late).trans ((lk_tl ne_touch_behind).trans ((lk_tl ne_touch_title).trans ((lk_tl ne_touch_diary).trans ((lk_tl ne_touch_sets).trans (rfl))))))))
theorem no_Room_reach {v0 v1 v2 v3 v4 v5 v6 v7 : V} : (fRoom v0 v1 v2 v3 v4 v5 v6 v7).lookup ("reach" : Str) = none := (lk_tl ne_reach_ways).trans ((lk_tl ne_reach_is_back).trans ((lk_tl ne_reach_is_in).trans ((lk_tl ne_reach_is_late).trans ((lk_tl ne_reach_behind).trans ((lk_tl ne_reach_title).trans ((lk_tl ne_reach_diary).trans ((lk_tl ne_reach_sets).trans (rfl))))))))
theorem no_Room_bring {v0 v1 v2 v3 v4 v5 v6 v7 : V} : (fRoom v0 v1 v2 v3 v4 v5 v6 v7).lookup ("bring" : Str) = none := (lk_tl ne_bring_ways).trans ((lk_tl ne_bring_is_back).trans ((lk_tl ne_bring_is_in).trans ((lk_tl ne_bring_is_late).trans ((lk_tl ne_bring_behind).trans ((lk_tl ne_bring_title).trans ((lk_tl ne_bring_diary).trans ((lk_tl ne_bring_sets).trans (rfl))))))))
theorem no_Room_look {v0 v1 v2 v3 v4 v5 v6 v7 : V} : (fRoom v0 v1 v2 v3 v4 v5 v6 v7).lookup ("look" : Str) = none := (lk_tl ne_look_ways).trans ((lk_tl ne_look_is_back).trans ((lk_tl ne_look_is_in).trans ((lk_tl ne_look_is_late).trans ((lk_tl ne_look_behind).trans ((lk_tl ne_look_title).trans ((lk_tl ne_look_diary).trans ((lk_tl ne_look_sets).trans (rfl))))))))
theorem no_Room_change {v0 v1 v2 v3 v4 v5 v6 v7 : V} : (fRoom v0 v1 v2 v3 v4 v5 v6 v7).lookup ("change" : Str) = none := (lk_tl ne_change_ways).trans ((lk_tl ne_change_is_back).trans ((lk_tl ne_change_is_in).trans ((lk_tl ne_change_is_late).trans ((lk_tl ne_change_behind).trans ((lk_tl ne_change_title).trans ((lk_tl ne_change_diary).trans ((lk_tl ne_change_sets).trans (rfl))))))))
theorem no_Room_home {v0 v1 v2 v3 v4 v5 v6 v7 : V} : (fRoom v0 v1 v2 v3 v4 v5 v6 v7).lookup ("home" : Str) = none := (lk_tl ne_home_ways).trans ((lk_tl ne_home_is_back).trans ((lk_tl ne_home_is_in).trans ((lk_tl ne_home_is_late).trans ((lk_tl ne_home_behind).trans ((lk_tl ne_home_title).trans ((lk_tl ne_home_diary).trans ((lk_tl ne_home_sets).trans (rfl))))))))
theorem no_Room_yield_up {v0 v1 v2 v3 v4 v5 v6 v7 : V} : (fRoom v0 v1 v2 v3 v4 v5 v6 v7).lookup ("yield_up" : Str) = none := (lk_tl ne_yield_up_ways).trans ((lk_tl ne_yield_up_is_back).trans ((lk_tl ne_yield_up_is_in).trans ((lk_tl ne_yield_up_is_late).trans ((lk_tl ne_yield_up_behind).trans ((lk_tl ne_yield_up_title).trans ((lk_tl ne_yield_up_diary).trans ((lk_tl ne_yield_up_sets).trans (rfl))))))))
theorem no_Room_settle {v0 v1 v2 v3 v4 v5 v6 v7 : V} : (fRoom v0 v1 v2 v3 v4 v5 v6 v7).lookup ("settle" : Str) = none := (lk_tl ne_settle_ways).trans ((lk_tl ne_settle_is_back).trans ((lk_tl ne_settle_is_in).trans ((lk_tl ne_settle_is_late).trans ((lk_tl ne_settle_behind).trans ((lk_tl ne_settle_title).trans ((lk_tl ne_settle_diary).trans ((lk_tl ne_settle_sets).trans (rfl))))))))
theorem no_Room_holds {v0 v1 v2 v3 v4 v5 v6 v7 : V} : (fRoom v0 v1 v2 v3 v4 v5 v6 v7).lookup ("holds" : Str) = none := (lk_tl ne_holds_ways).trans ((lk_tl ne_holds_is_back).trans ((lk_tl ne_holds_is_in).trans ((lk_tl ne_holds_is_late).trans ((lk_tl ne_holds_behind).trans ((lk_tl ne_holds_title).trans ((lk_tl ne_holds_diary).trans ((lk_tl ne_holds_sets).trans (rfl))))))))
theorem pf_Room_ways {v0 v1 v2 v3 v4 v5 v6 v7 z : V} : putF "ways" z (fRoom v0 v1 v2 v3 v4 v5 v6 v7) = fRoom z v1 v2 v3 v4 v5 v6 v7 := by
  unfold fRoom
  rw [pf_hd]
theorem pf_Room_is_back {v0 v1 v2 v3 v4 v5 v6 v7 z : V} : putF "is_back" z (fRoom v0 v1 v2 v3 v4 v5 v6 v7) = fRoom v0 z v2 v3 v4 v5 v6 v7 := by
  unfold fRoom
  rw [pf_tl ne_is_back_ways]
  rw [pf_hd]
theorem pf_Room_is_in {v0 v1 v2 v3 v4 v5 v6 v7 z : V} : putF "is_in" z (fRoom v0 v1 v2 v3 v4 v5 v6 v7) = fRoom v0 v1 z v3 v4 v5 v6 v7 := by
  unfold fRoom
  rw [pf_tl ne_is_in_ways]
  rw [pf_tl ne_is_in_is_back]
  rw [pf_hd]
theorem pf_Room_is_late {v0 v1 v2 v3 v4 v5 v6 v7 z : V} : putF "is_late" z (fRoom v0 v1 v2 v3 v4 v5 v6 v7) = fRoom v0 v1 v2 z v4 v5 v6 v7 := by
  unfold fRoom
  rw [pf_tl ne_is_late_ways]
  rw [pf_tl ne_is_late_is_back]
  rw [pf_tl ne_is_late_is_in]
  rw [pf_hd]
theorem pf_Room_behind {v0 v1 v2 v3 v4 v5 v6 v7 z : V} : putF "behind" z (fRoom v0 v1 v2 v3 v4 v5 v6 v7) = fRoom v0 v1 v2 v3 z v5 v6 v7 := by
  unfold fRoom
  rw [pf_tl ne_behind_ways]
  rw [pf_tl ne_behind_is_back]
  rw [pf_tl ne_behind_is_in]
  rw [pf_tl ne_behind_is_late]
  rw [pf_hd]
theorem pf_Room_title {v0 v1 v2 v3 v4 v5 v6 v7 z : V} : putF "title" z (fRoom v0 v1 v2 v3 v4 v5 v6 v7) = fRoom v0 v1 v2 v3 v4 z v6 v7 := by
  unfold fRoom
  rw [pf_tl ne_title_ways]
  rw [pf_tl ne_title_is_back]
  rw [pf_tl ne_title_is_in]
  rw [pf_tl ne_title_is_late]
  rw [pf_tl ne_title_behind]
  rw [pf_hd]
theorem pf_Room_diary {v0 v1 v2 v3 v4 v5 v6 v7 z : V} : putF "diary" z (fRoom v0 v1 v2 v3 v4 v5 v6 v7) = fRoom v0 v1 v2 v3 v4 v5 z v7 := by
  unfold fRoom
  rw [pf_tl ne_diary_ways]
  rw [pf_tl ne_diary_is_back]
  rw [pf_tl ne_diary_is_in]
  rw [pf_tl ne_diary_is_late]
  rw [pf_tl ne_diary_behind]
  rw [pf_tl ne_diary_title]
  rw [pf_hd]
theorem pf_Room_sets {v0 v1 v2 v3 v4 v5 v6 v7 z : V} : putF "sets" z (fRoom v0 v1 v2 v3 v4 v5 v6 v7) = fRoom v0 v1 v2 v3 v4 v5 v6 z := by
  unfold fRoom
  rw [pf_tl ne_sets_ways]
  rw [pf_tl ne_sets_is_back]
  rw [pf_tl ne_sets_is_in]
  rw [pf_tl ne_sets_is_late]
  rw [pf_tl ne_sets_behind]
  rw [pf_tl ne_sets_title]
  rw [pf_tl ne_sets_diary]
  rw [pf_hd]
theorem lk_Hall_diary {v0 v1 v2 v3 : V} : (fHall v0 v1 v2 v3).lookup ("diary" : Str) = some v0 := lk_hd
theorem lk_Hall_last {v0 v1 v2 v3 : V} : (fHall v0 v1 v2 v3).lookup ("last" : Str) = some v1 := (lk_tl ne_last_diary).trans lk_hd
theorem lk_Hall_shared {v0 v1 v2 v3 : V} : (fHall v0 v1 v2 v3).lookup ("shared" : Str) = some v2 := (lk_tl ne_shared_diary).trans ((lk_tl ne_shared_last).trans lk_hd)
theorem lk_Hall_own {v0 v1 v2 v3 : V} : (fHall v0 v1 v2 v3).lookup ("own" : Str) = some v3 := (lk_tl ne_own_diary).trans ((lk_tl ne_own_last).trans ((lk_tl ne_own_shared).trans lk_hd))
theorem no_Hall_need {v0 v1 v2 v3 : V} : (fHall v0 v1 v2 v3).lookup ("need" : Str) = none := (lk_tl ne_need_diary).trans ((lk_tl ne_need_last).trans ((lk_tl ne_need_shared).trans ((lk_tl ne_need_own).trans (rfl))))
theorem no_Hall_ask_others {v0 v1 v2 v3 : V} : (fHall v0 v1 v2 v3).lookup ("ask_others" : Str) = none := (lk_tl ne_ask_others_diary).trans ((lk_tl ne_ask_others_last).trans ((lk_tl ne_ask_others_shared).trans ((lk_tl ne_ask_others_own).trans (rfl))))
theorem no_Hall_look {v0 v1 v2 v3 : V} : (fHall v0 v1 v2 v3).lookup ("look" : Str) = none := (lk_tl ne_look_diary).trans ((lk_tl ne_look_last).trans ((lk_tl ne_look_shared).trans ((lk_tl ne_look_own).trans (rfl))))
theorem no_Hall_change {v0 v1 v2 v3 : V} : (fHall v0 v1 v2 v3).lookup ("change" : Str) = none := (lk_tl ne_change_diary).trans ((lk_tl ne_change_last).trans ((lk_tl ne_change_shared).trans ((lk_tl ne_change_own).trans (rfl))))
theorem no_Hall_settle {v0 v1 v2 v3 : V} : (fHall v0 v1 v2 v3).lookup ("settle" : Str) = none := (lk_tl ne_settle_diary).trans ((lk_tl ne_settle_last).trans ((lk_tl ne_settle_shared).trans ((lk_tl ne_settle_own).trans (rfl))))
theorem no_Hall_far {v0 v1 v2 v3 : V} : (fHall v0 v1 v2 v3).lookup ("far" : Str) = none := (lk_tl ne_far_diary).trans ((lk_tl ne_far_last).trans ((lk_tl ne_far_shared).trans ((lk_tl ne_far_own).trans (rfl))))
theorem no_Hall_near {v0 v1 v2 v3 : V} : (fHall v0 v1 v2 v3).lookup ("near" : Str) = none := (lk_tl ne_near_diary).trans ((lk_tl ne_near_last).trans ((lk_tl ne_near_shared).trans ((lk_tl ne_near_own).trans (rfl))))
theorem no_Hall_log {v0 v1 v2 v3 : V} : (fHall v0 v1 v2 v3).lookup ("log" : Str) = none := (lk_tl ne_log_diary).trans ((lk_tl ne_log_last).trans ((lk_tl ne_log_shared).trans ((lk_tl ne_log_own).trans (rfl))))
theorem no_Hall_moves {v0 v1 v2 v3 : V} : (fHall v0 v1 v2 v3).lookup ("moves" : Str) = none := (lk_tl ne_moves_diary).trans ((lk_tl ne_moves_last).trans ((lk_tl ne_moves_shared).trans ((lk_tl ne_moves_own).trans (rfl))))
theorem pf_Hall_diary {v0 v1 v2 v3 z : V} : putF "diary" z (fHall v0 v1 v2 v3) = fHall z v1 v2 v3 := by
  unfold fHall
  rw [pf_hd]
theorem pf_Hall_last {v0 v1 v2 v3 z : V} : putF "last" z (fHall v0 v1 v2 v3) = fHall v0 z v2 v3 := by
  unfold fHall
  rw [pf_tl ne_last_diary]
  rw [pf_hd]
theorem pf_Hall_shared {v0 v1 v2 v3 z : V} : putF "shared" z (fHall v0 v1 v2 v3) = fHall v0 v1 z v3 := by
  unfold fHall
  rw [pf_tl ne_shared_diary]
  rw [pf_tl ne_shared_last]
  rw [pf_hd]
theorem pf_Hall_own {v0 v1 v2 v3 z : V} : putF "own" z (fHall v0 v1 v2 v3) = fHall v0 v1 v2 z := by
  unfold fHall
  rw [pf_tl ne_own_diary]
  rw [pf_tl ne_own_last]
  rw [pf_tl ne_own_shared]
  rw [pf_hd]
-- WwPure
/-! ### plain facts of the rooms -/
theorem ix_lt {r : Rm} (h : 0 < r.ss.length) (b : Nat) : r.ix b < r.ss.length := Nat.mod_lt _ h
theorem ls_get {r : Rm} (h : 0 < r.ss.length) (b : Nat) : r.ss[r.ix b]? = some (r.ls b) := by
  unfold Rm.ls
  rw [List.getD_eq_getElem?_getD, List.getElem?_eq_getElem (ix_lt h b)]
  rfl
theorem ls_mem {r : Rm} (h : 0 < r.ss.length) (b : Nat) : r.ls b ∈ r.ss := List.mem_of_getElem? (ls_get h b)
theorem put_len (r : Rm) (b : Nat) (ls : List Ln) : (r.put b ls).ss.length = r.ss.length := by unfold Rm.put; simp
theorem put_ru (r : Rm) (b : Nat) (ls : List Ln) : (r.put b ls).ru = r.ru := rfl
theorem put_ix (r : Rm) (b c : Nat) (ls : List Ln) : (r.put b ls).ix c = r.ix c := by unfold Rm.ix; rw [put_len]
theorem ls_put {r : Rm} (h : 0 < r.ss.length) (b : Nat) (ls : List Ln) : (r.put b ls).ls b = ls := by
  unfold Rm.ls
  rw [put_ix]
  unfold Rm.put
  rw [List.getD_eq_getElem?_getD, List.getElem?_set_self (ix_lt h b)]
  rfl
theorem ls_put_ne {r : Rm} {b c : Nat} {ls : List Ln} (h : r.ix c ≠ r.ix b) : (r.put b ls).ls c = r.ls c := by
  unfold Rm.ls
  rw [put_ix]
  unfold Rm.put
  rw [List.getD_eq_getElem?_getD, List.getElem?_set_ne (Ne.symm h), ← List.getD_eq_getElem?_getD]
theorem put_put (r : Rm) (b : Nat) (ls ls' : List Ln) : (r.put b ls).put b ls' = r.put b ls' := by
  unfold Rm.put
  simp only [Rm.ix, List.length_set, List.set_set]
theorem put_self {r : Rm} (h : 0 < r.ss.length) (b : Nat) : r.put b (r.ls b) = r := by
  unfold Rm.put
  have : r.ss.set (r.ix b) (r.ls b) = r.ss := by
    apply List.ext_getElem?
    intro i
    by_cases e : r.ix b = i
    · subst e
      rw [List.getElem?_set_self (ix_lt h b), ls_get h b]
    · rw [List.getElem?_set_ne e]
  rw [this]
theorem put_ok {r : Rm} (h : RmOk r) {b : Nat} {ls : List Ln} (hl : LsOk r.ru ls) : RmOk (r.put b ls) := by
  refine ⟨by rw [put_len]; exact h.s0, by rw [put_len]; exact h.s4, h.ru, fun ls' hm => ?_⟩
  rcases List.mem_or_eq_of_mem_set hm with hm | e
  · exact h.ln _ hm
  · rw [e]
    exact hl
theorem RmOk.ls {r : Rm} (h : RmOk r) (b : Nat) : LsOk r.ru (r.ls b) := h.ln _ (ls_mem h.s0 b)
theorem fnd_some {b : Nat} : ∀ {ls : List Ln} {i : Nat}, fnd b ls = some i → ∃ l, ls[i]? = some l ∧ l.b = b ∧ ∀ (m : Nat) (l' : Ln), m < i → ls[m]? = some l' → l'.b ≠ b
  | [], i, h => by cases h
  | l :: r, i, h => by
    unfold fnd at h
    by_cases e : l.b = b
    · rw [if_pos e] at h
      cases h
      exact ⟨l, rfl, e, fun m l' hm => by omega⟩
    · rw [if_neg e] at h
      cases hr : fnd b r with
      | none =>
        rw [hr] at h
        cases h
      | some j =>
        rw [hr] at h
        have h2 : j + 1 = i := Option.some.inj h
        subst h2
        obtain ⟨l1, h1, h2, h3⟩ := fnd_some hr
        refine ⟨l1, h1, h2, fun m l' hm hl => ?_⟩
        cases m with
        | zero =>
          have : l = l' := Option.some.inj hl
          rw [← this]
          exact e
        | succ m => exact h3 m l' (by omega) hl
theorem fnd_none {b : Nat} : ∀ {ls : List Ln}, fnd b ls = none → ∀ l ∈ ls, l.b ≠ b
  | [], _, l, hl => by cases hl
  | a :: r, h, l, hl => by
    unfold fnd at h
    by_cases e : a.b = b
    · rw [if_pos e] at h
      cases h
    · rw [if_neg e] at h
      rcases List.mem_cons.mp hl with e' | hm
      · rw [e']
        exact e
      · refine fnd_none ?_ l hm
        cases hr : fnd b r with
        | none => rfl
        | some j =>
          rw [hr] at h
          cases h
theorem fnd_lt {b : Nat} {ls : List Ln} {i : Nat} (h : fnd b ls = some i) : i < ls.length := by
  obtain ⟨l, hl, _⟩ := fnd_some h
  exact (List.getElem?_eq_some_iff.mp hl).1
section
variable {α : Type} {lt : Bool} {ls : List α} {i : Nat}
theorem touch_len (h : i < ls.length) : (touchL lt ls i).length = ls.length := by
  unfold touchL
  split
  · rw [List.length_append, List.length_eraseIdx_of_lt h, List.getElem?_eq_getElem h]
    show ls.length - 1 + 1 = ls.length
    omega
  · rfl
theorem touch_mem {l : α} (h : l ∈ touchL lt ls i) : l ∈ ls := by
  unfold touchL at h
  split at h
  · rcases List.mem_append.mp h with h | h
    · exact List.mem_of_mem_eraseIdx h
    · cases e : ls[i]? with
      | none =>
        rw [e] at h
        cases h
      | some x =>
        rw [e] at h
        have : l = x := by simpa using h
        rw [this]
        exact List.mem_of_getElem? e
  · exact h
theorem touchI_lt (h : i < ls.length) : touchI lt ls i < ls.length := by
  unfold touchI
  split <;> omega
theorem touch_get (h : i < ls.length) : (touchL lt ls i)[touchI lt ls i]? = ls[i]? := by
  unfold touchL touchI
  split
  · rw [List.getElem?_append_right (by rw [List.length_eraseIdx_of_lt h]; omega), List.length_eraseIdx_of_lt h, List.getElem?_eq_getElem h, Nat.sub_self]
    rfl
  · rfl
theorem touch_map {β : Type} (f : α → β) (lt : Bool) (ls : List α) (i : Nat) : touchL lt (ls.map f) i = (touchL lt ls i).map f := by
  unfold touchL
  split
  · rw [erase_map, List.map_append, List.getElem?_map]
    cases ls[i]? <;> rfl
  · rfl
theorem touchI_map {β : Type} (f : α → β) (lt : Bool) (ls : List α) (i : Nat) : touchI lt (ls.map f) i = touchI lt ls i := by
  unfold touchI
  rw [List.length_map]
end
theorem lnAt_get {ls : List Ln} {i : Nat} {l : Ln} (h : ls[i]? = some l) : lnAt ls i = l := by
  unfold lnAt
  rw [List.getD_eq_getElem?_getD, h]
  rfl
structure OpsOk (n g : Nat) (o : Ops) : Prop where
  hm : ∀ t b ns, TaOk n t → b < 16 → ns.length = 4 → TaOk n (o.hm t b ns) ∧ (o.hm t b ns).log.length ≤ t.log.length + g
  br : ∀ t b, TaOk n t → b < 16 → (o.br t b).1.length = 4 ∧ TaOk n (o.br t b).2 ∧ (o.br t b).2.log.length ≤ t.log.length + g
  ch : ∀ t p v, TaOk n t → p < 64 → TaOk n (o.ch t p v) ∧ (o.ch t p v).log.length ≤ t.log.length + g
theorem note_ok {n : Nat} {t : Ta} (h : TaOk n t) (tl : List V) (w : Str) (k : Nat) : TaOk n (t.note tl w k) := ⟨h.len, h.rs, h.far⟩
theorem note_len (t : Ta) (tl : List V) (w : Str) (k : Nat) : (t.note tl w k).log.length = t.log.length + 1 := by simp [Ta.note]
section
variable {n g : Nat} {o : Ops} {u : Ru} {ls : List Ln} {t : Ta} {b : Nat} {tl : List V}
theorem passH_ok (O : OpsOk n g o) (h : TaOk n t) (hb : b < 16) {ns : List Int} (hn : ns.length = 4) : TaOk n (passH o tl t b ns) ∧ (passH o tl t b ns).log.length ≤ t.log.length + g + 1 := by
  obtain ⟨h1, h2⟩ := O.hm _ b ns (note_ok h tl "home" b) hb hn
  rw [note_len] at h2
  exact ⟨h1, by unfold passH; omega⟩
theorem passC_ok (O : OpsOk n g o) (h : TaOk n t) {p : Nat} (hp : p < 64) {v : Int} : TaOk n (passC o tl t p v) ∧ (passC o tl t p v).log.length ≤ t.log.length + g + 1 := by
  obtain ⟨h1, h2⟩ := O.ch _ p v (note_ok h tl "cell" p) hp
  rw [note_len] at h2
  exact ⟨h1, by unfold passC; omega⟩
/-- behind make_way there is room -/
theorem mkWay_ok (O : OpsOk n g o) (hu : RuOk u) (hl : LsOk u ls) (h : TaOk n t) :
    LsOk u (mkWay o u ls t).1 ∧ TaOk n (mkWay o u ls t).2 ∧ (mkWay o u ls t).1.length < u.ways ∧ (mkWay o u ls t).2.log.length ≤ t.log.length + g + 1 := by
  have hlen := hl.len
  have h0 := hu.w0
  unfold mkWay
  split
  · rename_i e
    split
    · simp at e
      omega
    · rename_i l rest
      have hlen2 : rest.length + 1 = u.ways := by simpa using e
      have hlo := hl.ok l List.mem_cons_self
      refine ⟨⟨by show rest.length ≤ _; omega, fun l' hm => hl.ok l' (List.mem_cons_of_mem _ hm)⟩, ?_, by show rest.length < _; omega, ?_⟩
      · show TaOk n (if l.d = true then _ else t)
        split
        · exact (passH_ok O h hlo.b hlo.ns).1
        · exact h
      · show (if l.d = true then _ else t).log.length ≤ _
        split
        · exact (passH_ok O h hlo.b hlo.ns).2
        · omega
  · rename_i e
    exact ⟨hl, h, by show ls.length < u.ways; omega, by show t.log.length ≤ _; omega⟩
theorem reachL_ok (O : OpsOk n g o) (hu : RuOk u) (hl : LsOk u ls) (h : TaOk n t) (hb : b < 16) :
    LsOk u (reachL o u ls t b).1 ∧ TaOk n (reachL o u ls t b).2.1 ∧ (∃ l, (reachL o u ls t b).1[(reachL o u ls t b).2.2]? = some l ∧ l.b = b ∧ LnOk l) ∧ (reachL o u ls t b).2.1.log.length ≤ t.log.length + 2 * g + 2 := by
  unfold reachL
  split
  · rename_i i e
    obtain ⟨l, hlg, hlb, _⟩ := fnd_some e
    have hi := fnd_lt e
    exact ⟨⟨by show (touchL u.lt ls i).length ≤ _; rw [touch_len hi]; exact hl.len, fun l' hm => hl.ok l' (touch_mem hm)⟩, h, ⟨l, (touch_get hi).trans hlg, hlb, hl.ok l (List.mem_of_getElem? hlg)⟩, by show t.log.length ≤ _; omega⟩
  · rename_i e
    obtain ⟨m1, m2, m3, m4⟩ := mkWay_ok O hu hl h
    obtain ⟨b1, b2, b3⟩ := O.br _ b (note_ok m2 u.tl "bring" b) hb
    rw [note_len] at b3
    refine ⟨⟨by show ((mkWay o u ls t).1 ++ [_]).length ≤ _; rw [List.length_append, List.length_singleton]; omega, fun l' hm => ?_⟩, b2, ⟨⟨b, (o.br ((mkWay o u ls t).2.note u.tl "bring" b) b).1, false⟩, ?_, rfl, ⟨hb, b1⟩⟩, by show (o.br _ b).2.log.length ≤ _; omega⟩
    · rcases List.mem_append.mp hm with hm | hm
      · exact m1.ok l' hm
      · rw [List.mem_singleton.mp hm]
        exact ⟨hb, b1⟩
    · show ((mkWay o u ls t).1 ++ [_])[(mkWay o u ls t).1.length]? = some _
      rw [List.getElem?_append_right (Nat.le_refl _), Nat.sub_self]
      rfl
theorem set_ok (hl : LsOk u ls) {i : Nat} {l : Ln} (hlo : LnOk l) : LsOk u (ls.set i l) := ⟨by rw [List.length_set]; exact hl.len, fun l' hm => by
  rcases List.mem_or_eq_of_mem_set hm with hm | e
  · exact hl.ok l' hm
  · rw [e]
    exact hlo⟩
theorem app_ok {u : Ru} {ls : List Ln} (hl : LsOk u ls) (hs : ls.length < u.ways) {l : Ln} (hlo : LnOk l) : LsOk u (ls ++ [l]) := ⟨by rw [List.length_append, List.length_singleton]; omega, fun l' hm => by
  rcases List.mem_append.mp hm with hm | hm
  · exact hl.ok l' hm
  · rw [List.mem_singleton.mp hm]
    exact hlo⟩
theorem bringL_ok (O : OpsOk n g o) (hu : RuOk u) (hl : LsOk u ls) (h : TaOk n t) (hb : b < 16) :
    (bringL o u ls t b).1.length = 4 ∧ LsOk u (bringL o u ls t b).2.1 ∧ TaOk n (bringL o u ls t b).2.2 ∧ (bringL o u ls t b).2.2.log.length ≤ t.log.length + 2 * g + 2 := by
  obtain ⟨h1, h2, ⟨l, hlg, _, hlo⟩, h4⟩ := reachL_ok O hu hl h hb
  refine ⟨?_, h1, h2, h4⟩
  show (lnAt _ _).ns.length = 4
  rw [lnAt_get hlg]
  exact hlo.ns
theorem lookL_ok (O : OpsOk n g o) (hu : RuOk u) (hl : LsOk u ls) (h : TaOk n t) {p : Nat} (hp : p < 64) :
    LsOk u (lookL o u ls t p).2.1 ∧ TaOk n (lookL o u ls t p).2.2 ∧ (lookL o u ls t p).2.2.log.length ≤ t.log.length + 2 * g + 2 := by
  obtain ⟨h1, h2, _, h4⟩ := reachL_ok O hu hl h (show p / 4 < 16 by omega)
  exact ⟨h1, h2, h4⟩
theorem changeL_ok (O : OpsOk n g o) (hu : RuOk u) (hl : LsOk u ls) (h : TaOk n t) {p : Nat} (hp : p < 64) {v : Int} :
    LsOk u (changeL o u ls t p v).1 ∧ TaOk n (changeL o u ls t p v).2 ∧ (changeL o u ls t p v).2.log.length ≤ t.log.length + 3 * g + 3 := by
  unfold changeL
  split
  · obtain ⟨c1, c2⟩ := passC_ok (tl := u.tl) (v := v) O h hp
    exact ⟨hl, c1, by show (passC o u.tl t p v).log.length ≤ _; omega⟩
  · obtain ⟨h1, h2, ⟨l, hlg, hlb, hlo⟩, h4⟩ := reachL_ok O hu hl h (show p / 4 < 16 by omega)
    refine ⟨set_ok h1 (by
      rw [lnAt_get hlg]
      exact ⟨hlo.b, by show (l.ns.set _ _).length = 4; rw [List.length_set]; exact hlo.ns⟩), ?_⟩
    obtain ⟨c1, c2⟩ := passC_ok (tl := u.tl) (v := v) O h2 hp
    dsimp only
    split
    · exact ⟨h2, by omega⟩
    · exact ⟨c1, by omega⟩
theorem homeL_ok (O : OpsOk n g o) (hu : RuOk u) (hl : LsOk u ls) (h : TaOk n t) (hb : b < 16) {ns : List Int} (hn : ns.length = 4) :
    LsOk u (homeL o u ls t b ns).1 ∧ TaOk n (homeL o u ls t b ns).2 ∧ (homeL o u ls t b ns).2.log.length ≤ t.log.length + 2 * g + 2 := by
  unfold homeL
  split
  · split
    · obtain ⟨m1, m2, m3, m4⟩ := mkWay_ok O hu hl h
      refine ⟨app_ok m1 m3 ⟨hb, hn⟩, ?_⟩
      obtain ⟨c1, c2⟩ := passH_ok (tl := u.tl) O m2 hb hn
      dsimp only
      split
      · exact ⟨m2, by omega⟩
      · exact ⟨c1, by omega⟩
    · obtain ⟨c1, c2⟩ := passH_ok (tl := u.tl) O h hb hn
      exact ⟨hl, c1, by show (passH o u.tl t b ns).log.length ≤ _; omega⟩
  · rename_i i e
    have hi := fnd_lt e
    refine ⟨set_ok ⟨by rw [touch_len hi]; exact hl.len, fun l' hm => hl.ok l' (touch_mem hm)⟩ ⟨hb, hn⟩, ?_⟩
    obtain ⟨c1, c2⟩ := passH_ok (tl := u.tl) O h hb hn
    dsimp only
    split
    · exact ⟨h, by omega⟩
    · exact ⟨c1, by omega⟩
theorem yieldL_ok (O : OpsOk n g o) (hl : LsOk u ls) (h : TaOk n t) (hb : b < 16) {gone : Bool} :
    LsOk u (yieldL o u ls t b gone).1 ∧ TaOk n (yieldL o u ls t b gone).2 ∧ (yieldL o u ls t b gone).2.log.length ≤ t.log.length + g + 1 := by
  unfold yieldL
  split
  · exact ⟨hl, h, by show t.log.length ≤ _; omega⟩
  · rename_i i e
    obtain ⟨l, hlg, hlb, _⟩ := fnd_some e
    have hlo := hl.ok l (List.mem_of_getElem? hlg)
    obtain ⟨c1, c2⟩ := passH_ok (tl := u.tl) O h hb hlo.ns
    rw [lnAt_get hlg]
    refine ⟨?_, ?_⟩
    · dsimp only
      split
      · exact ⟨Nat.le_trans (List.length_eraseIdx_le ..) hl.len, fun l' hm => hl.ok l' (List.mem_of_mem_eraseIdx hm)⟩
      · exact set_ok hl ⟨hlo.b, hlo.ns⟩
    · dsimp only
      split
      · exact ⟨c1, c2⟩
      · exact ⟨h, by omega⟩
theorem settleL_ok (O : OpsOk n g o) : ∀ {ls : List Ln} {t : Ta}, (∀ l ∈ ls, LnOk l) → TaOk n t →
    (∀ l ∈ (settleL o u ls t).1, LnOk l) ∧ (settleL o u ls t).1.length = ls.length ∧ TaOk n (settleL o u ls t).2 ∧ (settleL o u ls t).2.log.length ≤ t.log.length + ls.length * (g + 1)
  | [], t, _, h => ⟨(fun _ hm => nomatch (show _ ∈ ([] : List Ln) from hm)), rfl, h, (by show t.log.length ≤ _; omega)⟩
  | l :: r, t, hl, h => by
    have hlo := hl l List.mem_cons_self
    obtain ⟨c1, c2⟩ := passH_ok (tl := u.tl) O h hlo.b hlo.ns
    have h1 : TaOk n (if l.d = true then passH o u.tl t l.b l.ns else t) ∧ (if l.d = true then passH o u.tl t l.b l.ns else t).log.length ≤ t.log.length + g + 1 := by
      split
      · exact ⟨c1, c2⟩
      · exact ⟨h, by omega⟩
    obtain ⟨i1, i2, i3, i4⟩ := settleL_ok O (ls := r) (fun l' hm => hl l' (List.mem_cons_of_mem _ hm)) h1.1
    refine ⟨fun l' hm => ?_, by show (settleL o u r _).1.length + 1 = _; rw [i2]; rfl, i3, ?_⟩
    · rcases List.mem_cons.mp hm with e | hm
      · rw [e]
        exact ⟨hlo.b, hlo.ns⟩
      · exact i1 l' hm
    · have e : (l :: r).length * (g + 1) = r.length * (g + 1) + (g + 1) := by rw [List.length_cons, Nat.succ_mul]
      rw [e]
      have h2 := h1.2
      show (settleL o u r _).2.log.length ≤ _
      omega
end
theorem setBlk_len {far : List Int} (h : far.length = 64) {b : Nat} (hb : b < 16) {ns : List Int} (hn : ns.length = 4) : (setBlk far b ns).length = 64 := by
  unfold setBlk
  simp only [List.length_append, List.length_take, List.length_drop]
  omega
theorem getBlk_len {far : List Int} (h : far.length = 64) {b : Nat} (hb : b < 16) : (getBlk far b).length = 4 := by
  unfold getBlk
  simp only [List.length_take, List.length_drop]
  omega
def gOf : Nat → Nat
  | 0 => 0
  | n + 1 => 3 * gOf n + 3
theorem cons_ok {n : Nat} {r : Rm} {t : Ta} (hr : RmOk r) (h : TaOk n t) : TaOk (n + 1) (Ta.cons r t) := ⟨by show t.rs.length + 1 = n + 1; rw [h.len], fun r' hm => by
  rcases List.mem_cons.mp hm with e | hm
  · rw [e]
    exact hr
  · exact h.rs r' hm, h.far⟩
theorem TaOk.uncons {n : Nat} {t : Ta} (h : TaOk (n + 1) t) : ∃ r rs, t.rs = r :: rs ∧ RmOk r ∧ TaOk n { t with rs := rs } := by
  have hl := h.len
  cases e : t.rs with
  | nil =>
    rw [e] at hl
    cases hl
  | cons r rs =>
    rw [e] at hl
    have hrs := h.rs
    rw [e] at hrs
    exact ⟨r, rs, rfl, hrs r List.mem_cons_self, ⟨by simpa using hl, fun r' hm => hrs r' (List.mem_cons_of_mem _ hm), h.far⟩⟩
theorem ops_ok : ∀ n, OpsOk n (gOf n) (ops n)
  | 0 => {
    hm := fun t b ns h hb hn => ⟨⟨h.len, h.rs, setBlk_len h.far hb hn⟩, Nat.le_refl _⟩
    br := fun t b h hb => ⟨getBlk_len h.far hb, h, Nat.le_refl _⟩
    ch := fun t p v h hp => ⟨⟨h.len, h.rs, by show (t.far.set p v).length = 64; rw [List.length_set]; exact h.far⟩, Nat.le_refl _⟩ }
  | n + 1 => {
    hm := fun t b ns h hb hn => by
      obtain ⟨r, rs, e, hr, ht⟩ := h.uncons
      obtain ⟨h1, h2, h3⟩ := homeL_ok (ops_ok n) hr.ru (hr.ls b) ht hb hn
      unfold ops
      dsimp only
      rw [e]
      exact ⟨cons_ok (put_ok hr h1) h2, Nat.le_trans h3 (by show t.log.length + 2 * gOf n + 2 ≤ t.log.length + (3 * gOf n + 3); omega)⟩
    br := fun t b h hb => by
      obtain ⟨r, rs, e, hr, ht⟩ := h.uncons
      obtain ⟨h0, h1, h2, h3⟩ := bringL_ok (ops_ok n) hr.ru (hr.ls b) ht hb
      unfold ops
      dsimp only
      rw [e]
      exact ⟨h0, cons_ok (put_ok hr h1) h2, Nat.le_trans h3 (by show t.log.length + 2 * gOf n + 2 ≤ t.log.length + (3 * gOf n + 3); omega)⟩
    ch := fun t p v h hp => by
      obtain ⟨r, rs, e, hr, ht⟩ := h.uncons
      obtain ⟨h1, h2, h3⟩ := changeL_ok (v := v) (ops_ok n) hr.ru (hr.ls (p / 4)) ht hp
      unfold ops
      dsimp only
      rw [e]
      exact ⟨cons_ok (put_ok hr h1) h2, Nat.le_trans h3 (by show t.log.length + 3 * gOf n + 3 ≤ t.log.length + (3 * gOf n + 3); omega)⟩ }
theorem gOf_le {n : Nat} (h : n ≤ 3) : gOf n ≤ 39 := by
  match n, h with
  | 0, _ => decide
  | 1, _ => decide
  | 2, _ => decide
  | 3, _ => decide
-- WwA
/-! ### words for the walk -/
section
variable {P : Program} {w : World} {K : PySem.W.Frag} {mg : Str → Option Value} {base : Heap}
end
abbrev cF (K : PySem.W.Frag) : Addr := He.ga K "Far"
abbrev cL (K : PySem.W.Frag) : Addr := He.ga K "Line"
abbrev cR (K : PySem.W.Frag) : Addr := He.ga K "Room"
abbrev cH (K : PySem.W.Frag) : Addr := He.ga K "Hall"
abbrev RepK (K : PySem.W.Frag) (di : Addr) := Rep (cF K) (cL K) (cR K) di
abbrev RmRepK (K : PySem.W.Frag) (di : Addr) := RmRep (cL K) (cR K) di
def SqO (o : HO) (xs : List V) : Prop := o = .lst xs ∨ o = .tup xs
theorem SqO.seq {K : PySem.W.Frag} {H : Hp} {a : Addr} {o : HO} {xs : List V} (s : SqO o xs) (h : H a = some o) : SqL K H a xs ∨ SqT K H a xs := by
  rcases s with e | e
  · rw [e] at h
    exact .inl (SqL.of h)
  · rw [e] at h
    exact .inr (SqT.of h)
/-- room in the log -/
def LB (n : Nat) (t : Ta) : Prop := n ≤ 3 ∧ t.log.length + 200 * (n + 1) ≤ 1000000
theorem size2 {n : Nat} (h : n ≤ 1000000) : n ≤ sizeLine := Nat.le_of_lt (size1 h)
theorem cutV_nat {xs : List V} {i j : Nat} (hij : i ≤ j) (hj : j ≤ xs.length) : cutV xs (some (i : Int)) (some (j : Int)) = (xs.drop i).take (j - i) := by
  unfold cutV
  rw [HT.sIx_nat, HT.sIx_nat, Nat.min_eq_left (Nat.le_trans hij hj), Nat.min_eq_left hj]
/-! ### promises: the far room, what stands behind -/
def spFarInit (K : PySem.W.Frag) : Sp := fun vs H Q _ => ∃ (x dx : Addr) (R : List Cell), vs = [.ref x] ∧ Own H ((x, .ins (cF K) dx []) :: R) ∧
  ∀ (fl : Addr) (H' : Hp), Own H' ((x, .ins (cF K) dx (fFar (.ref fl))) :: (fl, .lst ((List.replicate 64 (0 : Int)).map V.int)) :: R) → Q .non H'
def spBring (K : PySem.W.Frag) (n : Nat) : Sp := fun vs H Q _ => ∃ (be : Pa) (di : Addr) (b : Nat) (t : Ta) (C D R : List Cell), vs = [.ref be.ad, .int b] ∧ b < 16 ∧ TaOk n t ∧ LB n t ∧ RepK K di be t.rs t.far C ∧ DRep di t.log D ∧ Own H (C ++ (D ++ R)) ∧
  ∀ (p : Addr) (H' : Hp) (C' D' : List Cell), RepK K di be ((ops n).br t b).2.rs ((ops n).br t b).2.far C' → DRep di ((ops n).br t b).2.log D' → Own H' ((p, .tup (((ops n).br t b).1.map V.int)) :: (C' ++ (D' ++ R))) → Q (.ref p) H'
def spHome (K : PySem.W.Frag) (n : Nat) : Sp := fun vs H Q _ => ∃ (be : Pa) (di na : Addr) (no : HO) (b : Nat) (ns : List Int) (t : Ta) (C D R : List Cell), vs = [.ref be.ad, .int b, .ref na] ∧ b < 16 ∧ ns.length = 4 ∧ SqO no (ns.map V.int) ∧ TaOk n t ∧ LB n t ∧ RepK K di be t.rs t.far C ∧ DRep di t.log D ∧ Own H ((na, no) :: (C ++ (D ++ R))) ∧
  ∀ (H' : Hp) (C' D' : List Cell), RepK K di be ((ops n).hm t b ns).rs ((ops n).hm t b ns).far C' → DRep di ((ops n).hm t b ns).log D' → Own H' ((na, no) :: (C' ++ (D' ++ R))) → Q .non H'
def spChange (K : PySem.W.Frag) (n : Nat) : Sp := fun vs H Q _ => ∃ (be : Pa) (di : Addr) (p : Nat) (v : Int) (t : Ta) (C D R : List Cell), vs = [.ref be.ad, .int p, .int v] ∧ p < 64 ∧ TaOk n t ∧ LB n t ∧ RepK K di be t.rs t.far C ∧ DRep di t.log D ∧ Own H (C ++ (D ++ R)) ∧
  ∀ (H' : Hp) (C' D' : List Cell), RepK K di be ((ops n).ch t p v).rs ((ops n).ch t p v).far C' → DRep di ((ops n).ch t p v).log D' → Own H' (C' ++ (D' ++ R)) → Q .non H'
section
variable {P : Program} {w : World} {K : PySem.W.Frag} {mg : Str → Option Value} {base : Heap}
theorem ok_Far_init (T : Txt K mg) : FnOk P w K mg base CX0 1 (He.fAd K ("Far", some "__init__")) T.fd_Far___init__ ["self"] (spFarInit K) := by
  refine okOf T.F_Far___init__ sc_Far___init__ (fun vs H Q E h => ?_) (fun cdv A outer s H vs Q E hr h => ?_)
  · obtain ⟨x, dx, R, rfl, _⟩ := h
    rfl
  · obtain ⟨x, dx, R, rfl, O, k⟩ := h
    refine ⟨_, (pss_one (ps_fld (pv 0) (pe_op op_rep (pe_lst (pa_cons pe_int pa_nil)) (pe_globI rfl T.g_CELLS)) rfl)), ?_⟩
    refine ⟨by show 1 ≤ sizeLine; decide, fun p hp => ?_⟩
    have O1 := O.new (o := .lst [.int 0]) hp
    refine ⟨p, 64, [.int 0], rfl, rfl, O1.a0, by decide, by decide, by show 1 * 64 ≤ sizeLine; decide, fun q hq => ?_⟩
    have O2 := (O1.tail).new (o := .lst (List.replicate (64 : Int).toNat [V.int 0]).flatten) hq
    refine ⟨_, rfl, x, cF K, dx, [], rfl, O2.a1, T.cl_Far, T.na_Far_held, by show 0 < 1000; decide, ?_⟩
    have e : (List.replicate (64 : Int).toNat [V.int 0]).flatten = (List.replicate 64 (0 : Int)).map V.int := by decide
    rw [e] at O2 ⊢
    have O3 := (O2.perm (L' := (x, .ins (cF K) dx []) :: (q, .lst ((List.replicate 64 (0 : Int)).map V.int)) :: R) (by walk_at "perm")).set (o' := .ins (cF K) dx (putF "held" (.ref q) []))
    exact k q _ O3
theorem mul4 {b : Nat} (h : b < 64) : CMul (b : Int) 4 := .inr ⟨by decide, by decide⟩
theorem ok_Far_bring (T : Txt K mg) : FnOk P w K mg base CX0 1 (He.fAd K ("Far", some "bring")) T.fd_Far_bring ["self", "block"] (spBring K 0) := by
  refine okOf T.F_Far_bring sc_Far_bring (fun vs H Q E h => ?_) (fun cdv A outer s H vs Q E hr h => ?_)
  · obtain ⟨_, _, _, _, _, _, _, rfl, _⟩ := h
    rfl
  · obtain ⟨be, di, b, t, C, D, R, rfl, hb, ht, hlb, hC, hD, O, k⟩ := h
    have ers : t.rs = [] := List.length_eq_zero_iff.mp ht.len
    have hC0 := hC
    rw [ers] at hC
    obtain ⟨la, rfl⟩ : ∃ la, be = .far la := by
      cases be with
      | far la => exact ⟨la, rfl⟩
      | room a be => exact hC.elim
    obtain ⟨dx, fl, rfl⟩ := hC
    refine ⟨_, (pss_one (ps_ret (pe_callTy call_tuple_of (by rfl) T.n_tuple (by decide +kernel) (pa_cons (pe_slice sl_list (pe_fld (pv 0) rfl) (po_some (pe_op op_mul (pv 1) (pe_globI rfl T.g_BLOCK))) (po_some (pe_op op_add (pe_op op_mul (pv 1) (pe_globI rfl T.g_BLOCK)) (pe_globI rfl T.g_BLOCK)))) pa_nil)))), ?_⟩
    refine ⟨_, rfl, la, cF K, dx, _, _, rfl, O.a0, T.cl_Far, T.na_Far_held, lk_Far_held, _, rfl, _, _, rfl, rfl, .inr ⟨by decide, by decide⟩, _, rfl, _, rfl, _, _, rfl, rfl, .inr ⟨by decide, by decide⟩, _, _, rfl, rfl, _, rfl, fl, _, rfl, SqL.of O.a1, fun p hp => ?_⟩
    have O1 := O.new (o := .lst (cutV (t.far.map V.int) (some ((b : Int) * 4)) (some ((b : Int) * 4 + 4)))) hp
    refine ⟨p, _, rfl, .inl ⟨SqL.of O1.a0, fun q hq => ?_⟩⟩
    have O2 := O1.tail.new (o := .tup (cutV (t.far.map V.int) (some ((b : Int) * 4)) (some ((b : Int) * 4 + 4)))) hq
    have e : cutV (t.far.map V.int) (some ((b : Int) * 4)) (some ((b : Int) * 4 + 4)) = (getBlk t.far b).map V.int := by
      have e1 : (b : Int) * 4 = ((b * 4 : Nat) : Int) := by omega
      have e2 : (b : Int) * 4 + 4 = ((b * 4 + 4 : Nat) : Int) := by omega
      have hf := ht.far
      rw [e2, e1, cutV_nat (by omega) (by rw [List.length_map]; omega)]
      unfold getBlk
      rw [List.map_take, List.map_drop, Nat.add_sub_cancel_left]
    rw [e] at O2 ⊢
    exact k q _ _ _ hC0 hD O2
theorem ok_Far_change (T : Txt K mg) : FnOk P w K mg base CX0 1 (He.fAd K ("Far", some "change")) T.fd_Far_change ["self", "place", "number"] (spChange K 0) := by
  refine okOf T.F_Far_change sc_Far_change (fun vs H Q E h => ?_) (fun cdv A outer s H vs Q E hr h => ?_)
  · obtain ⟨_, _, _, _, _, _, _, _, rfl, _⟩ := h
    rfl
  · obtain ⟨be, di, p, v, t, C, D, R, rfl, hp, ht, hlb, hC, hD, O, k⟩ := h
    have ers : t.rs = [] := List.length_eq_zero_iff.mp ht.len
    rw [ers] at hC
    obtain ⟨la, rfl⟩ : ∃ la, be = .far la := by
      cases be with
      | far la => exact ⟨la, rfl⟩
      | room a be => exact hC.elim
    obtain ⟨dx, fl, rfl⟩ := hC
    refine ⟨_, (pss_one (ps_asg (pv 2) (pg_sub (pe_fld (pv 0) rfl) (pv 1) set_list))), ?_⟩
    have hf := ht.far
    refine ⟨_, rfl, _, rfl, la, cF K, dx, _, _, rfl, O.a0, T.cl_Far, T.na_Far_held, lk_Far_held, _, rfl, fl, _, _, p, rfl, rfl, O.a1, ?_, ?_⟩
    · rw [List.length_map, hf]
      unfold ixN
      rw [if_pos (by omega), if_pos (by omega), Int.toNat_natCast]
    · have O1 := (O.perm (L' := (fl, .lst (t.far.map V.int)) :: (la, .ins (cF K) dx (fFar (.ref fl))) :: (D ++ R)) (by walk_at "perm")).set (o' := .lst ((t.far.map V.int).set p (.int v)))
      refine k _ [(la, .ins (cF K) dx (fFar (.ref fl))), (fl, .lst ((t.far.set p v).map V.int))] D ?_ hD (O1.perm ?_)
      · show RepK K di (.far la) t.rs (t.far.set p v) _
        rw [ers]
        exact ⟨dx, fl, rfl⟩
      · rw [List.map_set]
        walk_at "perm"
theorem ok_Far_home (T : Txt K mg) : FnOk P w K mg base CX0 1 (He.fAd K ("Far", some "home")) T.fd_Far_home ["self", "block", "numbers"] (spHome K 0) := by
  refine okOf T.F_Far_home sc_Far_home (fun vs H Q E h => ?_) (fun cdv A outer s H vs Q E hr h => ?_)
  · obtain ⟨_, _, _, _, _, _, _, _, _, _, rfl, _⟩ := h
    rfl
  · obtain ⟨be, di, na, no, b, ns, t, C, D, R, rfl, hb, hn, hno, ht, hlb, hC, hD, O, k⟩ := h
    have ers : t.rs = [] := List.length_eq_zero_iff.mp ht.len
    rw [ers] at hC
    obtain ⟨la, rfl⟩ : ∃ la, be = .far la := by
      cases be with
      | far la => exact ⟨la, rfl⟩
      | room a be => exact hC.elim
    obtain ⟨dx, fl, rfl⟩ := hC
    have hf := ht.far
    refine ⟨_, (pss_one (ps_asg (pe_callTy call_list_of (by rfl) T.n_list (by decide +kernel) (pa_cons (pv 2) pa_nil)) (pg_slice (pe_fld (pv 0) rfl) (po_some (pe_op op_mul (pv 1) (pe_globI rfl T.g_BLOCK))) (po_some (pe_op op_add (pe_op op_mul (pv 1) (pe_globI rfl T.g_BLOCK)) (pe_globI rfl T.g_BLOCK)))))), ?_⟩
    refine ⟨_, rfl, na, _, rfl, hno.seq O.a0, fun q hq => ?_⟩
    have O1 := O.new (o := .lst (ns.map V.int)) hq
    refine ⟨_, rfl, la, cF K, dx, _, _, rfl, O1.a2, T.cl_Far, T.na_Far_held, lk_Far_held, _, rfl, _, _, rfl, rfl, .inr ⟨by decide, by decide⟩, _, rfl, _, rfl, _, _, rfl, rfl, .inr ⟨by decide, by decide⟩, _, _, rfl, rfl, _, rfl, fl, q, _, _, _, _, rfl, rfl, rfl, rfl, O1.a3, O1.a0, ?_, by omega, by omega, ?_, ?_, ?_⟩
    · have nd := O1.1
      simp only [List.map_cons, List.nodup_cons, List.mem_cons, not_or, List.cons_append, List.nil_append] at nd
      exact fun z => nd.1.2.2.1 z.symm
    · rw [List.length_map, hf]
      omega
    · rw [List.length_map, List.length_map, hf, hn]
      decide
    · have e1 : ((b : Int) * 4).toNat = b * 4 := by omega
      have e2 : ((b : Int) * 4 + 4).toNat = b * 4 + 4 := by omega
      rw [e1, e2]
      have O2 := (O1.perm (L' := (fl, .lst (t.far.map V.int)) :: (na, no) :: (la, .ins (cF K) dx (fFar (.ref fl))) :: (q, .lst (ns.map V.int)) :: (D ++ R)) (by walk_at "perm")).set (o' := .lst ((t.far.map V.int).take (b * 4) ++ ns.map V.int ++ (t.far.map V.int).drop (b * 4 + 4)))
      refine k _ [(la, .ins (cF K) dx (fFar (.ref fl))), (fl, .lst ((setBlk t.far b ns).map V.int))] D ?_ hD ?_
      · show RepK K di (.far la) t.rs (setBlk t.far b ns) _
        rw [ers]
        exact ⟨dx, fl, rfl⟩
      · have e3 : (t.far.map V.int).take (b * 4) ++ ns.map V.int ++ (t.far.map V.int).drop (b * 4 + 4) = (setBlk t.far b ns).map V.int := by
          unfold setBlk
          rw [List.map_append, List.map_append, List.map_take, List.map_drop]
        rw [e3] at O2 ⊢
        refine (O2.perm (L' := (q, .lst (ns.map V.int)) :: ((na, no) :: ([(la, .ins (cF K) dx (fFar (.ref fl))), (fl, .lst ((setBlk t.far b ns).map V.int))] ++ (D ++ R)))) ?_).tail
        walk_at "perm"
end
-- WwB
/-! ### cells of lines, sets, logs -/
theorem lns_mem {CL : Addr} : ∀ {ls : List LnA} {i : Nat} {l : LnA}, ls[i]? = some l → ∀ c ∈ lnC CL l, c ∈ lnsC CL ls
  | [], i, l, h, c, hc => by simp at h
  | a :: r, 0, l, h, c, hc => by
    have e : a = l := by simpa using h
    rw [e]
    exact List.mem_append_left _ hc
  | a :: r, i + 1, l, h, c, hc => List.mem_append_right _ (lns_mem (by simpa using h) c hc)
theorem lns_app (CL : Addr) : ∀ (ls r : List LnA), lnsC CL (ls ++ r) = lnsC CL ls ++ lnsC CL r
  | [], r => rfl
  | a :: ls, r => by
    show lnC CL a ++ lnsC CL (ls ++ r) = (lnC CL a ++ lnsC CL ls) ++ lnsC CL r
    rw [lns_app CL ls r, List.append_assoc]
theorem lns_focus {CL : Addr} : ∀ {ls : List LnA} {i : Nat} {l : LnA}, ls[i]? = some l → (lnsC CL ls).Perm (lnC CL l ++ lnsC CL (ls.eraseIdx i))
  | [], i, l, h => by simp at h
  | a :: r, 0, l, h => by
    have e : a = l := by simpa using h
    rw [e]
    exact List.Perm.refl _
  | a :: r, i + 1, l, h => by
    have ih := lns_focus (CL := CL) (ls := r) (i := i) (l := l) (by simpa using h)
    show (lnC CL a ++ lnsC CL r).Perm (lnC CL l ++ (lnC CL a ++ lnsC CL (r.eraseIdx i)))
    refine (List.Perm.append_left _ ih).trans ?_
    walk_at "perm"
theorem lns_set {CL : Addr} : ∀ {ls : List LnA} {i : Nat} {l : LnA}, i < ls.length → (lnsC CL (ls.set i l)).Perm (lnC CL l ++ lnsC CL (ls.eraseIdx i))
  | [], i, l, h => by simp at h
  | a :: r, 0, l, h => List.Perm.refl _
  | a :: r, i + 1, l, h => by
    have ih := lns_set (CL := CL) (ls := r) (i := i) (l := l) (by simpa using h)
    show (lnC CL a ++ lnsC CL (r.set i l)).Perm (lnC CL l ++ (lnC CL a ++ lnsC CL (r.eraseIdx i)))
    refine (List.Perm.append_left _ ih).trans ?_
    walk_at "perm"
theorem lns_touch {CL : Addr} {lt : Bool} {ls : List LnA} {i : Nat} (h : i < ls.length) : (lnsC CL (touchL lt ls i)).Perm (lnsC CL ls) := by
  unfold touchL
  split
  · rw [lns_app, List.getElem?_eq_getElem h]
    refine List.Perm.trans ?_ (lns_focus (List.getElem?_eq_getElem h)).symm
    show (lnsC CL (ls.eraseIdx i) ++ (lnC CL ls[i] ++ [])).Perm _
    walk_at "perm"
  · exact List.Perm.refl _
theorem sts_focus {CL : Addr} : ∀ {ss : List (Addr × List LnA)} {i : Nat} {s : Addr × List LnA}, ss[i]? = some s → (stsC CL ss).Perm (stC CL s ++ stsC CL (ss.eraseIdx i))
  | [], i, s, h => by simp at h
  | a :: r, 0, s, h => by
    have e : a = s := by simpa using h
    rw [e]
    exact List.Perm.refl _
  | a :: r, i + 1, s, h => by
    have ih := sts_focus (CL := CL) (ss := r) (i := i) (s := s) (by simpa using h)
    show (stC CL a ++ stsC CL r).Perm (stC CL s ++ (stC CL a ++ stsC CL (r.eraseIdx i)))
    refine (List.Perm.append_left _ ih).trans ?_
    walk_at "perm"
theorem sts_set {CL : Addr} : ∀ {ss : List (Addr × List LnA)} {i : Nat} {s : Addr × List LnA}, i < ss.length → (stsC CL (ss.set i s)).Perm (stC CL s ++ stsC CL (ss.eraseIdx i))
  | [], i, s, h => by simp at h
  | a :: r, 0, s, h => List.Perm.refl _
  | a :: r, i + 1, s, h => by
    have ih := sts_set (CL := CL) (ss := r) (i := i) (s := s) (by simpa using h)
    show (stC CL a ++ stsC CL (r.set i s)).Perm (stC CL s ++ (stC CL a ++ stsC CL (r.eraseIdx i)))
    refine (List.Perm.append_left _ ih).trans ?_
    walk_at "perm"
theorem log_app : ∀ {as : List Addr} {log : List Ent} (p : Addr) (e : Ent), as.length = log.length → logC (as ++ [p]) (log ++ [e]) = logC as log ++ [(p, .tup e.vs)]
  | [], [], p, e, _ => rfl
  | [], _ :: _, p, e, h => by simp at h
  | _ :: _, [], p, e, h => by simp at h
  | a :: as, x :: log, p, e, h => by
    show (a, HO.tup x.vs) :: logC (as ++ [p]) (log ++ [e]) = (a, HO.tup x.vs) :: (logC as log ++ [(p, .tup e.vs)])
    rw [log_app p e (by simpa using h)]
/-- a room seen at one block's set -/
theorem RmRep.at {CL CR di a : Addr} {be : Pa} {r : Rm} {C : List Cell} (h : RmRep CL CR di a be r C) (h0 : 0 < r.ss.length) (b : Nat) :
    ∃ (hd : Hd) (sa : Addr) (ls : List LnA) (Z : List Cell), hd.a = a ∧ hd.be = be ∧ hd.di = di ∧ hd.u = r.ru ∧ hd.sas.length = r.ss.length ∧ hd.sas[b % hd.sas.length]? = some sa ∧ ls.map (·.l) = r.ls b ∧ C.Perm (hdC CR hd ++ (stC CL (sa, ls) ++ Z)) ∧
      ∀ ls' : List LnA, ∃ C', RmRep CL CR di a be (r.put b (ls'.map (·.l))) C' ∧ C'.Perm (hdC CR hd ++ (stC CL (sa, ls') ++ Z)) := by
  obtain ⟨hd, ss, h1, h2, h3, h4, h5, h6, rfl⟩ := h
  have hlen : ss.length = r.ss.length := by rw [h6, List.length_map]
  have hk : b % ss.length < ss.length := Nat.mod_lt _ (by omega)
  have hg := List.getElem?_eq_getElem hk
  have ix : r.ix b = b % ss.length := by unfold Rm.ix; rw [hlen]
  refine ⟨hd, ss[b % ss.length].1, ss[b % ss.length].2, stsC CL (ss.eraseIdx (b % ss.length)), h1, h2, h3, h4, by rw [h5, List.length_map]; exact hlen, ?_, ?_, ?_, fun ls' => ⟨hdC CR hd ++ stsC CL (ss.set (b % ss.length) (ss[b % ss.length].1, ls')), ⟨hd, _, h1, h2, h3, h4, ?_, ?_, rfl⟩, List.Perm.append_left _ (sts_set hk)⟩⟩
  · rw [h5, List.length_map, List.getElem?_map, hg]
    rfl
  · unfold Rm.ls
    rw [ix, h6, List.getD_eq_getElem?_getD, List.getElem?_map, hg]
    rfl
  · exact List.Perm.append_left _ (sts_focus hg)
  · rw [List.map_set, h5]
    apply List.ext_getElem?
    intro i
    by_cases e : b % ss.length = i
    · rw [← e, List.getElem?_set_self (by rw [List.length_map]; exact hk), List.getElem?_map, hg]
      rfl
    · rw [List.getElem?_set_ne e]
  · unfold Rm.put
    dsimp only
    rw [ix, h6, List.map_set]
def LBk (n k : Nat) (t : Ta) : Prop := n ≤ 3 ∧ t.log.length + 200 * (n + 1) + k ≤ 1000000
theorem LBk.lb {n k : Nat} {t : Ta} (h : LBk n k t) : LB n t := ⟨h.1, by have := h.2; omega⟩
theorem LBk.le {n k j : Nat} {t t' : Ta} (h : LBk n k t) (hl : t'.log.length + j ≤ t.log.length + k) : LBk n j t' := ⟨h.1, by have := h.2; omega⟩
/-! ### promises of a room's own steps -/
def spLineInit (K : PySem.W.Frag) : Sp := fun vs H Q _ => ∃ (x dx na : Addr) (no : HO) (b : Nat) (ns : List Int) (R : List Cell), vs = [.ref x, .int b, .ref na] ∧ SqO no (ns.map V.int) ∧ Own H ((x, .ins (cL K) dx []) :: (na, no) :: R) ∧
  ∀ (q : Addr) (H' : Hp), Own H' (lnC (cL K) ⟨x, dx, q, ⟨b, ns, false⟩⟩ ++ ((na, no) :: R)) → Q .non H'
def spLinesOf (K : PySem.W.Frag) : Sp := fun vs H Q _ => ∃ (h : Hd) (b : Nat) (sa : Addr) (R : List Cell), vs = [.ref h.a, .int b] ∧ h.sas[b % h.sas.length]? = some sa ∧ Own H (hdC (cR K) h ++ R) ∧ Q (.ref sa) H
def spLineOf (K : PySem.W.Frag) : Sp := fun vs H Q _ => ∃ (h : Hd) (b : Nat) (sa : Addr) (ls : List LnA) (R : List Cell), vs = [.ref h.a, .int b] ∧ h.sas[b % h.sas.length]? = some sa ∧ Own H (hdC (cR K) h ++ (stC (cL K) (sa, ls) ++ R)) ∧
  (∀ (i : Nat) (l : LnA), fnd b (ls.map (·.l)) = some i → ls[i]? = some l → Q (.ref l.a) H) ∧ (fnd b (ls.map (·.l)) = none → Q .non H)
def spNote (K : PySem.W.Frag) : Sp := fun vs H Q _ => ∃ (h : Hd) (w : Str) (n : Nat) (log : List Ent) (D R : List Cell), vs = [.ref h.a, .str w, .int n] ∧ log.length < 1000000 ∧ h.u.tl.length ≤ 4 ∧ DRep h.di log D ∧ Own H (hdC (cR K) h ++ (D ++ R)) ∧
  ∀ (H' : Hp) (D' : List Cell), DRep h.di (log ++ [⟨h.u.tl, w, n⟩]) D' → Own H' (hdC (cR K) h ++ (D' ++ R)) → Q .non H'
def spPassHome (K : PySem.W.Frag) (n : Nat) : Sp := fun vs H Q _ => ∃ (h : Hd) (l : LnA) (t : Ta) (C D R : List Cell), vs = [.ref h.a, .ref l.a] ∧ LnOk l.l ∧ RuOk h.u ∧ TaOk n t ∧ LBk n 1 t ∧ RepK K h.di h.be t.rs t.far C ∧ DRep h.di t.log D ∧ Own H (hdC (cR K) h ++ (lnC (cL K) l ++ (C ++ (D ++ R)))) ∧
  ∀ (H' : Hp) (C' D' : List Cell), RepK K h.di h.be (passH (ops n) h.u.tl t l.l.b l.l.ns).rs (passH (ops n) h.u.tl t l.l.b l.l.ns).far C' → DRep h.di (passH (ops n) h.u.tl t l.l.b l.l.ns).log D' →
    Own H' (hdC (cR K) h ++ (lnC (cL K) { l with l := { l.l with d := false } } ++ (C' ++ (D' ++ R)))) → Q .non H'
def spPassCell (K : PySem.W.Frag) (n : Nat) : Sp := fun vs H Q _ => ∃ (h : Hd) (p : Nat) (v : Int) (t : Ta) (C D R : List Cell), vs = [.ref h.a, .int p, .int v] ∧ p < 64 ∧ RuOk h.u ∧ TaOk n t ∧ LBk n 1 t ∧ RepK K h.di h.be t.rs t.far C ∧ DRep h.di t.log D ∧ Own H (hdC (cR K) h ++ (C ++ (D ++ R))) ∧
  ∀ (H' : Hp) (C' D' : List Cell), RepK K h.di h.be (passC (ops n) h.u.tl t p v).rs (passC (ops n) h.u.tl t p v).far C' → DRep h.di (passC (ops n) h.u.tl t p v).log D' → Own H' (hdC (cR K) h ++ (C' ++ (D' ++ R))) → Q .non H'
def spMakeWay (K : PySem.W.Frag) (n : Nat) : Sp := fun vs H Q _ => ∃ (h : Hd) (b : Nat) (sa : Addr) (ls : List LnA) (t : Ta) (C D R : List Cell), vs = [.ref h.a, .int b] ∧ h.sas[b % h.sas.length]? = some sa ∧ RuOk h.u ∧ LsOk h.u (ls.map (·.l)) ∧ TaOk n t ∧ LBk n 1 t ∧ RepK K h.di h.be t.rs t.far C ∧ DRep h.di t.log D ∧ Own H (hdC (cR K) h ++ (stC (cL K) (sa, ls) ++ (C ++ (D ++ R)))) ∧
  ∀ (H' : Hp) (ls' : List LnA) (C' D' : List Cell), ls'.map (·.l) = (mkWay (ops n) h.u (ls.map (·.l)) t).1 → RepK K h.di h.be (mkWay (ops n) h.u (ls.map (·.l)) t).2.rs (mkWay (ops n) h.u (ls.map (·.l)) t).2.far C' → DRep h.di (mkWay (ops n) h.u (ls.map (·.l)) t).2.log D' →
    Own H' (hdC (cR K) h ++ (stC (cL K) (sa, ls') ++ (C' ++ (D' ++ R)))) → Q .non H'
def spTouch (K : PySem.W.Frag) : Sp := fun vs H Q _ => ∃ (h : Hd) (sa : Addr) (ls : List LnA) (i : Nat) (l : LnA) (R : List Cell), vs = [.ref h.a, .ref l.a] ∧ ls[i]? = some l ∧ h.sas[l.l.b % h.sas.length]? = some sa ∧ ls.length ≤ 4 ∧ Own H (hdC (cR K) h ++ (stC (cL K) (sa, ls) ++ R)) ∧
  ∀ H' : Hp, Own H' (hdC (cR K) h ++ (stC (cL K) (sa, touchL h.u.lt ls i) ++ R)) → Q .non H'
def spReach (K : PySem.W.Frag) (n : Nat) : Sp := fun vs H Q _ => ∃ (h : Hd) (b : Nat) (sa : Addr) (ls : List LnA) (t : Ta) (C D R : List Cell), vs = [.ref h.a, .int b] ∧ b < 16 ∧ h.sas[b % h.sas.length]? = some sa ∧ RuOk h.u ∧ LsOk h.u (ls.map (·.l)) ∧ TaOk n t ∧ LBk n 60 t ∧ RepK K h.di h.be t.rs t.far C ∧ DRep h.di t.log D ∧ Own H (hdC (cR K) h ++ (stC (cL K) (sa, ls) ++ (C ++ (D ++ R)))) ∧
  ∀ (H' : Hp) (ls' : List LnA) (l : LnA) (C' D' : List Cell), ls'.map (·.l) = (reachL (ops n) h.u (ls.map (·.l)) t b).1 → ls'[(reachL (ops n) h.u (ls.map (·.l)) t b).2.2]? = some l → RepK K h.di h.be (reachL (ops n) h.u (ls.map (·.l)) t b).2.1.rs (reachL (ops n) h.u (ls.map (·.l)) t b).2.1.far C' → DRep h.di (reachL (ops n) h.u (ls.map (·.l)) t b).2.1.log D' →
    Own H' (hdC (cR K) h ++ (stC (cL K) (sa, ls') ++ (C' ++ (D' ++ R)))) → Q (.ref l.a) H'
/-- what stands behind at depth n: its class and its three steps -/
structure Beh (P : Program) (w : World) (K : PySem.W.Frag) (mg : Str → Option Value) (base : Heap) (n lv : Nat) where
  C : Addr
  cl : Cls K C
  fh : Addr
  fb : Addr
  fc : Addr
  fdh : FuncData
  fdb : FuncData
  fdc : FuncData
  m_home : Meth K C "home" fh
  m_bring : Meth K C "bring" fb
  m_change : Meth K C "change" fc
  b_home : Binds K fdh ["self", "block", "numbers"] []
  b_bring : Binds K fdb ["self", "block"] []
  b_change : Binds K fdc ["self", "place", "number"] []
  G_home : FnOk P w K mg base CX0 lv fh fdh ["self", "block", "numbers"] (spHome K n)
  G_bring : FnOk P w K mg base CX0 lv fb fdb ["self", "block"] (spBring K n)
  G_change : FnOk P w K mg base CX0 lv fc fdc ["self", "place", "number"] (spChange K n)
  at_ : ∀ (di : Addr) (be : Pa) (t : Ta) (Z : List Cell), TaOk n t → RepK K di be t.rs t.far Z → ∃ dx fs, (be.ad, HO.ins C dx fs) ∈ Z ∧ fs.lookup ("home" : Str) = none ∧ fs.lookup ("bring" : Str) = none ∧ fs.lookup ("change" : Str) = none
section
variable {P : Program} {w : World} {K : PySem.W.Frag} {mg : Str → Option Value} {base : Heap} {n lv : Nat}
theorem ok_Line_init (T : Txt K mg) : FnOk P w K mg base CX0 1 (He.fAd K ("Line", some "__init__")) T.fd_Line___init__ ["self", "block", "numbers"] (spLineInit K) := by
  refine okOf T.F_Line___init__ sc_Line___init__ (fun vs H Q E h => ?_) (fun cdv A outer s H vs Q E hr h => ?_)
  · obtain ⟨_, _, _, _, _, _, _, rfl, _⟩ := h
    rfl
  · obtain ⟨x, dx, na, no, b, ns, R, rfl, hno, O, k⟩ := h
    refine ⟨_, (pss_cons (ps_fld (pv 0) (pv 1) rfl) (pss_cons (ps_fld (pv 0) (pe_callTy call_list_of (by rfl) T.n_list (by decide +kernel) (pa_cons (pv 2) pa_nil)) rfl) (pss_one (ps_fld (pv 0) pe_bl rfl)))), ?_⟩
    refine ⟨_, rfl, _, rfl, x, cL K, dx, [], rfl, O.a0, T.cl_Line, T.na_Line_block, by show 0 < 1000; decide, ?_⟩
    have O1 := O.set (o' := .ins (cL K) dx (putF "block" (.int b) []))
    generalize upd H x _ = H1 at O1 ⊢
    refine ⟨_, rfl, na, _, rfl, hno.seq O1.a1, fun q hq => ?_⟩
    have O2 := O1.new (o := .lst (ns.map V.int)) hq
    generalize upd H1 q _ = H2 at O2 ⊢
    refine ⟨_, rfl, x, cL K, dx, _, rfl, O2.a1, T.cl_Line, T.na_Line_numbers, by show 1 < 1000; decide, ?_⟩
    have O3 := (O2.perm (L' := (x, .ins (cL K) dx (putF "block" (.int b) [])) :: (q, .lst (ns.map V.int)) :: (na, no) :: R) (by walk_at "perm")).set (o' := .ins (cL K) dx (putF "numbers" (.ref q) (putF "block" (.int b) [])))
    generalize upd H2 x _ = H3 at O3 ⊢
    have e1 : putF "numbers" (.ref q) (putF "block" (.int b) []) = ([("block", V.int b), ("numbers", .ref q)] : List (Str × V)) := by
      show putF "numbers" (.ref q) ([("block", V.int b)] : List (Str × V)) = _
      rw [pf_tl ne_numbers_block]
      rfl
    rw [e1] at O3
    refine ⟨_, rfl, x, cL K, dx, _, rfl, O3.a0, T.cl_Line, T.na_Line_is_dirty, by show 2 < 1000; decide, ?_⟩
    have O4 := O3.set (o' := .ins (cL K) dx (putF "is_dirty" (.bl false) ([("block", V.int b), ("numbers", .ref q)] : List (Str × V))))
    have e2 : putF "is_dirty" (.bl false) ([("block", V.int b), ("numbers", .ref q)] : List (Str × V)) = fLine (.int b) (.ref q) (.bl false) := by
      rw [pf_tl ne_is_dirty_block, pf_tl ne_is_dirty_numbers]
      rfl
    rw [e2] at O4 ⊢
    exact k q _ O4
theorem ok_lines_of (T : Txt K mg) : FnOk P w K mg base CX0 1 (He.fAd K ("Room", some "lines_of")) T.fd_Room_lines_of ["self", "block"] (spLinesOf K) := by
  refine okOf T.F_Room_lines_of sc_Room_lines_of (fun vs H Q E h => ?_) (fun cdv A outer s H vs Q E hr h => ?_)
  · obtain ⟨_, _, _, _, rfl, _⟩ := h
    rfl
  · obtain ⟨h, b, sa, R, rfl, hix, O, k⟩ := h
    refine ⟨_, (pss_one (ps_ret (pe_ix ix_list (pe_fld (pv 0) rfl) (pe_op op_mod (pv 1) (pe_callB call_len_seq (by rfl) T.n_len PySem.boot_len (pa_cons (pe_fld (pv 0) rfl) pa_nil))) (fun _ _ => rfl)))), ?_⟩
    have hl : 0 < h.sas.length := by
      have := (List.getElem?_eq_some_iff.mp hix).1
      omega
    refine ⟨_, rfl, h.a, cR K, h.dx, _, _, rfl, O.a0, T.cl_Room, T.na_Room_sets, lk_Room_sets, _, rfl, _, rfl, h.a, cR K, h.dx, _, _, rfl, O.a0, T.cl_Room, T.na_Room_sets, lk_Room_sets, h.sl, _, rfl, .inl (SqL.of O.a1), _, _, rfl, rfl, ?_, h.sl, _, _, .ref sa, rfl, rfl, SqL.of O.a1, ?_, k⟩
    · rw [List.length_map]
      omega
    · have e : (b : Int) % (((h.sas.map V.ref).length : Nat) : Int) = ((b % h.sas.length : Nat) : Int) := by
        rw [List.length_map]
        rfl
      rw [e]
      refine atI_nat ?_
      rw [List.getElem?_map, hix]
      rfl
theorem ok_line_of (T : Txt K mg) : FnOk P w K mg base CX0 2 (He.fAd K ("Room", some "line_of")) T.fd_Room_line_of ["self", "block"] (spLineOf K) := by
  have G_Room_lines_of := ok_lines_of (P := P) (w := w) (base := base) T
  refine okOf T.F_Room_line_of sc_Room_line_of (fun vs H Q E h => ?_) (fun cdv A outer s H vs Q E hr h => ?_)
  · obtain ⟨_, _, _, _, _, rfl, _⟩ := h
    rfl
  · obtain ⟨h, b, sa, ls, R, rfl, hix, O, k1, k2⟩ := h
    refine ⟨_, (pss_cons (ps_for PassesOwn.never rfl (pi_list (pe_meth (pv 0) T.cl_Room T.m_Room_lines_of G_Room_lines_of (hr.mono (by omega)) T.b_Room_lines_of .nil pass0 (pa_cons (pv 1) pa_nil))) (pg_name (i := 2) sc_Room_line_of.nd rfl (Or.inl rfl)) (pss_one (ps_if (pt_cmpR op_eq (pe_fld (pv 2) rfl) (pv 1) (nomark _)) (pss_one (ps_ret (pv 2))) pss_nil))) (pss_one (ps_ret pe_non))), ?_⟩
    have hsa : H sa = some (.lst (ls.map fun l => V.ref l.a)) := O.a3
    refine ⟨_, rfl, h.a, h.dx, _, rfl, O.a0, no_Room_lines_of, _, rfl, h, b, sa, _, rfl, hix, O, sa, rfl, ⟨_, SqL.of hsa⟩, ?_⟩
    refine for_list (K := K) (a := sa) (xs := ls.map fun l => V.ref l.a) (fun i σ H' => H' = H ∧ (∃ v, σ = [some (.ref h.a), some (.int b), v]) ∧ ∀ (m : Nat) (l : LnA), m < i → ls[m]? = some l → l.l.b ≠ b)
      ⟨rfl, ⟨none, rfl⟩, fun m l hm => by omega⟩ (fun i σ H' _ ⟨e, _⟩ => by rw [e]; exact SqL.of hsa) ?_ ?_
    · rintro i x σ H' hi ⟨rfl, ⟨v, rfl⟩, hno⟩
      rw [List.getElem?_map] at hi
      cases hl : ls[i]? with
      | none =>
        rw [hl] at hi
        cases hi
      | some l =>
        rw [hl] at hi
        have ex : V.ref l.a = x := Option.some.inj hi
        subst ex
        have hO : H' l.a = some (.ins (cL K) l.dx (fLine (.int l.l.b) (.ref l.na) (.bl l.l.d))) := O.mem (List.mem_append_right _ (List.mem_append_left _ (List.mem_cons_of_mem _ (lns_mem hl _ List.mem_cons_self))))
        refine ⟨_, rfl, l.a, cL K, l.dx, _, _, rfl, hO, T.cl_Line, T.na_Line_block, lk_Line_block, _, rfl, rfl, _, rfl, ?_⟩
        refine ite2 (fun e => ?_) (fun e => ?_)
        · have eb : l.l.b = b := by
            have := of_decide_eq_true e
            injection this with z
            omega
          refine ⟨_, rfl, k1 i l ?_ hl⟩
          have key : ∀ (ls : List LnA) (i : Nat), ls[i]? = some l → (∀ (m : Nat) (l' : LnA), m < i → ls[m]? = some l' → l'.l.b ≠ b) → fnd b (ls.map (·.l)) = some i := by
            intro ls
            induction ls with
            | nil =>
              intro i hi
              simp at hi
            | cons a r ih =>
              intro i hi hno
              show (if a.l.b = b then some 0 else (fnd b (r.map (·.l))).map (· + 1)) = some i
              cases i with
              | zero =>
                have : a = l := by simpa using hi
                rw [this, if_pos eb]
              | succ i =>
                rw [if_neg (hno 0 a (by omega) rfl), ih i (by simpa using hi) fun m l' hm hl' => hno (m + 1) l' (by omega) (by simpa using hl')]
                rfl
          exact key ls i hl hno
        · refine ⟨rfl, ⟨_, rfl⟩, fun m l' hm hl' => ?_⟩
          by_cases em : m = i
          · rw [em, hl] at hl'
            cases hl'
            intro z
            exact e (decide_eq_true (by rw [z]))
          · exact hno m l' (by omega) hl'
    · rintro σ H' ⟨rfl, ⟨v, rfl⟩, hno⟩
      refine k2 ?_
      have key : ∀ ls : List LnA, (∀ (m : Nat) (l' : LnA), ls[m]? = some l' → l'.l.b ≠ b) → fnd b (ls.map (·.l)) = none := by
        intro ls
        induction ls with
        | nil =>
          intro _
          rfl
        | cons a r ih =>
          intro hno
          show (if a.l.b = b then some 0 else (fnd b (r.map (·.l))).map (· + 1)) = none
          rw [if_neg (hno 0 a rfl), ih fun m l' hl' => hno (m + 1) l' (by simpa using hl')]
          rfl
      exact key ls fun m l' hl' => hno m l' (by
        rw [List.length_map]
        exact (List.getElem?_eq_some_iff.mp hl').1) hl'
theorem ok_note (T : Txt K mg) : FnOk P w K mg base CX0 1 (He.fAd K ("Room", some "note")) T.fd_Room_note ["self", "word", "number"] (spNote K) := by
  refine okOf T.F_Room_note sc_Room_note (fun vs H Q E h => ?_) (fun cdv A outer s H vs Q E hr h => ?_)
  · obtain ⟨_, _, _, _, _, _, rfl, _⟩ := h
    rfl
  · obtain ⟨h, z, n, log, D, R, rfl, hlog, htl, ⟨as, has, rfl⟩, O, k⟩ := h
    refine ⟨_, (pss_one (ps_expr (pe_bm PySem.F.plainAttrs_list PySem.F.slot_list_append PySem.F.type_list_append mt_append (pe_fld (pv 0) rfl) (pa_cons (pe_op op_catA (pe_fld (pv 0) rfl) (pe_tup (pa_cons (pv 1) (pa_cons (pv 2) pa_nil)))) pa_nil)))), ?_⟩
    refine ⟨_, rfl, h.a, cR K, h.dx, _, _, rfl, O.a0, T.cl_Room, T.na_Room_diary, lk_Room_diary, .inl ⟨rfl, _, SqL.of O.a3⟩, _, rfl, h.a, cR K, h.dx, _, _, rfl, O.a0, T.cl_Room, T.na_Room_title, lk_Room_title, _, rfl, _, rfl, by show 2 ≤ sizeLine; decide, fun p hp => ?_⟩
    have O1 := O.new (o := .tup [.str z, .int n]) hp
    generalize upd H p _ = H1 at O1 ⊢
    have fin : ∀ (q : Addr) (H2 : Hp), Own H2 ((q, .tup (Ent.vs ⟨h.u.tl, z, n⟩)) :: (hdC (cR K) h ++ (((h.di, .lst (as.map V.ref)) :: logC as log) ++ R))) → rAppend (.ref h.di) [.ref q] H2 (fun _ H3 => Q .non H3) := by
      intro q H2 O2
      refine ⟨h.di, _, _, rfl, rfl, O2.a4, ?_, ?_⟩
      · rw [List.length_map, has]
        exact size1 (Nat.le_of_lt hlog)
      · have O3 := (O2.perm (L' := (h.di, .lst (as.map V.ref)) :: (hdC (cR K) h ++ (((q, .tup (Ent.vs ⟨h.u.tl, z, n⟩)) :: logC as log) ++ R))) (by walk_at "perm")).set (o' := .lst (as.map V.ref ++ [.ref q]))
        refine k _ ((h.di, .lst ((as ++ [q]).map V.ref)) :: logC (as ++ [q]) (log ++ [⟨h.u.tl, z, n⟩])) ⟨as ++ [q], by simp [has], rfl⟩ ?_
        rw [log_app _ _ has]
        simp only [List.map_append, List.map_cons, List.map_nil]
        exact O3.perm (by walk_at "perm")
    refine ⟨h.ti, p, _, _, rfl, rfl, SqT.of O1.a3, SqT.of O1.a0, by show h.u.tl.length + 2 ≤ sizeLine; exact size2 (by omega), fun e => ?_, (fun _ e => nomatch e), fun e _ q hq => ?_⟩
    · refine fin p H1 ?_
      have : Ent.vs ⟨h.u.tl, z, n⟩ = [.str z, .int n] := by
        unfold Ent.vs
        rw [e]
        rfl
      rw [this]
      exact O1
    · exact fin q _ (O1.tail.new hq)
theorem ok_pass_home (T : Txt K mg) (B : Beh P w K mg base n lv) (hv : 1 ≤ lv) : FnOk P w K mg base CX0 (lv + 1) (He.fAd K ("Room", some "pass_home")) T.fd_Room_pass_home ["self", "line"] (spPassHome K n) := by
  have G_Room_note := ok_note (P := P) (w := w) (base := base) T
  refine okOf T.F_Room_pass_home sc_Room_pass_home (fun vs H Q E h => ?_) (fun cdv A outer s H vs Q E hr h => ?_)
  · obtain ⟨_, _, _, _, _, _, rfl, _⟩ := h
    rfl
  · obtain ⟨h, l, t, C, D, R, rfl, hlo, hu, ht, hlb, hC, hD, O, k⟩ := h
    refine ⟨_, (pss_cons (ps_expr (pe_meth (pv 0) T.cl_Room T.m_Room_note G_Room_note (hr.mono (by omega)) T.b_Room_note .nil pass0 (pa_cons (pe_globS rfl T.g_HOME) (pa_cons (pe_fld (pv 1) rfl) pa_nil)))) (pss_cons (ps_expr (pe_meth (pe_fld (pv 0) rfl) B.cl B.m_home B.G_home (hr.mono (by omega)) B.b_home .nil pass0 (pa_cons (pe_fld (pv 1) rfl) (pa_cons (pe_fld (pv 1) rfl) pa_nil)))) (pss_one (ps_fld (pv 1) pe_bl rfl)))), ?_⟩
    have hl2 := hlb.2
    refine ⟨_, rfl, h.a, h.dx, _, rfl, O.a0, no_Room_note, _, rfl, l.a, cL K, l.dx, _, _, rfl, O.a3, T.cl_Line, T.na_Line_block, lk_Line_block, h, "home", l.l.b, t.log, D, lnC (cL K) l ++ (C ++ R), rfl, by omega, hu.t4, hD, O.perm (by walk_at "perm"), fun H1 D1 hD1 O1 => ?_⟩
    have ht1 := note_ok ht h.u.tl "home" l.l.b
    obtain ⟨dx, fs, hbe, nh, nb, nc⟩ := B.at_ h.di h.be (t.note h.u.tl "home" l.l.b) C ht1 hC
    have O2 := O1.perm (L' := (h.a, hdO (cR K) h) :: (l.a, .ins (cL K) l.dx (fLine (.int l.l.b) (.ref l.na) (.bl l.l.d))) :: (l.na, .lst (l.l.ns.map V.int)) :: (C ++ (D1 ++ ((h.sl, .lst (h.sas.map V.ref)) :: (h.ti, .tup h.u.tl) :: R)))) (by unfold hdC lnC; walk_at "perm")
    refine ⟨_, rfl, h.a, cR K, h.dx, _, _, rfl, O2.a0, T.cl_Room, T.na_Room_behind, lk_Room_behind, h.be.ad, dx, fs, rfl, O2.mem (by simp only [List.mem_cons, List.mem_append]; exact .inr (.inr (.inr (.inl hbe)))), nh, ?_⟩
    refine ⟨_, rfl, l.a, cL K, l.dx, _, _, rfl, O2.a1, T.cl_Line, T.na_Line_block, lk_Line_block, _, rfl, l.a, cL K, l.dx, _, _, rfl, O2.a1, T.cl_Line, T.na_Line_numbers, lk_Line_numbers, ?_⟩
    refine ⟨h.be, h.di, l.na, _, l.l.b, l.l.ns, t.note h.u.tl "home" l.l.b, C, D1, (h.a, hdO (cR K) h) :: (l.a, .ins (cL K) l.dx (fLine (.int l.l.b) (.ref l.na) (.bl l.l.d))) :: (h.sl, .lst (h.sas.map V.ref)) :: (h.ti, .tup h.u.tl) :: R, rfl, hlo.b, hlo.ns, .inl rfl, ht1, ⟨hlb.1, by rw [note_len]; omega⟩, hC, hD1, O2.perm (by walk_at "perm"), fun H3 C3 D3 hC3 hD3 O3 => ?_⟩
    have O4 := O3.perm (L' := (l.a, .ins (cL K) l.dx (fLine (.int l.l.b) (.ref l.na) (.bl l.l.d))) :: ((l.na, .lst (l.l.ns.map V.int)) :: (hdC (cR K) h ++ (C3 ++ (D3 ++ R))))) (by unfold hdC; walk_at "perm")
    refine ⟨_, rfl, l.a, cL K, l.dx, _, rfl, O4.a0, T.cl_Line, T.na_Line_is_dirty, by show 3 < 1000; decide, ?_⟩
    have O5 := O4.set (o' := .ins (cL K) l.dx (putF "is_dirty" (.bl false) (fLine (.int l.l.b) (.ref l.na) (.bl l.l.d))))
    rw [pf_Line_is_dirty] at O5 ⊢
    exact k _ C3 D3 hC3 hD3 (O5.perm (by unfold hdC lnC; walk_at "perm"))
theorem ok_pass_cell (T : Txt K mg) (B : Beh P w K mg base n lv) (hv : 1 ≤ lv) : FnOk P w K mg base CX0 (lv + 1) (He.fAd K ("Room", some "pass_cell")) T.fd_Room_pass_cell ["self", "place", "number"] (spPassCell K n) := by
  have G_Room_note := ok_note (P := P) (w := w) (base := base) T
  refine okOf T.F_Room_pass_cell sc_Room_pass_cell (fun vs H Q E h => ?_) (fun cdv A outer s H vs Q E hr h => ?_)
  · obtain ⟨_, _, _, _, _, _, _, rfl, _⟩ := h
    rfl
  · obtain ⟨h, p, v, t, C, D, R, rfl, hp, hu, ht, hlb, hC, hD, O, k⟩ := h
    refine ⟨_, (pss_cons (ps_expr (pe_meth (pv 0) T.cl_Room T.m_Room_note G_Room_note (hr.mono (by omega)) T.b_Room_note .nil pass0 (pa_cons (pe_globS rfl T.g_CELL) (pa_cons (pv 1) pa_nil)))) (pss_one (ps_expr (pe_meth (pe_fld (pv 0) rfl) B.cl B.m_change B.G_change (hr.mono (by omega)) B.b_change .nil pass0 (pa_cons (pv 1) (pa_cons (pv 2) pa_nil)))))), ?_⟩
    have hl2 := hlb.2
    refine ⟨_, rfl, h.a, h.dx, _, rfl, O.a0, no_Room_note, _, rfl, h, "cell", p, t.log, D, C ++ R, rfl, by omega, hu.t4, hD, O.perm (by walk_at "perm"), fun H1 D1 hD1 O1 => ?_⟩
    have ht1 := note_ok ht h.u.tl "cell" p
    obtain ⟨dx, fs, hbe, nh, nb, nc⟩ := B.at_ h.di h.be (t.note h.u.tl "cell" p) C ht1 hC
    have O2 := O1.perm (L' := (h.a, hdO (cR K) h) :: (C ++ (D1 ++ ((h.sl, .lst (h.sas.map V.ref)) :: (h.ti, .tup h.u.tl) :: R)))) (by unfold hdC; walk_at "perm")
    refine ⟨_, rfl, h.a, cR K, h.dx, _, _, rfl, O2.a0, T.cl_Room, T.na_Room_behind, lk_Room_behind, h.be.ad, dx, fs, rfl, O2.mem (by simp only [List.mem_cons, List.mem_append]; exact .inr (.inl hbe)), nc, _, rfl, _, rfl, ?_⟩
    refine ⟨h.be, h.di, p, v, t.note h.u.tl "cell" p, C, D1, hdC (cR K) h ++ R, rfl, hp, ht1, ⟨hlb.1, by rw [note_len]; omega⟩, hC, hD1, O2.perm (by unfold hdC; walk_at "perm"), fun H3 C3 D3 hC3 hD3 O3 => ?_⟩
    exact k _ C3 D3 hC3 hD3 (O3.perm (by walk_at "perm"))
end
-- WwC
theorem mkWay_full {o : Ops} {u : Ru} {l : Ln} {rest : List Ln} {t : Ta} (h : (l :: rest).length = u.ways) : mkWay o u (l :: rest) t = (rest, if l.d = true then passH o u.tl t l.b l.ns else t) := by
  unfold mkWay
  rw [if_pos h]
theorem mkWay_no {o : Ops} {u : Ru} {ls : List Ln} {t : Ta} (h : ¬ ls.length = u.ways) : mkWay o u ls t = (ls, t) := by
  unfold mkWay
  rw [if_neg h]
theorem lns_keys {CL : Addr} : ∀ ls : List LnA, (ls.map (·.a)).Sublist ((lnsC CL ls).map (·.1))
  | [] => List.Sublist.refl _
  | l :: r => by
    show (l.a :: r.map (·.a)).Sublist (l.a :: l.na :: (lnsC CL r).map (·.1))
    exact List.Sublist.cons_cons _ (List.Sublist.cons _ (lns_keys r))
theorem Own.lnsNd {H : Hp} {CL : Addr} {ls : List LnA} {L : List Cell} (h : Own H (lnsC CL ls ++ L)) : (ls.map (·.a)).Nodup := List.Nodup.sublist (lns_keys ls) h.left.1
theorem isN_ref (a : Addr) : decide (V.ref a = V.non) = false := decide_eq_false (by intro z; cases z)
theorem ite_notN {a : Addr} {A B : Prop} (h : A) : if (!decide (V.ref a = V.non)) = true then A else B := by
  rw [isN_ref]
  exact h
theorem ite_notN0 {A B : Prop} (h : B) : if (!decide (V.non = V.non)) = true then A else B := by
  rw [decide_eq_true rfl]
  exact h
theorem seqIx0 {n : Nat} (h : 0 < n) : seqIndex? 0 n = some 0 := (ixN_seq (by
  unfold ixN
  rw [if_pos (by decide), if_pos (by omega)]
  rfl)).1
section
variable {P : Program} {w : World} {K : PySem.W.Frag} {mg : Str → Option Value} {base : Heap} {n lv : Nat}
theorem ok_make_way (T : Txt K mg) (B : Beh P w K mg base n lv) (hv : 1 ≤ lv) : FnOk P w K mg base CX0 (lv + 2) (He.fAd K ("Room", some "make_way")) T.fd_Room_make_way ["self", "block"] (spMakeWay K n) := by
  have G_Room_lines_of := ok_lines_of (P := P) (w := w) (base := base) T
  have G_Room_pass_home := ok_pass_home T B hv
  refine okOf T.F_Room_make_way sc_Room_make_way (fun vs H Q E h => ?_) (fun cdv A outer s H vs Q E hr h => ?_)
  · obtain ⟨_, _, _, _, _, _, _, _, rfl, _⟩ := h
    rfl
  · obtain ⟨h, b, sa, ls, t, C, D, R, rfl, hix, hu, hls, ht, hlb, hC, hD, O, k⟩ := h
    refine ⟨_, (pss_cons (ps_set (i := 2) sc_Room_make_way.nd rfl (Or.inl rfl) (pe_meth (pv 0) T.cl_Room T.m_Room_lines_of G_Room_lines_of (hr.mono (by omega)) T.b_Room_lines_of .nil pass0 (pa_cons (pv 1) pa_nil))) (pss_one (ps_if (pt_cmpR op_eq (pe_callB call_len_seq (by rfl) T.n_len PySem.boot_len (pa_cons (pv 2) pa_nil)) (pe_fld (pv 0) rfl) (nomark _)) (pss_cons (ps_set (i := 3) sc_Room_make_way.nd rfl (Or.inl rfl) (pe_bm PySem.F.plainAttrs_list PySem.F.slot_list_pop PySem.F.type_list_pop mt_popAt (pv 2) (pa_cons pe_int pa_nil))) (pss_one (ps_if (pt_val (pe_fld (pv 3) rfl)) (pss_one (ps_expr (pe_meth (pv 0) T.cl_Room T.m_Room_pass_home G_Room_pass_home (hr.mono (by omega)) T.b_Room_pass_home .nil pass0 (pa_cons (pv 3) pa_nil)))) pss_nil))) pss_nil))), ?_⟩
    refine ⟨_, rfl, h.a, h.dx, _, rfl, O.a0, no_Room_lines_of, _, rfl, h, b, sa, _, rfl, hix, O, ?_⟩
    have hlen := hls.len
    rw [List.length_map] at hlen
    have hw0 := hu.w0
    have hsa : H sa = some (.lst (ls.map fun l => V.ref l.a)) := O.a3
    refine ⟨_, rfl, sa, _, rfl, .inl (SqL.of hsa), _, rfl, h.a, cR K, h.dx, _, _, rfl, O.a0, T.cl_Room, T.na_Room_ways, lk_Room_ways, rfl, _, rfl, ?_⟩
    refine ite2 (fun e => ?_) (fun e => ?_)
    · have el : ls.length = h.u.ways := by
        have := of_decide_eq_true e
        injection this with z
        rw [List.length_map] at z
        omega
      obtain ⟨l, rest, rfl⟩ : ∃ l rest, ls = l :: rest := by
        cases ls with
        | nil =>
          simp at el
          omega
        | cons l rest => exact ⟨l, rest, rfl⟩
      refine ⟨_, rfl, .inl ⟨rfl, _, SqL.of hsa⟩, sa, _, 0, 0, .ref l.a, rfl, rfl, hsa, by decide, by decide, seqIx0 (by simp), rfl, ?_⟩
      have O1 := (O.perm (L' := (sa, .lst ((l :: rest).map fun l => V.ref l.a)) :: (hdC (cR K) h ++ (lnC (cL K) l ++ (lnsC (cL K) rest ++ (C ++ (D ++ R)))))) (by
        show (hdC (cR K) h ++ (((sa, HO.lst ((l :: rest).map fun l => V.ref l.a)) :: (lnC (cL K) l ++ lnsC (cL K) rest)) ++ (C ++ (D ++ R)))).Perm _
        walk_at "perm")).set (o' := .lst (rest.map fun l => V.ref l.a))
      have em := mkWay_full (o := ops n) (u := h.u) (l := l.l) (rest := rest.map (·.l)) (t := t) (by rw [List.length_cons, List.length_map]; exact el)
      have k2 := fun H' C' D' => k H' rest C' D' (by show _ = (mkWay (ops n) h.u (l.l :: rest.map (·.l)) t).1; rw [em])
      have em2 : (mkWay (ops n) h.u ((l :: rest).map (·.l)) t).2 = if l.l.d = true then passH (ops n) h.u.tl t l.l.b l.l.ns else t := by
        show (mkWay (ops n) h.u (l.l :: rest.map (·.l)) t).2 = _
        rw [em]
      rw [em2] at k2
      show (fun _ => _) _
      refine ⟨_, rfl, l.a, cL K, l.dx, _, _, rfl, O1.a4, T.cl_Line, T.na_Line_is_dirty, lk_Line_is_dirty, _, rfl, ?_⟩
      cases hd : l.l.d with
      | true =>
        rw [hd, if_pos rfl] at k2
        refine iteT ⟨_, rfl, h.a, h.dx, _, rfl, O1.a1, no_Room_pass_home, _, rfl, h, l, t, C, D, (sa, .lst (rest.map fun l => V.ref l.a)) :: (lnsC (cL K) rest ++ R), rfl, hls.ok _ (by simp), hu, ht, hlb, hC, hD, O1.perm (by walk_at "perm"), fun H3 C3 D3 hC3 hD3 O3 => ?_⟩
        refine k2 _ C3 D3 hC3 hD3 (Own.right (L' := lnC (cL K) { l with l := { l.l with d := false } }) (O3.perm ?_))
        unfold stC
        walk_at "perm"
      | false =>
        rw [hd, if_neg Bool.false_ne_true] at k2
        refine iteF (k2 _ C D hC hD (Own.right (L' := lnC (cL K) l) (O1.perm ?_)))
        unfold stC
        walk_at "perm"
    · have el : ¬ (ls.map (·.l)).length = h.u.ways := fun z => e (decide_eq_true (by
        rw [List.length_map] at z
        rw [List.length_map, z]))
      have em := mkWay_no (o := ops n) (t := t) el
      have k2 := k H ls C D
      rw [em] at k2
      exact k2 rfl hC hD O
theorem ok_touch (T : Txt K mg) : FnOk P w K mg base CX0 2 (He.fAd K ("Room", some "touch")) T.fd_Room_touch ["self", "line"] (spTouch K) := by
  have G_Room_lines_of := ok_lines_of (P := P) (w := w) (base := base) T
  refine okOf T.F_Room_touch sc_Room_touch (fun vs H Q E h => ?_) (fun cdv A outer s H vs Q E hr h => ?_)
  · obtain ⟨_, _, _, _, _, _, rfl, _⟩ := h
    rfl
  · obtain ⟨h, sa, ls, i, l, R, rfl, hl, hix, h4, O, k⟩ := h
    refine ⟨_, (pss_one (ps_if (pt_val (pe_fld (pv 0) rfl)) (pss_cons (ps_set (i := 2) sc_Room_touch.nd rfl (Or.inl rfl) (pe_meth (pv 0) T.cl_Room T.m_Room_lines_of G_Room_lines_of (hr.mono (by omega)) T.b_Room_lines_of .nil pass0 (pa_cons (pe_fld (pv 1) rfl) pa_nil))) (pss_cons (ps_expr (pe_bm PySem.F.plainAttrs_list PySem.F.slot_list_remove PySem.F.type_list_remove (mt_removeO T.cmp_Line (hu_of hr)) (pv 2) (pa_cons (pv 1) pa_nil))) (pss_one (ps_expr (pe_bm PySem.F.plainAttrs_list PySem.F.slot_list_append PySem.F.type_list_append mt_append (pv 2) (pa_cons (pv 1) pa_nil)))))) pss_nil)), ?_⟩
    refine ⟨_, rfl, h.a, cR K, h.dx, _, _, rfl, O.a0, T.cl_Room, T.na_Room_is_late, lk_Room_is_late, _, rfl, ?_⟩
    have hi : i < ls.length := (List.getElem?_eq_some_iff.mp hl).1
    cases hlt : h.u.lt with
    | false =>
      refine iteF (k H ?_)
      unfold touchL
      rw [hlt, if_neg Bool.false_ne_true]
      exact O
    | true =>
      refine iteT ?_
      have hO : H l.a = some (.ins (cL K) l.dx (fLine (.int l.l.b) (.ref l.na) (.bl l.l.d))) := O.mem (List.mem_append_right _ (List.mem_append_left _ (List.mem_cons_of_mem _ (lns_mem hl _ List.mem_cons_self))))
      refine ⟨_, rfl, h.a, h.dx, _, rfl, O.a0, no_Room_lines_of, _, rfl, l.a, cL K, l.dx, _, _, rfl, hO, T.cl_Line, T.na_Line_block, lk_Line_block, h, l.l.b, sa, _, rfl, hix, O, ?_⟩
      have hsa : H sa = some (.lst ((ls.map (·.a)).map V.ref)) := by
        rw [List.map_map]
        exact O.a3
      have nd : (ls.map (·.a)).Nodup := Own.lnsNd (O.perm (L' := lnsC (cL K) ls ++ (hdC (cR K) h ++ ((sa, .lst (ls.map fun l => V.ref l.a)) :: R))) (by unfold stC; walk_at "perm"))
      have hg : (ls.map (·.a))[i]? = some l.a := by rw [List.getElem?_map, hl]; rfl
      refine ⟨_, rfl, .inl ⟨rfl, _, SqL.of hsa⟩, _, rfl, sa, ls.map (·.a), l.a, i, rfl, rfl, hsa, fun b hb => ?_, hg, fun m hm z => ?_, ?_⟩
      · obtain ⟨l', hl', rfl⟩ := List.mem_map.mp hb
        obtain ⟨j, hj, ej⟩ := List.mem_iff_getElem.mp hl'
        exact ⟨l'.dx, _, O.mem (List.mem_append_right _ (List.mem_append_left _ (List.mem_cons_of_mem _ (lns_mem (i := j) (by rw [List.getElem?_eq_getElem hj, ej]) _ List.mem_cons_self))))⟩
      · have := nd_ix nd z hg
        omega
      · have O1 := (O.perm (L' := (sa, .lst (ls.map fun l => V.ref l.a)) :: (hdC (cR K) h ++ (lnsC (cL K) ls ++ R))) (by unfold stC; walk_at "perm")).set (o' := .lst (((ls.map (·.a)).eraseIdx i).map V.ref))
        generalize upd H sa _ = H1 at O1 ⊢
        refine ⟨_, rfl, .inl ⟨rfl, _, SqL.of O1.a0⟩, _, rfl, sa, _, _, rfl, rfl, O1.a0, ?_, ?_⟩
        · rw [List.length_map]
          refine size1 (Nat.le_trans (List.length_eraseIdx_le ..) ?_)
          rw [List.length_map]
          omega
        · have O2 := O1.set (o' := .lst (((ls.map (·.a)).eraseIdx i).map V.ref ++ [.ref l.a]))
          have e : ((ls.map (·.a)).eraseIdx i).map V.ref ++ [.ref l.a] = (touchL h.u.lt ls i).map fun l => V.ref l.a := by
            unfold touchL
            rw [hlt, if_pos rfl, hl, erase_map, List.map_map, List.map_append]
            rfl
          rw [e] at O2 ⊢
          refine k _ (Own.perm (L := (sa, .lst ((touchL h.u.lt ls i).map fun l => V.ref l.a)) :: (hdC (cR K) h ++ (lnsC (cL K) (touchL h.u.lt ls i) ++ R))) (O2.perm ?_) (by unfold stC; walk_at "perm"))
          exact List.Perm.cons _ (List.Perm.append_left _ (List.Perm.append_right _ (lns_touch hi).symm))
theorem reachL_hit {o : Ops} {u : Ru} {ls : List Ln} {t : Ta} {b i : Nat} (e : fnd b ls = some i) : reachL o u ls t b = (touchL u.lt ls i, t, touchI u.lt ls i) := by
  unfold reachL
  rw [e]
theorem reachL_miss {o : Ops} {u : Ru} {ls : List Ln} {t : Ta} {b : Nat} (e : fnd b ls = none) : reachL o u ls t b = ((mkWay o u ls t).1 ++ [⟨b, (o.br ((mkWay o u ls t).2.note u.tl "bring" b) b).1, false⟩], (o.br ((mkWay o u ls t).2.note u.tl "bring" b) b).2, (mkWay o u ls t).1.length) := by
  unfold reachL
  rw [e]
theorem ok_reach (T : Txt K mg) (B : Beh P w K mg base n lv) (hv : 1 ≤ lv) : FnOk P w K mg base CX0 (lv + 3) (He.fAd K ("Room", some "reach")) T.fd_Room_reach ["self", "block"] (spReach K n) := by
  have G_Room_lines_of := ok_lines_of (P := P) (w := w) (base := base) T
  have G_Room_line_of := ok_line_of (P := P) (w := w) (base := base) T
  have G_Room_note := ok_note (P := P) (w := w) (base := base) T
  have G_Room_touch := ok_touch (P := P) (w := w) (base := base) T
  have G_Line___init__ := ok_Line_init (P := P) (w := w) (base := base) T
  have G_Room_make_way := ok_make_way T B hv
  refine okOf T.F_Room_reach sc_Room_reach (fun vs H Q E h => ?_) (fun cdv A outer s H vs Q E hr h => ?_)
  · obtain ⟨_, _, _, _, _, _, _, _, rfl, _⟩ := h
    rfl
  · obtain ⟨h, b, sa, ls, t, C, D, R, rfl, hb, hix, hu, hls, ht, hlb, hC, hD, O, k⟩ := h
    have hlen := hls.len
    have hw4 := hu.w4
    rw [List.length_map] at hlen
    have hg39 := gOf_le hlb.1
    refine ⟨_, (pss_cons (ps_set (i := 2) sc_Room_reach.nd rfl (Or.inl rfl) (pe_meth (pv 0) T.cl_Room T.m_Room_line_of G_Room_line_of (hr.mono (by omega)) T.b_Room_line_of .nil pass0 (pa_cons (pv 1) pa_nil))) (pss_cons (ps_if (pt_cmpR op_notN (pv 2) pe_non (nomark _)) (pss_cons (ps_expr (pe_meth (pv 0) T.cl_Room T.m_Room_touch G_Room_touch (hr.mono (by omega)) T.b_Room_touch .nil pass0 (pa_cons (pv 2) pa_nil))) (pss_one (ps_ret (pv 2)))) pss_nil) (pss_cons (ps_expr (pe_meth (pv 0) T.cl_Room T.m_Room_make_way G_Room_make_way (hr.mono (by omega)) T.b_Room_make_way .nil pass0 (pa_cons (pv 1) pa_nil))) (pss_cons (ps_expr (pe_meth (pv 0) T.cl_Room T.m_Room_note G_Room_note (hr.mono (by omega)) T.b_Room_note .nil pass0 (pa_cons (pe_globS rfl T.g_BRING) (pa_cons (pv 1) pa_nil)))) (pss_cons (ps_set (i := 2) sc_Room_reach.nd rfl (Or.inl rfl) (pe_make T.mk_Line G_Line___init__ (hr.mono (by omega)) rfl T.g_Line T.b_Line___init__ .nil pass0 (pa_cons (pv 1) (pa_cons (pe_meth (pe_fld (pv 0) rfl) B.cl B.m_bring B.G_bring (hr.mono (by omega)) B.b_bring .nil pass0 (pa_cons (pv 1) pa_nil)) pa_nil)))) (pss_cons (ps_expr (pe_bm PySem.F.plainAttrs_list PySem.F.slot_list_append PySem.F.type_list_append mt_append (pe_meth (pv 0) T.cl_Room T.m_Room_lines_of G_Room_lines_of (hr.mono (by omega)) T.b_Room_lines_of .nil pass0 (pa_cons (pv 1) pa_nil)) (pa_cons (pv 2) pa_nil))) (pss_one (ps_ret (pv 2))))))))), ?_⟩
    refine ⟨_, rfl, h.a, h.dx, _, rfl, O.a0, no_Room_line_of, _, rfl, h, b, sa, ls, C ++ (D ++ R), rfl, hix, O, fun i l hf hl => ?_, fun hf => ?_⟩
    · refine ⟨_, rfl, rfl, _, rfl, ite_notN ?_⟩
      have eb : l.l.b = b := by
        obtain ⟨l2, h2, h3, _⟩ := fnd_some hf
        rw [List.getElem?_map, hl] at h2
        have : l.l = l2 := Option.some.inj h2
        rw [this]
        exact h3
      have k2 := fun H' ls' l' => k H' ls' l' C D
      rw [reachL_hit hf] at k2
      have hi : i < ls.length := (List.getElem?_eq_some_iff.mp hl).1
      refine ⟨_, rfl, h.a, h.dx, _, rfl, O.a0, no_Room_touch, _, rfl, h, sa, ls, i, l, C ++ (D ++ R), rfl, hl, by rw [eb]; exact hix, by omega, O, fun H1 O1 => ⟨_, rfl, ?_⟩⟩
      refine k2 H1 (touchL h.u.lt ls i) l ?_ ?_ hC hD O1
      · rw [touch_map]
      · show (touchL h.u.lt ls i)[touchI h.u.lt (ls.map (·.l)) i]? = some l
        rw [touchI_map, touch_get hi, hl]
    · refine ⟨_, rfl, rfl, _, rfl, ite_notN0 ?_⟩
      refine ⟨_, rfl, h.a, h.dx, _, rfl, O.a0, no_Room_make_way, _, rfl, h, b, sa, ls, t, C, D, R, rfl, hix, hu, hls, ht, hlb.le (by omega), hC, hD, O, fun H1 ls1 C1 D1 hls1 hC1 hD1 O1 => ?_⟩
      obtain ⟨m1, m2, m3, m4⟩ := mkWay_ok (ops_ok n) hu hls ht
      have k2 := fun H' ls' l' C' D' => k H' ls' l' C' D'
      rw [reachL_miss hf] at k2
      generalize mkWay (ops n) h.u (ls.map (·.l)) t = mw at m1 m2 m3 m4 hls1 hC1 hD1 k2
      have hl2 := hlb.2
      refine ⟨_, rfl, h.a, h.dx, _, rfl, O1.a0, no_Room_note, _, rfl, h, "bring", b, mw.2.log, D1, stC (cL K) (sa, ls1) ++ (C1 ++ R), rfl, by omega, hu.t4, hD1, O1.perm (by walk_at "perm"), fun H2 D2 hD2 O2 => ?_⟩
      have ht2 := note_ok m2 h.u.tl "bring" b
      obtain ⟨dxb, fsb, hbe, nh, nb, nc⟩ := B.at_ h.di h.be (mw.2.note h.u.tl "bring" b) C1 ht2 hC1
      refine ⟨_, rfl, _, rfl, h.a, cR K, h.dx, _, _, rfl, O2.a0, T.cl_Room, T.na_Room_behind, lk_Room_behind, h.be.ad, dxb, fsb, rfl, O2.mem (by simp only [List.mem_append]; exact .inr (.inr (.inr (.inl hbe)))), nb, _, rfl, ?_⟩
      refine ⟨h.be, h.di, b, mw.2.note h.u.tl "bring" b, C1, D2, hdC (cR K) h ++ (stC (cL K) (sa, ls1) ++ R), rfl, hb, ht2, ⟨hlb.1, by rw [note_len]; omega⟩, hC1, hD2, O2.perm (by walk_at "perm"), fun p H3 C3 D3 hC3 hD3 O3 => ?_⟩
      intro x dx hx hdx hne
      have O4 := (O3.keepNew (o := .own x) hdx).new (p := x) (o := .ins (cL K) dx []) (by rw [upd_ne (Ne.symm hne)]; exact hx)
      refine ⟨x, dx, p, _, b, _, _, rfl, .inr rfl, O4, fun q H5 O5 => ⟨rfl, ?_⟩⟩
      have O6 := O5.perm (L' := hdC (cR K) h ++ ((sa, .lst (ls1.map fun l => V.ref l.a)) :: (lnsC (cL K) ls1 ++ (lnC (cL K) ⟨x, dx, q, ⟨b, ((ops n).br (mw.2.note h.u.tl "bring" b) b).1, false⟩⟩ ++ (C3 ++ (D3 ++ ((p, .tup (((ops n).br (mw.2.note h.u.tl "bring" b) b).1.map V.int)) :: R))))))) (by unfold stC; walk_at "perm")
      have hl1 : ls1.length = mw.1.length := by rw [← hls1, List.length_map]
      refine ⟨_, rfl, h.a, h.dx, _, rfl, O6.a0, no_Room_lines_of, _, rfl, h, b, sa, _, rfl, hix, O6, .inl ⟨rfl, _, SqL.of O6.a3⟩, _, rfl, sa, _, _, rfl, rfl, O6.a3, ?_, ?_⟩
      · rw [List.length_map]
        exact size1 (by omega)
      · have O7 := (O6.perm (L' := (sa, .lst (ls1.map fun l => V.ref l.a)) :: (hdC (cR K) h ++ (lnsC (cL K) ls1 ++ (lnC (cL K) ⟨x, dx, q, ⟨b, ((ops n).br (mw.2.note h.u.tl "bring" b) b).1, false⟩⟩ ++ (C3 ++ (D3 ++ ((p, .tup (((ops n).br (mw.2.note h.u.tl "bring" b) b).1.map V.int)) :: R))))))) (by walk_at "perm")).set (o' := .lst (ls1.map (fun l => V.ref l.a) ++ [.ref x]))
        refine ⟨_, rfl, ?_⟩
        refine k2 _ (ls1 ++ [⟨x, dx, q, ⟨b, ((ops n).br (mw.2.note h.u.tl "bring" b) b).1, false⟩⟩]) ⟨x, dx, q, ⟨b, ((ops n).br (mw.2.note h.u.tl "bring" b) b).1, false⟩⟩ C3 D3 ?_ ?_ hC3 hD3 ?_
        · rw [List.map_append, hls1]
          rfl
        · rw [← hl1, List.getElem?_append_right (Nat.le_refl _), Nat.sub_self]
          rfl
        · refine Own.right (L' := [(p, .tup (((ops n).br (mw.2.note h.u.tl "bring" b) b).1.map V.int))]) (O7.perm ?_)
          unfold stC
          dsimp only
          rw [lns_app, List.map_append]
          simp only [lnsC, List.map_cons, List.map_nil]
          walk_at "perm"
end
-- WwD
/-! ### promises of a room as a whole: C1 the room's cells, C those behind, D the diary's -/
def spBlockOf : Sp := fun vs H Q _ => ∃ p : Nat, vs = [.int p] ∧ Q (.int ((p / 4 : Nat) : Int)) H
def RPre (K : PySem.W.Frag) (n : Nat) (H : Hp) (di a : Addr) (be : Pa) (r : Rm) (t : Ta) (C1 C D R : List Cell) : Prop :=
  RmOk r ∧ TaOk n t ∧ LBk n 200 t ∧ RmRepK K di a be r C1 ∧ RepK K di be t.rs t.far C ∧ DRep di t.log D ∧ Own H (C1 ++ (C ++ (D ++ R)))
def RPost (K : PySem.W.Frag) (di a : Addr) (be : Pa) (R : List Cell) (r : Rm) (t : Ta) (H' : Hp) : Prop :=
  ∃ C1 C D : List Cell, RmRepK K di a be r C1 ∧ RepK K di be t.rs t.far C ∧ DRep di t.log D ∧ Own H' (C1 ++ (C ++ (D ++ R)))
def spRBring (K : PySem.W.Frag) (n : Nat) : Sp := fun vs H Q _ => ∃ (a : Addr) (be : Pa) (di : Addr) (b : Nat) (r : Rm) (t : Ta) (C1 C D R : List Cell), vs = [.ref a, .int b] ∧ b < 16 ∧ RPre K n H di a be r t C1 C D R ∧
  ∀ (p : Addr) (H' : Hp), RPost K di a be ((p, .tup ((bringL (ops n) r.ru (r.ls b) t b).1.map V.int)) :: R) (r.put b (bringL (ops n) r.ru (r.ls b) t b).2.1) (bringL (ops n) r.ru (r.ls b) t b).2.2 H' → Q (.ref p) H'
def spRLook (K : PySem.W.Frag) (n : Nat) : Sp := fun vs H Q _ => ∃ (a : Addr) (be : Pa) (di : Addr) (p : Nat) (r : Rm) (t : Ta) (C1 C D R : List Cell), vs = [.ref a, .int p] ∧ p < 64 ∧ RPre K n H di a be r t C1 C D R ∧
  ∀ H' : Hp, RPost K di a be R (r.put (p / 4) (lookL (ops n) r.ru (r.ls (p / 4)) t p).2.1) (lookL (ops n) r.ru (r.ls (p / 4)) t p).2.2 H' → Q (.int (lookL (ops n) r.ru (r.ls (p / 4)) t p).1) H'
def spRChange (K : PySem.W.Frag) (n : Nat) : Sp := fun vs H Q _ => ∃ (a : Addr) (be : Pa) (di : Addr) (p : Nat) (v : Int) (r : Rm) (t : Ta) (C1 C D R : List Cell), vs = [.ref a, .int p, .int v] ∧ p < 64 ∧ RPre K n H di a be r t C1 C D R ∧
  ∀ H' : Hp, RPost K di a be R (r.put (p / 4) (changeL (ops n) r.ru (r.ls (p / 4)) t p v).1) (changeL (ops n) r.ru (r.ls (p / 4)) t p v).2 H' → Q .non H'
def spRHome (K : PySem.W.Frag) (n : Nat) : Sp := fun vs H Q _ => ∃ (a : Addr) (be : Pa) (di na : Addr) (no : HO) (b : Nat) (ns : List Int) (r : Rm) (t : Ta) (C1 C D R : List Cell), vs = [.ref a, .int b, .ref na] ∧ b < 16 ∧ ns.length = 4 ∧ SqO no (ns.map V.int) ∧ RPre K n H di a be r t C1 C D ((na, no) :: R) ∧
  ∀ H' : Hp, RPost K di a be ((na, no) :: R) (r.put b (homeL (ops n) r.ru (r.ls b) t b ns).1) (homeL (ops n) r.ru (r.ls b) t b ns).2 H' → Q .non H'
def spRYield (K : PySem.W.Frag) (n : Nat) : Sp := fun vs H Q _ => ∃ (a : Addr) (be : Pa) (di : Addr) (b : Nat) (g : Bool) (r : Rm) (t : Ta) (C1 C D R : List Cell), vs = [.ref a, .int b, .bl g] ∧ b < 16 ∧ RPre K n H di a be r t C1 C D R ∧
  ∀ H' : Hp, RPost K di a be R (r.put b (yieldL (ops n) r.ru (r.ls b) t b g).1) (yieldL (ops n) r.ru (r.ls b) t b g).2 H' → Q .non H'
section
variable {P : Program} {w : World} {K : PySem.W.Frag} {mg : Str → Option Value} {base : Heap} {n lv : Nat}
theorem ok_block_of (T : Txt K mg) : FnOk P w K mg base CX0 1 (He.fAd K ("block_of", none)) T.fd_block_of ["place"] spBlockOf := by
  refine okOf T.F_block_of sc_block_of (fun vs H Q E h => ?_) (fun cdv A outer s H vs Q E hr h => ?_)
  · obtain ⟨_, rfl, _⟩ := h
    rfl
  · obtain ⟨p, rfl, k⟩ := h
    refine ⟨_, (pss_one (ps_ret (pe_op op_fdiv (pv 0) (pe_globI rfl T.g_BLOCK)))), ?_⟩
    refine ⟨_, rfl, _, _, rfl, rfl, ⟨by decide, by decide⟩, ?_⟩
    have e : (p : Int) / 4 = ((p / 4 : Nat) : Int) := by omega
    show Q (.int ((p : Int) / 4)) H
    rw [e]
    exact k
/-- a room opened at a block's set -/
theorem RPre.open {H : Hp} {di a : Addr} {be : Pa} {r : Rm} {t : Ta} {C1 C D R : List Cell} (h : RPre K n H di a be r t C1 C D R) (b : Nat) :
    ∃ (hd : Hd) (sa : Addr) (ls : List LnA) (Z : List Cell), hd.a = a ∧ hd.be = be ∧ hd.di = di ∧ hd.u = r.ru ∧ hd.sas[b % hd.sas.length]? = some sa ∧ ls.map (·.l) = r.ls b ∧ RuOk hd.u ∧ LsOk hd.u (ls.map (·.l)) ∧ TaOk n t ∧ LBk n 200 t ∧ RepK K di be t.rs t.far C ∧ DRep di t.log D ∧
      Own H (hdC (cR K) hd ++ (stC (cL K) (sa, ls) ++ (C ++ (D ++ (Z ++ R))))) ∧
      ∀ (ls' : List LnA) (t' : Ta) (C' D' R' : List Cell) (H' : Hp), RepK K di be t'.rs t'.far C' → DRep di t'.log D' → Own H' (hdC (cR K) hd ++ (stC (cL K) (sa, ls') ++ (C' ++ (D' ++ (Z ++ R'))))) → RPost K di a be R' (r.put b (ls'.map (·.l))) t' H' := by
  obtain ⟨hr, ht, hlb, h1, hC, hD, O⟩ := h
  obtain ⟨hd, sa, ls, Z, e1, e2, e3, e4, e5, hix, els, hp, hback⟩ := h1.at hr.s0 b
  refine ⟨hd, sa, ls, Z, e1, e2, e3, e4, hix, els, by rw [e4]; exact hr.ru, by rw [e4, els]; exact hr.ls b, ht, hlb, hC, hD, O.perm ?_, fun ls' t' C' D' R' H' hC' hD' O' => ?_⟩
  · refine (List.Perm.append_right _ hp).trans ?_
    walk_at "perm"
  · obtain ⟨C1', h1', hp'⟩ := hback ls'
    refine ⟨C1', C', D', h1', hC', hD', O'.perm ?_⟩
    refine List.Perm.trans ?_ (List.Perm.append_right _ hp').symm
    walk_at "perm"
theorem ok_R_bring (T : Txt K mg) (B : Beh P w K mg base n lv) (hv : 1 ≤ lv) : FnOk P w K mg base CX0 (lv + 4) (He.fAd K ("Room", some "bring")) T.fd_Room_bring ["self", "block"] (spRBring K n) := by
  have G_Room_reach := ok_reach T B hv
  refine okOf T.F_Room_bring sc_Room_bring (fun vs H Q E h => ?_) (fun cdv A outer s H vs Q E hr h => ?_)
  · obtain ⟨_, _, _, _, _, _, _, _, _, _, rfl, _⟩ := h
    rfl
  · obtain ⟨a, be, di, b, r, t, C1, C, D, R, rfl, hb, hpre, k⟩ := h
    obtain ⟨hd, sa, ls, Z, rfl, rfl, rfl, eu, hix, els, hu, hls, ht, hlb, hC, hD, O, hback⟩ := hpre.open b
    rw [← eu, ← els] at k
    refine ⟨_, (pss_one (ps_ret (pe_callTy call_tuple_of (by rfl) T.n_tuple (by decide +kernel) (pa_cons (pe_fld (pe_meth (pv 0) T.cl_Room T.m_Room_reach G_Room_reach (hr.mono (by omega)) T.b_Room_reach .nil pass0 (pa_cons (pv 1) pa_nil)) rfl) pa_nil)))), ?_⟩
    refine ⟨_, rfl, hd.a, hd.dx, _, rfl, O.a0, no_Room_reach, _, rfl, hd, b, sa, ls, t, C, D, Z ++ R, rfl, hb, hix, hu, hls, ht, hlb.le (by omega), hC, hD, O, fun H1 ls1 l C1' D1 hls1 hl1 hC1 hD1 O1 => ?_⟩
    have hm := fun c hc => O1.mem (List.mem_append_right _ (List.mem_append_left _ (List.mem_cons_of_mem _ (lns_mem hl1 c hc))))
    have h1 : H1 l.a = some (.ins (cL K) l.dx (fLine (.int l.l.b) (.ref l.na) (.bl l.l.d))) := hm (_, _) List.mem_cons_self
    have h2 : H1 l.na = some (.lst (l.l.ns.map V.int)) := hm (_, _) (List.mem_cons_of_mem _ List.mem_cons_self)
    refine ⟨l.a, cL K, l.dx, _, _, rfl, h1, T.cl_Line, T.na_Line_numbers, lk_Line_numbers, l.na, _, rfl, .inl ⟨SqL.of h2, fun q hq => ?_⟩⟩
    have O2 := O1.new (o := .tup (l.l.ns.map V.int)) hq
    have e : (bringL (ops n) hd.u (ls.map (·.l)) t b).1 = l.l.ns := by
      unfold bringL
      dsimp only
      rw [lnAt_get (l := l.l)]
      rw [← hls1, List.getElem?_map, hl1]
      rfl
    have k2 := k q (upd H1 q (.tup (l.l.ns.map V.int)))
    rw [e] at k2
    refine k2 ?_
    show RPost K hd.di hd.a hd.be _ (r.put b (reachL (ops n) hd.u (ls.map (·.l)) t b).1) _ _
    rw [← hls1]
    exact hback ls1 _ C1' D1 _ _ hC1 hD1 (O2.perm (by walk_at "perm"))
theorem ok_R_look (T : Txt K mg) (B : Beh P w K mg base n lv) (hv : 1 ≤ lv) : FnOk P w K mg base CX0 (lv + 4) (He.fAd K ("Room", some "look")) T.fd_Room_look ["self", "place"] (spRLook K n) := by
  have G_Room_reach := ok_reach T B hv
  have G_block_of := ok_block_of (P := P) (w := w) (base := base) T
  refine okOf T.F_Room_look sc_Room_look (fun vs H Q E h => ?_) (fun cdv A outer s H vs Q E hr h => ?_)
  · obtain ⟨_, _, _, _, _, _, _, _, _, _, rfl, _⟩ := h
    rfl
  · obtain ⟨a, be, di, p, r, t, C1, C, D, R, rfl, hp, hpre, k⟩ := h
    obtain ⟨hd, sa, ls, Z, rfl, rfl, rfl, eu, hix, els, hu, hls, ht, hlb, hC, hD, O, hback⟩ := hpre.open (p / 4)
    rw [← eu, ← els] at k
    have hb : p / 4 < 16 := by omega
    refine ⟨_, (pss_one (ps_ret (pe_ix ix_list (pe_fld (pe_meth (pv 0) T.cl_Room T.m_Room_reach G_Room_reach (hr.mono (by omega)) T.b_Room_reach .nil pass0 (pa_cons (pe_call G_block_of (hr.mono (by omega)) rfl T.g_block_of T.k_block_of T.b_block_of .nil pass0 (pa_cons (pv 1) pa_nil)) pa_nil)) rfl) (pe_op op_mod (pv 1) (pe_globI rfl T.g_BLOCK)) (fun _ _ => rfl)))), ?_⟩
    refine ⟨_, rfl, hd.a, hd.dx, _, rfl, O.a0, no_Room_reach, _, rfl, p, rfl, hd, p / 4, sa, ls, t, C, D, Z ++ R, rfl, hb, hix, hu, hls, ht, hlb.le (by omega), hC, hD, O, fun H1 ls1 l C1' D1 hls1 hl1 hC1 hD1 O1 => ?_⟩
    have hm := fun c hc => O1.mem (List.mem_append_right _ (List.mem_append_left _ (List.mem_cons_of_mem _ (lns_mem hl1 c hc))))
    have h1 : H1 l.a = some (.ins (cL K) l.dx (fLine (.int l.l.b) (.ref l.na) (.bl l.l.d))) := hm (_, _) List.mem_cons_self
    have h2 : H1 l.na = some (.lst (l.l.ns.map V.int)) := hm (_, _) (List.mem_cons_of_mem _ List.mem_cons_self)
    obtain ⟨_, _, ⟨l2, hl2, _, hlo⟩, _⟩ := reachL_ok (ops_ok n) hu hls ht hb
    have el2 : l2 = l.l := by
      rw [← hls1, List.getElem?_map, hl1] at hl2
      exact (Option.some.inj hl2).symm
    subst el2
    have h4 := hlo.ns
    have hpl : p % 4 < l.l.ns.length := by omega
    refine ⟨l.a, cL K, l.dx, _, _, rfl, h1, T.cl_Line, T.na_Line_numbers, lk_Line_numbers, _, rfl, _, _, rfl, rfl, (by show (0 : Int) < 4; decide), l.na, _, _, .int (l.l.ns.getD (p % 4) 0), rfl, rfl, SqL.of h2, ?_, ?_⟩
    · have e : (p : Int) % 4 = ((p % 4 : Nat) : Int) := by omega
      rw [e]
      refine atI_nat ?_
      rw [List.getElem?_map, List.getD_eq_getElem?_getD, List.getElem?_eq_getElem hpl]
      rfl
    · have e : (lookL (ops n) hd.u (ls.map (·.l)) t p).1 = l.l.ns.getD (p % 4) 0 := by
        unfold lookL
        dsimp only
        rw [lnAt_get hl2]
      have k2 := k H1
      rw [e] at k2
      refine k2 ?_
      show RPost K hd.di hd.a hd.be R (r.put (p / 4) (reachL (ops n) hd.u (ls.map (·.l)) t (p / 4)).1) _ _
      rw [← hls1]
      exact hback ls1 _ C1' D1 _ _ hC1 hD1 O1
theorem isN_ite {a : Addr} {A B : Prop} (h : B) : if (decide (V.ref a = V.non)) = true then A else B := by
  rw [isN_ref]
  exact h
theorem isN_ite0 {A B : Prop} (h : A) : if (decide (V.non = V.non)) = true then A else B := by
  rw [decide_eq_true rfl]
  exact h
theorem changeL_by {o : Ops} {u : Ru} {ls : List Ln} {t : Ta} {p : Nat} {v : Int} (h1 : u.inn = false) (h2 : fnd (p / 4) ls = none) : changeL o u ls t p v = (ls, passC o u.tl t p v) := by
  unfold changeL
  rw [if_pos ⟨h1, h2⟩]
theorem changeL_in {o : Ops} {u : Ru} {ls : List Ln} {t : Ta} {p : Nat} {v : Int} (h : ¬ (u.inn = false ∧ fnd (p / 4) ls = none)) : changeL o u ls t p v =
    ((reachL o u ls t (p / 4)).1.set (reachL o u ls t (p / 4)).2.2 (setCell u.bk (lnAt (reachL o u ls t (p / 4)).1 (reachL o u ls t (p / 4)).2.2) p v),
      if u.bk = true then (reachL o u ls t (p / 4)).2.1 else passC o u.tl (reachL o u ls t (p / 4)).2.1 p v) := by
  unfold changeL
  rw [if_neg h]
theorem ok_R_change (T : Txt K mg) (B : Beh P w K mg base n lv) (hv : 1 ≤ lv) : FnOk P w K mg base CX0 (lv + 4) (He.fAd K ("Room", some "change")) T.fd_Room_change ["self", "place", "number"] (spRChange K n) := by
  have G_Room_reach := ok_reach T B hv
  have G_block_of := ok_block_of (P := P) (w := w) (base := base) T
  have G_Room_line_of := ok_line_of (P := P) (w := w) (base := base) T
  have G_Room_pass_cell := ok_pass_cell T B hv
  refine okOf T.F_Room_change sc_Room_change (fun vs H Q E h => ?_) (fun cdv A outer s H vs Q E hr h => ?_)
  · obtain ⟨_, _, _, _, _, _, _, _, _, _, _, rfl, _⟩ := h
    rfl
  · obtain ⟨a, be, di, p, v, r, t, C1, C, D, R, rfl, hp, hpre, k⟩ := h
    obtain ⟨hd, sa, ls, Z, rfl, rfl, rfl, eu, hix, els, hu, hls, ht, hlb, hC, hD, O, hback⟩ := hpre.open (p / 4)
    rw [← eu, ← els] at k
    have hb : p / 4 < 16 := by omega
    have hg39 := gOf_le hlb.1
    refine ⟨_, (pss_cons (ps_if (PW.pt (pw_and (pt_not (pt_val (pe_fld (pv 0) rfl))) (pw_and1 (pt_cmpR op_isN (pe_meth (pv 0) T.cl_Room T.m_Room_line_of G_Room_line_of (hr.mono (by omega)) T.b_Room_line_of .nil pass0 (pa_cons (pe_call G_block_of (hr.mono (by omega)) rfl T.g_block_of T.k_block_of T.b_block_of .nil pass0 (pa_cons (pv 1) pa_nil)) pa_nil)) pe_non (nomark _))))) (pss_cons (ps_expr (pe_meth (pv 0) T.cl_Room T.m_Room_pass_cell G_Room_pass_cell (hr.mono (by omega)) T.b_Room_pass_cell .nil pass0 (pa_cons (pv 1) (pa_cons (pv 2) pa_nil)))) (pss_one ps_retN)) pss_nil) (pss_cons (ps_set (i := 3) sc_Room_change.nd rfl (Or.inl rfl) (pe_meth (pv 0) T.cl_Room T.m_Room_reach G_Room_reach (hr.mono (by omega)) T.b_Room_reach .nil pass0 (pa_cons (pe_call G_block_of (hr.mono (by omega)) rfl T.g_block_of T.k_block_of T.b_block_of .nil pass0 (pa_cons (pv 1) pa_nil)) pa_nil))) (pss_cons (ps_asg (pv 2) (pg_sub (pe_fld (pv 3) rfl) (pe_op op_mod (pv 1) (pe_globI rfl T.g_BLOCK)) set_list)) (pss_one (ps_if (pt_val (pe_fld (pv 0) rfl)) (pss_one (ps_fld (pv 3) pe_bl rfl)) (pss_one (ps_expr (pe_meth (pv 0) T.cl_Room T.m_Room_pass_cell G_Room_pass_cell (hr.mono (by omega)) T.b_Room_pass_cell .nil pass0 (pa_cons (pv 1) (pa_cons (pv 2) pa_nil)))))))))), ?_⟩
    refine ⟨_, rfl, hd.a, cR K, hd.dx, _, _, rfl, O.a0, T.cl_Room, T.na_Room_is_in, lk_Room_is_in, _, rfl, ?_⟩
    -- the other way: the block is reached
    have main : ¬ (hd.u.inn = false ∧ fnd (p / 4) (ls.map (·.l)) = none) → tSeq (tAsg (tMeth (cR K) "reach" (spReach K n) [] E0 (tVar 0) (tCons (tCall spBlockOf [] E0 (tCons (tVar 1) tNil)) tNil)) (gName 3))
        (tSeq (tAsg (tVar 2) (gSub (tFld K (tVar 3) "numbers") (tOp (rI (fun _ j => 0 < j) fun i j => .int (i % j)) (tVar 1) (tC (.int 4))) rSetL))
          (tIfS (tB (tFld K (tVar 0) "is_back")) (sFld K (tVar 3) (tC (.bl true)) "is_dirty") (tDrop (tMeth (cR K) "pass_cell" (spPassCell K n) [] E0 (tVar 0) (tCons (tVar 1) (tCons (tVar 2) tNil))))))
        { nx := fun _ H' => Q .non H', rt := Q } [some (.ref hd.a), some (.int p), some (.int v), none] H := by
      intro hnot
      rw [changeL_in hnot] at k
      refine ⟨_, rfl, hd.a, hd.dx, _, rfl, O.a0, no_Room_reach, _, rfl, p, rfl, hd, p / 4, sa, ls, t, C, D, Z ++ R, rfl, hb, hix, hu, hls, ht, hlb.le (by omega), hC, hD, O, fun H1 ls1 l C1' D1 hls1 hl1 hC1 hD1 O1 => ?_⟩
      obtain ⟨q1, q2, ⟨l2, hl2, _, hlo⟩, q4⟩ := reachL_ok (ops_ok n) hu hls ht hb
      have el2 : l2 = l.l := by
        rw [← hls1, List.getElem?_map, hl1] at hl2
        exact (Option.some.inj hl2).symm
      subst el2
      rw [lnAt_get hl2, ← hls1] at k
      generalize reachL (ops n) hd.u (ls.map (·.l)) t (p / 4) = rr at *
      have h4 := hlo.ns
      have hpl : p % 4 < l.l.ns.length := by omega
      have hi1 : rr.2.2 < ls1.length := (List.getElem?_eq_some_iff.mp hl1).1
      have hlb2 := hlb.2
      -- the line in front
      have O2 := O1.perm (L' := (l.a, .ins (cL K) l.dx (fLine (.int l.l.b) (.ref l.na) (.bl l.l.d))) :: (l.na, .lst (l.l.ns.map V.int)) :: (hdC (cR K) hd ++ (((sa, .lst (ls1.map fun l => V.ref l.a)) :: lnsC (cL K) (ls1.eraseIdx rr.2.2)) ++ (C1' ++ (D1 ++ (Z ++ R)))))) (by
        refine (List.Perm.append_left _ (List.Perm.append_right _ (List.Perm.cons _ (lns_focus hl1)))).trans ?_
        unfold lnC
        walk_at "perm")
      refine ⟨_, rfl, _, rfl, l.a, cL K, l.dx, _, _, rfl, O2.a0, T.cl_Line, T.na_Line_numbers, lk_Line_numbers, _, rfl, _, _, rfl, rfl, (by show (0 : Int) < 4; decide), l.na, _, _, p % 4, rfl, rfl, O2.a1, ?_, ?_⟩
      · rw [List.length_map]
        unfold ixN
        rw [if_pos (by omega), if_pos (by omega)]
        congr 1
      · have O3 := (O2.perm (L' := (l.na, .lst (l.l.ns.map V.int)) :: (l.a, .ins (cL K) l.dx (fLine (.int l.l.b) (.ref l.na) (.bl l.l.d))) :: (hdC (cR K) hd ++ (((sa, .lst (ls1.map fun l => V.ref l.a)) :: lnsC (cL K) (ls1.eraseIdx rr.2.2)) ++ (C1' ++ (D1 ++ (Z ++ R)))))) (by walk_at "perm")).set (o' := .lst ((l.l.ns.map V.int).set (p % 4) (.int v)))
        generalize upd H1 l.na _ = H3 at O3 ⊢
        rw [show (l.l.ns.map V.int).set (p % 4) (.int v) = (l.l.ns.set (p % 4) v).map V.int from (List.map_set ..).symm] at O3
        -- the set as it stands with the line l'
        have fin : ∀ (d : Bool) (H4 : Hp) (t' : Ta) (C4 D4 : List Cell), d = (hd.u.bk || l.l.d) → RepK K hd.di hd.be t'.rs t'.far C4 → DRep hd.di t'.log D4 →
            Own H4 ((l.na, .lst ((l.l.ns.set (p % 4) v).map V.int)) :: (l.a, .ins (cL K) l.dx (fLine (.int l.l.b) (.ref l.na) (.bl d))) :: (hdC (cR K) hd ++ (((sa, .lst (ls1.map fun l => V.ref l.a)) :: lnsC (cL K) (ls1.eraseIdx rr.2.2)) ++ (C4 ++ (D4 ++ (Z ++ R)))))) →
            RPost K hd.di hd.a hd.be R (r.put (p / 4) ((ls1.map (·.l)).set rr.2.2 (setCell hd.u.bk l.l p v))) t' H4 := by
          intro d H4 t' C4 D4 ed hC4 hD4 O4
          have e1 : (ls1.map (·.l)).set rr.2.2 (setCell hd.u.bk l.l p v) = (ls1.set rr.2.2 ⟨l.a, l.dx, l.na, setCell hd.u.bk l.l p v⟩).map (·.l) := by rw [List.map_set]
          rw [e1]
          refine hback _ t' C4 D4 R H4 hC4 hD4 (O4.perm ?_)
          have e2 : (ls1.set rr.2.2 ⟨l.a, l.dx, l.na, setCell hd.u.bk l.l p v⟩).map (fun l => V.ref l.a) = ls1.map fun l => V.ref l.a := by
            rw [List.map_set]
            apply List.ext_getElem?
            intro i
            by_cases e : rr.2.2 = i
            · subst e
              rw [List.getElem?_set_self (by rw [List.length_map]; exact hi1), List.getElem?_map, hl1]
              rfl
            · rw [List.getElem?_set_ne e]
          refine List.Perm.trans ?_ (List.Perm.append_left _ (List.Perm.append_right _ (List.Perm.cons _ (lns_set (CL := cL K) (l := ⟨l.a, l.dx, l.na, setCell hd.u.bk l.l p v⟩) hi1)))).symm
          rw [e2]
          unfold lnC setCell
          dsimp only
          rw [ed]
          walk_at "perm"
        refine ⟨_, rfl, hd.a, cR K, hd.dx, _, _, rfl, O3.a2, T.cl_Room, T.na_Room_is_back, lk_Room_is_back, _, rfl, ?_⟩
        cases hbk : hd.u.bk with
        | true =>
          rw [hbk, if_pos rfl] at k
          refine iteT ⟨_, rfl, l.a, cL K, l.dx, _, rfl, O3.a1, T.cl_Line, T.na_Line_is_dirty, by show 3 < 1000; decide, ?_⟩
          have O4 := (O3.perm (L' := (l.a, .ins (cL K) l.dx (fLine (.int l.l.b) (.ref l.na) (.bl l.l.d))) :: (l.na, .lst ((l.l.ns.set (p % 4) v).map V.int)) :: (hdC (cR K) hd ++ (((sa, .lst (ls1.map fun l => V.ref l.a)) :: lnsC (cL K) (ls1.eraseIdx rr.2.2)) ++ (C1' ++ (D1 ++ (Z ++ R)))))) (by walk_at "perm")).set (o' := .ins (cL K) l.dx (putF "is_dirty" (.bl true) (fLine (.int l.l.b) (.ref l.na) (.bl l.l.d))))
          rw [pf_Line_is_dirty] at O4 ⊢
          have f2 := fin true _ rr.2.1 C1' D1 (by rw [hbk]; rfl) hC1 hD1 (O4.perm (by walk_at "perm"))
          rw [hbk] at f2
          exact k _ f2
        | false =>
          rw [hbk, if_neg Bool.false_ne_true] at k
          refine iteF ⟨_, rfl, hd.a, hd.dx, _, rfl, O3.a2, no_Room_pass_cell, _, rfl, _, rfl, hd, p, v, rr.2.1, C1', D1, (l.na, .lst ((l.l.ns.set (p % 4) v).map V.int)) :: (l.a, .ins (cL K) l.dx (fLine (.int l.l.b) (.ref l.na) (.bl l.l.d))) :: (((sa, .lst (ls1.map fun l => V.ref l.a)) :: lnsC (cL K) (ls1.eraseIdx rr.2.2)) ++ (Z ++ R)), rfl, hp, hu, q2, ⟨hlb.1, by omega⟩, hC1, hD1, O3.perm (by walk_at "perm"), fun H5 C5 D5 hC5 hD5 O5 => ?_⟩
          have f2 := fin l.l.d _ (passC (ops n) hd.u.tl rr.2.1 p v) C5 D5 (by rw [hbk]; rfl) hC5 hD5 (O5.perm (by walk_at "perm"))
          rw [hbk] at f2
          exact k _ f2
    cases hin : hd.u.inn with
    | true => exact iteF (iteF (main (by rw [hin]; exact fun z => nomatch z.1)))
    | false =>
      refine iteT ⟨_, rfl, hd.a, hd.dx, _, rfl, O.a0, no_Room_line_of, _, rfl, p, rfl, hd, p / 4, sa, ls, C ++ (D ++ (Z ++ R)), rfl, hix, O, fun i l hf hl => ?_, fun hf => ?_⟩
      · exact ⟨rfl, _, rfl, isN_ite (main (by rw [hf]; exact fun z => nomatch z.2))⟩
      · refine ⟨rfl, _, rfl, isN_ite0 ?_⟩
        rw [changeL_by hin hf] at k
        refine ⟨_, rfl, hd.a, hd.dx, _, rfl, O.a0, no_Room_pass_cell, _, rfl, _, rfl, hd, p, v, t, C, D, stC (cL K) (sa, ls) ++ (Z ++ R), rfl, hp, hu, ht, hlb.le (by omega), hC, hD, O.perm (by walk_at "perm"), fun H5 C5 D5 hC5 hD5 O5 => ?_⟩
        exact k _ (hback ls _ C5 D5 R H5 hC5 hD5 (O5.perm (by walk_at "perm")))
end
-- WwE
theorem homeL_by {o : Ops} {u : Ru} {ls : List Ln} {t : Ta} {b : Nat} {ns : List Int} (h1 : fnd b ls = none) (h2 : u.inn = false) : homeL o u ls t b ns = (ls, passH o u.tl t b ns) := by
  unfold homeL
  rw [h1]
  dsimp only
  rw [h2, if_neg Bool.false_ne_true]
theorem homeL_new {o : Ops} {u : Ru} {ls : List Ln} {t : Ta} {b : Nat} {ns : List Int} (h1 : fnd b ls = none) (h2 : u.inn = true) : homeL o u ls t b ns = ((mkWay o u ls t).1 ++ [⟨b, ns, u.bk⟩], if u.bk = true then (mkWay o u ls t).2 else passH o u.tl (mkWay o u ls t).2 b ns) := by
  unfold homeL
  rw [h1]
  dsimp only
  rw [h2, if_pos rfl]
theorem homeL_hit {o : Ops} {u : Ru} {ls : List Ln} {t : Ta} {b i : Nat} {ns : List Int} (h1 : fnd b ls = some i) : homeL o u ls t b ns = ((touchL u.lt ls i).set (touchI u.lt ls i) ⟨b, ns, u.bk⟩, if u.bk = true then t else passH o u.tl t b ns) := by
  unfold homeL
  rw [h1]
theorem refs_set {ls : List LnA} {i : Nat} {l l' : LnA} (h : ls[i]? = some l) (e : l'.a = l.a) : (ls.set i l').map (fun l => V.ref l.a) = ls.map fun l => V.ref l.a := by
  have hi : i < ls.length := (List.getElem?_eq_some_iff.mp h).1
  rw [List.map_set]
  apply List.ext_getElem?
  intro j
  by_cases ej : i = j
  · subst ej
    rw [List.getElem?_set_self (by rw [List.length_map]; exact hi), List.getElem?_map, h, e]
    rfl
  · rw [List.getElem?_set_ne ej]
/-- a set's cells with one line in front -/
theorem st_focus {CL sa : Addr} {ls : List LnA} {i : Nat} {l : LnA} (h : ls[i]? = some l) : (stC CL (sa, ls)).Perm (lnC CL l ++ ((sa, .lst (ls.map fun l => V.ref l.a)) :: lnsC CL (ls.eraseIdx i))) := by
  unfold stC
  refine (List.Perm.cons _ (lns_focus h)).trans ?_
  walk_at "perm"
theorem st_back {CL sa : Addr} {ls : List LnA} {i : Nat} {l l' : LnA} (h : ls[i]? = some l) (e : l'.a = l.a) : (lnC CL l' ++ ((sa, .lst (ls.map fun l => V.ref l.a)) :: lnsC CL (ls.eraseIdx i))).Perm (stC CL (sa, ls.set i l')) := by
  have hi : i < ls.length := (List.getElem?_eq_some_iff.mp h).1
  unfold stC
  dsimp only
  rw [refs_set h e]
  refine List.Perm.trans ?_ (List.Perm.cons _ (lns_set hi)).symm
  walk_at "perm"
section
variable {P : Program} {w : World} {K : PySem.W.Frag} {mg : Str → Option Value} {base : Heap} {n lv : Nat}
theorem ok_R_home (T : Txt K mg) (B : Beh P w K mg base n lv) (hv : 1 ≤ lv) : FnOk P w K mg base CX0 (lv + 4) (He.fAd K ("Room", some "home")) T.fd_Room_home ["self", "block", "numbers"] (spRHome K n) := by
  have G_Room_line_of := ok_line_of (P := P) (w := w) (base := base) T
  have G_Room_lines_of := ok_lines_of (P := P) (w := w) (base := base) T
  have G_Room_touch := ok_touch (P := P) (w := w) (base := base) T
  have G_Line___init__ := ok_Line_init (P := P) (w := w) (base := base) T
  have G_Room_pass_home := ok_pass_home T B hv
  have G_Room_make_way := ok_make_way T B hv
  refine okOf T.F_Room_home sc_Room_home (fun vs H Q E h => ?_) (fun cdv A outer s H vs Q E hr h => ?_)
  · obtain ⟨_, _, _, _, _, _, _, _, _, _, _, _, _, rfl, _⟩ := h
    rfl
  · obtain ⟨a, be, di, na, no, b, ns, r, t, C1, C, D, R, rfl, hb, hn, hno, hpre, k⟩ := h
    obtain ⟨hd, sa, ls, Z, rfl, rfl, rfl, eu, hix, els, hu, hls, ht, hlb, hC, hD, O, hback⟩ := hpre.open b
    rw [← eu, ← els] at k
    have hg39 := gOf_le hlb.1
    have hlen := hls.len
    have hw4 := hu.w4
    rw [List.length_map] at hlen
    refine ⟨_, (pss_cons (ps_set (i := 3) sc_Room_home.nd rfl (Or.inl rfl) (pe_meth (pv 0) T.cl_Room T.m_Room_line_of G_Room_line_of (hr.mono (by omega)) T.b_Room_line_of .nil pass0 (pa_cons (pv 1) pa_nil))) (pss_cons (ps_if (PW.pt (pw_and (pt_cmpR op_isN (pv 3) pe_non (nomark _)) (pw_and1 (pt_not (pt_val (pe_fld (pv 0) rfl)))))) (pss_cons (ps_expr (pe_meth (pv 0) T.cl_Room T.m_Room_pass_home G_Room_pass_home (hr.mono (by omega)) T.b_Room_pass_home .nil pass0 (pa_cons (pe_make T.mk_Line G_Line___init__ (hr.mono (by omega)) rfl T.g_Line T.b_Line___init__ .nil pass0 (pa_cons (pv 1) (pa_cons (pv 2) pa_nil))) pa_nil))) (pss_one ps_retN)) pss_nil) (pss_cons (ps_if (pt_cmpR op_isN (pv 3) pe_non (nomark _)) (pss_cons (ps_expr (pe_meth (pv 0) T.cl_Room T.m_Room_make_way G_Room_make_way (hr.mono (by omega)) T.b_Room_make_way .nil pass0 (pa_cons (pv 1) pa_nil))) (pss_cons (ps_set (i := 3) sc_Room_home.nd rfl (Or.inl rfl) (pe_make T.mk_Line G_Line___init__ (hr.mono (by omega)) rfl T.g_Line T.b_Line___init__ .nil pass0 (pa_cons (pv 1) (pa_cons (pv 2) pa_nil)))) (pss_one (ps_expr (pe_bm PySem.F.plainAttrs_list PySem.F.slot_list_append PySem.F.type_list_append mt_append (pe_meth (pv 0) T.cl_Room T.m_Room_lines_of G_Room_lines_of (hr.mono (by omega)) T.b_Room_lines_of .nil pass0 (pa_cons (pv 1) pa_nil)) (pa_cons (pv 3) pa_nil)))))) (pss_cons (ps_expr (pe_meth (pv 0) T.cl_Room T.m_Room_touch G_Room_touch (hr.mono (by omega)) T.b_Room_touch .nil pass0 (pa_cons (pv 3) pa_nil))) (pss_one (ps_fld (pv 3) (pe_callTy call_list_of (by rfl) T.n_list (by decide +kernel) (pa_cons (pv 2) pa_nil)) rfl)))) (pss_cons (ps_fld (pv 3) pe_bl rfl) (pss_one (ps_if (pt_not (pt_val (pe_fld (pv 0) rfl))) (pss_one (ps_expr (pe_meth (pv 0) T.cl_Room T.m_Room_pass_home G_Room_pass_home (hr.mono (by omega)) T.b_Room_pass_home .nil pass0 (pa_cons (pv 3) pa_nil)))) pss_nil)))))), ?_⟩
    -- line.is_dirty = True; if not self.is_back: self.pass_home(line)
    have rest : ∀ (H1 : Hp) (ls1 : List LnA) (j : Nat) (l : LnA) (t1 : Ta) (C1 D1 : List Cell), ls1[j]? = some l → LnOk l.l → TaOk n t1 → LBk n 1 t1 → RepK K hd.di hd.be t1.rs t1.far C1 → DRep hd.di t1.log D1 →
        Own H1 (hdC (cR K) hd ++ (stC (cL K) (sa, ls1) ++ (C1 ++ (D1 ++ (Z ++ ((na, no) :: R)))))) →
        (∀ H' : Hp, RPost K hd.di hd.a hd.be ((na, no) :: R) (r.put b ((ls1.map (·.l)).set j { l.l with d := hd.u.bk })) (if hd.u.bk = true then t1 else passH (ops n) hd.u.tl t1 l.l.b l.l.ns) H' → Q .non H') →
        tSeq (sFld K (tVar 3) (tC (.bl true)) "is_dirty") (tIfS (tNot (tB (tFld K (tVar 0) "is_back"))) (tDrop (tMeth (cR K) "pass_home" (spPassHome K n) [] E0 (tVar 0) (tCons (tVar 3) tNil))) tNext)
          { nx := fun _ H' => Q .non H', rt := Q } [some (.ref hd.a), some (.int b), some (.ref na), some (.ref l.a)] H1 := by
      intro H1 ls1 j l t1 C1 D1 hl hlo ht1 hlb1 hC1 hD1 O1 k1
      have O2 := O1.perm (L' := (l.a, .ins (cL K) l.dx (fLine (.int l.l.b) (.ref l.na) (.bl l.l.d))) :: (l.na, .lst (l.l.ns.map V.int)) :: (hdC (cR K) hd ++ (((sa, .lst (ls1.map fun l => V.ref l.a)) :: lnsC (cL K) (ls1.eraseIdx j)) ++ (C1 ++ (D1 ++ (Z ++ ((na, no) :: R))))))) (by
        refine (List.Perm.append_left _ (List.Perm.append_right _ (st_focus hl))).trans ?_
        unfold lnC
        walk_at "perm")
      refine ⟨_, rfl, l.a, cL K, l.dx, _, rfl, O2.a0, T.cl_Line, T.na_Line_is_dirty, by show 3 < 1000; decide, ?_⟩
      have O3 := O2.set (o' := .ins (cL K) l.dx (putF "is_dirty" (.bl true) (fLine (.int l.l.b) (.ref l.na) (.bl l.l.d))))
      rw [pf_Line_is_dirty] at O3 ⊢
      generalize upd H1 l.a _ = H3 at O3 ⊢
      have fin : ∀ (d : Bool) (H4 : Hp) (t' : Ta) (C4 D4 : List Cell), RepK K hd.di hd.be t'.rs t'.far C4 → DRep hd.di t'.log D4 →
          Own H4 (lnC (cL K) ⟨l.a, l.dx, l.na, { l.l with d := d }⟩ ++ (hdC (cR K) hd ++ (((sa, .lst (ls1.map fun l => V.ref l.a)) :: lnsC (cL K) (ls1.eraseIdx j)) ++ (C4 ++ (D4 ++ (Z ++ ((na, no) :: R))))))) →
          RPost K hd.di hd.a hd.be ((na, no) :: R) (r.put b ((ls1.map (·.l)).set j { l.l with d := d })) t' H4 := by
        intro d H4 t' C4 D4 hC4 hD4 O4
        have e1 : (ls1.map (·.l)).set j { l.l with d := d } = (ls1.set j ⟨l.a, l.dx, l.na, { l.l with d := d }⟩).map (·.l) := by rw [List.map_set]
        rw [e1]
        refine hback _ t' C4 D4 _ H4 hC4 hD4 (O4.perm ?_)
        refine List.Perm.trans ?_ (List.Perm.append_left _ (List.Perm.append_right _ (st_back (CL := cL K) (sa := sa) (l' := ⟨l.a, l.dx, l.na, { l.l with d := d }⟩) hl rfl)))
        walk_at "perm"
      refine ⟨_, rfl, hd.a, cR K, hd.dx, _, _, rfl, O3.a2, T.cl_Room, T.na_Room_is_back, lk_Room_is_back, _, rfl, ?_⟩
      cases hbk : hd.u.bk with
      | true =>
        rw [hbk, if_pos rfl] at k1
        exact iteF (k1 _ (fin true H3 t1 C1 D1 hC1 hD1 O3))
      | false =>
        rw [hbk, if_neg Bool.false_ne_true] at k1
        refine iteT ⟨_, rfl, hd.a, hd.dx, _, rfl, O3.a2, no_Room_pass_home, _, rfl, hd, ⟨l.a, l.dx, l.na, { l.l with d := true }⟩, t1, C1, D1, ((sa, .lst (ls1.map fun l => V.ref l.a)) :: lnsC (cL K) (ls1.eraseIdx j)) ++ (Z ++ ((na, no) :: R)), rfl, ⟨hlo.b, hlo.ns⟩, hu, ht1, hlb1, hC1, hD1, O3.perm (by unfold lnC; walk_at "perm"), fun H5 C5 D5 hC5 hD5 O5 => ?_⟩
        exact k1 _ (fin false H5 _ C5 D5 hC5 hD5 (O5.perm (by walk_at "perm")))
    refine ⟨_, rfl, hd.a, hd.dx, _, rfl, O.a0, no_Room_line_of, _, rfl, hd, b, sa, ls, C ++ (D ++ (Z ++ ((na, no) :: R))), rfl, hix, O, fun i l hf hl => ?_, fun hf => ?_⟩
    · -- it is there
      refine ⟨_, rfl, rfl, _, rfl, isN_ite (iteF ⟨_, rfl, rfl, _, rfl, isN_ite ?_⟩)⟩
      have eb : l.l.b = b := by
        obtain ⟨l2, h2, h3, _⟩ := fnd_some hf
        rw [List.getElem?_map, hl] at h2
        have : l.l = l2 := Option.some.inj h2
        rw [this]
        exact h3
      have hi : i < ls.length := (List.getElem?_eq_some_iff.mp hl).1
      rw [homeL_hit hf, touch_map, touchI_map] at k
      refine ⟨_, rfl, hd.a, hd.dx, _, rfl, O.a0, no_Room_touch, _, rfl, hd, sa, ls, i, l, C ++ (D ++ (Z ++ ((na, no) :: R))), rfl, hl, by rw [eb]; exact hix, by omega, O, fun H1 O1 => ?_⟩
      have hl1 : (touchL hd.u.lt ls i)[touchI hd.u.lt ls i]? = some l := (touch_get hi).trans hl
      generalize touchL hd.u.lt ls i = ls1 at O1 hl1 k
      generalize touchI hd.u.lt ls i = j at hl1 k
      have hj : j < ls1.length := (List.getElem?_eq_some_iff.mp hl1).1
      have hna : H1 na = some no := O1.mem (by simp)
      refine ⟨_, rfl, na, _, rfl, hno.seq hna, fun q hq => ?_⟩
      have O2 := O1.new (o := .lst (ns.map V.int)) hq
      generalize upd H1 q _ = H2 at O2 ⊢
      have O3 := O2.perm (L' := (l.a, .ins (cL K) l.dx (fLine (.int l.l.b) (.ref l.na) (.bl l.l.d))) :: (l.na, .lst (l.l.ns.map V.int)) :: (q, .lst (ns.map V.int)) :: (hdC (cR K) hd ++ (((sa, .lst (ls1.map fun l => V.ref l.a)) :: lnsC (cL K) (ls1.eraseIdx j)) ++ (C ++ (D ++ (Z ++ ((na, no) :: R))))))) (by
        refine (List.Perm.cons _ (List.Perm.append_left _ (List.Perm.append_right _ (st_focus hl1)))).trans ?_
        unfold lnC
        walk_at "perm")
      refine ⟨_, rfl, l.a, cL K, l.dx, _, rfl, O3.a0, T.cl_Line, T.na_Line_numbers, by show 3 < 1000; decide, ?_⟩
      have O4 := O3.set (o' := .ins (cL K) l.dx (putF "numbers" (.ref q) (fLine (.int l.l.b) (.ref l.na) (.bl l.l.d))))
      rw [pf_Line_numbers] at O4 ⊢
      have hlo : LnOk l.l := hls.ok _ (List.mem_map.mpr ⟨l, List.mem_of_getElem? hl, rfl⟩)
      refine rest _ (ls1.set j ⟨l.a, l.dx, q, ⟨l.l.b, ns, l.l.d⟩⟩) j ⟨l.a, l.dx, q, ⟨l.l.b, ns, l.l.d⟩⟩ t C D (by rw [List.getElem?_set_self hj]) ⟨hlo.b, hn⟩ ht (hlb.le (by omega)) hC hD ?_ ?_
      · refine Own.right (L' := [(l.na, .lst (l.l.ns.map V.int))]) (O4.perm ?_)
        refine List.Perm.trans ?_ (List.Perm.append_left _ (List.Perm.append_left _ (List.Perm.append_right _ (st_back (CL := cL K) (sa := sa) (l' := ⟨l.a, l.dx, q, ⟨l.l.b, ns, l.l.d⟩⟩) hl1 rfl))))
        unfold lnC
        walk_at "perm"
      · intro H' hp
        refine k H' ?_
        rw [List.map_set, List.set_set] at hp
        dsimp only at hp
        rw [eb] at hp
        exact hp
    · -- it isn't there
      refine ⟨_, rfl, rfl, _, rfl, isN_ite0 ?_⟩
      refine ⟨_, rfl, hd.a, cR K, hd.dx, _, _, rfl, O.a0, T.cl_Room, T.na_Room_is_in, lk_Room_is_in, _, rfl, ?_⟩
      cases hin : hd.u.inn with
      | false =>
        rw [homeL_by hf hin] at k
        refine iteT ⟨_, rfl, hd.a, hd.dx, _, rfl, O.a0, no_Room_pass_home, _, rfl, _, rfl, fun x dx hx hdx hne => ?_⟩
        have O4 := (O.keepNew (o := .own x) hdx).new (p := x) (o := .ins (cL K) dx []) (by rw [upd_ne (Ne.symm hne)]; exact hx)
        refine ⟨x, dx, na, no, b, ns, hdC (cR K) hd ++ (stC (cL K) (sa, ls) ++ (C ++ (D ++ (Z ++ R)))), rfl, hno, O4.perm (by walk_at "perm"), fun q H1 O1 => ⟨rfl, ?_⟩⟩
        refine ⟨hd, ⟨x, dx, q, ⟨b, ns, false⟩⟩, t, C, D, stC (cL K) (sa, ls) ++ (Z ++ ((na, no) :: R)), rfl, ⟨hb, hn⟩, hu, ht, hlb.le (by omega), hC, hD, O1.perm (by walk_at "perm"), fun H2 C2 D2 hC2 hD2 O2 => ?_⟩
        refine k H2 (hback ls _ C2 D2 _ H2 hC2 hD2 (Own.right (L' := lnC (cL K) ⟨x, dx, q, ⟨b, ns, false⟩⟩) (O2.perm ?_)))
        walk_at "perm"
      | true =>
        rw [homeL_new hf hin] at k
        refine iteF ⟨_, rfl, rfl, _, rfl, isN_ite0 ?_⟩
        refine ⟨_, rfl, hd.a, hd.dx, _, rfl, O.a0, no_Room_make_way, _, rfl, hd, b, sa, ls, t, C, D, Z ++ ((na, no) :: R), rfl, hix, hu, hls, ht, hlb.le (by omega), hC, hD, O, fun H1 ls1 C1 D1 hls1 hC1 hD1 O1 => ?_⟩
        obtain ⟨m1, m2, m3, m4⟩ := mkWay_ok (ops_ok n) hu hls ht
        generalize mkWay (ops n) hd.u (ls.map (·.l)) t = mw at m1 m2 m3 m4 hls1 hC1 hD1 k
        have hl1 : ls1.length = mw.1.length := by rw [← hls1, List.length_map]
        refine ⟨_, rfl, _, rfl, fun x dx hx hdx hne => ?_⟩
        have O2 := (O1.keepNew (o := .own x) hdx).new (p := x) (o := .ins (cL K) dx []) (by rw [upd_ne (Ne.symm hne)]; exact hx)
        refine ⟨x, dx, na, no, b, ns, hdC (cR K) hd ++ (stC (cL K) (sa, ls1) ++ (C1 ++ (D1 ++ (Z ++ R)))), rfl, hno, O2.perm (by walk_at "perm"), fun q H3 O3 => ⟨rfl, ?_⟩⟩
        have O4 := O3.perm (L' := hdC (cR K) hd ++ ((sa, .lst (ls1.map fun l => V.ref l.a)) :: (lnsC (cL K) ls1 ++ (lnC (cL K) ⟨x, dx, q, ⟨b, ns, false⟩⟩ ++ (C1 ++ (D1 ++ (Z ++ ((na, no) :: R)))))))) (by unfold stC; walk_at "perm")
        refine ⟨_, rfl, hd.a, hd.dx, _, rfl, O4.a0, no_Room_lines_of, _, rfl, hd, b, sa, _, rfl, hix, O4, .inl ⟨rfl, _, SqL.of O4.a3⟩, _, rfl, sa, _, _, rfl, rfl, O4.a3, ?_, ?_⟩
        · rw [List.length_map]
          exact size1 (by omega)
        · have O5 := (O4.perm (L' := (sa, .lst (ls1.map fun l => V.ref l.a)) :: (hdC (cR K) hd ++ (lnsC (cL K) ls1 ++ (lnC (cL K) ⟨x, dx, q, ⟨b, ns, false⟩⟩ ++ (C1 ++ (D1 ++ (Z ++ ((na, no) :: R)))))))) (by walk_at "perm")).set (o' := .lst (ls1.map (fun l => V.ref l.a) ++ [.ref x]))
          have hlb2 := hlb.2
          refine rest _ (ls1 ++ [⟨x, dx, q, ⟨b, ns, false⟩⟩]) ls1.length ⟨x, dx, q, ⟨b, ns, false⟩⟩ mw.2 C1 D1 ?_ ⟨hb, hn⟩ m2 ⟨hlb.1, by omega⟩ hC1 hD1 (O5.perm ?_) ?_
          · rw [List.getElem?_append_right (Nat.le_refl _), Nat.sub_self]
            rfl
          · unfold stC
            dsimp only
            rw [lns_app, List.map_append]
            simp only [lnsC, List.map_cons, List.map_nil]
            walk_at "perm"
          · intro H' hp
            refine k H' ?_
            have e : ((ls1 ++ [(⟨x, dx, q, ⟨b, ns, false⟩⟩ : LnA)]).map (·.l)).set ls1.length ⟨b, ns, hd.u.bk⟩ = mw.1 ++ [⟨b, ns, hd.u.bk⟩] := by
              rw [List.map_append, hls1, List.set_append_right _ _ (by omega), hl1, Nat.sub_self]
              rfl
            dsimp only at hp
            rw [e] at hp
            exact hp
theorem yieldL_no {o : Ops} {u : Ru} {ls : List Ln} {t : Ta} {b : Nat} {g : Bool} (h1 : fnd b ls = none) : yieldL o u ls t b g = (ls, t) := by
  unfold yieldL
  rw [h1]
theorem yieldL_hit {o : Ops} {u : Ru} {ls : List Ln} {t : Ta} {b i : Nat} {g : Bool} {l : Ln} (h1 : fnd b ls = some i) (h2 : ls[i]? = some l) : yieldL o u ls t b g = (if g = true then ls.eraseIdx i else ls.set i { l with d := false }, if l.d = true then passH o u.tl t b l.ns else t) := by
  unfold yieldL
  rw [h1]
  dsimp only
  rw [lnAt_get h2]
theorem ok_R_yield (T : Txt K mg) (B : Beh P w K mg base n lv) (hv : 1 ≤ lv) : FnOk P w K mg base CX0 (lv + 2) (He.fAd K ("Room", some "yield_up")) T.fd_Room_yield_up ["self", "block", "is_gone"] (spRYield K n) := by
  have G_Room_line_of := ok_line_of (P := P) (w := w) (base := base) T
  have G_Room_lines_of := ok_lines_of (P := P) (w := w) (base := base) T
  have G_Room_pass_home := ok_pass_home T B hv
  refine okOf T.F_Room_yield_up sc_Room_yield_up (fun vs H Q E h => ?_) (fun cdv A outer s H vs Q E hr h => ?_)
  · obtain ⟨_, _, _, _, _, _, _, _, _, _, _, rfl, _⟩ := h
    rfl
  · obtain ⟨a, be, di, b, g, r, t, C1, C, D, R, rfl, hb, hpre, k⟩ := h
    obtain ⟨hd, sa, ls, Z, rfl, rfl, rfl, eu, hix, els, hu, hls, ht, hlb, hC, hD, O, hback⟩ := hpre.open b
    rw [← eu, ← els] at k
    refine ⟨_, (pss_cons (ps_set (i := 3) sc_Room_yield_up.nd rfl (Or.inl rfl) (pe_meth (pv 0) T.cl_Room T.m_Room_line_of G_Room_line_of (hr.mono (by omega)) T.b_Room_line_of .nil pass0 (pa_cons (pv 1) pa_nil))) (pss_cons (ps_if (PW.pt (pw_and (pt_cmpR op_notN (pv 3) pe_non (nomark _)) (pw_and1 (pt_val (pe_fld (pv 3) rfl))))) (pss_one (ps_expr (pe_meth (pv 0) T.cl_Room T.m_Room_pass_home G_Room_pass_home (hr.mono (by omega)) T.b_Room_pass_home .nil pass0 (pa_cons (pv 3) pa_nil)))) pss_nil) (pss_one (ps_if (PW.pt (pw_and (pt_cmpR op_notN (pv 3) pe_non (nomark _)) (pw_and1 (pt_val (pv 2))))) (pss_one (ps_expr (pe_bm PySem.F.plainAttrs_list PySem.F.slot_list_remove PySem.F.type_list_remove (mt_removeO T.cmp_Line (hu_of hr)) (pe_meth (pv 0) T.cl_Room T.m_Room_lines_of G_Room_lines_of (hr.mono (by omega)) T.b_Room_lines_of .nil pass0 (pa_cons (pv 1) pa_nil)) (pa_cons (pv 3) pa_nil)))) pss_nil)))), ?_⟩
    refine ⟨_, rfl, hd.a, hd.dx, _, rfl, O.a0, no_Room_line_of, _, rfl, hd, b, sa, ls, C ++ (D ++ (Z ++ R)), rfl, hix, O, fun i l hf hl => ?_, fun hf => ?_⟩
    · have eb : l.l.b = b := by
        obtain ⟨l2, h2, h3, _⟩ := fnd_some hf
        rw [List.getElem?_map, hl] at h2
        have : l.l = l2 := Option.some.inj h2
        rw [this]
        exact h3
      have hi : i < ls.length := (List.getElem?_eq_some_iff.mp hl).1
      have hlo : LnOk l.l := hls.ok _ (List.mem_map.mpr ⟨l, List.mem_of_getElem? hl, rfl⟩)
      rw [yieldL_hit hf (by rw [List.getElem?_map, hl]; rfl : (ls.map (·.l))[i]? = some l.l)] at k
      have O2 := O.perm (L' := lnC (cL K) l ++ (hdC (cR K) hd ++ (((sa, .lst (ls.map fun l => V.ref l.a)) :: lnsC (cL K) (ls.eraseIdx i)) ++ (C ++ (D ++ (Z ++ R)))))) (by
        refine (List.Perm.append_left _ (List.Perm.append_right _ (st_focus hl))).trans ?_
        walk_at "perm")
      -- if line is not None and is_gone: self.lines_of(block).remove(line)
      have rest : ∀ (H1 : Hp) (t1 : Ta) (C1 D1 : List Cell), RepK K hd.di hd.be t1.rs t1.far C1 → DRep hd.di t1.log D1 → t1 = (if l.l.d = true then passH (ops n) hd.u.tl t b l.l.ns else t) →
          Own H1 (lnC (cL K) ⟨l.a, l.dx, l.na, { l.l with d := false }⟩ ++ (hdC (cR K) hd ++ (((sa, .lst (ls.map fun l => V.ref l.a)) :: lnsC (cL K) (ls.eraseIdx i)) ++ (C1 ++ (D1 ++ (Z ++ R)))))) →
          tIfS (tAnd (tTest (tOp (fun x y H Q => y = .non ∧ Q (.bl (!decide (x = .non))) H) (tVar 3) (tC .non))) (tB (tVar 2)))
            (tDrop (tBM K "list" (rRemO (cL K)) (tMeth (cR K) "lines_of" (spLinesOf K) [] E0 (tVar 0) (tCons (tVar 1) tNil)) (tCons (tVar 3) tNil))) tNext
            { nx := fun _ H' => Q .non H', rt := Q } [some (.ref hd.a), some (.int b), some (.bl g), some (.ref l.a)] H1 := by
        intro H1 t1 C1 D1 hC1 hD1 et O1
        subst et
        refine ⟨_, rfl, rfl, _, rfl, ite_notN ⟨_, rfl, _, rfl, ?_⟩⟩
        cases g with
        | false =>
          rw [if_neg Bool.false_ne_true] at k
          refine iteF (k H1 ?_)
          have e1 : (ls.map (·.l)).set i { l.l with d := false } = (ls.set i ⟨l.a, l.dx, l.na, { l.l with d := false }⟩).map (·.l) := by rw [List.map_set]
          rw [e1]
          refine hback _ _ C1 D1 R H1 hC1 hD1 (O1.perm ?_)
          refine List.Perm.trans ?_ (List.Perm.append_left _ (List.Perm.append_right _ (st_back (CL := cL K) (sa := sa) (l' := ⟨l.a, l.dx, l.na, { l.l with d := false }⟩) hl rfl)))
          walk_at "perm"
        | true =>
          rw [if_pos rfl] at k
          have O3 := O1.perm (L' := hdC (cR K) hd ++ (stC (cL K) (sa, ls.set i ⟨l.a, l.dx, l.na, { l.l with d := false }⟩) ++ (C1 ++ (D1 ++ (Z ++ R))))) (by
            refine List.Perm.trans ?_ (List.Perm.append_left _ (List.Perm.append_right _ (st_back (CL := cL K) (sa := sa) (l' := ⟨l.a, l.dx, l.na, { l.l with d := false }⟩) hl rfl)))
            walk_at "perm")
          have hl3 : (ls.set i ⟨l.a, l.dx, l.na, { l.l with d := false }⟩)[i]? = some ⟨l.a, l.dx, l.na, { l.l with d := false }⟩ := List.getElem?_set_self hi
          have eml : (ls.set i ⟨l.a, l.dx, l.na, { l.l with d := false }⟩).eraseIdx i = ls.eraseIdx i := by
            apply List.ext_getElem?
            intro m
            rw [List.getElem?_eraseIdx, List.getElem?_eraseIdx]
            split
            · rw [List.getElem?_set_ne (by omega)]
            · rw [List.getElem?_set_ne (by omega)]
          generalize ls.set i ⟨l.a, l.dx, l.na, { l.l with d := false }⟩ = ls3 at O3 hl3 eml
          have hsa : H1 sa = some (.lst ((ls3.map (·.a)).map V.ref)) := by
            rw [List.map_map]
            exact O3.a3
          have nd : (ls3.map (·.a)).Nodup := Own.lnsNd (O3.perm (L' := lnsC (cL K) ls3 ++ (hdC (cR K) hd ++ ((sa, .lst (ls3.map fun l => V.ref l.a)) :: (C1 ++ (D1 ++ (Z ++ R)))))) (by unfold stC; walk_at "perm"))
          have hg : (ls3.map (·.a))[i]? = some l.a := by rw [List.getElem?_map, hl3]; rfl
          refine iteT ⟨_, rfl, hd.a, hd.dx, _, rfl, O3.a0, no_Room_lines_of, _, rfl, hd, b, sa, _, rfl, hix, O3, .inl ⟨rfl, _, SqL.of hsa⟩, _, rfl, sa, ls3.map (·.a), l.a, i, rfl, rfl, hsa, fun x hx => ?_, hg, fun m hm z => ?_, ?_⟩
          · obtain ⟨l', hl', rfl⟩ := List.mem_map.mp hx
            obtain ⟨j, hj, ej⟩ := List.mem_iff_getElem.mp hl'
            exact ⟨l'.dx, _, O3.mem (List.mem_append_right _ (List.mem_append_left _ (List.mem_cons_of_mem _ (lns_mem (i := j) (by rw [List.getElem?_eq_getElem hj, ej]) _ List.mem_cons_self))))⟩
          · have := nd_ix nd z hg
            omega
          · have O4 := (O3.perm (L' := (sa, .lst (ls3.map fun l => V.ref l.a)) :: (lnsC (cL K) ls3 ++ (hdC (cR K) hd ++ (C1 ++ (D1 ++ (Z ++ R)))))) (by unfold stC; walk_at "perm")).set (o' := .lst (((ls3.map (·.a)).eraseIdx i).map V.ref))
            refine k _ ?_
            rw [erase_map]
            refine hback (ls.eraseIdx i) _ C1 D1 R _ hC1 hD1 (Own.right (L' := lnC (cL K) ⟨l.a, l.dx, l.na, { l.l with d := false }⟩) (O4.perm ?_))
            rw [erase_map, List.map_map, eml]
            refine (List.Perm.cons _ (List.Perm.append_right _ (lns_focus hl3))).trans ?_
            rw [eml]
            unfold stC
            show ((sa, HO.lst ((ls.eraseIdx i).map fun l => V.ref l.a)) :: _).Perm _
            walk_at "perm"
      refine ⟨_, rfl, rfl, _, rfl, ite_notN ⟨_, rfl, l.a, cL K, l.dx, _, _, rfl, O2.a0, T.cl_Line, T.na_Line_is_dirty, lk_Line_is_dirty, _, rfl, ?_⟩⟩
      cases hdt : l.l.d with
      | true =>
        refine iteT ⟨_, rfl, hd.a, hd.dx, _, rfl, O2.a2, no_Room_pass_home, _, rfl, hd, l, t, C, D, ((sa, .lst (ls.map fun l => V.ref l.a)) :: lnsC (cL K) (ls.eraseIdx i)) ++ (Z ++ R), rfl, hlo, hu, ht, hlb.le (by omega), hC, hD, O2.perm (by walk_at "perm"), fun H1 C1 D1 hC1 hD1 O1 => ?_⟩
        refine rest H1 _ C1 D1 hC1 hD1 ?_ (O1.perm (by walk_at "perm"))
        rw [hdt, if_pos rfl, eb]
      | false =>
        refine iteF (rest H t C D hC hD ?_ ?_)
        · rw [hdt, if_neg Bool.false_ne_true]
        · have : ({ l with l := { l.l with d := false } } : LnA) = l := by
            obtain ⟨la, ldx, lna, ⟨lb, lns, ld⟩⟩ := l
            dsimp only at hdt
            rw [hdt]
          have e2 : (⟨l.a, l.dx, l.na, { l.l with d := false }⟩ : LnA) = l := this
          rw [e2]
          exact O2
    · rw [yieldL_no hf] at k
      refine ⟨_, rfl, rfl, _, rfl, ite_notN0 (iteF ⟨_, rfl, rfl, _, rfl, ite_notN0 (iteF ?_)⟩)⟩
      exact k H (hback ls t C D R H hC hD O)
end
-- WwF
/-! ### what stands behind, by depth -/
def lvOf (n : Nat) : Nat := 4 * n + 1
section
variable {P : Program} {w : World} {K : PySem.W.Frag} {mg : Str → Option Value} {base : Heap} {n lv : Nat}
def beh0 (T : Txt K mg) : Beh P w K mg base 0 1 where
  C := cF K
  cl := T.cl_Far
  fh := _
  fb := _
  fc := _
  fdh := _
  fdb := _
  fdc := _
  m_home := T.m_Far_home
  m_bring := T.m_Far_bring
  m_change := T.m_Far_change
  b_home := T.b_Far_home
  b_bring := T.b_Far_bring
  b_change := T.b_Far_change
  G_home := ok_Far_home T
  G_bring := ok_Far_bring T
  G_change := ok_Far_change T
  at_ := fun di be t Z ht hC => by
    have ers : t.rs = [] := List.length_eq_zero_iff.mp ht.len
    rw [ers] at hC
    obtain ⟨la, rfl⟩ : ∃ la, be = .far la := by
      cases be with
      | far la => exact ⟨la, rfl⟩
      | room a be => exact hC.elim
    obtain ⟨dx, fl, rfl⟩ := hC
    exact ⟨dx, _, List.mem_cons_self, no_Far_home, no_Far_bring, no_Far_change⟩
theorem pre_of {H : Hp} {di : Addr} {be : Pa} {t : Ta} {C D R : List Cell} (ht : TaOk (n + 1) t) (hlb : LB (n + 1) t) (hC : RepK K di be t.rs t.far C) (hD : DRep di t.log D) (O : Own H (C ++ (D ++ R))) :
    ∃ (r : Rm) (rs : List Rm) (a : Addr) (be' : Pa) (C1 C2 : List Cell), t.rs = r :: rs ∧ be = .room a be' ∧ RPre K n H di a be' r { t with rs := rs } C1 C2 D R := by
  obtain ⟨r, rs, e, hr, ht2⟩ := ht.uncons
  rw [e] at hC
  obtain ⟨a, be', rfl⟩ : ∃ a be', be = .room a be' := by
    cases be with
    | far la => exact hC.elim
    | room a be' => exact ⟨a, be', rfl⟩
  obtain ⟨C1, C2, h1, h2, rfl⟩ := hC
  refine ⟨r, rs, a, be', C1, C2, e, rfl, hr, ht2, ⟨by have := hlb.1; omega, by have := hlb.2; show t.log.length + _ + _ ≤ _; omega⟩, h1, h2, hD, O.perm (by walk_at "perm")⟩
def behS (T : Txt K mg) (B : Beh P w K mg base n lv) (hv : 1 ≤ lv) : Beh P w K mg base (n + 1) (lv + 4) where
  C := cR K
  cl := T.cl_Room
  fh := _
  fb := _
  fc := _
  fdh := _
  fdb := _
  fdc := _
  m_home := T.m_Room_home
  m_bring := T.m_Room_bring
  m_change := T.m_Room_change
  b_home := T.b_Room_home
  b_bring := T.b_Room_bring
  b_change := T.b_Room_change
  G_home := (ok_R_home T B hv).imp fun vs H Q E h => by
    obtain ⟨be, di, na, no, b, ns, t, C, D, R, rfl, hb, hn, hno, ht, hlb, hC, hD, O, k⟩ := h
    obtain ⟨r, rs, a, be', C1, C2, e, rfl, hpre⟩ := pre_of (R := (na, no) :: R) ht hlb hC hD (O.perm (by walk_at "perm"))
    refine ⟨a, be', di, na, no, b, ns, r, { t with rs := rs }, C1, C2, D, R, rfl, hb, hn, hno, hpre, fun H' hp => ?_⟩
    obtain ⟨C1', C2', D', h1, h2, h3, O'⟩ := hp
    have eo : (ops (n + 1)).hm t b ns = Ta.cons (r.put b (homeL (ops n) r.ru (r.ls b) { t with rs := rs } b ns).1) (homeL (ops n) r.ru (r.ls b) { t with rs := rs } b ns).2 := by
      show (match t.rs with | [] => t | r :: rs => _) = _
      rw [e]
    rw [eo] at k
    exact k H' (C1' ++ C2') D' ⟨C1', C2', h1, h2, rfl⟩ h3 (O'.perm (by walk_at "perm"))
  G_bring := (ok_R_bring T B hv).imp fun vs H Q E h => by
    obtain ⟨be, di, b, t, C, D, R, rfl, hb, ht, hlb, hC, hD, O, k⟩ := h
    obtain ⟨r, rs, a, be', C1, C2, e, rfl, hpre⟩ := pre_of ht hlb hC hD O
    refine ⟨a, be', di, b, r, { t with rs := rs }, C1, C2, D, R, rfl, hb, hpre, fun p H' hp => ?_⟩
    obtain ⟨C1', C2', D', h1, h2, h3, O'⟩ := hp
    have eo : (ops (n + 1)).br t b = ((bringL (ops n) r.ru (r.ls b) { t with rs := rs } b).1, Ta.cons (r.put b (bringL (ops n) r.ru (r.ls b) { t with rs := rs } b).2.1) (bringL (ops n) r.ru (r.ls b) { t with rs := rs } b).2.2) := by
      show (match t.rs with | [] => ([], t) | r :: rs => _) = _
      rw [e]
    rw [eo] at k
    exact k p H' (C1' ++ C2') D' ⟨C1', C2', h1, h2, rfl⟩ h3 (O'.perm (by walk_at "perm"))
  G_change := (ok_R_change T B hv).imp fun vs H Q E h => by
    obtain ⟨be, di, p, v, t, C, D, R, rfl, hp, ht, hlb, hC, hD, O, k⟩ := h
    obtain ⟨r, rs, a, be', C1, C2, e, rfl, hpre⟩ := pre_of ht hlb hC hD O
    refine ⟨a, be', di, p, v, r, { t with rs := rs }, C1, C2, D, R, rfl, hp, hpre, fun H' hp => ?_⟩
    obtain ⟨C1', C2', D', h1, h2, h3, O'⟩ := hp
    have eo : (ops (n + 1)).ch t p v = Ta.cons (r.put (p / 4) (changeL (ops n) r.ru (r.ls (p / 4)) { t with rs := rs } p v).1) (changeL (ops n) r.ru (r.ls (p / 4)) { t with rs := rs } p v).2 := by
      show (match t.rs with | [] => t | r :: rs => _) = _
      rw [e]
    rw [eo] at k
    exact k H' (C1' ++ C2') D' ⟨C1', C2', h1, h2, rfl⟩ h3 (O'.perm (by walk_at "perm"))
  at_ := fun di be t Z ht hC => by
    obtain ⟨r, rs, e, _, _⟩ := ht.uncons
    rw [e] at hC
    obtain ⟨a, be', rfl⟩ : ∃ a be', be = .room a be' := by
      cases be with
      | far la => exact hC.elim
      | room a be' => exact ⟨a, be', rfl⟩
    obtain ⟨C1, C2, ⟨h, ss, rfl, _, _, _, _, _, rfl⟩, _, rfl⟩ := hC
    exact ⟨h.dx, _, List.mem_append_left _ (List.mem_append_left _ List.mem_cons_self), no_Room_home, no_Room_bring, no_Room_change⟩
def behN (T : Txt K mg) : (n : Nat) → Beh P w K mg base n (lvOf n)
  | 0 => beh0 T
  | n + 1 => behS T (behN T n) (by show 1 ≤ 4 * n + 1; omega)
end
def lnD (l : Ln) : PyData := .tuple [.int l.b, .tuple (l.ns.map .int), .bool l.d]
def lsD (ls : List Ln) : PyData := .list (ls.map lnD)
def ssD (ss : List (List Ln)) : PyData := .list (ss.map lsD)
theorem sts_mem {CL : Addr} : ∀ {ss : List (Addr × List LnA)} {i : Nat} {s : Addr × List LnA}, ss[i]? = some s → ∀ c ∈ stC CL s, c ∈ stsC CL ss
  | [], i, s, h, c, hc => by simp at h
  | a :: r, 0, s, h, c, hc => by
    have e : a = s := by simpa using h
    rw [e]
    exact List.mem_append_left _ hc
  | a :: r, i + 1, s, h, c, hc => List.mem_append_right _ (sts_mem (by simpa using h) c hc)
def spHolds (K : PySem.W.Frag) : Sp := fun vs H Q _ => ∃ (a : Addr) (be : Pa) (di : Addr) (r : Rm) (C1 R : List Cell), vs = [.ref a] ∧ RmOk r ∧ RmRepK K di a be r C1 ∧ Own H (C1 ++ R) ∧
  ∀ (p : Addr) (N : List Cell) (H' : Hp), DpL N (.ref p) (ssD r.ss) → Own H' (N ++ (C1 ++ R)) → Q (.ref p) H'
section
variable {P : Program} {w : World} {K : PySem.W.Frag} {mg : Str → Option Value} {base : Heap} {n lv : Nat}
theorem ok_R_holds (T : Txt K mg) : FnOk P w K mg base CX0 1 (He.fAd K ("Room", some "holds")) T.fd_Room_holds ["self"] (spHolds K) := by
  refine okOf T.F_Room_holds sc_Room_holds (fun vs H Q E h => ?_) (fun cdv A outer s H vs Q E hr h => ?_)
  · obtain ⟨_, _, _, _, _, _, rfl, _⟩ := h
    rfl
  · obtain ⟨a, be, di, r, C1, R, rfl, hrm, ⟨hd, ss, rfl, rfl, rfl, eu, esas, ess, rfl⟩, O, k⟩ := h
    refine ⟨_, (pss_one (ps_ret (pe_lc (te := (tLc (iList K (tVar 1)) (gName 2) tYes (tTup (tCons (tFld K (tVar 2) "block") (tCons (tCB (rTupQ K) (tCons (tFld K (tVar 2) "numbers") tNil)) (tCons (tFld K (tVar 2) "is_dirty") tNil)))) [2])) (own := [("lines", 1)]) (by rfl) sc_Room_holds.nd (pi_list (pe_fld (pv 0) rfl)) (blkOk_by (own := [("lines", 1)]) (by kernel_rfl)) (fun _ _ _ _ _ => (pg_name (i := 1) sc_Room_holds.nd rfl (Or.inl rfl))) (fun _ _ _ _ _ => pts_nil) (fun _ _ _ _ _ => (pe_lc (te := (tTup (tCons (tFld K (tVar 2) "block") (tCons (tCB (rTupQ K) (tCons (tFld K (tVar 2) "numbers") tNil)) (tCons (tFld K (tVar 2) "is_dirty") tNil))))) (own := [("line", 2)]) (by rfl) sc_Room_holds.nd (pi_list (pv 1)) (blkOk_by (own := [("line", 2)]) (by kernel_rfl)) (fun _ _ _ _ _ => (pg_name (i := 2) sc_Room_holds.nd rfl (Or.inl rfl))) (fun _ _ _ _ _ => pts_nil) (fun _ _ _ _ _ => (pe_tup (pa_cons (pe_fld (pv 2) rfl) (pa_cons (pe_callTy call_tuple_of (by rfl) T.n_tuple (by decide +kernel) (pa_cons (pe_fld (pv 2) rfl) pa_nil)) (pa_cons (pe_fld (pv 2) rfl) pa_nil)))))))))), ?_⟩
    have hlen : ss.length = r.ss.length := by rw [ess, List.length_map]
    have hs4 := hrm.s4
    refine ⟨_, rfl, hd.a, cR K, hd.dx, _, _, rfl, O.a0, T.cl_Room, T.na_Room_sets, lk_Room_sets, hd.sl, rfl, ⟨_, SqL.of O.a1⟩, fun D hD => ?_⟩
    refine lc_list (K := K) (a := hd.sl) (xs := hd.sas.map V.ref) (fun i H' => ∃ (N : List Cell) (acc : List V), Own H' ((D, .lst acc) :: (N ++ ((hdC (cR K) hd ++ stsC (cL K) ss) ++ R))) ∧ DpsL N acc ((r.ss.take i).map lsD))
      ⟨[], [], O.new hD, .nil⟩ (fun i H' _ ⟨N, acc, O1, _⟩ => SqL.of (O1.mem (by simp [hdC]))) ?_ ?_
    · rintro i x H1 hi ⟨N, acc, O1, hdp⟩
      rw [esas, List.map_map, List.getElem?_map] at hi
      cases hs : ss[i]? with
      | none =>
        rw [hs] at hi
        cases hi
      | some s =>
        rw [hs] at hi
        have ex : V.ref s.1 = x := Option.some.inj hi
        subst ex
        have hil : i < ss.length := (List.getElem?_eq_some_iff.mp hs).1
        have hsm : ∀ c ∈ stC (cL K) s, c ∈ ((D, HO.lst acc) :: (N ++ ((hdC (cR K) hd ++ stsC (cL K) ss) ++ R))) := fun c hc => List.mem_cons_of_mem _ (List.mem_append_right _ (List.mem_append_left _ (List.mem_append_right _ (sts_mem hs c hc))))
        have hrs : r.ss[i]? = some (s.2.map (·.l)) := by rw [ess, List.getElem?_map, hs]; rfl
        have hlso := hrm.ln _ (List.mem_of_getElem? hrs)
        have hls4 : s.2.length ≤ 4 := by
          have := hlso.len
          have := hrm.ru.w4
          rw [List.length_map] at *
          omega
        refine ⟨rfl, tYes_go (iteT ?_)⟩
        refine ⟨_, rfl, s.1, rfl, ⟨_, SqL.of (O1.mem (hsm _ List.mem_cons_self))⟩, fun D2 hD2 => ?_⟩
        refine lc_list (K := K) (a := s.1) (xs := s.2.map fun l => V.ref l.a) (fun j H' => ∃ (N2 : List Cell) (acc2 : List V), Own H' ((D2, .lst acc2) :: (N2 ++ ((D, .lst acc) :: (N ++ ((hdC (cR K) hd ++ stsC (cL K) ss) ++ R))))) ∧ DpsL N2 acc2 (((s.2.map (·.l)).take j).map lnD))
          ⟨[], [], O1.new hD2, .nil⟩ (fun j H' _ ⟨N2, acc2, O2, _⟩ => SqL.of (O2.mem (List.mem_cons_of_mem _ (List.mem_append_right _ (hsm _ List.mem_cons_self))))) ?_ ?_
        · rintro j y H2 hj ⟨N2, acc2, O2, hdp2⟩
          rw [List.getElem?_map] at hj
          cases hl : s.2[j]? with
          | none =>
            rw [hl] at hj
            cases hj
          | some l =>
            rw [hl] at hj
            have ey : V.ref l.a = y := Option.some.inj hj
            subst ey
            have hm := fun c hc => O2.mem (List.mem_cons_of_mem _ (List.mem_append_right _ (hsm _ (List.mem_cons_of_mem _ (lns_mem hl c hc)))))
            have h1 : H2 l.a = some (.ins (cL K) l.dx (fLine (.int l.l.b) (.ref l.na) (.bl l.l.d))) := hm (_, _) List.mem_cons_self
            have h2 : H2 l.na = some (.lst (l.l.ns.map V.int)) := hm (_, _) (List.mem_cons_of_mem _ List.mem_cons_self)
            refine ⟨rfl, tYes_go (iteT ?_)⟩
            refine ⟨_, rfl, l.a, cL K, l.dx, _, _, rfl, h1, T.cl_Line, T.na_Line_block, lk_Line_block, _, rfl, l.a, cL K, l.dx, _, _, rfl, h1, T.cl_Line, T.na_Line_numbers, lk_Line_numbers, l.na, _, rfl, .inl ⟨SqL.of h2, fun p hp => ?_⟩⟩
            have O3 := O2.new (o := .tup (l.l.ns.map V.int)) hp
            have h1' : upd H2 p (.tup (l.l.ns.map V.int)) l.a = some (.ins (cL K) l.dx (fLine (.int l.l.b) (.ref l.na) (.bl l.l.d))) := by
              rw [upd_ne (ne_of_none h1 hp)]
              exact h1
            refine ⟨_, rfl, l.a, cL K, l.dx, _, _, rfl, h1', T.cl_Line, T.na_Line_is_dirty, lk_Line_is_dirty, by show 3 ≤ sizeLine; decide, fun q hq => ?_⟩
            have O4 := O3.new (o := .tup [.int l.l.b, .ref p, .bl l.l.d]) hq
            refine ⟨acc2, O4.a2, ?_, ?_⟩
            · have e := hdp2.len
              simp only [List.length_map, List.length_take] at e
              exact size1 (by omega)
            · have O5 := (O4.perm (L' := (D2, .lst acc2) :: (((q, .tup [.int l.l.b, .ref p, .bl l.l.d]) :: (p, .tup (l.l.ns.map V.int)) :: N2) ++ ((D, .lst acc) :: (N ++ ((hdC (cR K) hd ++ stsC (cL K) ss) ++ R))))) (by walk_at "perm")).set (o' := .lst (acc2 ++ [.ref q]))
              refine ⟨_, _, O5, ?_⟩
              rw [take_snoc (x := l.l) (by rw [List.getElem?_map, hl]; rfl), List.map_append]
              refine DpsL.app (hdp2.mono fun c hc => by simp [hc]) (.cons ?_ .nil)
              exact .tup List.mem_cons_self (.cons (.int _) (.cons (.tup (List.mem_cons_of_mem _ List.mem_cons_self) (DpsL.ints _)) (.cons (.bl _) .nil)))
        · rintro H2 ⟨N2, acc2, O2, hdp2⟩
          rw [List.length_map, List.take_of_length_le (by rw [List.length_map]; exact Nat.le_refl _)] at hdp2
          refine ⟨acc, O2.mem (by simp), ?_, ?_⟩
          · have e := hdp.len
            rw [List.length_map, List.length_take] at e
            exact size1 (by omega)
          · have O3 := (O2.perm (L' := (D, .lst acc) :: (((D2, .lst acc2) :: (N2 ++ N)) ++ ((hdC (cR K) hd ++ stsC (cL K) ss) ++ R))) (by walk_at "perm")).set (o' := .lst (acc ++ [.ref D2]))
            refine ⟨_, _, O3, ?_⟩
            rw [take_snoc hrs, List.map_append]
            refine DpsL.app (hdp.mono fun c hc => by simp [hc]) (.cons ?_ .nil)
            exact .lst List.mem_cons_self (hdp2.mono fun c hc => by simp [hc])
    · rintro H1 ⟨N, acc, O1, hdp⟩
      rw [esas, List.length_map, List.length_map, hlen, List.take_length] at hdp
      refine k D ((D, .lst acc) :: N) H1 (.lst List.mem_cons_self (hdp.mono fun c hc => List.mem_cons_of_mem _ hc)) (O1.perm ?_)
      walk_at "perm"
end
-- WwG
/-! ### rules -/
structure Rul where
  s : Nat
  w : Nat
  bk : Bool
  inn : Bool
  lt : Bool
def sBk (b : Bool) : Str := if b = true then "back" else "through"
def sIn (b : Bool) : Str := if b = true then "in" else "by"
def sLt (b : Bool) : Str := if b = true then "late" else "first"
def Rul.vs (u : Rul) : List V := [.int u.s, .int u.w, .str (sBk u.bk), .str (sIn u.inn), .str (sLt u.lt)]
structure RulOk (u : Rul) : Prop where
  s : u.s = 1 ∨ u.s = 2 ∨ u.s = 4
  w0 : 1 ≤ u.w
  w4 : u.w ≤ 4
def mkRm (u : Rul) (tl : List V) : Rm := ⟨⟨u.w, u.bk, u.inn, u.lt, tl⟩, List.replicate u.s []⟩
theorem mkRm_ok {u : Rul} (h : RulOk u) {tl : List V} (ht : tl.length ≤ 4) : RmOk (mkRm u tl) := by
  refine ⟨?_, ?_, ⟨h.w0, h.w4, ht⟩, fun ls hm => ?_⟩
  · show 0 < (List.replicate u.s []).length
    rw [List.length_replicate]
    rcases h.s with e | e | e <;> omega
  · show (List.replicate u.s []).length ≤ 4
    rw [List.length_replicate]
    rcases h.s with e | e | e <;> omega
  · rw [List.eq_of_mem_replicate hm]
    exact ⟨Nat.zero_le _, fun l hm => by cases hm⟩
theorem dec_bk (b : Bool) : decide (V.str (sBk b) = V.str "back") = b := by cases b <;> decide +kernel
theorem dec_in (b : Bool) : decide (V.str (sIn b) = V.str "in") = b := by cases b <;> decide +kernel
theorem dec_lt (b : Bool) : decide (V.str (sLt b) = V.str "late") = b := by cases b <;> decide +kernel
theorem sts_nil (CL : Addr) : ∀ as : List Addr, stsC CL (as.map fun a => (a, ([] : List LnA))) = as.map fun a => (a, HO.lst [])
  | [] => rfl
  | a :: as => by
    show (a, HO.lst []) :: stsC CL (as.map fun a => (a, ([] : List LnA))) = _
    rw [sts_nil CL as]
    rfl
def spRoomInit (K : PySem.W.Frag) : Sp := fun vs H Q _ => ∃ (x dx ra ti di : Addr) (be : Pa) (u : Rul) (tl : List V) (R : List Cell), vs = [.ref x, .ref ra, .ref be.ad, .ref ti, .ref di] ∧ RulOk u ∧ (ra, HO.tup u.vs) ∈ R ∧ Own H ((x, .ins (cR K) dx []) :: (ti, .tup tl) :: R) ∧
  ∀ (C1 : List Cell) (H' : Hp), RmRepK K di x be (mkRm u tl) C1 → Own H' (C1 ++ R) → Q .non H'
def spIsRule : Sp := fun vs H Q _ => ∃ (ra : Addr) (u : Rul), vs = [.ref ra] ∧ RulOk u ∧ H ra = some (.tup u.vs) ∧ Q (.bl true) H
/-- tuples of rules, by their addresses -/
def RA (R : List Cell) : List Addr → List Rul → Prop
  | [], [] => True
  | a :: as, u :: us => (a, HO.tup u.vs) ∈ R ∧ RA R as us
  | _, _ => False
theorem RA.len {R : List Cell} : ∀ {as : List Addr} {us : List Rul}, RA R as us → as.length = us.length
  | [], [], _ => rfl
  | [], _ :: _, h => h.elim
  | _ :: _, [], h => h.elim
  | _ :: _, _ :: _, h => congrArg (· + 1) (RA.len h.2)
theorem RA.get {R : List Cell} : ∀ {as : List Addr} {us : List Rul} {i : Nat} {a : Addr}, RA R as us → as[i]? = some a → ∃ u, us[i]? = some u ∧ (a, HO.tup u.vs) ∈ R
  | [], _, i, a, _, e => by simp at e
  | _ :: _, [], _, _, h, _ => h.elim
  | b :: as, u :: us, 0, a, h, e => by
    simp at e
    subst e
    exact ⟨u, rfl, h.1⟩
  | b :: as, u :: us, i + 1, a, h, e => by
    obtain ⟨v, h1, h2⟩ := RA.get (i := i) (a := a) h.2 (by simpa using e)
    exact ⟨v, by simpa using h1, h2⟩
theorem RA.get' {R : List Cell} : ∀ {as : List Addr} {us : List Rul} {i : Nat} {u : Rul}, RA R as us → us[i]? = some u → ∃ a, as[i]? = some a ∧ (a, HO.tup u.vs) ∈ R
  | [], [], i, a, _, e => by simp at e
  | [], _ :: _, _, _, h, _ => h.elim
  | _ :: _, [], _, _, h, _ => h.elim
  | b :: as, u :: us, 0, v, h, e => by
    simp at e
    subst e
    exact ⟨b, rfl, h.1⟩
  | b :: as, u :: us, i + 1, v, h, e => by
    obtain ⟨a, h1, h2⟩ := RA.get' (i := i) (u := v) h.2 (by simpa using e)
    exact ⟨a, by simpa using h1, h2⟩
theorem RA.mono {R R' : List Cell} (hs : ∀ c ∈ R, c ∈ R') : ∀ {as : List Addr} {us : List Rul}, RA R as us → RA R' as us
  | [], [], _ => trivial
  | [], _ :: _, h => h.elim
  | _ :: _, [], h => h.elim
  | _ :: _, _ :: _, h => ⟨hs _ h.1, RA.mono hs h.2⟩
/-- a list of rules -/
def RulesAt (R : List Cell) (rl : Addr) (us : List Rul) : Prop := ∃ ras : List Addr, (rl, HO.lst (ras.map V.ref)) ∈ R ∧ RA R ras us
structure RulesOk (us : List Rul) : Prop where
  ok : ∀ u ∈ us, RulOk u
  l1 : 1 ≤ us.length
  l3 : us.length ≤ 3
def spNeedRules : Sp := fun vs H Q _ => ∃ (rl : Addr) (us : List Rul) (R : List Cell), vs = [.ref rl] ∧ RulesOk us ∧ RulesAt R rl us ∧ Own H R ∧ ∀ H' : Hp, Own H' R → Q .non H'
def spNeedHands : Sp := fun vs H Q _ => ∃ n : Nat, vs = [.int n] ∧ 1 ≤ n ∧ n ≤ 3 ∧ Q .non H
section
variable {P : Program} {w : World} {K : PySem.W.Frag} {mg : Str → Option Value} {base : Heap} {n lv : Nat}
theorem ok_Room_init (T : Txt K mg) : FnOk P w K mg base CX0 1 (He.fAd K ("Room", some "__init__")) T.fd_Room___init__ ["self", "rule", "behind", "title", "diary"] (spRoomInit K) := by
  refine okOf T.F_Room___init__ sc_Room___init__ (fun vs H Q E h => ?_) (fun cdv A outer s H vs Q E hr h => ?_)
  · obtain ⟨_, _, _, _, _, _, _, _, _, rfl, _⟩ := h
    rfl
  · obtain ⟨x, dx, ra, ti, di, be, u, tl, R, rfl, hu, hra, O, k⟩ := h
    have hm : ∀ {fs : List (Str × V)} {H : Hp}, Own H ((x, .ins (cR K) dx fs) :: (ti, .tup tl) :: R) → H ra = some (.tup u.vs) := fun O => O.mem (List.mem_cons_of_mem _ (List.mem_cons_of_mem _ hra))
    refine ⟨_, (pss_cons (ps_fld (pv 0) (pe_ix ix_tup (pv 1) pe_int (fun _ _ => rfl)) rfl) (pss_cons (ps_fld (pv 0) (pe_cmpR op_eq (pe_ix ix_tup (pv 1) pe_int (fun _ _ => rfl)) pe_str (nomark _)) rfl) (pss_cons (ps_fld (pv 0) (pe_cmpR op_eq (pe_ix ix_tup (pv 1) pe_int (fun _ _ => rfl)) pe_str (nomark _)) rfl) (pss_cons (ps_fld (pv 0) (pe_cmpR op_eq (pe_ix ix_tup (pv 1) pe_int (fun _ _ => rfl)) pe_str (nomark _)) rfl) (pss_cons (ps_fld (pv 0) (pv 2) rfl) (pss_cons (ps_fld (pv 0) (pv 3) rfl) (pss_cons (ps_fld (pv 0) (pv 4) rfl) (pss_one (ps_fld (pv 0) (pe_lc (te := (tLst tNil)) (own := [("number", 5)]) (by rfl) sc_Room___init__.nd (pi_range1 (by rfl) T.n_range (pa_cons (pe_ix ix_tup (pv 1) pe_int (fun _ _ => rfl)) pa_nil)) (blkOk_by (own := [("number", 5)]) (by kernel_rfl)) (fun _ _ _ _ _ => (pg_name (i := 5) sc_Room___init__.nd rfl (Or.inl rfl))) (fun _ _ _ _ _ => pts_nil) (fun _ _ _ _ _ => (pe_lst pa_nil))) rfl))))))))), ?_⟩
    refine ⟨_, rfl, ra, _, 1, .int u.w, rfl, rfl, SqT.of (hm O), rfl, _, rfl, x, cR K, dx, _, rfl, O.a0, T.cl_Room, T.na_Room_ways, by show 0 < 1000; decide, ?_⟩
    replace O := O.set (o' := .ins (cR K) dx (putF "ways" (.int u.w) []))
    generalize upd H x _ = H1 at O ⊢
    refine ⟨_, rfl, ra, _, 2, _, rfl, rfl, SqT.of (hm O), rfl, rfl, _, rfl, x, cR K, dx, _, rfl, O.a0, T.cl_Room, T.na_Room_is_back, by show 1 < 1000; decide, ?_⟩
    rw [dec_bk]
    replace O := O.set (o' := .ins (cR K) dx (putF "is_back" (.bl u.bk) (putF "ways" (.int u.w) [])))
    generalize upd H1 x _ = H2 at O ⊢
    simp only [pf_nil, pf_tl ne_is_back_ways] at O ⊢
    refine ⟨_, rfl, ra, _, 3, _, rfl, rfl, SqT.of (hm O), rfl, rfl, _, rfl, x, cR K, dx, _, rfl, O.a0, T.cl_Room, T.na_Room_is_in, by show 2 < 1000; decide, ?_⟩
    rw [dec_in]
    replace O := O.set (o' := .ins (cR K) dx (putF "is_in" (.bl u.inn) [("ways", .int u.w), ("is_back", .bl u.bk)]))
    generalize upd H2 x _ = H3 at O ⊢
    simp only [pf_nil, pf_tl ne_is_in_ways, pf_tl ne_is_in_is_back] at O ⊢
    refine ⟨_, rfl, ra, _, 4, _, rfl, rfl, SqT.of (hm O), rfl, rfl, _, rfl, x, cR K, dx, _, rfl, O.a0, T.cl_Room, T.na_Room_is_late, by show 3 < 1000; decide, ?_⟩
    rw [dec_lt]
    replace O := O.set (o' := .ins (cR K) dx (putF "is_late" (.bl u.lt) [("ways", .int u.w), ("is_back", .bl u.bk), ("is_in", .bl u.inn)]))
    generalize upd H3 x _ = H4 at O ⊢
    simp only [pf_nil, pf_tl ne_is_late_ways, pf_tl ne_is_late_is_back, pf_tl ne_is_late_is_in] at O ⊢
    refine ⟨_, rfl, _, rfl, x, cR K, dx, _, rfl, O.a0, T.cl_Room, T.na_Room_behind, by show 4 < 1000; decide, ?_⟩
    replace O := O.set (o' := .ins (cR K) dx (putF "behind" (.ref be.ad) [("ways", .int u.w), ("is_back", .bl u.bk), ("is_in", .bl u.inn), ("is_late", .bl u.lt)]))
    generalize upd H4 x _ = H5 at O ⊢
    simp only [pf_nil, pf_tl ne_behind_ways, pf_tl ne_behind_is_back, pf_tl ne_behind_is_in, pf_tl ne_behind_is_late] at O ⊢
    refine ⟨_, rfl, _, rfl, x, cR K, dx, _, rfl, O.a0, T.cl_Room, T.na_Room_title, by show 5 < 1000; decide, ?_⟩
    replace O := O.set (o' := .ins (cR K) dx (putF "title" (.ref ti) [("ways", .int u.w), ("is_back", .bl u.bk), ("is_in", .bl u.inn), ("is_late", .bl u.lt), ("behind", .ref be.ad)]))
    generalize upd H5 x _ = H6 at O ⊢
    simp only [pf_nil, pf_tl ne_title_ways, pf_tl ne_title_is_back, pf_tl ne_title_is_in, pf_tl ne_title_is_late, pf_tl ne_title_behind] at O ⊢
    refine ⟨_, rfl, _, rfl, x, cR K, dx, _, rfl, O.a0, T.cl_Room, T.na_Room_diary, by show 6 < 1000; decide, ?_⟩
    replace O := O.set (o' := .ins (cR K) dx (putF "diary" (.ref di) [("ways", .int u.w), ("is_back", .bl u.bk), ("is_in", .bl u.inn), ("is_late", .bl u.lt), ("behind", .ref be.ad), ("title", .ref ti)]))
    generalize upd H6 x _ = H7 at O ⊢
    simp only [pf_nil, pf_tl ne_diary_ways, pf_tl ne_diary_is_back, pf_tl ne_diary_is_in, pf_tl ne_diary_is_late, pf_tl ne_diary_behind, pf_tl ne_diary_title] at O ⊢
    refine ⟨_, rfl, ra, _, 0, .int u.s, rfl, rfl, SqT.of (hm O), rfl, u.s, rfl, by omega, by rcases hu.s with e | e | e <;> omega, fun D hD => ?_⟩
    refine lc_range (lo := 0) (n := u.s) (fun i H' => ∃ as : List Addr, as.length = i ∧ Own H' ((D, .lst (as.map V.ref)) :: ((as.map fun a => (a, HO.lst [])) ++ ((x, .ins (cR K) dx [("ways", .int u.w), ("is_back", .bl u.bk), ("is_in", .bl u.inn), ("is_late", .bl u.lt), ("behind", .ref be.ad), ("title", .ref ti), ("diary", .ref di)]) :: (ti, .tup tl) :: R))))
      ⟨[], rfl, O.new hD⟩ ?_ ?_
    · rintro i H8 hi ⟨as, has, O8⟩
      refine ⟨rfl, tYes_go (iteT ⟨by show 0 ≤ sizeLine; decide, fun p hp => ?_⟩)⟩
      have O9 := O8.new (o := .lst []) hp
      refine ⟨as.map V.ref, O9.a1, ?_, as ++ [p], by simp [has], ?_⟩
      · rw [List.length_map]
        exact size1 (by rcases hu.s with e | e | e <;> omega)
      · have O10 := (O9.perm (L' := (D, .lst (as.map V.ref)) :: ((p, .lst []) :: ((as.map fun a => (a, HO.lst [])) ++ ((x, .ins (cR K) dx [("ways", .int u.w), ("is_back", .bl u.bk), ("is_in", .bl u.inn), ("is_late", .bl u.lt), ("behind", .ref be.ad), ("title", .ref ti), ("diary", .ref di)]) :: (ti, .tup tl) :: R)))) (by walk_at "perm")).set (o' := .lst (as.map V.ref ++ [.ref p]))
        simp only [List.map_append, List.map_cons, List.map_nil]
        exact O10.perm (by walk_at "perm")
    · rintro H8 ⟨as, has, O8⟩
      have O9 := O8.perm (L' := (x, .ins (cR K) dx [("ways", .int u.w), ("is_back", .bl u.bk), ("is_in", .bl u.inn), ("is_late", .bl u.lt), ("behind", .ref be.ad), ("title", .ref ti), ("diary", .ref di)]) :: ((D, .lst (as.map V.ref)) :: ((as.map fun a => (a, HO.lst [])) ++ ((ti, .tup tl) :: R)))) (by walk_at "perm")
      refine ⟨_, rfl, x, cR K, dx, _, rfl, O9.a0, T.cl_Room, T.na_Room_sets, by show 7 < 1000; decide, ?_⟩
      have O10 := O9.set (o' := .ins (cR K) dx (putF "sets" (.ref D) [("ways", .int u.w), ("is_back", .bl u.bk), ("is_in", .bl u.inn), ("is_late", .bl u.lt), ("behind", .ref be.ad), ("title", .ref ti), ("diary", .ref di)]))
      generalize upd H8 x _ = H9 at O10 ⊢
      simp only [pf_nil, pf_tl ne_sets_ways, pf_tl ne_sets_is_back, pf_tl ne_sets_is_in, pf_tl ne_sets_is_late, pf_tl ne_sets_behind, pf_tl ne_sets_title, pf_tl ne_sets_diary] at O10
      refine k (hdC (cR K) ⟨x, dx, D, ti, ⟨u.w, u.bk, u.inn, u.lt, tl⟩, be, di, as⟩ ++ stsC (cL K) (as.map fun a => (a, []))) H9 ⟨⟨x, dx, D, ti, ⟨u.w, u.bk, u.inn, u.lt, tl⟩, be, di, as⟩, as.map fun a => (a, []), rfl, rfl, rfl, rfl, ?_, ?_, rfl⟩ ?_
      · rw [List.map_map]
        exact (List.map_id as).symm
      · show List.replicate u.s [] = _
        rw [List.map_map, ← has]
        exact (List.map_const' ..).symm
      · rw [sts_nil]
        exact O10.perm (by unfold hdC hdO fRoom; walk_at "perm")
theorem in3 (u : Rul) (h : RulOk u) : inV (.int u.s) [V.int 1, .int 2, .int 4] = true := by
  rcases h.s with e | e | e <;> rw [e] <;> decide
theorem inBk (b : Bool) : inV (.str (sBk b)) [V.str "through", .str "back"] = true := by cases b <;> decide +kernel
theorem inIn (b : Bool) : inV (.str (sIn b)) [V.str "in", .str "by"] = true := by cases b <;> decide +kernel
theorem inLt (b : Bool) : inV (.str (sLt b)) [V.str "first", .str "late"] = true := by cases b <;> decide +kernel
theorem ok_is_rule (T : Txt K mg) : FnOk P w K mg base CX0 2 (He.fAd K ("is_rule", none)) T.fd_is_rule ["rule"] spIsRule := by
  have G_is_number := ok_is_number (P := P) (w := w) (base := base) T
  refine okOf T.F_is_rule sc_is_rule (fun vs H Q E h => ?_) (fun cdv A outer s H vs Q E hr h => ?_)
  · obtain ⟨_, _, rfl, _⟩ := h
    rfl
  · obtain ⟨ra, u, rfl, hu, hra, k⟩ := h
    have hs : (1 : Int) ≤ u.s ∧ (u.s : Int) ≤ 64 := by rcases hu.s with e | e | e <;> omega
    have hw : (1 : Int) ≤ u.w ∧ (u.w : Int) ≤ 4 := by have := hu.w0; have := hu.w4; omega
    refine ⟨_, (pss_cons (ps_if (PW.pt (pw_or (pt_not (pt_val (pe_callB call_isi (by rfl) T.n_isinstance (by decide +kernel) (pa_cons (pv 0) (pa_cons (pe_bltn (v := .ty "tuple") (by rfl) T.n_tuple (by decide +kernel) rfl) pa_nil))))) (pw_or (pt_cmpR op_ne (pe_callB call_len_seq (by rfl) T.n_len PySem.boot_len (pa_cons (pv 0) pa_nil)) pe_int (nomark _)) (pw_or (pt_not (pt_val (pe_call G_is_number (hr.mono (by omega)) rfl T.g_is_number T.k_is_number T.b_is_number .nil pass0 (pa_cons (pe_ix ix_tup (pv 0) pe_int (fun _ _ => rfl)) (pa_cons pe_int (pa_cons (pe_globI rfl T.g_CELLS) pa_nil)))))) (pw_or1 (pt_cmpR op_notIn_seq (pe_ix ix_tup (pv 0) pe_int (fun _ _ => rfl)) (pe_globR rfl T.g_SETS) (by rfl))))))) (pss_one (ps_ret pe_bl)) pss_nil) (pss_one (ps_ret (pe_and (pe_call G_is_number (hr.mono (by omega)) rfl T.g_is_number T.k_is_number T.b_is_number .nil pass0 (pa_cons (pe_ix ix_tup (pv 0) pe_int (fun _ _ => rfl)) (pa_cons pe_int (pa_cons (pe_globI rfl T.g_MOST_WAYS) pa_nil)))) (pe_and (pe_cmpR op_in_seq (pe_ix ix_tup (pv 0) pe_int (fun _ _ => rfl)) (pe_globR rfl T.g_WRITES) (by rfl)) (pe_and (pe_cmpR op_in_seq (pe_ix ix_tup (pv 0) pe_int (fun _ _ => rfl)) (pe_globR rfl T.g_TAKES) (by rfl)) (pe_one (pe_cmpR op_in_seq (pe_ix ix_tup (pv 0) pe_int (fun _ _ => rfl)) (pe_globR rfl T.g_LEAVES) (by rfl))))))))), ?_⟩
    refine ⟨_, rfl, _, _, _, _, true, rfl, ClsV.ty _, TyX.base (.tup hra), kit_ty (by decide +kernel), true, rfl, iteF ?_⟩
    refine ⟨_, rfl, ra, _, rfl, .inr (SqT.of hra), rfl, false, rfl, iteF ?_⟩
    refine ⟨_, rfl, ra, _, 0, .int u.s, rfl, rfl, SqT.of hra, rfl, u.s, 1, 64, rfl, true, by rw [decide_eq_true hs], iteF ?_⟩
    refine ⟨_, rfl, ra, _, 0, .int u.s, rfl, rfl, SqT.of hra, rfl, _, _, rfl, .inr (T.t_SETS H), rfl, rfl, false, by rw [in3 u hu]; rfl, iteF ?_⟩
    refine ⟨_, rfl, ra, _, 1, .int u.w, rfl, rfl, SqT.of hra, rfl, u.w, 1, 4, rfl, true, by rw [decide_eq_true hw], iteT ?_⟩
    refine ⟨_, rfl, ra, _, 2, _, rfl, rfl, SqT.of hra, rfl, _, _, rfl, .inr (T.t_WRITES H), rfl, rfl, true, by rw [inBk]; rfl, iteT ?_⟩
    refine ⟨_, rfl, ra, _, 3, _, rfl, rfl, SqT.of hra, rfl, _, _, rfl, .inr (T.t_TAKES H), rfl, rfl, true, by rw [inIn]; rfl, iteT ?_⟩
    refine ⟨_, rfl, ra, _, 4, _, rfl, rfl, SqT.of hra, rfl, _, _, rfl, .inr (T.t_LEAVES H), rfl, rfl, ?_⟩
    rw [inLt]
    exact k
theorem ok_need_rules (T : Txt K mg) : FnOk P w K mg base CX0 3 (He.fAd K ("need_rules", none)) T.fd_need_rules ["rules"] spNeedRules := by
  have G_is_rule := ok_is_rule (P := P) (w := w) (base := base) T
  refine okOf T.F_need_rules sc_need_rules (fun vs H Q E h => ?_) (fun cdv A outer s H vs Q E hr h => ?_)
  · obtain ⟨_, _, _, rfl, _⟩ := h
    rfl
  · obtain ⟨rl, us, R, rfl, hus, ⟨ras, hrl, hra⟩, O, k⟩ := h
    have hlen := hra.len
    have h1 := hus.l1
    have h3 := hus.l3
    refine ⟨_, (pss_cons (ps_for PassesOwn.never rfl (pi_enum (by rfl) T.n_enumerate (pa_cons (pv 0) pa_nil)) (pg_tup (by rfl) (pgs_cons (pg_name (i := 1) sc_need_rules.nd rfl (Or.inl rfl)) (pgs_cons (pg_name (i := 2) sc_need_rules.nd rfl (Or.inl rfl)) pgs_nil))) (pss_one (ps_if (PW.pt (pw_or (pt_cmpR op_ge (pv 1) (pe_globI rfl T.g_MOST_RULES) (nomark _)) (pw_or1 (pt_not (pt_val (pe_call G_is_rule (hr.mono (by omega)) rfl T.g_is_rule T.k_is_rule T.b_is_rule .nil pass0 (pa_cons (pv 2) pa_nil))))))) (pss_one ps_never) pss_nil))) (pss_one (ps_if (pt_cmpR op_eq (pe_callB call_len_seq (by rfl) T.n_len PySem.boot_len (pa_cons (pv 0) pa_nil)) pe_int (nomark _)) (pss_one ps_never) pss_nil))), ?_⟩
    refine ⟨_, rfl, rl, _, rfl, SqL.of (O.mem hrl), ?_⟩
    refine for_enum (K := K) (a := rl) (xs := ras.map V.ref) (fun i σ H' => (∃ v1 v2, σ = [some (.ref rl), v1, v2]) ∧ Own H' R) ⟨⟨none, none, rfl⟩, O⟩ (fun i σ H' _ ⟨_, O'⟩ => SqL.of (O'.mem hrl)) ?_ ?_
    · rintro i x σ H1 p hi ⟨⟨v1, v2, rfl⟩, O1⟩ hp
      rw [List.getElem?_map] at hi
      cases ha : ras[i]? with
      | none =>
        rw [ha] at hi
        cases hi
      | some a =>
        rw [ha] at hi
        have ex : V.ref a = x := Option.some.inj hi
        subst ex
        obtain ⟨u, hu1, hu2⟩ := hra.get ha
        have hi3 : i < us.length := (List.getElem?_eq_some_iff.mp hu1).1
        have O2 := O1.new (o := .tup [.int (i : Nat), .ref a]) hp
        refine ⟨p, _, rfl, SqT.of O2.a0, rfl, _, _, rfl, _, _, rfl, rfl, ?_⟩
        refine ⟨_, rfl, i, 3, rfl, rfl, false, ?_, iteF ?_⟩
        · show V.bl (decide ((3 : Int) ≤ (i : Int))) = V.bl false
          rw [decide_eq_false (by omega)]
        · refine ⟨_, rfl, a, u, rfl, hus.ok u (List.mem_of_getElem? hu1), O2.mem (List.mem_cons_of_mem _ hu2), true, rfl, iteF ⟨⟨_, _, rfl⟩, O2.tail⟩⟩
    · rintro σ H1 ⟨⟨v1, v2, rfl⟩, O1⟩
      refine ⟨_, rfl, rl, _, rfl, .inl (SqL.of (O1.mem hrl)), rfl, false, ?_, iteF (k H1 O1)⟩
      congr 1
      exact decide_eq_false (by
        rw [List.length_map]
        intro z
        injection z with z
        omega)
theorem ok_need_hands (T : Txt K mg) : FnOk P w K mg base CX0 2 (He.fAd K ("need_hands", none)) T.fd_need_hands ["hands"] spNeedHands := by
  have G_is_number := ok_is_number (P := P) (w := w) (base := base) T
  refine okOf T.F_need_hands sc_need_hands (fun vs H Q E h => ?_) (fun cdv A outer s H vs Q E hr h => ?_)
  · obtain ⟨_, rfl, _⟩ := h
    rfl
  · obtain ⟨n, rfl, h1, h3, k⟩ := h
    refine ⟨_, (pss_one (ps_if (pt_not (pt_val (pe_call G_is_number (hr.mono (by omega)) rfl T.g_is_number T.k_is_number T.b_is_number .nil pass0 (pa_cons (pv 0) (pa_cons pe_int (pa_cons (pe_globI rfl T.g_MOST_HANDS) pa_nil)))))) (pss_one ps_never) pss_nil)), ?_⟩
    refine ⟨_, rfl, n, 1, 3, rfl, true, ?_, iteF k⟩
    rw [decide_eq_true]
    omega
end
-- WwH
/-! ### halls -/
structure Ha where
  own : List Rm
  t : Ta
def Pa.rooms : Pa → List Addr
  | .far _ => []
  | .room a be => a :: be.rooms
def Pa.last : Pa → Addr
  | .far la => la
  | .room _ be => be.last
structure HaA where
  x : Addr
  dx : Addr
  di : Addr
  sl : Addr
  ol : Addr
  sh : Pa
  owns : List Addr
def hallC (K : PySem.W.Frag) (A : HaA) : List Cell := [(A.x, .ins (cH K) A.dx (fHall (.ref A.di) (.ref A.sh.last) (.ref A.sl) (.ref A.ol))), (A.sl, .lst (A.sh.rooms.map V.ref)), (A.ol, .lst (A.owns.map V.ref))]
def OwnsRep (K : PySem.W.Frag) (di : Addr) (be : Pa) : List Addr → List Rm → List Cell → Prop
  | [], [], C => C = []
  | a :: as, r :: rs, C => ∃ C1 C2 : List Cell, RmRepK K di a be r C1 ∧ OwnsRep K di be as rs C2 ∧ C = C1 ++ C2
  | _, _, _ => False
def HallRepA (K : PySem.W.Frag) (A : HaA) (ha : Ha) (C : List Cell) : Prop := ∃ Co Cb D : List Cell, OwnsRep K A.di A.sh A.owns ha.own Co ∧ RepK K A.di A.sh ha.t.rs ha.t.far Cb ∧ DRep A.di ha.t.log D ∧ C = hallC K A ++ (Co ++ (Cb ++ D))
def HallRep (K : PySem.W.Frag) (x : Addr) (ha : Ha) (C : List Cell) : Prop := ∃ A : HaA, A.x = x ∧ HallRepA K A ha C
structure HaOk (n m : Nat) (ha : Ha) : Prop where
  t : TaOk n ha.t
  len : ha.own.length = m
  own : ∀ r ∈ ha.own, RmOk r
  n2 : n ≤ 2
  m1 : 1 ≤ m
  m3 : m ≤ 3
section
variable {K : PySem.W.Frag} {di : Addr} {be : Pa}
theorem OwnsRep.len : ∀ {as : List Addr} {rs : List Rm} {C : List Cell}, OwnsRep K di be as rs C → as.length = rs.length
  | [], [], _, _ => rfl
  | [], _ :: _, _, h => h.elim
  | _ :: _, [], _, h => h.elim
  | _ :: _, _ :: _, _, ⟨_, _, _, h, _⟩ => congrArg (· + 1) h.len
theorem OwnsRep.app : ∀ {as : List Addr} {rs : List Rm} {C C1 : List Cell} {a : Addr} {r : Rm}, OwnsRep K di be as rs C → RmRepK K di a be r C1 → OwnsRep K di be (as ++ [a]) (rs ++ [r]) (C ++ C1)
  | [], [], _, C1, a, r, h, k => by
    have h : _ = [] := h
    rw [h]
    exact ⟨C1, [], k, rfl, by simp⟩
  | [], _ :: _, _, _, _, _, h, _ => h.elim
  | _ :: _, [], _, _, _, _, h, _ => h.elim
  | b :: as, q :: rs, _, C1, a, r, ⟨D1, D2, h1, h2, e⟩, k => ⟨D1, D2 ++ C1, h1, OwnsRep.app h2 k, by rw [e, List.append_assoc]⟩
theorem OwnsRep.at : ∀ {as : List Addr} {rs : List Rm} {C : List Cell} {i : Nat} {r : Rm}, OwnsRep K di be as rs C → rs[i]? = some r →
    ∃ (a : Addr) (C1 Z : List Cell), as[i]? = some a ∧ RmRepK K di a be r C1 ∧ C.Perm (C1 ++ Z) ∧ ∀ (r' : Rm) (C1' : List Cell), RmRepK K di a be r' C1' → ∃ C', OwnsRep K di be as (rs.set i r') C' ∧ C'.Perm (C1' ++ Z)
  | [], [], _, i, r, _, e => by simp at e
  | [], _ :: _, _, _, _, h, _ => h.elim
  | _ :: _, [], _, _, _, h, _ => h.elim
  | b :: as, q :: rs, _, 0, r, ⟨D1, D2, h1, h2, e⟩, e0 => by
    have eq : q = r := by simpa using e0
    subst eq
    exact ⟨b, D1, D2, rfl, h1, by rw [e], fun r' C1' hr' => ⟨C1' ++ D2, ⟨C1', D2, hr', h2, rfl⟩, List.Perm.refl _⟩⟩
  | b :: as, q :: rs, _, i + 1, r, ⟨D1, D2, h1, h2, e⟩, e0 => by
    obtain ⟨a, C1, Z, g1, g2, g3, g4⟩ := OwnsRep.at (i := i) (r := r) h2 (by simpa using e0)
    refine ⟨a, C1, D1 ++ Z, by simpa using g1, g2, ?_, fun r' C1' hr' => ?_⟩
    · rw [e]
      refine (List.Perm.append_left _ g3).trans ?_
      walk_at "perm"
    · obtain ⟨C', k1, k2⟩ := g4 r' C1' hr'
      refine ⟨D1 ++ C', ⟨D1, C', h1, k1, rfl⟩, ?_⟩
      refine (List.Perm.append_left _ k2).trans ?_
      walk_at "perm"
end
def shRs : Nat → List Rul → List Rm
  | _, [] => []
  | lev, u :: us => mkRm u [.int lev, .int 0] :: shRs (lev + 1) us
def ownRs (u : Rul) (m : Nat) : List Rm := (List.range m).map fun h => mkRm u [.int 0, .int (h : Nat)]
def rul0 (us : List Rul) : Rul := us.getD 0 ⟨1, 1, true, true, true⟩
def hall0 (us : List Rul) (m : Nat) : Ha := ⟨ownRs (rul0 us) m, ⟨shRs 1 (us.drop 1), List.replicate 64 0, []⟩⟩
theorem shRs_len : ∀ (lev : Nat) (us : List Rul), (shRs lev us).length = us.length
  | _, [] => rfl
  | lev, u :: us => congrArg (· + 1) (shRs_len (lev + 1) us)
theorem shRs_ok : ∀ (lev : Nat) {us : List Rul}, (∀ u ∈ us, RulOk u) → ∀ r ∈ shRs lev us, RmOk r
  | _, [], _, r, hr => by cases hr
  | lev, u :: us, h, r, hr => by
    rcases List.mem_cons.mp hr with e | hr
    · rw [e]
      exact mkRm_ok (h u List.mem_cons_self) (by show 2 ≤ 4; omega)
    · exact shRs_ok (lev + 1) (fun v hv => h v (List.mem_cons_of_mem _ hv)) r hr
theorem rul0_ok {us : List Rul} (h : RulesOk us) : RulOk (rul0 us) ∧ us[0]? = some (rul0 us) := by
  cases us with
  | nil =>
    have := h.l1
    simp at this
  | cons u us => exact ⟨h.ok u List.mem_cons_self, rfl⟩
theorem hall0_ok {us : List Rul} (h : RulesOk us) {m : Nat} (h1 : 1 ≤ m) (h3 : m ≤ 3) : HaOk (us.length - 1) m (hall0 us m) := by
  refine ⟨⟨?_, ?_, rfl⟩, ?_, ?_, by have := h.l3; omega, h1, h3⟩
  · show (shRs 1 (us.drop 1)).length = _
    rw [shRs_len, List.length_drop]
  · exact shRs_ok 1 fun u hu => h.ok u (List.mem_of_mem_drop hu)
  · show (ownRs (rul0 us) m).length = m
    unfold ownRs
    rw [List.length_map, List.length_range]
  · intro r hr
    obtain ⟨i, _, rfl⟩ := List.mem_map.mp hr
    exact mkRm_ok (rul0_ok h).1 (by show 2 ≤ 4; omega)
def spHallInit (K : PySem.W.Frag) : Sp := fun vs H Q _ => ∃ (x dx rl : Addr) (us : List Rul) (m : Nat) (R : List Cell), vs = [.ref x, .ref rl, .int m] ∧ RulesOk us ∧ 1 ≤ m ∧ m ≤ 3 ∧ RulesAt R rl us ∧ Own H ((x, .ins (cH K) dx []) :: R) ∧
  ∀ (C : List Cell) (H' : Hp), HallRep K x (hall0 us m) C → Own H' (C ++ R) → Q .non H'
section
variable {P : Program} {w : World} {K : PySem.W.Frag} {mg : Str → Option Value} {base : Heap} {n lv : Nat}
theorem ok_Hall_init (T : Txt K mg) : FnOk P w K mg base CX0 4 (He.fAd K ("Hall", some "__init__")) T.fd_Hall___init__ ["self", "rules", "hands"] (spHallInit K) := by
  have G_need_rules := ok_need_rules (P := P) (w := w) (base := base) T
  have G_need_hands := ok_need_hands (P := P) (w := w) (base := base) T
  have G_Far___init__ := ok_Far_init (P := P) (w := w) (base := base) T
  have G_Room___init__ := ok_Room_init (P := P) (w := w) (base := base) T
  refine okOf T.F_Hall___init__ sc_Hall___init__ (fun vs H Q E h => ?_) (fun cdv A outer s H vs Q E hr h => ?_)
  · obtain ⟨_, _, _, _, _, _, rfl, _⟩ := h
    rfl
  · obtain ⟨x, dx, rl, us, m, R, rfl, hus, hm1, hm3, hrl, O, k⟩ := h
    obtain ⟨ras, hrl1, hra⟩ := id hrl
    have hlen := hra.len
    have hl1 := hus.l1
    have hl3 := hus.l3
    refine ⟨_, (pss_cons (ps_expr (pe_call G_need_rules (hr.mono (by omega)) rfl T.g_need_rules T.k_need_rules T.b_need_rules .nil pass0 (pa_cons (pv 1) pa_nil))) (pss_cons (ps_expr (pe_call G_need_hands (hr.mono (by omega)) rfl T.g_need_hands T.k_need_hands T.b_need_hands .nil pass0 (pa_cons (pv 2) pa_nil))) (pss_cons (ps_fld (pv 0) (pe_lst pa_nil) rfl) (pss_cons (ps_fld (pv 0) (pe_make0 T.mk_Far G_Far___init__ (hr.mono (by omega)) rfl T.g_Far T.b_Far___init__ .nil pass0) rfl) (pss_cons (ps_fld (pv 0) (pe_lst pa_nil) rfl) (pss_cons (ps_set (i := 3) sc_Hall___init__.nd rfl (Or.inr rfl) (pe_fld (pv 0) rfl)) (pss_cons (ps_for PassesOwn.never rfl (pi_range3 rfl T.n_range (pa_cons (pe_op op_sub (pe_callB call_len_seq (by rfl) T.n_len PySem.boot_len (pa_cons (pv 1) pa_nil)) pe_int) (pa_cons pe_int (pa_cons (pe_un un_neg pe_int) pa_nil)))) (pg_name (i := 4) sc_Hall___init__.nd rfl (Or.inl rfl)) (pss_cons (ps_set (i := 3) sc_Hall___init__.nd rfl (Or.inr rfl) (pe_make T.mk_Room G_Room___init__ (hr.mono (by omega)) rfl T.g_Room T.b_Room___init__ .nil pass0 (pa_cons (pe_ix ix_list (pv 1) (pv 4) (fun _ _ => rfl)) (pa_cons (pv 3) (pa_cons (pe_tup (pa_cons (pv 4) (pa_cons pe_int pa_nil))) (pa_cons (pe_fld (pv 0) rfl) pa_nil)))))) (pss_one (ps_fld (pv 0) (pe_op op_cat (pe_lst (pa_cons (pv 3) pa_nil)) (pe_fld (pv 0) rfl)) rfl)))) (pss_one (ps_fld (pv 0) (pe_lc (te := (tMake (He.ga K "Room") (spRoomInit K) [] E0 (tCons (tOp (rIxL K) (tVar 1) (tC (.int 0))) (tCons (tVar 3) (tCons (tTup (tCons (tC (.int 0)) (tCons (tVar 5) tNil))) (tCons (tFld K (tVar 0) "diary") tNil)))))) (own := [("hand", 5)]) (by rfl) sc_Hall___init__.nd (pi_range1 (by rfl) T.n_range (pa_cons (pv 2) pa_nil)) (blkOk_by (own := [("hand", 5)]) (by kernel_rfl)) (fun _ _ _ _ _ => (pg_name (i := 5) sc_Hall___init__.nd rfl (Or.inl rfl))) (fun _ _ _ _ _ => pts_nil) (fun _ _ _ _ _ => (pe_make T.mk_Room G_Room___init__ (hr.mono (by omega)) rfl T.g_Room T.b_Room___init__ .nil pass0 (pa_cons (pe_ix ix_list (pv 1) pe_int (fun _ _ => rfl)) (pa_cons (pv 3) (pa_cons (pe_tup (pa_cons pe_int (pa_cons (pv 5) pa_nil))) (pa_cons (pe_fld (pv 0) rfl) pa_nil))))))) rfl))))))))), ?_⟩
    refine ⟨_, rfl, rl, us, _, rfl, hus, ⟨ras, List.mem_cons_of_mem _ hrl1, hra.mono fun c hc => List.mem_cons_of_mem _ hc⟩, O, fun H1 O1 => ?_⟩
    refine ⟨_, rfl, m, rfl, hm1, hm3, ?_⟩
    -- self.diary = []
    refine ⟨by show 0 ≤ sizeLine; decide, fun di hdi => ?_⟩
    have O2 := O1.new (o := .lst []) hdi
    generalize upd H1 di _ = H2 at O2 ⊢
    refine ⟨_, rfl, x, cH K, dx, _, rfl, O2.a1, T.cl_Hall, T.na_Hall_diary, by show 0 < 1000; decide, ?_⟩
    replace O2 := (O2.perm (L' := (x, .ins (cH K) dx []) :: (di, .lst []) :: R) (by walk_at "perm")).set (o' := .ins (cH K) dx (putF "diary" (.ref di) []))
    generalize upd H2 x _ = H3 at O2 ⊢
    -- self.last = Far()
    intro la ldx hla hldx hne
    have O3 := (O2.keepNew (o := .own la) hldx).new (p := la) (o := .ins (cF K) ldx []) (by rw [upd_ne (Ne.symm hne)]; exact hla)
    refine ⟨la, ldx, _, rfl, O3, fun fl H4 O4 => ⟨rfl, ?_⟩⟩
    refine ⟨_, rfl, x, cH K, dx, _, rfl, O4.a2, T.cl_Hall, T.na_Hall_last, by show 1 < 1000; decide, ?_⟩
    replace O4 := (O4.perm (L' := (x, .ins (cH K) dx (putF "diary" (.ref di) [])) :: (di, .lst []) :: ([(la, .ins (cF K) ldx (fFar (.ref fl))), (fl, .lst ((List.replicate 64 (0 : Int)).map V.int))] ++ R)) (by walk_at "perm")).set (o' := .ins (cH K) dx (putF "last" (.ref la) (putF "diary" (.ref di) [])))
    generalize upd H4 x _ = H5 at O4 ⊢
    simp only [pf_nil, pf_tl ne_last_diary] at O4
    -- self.shared = []
    refine ⟨by show 0 ≤ sizeLine; decide, fun sl hsl => ?_⟩
    have O5 := O4.new (o := .lst []) hsl
    generalize upd H5 sl _ = H6 at O5 ⊢
    refine ⟨_, rfl, x, cH K, dx, _, rfl, O5.a1, T.cl_Hall, T.na_Hall_shared, by show 2 < 1000; decide, ?_⟩
    replace O5 := (O5.perm (L' := (x, .ins (cH K) dx [("diary", .ref di), ("last", .ref la)]) :: (sl, .lst []) :: (di, .lst []) :: ([(la, .ins (cF K) ldx (fFar (.ref fl))), (fl, .lst ((List.replicate 64 (0 : Int)).map V.int))] ++ R)) (by walk_at "perm")).set (o' := .ins (cH K) dx (putF "shared" (.ref sl) [("diary", .ref di), ("last", .ref la)]))
    generalize upd H6 x _ = H7 at O5 ⊢
    simp only [pf_nil, pf_tl ne_shared_diary, pf_tl ne_shared_last] at O5
    -- behind = self.last
    refine ⟨_, rfl, x, cH K, dx, _, _, rfl, O5.a0, T.cl_Hall, T.na_Hall_last, (lk_tl ne_last_diary).trans lk_hd, ?_⟩
    -- the loop
    have hrlm : ∀ {L : List Cell} {H : Hp}, Own H (L ++ R) → H rl = some (.lst (ras.map V.ref)) := fun O => O.mem (List.mem_append_right _ hrl1)
    refine ⟨_, rfl, rl, _, rfl, .inl (SqL.of (hrlm (L := _ :: _ :: _ :: _ :: [_]) O5)), _, _, rfl, rfl, 1, rfl, ((ras.map V.ref).length : Int) - 1, 0, -1, (((ras.map V.ref).length : Int) - 1 - 0).toNat, rfl, RgC.neg (by rw [List.length_map]; omega) (by rw [List.length_map]; omega) (by decide) (by decide), ?_⟩
    have eN : (((ras.map V.ref).length : Int) - 1 - 0).toNat = us.length - 1 := by
      rw [List.length_map]
      omega
    rw [eN]
    refine for_rangeC (lo := ((ras.map V.ref).length : Int) - 1) (c := -1) (n := us.length - 1) (fun i σ H' => ∃ (be : Pa) (sl : Addr) (Cb : List Cell) (v4 : Option V), σ = [some (.ref x), some (.ref rl), some (.int m), some (.ref be.ad), v4, none] ∧ be.last = la ∧ RepK K di be (shRs (us.length - i) (us.drop (us.length - i))) (List.replicate 64 0) Cb ∧
        be.rooms.length = i ∧ Own H' ((x, .ins (cH K) dx [("diary", .ref di), ("last", .ref la), ("shared", .ref sl)]) :: (sl, .lst (be.rooms.map V.ref)) :: (di, .lst []) :: (Cb ++ R)))
      ⟨.far la, sl, _, none, rfl, rfl, by rw [Nat.sub_zero, List.drop_length]; exact ⟨ldx, fl, rfl⟩, rfl, O5⟩ ?_ ?_
    · rintro i σ H8 hi ⟨be, sl, Cb, v4, rfl, hbl, hCb, hbr, O8⟩
      have hlt : us.length - 1 - i < us.length := by omega
      obtain ⟨a, ha1, ha2⟩ := hra.get' (List.getElem?_eq_getElem hlt)
      have hu : RulOk us[us.length - 1 - i] := hus.ok _ (List.getElem_mem hlt)
      refine ⟨_, rfl, _, rfl, rl, _, _, .ref a, rfl, rfl, SqL.of (hrlm (L := _ :: _ :: _ :: Cb) O8), ?_, _, rfl, _, rfl, by show 2 ≤ sizeLine; decide, fun ti hti => ?_⟩
      · have e : ((ras.map V.ref).length : Int) - 1 + (i : Nat) * (-1) = ((us.length - 1 - i : Nat) : Int) := by
          rw [List.length_map]
          omega
        rw [e]
        refine atI_nat ?_
        rw [List.getElem?_map, ha1]
        rfl
      · have e : ((ras.map V.ref).length : Int) - 1 + (i : Nat) * (-1) = ((us.length - 1 - i : Nat) : Int) := by
          rw [List.length_map]
          omega
        rw [e] at *
        have O9 := O8.new (o := .tup [.int ((us.length - 1 - i : Nat) : Int), .int 0]) hti
        generalize upd H8 ti _ = H9 at O9 ⊢
        refine ⟨_, rfl, x, cH K, dx, _, _, rfl, O9.a1, T.cl_Hall, T.na_Hall_diary, lk_hd, fun y dy hy hdy hne => ?_⟩
        have O10 := (O9.keepNew (o := .own y) hdy).new (p := y) (o := .ins (cR K) dy []) (by rw [upd_ne (Ne.symm hne)]; exact hy)
        refine ⟨y, dy, a, ti, di, be, us[us.length - 1 - i], [.int ((us.length - 1 - i : Nat) : Int), .int 0], _, rfl, hu, ?_, O10, fun C1 H11 hC1 O11 => ⟨rfl, ?_⟩⟩
        · simp only [List.mem_cons, List.mem_append]
          exact .inr (.inr (.inr (.inr ha2)))
        · -- self.shared = [behind] + self.shared
          have O12 := O11.perm (L' := (x, .ins (cH K) dx [("diary", .ref di), ("last", .ref la), ("shared", .ref sl)]) :: (sl, .lst (be.rooms.map V.ref)) :: (di, .lst []) :: ((C1 ++ Cb) ++ R)) (by walk_at "perm")
          refine ⟨_, rfl, by show 1 ≤ sizeLine; decide, fun p hp => ?_⟩
          have O13 := O12.new (o := .lst [.ref y]) hp
          generalize upd H11 p _ = H13 at O13 ⊢
          refine ⟨_, rfl, x, cH K, dx, _, _, rfl, O13.a1, T.cl_Hall, T.na_Hall_shared, (lk_tl ne_shared_diary).trans ((lk_tl ne_shared_last).trans lk_hd), p, sl, _, _, rfl, rfl, O13.a0, O13.a2, ?_, fun q hq => ?_⟩
          · rw [List.length_map, hbr]
            exact size2 (by show 1 + i ≤ _; omega)
          · have O14 := O13.tail.new (o := .lst ([.ref y] ++ be.rooms.map V.ref)) hq
            generalize upd H13 q _ = H14 at O14 ⊢
            refine ⟨_, rfl, x, cH K, dx, _, rfl, O14.a1, T.cl_Hall, T.na_Hall_shared, by show 3 < 1000; decide, ?_⟩
            have O15 := (O14.perm (L' := (x, .ins (cH K) dx [("diary", .ref di), ("last", .ref la), ("shared", .ref sl)]) :: (q, .lst ([.ref y] ++ be.rooms.map V.ref)) :: (sl, .lst (be.rooms.map V.ref)) :: (di, .lst []) :: ((C1 ++ Cb) ++ R)) (by walk_at "perm")).set (o' := .ins (cH K) dx (putF "shared" (.ref q) [("diary", .ref di), ("last", .ref la), ("shared", .ref sl)]))
            simp only [pf_tl ne_shared_diary, pf_tl ne_shared_last, pf_hd] at O15 ⊢
            refine ⟨.room y be, q, C1 ++ Cb, _, rfl, hbl, ?_, by show be.rooms.length + 1 = _; rw [hbr], ?_⟩
            · have e1 : us.length - (i + 1) = us.length - 1 - i := by omega
              have e2 : us.drop (us.length - 1 - i) = us[us.length - 1 - i] :: us.drop (us.length - i) := by
                rw [List.drop_eq_getElem_cons hlt]
                congr 2
                omega
              rw [e1, e2]
              refine ⟨C1, Cb, hC1, ?_, rfl⟩
              have e3 : us.length - 1 - i + 1 = us.length - i := by omega
              rw [e3]
              exact hCb
            · refine Own.right (L' := [(sl, .lst (be.rooms.map V.ref))]) (O15.perm ?_)
              show (_ :: (q, HO.lst (V.ref y :: be.rooms.map V.ref)) :: _).Perm (_ ++ (_ :: (q, HO.lst (V.ref y :: be.rooms.map V.ref)) :: _))
              walk_at "perm"
    · rintro σ H8 ⟨be, sl, Cb, v4, rfl, hbl, hCb, hbr, O8⟩
      have e1 : us.length - (us.length - 1) = 1 := by omega
      rw [e1] at hCb
      obtain ⟨hu0, hg0⟩ := rul0_ok hus
      obtain ⟨a, ha1, ha2⟩ := hra.get' hg0
      refine ⟨_, rfl, m, rfl, by omega, by omega, fun D hD => ?_⟩
      refine lc_range (lo := 0) (n := m) (fun i H' => ∃ (as : List Addr) (Co : List Cell), OwnsRep K di be as (ownRs (rul0 us) i) Co ∧ Own H' ((D, .lst (as.map V.ref)) :: (x, .ins (cH K) dx [("diary", .ref di), ("last", .ref la), ("shared", .ref sl)]) :: (sl, .lst (be.rooms.map V.ref)) :: (di, .lst []) :: (Co ++ (Cb ++ R))))
        ⟨[], [], rfl, O8.new hD⟩ ?_ ?_
      · rintro i H9 hi ⟨as, Co, hCo, O9⟩
        have hal := hCo.len
        unfold ownRs at hal
        rw [List.length_map, List.length_range] at hal
        refine ⟨rfl, tYes_go (iteT ?_)⟩
        refine ⟨_, rfl, rl, _, 0, .ref a, rfl, rfl, SqL.of (O9.mem (by simp only [List.mem_cons, List.mem_append]; exact .inr (.inr (.inr (.inr (.inr (.inr hrl1))))))), ?_, _, rfl, _, rfl, by show 2 ≤ sizeLine; decide, fun ti hti => ?_⟩
        · refine atI_nat (j := 0) ?_
          rw [List.getElem?_map, ha1]
          rfl
        · have O10 := O9.new (o := .tup [.int 0, .int (0 + (i : Int))]) hti
          generalize upd H9 ti _ = H10 at O10 ⊢
          refine ⟨_, rfl, x, cH K, dx, _, _, rfl, O10.a2, T.cl_Hall, T.na_Hall_diary, lk_hd, fun y dy hy hdy hne => ?_⟩
          have O11 := (O10.keepNew (o := .own y) hdy).new (p := y) (o := .ins (cR K) dy []) (by rw [upd_ne (Ne.symm hne)]; exact hy)
          refine ⟨y, dy, a, ti, di, be, rul0 us, [.int 0, .int (0 + (i : Int))], _, rfl, hu0, ?_, O11, fun C1 H12 hC1 O12 => ⟨rfl, ?_⟩⟩
          · simp only [List.mem_cons, List.mem_append]
            exact .inr (.inr (.inr (.inr (.inr (.inr ha2)))))
          · have O13 := O12.perm (L' := (D, .lst (as.map V.ref)) :: (x, .ins (cH K) dx [("diary", .ref di), ("last", .ref la), ("shared", .ref sl)]) :: (sl, .lst (be.rooms.map V.ref)) :: (di, .lst []) :: ((Co ++ C1) ++ (Cb ++ R))) (by walk_at "perm")
            refine ⟨_, O13.a0, by rw [List.length_map]; exact size1 (by omega), as ++ [y], Co ++ C1, ?_, ?_⟩
            · have e : ownRs (rul0 us) (i + 1) = ownRs (rul0 us) i ++ [mkRm (rul0 us) [.int 0, .int (0 + (i : Int))]] := by
                unfold ownRs
                rw [List.range_succ, List.map_append, Int.zero_add]
                rfl
              rw [e]
              exact hCo.app hC1
            · rw [List.map_append]
              exact O13.set
      · rintro H9 ⟨as, Co, hCo, O9⟩
        have O10 := O9.perm (L' := (x, .ins (cH K) dx [("diary", .ref di), ("last", .ref la), ("shared", .ref sl)]) :: (D, .lst (as.map V.ref)) :: (sl, .lst (be.rooms.map V.ref)) :: (di, .lst []) :: (Co ++ (Cb ++ R))) (by walk_at "perm")
        refine ⟨_, rfl, x, cH K, dx, _, rfl, O10.a0, T.cl_Hall, T.na_Hall_own, by show 3 < 1000; decide, ?_⟩
        have O11 := O10.set (o' := .ins (cH K) dx (putF "own" (.ref D) [("diary", .ref di), ("last", .ref la), ("shared", .ref sl)]))
        simp only [pf_nil, pf_tl ne_own_diary, pf_tl ne_own_last, pf_tl ne_own_shared] at O11 ⊢
        refine k (hallC K ⟨x, dx, di, sl, D, be, as⟩ ++ (Co ++ (Cb ++ [(di, .lst [])]))) _ ⟨⟨x, dx, di, sl, D, be, as⟩, rfl, Co, Cb, [(di, .lst [])], hCo, hCb, ⟨[], rfl, rfl⟩, rfl⟩ (O11.perm ?_)
        unfold hallC fHall
        dsimp only
        rw [hbl]
        walk_at "perm"
end
-- WwI
/-! ### what a hall does, plainly -/
def yieldAt (n : Nat) (ha : Ha) (b : Nat) (g : Bool) (i : Nat) : Ha := match ha.own[i]? with
  | none => ha
  | some r => ⟨ha.own.set i (r.put b (yieldL (ops n) r.ru (r.ls b) ha.t b g).1), (yieldL (ops n) r.ru (r.ls b) ha.t b g).2⟩
def askN (n hand b : Nat) (g : Bool) : Nat → Ha → Ha
  | 0, ha => ha
  | k + 1, ha => if k = hand then askN n hand b g k ha else yieldAt n (askN n hand b g k ha) b g k
def ask (n : Nat) (ha : Ha) (hand b : Nat) (g : Bool) : Ha := askN n hand b g ha.own.length ha
def lookAt (n : Nat) (ha : Ha) (hand p : Nat) : Int × Ha := match ha.own[hand]? with
  | none => (0, ha)
  | some r => ((lookL (ops n) r.ru (r.ls (p / 4)) ha.t p).1, ⟨ha.own.set hand (r.put (p / 4) (lookL (ops n) r.ru (r.ls (p / 4)) ha.t p).2.1), (lookL (ops n) r.ru (r.ls (p / 4)) ha.t p).2.2⟩)
def changeAt (n : Nat) (ha : Ha) (hand p : Nat) (v : Int) : Ha := match ha.own[hand]? with
  | none => ha
  | some r => ⟨ha.own.set hand (r.put (p / 4) (changeL (ops n) r.ru (r.ls (p / 4)) ha.t p v).1), (changeL (ops n) r.ru (r.ls (p / 4)) ha.t p v).2⟩
def hLook (n : Nat) (ha : Ha) (hand p : Nat) : Int × Ha := lookAt n (ask n ha hand (p / 4) false) hand p
def hChange (n : Nat) (ha : Ha) (hand p : Nat) (v : Int) : Ha := changeAt n (ask n ha hand (p / 4) true) hand p v
section
variable {n m : Nat} {ha : Ha}
theorem HaOk.set (h : HaOk n m ha) {i : Nat} {r : Rm} {t : Ta} (hr : RmOk r) (ht : TaOk n t) : HaOk n m ⟨ha.own.set i r, t⟩ :=
  ⟨ht, by show (ha.own.set i r).length = m; rw [List.length_set]; exact h.len, fun r' hm => by
    rcases List.mem_or_eq_of_mem_set hm with hm | e
    · exact h.own r' hm
    · rw [e]
      exact hr, h.n2, h.m1, h.m3⟩
theorem g12 (h : n ≤ 2) : gOf n ≤ 12 := by
  match n, h with
  | 0, _ => decide
  | 1, _ => decide
  | 2, _ => decide
theorem yieldAt_ok (h : HaOk n m ha) {b : Nat} (hb : b < 16) (g : Bool) (i : Nat) : HaOk n m (yieldAt n ha b g i) ∧ (yieldAt n ha b g i).t.log.length ≤ ha.t.log.length + 13 := by
  unfold yieldAt
  cases e : ha.own[i]? with
  | none => exact ⟨h, by show ha.t.log.length ≤ _; omega⟩
  | some r =>
    have hr := h.own r (List.mem_of_getElem? e)
    obtain ⟨h1, h2, h3⟩ := yieldL_ok (ops_ok n) (hr.ls b) h.t hb (gone := g)
    have := g12 h.n2
    exact ⟨h.set (put_ok hr h1) h2, by show (yieldL (ops n) r.ru (r.ls b) ha.t b g).2.log.length ≤ _; omega⟩
theorem askN_ok (h : HaOk n m ha) {b : Nat} (hb : b < 16) (hand : Nat) (g : Bool) : ∀ k, HaOk n m (askN n hand b g k ha) ∧ (askN n hand b g k ha).t.log.length ≤ ha.t.log.length + 13 * k
  | 0 => ⟨h, Nat.le_refl _⟩
  | k + 1 => by
    obtain ⟨h1, h2⟩ := askN_ok h hb hand g k
    unfold askN
    split
    · exact ⟨h1, by omega⟩
    · obtain ⟨h3, h4⟩ := yieldAt_ok h1 hb g k
      exact ⟨h3, by omega⟩
theorem ask_ok (h : HaOk n m ha) {b : Nat} (hb : b < 16) (hand : Nat) (g : Bool) : HaOk n m (ask n ha hand b g) ∧ (ask n ha hand b g).t.log.length ≤ ha.t.log.length + 39 := by
  obtain ⟨h1, h2⟩ := askN_ok h hb hand g ha.own.length
  have := h.len
  have := h.m3
  exact ⟨h1, by show (askN n hand b g ha.own.length ha).t.log.length ≤ _; omega⟩
theorem lookAt_ok (h : HaOk n m ha) (hand : Nat) {p : Nat} (hp : p < 64) : HaOk n m (lookAt n ha hand p).2 ∧ (lookAt n ha hand p).2.t.log.length ≤ ha.t.log.length + 26 := by
  unfold lookAt
  cases e : ha.own[hand]? with
  | none => exact ⟨h, by show ha.t.log.length ≤ _; omega⟩
  | some r =>
    have hr := h.own r (List.mem_of_getElem? e)
    obtain ⟨h1, h2, h3⟩ := lookL_ok (ops_ok n) hr.ru (hr.ls (p / 4)) h.t hp
    have := g12 h.n2
    exact ⟨h.set (put_ok hr h1) h2, by show (lookL (ops n) r.ru (r.ls (p / 4)) ha.t p).2.2.log.length ≤ _; omega⟩
theorem changeAt_ok (h : HaOk n m ha) (hand : Nat) {p : Nat} (hp : p < 64) (v : Int) : HaOk n m (changeAt n ha hand p v) ∧ (changeAt n ha hand p v).t.log.length ≤ ha.t.log.length + 39 := by
  unfold changeAt
  cases e : ha.own[hand]? with
  | none => exact ⟨h, by show ha.t.log.length ≤ _; omega⟩
  | some r =>
    have hr := h.own r (List.mem_of_getElem? e)
    obtain ⟨h1, h2, h3⟩ := changeL_ok (v := v) (ops_ok n) hr.ru (hr.ls (p / 4)) h.t hp
    have := g12 h.n2
    exact ⟨h.set (put_ok hr h1) h2, by show (changeL (ops n) r.ru (r.ls (p / 4)) ha.t p v).2.log.length ≤ _; omega⟩
theorem hLook_ok (h : HaOk n m ha) (hand : Nat) {p : Nat} (hp : p < 64) : HaOk n m (hLook n ha hand p).2 ∧ (hLook n ha hand p).2.t.log.length ≤ ha.t.log.length + 100 := by
  obtain ⟨h1, h2⟩ := ask_ok h (show p / 4 < 16 by omega) hand false
  obtain ⟨h3, h4⟩ := lookAt_ok h1 hand hp
  exact ⟨h3, by show (lookAt n _ hand p).2.t.log.length ≤ _; omega⟩
theorem hChange_ok (h : HaOk n m ha) (hand : Nat) {p : Nat} (hp : p < 64) (v : Int) : HaOk n m (hChange n ha hand p v) ∧ (hChange n ha hand p v).t.log.length ≤ ha.t.log.length + 100 := by
  obtain ⟨h1, h2⟩ := ask_ok h (show p / 4 < 16 by omega) hand true
  obtain ⟨h3, h4⟩ := changeAt_ok h1 hand hp v
  exact ⟨h3, by show (changeAt n _ hand p v).t.log.length ≤ _; omega⟩
end
/-! ### promises of a hall -/
def LH (ha : Ha) : Prop := ha.t.log.length ≤ 900000
def spHNeed (K : PySem.W.Frag) : Sp := fun vs H Q _ => ∃ (A : HaA) (hand p : Nat) (R : List Cell), vs = [.ref A.x, .int hand, .int p] ∧ hand < A.owns.length ∧ p < 64 ∧ Own H (hallC K A ++ R) ∧ Q .non H
def spHAsk (K : PySem.W.Frag) : Sp := fun vs H Q _ => ∃ (A : HaA) (n m hand p : Nat) (g : Bool) (ha : Ha) (C R : List Cell), vs = [.ref A.x, .int hand, .int p, .bl g] ∧ p < 64 ∧ HaOk n m ha ∧ LH ha ∧ HallRepA K A ha C ∧ Own H (C ++ R) ∧
  ∀ (C' : List Cell) (H' : Hp), HallRepA K A (ask n ha hand (p / 4) g) C' → Own H' (C' ++ R) → Q .non H'
def spHLook (K : PySem.W.Frag) : Sp := fun vs H Q _ => ∃ (x : Addr) (n m hand p : Nat) (ha : Ha) (C R : List Cell), vs = [.ref x, .int hand, .int p] ∧ hand < m ∧ p < 64 ∧ HaOk n m ha ∧ LH ha ∧ HallRep K x ha C ∧ Own H (C ++ R) ∧
  ∀ (C' : List Cell) (H' : Hp), HallRep K x (hLook n ha hand p).2 C' → Own H' (C' ++ R) → Q (.int (hLook n ha hand p).1) H'
def spHChange (K : PySem.W.Frag) : Sp := fun vs H Q _ => ∃ (x : Addr) (n m hand p : Nat) (v : Int) (ha : Ha) (C R : List Cell), vs = [.ref x, .int hand, .int p, .int v] ∧ hand < m ∧ p < 64 ∧ 0 ≤ v ∧ v ≤ 999 ∧ HaOk n m ha ∧ LH ha ∧ HallRep K x ha C ∧ Own H (C ++ R) ∧
  ∀ (C' : List Cell) (H' : Hp), HallRep K x (hChange n ha hand p v) C' → Own H' (C' ++ R) → Q .non H'
def spHFar (K : PySem.W.Frag) : Sp := fun vs H Q _ => ∃ (x : Addr) (n m : Nat) (ha : Ha) (C R : List Cell), vs = [.ref x] ∧ HaOk n m ha ∧ HallRep K x ha C ∧ Own H (C ++ R) ∧
  ∀ (p : Addr) (H' : Hp), Own H' ((p, .lst (ha.t.far.map V.int)) :: (C ++ R)) → Q (.ref p) H'
/-- the room of a level, as a hand sees it -/
def roomAt (ha : Ha) (level hand : Nat) : Option Rm := if level = 0 then ha.own[hand]? else ha.t.rs[level - 1]?
def spHNear (K : PySem.W.Frag) : Sp := fun vs H Q _ => ∃ (x : Addr) (n m level hand : Nat) (ha : Ha) (r : Rm) (C R : List Cell), vs = [.ref x, .int level, .int hand] ∧ level ≤ n ∧ hand < m ∧ HaOk n m ha ∧ HallRep K x ha C ∧ roomAt ha level hand = some r ∧ Own H (C ++ R) ∧
  ∀ (p : Addr) (N : List Cell) (H' : Hp), DpL N (.ref p) (ssD r.ss) → Own H' (N ++ (C ++ R)) → Q (.ref p) H'
theorem Rep.rooms {CF CL CR di : Addr} : ∀ {be : Pa} {rs : List Rm} {far : List Int} {C : List Cell}, Rep CF CL CR di be rs far C → be.rooms.length = rs.length
  | .far _, [], _, _, _ => rfl
  | .far _, _ :: _, _, _, h => h.elim
  | .room _ _, [], _, _, h => h.elim
  | .room _ be, _ :: _, _, _, ⟨_, _, _, h, _⟩ => congrArg (· + 1) (Rep.rooms h)
theorem Rep.at {CF CL CR di : Addr} : ∀ {be : Pa} {rs : List Rm} {far : List Int} {C : List Cell} {j : Nat} {r : Rm}, Rep CF CL CR di be rs far C → rs[j]? = some r → ∃ (a : Addr) (be' : Pa) (C1 Z : List Cell), be.rooms[j]? = some a ∧ RmRep CL CR di a be' r C1 ∧ C.Perm (C1 ++ Z)
  | .far _, [], _, _, j, r, _, e => by simp at e
  | .far _, _ :: _, _, _, _, _, h, _ => h.elim
  | .room _ _, [], _, _, _, _, h, _ => h.elim
  | .room a be, q :: rs, _, _, 0, r, ⟨C1, C2, h1, h2, e⟩, e0 => by
    have eq : q = r := by simpa using e0
    subst eq
    exact ⟨a, be, C1, C2, rfl, h1, by rw [e]⟩
  | .room a be, q :: rs, _, _, j + 1, r, ⟨C1, C2, h1, h2, e⟩, e0 => by
    obtain ⟨a', be', D1, Z, g1, g2, g3⟩ := Rep.at (j := j) (r := r) h2 (by simpa using e0)
    refine ⟨a', be', D1, C1 ++ Z, by simpa [Pa.rooms] using g1, g2, ?_⟩
    rw [e]
    refine (List.Perm.append_left _ g3).trans ?_
    walk_at "perm"
theorem Rep.last {CF CL CR di : Addr} : ∀ {be : Pa} {rs : List Rm} {far : List Int} {C : List Cell}, Rep CF CL CR di be rs far C → ∃ (dx fl : Addr) (Z : List Cell), C.Perm ((be.last, .ins CF dx (fFar (.ref fl))) :: (fl, .lst (far.map V.int)) :: Z)
  | .far _, [], _, _, ⟨dx, fl, e⟩ => ⟨dx, fl, [], by rw [e]; exact List.Perm.refl _⟩
  | .far _, _ :: _, _, _, h => h.elim
  | .room _ _, [], _, _, h => h.elim
  | .room _ be, _ :: _, _, _, ⟨C1, C2, _, h, e⟩ => by
    obtain ⟨dx, fl, Z, g⟩ := Rep.last h
    refine ⟨dx, fl, C1 ++ Z, ?_⟩
    rw [e]
    refine (List.Perm.append_left _ g).trans ?_
    show (C1 ++ ((be.last, _) :: _ :: Z)).Perm ((be.last, _) :: _ :: (C1 ++ Z))
    walk_at "perm"
section
variable {P : Program} {w : World} {K : PySem.W.Frag} {mg : Str → Option Value} {base : Heap} {n lv : Nat}
theorem ok_H_need (T : Txt K mg) : FnOk P w K mg base CX0 2 (He.fAd K ("Hall", some "need")) T.fd_Hall_need ["self", "hand", "place"] (spHNeed K) := by
  have G_is_number := ok_is_number (P := P) (w := w) (base := base) T
  refine okOf T.F_Hall_need sc_Hall_need (fun vs H Q E h => ?_) (fun cdv A outer s H vs Q E hr h => ?_)
  · obtain ⟨_, _, _, _, rfl, _⟩ := h
    rfl
  · obtain ⟨A, hand, p, R, rfl, hh, hp, O, k⟩ := h
    refine ⟨_, (pss_cons (ps_if (pt_not (pt_val (pe_call G_is_number (hr.mono (by omega)) rfl T.g_is_number T.k_is_number T.b_is_number .nil pass0 (pa_cons (pv 1) (pa_cons pe_int (pa_cons (pe_op op_sub (pe_callB call_len_seq (by rfl) T.n_len PySem.boot_len (pa_cons (pe_fld (pv 0) rfl) pa_nil)) pe_int) pa_nil)))))) (pss_one ps_never) pss_nil) (pss_one (ps_if (pt_not (pt_val (pe_call G_is_number (hr.mono (by omega)) rfl T.g_is_number T.k_is_number T.b_is_number .nil pass0 (pa_cons (pv 2) (pa_cons pe_int (pa_cons (pe_op op_sub (pe_globI rfl T.g_CELLS) pe_int) pa_nil)))))) (pss_one ps_never) pss_nil))), ?_⟩
    refine ⟨_, rfl, _, rfl, A.x, cH K, A.dx, _, _, rfl, O.a0, T.cl_Hall, T.na_Hall_own, lk_Hall_own, A.ol, _, rfl, .inl (SqL.of O.a2), _, _, rfl, rfl, hand, 0, _, rfl, true, ?_, iteF ?_⟩
    · rw [decide_eq_true]
      rw [List.length_map]
      omega
    · refine ⟨_, rfl, _, _, rfl, rfl, p, 0, _, rfl, true, ?_, iteF k⟩
      rw [decide_eq_true]
      omega
theorem HallRepA.own {A : HaA} {ha : Ha} {C : List Cell} (h : HallRepA K A ha C) : A.owns.length = ha.own.length := by
  obtain ⟨Co, Cb, D, h1, _⟩ := h
  exact h1.len
/-- one own room taken out: what a step of it asks, and what it leaves -/
theorem HallRepA.at {A : HaA} {ha : Ha} {C R : List Cell} {H : Hp} {n m i : Nat} {r : Rm} (h : HallRepA K A ha C) (hk : HaOk n m ha) (hl : ha.t.log.length ≤ 999000) (e : ha.own[i]? = some r) (O : Own H (C ++ R)) :
    ∃ (a : Addr) (C1 Cb D R' : List Cell), A.owns[i]? = some a ∧ RPre K n H A.di a A.sh r ha.t C1 Cb D (hallC K A ++ R') ∧
      ∀ (r' : Rm) (t' : Ta) (H' : Hp), RPost K A.di a A.sh (hallC K A ++ R') r' t' H' → ∃ C', HallRepA K A ⟨ha.own.set i r', t'⟩ C' ∧ Own H' (C' ++ R) := by
  obtain ⟨Co, Cb, D, h1, h2, h3, rfl⟩ := h
  obtain ⟨a, C1, Z, g1, g2, g3, g4⟩ := h1.at e
  refine ⟨a, C1, Cb, D, Z ++ R, g1, ⟨hk.own r (List.mem_of_getElem? e), hk.t, ⟨by have := hk.n2; omega, ?_⟩, g2, h2, h3, O.perm ?_⟩, fun r' t' H' hp => ?_⟩
  · have := hk.n2
    omega
  · refine (List.Perm.append_right R (List.Perm.append_left (hallC K A) (List.Perm.append_right (Cb ++ D) g3))).trans ?_
    walk_at "perm"
  · obtain ⟨C1', Cb', D', k1, k2, k3, O'⟩ := hp
    obtain ⟨C', j1, j2⟩ := g4 r' C1' k1
    refine ⟨hallC K A ++ (C' ++ (Cb' ++ D')), ⟨C', Cb', D', j1, k2, k3, rfl⟩, O'.perm ?_⟩
    refine List.Perm.trans ?_ (List.Perm.append_right R (List.Perm.append_left (hallC K A) (List.Perm.append_right (Cb' ++ D') j2))).symm
    walk_at "perm"
theorem ok_H_ask (T : Txt K mg) : FnOk P w K mg base CX0 15 (He.fAd K ("Hall", some "ask_others")) T.fd_Hall_ask_others ["self", "hand", "place", "is_gone"] (spHAsk K) := by
  have G_block_of := ok_block_of (P := P) (w := w) (base := base) T
  refine okOf T.F_Hall_ask_others sc_Hall_ask_others (fun vs H Q E h => ?_) (fun cdv A outer s H vs Q E hr h => ?_)
  · obtain ⟨_, _, _, _, _, _, _, _, _, rfl, _⟩ := h
    rfl
  · obtain ⟨A, n, m, hand, p, g, ha, C, R, rfl, hp, hk, hl, hC, O, k⟩ := h
    have hn2 := hk.n2
    have hlv : lvOf n = 4 * n + 1 := rfl
    have G_Room_yield_up := ok_R_yield T (behN (P := P) (w := w) (base := base) T n) (by show 1 ≤ 4 * n + 1; omega)
    have hb : p / 4 < 16 := by omega
    refine ⟨_, (pss_one (ps_for PassesOwn.never rfl (pi_range1 (by rfl) T.n_range (pa_cons (pe_callB call_len_seq (by rfl) T.n_len PySem.boot_len (pa_cons (pe_fld (pv 0) rfl) pa_nil)) pa_nil)) (pg_name (i := 4) sc_Hall_ask_others.nd rfl (Or.inl rfl)) (pss_one (ps_if (pt_cmpR op_ne (pv 4) (pv 1) (nomark _)) (pss_one (ps_expr (pe_meth (pe_ix ix_list (pe_fld (pv 0) rfl) (pv 4) (fun _ _ => rfl)) T.cl_Room T.m_Room_yield_up G_Room_yield_up (hr.mono (by omega)) T.b_Room_yield_up .nil pass0 (pa_cons (pe_call G_block_of (hr.mono (by omega)) rfl T.g_block_of T.k_block_of T.b_block_of .nil pass0 (pa_cons (pv 2) pa_nil)) (pa_cons (pv 3) pa_nil))))) pss_nil)))), ?_⟩
    have hx : ∀ {ha : Ha} {C : List Cell} {H : Hp}, HallRepA K A ha C → Own H (C ++ R) → H A.x = some (.ins (cH K) A.dx (fHall (.ref A.di) (.ref A.sh.last) (.ref A.sl) (.ref A.ol))) ∧ H A.ol = some (.lst (A.owns.map V.ref)) := by
      rintro ha C H ⟨Co, Cb, D, _, _, _, rfl⟩ O
      exact ⟨O.a0, O.a2⟩
    have ho := hC.own
    have hm3 := hk.m3
    have hlen := hk.len
    refine ⟨_, rfl, A.x, cH K, A.dx, _, _, rfl, (hx hC O).1, T.cl_Hall, T.na_Hall_own, lk_Hall_own, A.ol, _, rfl, .inl (SqL.of (hx hC O).2), ((A.owns.map V.ref).length : Int), rfl, by omega, by rw [List.length_map]; omega, ?_⟩
    refine for_range (lo := 0) (n := (A.owns.map V.ref).length) (fun i σ H' => (∃ v, σ = [some (.ref A.x), some (.int hand), some (.int p), some (.bl g), v]) ∧ ∃ C', HallRepA K A (askN n hand (p / 4) g i ha) C' ∧ Own H' (C' ++ R))
      ⟨⟨none, rfl⟩, C, hC, O⟩ ?_ ?_
    · rintro i σ H1 hi ⟨⟨v, rfl⟩, C1, hC1, O1⟩
      rw [List.length_map] at hi
      obtain ⟨hk1, hl1⟩ := askN_ok hk hb hand g i
      have hlh : (askN n hand (p / 4) g i ha).t.log.length ≤ 999000 := by
        unfold LH at hl
        omega
      refine ⟨_, rfl, _, rfl, rfl, _, rfl, ?_⟩
      by_cases eh : i = hand
      · have e1 : (!decide (V.int (0 + (i : Int)) = V.int hand)) = false := by
          rw [eh, Int.zero_add, decide_eq_true rfl]
          rfl
        rw [e1]
        refine iteF ⟨⟨_, rfl⟩, C1, ?_, O1⟩
        unfold askN
        rw [if_pos eh]
        exact hC1
      · have e1 : (!decide (V.int (0 + (i : Int)) = V.int hand)) = true := by
          rw [decide_eq_false]
          · rfl
          · intro z
            injection z with z
            omega
        rw [e1]
        have hio : i < (askN n hand (p / 4) g i ha).own.length := by rw [hk1.len]; omega
        obtain ⟨a, D1, Cb, D, R', g1, hpre, hback⟩ := hC1.at hk1 hlh (List.getElem?_eq_getElem hio) O1
        obtain ⟨f1, f2, f3, f4, f5, f6, Of⟩ := id hpre
        obtain ⟨hdr, ssr, ea, _, _, _, _, _, eD1⟩ := f4
        have hA : H1 a = some (hdO (cR K) hdr) := by
          rw [← ea]
          exact Of.mem (List.mem_append_left _ (by rw [eD1]; exact List.mem_append_left _ List.mem_cons_self))
        refine iteT ⟨_, rfl, A.x, cH K, A.dx, _, _, rfl, (hx hC1 O1).1, T.cl_Hall, T.na_Hall_own, lk_Hall_own, _, rfl, A.ol, _, _, .ref a, rfl, rfl, SqL.of (hx hC1 O1).2, ?_, a, hdr.dx, _, rfl, hA, no_Room_yield_up, _, rfl, p, rfl, _, rfl, a, A.sh, A.di, p / 4, g, _, _, D1, Cb, D, _, rfl, hb, hpre, fun H2 hp2 => ?_⟩
        · rw [Int.zero_add]
          refine atI_nat ?_
          rw [List.getElem?_map, g1]
          rfl
        · obtain ⟨C2, hC2, O2⟩ := hback _ _ H2 hp2
          refine ⟨⟨_, rfl⟩, C2, ?_, O2⟩
          have e2 : askN n hand (p / 4) g (i + 1) ha = yieldAt n (askN n hand (p / 4) g i ha) (p / 4) g i := by
            show (if i = hand then _ else _) = _
            rw [if_neg eh]
          rw [e2]
          unfold yieldAt
          rw [List.getElem?_eq_getElem hio]
          exact hC2
    · rintro σ H1 ⟨⟨v, rfl⟩, C1, hC1, O1⟩
      rw [List.length_map, ho] at hC1
      exact k C1 H1 hC1 O1
theorem room_obj {A : HaA} {a : Addr} {be : Pa} {r : Rm} {C1 : List Cell} (h : RmRepK K A.di a be r C1) : ∃ (dx : Addr) (w bk inn lt b ti di ss : V), (a, HO.ins (cR K) dx (fRoom w bk inn lt b ti di ss)) ∈ C1 := by
  obtain ⟨hdr, ssr, ea, _, _, _, _, _, eD1⟩ := h
  rw [← ea, eD1]
  exact ⟨_, _, _, _, _, _, _, _, _, List.mem_append_left _ List.mem_cons_self⟩
theorem ok_H_look (T : Txt K mg) : FnOk P w K mg base CX0 16 (He.fAd K ("Hall", some "look")) T.fd_Hall_look ["self", "hand", "place"] (spHLook K) := by
  have G_Hall_need := ok_H_need (P := P) (w := w) (base := base) T
  have G_Hall_ask_others := ok_H_ask (P := P) (w := w) (base := base) T
  refine okOf T.F_Hall_look sc_Hall_look (fun vs H Q E h => ?_) (fun cdv A outer s H vs Q E hr h => ?_)
  · obtain ⟨_, _, _, _, _, _, _, _, rfl, _⟩ := h
    rfl
  · obtain ⟨x, n, m, hand, p, ha, C, R, rfl, hh, hp, hk, hl, ⟨A, rfl, hC⟩, O, k⟩ := h
    have hn2 := hk.n2
    have hlv : lvOf n = 4 * n + 1 := rfl
    have G_Room_look := ok_R_look T (behN (P := P) (w := w) (base := base) T n) (by show 1 ≤ 4 * n + 1; omega)
    have hb : p / 4 < 16 := by omega
    refine ⟨_, (pss_cons (ps_expr (pe_meth (pv 0) T.cl_Hall T.m_Hall_need G_Hall_need (hr.mono (by omega)) T.b_Hall_need .nil pass0 (pa_cons (pv 1) (pa_cons (pv 2) pa_nil)))) (pss_cons (ps_expr (pe_meth (pv 0) T.cl_Hall T.m_Hall_ask_others G_Hall_ask_others (hr.mono (by omega)) T.b_Hall_ask_others .nil pass0 (pa_cons (pv 1) (pa_cons (pv 2) (pa_cons pe_bl pa_nil))))) (pss_one (ps_ret (pe_meth (pe_ix ix_list (pe_fld (pv 0) rfl) (pv 1) (fun _ _ => rfl)) T.cl_Room T.m_Room_look G_Room_look (hr.mono (by omega)) T.b_Room_look .nil pass0 (pa_cons (pv 2) pa_nil)))))), ?_⟩
    have hx : ∀ {ha : Ha} {C : List Cell} {H : Hp}, HallRepA K A ha C → Own H (C ++ R) → ∃ R' : List Cell, Own H (hallC K A ++ R') := by
      rintro ha C H ⟨Co, Cb, D, _, _, _, rfl⟩ O
      exact ⟨_, by rw [List.append_assoc] at O; exact O⟩
    obtain ⟨R1, Oh⟩ := hx hC O
    have ho := hC.own
    have hlen := hk.len
    refine ⟨_, rfl, A.x, A.dx, _, rfl, Oh.a0, no_Hall_need, _, rfl, _, rfl, A, hand, p, R1, rfl, by omega, hp, Oh, ?_⟩
    refine ⟨_, rfl, A.x, A.dx, _, rfl, Oh.a0, no_Hall_ask_others, _, rfl, _, rfl, A, n, m, hand, p, false, ha, C, R, rfl, hp, hk, hl, hC, O, fun C1 H1 hC1 O1 => ?_⟩
    obtain ⟨hk1, hl1⟩ := ask_ok hk hb hand false
    obtain ⟨R2, Oh1⟩ := hx hC1 O1
    have hio : hand < (ask n ha hand (p / 4) false).own.length := by rw [hk1.len]; exact hh
    obtain ⟨a, D1, Cb, D, R', g1, hpre, hback⟩ := hC1.at hk1 (by unfold LH at hl; omega) (List.getElem?_eq_getElem hio) O1
    obtain ⟨f1, f2, f3, f4, f5, f6, Of⟩ := id hpre
    obtain ⟨dxr, _, _, _, _, _, _, _, _, hmr⟩ := room_obj f4
    refine ⟨_, rfl, A.x, cH K, A.dx, _, _, rfl, Oh1.a0, T.cl_Hall, T.na_Hall_own, lk_Hall_own, _, rfl, A.ol, _, _, .ref a, rfl, rfl, SqL.of Oh1.a2, atI_nat (by rw [List.getElem?_map, g1]; rfl), a, dxr, _, rfl, Of.mem (List.mem_append_left _ hmr), no_Room_look, _, rfl, a, A.sh, A.di, p, _, _, D1, Cb, D, _, rfl, hp, hpre, fun H2 hp2 => ?_⟩
    obtain ⟨C2, hC2, O2⟩ := hback _ _ H2 hp2
    have e : hLook n ha hand p = ((lookL (ops n) (ask n ha hand (p / 4) false).own[hand].ru ((ask n ha hand (p / 4) false).own[hand].ls (p / 4)) (ask n ha hand (p / 4) false).t p).1,
        ⟨(ask n ha hand (p / 4) false).own.set hand ((ask n ha hand (p / 4) false).own[hand].put (p / 4) (lookL (ops n) (ask n ha hand (p / 4) false).own[hand].ru ((ask n ha hand (p / 4) false).own[hand].ls (p / 4)) (ask n ha hand (p / 4) false).t p).2.1), (lookL (ops n) (ask n ha hand (p / 4) false).own[hand].ru ((ask n ha hand (p / 4) false).own[hand].ls (p / 4)) (ask n ha hand (p / 4) false).t p).2.2⟩) := by
      unfold hLook lookAt
      rw [List.getElem?_eq_getElem hio]
    rw [e] at k
    exact k C2 H2 ⟨A, rfl, hC2⟩ O2
theorem ok_H_change (T : Txt K mg) : FnOk P w K mg base CX0 16 (He.fAd K ("Hall", some "change")) T.fd_Hall_change ["self", "hand", "place", "number"] (spHChange K) := by
  have G_Hall_need := ok_H_need (P := P) (w := w) (base := base) T
  have G_Hall_ask_others := ok_H_ask (P := P) (w := w) (base := base) T
  have G_is_number := ok_is_number (P := P) (w := w) (base := base) T
  refine okOf T.F_Hall_change sc_Hall_change (fun vs H Q E h => ?_) (fun cdv A outer s H vs Q E hr h => ?_)
  · obtain ⟨_, _, _, _, _, _, _, _, _, rfl, _⟩ := h
    rfl
  · obtain ⟨x, n, m, hand, p, v, ha, C, R, rfl, hh, hp, hv0, hv9, hk, hl, ⟨A, rfl, hC⟩, O, k⟩ := h
    have hn2 := hk.n2
    have hlv : lvOf n = 4 * n + 1 := rfl
    have G_Room_change := ok_R_change T (behN (P := P) (w := w) (base := base) T n) (by show 1 ≤ 4 * n + 1; omega)
    have hb : p / 4 < 16 := by omega
    refine ⟨_, (pss_cons (ps_expr (pe_meth (pv 0) T.cl_Hall T.m_Hall_need G_Hall_need (hr.mono (by omega)) T.b_Hall_need .nil pass0 (pa_cons (pv 1) (pa_cons (pv 2) pa_nil)))) (pss_cons (ps_if (pt_not (pt_val (pe_call G_is_number (hr.mono (by omega)) rfl T.g_is_number T.k_is_number T.b_is_number .nil pass0 (pa_cons (pv 3) (pa_cons pe_int (pa_cons (pe_globI rfl T.g_MOST_NUMBER) pa_nil)))))) (pss_one ps_never) pss_nil) (pss_cons (ps_expr (pe_meth (pv 0) T.cl_Hall T.m_Hall_ask_others G_Hall_ask_others (hr.mono (by omega)) T.b_Hall_ask_others .nil pass0 (pa_cons (pv 1) (pa_cons (pv 2) (pa_cons pe_bl pa_nil))))) (pss_one (ps_expr (pe_meth (pe_ix ix_list (pe_fld (pv 0) rfl) (pv 1) (fun _ _ => rfl)) T.cl_Room T.m_Room_change G_Room_change (hr.mono (by omega)) T.b_Room_change .nil pass0 (pa_cons (pv 2) (pa_cons (pv 3) pa_nil)))))))), ?_⟩
    have hx : ∀ {ha : Ha} {C : List Cell} {H : Hp}, HallRepA K A ha C → Own H (C ++ R) → ∃ R' : List Cell, Own H (hallC K A ++ R') := by
      rintro ha C H ⟨Co, Cb, D, _, _, _, rfl⟩ O
      exact ⟨_, by rw [List.append_assoc] at O; exact O⟩
    obtain ⟨R1, Oh⟩ := hx hC O
    have ho := hC.own
    have hlen := hk.len
    refine ⟨_, rfl, A.x, A.dx, _, rfl, Oh.a0, no_Hall_need, _, rfl, _, rfl, A, hand, p, R1, rfl, by omega, hp, Oh, ?_⟩
    refine ⟨_, rfl, v, 0, 999, rfl, true, by rw [decide_eq_true ⟨hv0, hv9⟩], iteF ?_⟩
    refine ⟨_, rfl, A.x, A.dx, _, rfl, Oh.a0, no_Hall_ask_others, _, rfl, _, rfl, A, n, m, hand, p, true, ha, C, R, rfl, hp, hk, hl, hC, O, fun C1 H1 hC1 O1 => ?_⟩
    obtain ⟨hk1, hl1⟩ := ask_ok hk hb hand true
    obtain ⟨R2, Oh1⟩ := hx hC1 O1
    have hio : hand < (ask n ha hand (p / 4) true).own.length := by rw [hk1.len]; exact hh
    obtain ⟨a, D1, Cb, D, R', g1, hpre, hback⟩ := hC1.at hk1 (by unfold LH at hl; omega) (List.getElem?_eq_getElem hio) O1
    obtain ⟨f1, f2, f3, f4, f5, f6, Of⟩ := id hpre
    obtain ⟨dxr, _, _, _, _, _, _, _, _, hmr⟩ := room_obj f4
    refine ⟨_, rfl, A.x, cH K, A.dx, _, _, rfl, Oh1.a0, T.cl_Hall, T.na_Hall_own, lk_Hall_own, _, rfl, A.ol, _, _, .ref a, rfl, rfl, SqL.of Oh1.a2, atI_nat (by rw [List.getElem?_map, g1]; rfl), a, dxr, _, rfl, Of.mem (List.mem_append_left _ hmr), no_Room_change, _, rfl, _, rfl, a, A.sh, A.di, p, v, _, _, D1, Cb, D, _, rfl, hp, hpre, fun H2 hp2 => ?_⟩
    obtain ⟨C2, hC2, O2⟩ := hback _ _ H2 hp2
    refine k C2 H2 ⟨A, rfl, ?_⟩ O2
    unfold hChange changeAt
    rw [List.getElem?_eq_getElem hio]
    exact hC2
theorem ok_H_far (T : Txt K mg) : FnOk P w K mg base CX0 1 (He.fAd K ("Hall", some "far")) T.fd_Hall_far ["self"] (spHFar K) := by
  refine okOf T.F_Hall_far sc_Hall_far (fun vs H Q E h => ?_) (fun cdv A outer s H vs Q E hr h => ?_)
  · obtain ⟨_, _, _, _, _, _, rfl, _⟩ := h
    rfl
  · obtain ⟨x, n, m, ha, C, R, rfl, hk, ⟨A, rfl, Co, Cb, D, h1, h2, h3, rfl⟩, O, k⟩ := h
    obtain ⟨dxf, fl, Z, hp⟩ := h2.last
    refine ⟨_, (pss_one (ps_ret (pe_callTy call_list_of (by rfl) T.n_list (by decide +kernel) (pa_cons (pe_fld (pe_fld (pv 0) rfl) rfl) pa_nil)))), ?_⟩
    have hm : ∀ c, c ∈ ((A.sh.last, HO.ins (cF K) dxf (fFar (.ref fl))) :: (fl, HO.lst (ha.t.far.map V.int)) :: Z) → H c.1 = some c.2 := fun c hc => O.2 c (by
      simp only [List.mem_append]
      exact .inl (.inr (.inr (.inl (hp.mem_iff.mpr hc)))))
    have hx : H A.x = some (.ins (cH K) A.dx (fHall (.ref A.di) (.ref A.sh.last) (.ref A.sl) (.ref A.ol))) := O.a0
    refine ⟨_, rfl, A.x, cH K, A.dx, _, _, rfl, hx, T.cl_Hall, T.na_Hall_last, lk_Hall_last, A.sh.last, cF K, dxf, _, _, rfl, hm (_, _) List.mem_cons_self, T.cl_Far, T.na_Far_held, lk_Far_held, fl, _, rfl, .inl (SqL.of (hm (_, _) (List.mem_cons_of_mem _ List.mem_cons_self))), fun q hq => ?_⟩
    exact k q _ (O.new hq)
theorem ok_H_near (T : Txt K mg) : FnOk P w K mg base CX0 2 (He.fAd K ("Hall", some "near")) T.fd_Hall_near ["self", "level", "hand"] (spHNear K) := by
  have G_is_number := ok_is_number (P := P) (w := w) (base := base) T
  have G_Room_holds := ok_R_holds (P := P) (w := w) (base := base) T
  refine okOf T.F_Hall_near sc_Hall_near (fun vs H Q E h => ?_) (fun cdv A outer s H vs Q E hr h => ?_)
  · obtain ⟨_, _, _, _, _, _, _, _, _, rfl, _⟩ := h
    rfl
  · obtain ⟨x, n, m, level, hand, ha, r, C, R, rfl, hlv, hh, hk, ⟨A, rfl, Co, Cb, D, h1, h2, h3, rfl⟩, er, O, k⟩ := h
    have hrooms := Rep.rooms h2
    have ho := h1.len
    have hlen := hk.len
    have htl := hk.t.len
    have hx : H A.x = some (.ins (cH K) A.dx (fHall (.ref A.di) (.ref A.sh.last) (.ref A.sl) (.ref A.ol))) := O.a0
    have hs : H A.sl = some (.lst (A.sh.rooms.map V.ref)) := O.a1
    have hol : H A.ol = some (.lst (A.owns.map V.ref)) := O.a2
    refine ⟨_, (pss_cons (ps_if (pt_not (pt_val (pe_call G_is_number (hr.mono (by omega)) rfl T.g_is_number T.k_is_number T.b_is_number .nil pass0 (pa_cons (pv 1) (pa_cons pe_int (pa_cons (pe_callB call_len_seq (by rfl) T.n_len PySem.boot_len (pa_cons (pe_fld (pv 0) rfl) pa_nil)) pa_nil)))))) (pss_one ps_never) pss_nil) (pss_cons (ps_if (pt_not (pt_val (pe_call G_is_number (hr.mono (by omega)) rfl T.g_is_number T.k_is_number T.b_is_number .nil pass0 (pa_cons (pv 2) (pa_cons pe_int (pa_cons (pe_op op_sub (pe_callB call_len_seq (by rfl) T.n_len PySem.boot_len (pa_cons (pe_fld (pv 0) rfl) pa_nil)) pe_int) pa_nil)))))) (pss_one ps_never) pss_nil) (pss_one (ps_ret (pe_ifExp (pt_cmpR op_eq (pv 1) pe_int (nomark _)) (pe_meth0 (pe_ix ix_list (pe_fld (pv 0) rfl) (pv 2) (fun _ _ => rfl)) T.cl_Room T.m_Room_holds G_Room_holds (hr.mono (by omega)) T.b_Room_holds .nil pass0) (pe_meth0 (pe_ix ix_list (pe_fld (pv 0) rfl) (pe_op op_sub (pv 1) pe_int) (fun _ _ => rfl)) T.cl_Room T.m_Room_holds G_Room_holds (hr.mono (by omega)) T.b_Room_holds .nil pass0)))))), ?_⟩
    refine ⟨_, rfl, _, rfl, A.x, cH K, A.dx, _, _, rfl, hx, T.cl_Hall, T.na_Hall_shared, lk_Hall_shared, A.sl, _, rfl, .inl (SqL.of hs), level, 0, _, rfl, true, ?_, iteF ?_⟩
    · rw [decide_eq_true]
      rw [List.length_map]
      omega
    refine ⟨_, rfl, _, rfl, A.x, cH K, A.dx, _, _, rfl, hx, T.cl_Hall, T.na_Hall_own, lk_Hall_own, A.ol, _, rfl, .inl (SqL.of hol), _, _, rfl, rfl, hand, 0, _, rfl, true, ?_, iteF ?_⟩
    · rw [decide_eq_true]
      rw [List.length_map]
      omega
    refine ⟨_, rfl, rfl, _, rfl, ?_⟩
    unfold roomAt at er
    by_cases e0 : level = 0
    · rw [if_pos e0] at er
      have ed : decide (V.int (level : Int) = V.int 0) = true := by rw [e0]; rfl
      rw [ed]
      obtain ⟨a, C1, Z, g1, g2, g3, _⟩ := h1.at er
      have O1 := O.perm (L' := C1 ++ (Z ++ (hallC K A ++ (Cb ++ (D ++ R))))) (by
        refine (List.Perm.append_right R (List.Perm.append_left (hallC K A) (List.Perm.append_right (Cb ++ D) g3))).trans ?_
        walk_at "perm")
      obtain ⟨dxr, _, _, _, _, _, _, _, _, hmr⟩ := room_obj g2
      refine iteT ⟨_, rfl, A.x, cH K, A.dx, _, _, rfl, hx, T.cl_Hall, T.na_Hall_own, lk_Hall_own, _, rfl, A.ol, _, _, .ref a, rfl, rfl, SqL.of hol, atI_nat (by rw [List.getElem?_map, g1]; rfl), a, dxr, _, rfl, O1.mem (List.mem_append_left _ hmr), no_Room_holds, ?_⟩
      refine ⟨a, A.sh, A.di, r, C1, _, rfl, hk.own r (List.mem_of_getElem? er), g2, O1, fun p N H1 hN O2 => k p N H1 hN (O2.perm ?_)⟩
      refine List.Perm.trans ?_ (List.Perm.append_left N (List.Perm.append_right R (List.Perm.append_left (hallC K A) (List.Perm.append_right (Cb ++ D) g3)))).symm
      walk_at "perm"
    · rw [if_neg e0] at er
      have ed : decide (V.int (level : Int) = V.int 0) = false := decide_eq_false (by
        intro z
        injection z with z
        omega)
      rw [ed]
      obtain ⟨a, be', C1, Z, g1, g2, g3⟩ := Rep.at h2 er
      have O1 := O.perm (L' := C1 ++ (Z ++ (hallC K A ++ (Co ++ (D ++ R))))) (by
        refine (List.Perm.append_right R (List.Perm.append_left (hallC K A) (List.Perm.append_left Co (List.Perm.append_right D g3)))).trans ?_
        walk_at "perm")
      obtain ⟨dxr, _, _, _, _, _, _, _, _, hmr⟩ := room_obj g2
      refine iteF ⟨_, rfl, A.x, cH K, A.dx, _, _, rfl, hx, T.cl_Hall, T.na_Hall_shared, lk_Hall_shared, _, rfl, _, _, rfl, rfl, A.sl, _, _, .ref a, rfl, rfl, SqL.of hs, ?_, a, dxr, _, rfl, O1.mem (List.mem_append_left _ hmr), no_Room_holds, ?_⟩
      · have e2 : (level : Int) - 1 = ((level - 1 : Nat) : Int) := by omega
        rw [e2]
        exact atI_nat (by rw [List.getElem?_map, g1]; rfl)
      refine ⟨a, be', A.di, r, C1, _, rfl, hk.t.rs r (List.mem_of_getElem? er), g2, O1, fun p N H1 hN O2 => k p N H1 hN (O2.perm ?_)⟩
      refine List.Perm.trans ?_ (List.Perm.append_left N (List.Perm.append_right R (List.Perm.append_left (hallC K A) (List.Perm.append_left Co (List.Perm.append_right D g3))))).symm
      walk_at "perm"
end
-- WwJ
/-! ### the law's draws -/
def spRule (K : PySem.W.Frag) : Sp := fun vs H Q _ => ∃ (rw : Addr) (S : List Cell) (c : Cell) (R : List Cell), vs = [.ref rw] ∧ RowC K rw S c ∧ Own H (c :: (S ++ R)) ∧
  ∀ (u : Rul) (p : Addr) (c' : Cell) (H' : Hp), RulOk u → RowC K rw S c' → Own H' (c' :: (S ++ ((p, .tup u.vs) :: R))) → Q (.ref p) H'
def spRules (K : PySem.W.Frag) : Sp := fun vs H Q _ => ∃ (rw : Addr) (S : List Cell) (c : Cell) (R : List Cell), vs = [.ref rw] ∧ RowC K rw S c ∧ Own H (c :: (S ++ R)) ∧
  ∀ (us : List Rul) (p : Addr) (N : List Cell) (c' : Cell) (H' : Hp), RulesOk us → RulesAt N p us → RowC K rw S c' → Own H' (c' :: (S ++ (N ++ R))) → Q (.ref p) H'
def spPlace (K : PySem.W.Frag) : Sp := fun vs H Q _ => ∃ (rw : Addr) (S : List Cell) (c : Cell) (most : Int) (R : List Cell), vs = [.ref rw, .int most] ∧ 0 < most ∧ most ≤ 64 ∧ RowC K rw S c ∧ Own H (c :: (S ++ R)) ∧
  ∀ (v : Int) (c' : Cell) (H' : Hp), 0 ≤ v → v < 64 → RowC K rw S c' → Own H' (c' :: (S ++ R)) → Q (.int v) H'
inductive Deed where
  | look (h p : Nat)
  | set (h p : Nat) (v : Int)
def Deed.vs : Deed → List V
  | .look h p => [.str "look", .int h, .int p]
  | .set h p v => [.str "set", .int h, .int p, .int v]
def Deed.ok (m : Nat) : Deed → Prop
  | .look h p => h < m ∧ p < 64
  | .set h p v => h < m ∧ p < 64 ∧ 0 ≤ v ∧ v ≤ 999
def Deed.h : Deed → Nat
  | .look h _ => h
  | .set h _ _ => h
def Deed.p : Deed → Nat
  | .look _ p => p
  | .set _ p _ => p
theorem RA.app {R : List Cell} : ∀ {as bs : List Addr} {us vs : List Rul}, RA R as us → RA R bs vs → RA R (as ++ bs) (us ++ vs)
  | [], _, [], _, _, k => k
  | [], _, _ :: _, _, h, _ => h.elim
  | _ :: _, _, [], _, h, _ => h.elim
  | _ :: _, _, _ :: _, _, h, k => ⟨h.1, RA.app h.2 k⟩
def DeedsAt (N : List Cell) (p : Addr) (ds : List Deed) : Prop := ∃ as : List Addr, (p, HO.lst (as.map V.ref)) ∈ N ∧ TA N as (ds.map Deed.vs)
def spDeeds (K : PySem.W.Frag) : Sp := fun vs H Q _ => ∃ (rw : Addr) (S : List Cell) (c : Cell) (m most : Nat) (R : List Cell), vs = [.ref rw, .int m, .int most] ∧ 1 ≤ m ∧ m ≤ 3 ∧ most ≤ 200 ∧ RowC K rw S c ∧ Own H (c :: (S ++ R)) ∧
  ∀ (ds : List Deed) (p : Addr) (N : List Cell) (c' : Cell) (H' : Hp), (∀ d ∈ ds, d.ok m) → ds.length ≤ most → DeedsAt N p ds → RowC K rw S c' → Own H' (c' :: (S ++ (N ++ R))) → Q (.ref p) H'
def doDeed (n : Nat) (ha : Ha) : Deed → V × Ha
  | .look h p => (.int (hLook n ha h p).1, (hLook n ha h p).2)
  | .set h p v => (.non, hChange n ha h p v)
theorem doDeed_ok {n m : Nat} {ha : Ha} (h : HaOk n m ha) {d : Deed} (hd : d.ok m) : HaOk n m (doDeed n ha d).2 ∧ (doDeed n ha d).2.t.log.length ≤ ha.t.log.length + 100 := by
  cases d with
  | look hh p => exact hLook_ok h hh hd.2
  | set hh p v => exact hChange_ok h hh hd.2.1 v
def spUse (K : PySem.W.Frag) : Sp := fun vs H Q _ => ∃ (x da : Addr) (n m : Nat) (d : Deed) (ha : Ha) (C R : List Cell), vs = [.ref x, .ref da] ∧ d.ok m ∧ (da, HO.tup d.vs) ∈ R ∧ HaOk n m ha ∧ LH ha ∧ HallRep K x ha C ∧ Own H (C ++ R) ∧
  ∀ (C' : List Cell) (H' : Hp), HallRep K x (doDeed n ha d).2 C' → Own H' (C' ++ R) → Q (doDeed n ha d).1 H'
section
variable {P : Program} {w : World} {K : PySem.W.Frag} {mg : Str → Option Value} {base : Heap} {n lv : Nat}
theorem ok_rule (T : Txt K mg) : FnOk P w K mg base CX0 2 (He.fAd K ("_law_rule", none)) T.fd__law_rule ["_law_row"] (spRule K) := by
  have G__law_taken := ok_taken (P := P) (w := w) (base := base) T
  refine okOf T.F__law_rule sc__law_rule (fun vs H Q E h => ?_) (fun cdv A outer s H vs Q E hr h => ?_)
  · obtain ⟨_, _, _, _, rfl, _⟩ := h
    rfl
  · obtain ⟨rw, S, c, R, rfl, hc, O, k⟩ := h
    refine ⟨_, (pss_cons (ps_par (by rfl) sc__law_rule.nd (i := 1) (j := 2) rfl rfl (by decide) rfl rfl (pa_cons (pe_ix ix_list (pe_lst (pa_cons pe_str (pa_cons pe_str (pa_cons pe_str pa_nil)))) (pe_call G__law_taken (hr.mono (by omega)) rfl T.g__law_taken T.k__law_taken T.b__law_taken .nil pass0 (pa_cons (pv 0) (pa_cons pe_int pa_nil))) (fun _ _ => rfl)) (pa_cons (pe_ix ix_list (pe_lst (pa_cons pe_str (pa_cons pe_str (pa_cons pe_str pa_nil)))) (pe_call G__law_taken (hr.mono (by omega)) rfl T.g__law_taken T.k__law_taken T.b__law_taken .nil pass0 (pa_cons (pv 0) (pa_cons pe_int pa_nil))) (fun _ _ => rfl)) pa_nil)) (by rfl)) (pss_one (ps_ret (pe_tup (pa_cons (pe_ix ix_list (pe_lst (pa_cons pe_int (pa_cons pe_int (pa_cons pe_int pa_nil)))) (pe_call G__law_taken (hr.mono (by omega)) rfl T.g__law_taken T.k__law_taken T.b__law_taken .nil pass0 (pa_cons (pv 0) (pa_cons pe_int pa_nil))) (fun _ _ => rfl)) (pa_cons (pe_op op_add pe_int (pe_call G__law_taken (hr.mono (by omega)) rfl T.g__law_taken T.k__law_taken T.b__law_taken .nil pass0 (pa_cons (pv 0) (pa_cons pe_int pa_nil)))) (pa_cons (pv 1) (pa_cons (pv 2) (pa_cons (pe_ix ix_list (pe_lst (pa_cons pe_str (pa_cons pe_str pa_nil))) (pe_call G__law_taken (hr.mono (by omega)) rfl T.g__law_taken T.k__law_taken T.b__law_taken .nil pass0 (pa_cons (pv 0) (pa_cons pe_int pa_nil))) (fun _ _ => rfl)) pa_nil))))))))), ?_⟩
    refine ⟨by show 3 ≤ sizeLine; decide, fun p1 hp1 => ?_⟩
    have O1 := O.new (o := .lst [.str "through", .str "back", .str "back"]) hp1
    refine ⟨_, rfl, rw, S, c, 3, (p1, .lst [.str "through", .str "back", .str "back"]) :: R, rfl, hc, by decide, O1.perm (by walk_at "perm"), fun v1 c1 H1 h10 h11 hc1 O2 => ?_⟩
    obtain ⟨y1, ey1, hy1⟩ := pick3 (a := V.str "through") (b := .str "back") (c := .str "back") h10 h11
    obtain ⟨bk, rfl⟩ : ∃ bk, y1 = .str (sBk bk) := by
      rcases hy1 with e | e | e
      · exact ⟨false, e⟩
      · exact ⟨true, e⟩
      · exact ⟨true, e⟩
    refine ⟨p1, _, _, _, rfl, rfl, SqL.of (O2.mem (by simp)), ey1, ?_⟩
    replace O2 := Own.right (L' := [(p1, .lst [.str "through", .str "back", .str "back"])]) (O2.perm (L' := [(p1, .lst [.str "through", .str "back", .str "back"])] ++ (c1 :: (S ++ R))) (by walk_at "perm"))
    refine ⟨by show 3 ≤ sizeLine; decide, fun p2 hp2 => ?_⟩
    have O3 := O2.new (o := .lst [.str "in", .str "in", .str "by"]) hp2
    refine ⟨_, rfl, rw, S, c1, 3, (p2, .lst [.str "in", .str "in", .str "by"]) :: R, rfl, hc1, by decide, O3.perm (by walk_at "perm"), fun v2 c2 H2 h20 h21 hc2 O4 => ?_⟩
    obtain ⟨y2, ey2, hy2⟩ := pick3 (a := V.str "in") (b := .str "in") (c := .str "by") h20 h21
    obtain ⟨inn, rfl⟩ : ∃ inn, y2 = .str (sIn inn) := by
      rcases hy2 with e | e | e
      · exact ⟨true, e⟩
      · exact ⟨true, e⟩
      · exact ⟨false, e⟩
    refine ⟨p2, _, _, _, rfl, rfl, SqL.of (O4.mem (by simp)), ey2, _, _, rfl, ?_⟩
    replace O4 := Own.right (L' := [(p2, .lst [.str "in", .str "in", .str "by"])]) (O4.perm (L' := [(p2, .lst [.str "in", .str "in", .str "by"])] ++ (c2 :: (S ++ R))) (by walk_at "perm"))
    refine ⟨by show 3 ≤ sizeLine; decide, fun p3 hp3 => ?_⟩
    have O5 := O4.new (o := .lst [.int 1, .int 2, .int 4]) hp3
    refine ⟨_, rfl, rw, S, c2, 3, (p3, .lst [.int 1, .int 2, .int 4]) :: R, rfl, hc2, by decide, O5.perm (by walk_at "perm"), fun v3 c3 H3 h30 h31 hc3 O6 => ?_⟩
    obtain ⟨y3, ey3, hy3⟩ := pick3 (a := V.int 1) (b := .int 2) (c := .int 4) h30 h31
    obtain ⟨sn, rfl, hsn⟩ : ∃ sn : Nat, y3 = .int sn ∧ (sn = 1 ∨ sn = 2 ∨ sn = 4) := by
      rcases hy3 with e | e | e
      · exact ⟨1, e, .inl rfl⟩
      · exact ⟨2, e, .inr (.inl rfl)⟩
      · exact ⟨4, e, .inr (.inr rfl)⟩
    refine ⟨p3, _, _, _, rfl, rfl, SqL.of (O6.mem (by simp)), ey3, ?_⟩
    replace O6 := Own.right (L' := [(p3, .lst [.int 1, .int 2, .int 4])]) (O6.perm (L' := [(p3, .lst [.int 1, .int 2, .int 4])] ++ (c3 :: (S ++ R))) (by walk_at "perm"))
    refine ⟨_, rfl, rw, S, c3, 4, R, rfl, hc3, by decide, O6, fun v4 c4 H4 h40 h41 hc4 O7 => ?_⟩
    refine ⟨_, _, rfl, rfl, _, rfl, _, rfl, by show 2 ≤ sizeLine; decide, fun p5 hp5 => ?_⟩
    have O8 := O7.new (o := .lst [.str "first", .str "late"]) hp5
    refine ⟨_, rfl, rw, S, c4, 2, (p5, .lst [.str "first", .str "late"]) :: R, rfl, hc4, by decide, O8.perm (by walk_at "perm"), fun v5 c5 H5 h50 h51 hc5 O9 => ?_⟩
    obtain ⟨y5, ey5, hy5⟩ := pick2 (a := V.str "first") (b := .str "late") h50 h51
    obtain ⟨lt, rfl⟩ : ∃ lt, y5 = .str (sLt lt) := by
      rcases hy5 with e | e
      · exact ⟨false, e⟩
      · exact ⟨true, e⟩
    refine ⟨p5, _, _, _, rfl, rfl, SqL.of (O9.mem (by simp)), ey5, by show 5 ≤ sizeLine; decide, fun q hq => ?_⟩
    replace O9 := Own.right (L' := [(p5, .lst [.str "first", .str "late"])]) (O9.perm (L' := [(p5, .lst [.str "first", .str "late"])] ++ (c5 :: (S ++ R))) (by walk_at "perm"))
    have e4 : (1 : Int) + v4 = ((v4.toNat + 1 : Nat) : Int) := by omega
    have O10 := O9.new (o := .tup [.int sn, .int ((1 : Int) + v4), .str (sBk bk), .str (sIn inn), .str (sLt lt)]) hq
    refine k ⟨sn, v4.toNat + 1, bk, inn, lt⟩ q c5 _ ⟨hsn, by show 1 ≤ v4.toNat + 1; omega, by show v4.toNat + 1 ≤ 4; omega⟩ hc5 ?_
    unfold Rul.vs
    dsimp only
    rw [← e4]
    exact O10.perm (by walk_at "perm")
theorem ok_rules (T : Txt K mg) : FnOk P w K mg base CX0 3 (He.fAd K ("_law_rules", none)) T.fd__law_rules ["_law_row"] (spRules K) := by
  have G__law_taken := ok_taken (P := P) (w := w) (base := base) T
  have G__law_rule := ok_rule (P := P) (w := w) (base := base) T
  refine okOf T.F__law_rules sc__law_rules (fun vs H Q E h => ?_) (fun cdv A outer s H vs Q E hr h => ?_)
  · obtain ⟨_, _, _, _, rfl, _⟩ := h
    rfl
  · obtain ⟨rw, S, c, R, rfl, hc, O, k⟩ := h
    refine ⟨_, (pss_one (ps_ret (pe_lc (te := (tCall (spRule K) [] E0 (tCons (tVar 0) tNil))) (own := [("_law_k", 1)]) (by rfl) sc__law_rules.nd (pi_range1 (by rfl) T.n_range (pa_cons (pe_op op_add pe_int (pe_call G__law_taken (hr.mono (by omega)) rfl T.g__law_taken T.k__law_taken T.b__law_taken .nil pass0 (pa_cons (pv 0) (pa_cons pe_int pa_nil)))) pa_nil)) (blkOk_by (own := [("_law_k", 1)]) (by kernel_rfl)) (fun _ _ _ _ _ => (pg_name (i := 1) sc__law_rules.nd rfl (Or.inl rfl))) (fun _ _ _ _ _ => pts_nil) (fun _ _ _ _ _ => (pe_call G__law_rule (hr.mono (by omega)) rfl T.g__law_rule T.k__law_rule T.b__law_rule .nil pass0 (pa_cons (pv 0) pa_nil)))))), ?_⟩
    refine ⟨_, rfl, rw, S, c, 3, R, rfl, hc, by decide, O, fun v c1 H1 h0 h3 hc1 O1 => ?_⟩
    refine ⟨_, _, rfl, rfl, 1 + v, rfl, by omega, by omega, fun D hD => ?_⟩
    refine lc_range (lo := 0) (n := (1 + v).toNat) (fun i H' => ∃ (as : List Addr) (us : List Rul) (N : List Cell) (c' : Cell), us.length = i ∧ (∀ u ∈ us, RulOk u) ∧ RA N as us ∧ RowC K rw S c' ∧ Own H' ((D, .lst (as.map V.ref)) :: c' :: (S ++ (N ++ R))))
      ⟨[], [], [], c1, rfl, (fun u hu => nomatch hu), trivial, hc1, O1.new hD⟩ ?_ ?_
    · rintro i H2 hi ⟨as, us, N, c2, hul, huo, hra, hc2, O2⟩
      have hal := hra.len
      refine ⟨rfl, tYes_go (iteT ⟨_, rfl, rw, S, c2, (D, .lst (as.map V.ref)) :: (N ++ R), rfl, hc2, O2.perm (by walk_at "perm"), fun u p c3 H3 hu hc3 O3 => ?_⟩)⟩
      have O4 := O3.perm (L' := (D, .lst (as.map V.ref)) :: c3 :: (S ++ (((p, .tup u.vs) :: N) ++ R))) (by walk_at "perm")
      refine ⟨_, O4.a0, by rw [List.length_map]; exact size1 (by omega), as ++ [p], us ++ [u], (p, .tup u.vs) :: N, c3, by simp [hul], fun u' hu' => ?_, ?_, hc3, ?_⟩
      · rcases List.mem_append.mp hu' with h | h
        · exact huo u' h
        · rw [List.mem_singleton.mp h]
          exact hu
      · exact (hra.mono fun c hc => List.mem_cons_of_mem _ hc).app ⟨List.mem_cons_self, trivial⟩
      · rw [List.map_append]
        exact O4.set
    · rintro H2 ⟨as, us, N, c2, hul, huo, hra, hc2, O2⟩
      refine k us D ((D, .lst (as.map V.ref)) :: N) c2 H2 ⟨huo, by omega, by omega⟩ ⟨as, List.mem_cons_self, hra.mono fun c hc => List.mem_cons_of_mem _ hc⟩ hc2 (O2.perm (by walk_at "perm"))
theorem ok_place (T : Txt K mg) : FnOk P w K mg base CX0 2 (He.fAd K ("_law_place", none)) T.fd__law_place ["_law_row", "_law_most"] (spPlace K) := by
  have G__law_taken := ok_taken (P := P) (w := w) (base := base) T
  refine okOf T.F__law_place sc__law_place (fun vs H Q E h => ?_) (fun cdv A outer s H vs Q E hr h => ?_)
  · obtain ⟨_, _, _, _, _, rfl, _⟩ := h
    rfl
  · obtain ⟨rw, S, c, most, R, rfl, hm0, hm64, hc, O, k⟩ := h
    refine ⟨_, (pss_one (ps_ret (pe_ix ix_list (pe_lst (pa_cons (pe_call G__law_taken (hr.mono (by omega)) rfl T.g__law_taken T.k__law_taken T.b__law_taken .nil pass0 (pa_cons (pv 0) (pa_cons (pv 1) pa_nil))) (pa_cons (pe_call G__law_taken (hr.mono (by omega)) rfl T.g__law_taken T.k__law_taken T.b__law_taken .nil pass0 (pa_cons (pv 0) (pa_cons (pv 1) pa_nil))) (pa_cons (pe_call G__law_taken (hr.mono (by omega)) rfl T.g__law_taken T.k__law_taken T.b__law_taken .nil pass0 (pa_cons (pv 0) (pa_cons pe_int pa_nil))) pa_nil)))) (pe_call G__law_taken (hr.mono (by omega)) rfl T.g__law_taken T.k__law_taken T.b__law_taken .nil pass0 (pa_cons (pv 0) (pa_cons pe_int pa_nil))) (fun _ _ => rfl)))), ?_⟩
    refine ⟨_, rfl, _, rfl, rw, S, c, most, R, rfl, hc, hm0, O, fun v1 c1 H1 h10 h11 hc1 O1 => ?_⟩
    refine ⟨_, rfl, _, rfl, rw, S, c1, most, R, rfl, hc1, hm0, O1, fun v2 c2 H2 h20 h21 hc2 O2 => ?_⟩
    refine ⟨_, rfl, rw, S, c2, 64, R, rfl, hc2, by decide, O2, fun v3 c3 H3 h30 h31 hc3 O3 => ?_⟩
    refine ⟨by show 3 ≤ sizeLine; decide, fun p hp => ?_⟩
    have O4 := O3.new (o := .lst [.int v1, .int v2, .int v3]) hp
    refine ⟨_, rfl, rw, S, c3, 3, (p, .lst [.int v1, .int v2, .int v3]) :: R, rfl, hc3, by decide, O4.perm (by walk_at "perm"), fun v4 c4 H4 h40 h41 hc4 O5 => ?_⟩
    obtain ⟨y, ey, hy⟩ := pick3 (a := V.int v1) (b := .int v2) (c := .int v3) h40 h41
    obtain ⟨v, rfl, hv0, hv1⟩ : ∃ v : Int, y = .int v ∧ 0 ≤ v ∧ v < 64 := by
      rcases hy with e | e | e
      · exact ⟨v1, e, h10, by omega⟩
      · exact ⟨v2, e, h20, by omega⟩
      · exact ⟨v3, e, h30, by omega⟩
    refine ⟨p, _, _, _, rfl, rfl, SqL.of (O5.mem (by simp)), ey, ?_⟩
    exact k v c4 H4 hv0 hv1 hc4 (Own.right (L' := [(p, .lst [.int v1, .int v2, .int v3])]) (O5.perm (by walk_at "perm")))
theorem ok_deeds (T : Txt K mg) : FnOk P w K mg base CX0 3 (He.fAd K ("_law_deeds", none)) T.fd__law_deeds ["_law_row", "_law_hands", "_law_most"] (spDeeds K) := by
  have G__law_taken := ok_taken (P := P) (w := w) (base := base) T
  have G__law_place := ok_place (P := P) (w := w) (base := base) T
  refine okOf T.F__law_deeds sc__law_deeds (fun vs H Q E h => ?_) (fun cdv A outer s H vs Q E hr h => ?_)
  · obtain ⟨_, _, _, _, _, _, rfl, _⟩ := h
    rfl
  · obtain ⟨rw, S, c, m, most, R, rfl, hm1, hm3, hmost, hc, O, k⟩ := h
    refine ⟨_, (pss_cons (ps_set (i := 3) sc__law_deeds.nd rfl (Or.inl rfl) (pe_ix ix_list (pe_lst (pa_cons pe_int (pa_cons pe_int (pa_cons pe_int (pa_cons pe_int pa_nil))))) (pe_call G__law_taken (hr.mono (by omega)) rfl T.g__law_taken T.k__law_taken T.b__law_taken .nil pass0 (pa_cons (pv 0) (pa_cons pe_int pa_nil))) (fun _ _ => rfl))) (pss_cons (ps_set (i := 4) sc__law_deeds.nd rfl (Or.inl rfl) (pe_lst pa_nil)) (pss_cons (ps_for PassesOwn.never rfl (pi_range1 (by rfl) T.n_range (pa_cons (pe_call G__law_taken (hr.mono (by omega)) rfl T.g__law_taken T.k__law_taken T.b__law_taken .nil pass0 (pa_cons (pv 0) (pa_cons (pe_op op_add (pv 2) pe_int) pa_nil))) pa_nil)) (pg_name (i := 5) sc__law_deeds.nd rfl (Or.inl rfl)) (pss_cons (ps_par (by rfl) sc__law_deeds.nd (i := 6) (j := 7) rfl rfl (by decide) rfl rfl (pa_cons (pe_call G__law_taken (hr.mono (by omega)) rfl T.g__law_taken T.k__law_taken T.b__law_taken .nil pass0 (pa_cons (pv 0) (pa_cons (pv 1) pa_nil))) (pa_cons (pe_call G__law_place (hr.mono (by omega)) rfl T.g__law_place T.k__law_place T.b__law_place .nil pass0 (pa_cons (pv 0) (pa_cons (pv 3) pa_nil))) pa_nil)) (by rfl)) (pss_one (ps_if (pt_cmpR op_eq (pe_call G__law_taken (hr.mono (by omega)) rfl T.g__law_taken T.k__law_taken T.b__law_taken .nil pass0 (pa_cons (pv 0) (pa_cons pe_int pa_nil))) pe_int (nomark _)) (pss_one (ps_expr (pe_bm PySem.F.plainAttrs_list PySem.F.slot_list_append PySem.F.type_list_append mt_append (pv 4) (pa_cons (pe_tup (pa_cons pe_str (pa_cons (pv 6) (pa_cons (pv 7) pa_nil)))) pa_nil)))) (pss_one (ps_expr (pe_bm PySem.F.plainAttrs_list PySem.F.slot_list_append PySem.F.type_list_append mt_append (pv 4) (pa_cons (pe_tup (pa_cons pe_str (pa_cons (pv 6) (pa_cons (pv 7) (pa_cons (pe_ix ix_list (pe_lst (pa_cons (pe_call G__law_taken (hr.mono (by omega)) rfl T.g__law_taken T.k__law_taken T.b__law_taken .nil pass0 (pa_cons (pv 0) (pa_cons pe_int pa_nil))) (pa_cons (pe_call G__law_taken (hr.mono (by omega)) rfl T.g__law_taken T.k__law_taken T.b__law_taken .nil pass0 (pa_cons (pv 0) (pa_cons pe_int pa_nil))) pa_nil))) (pe_call G__law_taken (hr.mono (by omega)) rfl T.g__law_taken T.k__law_taken T.b__law_taken .nil pass0 (pa_cons (pv 0) (pa_cons pe_int pa_nil))) (fun _ _ => rfl)) pa_nil))))) pa_nil)))))))) (pss_one (ps_ret (pv 4)))))), ?_⟩
    refine ⟨by show 4 ≤ sizeLine; decide, fun p1 hp1 => ?_⟩
    have O1 := O.new (o := .lst [.int 6, .int 20, .int 40, .int 64]) hp1
    refine ⟨_, rfl, rw, S, c, 4, (p1, .lst [.int 6, .int 20, .int 40, .int 64]) :: R, rfl, hc, by decide, O1.perm (by walk_at "perm"), fun v1 c1 H1 h10 h11 hc1 O2 => ?_⟩
    obtain ⟨y1, ey1, hy1⟩ := pick4 (a := V.int 6) (b := .int 20) (c := .int 40) (d := .int 64) h10 h11
    obtain ⟨few, rfl, hf0, hf64⟩ : ∃ few : Int, y1 = .int few ∧ 0 < few ∧ few ≤ 64 := by
      rcases hy1 with e | e | e | e
      · exact ⟨6, e, by decide, by decide⟩
      · exact ⟨20, e, by decide, by decide⟩
      · exact ⟨40, e, by decide, by decide⟩
      · exact ⟨64, e, by decide, by decide⟩
    refine ⟨p1, _, _, _, rfl, rfl, SqL.of (O2.mem (by simp)), ey1, ?_⟩
    replace O2 := Own.right (L' := [(p1, .lst [.int 6, .int 20, .int 40, .int 64])]) (O2.perm (L' := [(p1, .lst [.int 6, .int 20, .int 40, .int 64])] ++ (c1 :: (S ++ R))) (by walk_at "perm"))
    refine ⟨by show 0 ≤ sizeLine; decide, fun D hD => ?_⟩
    have O3 := O2.new (o := .lst []) hD
    generalize upd H1 D _ = H2 at O3 ⊢
    refine ⟨_, rfl, _, rfl, _, _, rfl, rfl, rw, S, c1, (most : Int) + 1, (D, .lst []) :: R, rfl, hc1, by omega, O3.perm (by walk_at "perm"), fun v2 c2 H3 h20 h21 hc2 O4 => ?_⟩
    refine ⟨v2, rfl, by omega, by omega, ?_⟩
    refine for_range (lo := 0) (n := v2.toNat) (fun i σ H' => (∃ v5 v6 v7, σ = [some (.ref rw), some (.int m), some (.int most), some (.int few), some (.ref D), v5, v6, v7]) ∧ ∃ (as : List Addr) (ds : List Deed) (N : List Cell) (c' : Cell), ds.length = i ∧ (∀ d ∈ ds, d.ok m) ∧ TA N as (ds.map Deed.vs) ∧ RowC K rw S c' ∧ Own H' ((D, .lst (as.map V.ref)) :: c' :: (S ++ (N ++ R))))
      ⟨⟨none, none, none, rfl⟩, [], [], [], c2, rfl, (fun d hd => nomatch hd), trivial, hc2, O4.perm (L' := (D, .lst []) :: c2 :: (S ++ R)) (by walk_at "perm")⟩ ?_ ?_
    · rintro i σ H4 hi ⟨⟨v5, v6, v7, rfl⟩, as, ds, N, c3, hdl, hdo, hta, hc3, O5⟩
      have hal := hta.len
      rw [List.length_map] at hal
      refine ⟨_, rfl, _, rfl, rw, S, c3, (m : Int), (D, .lst (as.map V.ref)) :: (N ++ R), rfl, hc3, by omega, O5.perm (by walk_at "perm"), fun v8 c4 H5 h80 h81 hc4 O6 => ?_⟩
      refine ⟨_, rfl, _, rfl, rw, S, c4, few, (D, .lst (as.map V.ref)) :: (N ++ R), rfl, hf0, hf64, hc4, O6, fun v9 c5 H6 h90 h91 hc5 O7 => ?_⟩
      refine ⟨_, _, rfl, ?_⟩
      refine ⟨_, rfl, rw, S, c5, 2, (D, .lst (as.map V.ref)) :: (N ++ R), rfl, hc5, by decide, O7, fun v10 c6 H7 h100 h101 hc6 O8 => ?_⟩
      obtain ⟨hh, rfl⟩ := Int.eq_ofNat_of_zero_le h80
      obtain ⟨pp, rfl⟩ := Int.eq_ofNat_of_zero_le h90
      have fin : ∀ (d : Deed) (q : Addr) (c7 : Cell) (H8 : Hp), d.ok m → RowC K rw S c7 → Own H8 ((q, .tup d.vs) :: c7 :: (S ++ ((D, .lst (as.map V.ref)) :: (N ++ R)))) →
          rAppend (.ref D) [.ref q] H8 (fun _ H9 => (∃ v5 v6 v7, [some (.ref rw), some (.int m), some (.int most), some (.int few), some (.ref D), some (.int (0 + (i : Int))), some (.int (hh : Int)), some (.int (pp : Int))] = [some (.ref rw), some (.int m), some (.int most), some (.int few), some (V.ref D), v5, v6, v7]) ∧
            ∃ (as : List Addr) (ds : List Deed) (N : List Cell) (c' : Cell), ds.length = i + 1 ∧ (∀ d ∈ ds, d.ok m) ∧ TA N as (ds.map Deed.vs) ∧ RowC K rw S c' ∧ Own H9 ((D, .lst (as.map V.ref)) :: c' :: (S ++ (N ++ R)))) := by
        intro d q c7 H8 hd hc7 O9
        have O10 := O9.perm (L' := (D, .lst (as.map V.ref)) :: c7 :: (S ++ (((q, .tup d.vs) :: N) ++ R))) (by walk_at "perm")
        refine ⟨D, _, _, rfl, rfl, O10.a0, by rw [List.length_map]; exact size1 (by omega), ⟨_, _, _, rfl⟩, as ++ [q], ds ++ [d], (q, .tup d.vs) :: N, c7, by simp [hdl], fun d' hd' => ?_, ?_, hc7, ?_⟩
        · rcases List.mem_append.mp hd' with h | h
          · exact hdo d' h
          · rw [List.mem_singleton.mp h]
            exact hd
        · rw [List.map_append]
          exact (hta.mono fun c hc => List.mem_cons_of_mem _ hc).app ⟨List.mem_cons_self, trivial⟩
        · rw [List.map_append]
          exact O10.set
      refine ⟨rfl, _, rfl, ite2 (fun _ => ?_) (fun _ => ?_)⟩
      · refine ⟨_, rfl, .inl ⟨rfl, _, SqL.of (O8.mem (a := D) (o := .lst (as.map V.ref)) (by simp))⟩, _, rfl, _, rfl, by show 3 ≤ sizeLine; decide, fun q hq => ?_⟩
        exact fin (.look hh pp) q c6 _ ⟨by omega, by omega⟩ hc6 (O8.new hq)
      · refine ⟨_, rfl, .inl ⟨rfl, _, SqL.of (O8.mem (a := D) (o := .lst (as.map V.ref)) (by simp))⟩, _, rfl, _, rfl, ?_⟩
        refine ⟨_, rfl, rw, S, c6, 9, (D, .lst (as.map V.ref)) :: (N ++ R), rfl, hc6, by decide, O8, fun v11 c7 H8 h110 h111 hc7 O9 => ?_⟩
        refine ⟨_, rfl, rw, S, c7, 1000, (D, .lst (as.map V.ref)) :: (N ++ R), rfl, hc7, by decide, O9, fun v12 c8 H9 h120 h121 hc8 O10 => ?_⟩
        refine ⟨by show 2 ≤ sizeLine; decide, fun p2 hp2 => ?_⟩
        have O11 := O10.new (o := .lst [.int v11, .int v12]) hp2
        refine ⟨_, rfl, rw, S, c8, 2, (p2, .lst [.int v11, .int v12]) :: (D, .lst (as.map V.ref)) :: (N ++ R), rfl, hc8, by decide, O11.perm (by walk_at "perm"), fun v13 c9 H10 h130 h131 hc9 O12 => ?_⟩
        obtain ⟨y, ey, hy⟩ := pick2 (a := V.int v11) (b := .int v12) h130 h131
        obtain ⟨v, rfl, hv0, hv1⟩ : ∃ v : Int, y = .int v ∧ 0 ≤ v ∧ v ≤ 999 := by
          rcases hy with e | e
          · exact ⟨v11, e, h110, by omega⟩
          · exact ⟨v12, e, h120, by omega⟩
        refine ⟨p2, _, _, _, rfl, rfl, SqL.of (O12.mem (by simp)), ey, by show 4 ≤ sizeLine; decide, fun q hq => ?_⟩
        replace O12 := Own.right (L' := [(p2, .lst [.int v11, .int v12])]) (O12.perm (L' := [(p2, .lst [.int v11, .int v12])] ++ (c9 :: (S ++ ((D, .lst (as.map V.ref)) :: (N ++ R))))) (by walk_at "perm"))
        exact fin (.set hh pp v) q c9 _ ⟨by omega, by omega, hv0, hv1⟩ hc9 (O12.new hq)
    · rintro σ H4 ⟨⟨v5, v6, v7, rfl⟩, as, ds, N, c3, hdl, hdo, hta, hc3, O5⟩
      exact ⟨_, rfl, k ds D ((D, .lst (as.map V.ref)) :: N) c3 H4 hdo (by omega) ⟨as, List.mem_cons_self, hta.mono fun c hc => List.mem_cons_of_mem _ hc⟩ hc3 (O5.perm (by walk_at "perm"))⟩
end
-- WwCoh
/-! ### what a room's lines tell -/
def lnOf (c : Nat) : List Ln → Option Ln
  | [] => none
  | l :: r => if l.b = c then some l else lnOf c r
theorem lnOf_mem {c : Nat} : ∀ {ls : List Ln} {l : Ln}, lnOf c ls = some l → l ∈ ls ∧ l.b = c
  | [], l, h => by cases h
  | a :: r, l, h => by
    unfold lnOf at h
    by_cases e : a.b = c
    · rw [if_pos e] at h
      cases h
      exact ⟨List.mem_cons_self, e⟩
    · rw [if_neg e] at h
      obtain ⟨h1, h2⟩ := lnOf_mem h
      exact ⟨List.mem_cons_of_mem _ h1, h2⟩
theorem lnOf_none {c : Nat} : ∀ {ls : List Ln}, lnOf c ls = none → ∀ l ∈ ls, l.b ≠ c
  | [], _, l, hl => by cases hl
  | a :: r, h, l, hl => by
    unfold lnOf at h
    by_cases e : a.b = c
    · rw [if_pos e] at h
      cases h
    · rw [if_neg e] at h
      rcases List.mem_cons.mp hl with e' | hm
      · rw [e']
        exact e
      · exact lnOf_none h l hm
theorem lnOf_iff {c : Nat} : ∀ {ls : List Ln} {l : Ln}, (ls.map (·.b)).Nodup → l ∈ ls → l.b = c → lnOf c ls = some l
  | [], l, _, hl, _ => by cases hl
  | a :: r, l, hn, hl, e => by
    rw [List.map_cons] at hn
    obtain ⟨h1, h2⟩ := List.nodup_cons.mp hn
    unfold lnOf
    rcases List.mem_cons.mp hl with e' | hm
    · rw [← e', if_pos e]
    · have : a.b ≠ c := fun z => h1 (List.mem_map.mpr ⟨l, hm, by rw [e, z]⟩)
      rw [if_neg this]
      exact lnOf_iff h2 hm e
theorem lnOf_no {c : Nat} {ls : List Ln} (h : ∀ l ∈ ls, l.b ≠ c) : lnOf c ls = none := by
  cases e : lnOf c ls with
  | none => rfl
  | some l =>
    obtain ⟨h1, h2⟩ := lnOf_mem e
    exact absurd h2 (h l h1)
theorem fnd_lnOf {c : Nat} {ls : List Ln} {i : Nat} {l : Ln} (h : fnd c ls = some i) (hl : ls[i]? = some l) : lnOf c ls = some l := by
  induction ls generalizing i with
  | nil => simp at hl
  | cons a r ih =>
    unfold fnd at h
    unfold lnOf
    by_cases e : a.b = c
    · rw [if_pos e] at h ⊢
      cases h
      simpa using hl
    · rw [if_neg e] at h ⊢
      cases hr : fnd c r with
      | none =>
        rw [hr] at h
        cases h
      | some j =>
        rw [hr] at h
        have : j + 1 = i := Option.some.inj h
        subst this
        exact ih hr (by simpa using hl)
/-- one set: each block once, and in its own set -/
structure SetW (s k : Nat) (ls : List Ln) : Prop where
  nd : (ls.map (·.b)).Nodup
  ix : ∀ l ∈ ls, l.b % s = k
def effS (ls : List Ln) (e : Nat → List Int) (c : Nat) : List Int := match lnOf c ls with
  | some l => l.ns
  | none => e c
/-- clean lines have what is behind -/
def Cln (ls : List Ln) (e : Nat → List Int) : Prop := ∀ l ∈ ls, l.d = false → l.ns = e l.b
def effC : List Rm → List Int → Nat → List Int
  | [], far, c => getBlk far c
  | r :: rs, far, c => effS (r.ls c) (effC rs far) c
def RmW (r : Rm) : Prop := ∀ k ls, r.ss[k]? = some ls → SetW r.ss.length k ls
def ChW : List Rm → List Int → Prop
  | [], _ => True
  | r :: rs, far => RmW r ∧ (∀ ls ∈ r.ss, Cln ls (effC rs far) ∧ (r.ru.bk = false → ∀ l ∈ ls, l.d = false)) ∧ ChW rs far
abbrev eff (t : Ta) : Nat → List Int := effC t.rs t.far
abbrev TaW (t : Ta) : Prop := ChW t.rs t.far
structure OpsC (n : Nat) (o : Ops) : Prop where
  hm : ∀ t b ns, TaOk n t → TaW t → b < 16 → ns.length = 4 → TaW (o.hm t b ns) ∧ ∀ c, eff (o.hm t b ns) c = if c = b then ns else eff t c
  br : ∀ t b, TaOk n t → TaW t → b < 16 → (o.br t b).1 = eff t b ∧ TaW (o.br t b).2 ∧ ∀ c, eff (o.br t b).2 c = eff t c
  ch : ∀ t p v, TaOk n t → TaW t → p < 64 → TaW (o.ch t p v) ∧ ∀ c, eff (o.ch t p v) c = if c = p / 4 then (eff t c).set (p % 4) v else eff t c
/-- what one step of a set's lines leaves: b the block, f what becomes of its numbers -/
structure Sem (s k : Nat) (ls : List Ln) (t : Ta) (ls' : List Ln) (t' : Ta) (b : Nat) (f : List Int → List Int) : Prop where
  w : SetW s k ls'
  cln : Cln ls' (eff t')
  tw : TaW t'
  out : ∀ c, c % s ≠ k → eff t' c = eff t c
  ef : ∀ c, c % s = k → effS ls' (eff t') c = if c = b then f (effS ls (eff t) b) else effS ls (eff t) c
  dom : ∀ l' ∈ ls', l'.b = b ∨ ∃ l ∈ ls, l.b = l'.b ∧ (l'.d = true → l.d = true)
section
variable {n : Nat} {o : Ops} {u : Ru} {s k : Nat} {ls : List Ln} {t : Ta}
theorem effS_mem (w : SetW s k ls) {l : Ln} (h : l ∈ ls) (e : Nat → List Int) : effS ls e l.b = l.ns := by
  unfold effS
  rw [lnOf_iff w.nd h rfl]
theorem effS_no {c : Nat} (h : ∀ l ∈ ls, l.b ≠ c) (e : Nat → List Int) : effS ls e c = e c := by
  unfold effS
  rw [lnOf_no h]
/-- two sets of lines tell the same of c -/
theorem effS_same {ls' : List Ln} {e e' : Nat → List Int} {c : Nat} (h : lnOf c ls' = lnOf c ls) (he : lnOf c ls = none → e' c = e c) : effS ls' e' c = effS ls e c := by
  unfold effS
  rw [h]
  cases q : lnOf c ls with
  | some l => rfl
  | none => exact he q
theorem SetW.tail {l : Ln} {r : List Ln} (w : SetW s k (l :: r)) : SetW s k r := ⟨(List.nodup_cons.mp (by simpa using w.nd)).2, fun l' hm => w.ix l' (List.mem_cons_of_mem _ hm)⟩
theorem SetW.head {l : Ln} {r : List Ln} (w : SetW s k (l :: r)) : ∀ l' ∈ r, l'.b ≠ l.b := fun l' hm e => by
  have h := w.nd
  rw [List.map_cons] at h
  exact (List.nodup_cons.mp h).1 (List.mem_map.mpr ⟨l', hm, e⟩)
/-- a dirty line goes home, and nothing else changes -/
theorem passH_eff (O : OpsC n o) (h : TaOk n t) (hw : TaW t) {tl : List V} {b : Nat} (hb : b < 16) {ns : List Int} (hn : ns.length = 4) : TaW (passH o tl t b ns) ∧ ∀ c, eff (passH o tl t b ns) c = if c = b then ns else eff t c := O.hm _ b ns (note_ok h tl "home" b) hw hb hn
theorem passC_eff (O : OpsC n o) (h : TaOk n t) (hw : TaW t) {tl : List V} {p : Nat} (hp : p < 64) {v : Int} : TaW (passC o tl t p v) ∧ ∀ c, eff (passC o tl t p v) c = if c = p / 4 then (eff t c).set (p % 4) v else eff t c := O.ch _ p v (note_ok h tl "cell" p) hw hp
/-- make_way: nothing that is told changes -/
theorem mkWay_sem (O : OpsC n o) (w : SetW s k ls) (hl : LsOk u ls) (hc : Cln ls (eff t)) (h : TaOk n t) (hw : TaW t) :
    SetW s k (mkWay o u ls t).1 ∧ Cln (mkWay o u ls t).1 (eff (mkWay o u ls t).2) ∧ TaW (mkWay o u ls t).2 ∧ (∀ c, c % s ≠ k → eff (mkWay o u ls t).2 c = eff t c) ∧ (∀ c, effS (mkWay o u ls t).1 (eff (mkWay o u ls t).2) c = effS ls (eff t) c) ∧ ∀ l ∈ (mkWay o u ls t).1, l ∈ ls := by
  unfold mkWay
  split
  · cases ls with
    | nil => exact ⟨w, hc, hw, fun _ _ => rfl, fun _ => rfl, fun _ h => h⟩
    | cons l rest =>
      have hlo := hl.ok l List.mem_cons_self
      have hd : ∀ l' ∈ rest, l'.b ≠ l.b := w.head
      -- what is behind tells l's numbers then
      have key : ∀ t' : Ta, (∀ c, eff t' c = if c = l.b then l.ns else eff t c) → TaW t' →
          SetW s k rest ∧ Cln rest (eff t') ∧ TaW t' ∧ (∀ c, c % s ≠ k → eff t' c = eff t c) ∧ (∀ c, effS rest (eff t') c = effS (l :: rest) (eff t) c) ∧ ∀ l' ∈ rest, l' ∈ l :: rest := by
        intro t' he hw'
        refine ⟨w.tail, fun l' hm hd' => ?_, hw', fun c hcs => ?_, fun c => ?_, fun l' hm => List.mem_cons_of_mem _ hm⟩
        · rw [he, if_neg (hd l' hm)]
          exact hc l' (List.mem_cons_of_mem _ hm) hd'
        · rw [he, if_neg]
          intro e
          rw [e] at hcs
          exact hcs (w.ix l List.mem_cons_self)
        · by_cases e : c = l.b
          · subst e
            rw [effS_no hd, he, if_pos rfl, effS_mem w List.mem_cons_self]
          · refine effS_same ?_ fun _ => by rw [he, if_neg e]
            show _ = (if l.b = c then some l else lnOf c rest)
            rw [if_neg (Ne.symm e)]
      dsimp only
      split
      · obtain ⟨p1, p2⟩ := passH_eff (tl := u.tl) O h hw hlo.b hlo.ns
        exact key _ p2 p1
      · rename_i hdf
        refine key t (fun c => ?_) hw
        split
        · rename_i e
          rw [e]
          exact (hc l List.mem_cons_self (by simpa using hdf)).symm
        · rfl
  · exact ⟨w, hc, hw, fun _ _ => rfl, fun _ => rfl, fun _ h => h⟩
theorem SetW.perm {ls' : List Ln} (w : SetW s k ls) (p : ls'.Perm ls) : SetW s k ls' := ⟨((p.map _).nodup_iff).mpr w.nd, fun l hm => w.ix l (p.mem_iff.mp hm)⟩
theorem lnOf_perm {ls' : List Ln} (w : SetW s k ls) (p : ls'.Perm ls) (c : Nat) : lnOf c ls' = lnOf c ls := by
  cases e : lnOf c ls with
  | none => exact lnOf_no fun l hm => lnOf_none e l (p.mem_iff.mp hm)
  | some l =>
    obtain ⟨h1, h2⟩ := lnOf_mem e
    exact lnOf_iff (w.perm p).nd (p.mem_iff.mpr h1) h2
theorem perm_erase {α : Type} : ∀ {ls : List α} {i : Nat} (h : i < ls.length), (ls[i] :: ls.eraseIdx i).Perm ls
  | [], i, h => by simp at h
  | a :: r, 0, h => List.Perm.refl _
  | a :: r, i + 1, h => by
    have ih := perm_erase (ls := r) (i := i) (by simpa using h)
    show (r[i]'(by simpa using h) :: a :: r.eraseIdx i).Perm (a :: r)
    exact (List.Perm.swap ..).trans (ih.cons a)
theorem touch_perm {lt : Bool} {i : Nat} (h : i < ls.length) : (touchL lt ls i).Perm ls := by
  unfold touchL
  split
  · rw [List.getElem?_eq_getElem h]
    show (ls.eraseIdx i ++ [ls[i]]).Perm ls
    have := perm_erase h
    exact (List.perm_append_comm (l₁ := ls.eraseIdx i) (l₂ := [ls[i]])).trans this
  · exact List.Perm.refl _
theorem reach_sem (O : OpsC n o) (Ok : OpsOk n (gOf n) o) (hu : RuOk u) (w : SetW s k ls) (hl : LsOk u ls) (hc : Cln ls (eff t)) (h : TaOk n t) (hw : TaW t) {b : Nat} (hb : b < 16) (hbk : b % s = k) :
    Sem s k ls t (reachL o u ls t b).1 (reachL o u ls t b).2.1 b (fun x => x) ∧ (∀ l' ∈ (reachL o u ls t b).1, l'.d = true → ∃ l ∈ ls, l.b = l'.b ∧ l.d = true) ∧
      (∀ l, (reachL o u ls t b).1[(reachL o u ls t b).2.2]? = some l → l.b = b ∧ l.ns = effS ls (eff t) b) := by
  cases e : fnd b ls with
  | some i =>
    have e1 : reachL o u ls t b = (touchL u.lt ls i, t, touchI u.lt ls i) := by
      unfold reachL
      rw [e]
    rw [e1]
    have hi := fnd_lt e
    have p : (touchL u.lt ls i).Perm ls := touch_perm hi
    have hm := fun l (q : l ∈ touchL u.lt ls i) => p.mem_iff.mp q
    refine ⟨⟨w.perm p, fun l hq => hc l (hm l hq), hw, fun _ _ => rfl, fun c _ => ?_, fun l' hq => .inr ⟨l', hm l' hq, rfl, fun z => z⟩⟩, fun l' hq hd => ⟨l', hm l' hq, rfl, hd⟩, fun l hlg => ?_⟩
    · have : effS (touchL u.lt ls i) (eff t) c = effS ls (eff t) c := effS_same (lnOf_perm w p c) fun _ => rfl
      rw [this]
      split
      · rename_i q
        rw [q]
      · rfl
    · have hlg : (touchL u.lt ls i)[touchI u.lt ls i]? = some l := hlg
      rw [touch_get hi] at hlg
      obtain ⟨l2, g1, g2, _⟩ := fnd_some e
      rw [hlg] at g1
      cases g1
      refine ⟨g2, ?_⟩
      rw [← g2]
      exact (effS_mem w (List.mem_of_getElem? hlg) _).symm
  | none =>
    have e1 : reachL o u ls t b = ((mkWay o u ls t).1 ++ [⟨b, (o.br ((mkWay o u ls t).2.note u.tl "bring" b) b).1, false⟩], (o.br ((mkWay o u ls t).2.note u.tl "bring" b) b).2, (mkWay o u ls t).1.length) := by
      unfold reachL
      rw [e]
    rw [e1]
    obtain ⟨m1, m2, m3, m4, m5, m6⟩ := mkWay_sem (u := u) O w hl hc h hw
    obtain ⟨k1, k2, k3, k4⟩ := mkWay_ok Ok hu hl h
    have hno : ∀ l ∈ (mkWay o u ls t).1, l.b ≠ b := fun l hq => fnd_none e l (m6 l hq)
    obtain ⟨b1, b2, b3⟩ := O.br _ b (note_ok k2 u.tl "bring" b) (show TaW ((mkWay o u ls t).2.note u.tl "bring" b) from m3) hb
    have b1 : (o.br ((mkWay o u ls t).2.note u.tl "bring" b) b).1 = eff (mkWay o u ls t).2 b := b1
    have b3 : ∀ c, eff (o.br ((mkWay o u ls t).2.note u.tl "bring" b) b).2 c = eff (mkWay o u ls t).2 c := b3
    generalize o.br ((mkWay o u ls t).2.note u.tl "bring" b) b = br at *
    generalize mkWay o u ls t = mw at *
    have hval : br.1 = effS ls (eff t) b := by rw [b1, ← m5 b, effS_no hno]
    have w' : SetW s k (mw.1 ++ [⟨b, br.1, false⟩]) := by
      refine ⟨?_, fun l hq => ?_⟩
      · rw [List.map_append]
        refine List.nodup_append.mpr ⟨m1.nd, by simp, fun x hx y hy => ?_⟩
        obtain ⟨l, hq, rfl⟩ := List.mem_map.mp hx
        have : y = b := by simpa using hy
        rw [this]
        exact hno l hq
      · rcases List.mem_append.mp hq with hq | hq
        · exact m1.ix l hq
        · rw [List.mem_singleton.mp hq]
          exact hbk
    refine ⟨⟨w', fun l hq hd => ?_, b2, fun c hcs => ?_, fun c hcs => ?_, fun l' hq => ?_⟩, fun l' hq hd => ?_, fun l hlg => ?_⟩
    · rw [b3]
      rcases List.mem_append.mp hq with hq | hq
      · exact m2 l hq hd
      · rw [List.mem_singleton.mp hq]
        exact b1
    · rw [b3]
      exact m4 c hcs
    · by_cases ec : c = b
      · rw [if_pos ec]
        subst ec
        have := effS_mem w' (l := ⟨c, br.1, false⟩) (by simp) (eff br.2)
        rw [← hval]
        exact this
      · rw [if_neg ec, ← m5 c]
        refine effS_same ?_ fun _ => b3 c
        cases q : lnOf c mw.1 with
        | none =>
          refine lnOf_no fun l hq => ?_
          rcases List.mem_append.mp hq with hq | hq
          · exact lnOf_none q l hq
          · rw [List.mem_singleton.mp hq]
            exact Ne.symm ec
        | some l =>
          obtain ⟨g1, g2⟩ := lnOf_mem q
          exact lnOf_iff w'.nd (List.mem_append_left _ g1) g2
    · rcases List.mem_append.mp hq with hq | hq
      · exact .inr ⟨l', m6 l' hq, rfl, fun z => z⟩
      · rw [List.mem_singleton.mp hq]
        exact .inl rfl
    · rcases List.mem_append.mp hq with hq | hq
      · exact ⟨l', m6 l' hq, rfl, hd⟩
      · rw [List.mem_singleton.mp hq] at hd
        cases hd
    · have hlg : (mw.1 ++ [(⟨b, br.1, false⟩ : Ln)])[mw.1.length]? = some l := hlg
      rw [List.getElem?_append_right (Nat.le_refl _), Nat.sub_self] at hlg
      have : l = ⟨b, br.1, false⟩ := by simpa using hlg.symm
      rw [this]
      exact ⟨rfl, hval⟩
/-- one line is changed in its place: x has the same block -/
theorem set_w (w : SetW s k ls) {i : Nat} {l x : Ln} (hi : ls[i]? = some l) (hx : x.b = l.b) : SetW s k (ls.set i x) := by
  have hlt : i < ls.length := (List.getElem?_eq_some_iff.mp hi).1
  have em : (ls.set i x).map (·.b) = ls.map (·.b) := by
    rw [List.map_set]
    apply List.ext_getElem?
    intro j
    by_cases e : i = j
    · subst e
      rw [List.getElem?_set_self (by rw [List.length_map]; exact hlt), List.getElem?_map, hi, hx]
      rfl
    · rw [List.getElem?_set_ne e]
  refine ⟨by rw [em]; exact w.nd, fun l' hm => ?_⟩
  rcases List.mem_or_eq_of_mem_set hm with hm | e
  · exact w.ix l' hm
  · rw [e, hx]
    exact w.ix l (List.mem_of_getElem? hi)
theorem set_mem {i : Nat} {l x l' : Ln} (w : SetW s k ls) (hi : ls[i]? = some l) (hx : x.b = l.b) (h : l' ∈ ls.set i x) : l' = x ∨ (l' ∈ ls ∧ l'.b ≠ l.b) := by
  have hlt : i < ls.length := (List.getElem?_eq_some_iff.mp hi).1
  have w' := set_w w hi hx
  have hxm : x ∈ ls.set i x := List.mem_of_getElem? (List.getElem?_set_self hlt)
  by_cases e : l'.b = l.b
  · left
    have h1 := lnOf_iff w'.nd h e
    have h2 := lnOf_iff w'.nd hxm hx
    rw [h1] at h2
    exact Option.some.inj h2
  · right
    rcases List.mem_or_eq_of_mem_set h with hm | e2
    · exact ⟨hm, e⟩
    · exact absurd (by rw [e2, hx]) e
theorem set_other {i : Nat} {l x : Ln} {c : Nat} (w : SetW s k ls) (hi : ls[i]? = some l) (hx : x.b = l.b) (hc : c ≠ l.b) : lnOf c (ls.set i x) = lnOf c ls := by
  have w' := set_w w hi hx
  cases q : lnOf c ls with
  | none =>
    refine lnOf_no fun l' hm => ?_
    rcases set_mem w hi hx hm with e | ⟨hm, _⟩
    · rw [e, hx]
      exact Ne.symm hc
    · exact lnOf_none q l' hm
  | some l' =>
    obtain ⟨g1, g2⟩ := lnOf_mem q
    refine lnOf_iff w'.nd ?_ g2
    obtain ⟨j, hj, ej⟩ := List.mem_iff_getElem.mp g1
    have : i ≠ j := fun z => by
      subst z
      rw [List.getElem?_eq_getElem hj, ej] at hi
      cases hi
      exact hc g2.symm
    exact List.mem_of_getElem? (i := j) (by rw [List.getElem?_set_ne this, List.getElem?_eq_getElem hj, ej])
/-- a line of block b gets other numbers; what is behind agrees with it unless it is dirty -/
theorem set_sem {i : Nat} {l x : Ln} {t' : Ta} (w : SetW s k ls) (hi : ls[i]? = some l) (hx : x.b = l.b) (hc : Cln ls (eff t)) (hw' : TaW t') (he : ∀ c, c ≠ l.b → eff t' c = eff t c) (hcx : x.d = false → x.ns = eff t' l.b) :
    SetW s k (ls.set i x) ∧ Cln (ls.set i x) (eff t') ∧ (∀ c, effS (ls.set i x) (eff t') c = if c = l.b then x.ns else effS ls (eff t) c) := by
  have w' := set_w w hi hx
  have hlt : i < ls.length := (List.getElem?_eq_some_iff.mp hi).1
  have hxm : x ∈ ls.set i x := List.mem_of_getElem? (List.getElem?_set_self hlt)
  refine ⟨w', fun l' hm hd => ?_, fun c => ?_⟩
  · rcases set_mem w hi hx hm with e | ⟨hm, hne⟩
    · rw [e, hx]
      exact hcx (by rw [← e]; exact hd)
    · rw [he _ hne]
      exact hc l' hm hd
  · by_cases ec : c = l.b
    · rw [if_pos ec, ec, ← hx]
      exact effS_mem w' hxm _
    · rw [if_neg ec]
      exact effS_same (set_other w hi hx ec) fun _ => he c ec
theorem change_sem (O : OpsC n o) (Ok : OpsOk n (gOf n) o) (hu : RuOk u) (w : SetW s k ls) (hl : LsOk u ls) (hc : Cln ls (eff t)) (h : TaOk n t) (hw : TaW t) {p : Nat} (hp : p < 64) (hbk : (p / 4) % s = k) (v : Int) (hdt : u.bk = false → ∀ l ∈ ls, l.d = false) :
    Sem s k ls t (changeL o u ls t p v).1 (changeL o u ls t p v).2 (p / 4) (fun x => x.set (p % 4) v) ∧ (u.bk = false → ∀ l ∈ (changeL o u ls t p v).1, l.d = false) := by
  have hb : p / 4 < 16 := by omega
  unfold changeL
  split
  · rename_i hin
    obtain ⟨q1, q2⟩ := passC_eff (tl := u.tl) (v := v) O h hw hp
    have hno := fnd_none hin.2
    refine ⟨⟨w, fun l hm hd => ?_, q1, fun c hcs => ?_, fun c hcs => ?_, fun l' hm => .inr ⟨l', hm, rfl, fun z => z⟩⟩, hdt⟩
    · rw [q2, if_neg (hno l hm)]
      exact hc l hm hd
    · rw [q2, if_neg]
      intro e
      rw [e] at hcs
      exact hcs hbk
    · by_cases ec : c = p / 4
      · rw [if_pos ec, ec, effS_no hno, effS_no hno, q2, if_pos rfl]
      · rw [if_neg ec]
        exact effS_same rfl fun _ => by rw [q2, if_neg ec]
  · obtain ⟨S, hdirt, hat⟩ := reach_sem O Ok hu w hl hc h hw hb hbk
    obtain ⟨r1, r2, ⟨l, hlg, hlb, hlo⟩, r4⟩ := reachL_ok Ok hu hl h hb
    obtain ⟨_, hlns⟩ := hat l hlg
    rw [lnAt_get hlg]
    generalize reachL o u ls t (p / 4) = rr at *
    have hx : (setCell u.bk l p v).b = l.b := rfl
    have ef0 : ∀ c, c % s = k → effS rr.1 (eff rr.2.1) c = effS ls (eff t) c := fun c hcs => by
      rw [S.ef c hcs]
      split
      · rename_i q
        rw [q]
      · rfl
    have hdl : u.bk = false → l.d = false := fun hb' => by
      cases hd : l.d with
      | false => rfl
      | true =>
        obtain ⟨l0, g1, _, g3⟩ := hdirt l (List.mem_of_getElem? hlg) hd
        rw [hdt hb' l0 g1] at g3
        cases g3
    have fin : ∀ t' : Ta, TaW t' → (∀ c, c ≠ l.b → eff t' c = eff rr.2.1 c) → ((setCell u.bk l p v).d = false → (setCell u.bk l p v).ns = eff t' l.b) →
        Sem s k ls t (rr.1.set rr.2.2 (setCell u.bk l p v)) t' (p / 4) (fun x => x.set (p % 4) v) ∧ (u.bk = false → ∀ l' ∈ rr.1.set rr.2.2 (setCell u.bk l p v), l'.d = false) := by
      intro t' hw' he hcx
      obtain ⟨s1, s2, s3⟩ := set_sem S.w hlg hx S.cln hw' he hcx
      refine ⟨⟨s1, s2, hw', fun c hcs => ?_, fun c hcs => ?_, fun l' hm => ?_⟩, fun hb' l' hm => ?_⟩
      · rw [he c, S.out c hcs]
        intro e
        rw [e, hlb] at hcs
        exact hcs hbk
      · rw [s3 c, hlb]
        by_cases ec : c = p / 4
        · rw [if_pos ec, if_pos ec]
          show l.ns.set (p % 4) v = _
          rw [hlns]
        · rw [if_neg ec, if_neg ec]
          exact ef0 c hcs
      · rcases set_mem S.w hlg hx hm with e | ⟨hm, hne⟩
        · rw [e]
          exact .inl hlb
        · exact S.dom l' hm
      · rcases set_mem S.w hlg hx hm with e | ⟨hm, hne⟩
        · rw [e]
          show (u.bk || l.d) = false
          rw [hb', hdl hb']
          rfl
        · cases hd : l'.d with
          | false => rfl
          | true =>
            obtain ⟨l0, g1, _, g3⟩ := hdirt l' hm hd
            rw [hdt hb' l0 g1] at g3
            cases g3
    dsimp only
    split
    · rename_i hbk1
      refine fin _ S.tw (fun _ _ => rfl) fun hd => ?_
      have hd : (u.bk || l.d) = false := hd
      rw [hbk1] at hd
      cases hd
    · rename_i hbk1
      have hbf : u.bk = false := by simpa using hbk1
      obtain ⟨q1, q2⟩ := passC_eff (tl := u.tl) (v := v) O r2 S.tw hp
      refine fin _ q1 (fun c hne => ?_) fun _ => ?_
      · rw [q2, if_neg (by rw [← hlb]; exact hne)]
      · show l.ns.set (p % 4) v = _
        rw [q2, if_pos hlb]
        congr 1
        exact S.cln l (List.mem_of_getElem? hlg) (hdl hbf)
theorem home_sem (O : OpsC n o) (Ok : OpsOk n (gOf n) o) (hu : RuOk u) (w : SetW s k ls) (hl : LsOk u ls) (hc : Cln ls (eff t)) (h : TaOk n t) (hw : TaW t) {b : Nat} (hb : b < 16) (hbk : b % s = k) {ns : List Int} (hn : ns.length = 4) (hdt : u.bk = false → ∀ l ∈ ls, l.d = false) :
    Sem s k ls t (homeL o u ls t b ns).1 (homeL o u ls t b ns).2 b (fun _ => ns) ∧ (u.bk = false → ∀ l ∈ (homeL o u ls t b ns).1, l.d = false) := by
  unfold homeL
  cases e : fnd b ls with
  | none =>
    have hno := fnd_none e
    dsimp only
    split
    · obtain ⟨m1, m2, m3, m4, m5, m6⟩ := mkWay_sem (u := u) O w hl hc h hw
      obtain ⟨k1, k2, k3, k4⟩ := mkWay_ok Ok hu hl h
      have hno2 : ∀ l ∈ (mkWay o u ls t).1, l.b ≠ b := fun l hq => hno l (m6 l hq)
      generalize mkWay o u ls t = mw at *
      have w' : SetW s k (mw.1 ++ [⟨b, ns, u.bk⟩]) := by
        refine ⟨?_, fun l hq => ?_⟩
        · rw [List.map_append]
          refine List.nodup_append.mpr ⟨m1.nd, by simp, fun x hx y hy => ?_⟩
          obtain ⟨l, hq, rfl⟩ := List.mem_map.mp hx
          have : y = b := by simpa using hy
          rw [this]
          exact hno2 l hq
        · rcases List.mem_append.mp hq with hq | hq
          · exact m1.ix l hq
          · rw [List.mem_singleton.mp hq]
            exact hbk
      have fin : ∀ t' : Ta, TaW t' → (∀ c, c ≠ b → eff t' c = eff mw.2 c) → (u.bk = false → ns = eff t' b) →
          Sem s k ls t (mw.1 ++ [⟨b, ns, u.bk⟩]) t' b (fun _ => ns) ∧ (u.bk = false → ∀ l ∈ mw.1 ++ [⟨b, ns, u.bk⟩], l.d = false) := by
        intro t' hw' he hcx
        refine ⟨⟨w', fun l hq hd => ?_, hw', fun c hcs => ?_, fun c hcs => ?_, fun l' hq => ?_⟩, fun hb' l hq => ?_⟩
        · rcases List.mem_append.mp hq with hq | hq
          · rw [he _ (hno2 l hq)]
            exact m2 l hq hd
          · rw [List.mem_singleton.mp hq] at hd ⊢
            exact hcx hd
        · rw [he c, m4 c hcs]
          intro z
          rw [z] at hcs
          exact hcs hbk
        · by_cases ec : c = b
          · rw [if_pos ec, ec]
            exact effS_mem w' (l := ⟨b, ns, u.bk⟩) (by simp) _
          · rw [if_neg ec, ← m5 c]
            refine effS_same ?_ fun _ => he c ec
            cases q : lnOf c mw.1 with
            | none =>
              refine lnOf_no fun l hq => ?_
              rcases List.mem_append.mp hq with hq | hq
              · exact lnOf_none q l hq
              · rw [List.mem_singleton.mp hq]
                exact Ne.symm ec
            | some l =>
              obtain ⟨g1, g2⟩ := lnOf_mem q
              exact lnOf_iff w'.nd (List.mem_append_left _ g1) g2
        · rcases List.mem_append.mp hq with hq | hq
          · exact .inr ⟨l', m6 l' hq, rfl, fun z => z⟩
          · rw [List.mem_singleton.mp hq]
            exact .inl rfl
        · rcases List.mem_append.mp hq with hq | hq
          · exact hdt hb' l (m6 l hq)
          · rw [List.mem_singleton.mp hq]
            exact hb'
      split
      · rename_i hbk1
        exact fin _ m3 (fun _ _ => rfl) fun z => by rw [hbk1] at z; cases z
      · obtain ⟨q1, q2⟩ := passH_eff (tl := u.tl) O k2 m3 hb hn
        exact fin _ q1 (fun c hne => by rw [q2, if_neg hne]) fun _ => by rw [q2, if_pos rfl]
    · obtain ⟨q1, q2⟩ := passH_eff (tl := u.tl) O h hw hb hn
      refine ⟨⟨w, fun l hm hd => ?_, q1, fun c hcs => ?_, fun c hcs => ?_, fun l' hm => .inr ⟨l', hm, rfl, fun z => z⟩⟩, hdt⟩
      · rw [q2, if_neg (hno l hm)]
        exact hc l hm hd
      · rw [q2, if_neg]
        intro z
        rw [z] at hcs
        exact hcs hbk
      · by_cases ec : c = b
        · rw [if_pos ec, ec, effS_no hno, q2, if_pos rfl]
        · rw [if_neg ec]
          exact effS_same rfl fun _ => by rw [q2, if_neg ec]
  | some i =>
    have hi := fnd_lt e
    obtain ⟨l, g1, g2, _⟩ := fnd_some e
    have p : (touchL u.lt ls i).Perm ls := touch_perm hi
    have hm := fun l (q : l ∈ touchL u.lt ls i) => p.mem_iff.mp q
    have w1 := w.perm p
    have hlg : (touchL u.lt ls i)[touchI u.lt ls i]? = some l := (touch_get hi).trans g1
    have hc1 : Cln (touchL u.lt ls i) (eff t) := fun l' q => hc l' (hm l' q)
    have hx : (⟨b, ns, u.bk⟩ : Ln).b = l.b := g2.symm
    dsimp only
    have fin : ∀ t' : Ta, TaW t' → (∀ c, c ≠ b → eff t' c = eff t c) → (u.bk = false → ns = eff t' b) →
        Sem s k ls t ((touchL u.lt ls i).set (touchI u.lt ls i) ⟨b, ns, u.bk⟩) t' b (fun _ => ns) ∧ (u.bk = false → ∀ l' ∈ (touchL u.lt ls i).set (touchI u.lt ls i) ⟨b, ns, u.bk⟩, l'.d = false) := by
      intro t' hw' he hcx
      obtain ⟨s1, s2, s3⟩ := set_sem (x := ⟨b, ns, u.bk⟩) w1 hlg hx hc1 hw' (fun c hne => he c (by rw [← g2]; exact hne)) (fun hd => by rw [g2]; exact hcx hd)
      refine ⟨⟨s1, s2, hw', fun c hcs => he c ?_, fun c hcs => ?_, fun l' hq => ?_⟩, fun hb' l' hq => ?_⟩
      · intro z
        rw [z] at hcs
        exact hcs hbk
      · rw [s3 c, g2]
        by_cases ec : c = b
        · rw [if_pos ec, if_pos ec]
        · rw [if_neg ec, if_neg ec]
          exact effS_same (lnOf_perm w p c) fun _ => rfl
      · rcases set_mem w1 hlg hx hq with z | ⟨hq, hne⟩
        · rw [z]
          exact .inl rfl
        · exact .inr ⟨l', hm l' hq, rfl, fun z => z⟩
      · rcases set_mem w1 hlg hx hq with z | ⟨hq, hne⟩
        · rw [z]
          exact hb'
        · exact hdt hb' l' (hm l' hq)
    split
    · rename_i hbk1
      exact fin _ hw (fun _ _ => rfl) fun z => by rw [hbk1] at z; cases z
    · obtain ⟨q1, q2⟩ := passH_eff (tl := u.tl) O h hw hb hn
      exact fin _ q1 (fun c hne => by rw [q2, if_neg hne]) fun _ => by rw [q2, if_pos rfl]
end
-- WwCoh2
/-! ### from one set to the room and what is behind -/
/-- a room over what is behind it -/
structure RW (r : Rm) (t : Ta) : Prop where
  w : RmW r
  c : ∀ ls ∈ r.ss, Cln ls (eff t) ∧ (r.ru.bk = false → ∀ l ∈ ls, l.d = false)
  t : TaW t
abbrev effR (r : Rm) (t : Ta) (c : Nat) : List Int := effS (r.ls c) (eff t) c
abbrev lookR (r : Rm) (c : Nat) : Option Ln := lnOf c (r.ls c)
theorem ls_put_if {r : Rm} (h : 0 < r.ss.length) (b c : Nat) (ls : List Ln) : (r.put b ls).ls c = if r.ix c = r.ix b then ls else r.ls c := by
  split
  · rename_i e
    have : (r.put b ls).ls c = (r.put b ls).ls b := by
      unfold Rm.ls
      rw [put_ix, put_ix, e]
    rw [this, ls_put h]
  · rename_i e
    exact ls_put_ne e
theorem ls_same {r : Rm} {b c : Nat} (h : r.ix c = r.ix b) : r.ls c = r.ls b := by
  unfold Rm.ls
  rw [h]
theorem RW.set {r : Rm} {t : Ta} (h : RW r t) (h0 : 0 < r.ss.length) (b : Nat) : SetW r.ss.length (r.ix b) (r.ls b) ∧ Cln (r.ls b) (eff t) ∧ (r.ru.bk = false → ∀ l ∈ r.ls b, l.d = false) :=
  ⟨h.w _ _ (ls_get h0 b), (h.c _ (ls_mem h0 b)).1, (h.c _ (ls_mem h0 b)).2⟩
theorem RW.step {r : Rm} {t t' : Ta} {ls' : List Ln} {b : Nat} {f : List Int → List Int} (h : RW r t) (h0 : 0 < r.ss.length) (S : Sem r.ss.length (r.ix b) (r.ls b) t ls' t' b f) (hd : r.ru.bk = false → ∀ l ∈ ls', l.d = false) :
    RW (r.put b ls') t' ∧ ∀ c, effR (r.put b ls') t' c = if c = b then f (effR r t b) else effR r t c := by
  refine ⟨⟨fun k ls hk => ?_, fun ls hm => ?_, S.tw⟩, fun c => ?_⟩
  · rw [put_len]
    by_cases e : r.ix b = k
    · subst e
      have hk : (r.ss.set (r.ix b) ls')[r.ix b]? = some ls := hk
      rw [List.getElem?_set_self (ix_lt h0 b)] at hk
      cases hk
      exact S.w
    · have hk : (r.ss.set (r.ix b) ls')[k]? = some ls := hk
      rw [List.getElem?_set_ne e] at hk
      exact h.w k ls hk
  · obtain ⟨k, hk, ek⟩ := List.mem_iff_getElem.mp hm
    have hg : (r.ss.set (r.ix b) ls')[k]? = some ls := by
      show (r.put b ls').ss[k]? = some ls
      rw [List.getElem?_eq_getElem hk, ek]
    by_cases e : r.ix b = k
    · subst e
      rw [List.getElem?_set_self (ix_lt h0 b)] at hg
      cases hg
      exact ⟨S.cln, hd⟩
    · rw [List.getElem?_set_ne e] at hg
      have hmo := List.mem_of_getElem? hg
      obtain ⟨c1, c2⟩ := h.c ls hmo
      refine ⟨fun l hl hdl => ?_, c2⟩
      rw [S.out l.b]
      · exact c1 l hl hdl
      · rw [(h.w k ls hg).ix l hl]
        exact Ne.symm e
  · show effS ((r.put b ls').ls c) (eff t') c = _
    rw [ls_put_if h0]
    by_cases e : r.ix c = r.ix b
    · rw [if_pos e, S.ef c e]
      show _ = if c = b then f (effS (r.ls b) (eff t) b) else effS (r.ls c) (eff t) c
      rw [ls_same e]
    · rw [if_neg e]
      have ec : c ≠ b := fun z => e (by rw [z])
      rw [if_neg ec]
      exact effS_same rfl fun _ => S.out c e
theorem RW.cons {r : Rm} {t : Ta} (h : RW r t) : TaW (Ta.cons r t) := ⟨h.w, h.c, h.t⟩
theorem eff_cons (r : Rm) (t : Ta) (c : Nat) : eff (Ta.cons r t) c = effR r t c := rfl
theorem blk_get {far : List Int} (hf : far.length = 64) {b : Nat} (hb : b < 16) {ns : List Int} (hn : ns.length = 4) (c : Nat) : getBlk (setBlk far b ns) c = if c = b then ns else getBlk far c := by
  unfold getBlk setBlk
  have h1 : (far.take (b * 4)).length = b * 4 := by rw [List.length_take]; omega
  apply List.ext_getElem?
  intro i
  by_cases hi : i < 4
  · rw [List.getElem?_take_of_lt hi, List.getElem?_drop]
    by_cases ec : c = b
    · subst ec
      rw [if_pos rfl, List.append_assoc, List.getElem?_append_right (by omega), h1, List.getElem?_append_left (by omega)]
      congr 1
      omega
    · rw [if_neg ec, List.getElem?_take_of_lt hi, List.getElem?_drop]
      by_cases hl : c < b
      · rw [List.append_assoc, List.getElem?_append_left (by omega), List.getElem?_take_of_lt (by omega)]
      · rw [List.getElem?_append_right (by rw [List.length_append]; omega), List.length_append, h1, hn, List.getElem?_drop]
        congr 1
        omega
  · rw [List.getElem?_eq_none (by rw [List.length_take]; omega)]
    split
    · rw [List.getElem?_eq_none (by omega)]
    · rw [List.getElem?_eq_none (by rw [List.length_take]; omega)]
theorem cell_get {far : List Int} (hf : far.length = 64) {p : Nat} (hp : p < 64) (v : Int) (c : Nat) : getBlk (far.set p v) c = if c = p / 4 then (getBlk far c).set (p % 4) v else getBlk far c := by
  unfold getBlk
  apply List.ext_getElem?
  intro i
  by_cases hi : i < 4
  · rw [List.getElem?_take_of_lt hi, List.getElem?_drop]
    by_cases ec : c = p / 4
    · rw [if_pos ec]
      by_cases ei : p % 4 = i
      · have e1 : c * 4 + i = p := by omega
        rw [e1, List.getElem?_set_self (by omega), ei, List.getElem?_set_self]
        rw [List.length_take, List.length_drop]
        omega
      · rw [List.getElem?_set_ne (by omega), List.getElem?_set_ne ei, List.getElem?_take_of_lt hi, List.getElem?_drop]
    · rw [if_neg ec, List.getElem?_take_of_lt hi, List.getElem?_drop, List.getElem?_set_ne (by omega)]
  · rw [List.getElem?_eq_none (by rw [List.length_take]; omega)]
    split
    · rw [List.getElem?_eq_none (by rw [List.length_set, List.length_take]; omega)]
    · rw [List.getElem?_eq_none (by rw [List.length_take]; omega)]
theorem TaW.uncons {t : Ta} {r : Rm} {rs : List Rm} (h : TaW t) (e : t.rs = r :: rs) : RW r { t with rs := rs } := by
  have h : ChW t.rs t.far := h
  rw [e] at h
  exact ⟨h.1, h.2.1, h.2.2⟩
theorem eff_uncons {t : Ta} {r : Rm} {rs : List Rm} (e : t.rs = r :: rs) (c : Nat) : eff t c = effR r { t with rs := rs } c := by
  show effC t.rs t.far c = _
  rw [e]
  rfl
theorem ops_c : ∀ n, OpsC n (ops n)
  | 0 => {
    hm := fun t b ns h hw hb hn => by
      have ers : t.rs = [] := List.length_eq_zero_iff.mp h.len
      refine ⟨?_, fun c => ?_⟩
      · show ChW t.rs _
        rw [ers]
        trivial
      · show effC t.rs (setBlk t.far b ns) c = if c = b then ns else effC t.rs t.far c
        rw [ers]
        exact blk_get h.far hb hn c
    br := fun t b h hw hb => by
      have ers : t.rs = [] := List.length_eq_zero_iff.mp h.len
      refine ⟨?_, hw, fun c => rfl⟩
      show getBlk t.far b = effC t.rs t.far b
      rw [ers]
      rfl
    ch := fun t p v h hw hp => by
      have ers : t.rs = [] := List.length_eq_zero_iff.mp h.len
      refine ⟨?_, fun c => ?_⟩
      · show ChW t.rs _
        rw [ers]
        trivial
      · show effC t.rs (t.far.set p v) c = if c = p / 4 then (effC t.rs t.far c).set (p % 4) v else effC t.rs t.far c
        rw [ers]
        exact cell_get h.far hp v c }
  | n + 1 => {
    hm := fun t b ns h hw hb hn => by
      obtain ⟨r, rs, e, hr, ht⟩ := h.uncons
      have R := hw.uncons e
      obtain ⟨s1, s2, s3⟩ := R.set hr.s0 b
      obtain ⟨S, sd⟩ := home_sem (ops_c n) (ops_ok n) hr.ru s1 (hr.ls b) s2 ht R.t hb rfl hn s3
      obtain ⟨R', he⟩ := R.step hr.s0 S sd
      have eo : (ops (n + 1)).hm t b ns = Ta.cons (r.put b (homeL (ops n) r.ru (r.ls b) { t with rs := rs } b ns).1) (homeL (ops n) r.ru (r.ls b) { t with rs := rs } b ns).2 := by
        show (match t.rs with | [] => t | r :: rs => _) = _
        rw [e]
      rw [eo]
      refine ⟨R'.cons, fun c => ?_⟩
      rw [eff_cons, he c, eff_uncons e c]
    br := fun t b h hw hb => by
      obtain ⟨r, rs, e, hr, ht⟩ := h.uncons
      have R := hw.uncons e
      obtain ⟨s1, s2, s3⟩ := R.set hr.s0 b
      obtain ⟨S, hdirt, hat⟩ := reach_sem (ops_c n) (ops_ok n) hr.ru s1 (hr.ls b) s2 ht R.t hb rfl
      obtain ⟨_, _, ⟨l, hlg, hlb, hlo⟩, _⟩ := reachL_ok (ops_ok n) hr.ru (hr.ls b) ht hb
      obtain ⟨_, hns⟩ := hat l hlg
      obtain ⟨R', he⟩ := R.step hr.s0 S fun hbk l' hm => by
        cases hd : l'.d with
        | false => rfl
        | true =>
          obtain ⟨l0, g1, _, g3⟩ := hdirt l' hm hd
          rw [s3 hbk l0 g1] at g3
          cases g3
      have eo : (ops (n + 1)).br t b = ((bringL (ops n) r.ru (r.ls b) { t with rs := rs } b).1, Ta.cons (r.put b (bringL (ops n) r.ru (r.ls b) { t with rs := rs } b).2.1) (bringL (ops n) r.ru (r.ls b) { t with rs := rs } b).2.2) := by
        show (match t.rs with | [] => ([], t) | r :: rs => _) = _
        rw [e]
      rw [eo]
      refine ⟨?_, R'.cons, fun c => ?_⟩
      · rw [eff_uncons e b]
        show (lnAt _ _).ns = _
        rw [lnAt_get hlg]
        exact hns
      · rw [eff_uncons e c]
        refine (he c).trans ?_
        split
        · rename_i z
          rw [z]
        · rfl
    ch := fun t p v h hw hp => by
      obtain ⟨r, rs, e, hr, ht⟩ := h.uncons
      have R := hw.uncons e
      obtain ⟨s1, s2, s3⟩ := R.set hr.s0 (p / 4)
      obtain ⟨S, sd⟩ := change_sem (ops_c n) (ops_ok n) hr.ru s1 (hr.ls (p / 4)) s2 ht R.t hp rfl v s3
      obtain ⟨R', he⟩ := R.step hr.s0 S sd
      have eo : (ops (n + 1)).ch t p v = Ta.cons (r.put (p / 4) (changeL (ops n) r.ru (r.ls (p / 4)) { t with rs := rs } p v).1) (changeL (ops n) r.ru (r.ls (p / 4)) { t with rs := rs } p v).2 := by
        show (match t.rs with | [] => t | r :: rs => _) = _
        rw [e]
      rw [eo]
      refine ⟨R'.cons, fun c => ?_⟩
      rw [eff_cons, he c, eff_uncons e c]
      split
      · rename_i z
        rw [z]
      · rfl }
-- WwCoh3
/-! ### halls: what the hands' rooms tell -/
section
variable {n : Nat} {o : Ops} {u : Ru} {s k : Nat} {ls : List Ln} {t : Ta}
theorem lnOf_erase (w : SetW s k ls) {i : Nat} {l : Ln} (hl : ls[i]? = some l) (c : Nat) : lnOf c (ls.eraseIdx i) = if c = l.b then none else lnOf c ls := by
  obtain ⟨hi, e⟩ := List.getElem?_eq_some_iff.mp hl
  have p := perm_erase hi
  rw [e] at p
  have w2 := w.perm p
  split
  · rename_i z
    subst z
    exact lnOf_no w2.head
  · rename_i z
    rw [← lnOf_perm w p c]
    show _ = if l.b = c then some l else lnOf c (ls.eraseIdx i)
    rw [if_neg (Ne.symm z)]
theorem lnOf_set : ∀ {ls : List Ln} {i : Nat} {l l2 : Ln}, ls[i]? = some l → l2.b = l.b → (ls.map (·.b)).Nodup → ∀ c, lnOf c (ls.set i l2) = if c = l.b then some l2 else lnOf c ls
  | [], i, l, l2, h, _, _, c => by simp at h
  | a :: r, 0, l, l2, h, e, hn, c => by
    have : a = l := by simpa using h
    subst this
    show (if l2.b = c then some l2 else lnOf c r) = if c = a.b then some l2 else if a.b = c then some a else lnOf c r
    rw [e]
    by_cases z : a.b = c
    · rw [if_pos z, if_pos z.symm]
    · rw [if_neg z, if_neg (Ne.symm z), if_neg z]
  | a :: r, i + 1, l, l2, h, e, hn, c => by
    rw [List.map_cons] at hn
    obtain ⟨h1, h2⟩ := List.nodup_cons.mp hn
    have hl : r[i]? = some l := by simpa using h
    have ih := lnOf_set hl e h2 c
    show (if a.b = c then some a else lnOf c (r.set i l2)) = if c = l.b then some l2 else if a.b = c then some a else lnOf c r
    rw [ih]
    by_cases z : a.b = c
    · have : c ≠ l.b := fun q => h1 (List.mem_map.mpr ⟨l, List.mem_of_getElem? hl, by rw [← q, z]⟩)
      rw [if_pos z, if_neg this, if_pos z]
    · rw [if_neg z, if_neg z]
theorem set_map_b {ls : List Ln} {i : Nat} {l l2 : Ln} (h : ls[i]? = some l) (e : l2.b = l.b) : (ls.set i l2).map (·.b) = ls.map (·.b) := by
  rw [List.map_set]
  apply List.ext_getElem?
  intro j
  by_cases z : i = j
  · subst z
    have hi := (List.getElem?_eq_some_iff.mp h).1
    rw [List.getElem?_set_self (by simpa using hi), List.getElem?_map, h, e]
    rfl
  · rw [List.getElem?_set_ne z]
theorem yield_sem (O : OpsC n o) (w : SetW s k ls) (hl : LsOk u ls) (hc : Cln ls (eff t)) (h : TaOk n t) (hw : TaW t) {b : Nat} (hb : b < 16) (gone : Bool) :
    Sem s k ls t (yieldL o u ls t b gone).1 (yieldL o u ls t b gone).2 b (fun x => x) ∧ (∀ l' ∈ (yieldL o u ls t b gone).1, l'.d = true → l'.b ≠ b ∧ l' ∈ ls) ∧ (gone = true → ∀ l' ∈ (yieldL o u ls t b gone).1, l'.b ≠ b) := by
  unfold yieldL
  cases e : fnd b ls with
  | none =>
    have hno := fnd_none e
    refine ⟨⟨w, hc, hw, fun _ _ => rfl, fun c _ => ?_, fun l hm => .inr ⟨l, hm, rfl, fun z => z⟩⟩, fun l hm _ => ⟨hno l hm, hm⟩, fun _ l hm => hno l hm⟩
    show effS ls (eff t) c = _
    split
    · rename_i z
      rw [z]
    · rfl
  | some i =>
    obtain ⟨l, hlg, hlb, _⟩ := fnd_some e
    have hlm := List.mem_of_getElem? hlg
    have hlo := hl.ok l hlm
    dsimp only
    rw [lnAt_get hlg]
    -- what is behind afterwards
    have hef : TaW (if l.d = true then passH o u.tl t b l.ns else t) ∧ ∀ c, eff (if l.d = true then passH o u.tl t b l.ns else t) c = if c = b then l.ns else eff t c := by
      split
      · exact passH_eff (tl := u.tl) O h hw hb hlo.ns
      · rename_i hd
        refine ⟨hw, fun c => ?_⟩
        split
        · rename_i z
          rw [z, ← hlb]
          exact (hc l hlm (by simpa using hd)).symm
        · rfl
    generalize (if l.d = true then passH o u.tl t b l.ns else t) = t' at hef ⊢
    obtain ⟨hw', he⟩ := hef
    have hout : ∀ c, c % s ≠ k → eff t' c = eff t c := fun c hcs => by
      rw [he, if_neg]
      intro z
      apply hcs
      rw [z, ← hlb]
      exact w.ix l hlm
    have heb : effS ls (eff t) b = l.ns := by
      rw [← hlb]
      exact effS_mem w hlm _
    cases gone with
    | true =>
      have hmem : ∀ l' ∈ ls.eraseIdx i, l' ∈ ls ∧ l'.b ≠ b := fun l' hm => by
        have hi := (List.getElem?_eq_some_iff.mp hlg)
        obtain ⟨hi, ei⟩ := hi
        have p := perm_erase hi
        rw [ei] at p
        exact ⟨p.mem_iff.mp (List.mem_cons_of_mem _ hm), by rw [← hlb]; exact (w.perm p).head l' hm⟩
      refine ⟨⟨⟨?_, fun l' hm => w.ix l' (hmem l' hm).1⟩, fun l' hm hd => ?_, hw', hout, fun c hcs => ?_, fun l' hm => .inr ⟨l', (hmem l' hm).1, rfl, fun z => z⟩⟩, fun l' hm _ => ⟨(hmem l' hm).2, (hmem l' hm).1⟩, fun _ l' hm => (hmem l' hm).2⟩
      · have hi := (List.getElem?_eq_some_iff.mp hlg)
        obtain ⟨hi, ei⟩ := hi
        have p := perm_erase hi
        rw [ei] at p
        exact (w.perm p).tail.nd
      · show l'.ns = eff t' l'.b
        rw [he, if_neg (hmem l' hm).2]
        exact hc l' (hmem l' hm).1 hd
      · show effS (ls.eraseIdx i) (eff t') c = _
        unfold effS
        rw [lnOf_erase w hlg c, hlb]
        by_cases z : c = b
        · rw [if_pos z, if_pos z]
          show eff t' c = _
          rw [he, if_pos z]
          exact heb.symm
        · rw [if_neg z, if_neg z, he, if_neg z]
    | false =>
      have hmem : ∀ l' ∈ ls.set i { l with d := false }, l' ∈ ls ∧ l'.b ≠ b ∨ l' = { l with d := false } := fun l' hm => by
        by_cases z : l'.b = b
        · right
          have w2 : SetW s k (ls.set i { l with d := false }) := ⟨by rw [set_map_b (l2 := { l with d := false }) hlg rfl]; exact w.nd, fun q hq => by
            rcases List.mem_or_eq_of_mem_set hq with hq | eq
            · exact w.ix q hq
            · rw [eq]
              exact w.ix l hlm⟩
          have h1 := lnOf_iff w2.nd hm z
          rw [lnOf_set (l2 := { l with d := false }) hlg rfl w.nd, if_pos hlb.symm] at h1
          exact (Option.some.inj h1).symm
        · rcases List.mem_or_eq_of_mem_set hm with hm | eq
          · exact .inl ⟨hm, z⟩
          · exact .inr eq
      refine ⟨⟨⟨?_, fun l' hm => ?_⟩, fun l' hm hd => ?_, hw', hout, fun c hcs => ?_, fun l' hm => ?_⟩, fun l' hm hd => ?_, fun z => by cases z⟩
      · show ((ls.set i { l with d := false }).map (·.b)).Nodup
        rw [set_map_b (l2 := { l with d := false }) hlg rfl]
        exact w.nd
      · rcases hmem l' hm with ⟨hm, _⟩ | eq
        · exact w.ix l' hm
        · rw [eq]
          exact w.ix l hlm
      · show l'.ns = eff t' l'.b
        rcases hmem l' hm with ⟨hm, hne⟩ | eq
        · rw [he, if_neg hne]
          exact hc l' hm hd
        · rw [eq, he, if_pos hlb]
      · show effS (ls.set i { l with d := false }) (eff t') c = _
        unfold effS
        rw [lnOf_set (l2 := { l with d := false }) hlg rfl w.nd c, hlb]
        by_cases z : c = b
        · rw [if_pos z, if_pos z]
          exact heb.symm
        · rw [if_neg z, if_neg z, he, if_neg z]
      · rcases hmem l' hm with ⟨hm, hne⟩ | eq
        · exact .inr ⟨l', hm, rfl, fun z => z⟩
        · left
          rw [eq]
          exact hlb
      · rcases hmem l' hm with ⟨hm, hne⟩ | eq
        · exact ⟨hne, hm⟩
        · rw [eq] at hd
          cases hd
end
def InR (l : Ln) (r : Rm) : Prop := ∃ ls ∈ r.ss, l ∈ ls
structure HCoh (ha : Ha) (pl : Nat → List Int) : Prop where
  w : ∀ r ∈ ha.own, RmW r
  th : ∀ r ∈ ha.own, r.ru.bk = false → ∀ l, InR l r → l.d = false
  t : TaW ha.t
  pn : ∀ r ∈ ha.own, ∀ l, InR l r → l.ns = pl l.b
  one : ∀ (i j : Nat) (r q : Rm), i ≠ j → ha.own[i]? = some r → ha.own[j]? = some q → ∀ l m, InR l r → InR m q → l.d = true → l.b ≠ m.b
  ef : ∀ c, (∀ r ∈ ha.own, ∀ l, InR l r → l.b = c → l.d = false) → eff ha.t c = pl c
theorem InR.ls {l : Ln} {r : Rm} (h : InR l r) (w : RmW r) : l ∈ r.ls l.b := by
  obtain ⟨ls, hm, hl⟩ := h
  obtain ⟨k, hk, e⟩ := List.mem_iff_getElem.mp hm
  have hg : r.ss[k]? = some ls := by rw [List.getElem?_eq_getElem hk, e]
  have := (w k ls hg).ix l hl
  unfold Rm.ls Rm.ix
  rw [this, List.getD_eq_getElem?_getD, hg]
  exact hl
theorem InR.of {l : Ln} {r : Rm} {b : Nat} (h0 : 0 < r.ss.length) (h : l ∈ r.ls b) : InR l r := ⟨_, ls_mem h0 b, h⟩
theorem InR.uniq {l m : Ln} {r : Rm} (h0 : 0 < r.ss.length) (w : RmW r) (hl : InR l r) (hm : InR m r) (e : l.b = m.b) : l = m := by
  have h1 := hl.ls w
  have h2 := hm.ls w
  rw [← e] at h2
  have W := w _ _ (ls_get h0 l.b)
  have e1 := lnOf_iff W.nd h1 rfl
  have e2 := lnOf_iff W.nd h2 e.symm
  rw [e1] at e2
  exact Option.some.inj e2
theorem InR.put {l : Ln} {r : Rm} {b : Nat} {ls : List Ln} (h : InR l (r.put b ls)) : l ∈ ls ∨ InR l r := by
  obtain ⟨ls', hm, hl⟩ := h
  rcases List.mem_or_eq_of_mem_set hm with hm | e
  · exact .inr ⟨ls', hm, hl⟩
  · rw [e] at hl
    exact .inl hl
theorem InR.put_of {l : Ln} {r : Rm} {b : Nat} {ls : List Ln} (h0 : 0 < r.ss.length) (h : l ∈ ls) : InR l (r.put b ls) := ⟨_, List.mem_set (ix_lt h0 b) _, h⟩
section
variable {ha : Ha} {pl : Nat → List Int} {n m : Nat} {i : Nat} {r : Rm}
theorem HCoh.eff_of (h : HCoh ha pl) (e : ha.own[i]? = some r) (h0 : 0 < r.ss.length) {c : Nat} (A : ∀ (j : Nat) (q : Rm), j ≠ i → ha.own[j]? = some q → ∀ l, InR l q → l.b = c → l.d = false) : effR r ha.t c = pl c := by
  have hr := List.mem_of_getElem? e
  show effS (r.ls c) (eff ha.t) c = pl c
  cases q : lnOf c (r.ls c) with
  | some l =>
    obtain ⟨h1, h2⟩ := lnOf_mem q
    unfold effS
    rw [q, ← h2]
    exact h.pn r hr l (.of h0 h1)
  | none =>
    unfold effS
    rw [q]
    refine h.ef c fun q' hq' l hl hc => ?_
    obtain ⟨j, hj, ej⟩ := List.mem_iff_getElem.mp hq'
    have hg : ha.own[j]? = some q' := by rw [List.getElem?_eq_getElem hj, ej]
    by_cases z : j = i
    · subst z
      rw [e] at hg
      cases hg
      have := hl.ls (h.w r hr)
      rw [hc] at this
      exact absurd hc (lnOf_none q l this)
    · exact A j q' z hg l hl hc
theorem HCoh.rw (h : HCoh ha pl) (e : ha.own[i]? = some r) (h0 : 0 < r.ss.length) : RW r ha.t := by
  have hr := List.mem_of_getElem? e
  refine ⟨h.w r hr, fun ls hm => ⟨fun l hl hd => ?_, fun hb l hl => h.th r hr hb l ⟨ls, hm, hl⟩⟩, h.t⟩
  have hi : InR l r := ⟨ls, hm, hl⟩
  rw [h.pn r hr l hi]
  refine (h.ef l.b fun q' hq' l2 hl2 hc => ?_).symm
  obtain ⟨j, hj, ej⟩ := List.mem_iff_getElem.mp hq'
  have hg : ha.own[j]? = some q' := by rw [List.getElem?_eq_getElem hj, ej]
  by_cases z : j = i
  · subst z
    rw [e] at hg
    cases hg
    rw [hl2.uniq h0 (h.w r hr) hi hc]
    exact hd
  · cases q : l2.d with
    | false => rfl
    | true => exact absurd hc (h.one j i q' r z hg e l2 l hl2 hi q)
theorem HCoh.step (h : HCoh ha pl) (e : ha.own[i]? = some r) (h0 : 0 < r.ss.length) {b : Nat} {ls' : List Ln} {t' : Ta} {f : List Int → List Int}
    (S : Sem r.ss.length (r.ix b) (r.ls b) ha.t ls' t' b f) (hd : r.ru.bk = false → ∀ l ∈ ls', l.d = false)
    (A : ∀ (j : Nat) (q : Rm), j ≠ i → ha.own[j]? = some q → ∀ l, InR l q → l.b = b → l.d = false)
    (B : ((∀ x, f x = x) ∧ ∀ l' ∈ ls', l'.d = true → ∃ l ∈ r.ls b, l.b = l'.b ∧ l.d = true) ∨ ∀ (j : Nat) (q : Rm), j ≠ i → ha.own[j]? = some q → ∀ l, InR l q → l.b ≠ b) :
    HCoh ⟨ha.own.set i (r.put b ls'), t'⟩ (fun c => if c = b then f (pl b) else pl c) := by
  have hr := List.mem_of_getElem? e
  have hi := (List.getElem?_eq_some_iff.mp e).1
  obtain ⟨R', he⟩ := (h.rw e h0).step h0 S hd
  have h0' : 0 < (r.put b ls').ss.length := by
    rw [put_len]
    exact h0
  -- a line of the new room stood there before, or is b's
  have dom : ∀ l', InR l' (r.put b ls') → l'.b = b ∨ ∃ l, InR l r ∧ l.b = l'.b ∧ (l'.d = true → l.d = true) := fun l' hl' => by
    rcases hl'.put with hl' | hl'
    · rcases S.dom l' hl' with z | ⟨l, hl, h1, h2⟩
      · exact .inl z
      · exact .inr ⟨l, .of h0 hl, h1, h2⟩
    · exact .inr ⟨l', hl', rfl, fun z => z⟩
  have oth : ∀ j, j ≠ i → (ha.own.set i (r.put b ls'))[j]? = ha.own[j]? := fun j z => List.getElem?_set_ne (Ne.symm z)
  have mine : (ha.own.set i (r.put b ls'))[i]? = some (r.put b ls') := List.getElem?_set_self hi
  have memC : ∀ q ∈ ha.own.set i (r.put b ls'), q = r.put b ls' ∨ ∃ j, j ≠ i ∧ ha.own[j]? = some q := fun q hq => by
    obtain ⟨j, hj, ej⟩ := List.mem_iff_getElem.mp hq
    have hg : (ha.own.set i (r.put b ls'))[j]? = some q := by rw [List.getElem?_eq_getElem hj, ej]
    by_cases z : j = i
    · subst z
      rw [mine] at hg
      exact .inl (Option.some.inj hg).symm
    · rw [oth j z] at hg
      exact .inr ⟨j, z, hg⟩
  have eb : effR r ha.t b = pl b := h.eff_of e h0 A
  have pl' : ∀ l, InR l (r.put b ls') → l.ns = if l.b = b then f (pl b) else pl l.b := fun l hl => by
    have h1 : effR (r.put b ls') t' l.b = l.ns := effS_mem (R'.w _ _ (ls_get h0' l.b)) (hl.ls R'.w) _
    rw [he, eb] at h1
    rw [← h1]
    by_cases z : l.b = b
    · rw [if_pos z, if_pos z]
    · rw [if_neg z, if_neg z]
      refine h.eff_of e h0 fun j q zj hg l2 hl2 hc => ?_
      rcases dom l hl with z2 | ⟨l0, h3, h4, _⟩
      · exact absurd z2 z
      · cases q2 : l2.d with
        | false => rfl
        | true => exact absurd (hc.trans h4.symm) (h.one j i q r zj hg e l2 l0 hl2 h3 q2)
  refine ⟨fun q hq => ?_, fun q hq hb l hl => ?_, R'.t, fun q hq l hl => ?_, fun j1 j2 q1 q2 hne g1 g2 l l2 hl hl2 hdl => ?_, fun c hc => ?_⟩
  · rcases memC q hq with z | ⟨j, _, hg⟩
    · rw [z]
      exact R'.w
    · exact h.w q (List.mem_of_getElem? hg)
  · rcases memC q hq with z | ⟨j, _, hg⟩
    · rw [z] at hl hb
      obtain ⟨lsx, hm, hl⟩ := hl
      exact (R'.c lsx hm).2 hb l hl
    · exact h.th q (List.mem_of_getElem? hg) hb l hl
  · rcases memC q hq with z | ⟨j, zj, hg⟩
    · rw [z] at hl
      exact pl' l hl
    · show l.ns = if l.b = b then f (pl b) else pl l.b
      rw [h.pn q (List.mem_of_getElem? hg) l hl]
      split
      · rename_i z
        rcases B with ⟨hf, _⟩ | B
        · rw [hf, z]
        · exact absurd z (B j q zj hg l hl)
      · rfl
  · have g1 : (ha.own.set i (r.put b ls'))[j1]? = some q1 := g1
    have g2 : (ha.own.set i (r.put b ls'))[j2]? = some q2 := g2
    intro hbb
    by_cases z1 : j1 = i
    · have z2 : j2 ≠ i := fun z => hne (z1.trans z.symm)
      rw [z1, mine] at g1
      rw [oth j2 z2] at g2
      cases g1
      rcases hl.put with hl' | hl'
      · rcases B with ⟨_, hdirt⟩ | B
        · obtain ⟨l0, h3, h4, h5⟩ := hdirt l hl' hdl
          exact h.one i j2 r q2 (Ne.symm z2) e g2 l0 l2 (.of h0 h3) hl2 h5 (h4.trans hbb)
        · rcases S.dom l hl' with z | ⟨l0, h3, h4, h5⟩
          · exact B j2 q2 z2 g2 l2 hl2 (hbb.symm.trans z)
          · exact h.one i j2 r q2 (Ne.symm z2) e g2 l0 l2 (.of h0 h3) hl2 (h5 hdl) (h4.trans hbb)
      · exact h.one i j2 r q2 (Ne.symm z2) e g2 l l2 hl' hl2 hdl hbb
    · rw [oth j1 z1] at g1
      by_cases z2 : j2 = i
      · rw [z2, mine] at g2
        cases g2
        rcases dom l2 hl2 with z | ⟨l0, h3, h4, _⟩
        · have := A j1 q1 z1 g1 l hl (hbb.trans z)
          rw [this] at hdl
          cases hdl
        · exact h.one j1 i q1 r z1 g1 e l l0 hl h3 hdl (hbb.trans h4.symm)
      · rw [oth j2 z2] at g2
        exact h.one j1 j2 q1 q2 hne g1 g2 l l2 hl hl2 hdl hbb
  · show eff t' c = if c = b then f (pl b) else pl c
    have hc : ∀ q ∈ ha.own.set i (r.put b ls'), ∀ l, InR l q → l.b = c → l.d = false := hc
    cases q : lnOf c ((r.put b ls').ls c) with
    | some l =>
      obtain ⟨h1, h2⟩ := lnOf_mem q
      have hin : InR l (r.put b ls') := .of h0' h1
      have h3 := (R'.c _ (ls_mem h0' c)).1 l h1 (hc _ (List.mem_of_getElem? mine) l hin h2)
      rw [← h2, ← h3]
      exact pl' l hin
    | none =>
      have h1 : effR (r.put b ls') t' c = eff t' c := by
        show effS _ _ c = _
        unfold effS
        rw [q]
      rw [← h1, he, eb]
      split
      · rfl
      · refine h.eff_of e h0 fun j q' zj hg l hl hcl => ?_
        refine hc q' ?_ l hl hcl
        have : (ha.own.set i (r.put b ls'))[j]? = some q' := by
          rw [oth j zj]
          exact hg
        exact List.mem_of_getElem? this
theorem HCoh.id (h : HCoh ha (fun c => if c = i then pl i else pl c)) : HCoh ha pl := by
  have : (fun c => if c = i then pl i else pl c) = pl := by
    funext c
    split
    · rename_i z
      rw [z]
    · rfl
  rw [this] at h
  exact h
/-- a hand that is asked yields -/
theorem HCoh.yieldAt (h : HCoh ha pl) (hk : HaOk n m ha) {b : Nat} (hb : b < 16) (g : Bool) (i : Nat) : HCoh (yieldAt n ha b g i) pl ∧ (∀ j, j ≠ i → (Ww.yieldAt n ha b g i).own[j]? = ha.own[j]?) ∧ (∀ q, (Ww.yieldAt n ha b g i).own[i]? = some q → ∃ r, ha.own[i]? = some r ∧ (∀ l, InR l q → (l.b = b → l.d = false) ∧ (g = true → l.b ≠ b) ∧ ∃ l0, InR l0 r ∧ l0.b = l.b)) := by
  unfold Ww.yieldAt
  cases e : ha.own[i]? with
  | none => exact ⟨h, fun _ _ => rfl, fun q hq => by rw [show ha.own[i]? = none from e] at hq; cases hq⟩
  | some r =>
    have hr := hk.own r (List.mem_of_getElem? e)
    have R := h.rw e hr.s0
    obtain ⟨s1, s2, s3⟩ := R.set hr.s0 b
    obtain ⟨S, sd, sg⟩ := yield_sem (ops_c n) s1 (hr.ls b) s2 hk.t R.t hb g
    have hold : (∃ l, InR l r ∧ l.b = b) ∨ (yieldL (ops n) r.ru (r.ls b) ha.t b g) = (r.ls b, ha.t) := by
      cases q : fnd b (r.ls b) with
      | none =>
        right
        unfold yieldL
        rw [q]
      | some j =>
        obtain ⟨l, hl, hlb, _⟩ := fnd_some q
        exact .inl ⟨l, .of hr.s0 (List.mem_of_getElem? hl), hlb⟩
    have hi := (List.getElem?_eq_some_iff.mp e).1
    refine ⟨?_, fun j z => List.getElem?_set_ne (Ne.symm z), fun q hq => ?_⟩
    · rcases hold with ⟨l, hl, hlb⟩ | hid
      · refine HCoh.id (i := b) (h.step e hr.s0 S (fun hbk l' hl' => ?_) (fun j q z hg l2 hl2 hb2 => ?_) (.inl ⟨fun _ => rfl, fun l' hl' hd' => ⟨l', (sd l' hl' hd').2, rfl, hd'⟩⟩))
        · cases q : l'.d with
          | false => rfl
          | true =>
            have := s3 hbk l' (sd l' hl' q).2
            rw [this] at q
            cases q
        · cases q2 : l2.d with
          | false => rfl
          | true => exact absurd (hb2.trans hlb.symm) (h.one j i q r z hg e l2 l hl2 hl q2)
      · show HCoh ⟨ha.own.set i (r.put b (yieldL (ops n) r.ru (r.ls b) ha.t b g).1), (yieldL (ops n) r.ru (r.ls b) ha.t b g).2⟩ pl
        rw [hid]
        show HCoh ⟨ha.own.set i (r.put b (r.ls b)), ha.t⟩ pl
        rw [put_self hr.s0]
        have : ha.own.set i r = ha.own := by
          apply List.ext_getElem?
          intro j
          by_cases z : i = j
          · subst z
            rw [List.getElem?_set_self hi, e]
          · rw [List.getElem?_set_ne z]
        rw [this]
        exact h
    · have hq : (ha.own.set i (r.put b (yieldL (ops n) r.ru (r.ls b) ha.t b g).1))[i]? = some q := hq
      rw [List.getElem?_set_self hi] at hq
      cases hq
      refine ⟨r, rfl, fun l hl => ?_⟩
      have S' := R.step hr.s0 S (fun hbk l' hl' => by
        cases q : l'.d with
        | false => rfl
        | true =>
          have := s3 hbk l' (sd l' hl' q).2
          rw [this] at q
          cases q)
      have hin : l.b = b → l ∈ (yieldL (ops n) r.ru (r.ls b) ha.t b g).1 := fun z => by
        have := hl.ls S'.1.w
        rw [z, ls_put hr.s0] at this
        exact this
      refine ⟨fun z => ?_, fun hg z => sg hg l (hin z) z, ?_⟩
      · cases q : l.d with
        | false => rfl
        | true => exact absurd z (sd l (hin z) q).1
      · rcases hl.put with hl | hl
        · rcases S.dom l hl with z | ⟨l0, h3, h4, _⟩
          · rcases hold with ⟨l0, h3, h4⟩ | hid
            · exact ⟨l0, h3, h4.trans z.symm⟩
            · rw [hid] at hl
              exact ⟨l, .of hr.s0 hl, rfl⟩
          · exact ⟨l0, .of hr.s0 h3, h4⟩
        · exact ⟨l, hl, rfl⟩
/-- all others asked -/
theorem HCoh.askN (h : HCoh ha pl) (hk : HaOk n m ha) {b : Nat} (hb : b < 16) (hand : Nat) (g : Bool) : ∀ k, HCoh (askN n hand b g k ha) pl ∧ HaOk n m (Ww.askN n hand b g k ha) ∧ (∀ j, k ≤ j ∨ j = hand → (Ww.askN n hand b g k ha).own[j]? = ha.own[j]?) ∧
    ∀ j, j < k → j ≠ hand → ∀ q, (Ww.askN n hand b g k ha).own[j]? = some q → ∃ r, ha.own[j]? = some r ∧ (∀ l, InR l q → (l.b = b → l.d = false) ∧ (g = true → l.b ≠ b) ∧ ∃ l0, InR l0 r ∧ l0.b = l.b)
  | 0 => ⟨h, hk, fun _ _ => rfl, fun j hj => absurd hj (Nat.not_lt_zero _)⟩
  | k + 1 => by
    obtain ⟨h1, h2, h3, h4⟩ := HCoh.askN h hk hb hand g k
    unfold Ww.askN
    split
    · rename_i z
      refine ⟨h1, h2, fun j hj => h3 j (by omega), fun j hj hne => h4 j (by omega) hne⟩
    · rename_i z
      obtain ⟨y1, y2, y3⟩ := h1.yieldAt h2 hb g k
      refine ⟨y1, (yieldAt_ok h2 hb g k).1, fun j hj => ?_, fun j hj hne q hq => ?_⟩
      · rw [y2 j (by omega)]
        exact h3 j (by omega)
      · by_cases ek : j = k
        · subst ek
          obtain ⟨r, g1, g2⟩ := y3 q hq
          rw [h3 j (by omega)] at g1
          exact ⟨r, g1, g2⟩
        · rw [y2 j ek] at hq
          exact h4 j (by omega) hne q hq
theorem HCoh.ask (h : HCoh ha pl) (hk : HaOk n m ha) {b : Nat} (hb : b < 16) (hand : Nat) (g : Bool) : HCoh (ask n ha hand b g) pl ∧ HaOk n m (Ww.ask n ha hand b g) ∧ (Ww.ask n ha hand b g).own[hand]? = ha.own[hand]? ∧
    ∀ j, j ≠ hand → ∀ q, (Ww.ask n ha hand b g).own[j]? = some q → ∃ r, ha.own[j]? = some r ∧ (∀ l, InR l q → (l.b = b → l.d = false) ∧ (g = true → l.b ≠ b) ∧ ∃ l0, InR l0 r ∧ l0.b = l.b) := by
  obtain ⟨h1, h2, h3, h4⟩ := h.askN hk hb hand g ha.own.length
  refine ⟨h1, h2, h3 hand (.inr rfl), fun j hne q hq => ?_⟩
  have hj : j < ha.own.length := by
    have := (List.getElem?_eq_some_iff.mp hq).1
    have e : (Ww.ask n ha hand b g).own.length = m := h2.len
    have e2 := hk.len
    omega
  exact h4 j hj hne q hq
def empty (ha : Ha) (i : Nat) : Prop := ∀ r, ha.own[i]? = some r → ∀ l, ¬ InR l r
/-- a look -/
theorem HCoh.look (h : HCoh ha pl) (hk : HaOk n m ha) {hand p : Nat} (hh : hand < m) (hp : p < 64) :
    HCoh (hLook n ha hand p).2 pl ∧ (hLook n ha hand p).1 = (pl (p / 4)).getD (p % 4) 0 ∧ (∀ i, i ≠ hand → empty ha i → empty (hLook n ha hand p).2 i) ∧ ∀ j, j ≠ hand → ∀ q, (hLook n ha hand p).2.own[j]? = some q → ∀ l, InR l q → l.b = p / 4 → l.d = false := by
  have hb : p / 4 < 16 := by omega
  obtain ⟨a1, a2, a3, a4⟩ := h.ask hk hb hand false
  unfold hLook
  have hlt : hand < ha.own.length := by rw [hk.len]; exact hh
  generalize Ww.ask n ha hand (p / 4) false = hb' at a1 a2 a3 a4 ⊢
  unfold lookAt
  have e : hb'.own[hand]? = some ha.own[hand] := by rw [a3, List.getElem?_eq_getElem hlt]
  rw [e]
  generalize ha.own[hand] = r at e ⊢
  have hr := a2.own r (List.mem_of_getElem? e)
  have R := a1.rw e hr.s0
  obtain ⟨s1, s2, s3⟩ := R.set hr.s0 (p / 4)
  obtain ⟨S, hdirt, hat⟩ := reach_sem (ops_c n) (ops_ok n) hr.ru s1 (hr.ls (p / 4)) s2 a2.t R.t hb rfl
  obtain ⟨_, _, ⟨l, hlg, hlb, hlo⟩, _⟩ := reachL_ok (ops_ok n) hr.ru (hr.ls (p / 4)) a2.t hb
  obtain ⟨_, hns⟩ := hat l hlg
  have A : ∀ (j : Nat) (q : Rm), j ≠ hand → hb'.own[j]? = some q → ∀ l, InR l q → l.b = p / 4 → l.d = false := fun j q z hg l hl hlb => by
    obtain ⟨_, _, g⟩ := a4 j z q hg
    exact (g l hl).1 hlb
  refine ⟨HCoh.id (i := p / 4) (a1.step e hr.s0 S (fun hbk l' hl' => ?_) A (.inl ⟨fun _ => rfl, fun l' hl' hd' => hdirt l' hl' hd'⟩)), ?_, fun i hne hem q hq l' hl' => ?_, fun j hne q hq => ?_⟩
  · cases q : l'.d with
    | false => rfl
    | true =>
      obtain ⟨l0, g1, _, g3⟩ := hdirt l' hl' q
      rw [s3 hbk l0 g1] at g3
      cases g3
  · show (lnAt _ _).ns.getD (p % 4) 0 = _
    rw [lnAt_get hlg, hns]
    have := a1.eff_of e hr.s0 (c := p / 4) fun j q z hg => A j q z hg
    rw [← this]
  · have hq : (hb'.own.set hand _)[i]? = some q := hq
    rw [List.getElem?_set_ne (Ne.symm hne)] at hq
    obtain ⟨r0, g1, g2⟩ := a4 i hne q hq
    obtain ⟨_, _, l0, g3, _⟩ := g2 l' hl'
    exact hem r0 g1 l0 g3
  · have hq : (hb'.own.set hand _)[j]? = some q := hq
    rw [List.getElem?_set_ne (Ne.symm hne)] at hq
    exact A j q hne hq
theorem HCoh.change (h : HCoh ha pl) (hk : HaOk n m ha) {hand p : Nat} (hh : hand < m) (hp : p < 64) (v : Int) :
    HCoh (hChange n ha hand p v) (fun c => if c = p / 4 then (pl (p / 4)).set (p % 4) v else pl c) ∧ (∀ i, i ≠ hand → empty ha i → empty (hChange n ha hand p v) i) ∧ ∀ j, j ≠ hand → ∀ q, (hChange n ha hand p v).own[j]? = some q → ∀ l, InR l q → l.b ≠ p / 4 := by
  have hb : p / 4 < 16 := by omega
  obtain ⟨a1, a2, a3, a4⟩ := h.ask hk hb hand true
  unfold hChange
  have hlt : hand < ha.own.length := by rw [hk.len]; exact hh
  generalize Ww.ask n ha hand (p / 4) true = hb' at a1 a2 a3 a4 ⊢
  unfold changeAt
  have e : hb'.own[hand]? = some ha.own[hand] := by rw [a3, List.getElem?_eq_getElem hlt]
  rw [e]
  generalize ha.own[hand] = r at e ⊢
  have hr := a2.own r (List.mem_of_getElem? e)
  have R := a1.rw e hr.s0
  obtain ⟨s1, s2, s3⟩ := R.set hr.s0 (p / 4)
  obtain ⟨S, sd⟩ := change_sem (ops_c n) (ops_ok n) hr.ru s1 (hr.ls (p / 4)) s2 a2.t R.t hp rfl v s3
  have A : ∀ (j : Nat) (q : Rm), j ≠ hand → hb'.own[j]? = some q → ∀ l, InR l q → l.b ≠ p / 4 := fun j q z hg l hl => by
    obtain ⟨_, _, g⟩ := a4 j z q hg
    exact (g l hl).2.1 rfl
  refine ⟨a1.step e hr.s0 S sd (fun j q z hg l hl hlb => absurd hlb (A j q z hg l hl)) (.inr A), fun i hne hem q hq l' hl' => ?_, fun j hne q hq => ?_⟩
  · have hq : (hb'.own.set hand _)[i]? = some q := hq
    rw [List.getElem?_set_ne (Ne.symm hne)] at hq
    obtain ⟨r0, g1, g2⟩ := a4 i hne q hq
    obtain ⟨_, _, l0, g3, _⟩ := g2 l' hl'
    exact hem r0 g1 l0 g3
  · have hq : (hb'.own.set hand _)[j]? = some q := hq
    rw [List.getElem?_set_ne (Ne.symm hne)] at hq
    exact A j q hne hq
end
/-! ### a new hall -/
theorem mkRm_none {u : Rul} {tl : List V} {l : Ln} : ¬ InR l (mkRm u tl) := by
  rintro ⟨ls, hm, hl⟩
  have : ls = [] := (List.mem_replicate.mp hm).2
  rw [this] at hl
  cases hl
theorem mkRm_w (u : Rul) (tl : List V) : RmW (mkRm u tl) := fun k ls hk => by
  have := (List.mem_replicate.mp (List.mem_of_getElem? hk)).2
  rw [this]
  exact ⟨List.nodup_nil, fun l hl => by cases hl⟩
theorem shRs_w : ∀ (lev : Nat) (us : List Rul) (far : List Int), ChW (shRs lev us) far ∧ ∀ c, effC (shRs lev us) far c = getBlk far c
  | _, [], far => ⟨trivial, fun _ => rfl⟩
  | lev, u :: us, far => by
    obtain ⟨h1, h2⟩ := shRs_w (lev + 1) us far
    refine ⟨⟨mkRm_w u _, fun ls hm => ⟨fun l hl => absurd ⟨ls, hm, hl⟩ mkRm_none, fun _ l hl => absurd ⟨ls, hm, hl⟩ mkRm_none⟩, h1⟩, fun c => ?_⟩
    show effS ((mkRm u [.int lev, .int 0]).ls c) (effC (shRs (lev + 1) us) far) c = _
    have : (mkRm u [.int lev, .int 0]).ls c = [] := by
      unfold Rm.ls
      rw [List.getD_eq_getElem?_getD]
      cases q : (mkRm u [.int lev, .int 0]).ss[(mkRm u [.int lev, .int 0]).ix c]? with
      | none => rfl
      | some x => exact (List.mem_replicate.mp (List.mem_of_getElem? q)).2
    rw [this]
    exact h2 c
theorem hall0_coh (us : List Rul) (m : Nat) : HCoh (hall0 us m) (getBlk (List.replicate 64 0)) ∧ ∀ i, empty (hall0 us m) i := by
  have hno : ∀ r ∈ (hall0 us m).own, ∀ l, ¬ InR l r := fun r hr l => by
    obtain ⟨i, _, rfl⟩ := List.mem_map.mp hr
    exact mkRm_none
  obtain ⟨h1, h2⟩ := shRs_w 1 (us.drop 1) (List.replicate 64 0)
  refine ⟨⟨fun r hr => ?_, fun r hr _ l hl => absurd hl (hno r hr l), h1, fun r hr l hl => absurd hl (hno r hr l), fun i j r q _ hr _ l _ hl => absurd hl (hno r (List.mem_of_getElem? hr) l), fun c _ => h2 c⟩, fun i r hr l => hno r (List.mem_of_getElem? hr) l⟩
  obtain ⟨i, _, rfl⟩ := List.mem_map.mp hr
  exact mkRm_w _ _
-- WwP
/-! ### the hands' lines, one behind the other -/
def linesOf (own : List Rm) : Nat → List (Nat × Ln)
  | 0 => []
  | i + 1 => linesOf own i ++ (match own[i]? with
    | none => []
    | some r => r.ss.flatten.map (Prod.mk i))
theorem linesOf_succ {own : List Rm} {i : Nat} {r : Rm} (e : own[i]? = some r) : linesOf own (i + 1) = linesOf own i ++ r.ss.flatten.map (Prod.mk i) := by
  show linesOf own i ++ _ = _
  rw [e]
theorem linesOf_mem {own : List Rm} : ∀ {i : Nat} {x : Nat × Ln}, x ∈ linesOf own i → ∃ r, own[x.1]? = some r ∧ InR x.2 r ∧ x.1 < i
  | 0, x, h => by cases h
  | i + 1, x, h => by
    rcases List.mem_append.mp h with h | h
    · obtain ⟨r, h1, h2, h3⟩ := linesOf_mem h
      exact ⟨r, h1, h2, by omega⟩
    · cases e : own[i]? with
      | none =>
        rw [e] at h
        cases h
      | some r =>
        rw [e] at h
        obtain ⟨l, hl, rfl⟩ := List.mem_map.mp h
        obtain ⟨ls, hm, hl⟩ := List.mem_flatten.mp hl
        exact ⟨r, e, ⟨ls, hm, hl⟩, by show i < i + 1; omega⟩
theorem flat_le : ∀ {ss : List (List Ln)}, (∀ ls ∈ ss, ls.length ≤ 4) → ss.flatten.length ≤ 4 * ss.length
  | [], _ => by simp
  | ls :: ss, h => by
    have := flat_le (ss := ss) fun l hl => h l (List.mem_cons_of_mem _ hl)
    have := h ls List.mem_cons_self
    simp only [List.flatten_cons, List.length_append, List.length_cons]
    omega
theorem rm_flat {r : Rm} (h : RmOk r) : r.ss.flatten.length ≤ 16 := by
  have := flat_le (ss := r.ss) fun ls hl => by
    have := (h.ln ls hl).len
    have := h.ru.w4
    omega
  have := h.s4
  omega
theorem linesOf_len {own : List Rm} (h : ∀ r ∈ own, RmOk r) : ∀ i, (linesOf own i).length ≤ 16 * i
  | 0 => by simp [linesOf]
  | i + 1 => by
    have ih := linesOf_len h i
    cases e : own[i]? with
    | none =>
      show (linesOf own i ++ _).length ≤ _
      rw [e, List.append_nil]
      omega
    | some r =>
      have := rm_flat (h r (List.mem_of_getElem? e))
      rw [linesOf_succ e, List.length_append, List.length_map]
      omega
theorem flat_nodup {s : Nat} : ∀ (off : Nat) {ss : List (List Ln)}, (∀ k ls, ss[k]? = some ls → SetW s (off + k) ls) → (ss.flatten.map (·.b)).Nodup
  | _, [], _ => List.nodup_nil
  | off, ls :: ss, h => by
    have h0 := h 0 ls rfl
    have ht := flat_nodup (off + 1) (ss := ss) fun k l hl => by
      have := h (k + 1) l (by simpa using hl)
      rwa [show off + 1 + k = off + (k + 1) by omega]
    rw [List.flatten_cons, List.map_append]
    refine List.nodup_append.mpr ⟨h0.nd, ht, fun a ha b hb e => ?_⟩
    obtain ⟨l, hl, rfl⟩ := List.mem_map.mp ha
    obtain ⟨l2, hl2, rfl⟩ := List.mem_map.mp hb
    obtain ⟨ls2, hm2, hl2⟩ := List.mem_flatten.mp hl2
    obtain ⟨k, hk, ek⟩ := List.mem_iff_getElem.mp hm2
    have g : ss[k]? = some ls2 := by rw [List.getElem?_eq_getElem hk, ek]
    have a1 := h0.ix l hl
    have a2 := (h (k + 1) ls2 (by simpa using g)).ix l2 hl2
    have e : l.b = l2.b := e
    rw [e] at a1
    omega
theorem rm_nodup {r : Rm} (w : RmW r) : (r.ss.flatten.map (·.b)).Nodup := flat_nodup (s := r.ss.length) 0 fun k ls hk => by
  rw [Nat.zero_add]
  exact w k ls hk
def dirtyB (L : List (Nat × Ln)) : List Int := (L.filter (·.2.d)).map fun x => (x.2.b : Int)
theorem dirtyB_nodup {ha : Ha} {pl : Nat → List Int} (h : HCoh ha pl) : ∀ i, (dirtyB (linesOf ha.own i)).Nodup
  | 0 => List.nodup_nil
  | i + 1 => by
    have ih := dirtyB_nodup h i
    cases e : ha.own[i]? with
    | none =>
      have : linesOf ha.own (i + 1) = linesOf ha.own i := by
        show linesOf ha.own i ++ _ = _
        rw [e, List.append_nil]
      rw [this]
      exact ih
    | some r =>
      rw [linesOf_succ e]
      unfold dirtyB
      rw [List.filter_append, List.map_append]
      refine List.nodup_append.mpr ⟨ih, ?_, fun a ha b hb eq => ?_⟩
      · rw [List.filter_map, List.map_map]
        have : ((fun x : Nat × Ln => (x.2.b : Int)) ∘ Prod.mk i) = ((fun n : Nat => (n : Int)) ∘ fun l : Ln => l.b) := rfl
        rw [this, ← List.map_map]
        refine List.Pairwise.map _ (S := fun a b : Int => a ≠ b) (R := fun a b : Nat => a ≠ b) (fun a b hab z => hab (Int.ofNat.inj z)) ?_
        exact List.Nodup.sublist (List.filter_sublist.map _) (rm_nodup (h.w r (List.mem_of_getElem? e)))
      · obtain ⟨x, hx, rfl⟩ := List.mem_map.mp ha
        obtain ⟨y, hy, rfl⟩ := List.mem_map.mp hb
        obtain ⟨hx1, hx2⟩ := List.mem_filter.mp hx
        obtain ⟨hy1, hy2⟩ := List.mem_filter.mp hy
        obtain ⟨l, hl, rfl⟩ := List.mem_map.mp hy1
        obtain ⟨ls, hm, hl⟩ := List.mem_flatten.mp hl
        obtain ⟨q, g1, g2, g3⟩ := linesOf_mem hx1
        have eq : (x.2.b : Int) = (l.b : Int) := eq
        exact h.one x.1 i q r (by omega) g1 e x.2 l g2 ⟨ls, hm, hl⟩ hx2 (by omega)
def LnsAt (N : List Cell) : List Addr → List (Nat × Ln) → Prop
  | [], [] => True
  | a :: as, x :: xs => (∃ na, (a, HO.tup [.int x.1, .int x.2.b, .ref na, .bl x.2.d]) ∈ N ∧ (na, HO.tup (x.2.ns.map V.int)) ∈ N) ∧ LnsAt N as xs
  | _, _ => False
theorem LnsAt.len {N : List Cell} : ∀ {as : List Addr} {xs : List (Nat × Ln)}, LnsAt N as xs → as.length = xs.length
  | [], [], _ => rfl
  | [], _ :: _, h => h.elim
  | _ :: _, [], h => h.elim
  | _ :: _, _ :: _, h => congrArg (· + 1) (LnsAt.len h.2)
theorem LnsAt.get {N : List Cell} : ∀ {as : List Addr} {xs : List (Nat × Ln)} {i : Nat} {a : Addr}, LnsAt N as xs → as[i]? = some a → ∃ x, xs[i]? = some x ∧ ∃ na, (a, HO.tup [.int x.1, .int x.2.b, .ref na, .bl x.2.d]) ∈ N ∧ (na, HO.tup (x.2.ns.map V.int)) ∈ N
  | [], _, i, a, _, e => by simp at e
  | _ :: _, [], _, _, h, _ => h.elim
  | b :: as, u :: us, 0, a, h, e => by
    simp at e
    subst e
    exact ⟨u, rfl, h.1⟩
  | b :: as, u :: us, i + 1, a, h, e => by
    obtain ⟨v, h1, h2⟩ := LnsAt.get (i := i) (a := a) h.2 (by simpa using e)
    exact ⟨v, by simpa using h1, h2⟩
theorem LnsAt.mono {N N' : List Cell} (hs : ∀ c ∈ N, c ∈ N') : ∀ {as : List Addr} {xs : List (Nat × Ln)}, LnsAt N as xs → LnsAt N' as xs
  | [], [], _ => trivial
  | [], _ :: _, h => h.elim
  | _ :: _, [], h => h.elim
  | _ :: _, _ :: _, h => ⟨let ⟨na, h1, h2⟩ := h.1; ⟨na, hs _ h1, hs _ h2⟩, LnsAt.mono hs h.2⟩
theorem LnsAt.app {N : List Cell} : ∀ {as bs : List Addr} {xs ys : List (Nat × Ln)}, LnsAt N as xs → LnsAt N bs ys → LnsAt N (as ++ bs) (xs ++ ys)
  | [], _, [], _, _, k => k
  | [], _, _ :: _, _, h, _ => h.elim
  | _ :: _, _, [], _, h, _ => h.elim
  | _ :: _, _, _ :: _, _, h, k => ⟨h.1, LnsAt.app h.2 k⟩
theorem DpL.lnI {N : List Cell} {v : V} {l : Ln} (h : DpL N v (lnD l)) : ∃ p na, v = .ref p ∧ (p, HO.tup [.int l.b, .ref na, .bl l.d]) ∈ N ∧ (na, HO.tup (l.ns.map V.int)) ∈ N := by
  obtain ⟨p, vs, rfl, h1, h2⟩ := h.tupI
  cases h2 with
  | cons a h2 =>
    cases h2 with
    | cons b h2 =>
      cases h2 with
      | cons c h2 =>
        cases h2
        cases a
        cases c
        obtain ⟨na, ws, rfl, h3, h4⟩ := b.tupI
        rw [h4.intsI] at h3
        exact ⟨p, na, rfl, h1, h3⟩
def dCells (cs : List Int) : Deed → List Int
  | .look _ _ => cs
  | .set _ p v => cs.set p v
theorem dCells_len {cs : List Int} {d : Deed} : (dCells cs d).length = cs.length := by
  cases d with
  | look => rfl
  | set h p v => exact List.length_set
theorem deed_coh {n m : Nat} {ha : Ha} {cs : List Int} {d : Deed} (h : HCoh ha (getBlk cs)) (hk : HaOk n m ha) (hcs : cs.length = 64) (hd : d.ok m) :
    HCoh (doDeed n ha d).2 (getBlk (dCells cs d)) ∧ (∀ i, i ≠ d.h → empty ha i → empty (doDeed n ha d).2 i) ∧
      ∀ j, j ≠ d.h → ∀ q, (doDeed n ha d).2.own[j]? = some q → ∀ l, InR l q → l.b = d.p / 4 → l.d = false ∧ ∃ h p, d = .look h p := by
  cases d with
  | look hh p =>
    obtain ⟨h1, _, h3, h4⟩ := h.look hk hd.1 hd.2
    exact ⟨h1, h3, fun j hj q hq l hl hb => ⟨h4 j hj q hq l hl hb, hh, p, rfl⟩⟩
  | set hh p v =>
    obtain ⟨h1, h3, h4⟩ := h.change hk hd.1 hd.2.1 v
    refine ⟨?_, h3, fun j hj q hq l hl hb => absurd hb (h4 j hj q hq l hl)⟩
    have : (fun c => if c = p / 4 then (getBlk cs (p / 4)).set (p % 4) v else getBlk cs c) = getBlk (cs.set p v) := by
      funext c
      rw [cell_get hcs hd.2.1 v c]
      split
      · rename_i z
        rw [z]
      · rfl
    rw [this] at h1
    exact h1
theorem cut_blk {cs : List Int} (h : cs.length = 64) {b : Nat} (hb : b < 16) : cutV (cs.map V.int) (some ((4 : Int) * (b : Int))) (some ((4 : Int) * (b : Int) + 4)) = (getBlk cs b).map V.int := by
  have e1 : (4 : Int) * (b : Int) = ((b * 4 : Nat) : Int) := by omega
  have e2 : (4 : Int) * (b : Int) + 4 = ((b * 4 + 4 : Nat) : Int) := by omega
  rw [e2, e1, cutV_nat (by omega) (by rw [List.length_map]; omega)]
  unfold getBlk
  rw [List.map_take, List.map_drop]
  congr 1
  omega
theorem fnOr {P : Program} {w : World} {K : PySem.W.Frag} {mg : Str → Option Value} {base : Heap} {CX : CXT} {k : Nat} {f : Addr} {fd : FuncData} {ps : List Str} {sp sp' : Sp} (F : FnOk P w K mg base CX k f fd ps sp) (G : FnOk P w K mg base CX k f fd ps sp') :
    FnOk P w K mg base CX k f fd ps (fun vs H Q E => sp vs H Q E ∨ sp' vs H Q E) :=
  ⟨fun vs H Q E h => h.elim (F.len vs H Q E) (G.len vs H Q E), fun A outer s H args us vs Q E hr he hb hv hs => hs.elim (F.run A outer s H args us vs Q E hr he hb hv) (G.run A outer s H args us vs Q E hr he hb hv)⟩
theorem Deed.at1 (d : Deed) : atI d.vs 1 = some (.int d.h) := by cases d <;> rfl
theorem Deed.at2 (d : Deed) : atI d.vs 2 = some (.int d.p) := by cases d <;> rfl
theorem DeedsAt.mono {R R' : List Cell} {p : Addr} {ds : List Deed} (h : DeedsAt R p ds) (hs : ∀ c ∈ R, c ∈ R') : DeedsAt R' p ds := by
  obtain ⟨as, h1, h2⟩ := h
  exact ⟨as, hs _ h1, h2.mono hs⟩
theorem DeedsAt.get {R : List Cell} {p : Addr} {ds : List Deed} (h : DeedsAt R p ds) : ∃ as : List Addr, as.length = ds.length ∧ (p, HO.lst (as.map V.ref)) ∈ R ∧ ∀ {i : Nat} {x : V}, (as.map V.ref)[i]? = some x → ∃ (a : Addr) (d : Deed), x = .ref a ∧ as[i]? = some a ∧ ds[i]? = some d ∧ (a, HO.tup d.vs) ∈ R := by
  obtain ⟨as, h1, h2⟩ := h
  refine ⟨as, by have := h2.len; rwa [List.length_map] at this, h1, fun {i x} hi => ?_⟩
  rw [List.getElem?_map] at hi
  cases e : as[i]? with
  | none =>
    rw [e] at hi
    cases hi
  | some a =>
    rw [e] at hi
    obtain ⟨u, hu1, hu2⟩ := h2.get e
    rw [List.getElem?_map] at hu1
    cases e2 : ds[i]? with
    | none =>
      rw [e2] at hu1
      cases hu1
    | some d =>
      rw [e2] at hu1
      have : d.vs = u := Option.some.inj hu1
      subst this
      exact ⟨a, d, (Option.some.inj hi).symm, rfl, rfl, hu2⟩
-- WwS
/-! ### settling -/
section
variable {o : Ops} {u : Ru}
theorem settleL_app : ∀ (a b : List Ln) (t : Ta), settleL o u (a ++ b) t = ((settleL o u a t).1 ++ (settleL o u b (settleL o u a t).2).1, (settleL o u b (settleL o u a t).2).2)
  | [], b, t => rfl
  | l :: a, b, t => by
    have ih := settleL_app a b (if l.d = true then passH o u.tl t l.b l.ns else t)
    show (_ :: (settleL o u (a ++ b) _).1, (settleL o u (a ++ b) _).2) = _
    rw [ih]
    rfl
theorem settleS_app : ∀ (a b : List (List Ln)) (t : Ta), settleS o u (a ++ b) t = ((settleS o u a t).1 ++ (settleS o u b (settleS o u a t).2).1, (settleS o u b (settleS o u a t).2).2)
  | [], b, t => rfl
  | l :: a, b, t => by
    have ih := settleS_app a b (settleL o u l t).2
    show (_ :: (settleS o u (a ++ b) _).1, (settleS o u (a ++ b) _).2) = _
    rw [ih]
    rfl
theorem settleL_fst : ∀ (ls : List Ln) (t : Ta), (settleL o u ls t).1 = ls.map fun l => { l with d := false }
  | [], t => rfl
  | l :: r, t => by
    show _ :: (settleL o u r _).1 = _
    rw [settleL_fst r]
    rfl
theorem settleS_fst : ∀ (ss : List (List Ln)) (t : Ta), (settleS o u ss t).1 = ss.map fun ls => ls.map fun l => { l with d := false }
  | [], t => rfl
  | ls :: r, t => by
    show (settleL o u ls t).1 :: (settleS o u r _).1 = _
    rw [settleS_fst r, settleL_fst]
    rfl
end
def cleanR (r : Rm) : Rm := { r with ss := r.ss.map fun ls => ls.map fun l => { l with d := false } }
def settleR (n : Nat) (r : Rm) (t : Ta) : Rm × Ta := (cleanR r, (settleS (ops n) r.ru r.ss t).2)
theorem settleS_ok {n g : Nat} {o : Ops} {u : Ru} (O : OpsOk n g o) : ∀ {ss : List (List Ln)} {t : Ta}, (∀ ls ∈ ss, ls.length ≤ 4 ∧ ∀ l ∈ ls, LnOk l) → TaOk n t → TaOk n (settleS o u ss t).2 ∧ (settleS o u ss t).2.log.length ≤ t.log.length + 4 * ss.length * (g + 1)
  | [], t, _, h => ⟨h, by show t.log.length ≤ _; omega⟩
  | ls :: r, t, hs, h => by
    obtain ⟨h1, h2⟩ := hs ls List.mem_cons_self
    obtain ⟨_, _, s3, s4⟩ := settleL_ok (u := u) O h2 h
    obtain ⟨i1, i2⟩ := settleS_ok (u := u) O (ss := r) (fun l hl => hs l (List.mem_cons_of_mem _ hl)) s3
    refine ⟨i1, ?_⟩
    show (settleS o u r (settleL o u ls t).2).2.log.length ≤ _
    have e : ls.length * (g + 1) ≤ 4 * (g + 1) := Nat.mul_le_mul_right _ h1
    have e2 : 4 * (ls :: r).length * (g + 1) = 4 * r.length * (g + 1) + 4 * (g + 1) := by
      rw [List.length_cons, show 4 * (r.length + 1) = 4 * r.length + 4 by omega, Nat.add_mul]
    omega
theorem settleR_ok {n : Nat} {r : Rm} {t : Ta} (hr : RmOk r) (h : TaOk n t) (hn : n ≤ 2) : RmOk (settleR n r t).1 ∧ TaOk n (settleR n r t).2 ∧ (settleR n r t).2.log.length ≤ t.log.length + 208 := by
  obtain ⟨h1, h2⟩ := settleS_ok (u := r.ru) (ops_ok n) (ss := r.ss) (fun ls hl => ⟨by have := (hr.ln ls hl).len; have := hr.ru.w4; omega, (hr.ln ls hl).ok⟩) h
  refine ⟨⟨?_, ?_, hr.ru, fun ls hl => ?_⟩, h1, ?_⟩
  · show 0 < (r.ss.map _).length
    rw [List.length_map]
    exact hr.s0
  · show (r.ss.map _).length ≤ 4
    rw [List.length_map]
    exact hr.s4
  · obtain ⟨ls0, h0, rfl⟩ := List.mem_map.mp hl
    refine ⟨by rw [List.length_map]; exact (hr.ln ls0 h0).len, fun l hl => ?_⟩
    obtain ⟨l0, hl0, rfl⟩ := List.mem_map.mp hl
    have := (hr.ln ls0 h0).ok l0 hl0
    exact ⟨this.b, this.ns⟩
  · show (settleS (ops n) r.ru r.ss t).2.log.length ≤ _
    have := g12 hn
    have := hr.s4
    have e : 4 * r.ss.length * (gOf n + 1) ≤ 16 * 13 := Nat.mul_le_mul (by omega) (by omega)
    omega
def spRSettle (K : PySem.W.Frag) : Sp := fun vs H Q _ => ∃ (n : Nat) (a : Addr) (be : Pa) (di : Addr) (r : Rm) (t : Ta) (C1 C D R : List Cell), vs = [.ref a] ∧ n ≤ 2 ∧ RmOk r ∧ TaOk n t ∧ t.log.length ≤ 990000 ∧ RmRepK K di a be r C1 ∧ RepK K di be t.rs t.far C ∧ DRep di t.log D ∧ Own H (C1 ++ (C ++ (D ++ R))) ∧
  ∀ H' : Hp, RPost K di a be R (settleR n r t).1 (settleR n r t).2 H' → Q .non H'
section
variable {P : Program} {w : World} {K : PySem.W.Frag} {mg : Str → Option Value} {base : Heap} {n lv : Nat}
theorem get_mid {α : Type} {a b : List α} {i : Nat} (h : a.length = i) : (a ++ b)[i]? = b[0]? := by
  rw [List.getElem?_append_right (by omega), h, Nat.sub_self]
theorem ok_R_settle (T : Txt K mg) : FnOk P w K mg base CX0 12 (He.fAd K ("Room", some "settle")) T.fd_Room_settle ["self"] (spRSettle K) := by
  refine okOf T.F_Room_settle sc_Room_settle (fun vs H Q E h => ?_) (fun cdv A outer s H vs Q E hr h => ?_)
  · obtain ⟨_, _, _, _, _, _, _, _, _, _, rfl, _⟩ := h
    rfl
  · obtain ⟨n, a, be, di, r, t, C1, C, D, R, rfl, hn, hrm, ht, hlg, ⟨hd, ss, rfl, rfl, rfl, eu, esas, ess, rfl⟩, hC, hD, O, k⟩ := h
    have G_Room_pass_home := ok_pass_home T (behN (P := P) (w := w) (base := base) T n) (by show 1 ≤ 4 * n + 1; omega)
    have hlv : lvOf n = 4 * n + 1 := rfl
    refine ⟨_, (pss_one (ps_for PassesOwn.never rfl (pi_list (pe_fld (pv 0) rfl)) (pg_name (i := 1) sc_Room_settle.nd rfl (Or.inl rfl)) (pss_one (ps_for PassesOwn.never rfl (pi_list (pv 1)) (pg_name (i := 2) sc_Room_settle.nd rfl (Or.inl rfl)) (pss_one (ps_if (pt_val (pe_fld (pv 2) rfl)) (pss_one (ps_expr (pe_meth (pv 0) T.cl_Room T.m_Room_pass_home G_Room_pass_home (hr.mono (by omega)) T.b_Room_pass_home .nil pass0 (pa_cons (pv 2) pa_nil)))) pss_nil)))))), ?_⟩
    have hlen : ss.length = r.ss.length := by rw [ess, List.length_map]
    have hs4 := hrm.s4
    have hsa : hd.sas.map V.ref = ss.map fun s => V.ref s.1 := by rw [esas, List.map_map]; rfl
    refine ⟨_, rfl, hd.a, cR K, hd.dx, _, _, rfl, O.a0, T.cl_Room, T.na_Room_sets, lk_Room_sets, hd.sl, rfl, ⟨_, SqL.of O.a1⟩, ?_⟩
    have hls : ∀ ls ∈ r.ss, ls.length ≤ 4 ∧ ∀ l ∈ ls, LnOk l := fun ls hl => ⟨by have := (hrm.ln ls hl).len; have := hrm.ru.w4; omega, (hrm.ln ls hl).ok⟩
    have hg := g12 hn
    have hts : ∀ i, TaOk n (settleS (ops n) r.ru (r.ss.take i) t).2 ∧ (settleS (ops n) r.ru (r.ss.take i) t).2.log.length ≤ t.log.length + 208 := fun i => by
      obtain ⟨h1, h2⟩ := settleS_ok (u := r.ru) (ops_ok n) (ss := r.ss.take i) (fun ls hl => hls ls (List.mem_of_mem_take hl)) ht
      refine ⟨h1, ?_⟩
      have e : 4 * (r.ss.take i).length * (gOf n + 1) ≤ 16 * 13 := Nat.mul_le_mul (by rw [List.length_take]; omega) (by omega)
      omega
    refine for_list (K := K) (a := hd.sl) (xs := hd.sas.map V.ref) (fun i σ H' => (∃ v1 v2, σ = [some (.ref hd.a), v1, v2]) ∧ ∃ (ss' : List (Addr × List LnA)) (C' D' : List Cell), ss'.map (·.1) = hd.sas ∧ ss'.map (fun s => s.2.map (·.l)) = (settleS (ops n) r.ru (r.ss.take i) t).1 ++ r.ss.drop i ∧
        RepK K hd.di hd.be (settleS (ops n) r.ru (r.ss.take i) t).2.rs (settleS (ops n) r.ru (r.ss.take i) t).2.far C' ∧ DRep hd.di (settleS (ops n) r.ru (r.ss.take i) t).2.log D' ∧ Own H' (hdC (cR K) hd ++ (stsC (cL K) ss' ++ (C' ++ (D' ++ R)))))
      ⟨⟨_, _, rfl⟩, ss, C, D, esas.symm, ess.symm, hC, hD, O.perm (by walk_at "perm")⟩ (fun i σ H' _ ⟨_, _, _, _, _, _, _, _, O'⟩ => SqL.of O'.a1) ?_ ?_
    · rintro i x σ H1 hi ⟨⟨v1, v2, rfl⟩, ss', C', D', es1, es2, hC', hD', O1⟩
      have hsl : ss'.length = r.ss.length := by
        have := congrArg List.length es1
        rw [List.length_map, esas, List.length_map] at this
        omega
      have hil : i < ss'.length := by
        have := (List.getElem?_eq_some_iff.mp hi).1
        rw [← es1, List.length_map, List.length_map] at this
        exact this
      obtain ⟨s, hs⟩ : ∃ s, ss'[i]? = some s := ⟨_, List.getElem?_eq_getElem hil⟩
      have hx : x = .ref s.1 := by
        rw [← es1, List.getElem?_map, List.getElem?_map, hs] at hi
        exact (Option.some.inj hi).symm
      subst hx
      obtain ⟨ls0, hls0⟩ : ∃ ls0, r.ss[i]? = some ls0 := ⟨_, List.getElem?_eq_getElem (by omega)⟩
      have els0 : s.2.map (·.l) = ls0 := by
        have e := congrArg (fun z : List (List Ln) => z[i]?) es2
        rw [List.getElem?_map, hs, get_mid (by rw [settleS_fst, List.length_map, List.length_take]; omega), List.getElem?_drop, Nat.add_zero, hls0] at e
        exact Option.some.inj e
      obtain ⟨hl4, hlok⟩ := hls ls0 (List.mem_of_getElem? hls0)
      obtain ⟨ht1, hlg1⟩ := hts i
      have es3 : r.ss.take (i + 1) = r.ss.take i ++ [ls0] := take_snoc hls0
      have hnext : settleS (ops n) r.ru (r.ss.take (i + 1)) t = ((settleS (ops n) r.ru (r.ss.take i) t).1 ++ [(settleL (ops n) r.ru ls0 (settleS (ops n) r.ru (r.ss.take i) t).2).1], (settleL (ops n) r.ru ls0 (settleS (ops n) r.ru (r.ss.take i) t).2).2) := by
        rw [es3, settleS_app]
        rfl
      rw [hnext]
      have hf1 : (settleS (ops n) r.ru (r.ss.take i) t).1 = (r.ss.take i).map fun ls => ls.map fun l => { l with d := false } := settleS_fst _ _
      generalize (settleS (ops n) r.ru (r.ss.take i) t).2 = t1 at ht1 hlg1 hC' hD' ⊢
      have O2 := O1.perm (L' := hdC (cR K) hd ++ (stC (cL K) s ++ (C' ++ (D' ++ (stsC (cL K) (ss'.eraseIdx i) ++ R))))) (by
        refine (List.Perm.append_left _ (List.Perm.append_right _ (sts_focus hs))).trans ?_
        walk_at "perm")
      have hlt : ∀ j, TaOk n (settleL (ops n) r.ru (ls0.take j) t1).2 ∧ (settleL (ops n) r.ru (ls0.take j) t1).2.log.length ≤ t1.log.length + 52 := fun j => by
        obtain ⟨_, _, h3, h4⟩ := settleL_ok (u := r.ru) (ops_ok n) (ls := ls0.take j) (fun l hl => hlok l (List.mem_of_mem_take hl)) ht1
        refine ⟨h3, ?_⟩
        have e : (ls0.take j).length * (gOf n + 1) ≤ 4 * 13 := Nat.mul_le_mul (by rw [List.length_take]; omega) (by omega)
        omega
      refine ⟨_, rfl, s.1, rfl, ⟨_, SqL.of O2.a3⟩, ?_⟩
      refine for_list (K := K) (a := s.1) (xs := s.2.map fun l => V.ref l.a) (fun j σ H' => (∃ v2, σ = [some (.ref hd.a), some (.ref s.1), v2]) ∧ ∃ (ls' : List LnA) (C' D' : List Cell), ls'.map (·.a) = s.2.map (·.a) ∧ ls'.map (·.l) = (settleL (ops n) r.ru (ls0.take j) t1).1 ++ ls0.drop j ∧
          RepK K hd.di hd.be (settleL (ops n) r.ru (ls0.take j) t1).2.rs (settleL (ops n) r.ru (ls0.take j) t1).2.far C' ∧ DRep hd.di (settleL (ops n) r.ru (ls0.take j) t1).2.log D' ∧ Own H' (hdC (cR K) hd ++ (stC (cL K) (s.1, ls') ++ (C' ++ (D' ++ (stsC (cL K) (ss'.eraseIdx i) ++ R))))))
        ⟨⟨_, rfl⟩, s.2, C', D', rfl, els0, hC', hD', O2⟩ (fun j σ H' _ ⟨_, ls', _, _, ea, _, _, _, O'⟩ => by
          have e : (s.2.map fun l => V.ref l.a) = ls'.map fun l => V.ref l.a := by
            have := congrArg (List.map V.ref) ea
            rw [List.map_map, List.map_map] at this
            exact this.symm
          rw [e]
          exact SqL.of O'.a3) ?_ ?_
      · rintro j y σ H2 hj ⟨⟨v2, rfl⟩, ls', C2, D2, ea, el, hC2, hD2, O3⟩
        have hll : ls'.length = ls0.length := by
          have := congrArg List.length ea
          rw [List.length_map, List.length_map] at this
          rw [this, ← els0, List.length_map]
        have hjl : j < ls'.length := by
          have := (List.getElem?_eq_some_iff.mp hj).1
          rw [List.length_map] at this
          have e2 := congrArg List.length els0
          rw [List.length_map] at e2
          omega
        obtain ⟨l, hl⟩ : ∃ l, ls'[j]? = some l := ⟨_, List.getElem?_eq_getElem hjl⟩
        have hy : y = .ref l.a := by
          have e : (s.2.map fun l => V.ref l.a) = (ls'.map (·.a)).map V.ref := by
            rw [ea, List.map_map]
            rfl
          rw [e, List.getElem?_map, List.getElem?_map, hl] at hj
          exact (Option.some.inj hj).symm
        subst hy
        have hl0 : ls0[j]? = some l.l := by
          have e := congrArg (fun z : List Ln => z[j]?) el
          rw [List.getElem?_map, hl, get_mid (by rw [settleL_fst, List.length_map, List.length_take]; omega), List.getElem?_drop, Nat.add_zero] at e
          exact e.symm
        have hlo := hlok l.l (List.mem_of_getElem? hl0)
        obtain ⟨ht2, hlg2⟩ := hlt j
        have hnx : settleL (ops n) r.ru (ls0.take (j + 1)) t1 = ((settleL (ops n) r.ru (ls0.take j) t1).1 ++ [{ l.l with d := false }], if l.l.d = true then passH (ops n) r.ru.tl (settleL (ops n) r.ru (ls0.take j) t1).2 l.l.b l.l.ns else (settleL (ops n) r.ru (ls0.take j) t1).2) := by
          rw [take_snoc hl0, settleL_app]
          rfl
        rw [hnx]
        have hf2 : ((settleL (ops n) r.ru (ls0.take j) t1).1).length = j := by
          rw [settleL_fst, List.length_map, List.length_take]
          omega
        have hdr : ls0.drop j = l.l :: ls0.drop (j + 1) := by
          have hjl0 : j < ls0.length := by omega
          rw [List.drop_eq_getElem_cons hjl0]
          congr 1
          rw [List.getElem?_eq_getElem hjl0] at hl0
          exact Option.some.inj hl0
        rw [hdr] at el
        generalize (settleL (ops n) r.ru (ls0.take j) t1).1 = done at el hf2 ⊢
        generalize (settleL (ops n) r.ru (ls0.take j) t1).2 = t2 at ht2 hlg2 hC2 hD2 ⊢
        have O4 := O3.perm (L' := hdC (cR K) hd ++ (lnC (cL K) l ++ (((s.1, .lst (ls'.map fun l => V.ref l.a)) :: lnsC (cL K) (ls'.eraseIdx j)) ++ (C2 ++ (D2 ++ (stsC (cL K) (ss'.eraseIdx i) ++ R)))))) (by
          refine (List.Perm.append_left _ (List.Perm.append_right _ (st_focus hl))).trans ?_
          walk_at "perm")
        refine ⟨_, rfl, l.a, cL K, l.dx, _, _, rfl, O4.a3, T.cl_Line, T.na_Line_is_dirty, lk_Line_is_dirty, _, rfl, ?_⟩
        cases ed : l.l.d with
        | false =>
          refine iteF ⟨⟨_, rfl⟩, ls', C2, D2, ea, ?_, hC2, hD2, O3⟩
          have e : ({ l.l with d := false } : Ln) = l.l := by
            cases el0 : l.l with
            | mk b ns d =>
              rw [el0] at ed
              have ed : d = false := ed
              rw [ed]
          rw [e, el, List.append_assoc]
          rfl
        | true =>
          refine iteT ⟨_, rfl, hd.a, hd.dx, _, rfl, O4.a0, no_Room_pass_home, _, rfl, hd, l, t2, C2, D2, ((s.1, .lst (ls'.map fun l => V.ref l.a)) :: lnsC (cL K) (ls'.eraseIdx j)) ++ (stsC (cL K) (ss'.eraseIdx i) ++ R), rfl, hlo, by rw [eu]; exact hrm.ru, ht2, ⟨by omega, by omega⟩, hC2, hD2, O4.perm (by walk_at "perm"), fun H3 C3 D3 hC3 hD3 O5 => ?_⟩
          refine ⟨⟨_, rfl⟩, ls'.set j { l with l := { l.l with d := false } }, C3, D3, ?_, ?_, by rw [← eu]; exact hC3, by rw [← eu]; exact hD3, O5.perm ?_⟩
          · rw [← ea, List.map_set]
            apply List.ext_getElem?
            intro m
            by_cases z : j = m
            · subst z
              rw [List.getElem?_set_self (by rw [List.length_map]; exact hjl), List.getElem?_map, hl]
              rfl
            · rw [List.getElem?_set_ne z]
          · rw [List.map_set, el]
            show (done ++ l.l :: ls0.drop (j + 1)).set j { l.l with d := false } = _
            rw [List.set_append_right _ _ (by omega), hf2, Nat.sub_self, List.append_assoc]
            rfl
          · refine List.Perm.trans ?_ (List.Perm.append_left _ (List.Perm.append_right _ (st_back (CL := cL K) (sa := s.1) (l' := { l with l := { l.l with d := false } }) hl rfl)))
            walk_at "perm"
      · rintro σ H2 ⟨⟨v2, rfl⟩, ls', C2, D2, ea, el, hC2, hD2, O3⟩
        have hll : (s.2.map fun l => V.ref l.a).length = ls0.length := by
          rw [List.length_map, ← els0, List.length_map]
        rw [hll, List.take_length, List.drop_length, List.append_nil] at el
        rw [hll, List.take_length] at hC2 hD2
        refine ⟨⟨_, _, rfl⟩, ss'.set i (s.1, ls'), C2, D2, ?_, ?_, hC2, hD2, O3.perm ?_⟩
        · rw [← es1, List.map_set]
          apply List.ext_getElem?
          intro m
          by_cases z : i = m
          · subst z
            rw [List.getElem?_set_self (by rw [List.length_map]; exact hil), List.getElem?_map, hs]
            rfl
          · rw [List.getElem?_set_ne z]
        · rw [List.map_set, es2]
          show ((settleS (ops n) r.ru (r.ss.take i) t).1 ++ r.ss.drop i).set i (ls'.map (·.l)) = _
          have hli : (settleS (ops n) r.ru (r.ss.take i) t).1.length = i := by
            rw [settleS_fst, List.length_map, List.length_take]
            omega
          rw [List.set_append_right _ _ (by omega), hli, Nat.sub_self, List.append_assoc, el]
          have hdr : r.ss.drop i = ls0 :: r.ss.drop (i + 1) := by
            have hil0 : i < r.ss.length := by omega
            rw [List.drop_eq_getElem_cons hil0]
            congr 1
            rw [List.getElem?_eq_getElem hil0] at hls0
            exact Option.some.inj hls0
          rw [hdr]
          rfl
        · refine List.Perm.trans ?_ (List.Perm.append_left _ (List.Perm.append_right _ (sts_set (CL := cL K) (s := (s.1, ls')) hil).symm))
          walk_at "perm"
    · rintro σ H1 ⟨⟨v1, v2, rfl⟩, ss', C', D', es1, es2, hC', hD', O1⟩
      have e1 : (hd.sas.map V.ref).length = r.ss.length := by
        rw [List.length_map, esas, List.length_map]
        exact hlen
      rw [e1, List.take_length, List.drop_length, List.append_nil, settleS_fst] at es2
      rw [e1, List.take_length] at hC' hD'
      exact k H1 ⟨hdC (cR K) hd ++ stsC (cL K) ss', C', D', ⟨hd, ss', rfl, rfl, rfl, eu, es1.symm, es2.symm, rfl⟩, hC', hD', O1.perm (by walk_at "perm")⟩
end
-- WwS2
/-! ### a hall settles -/
def ownT (n : Nat) : List Rm → Ta → Ta
  | [], t => t
  | r :: rs, t => ownT n rs (settleR n r t).2
def shT : Nat → Ta → Ta
  | 0, t => t
  | n + 1, t => match t.rs with
    | [] => t
    | r :: rs => Ta.cons (cleanR r) (shT n (settleR n r { t with rs := rs }).2)
def hSettle (n : Nat) (ha : Ha) : Ha := ⟨ha.own.map cleanR, shT n (ownT n ha.own ha.t)⟩
theorem shT_cons {n : Nat} {t : Ta} {r : Rm} {rs : List Rm} (e : t.rs = r :: rs) : shT (n + 1) t = Ta.cons (cleanR r) (shT n (settleR n r { t with rs := rs }).2) := by
  show (match t.rs with | [] => t | r :: rs => _) = _
  rw [e]
theorem ownT_snoc {n : Nat} : ∀ (a : List Rm) (r : Rm) (t : Ta), ownT n (a ++ [r]) t = (settleR n r (ownT n a t)).2
  | [], r, t => rfl
  | b :: a, r, t => ownT_snoc a r _
theorem ownT_ok {n : Nat} (hn : n ≤ 2) : ∀ {rs : List Rm} {t : Ta}, (∀ r ∈ rs, RmOk r) → TaOk n t → TaOk n (ownT n rs t) ∧ (ownT n rs t).log.length ≤ t.log.length + 208 * rs.length
  | [], t, _, h => ⟨h, by show t.log.length ≤ _; omega⟩
  | r :: rs, t, hr, h => by
    obtain ⟨_, h2, h3⟩ := settleR_ok (hr r List.mem_cons_self) h hn
    obtain ⟨i1, i2⟩ := ownT_ok hn (rs := rs) (fun q hq => hr q (List.mem_cons_of_mem _ hq)) h2
    refine ⟨i1, ?_⟩
    show (ownT n rs (settleR n r t).2).log.length ≤ _
    rw [List.length_cons]
    omega
theorem cleanR_ok {r : Rm} (hr : RmOk r) : RmOk (cleanR r) := by
  refine ⟨?_, ?_, hr.ru, fun ls hl => ?_⟩
  · show 0 < (r.ss.map _).length
    rw [List.length_map]
    exact hr.s0
  · show (r.ss.map _).length ≤ 4
    rw [List.length_map]
    exact hr.s4
  · obtain ⟨ls0, h0, rfl⟩ := List.mem_map.mp hl
    refine ⟨by rw [List.length_map]; exact (hr.ln ls0 h0).len, fun l hl => ?_⟩
    obtain ⟨l0, hl0, rfl⟩ := List.mem_map.mp hl
    have := (hr.ln ls0 h0).ok l0 hl0
    exact ⟨this.b, this.ns⟩
theorem shT_ok : ∀ {n : Nat} {t : Ta}, n ≤ 2 → TaOk n t → TaOk n (shT n t) ∧ (shT n t).log.length ≤ t.log.length + 208 * n
  | 0, t, _, h => ⟨h, by show t.log.length ≤ _; omega⟩
  | n + 1, t, hn, h => by
    obtain ⟨r, rs, e, hr, ht⟩ := h.uncons
    obtain ⟨_, h2, h3⟩ := settleR_ok hr ht (by omega)
    obtain ⟨i1, i2⟩ := shT_ok (n := n) (by omega) h2
    rw [shT_cons e]
    refine ⟨cons_ok (cleanR_ok hr) i1, ?_⟩
    show (shT n _).log.length ≤ _
    have : ({ t with rs := rs } : Ta).log.length = t.log.length := rfl
    omega
theorem hSettle_ok {n m : Nat} {ha : Ha} (h : HaOk n m ha) : HaOk n m (hSettle n ha) ∧ (hSettle n ha).t.log.length ≤ ha.t.log.length + 1100 := by
  obtain ⟨h1, h2⟩ := ownT_ok h.n2 h.own h.t
  obtain ⟨h3, h4⟩ := shT_ok h.n2 h1
  have e1 := h.len
  have e2 := h.n2
  have e3 := h.m3
  refine ⟨⟨h3, by show (ha.own.map _).length = m; rw [List.length_map]; exact h.len, fun r hr => ?_, h.n2, h.m1, h.m3⟩, ?_⟩
  · obtain ⟨q, hq, rfl⟩ := List.mem_map.mp hr
    exact cleanR_ok (h.own q hq)
  · show (shT n (ownT n ha.own ha.t)).log.length ≤ _
    omega
def spHSettle (K : PySem.W.Frag) : Sp := fun vs H Q _ => ∃ (x : Addr) (n m : Nat) (ha : Ha) (C R : List Cell), vs = [.ref x] ∧ HaOk n m ha ∧ LH ha ∧ HallRep K x ha C ∧ Own H (C ++ R) ∧
  ∀ (C' : List Cell) (H' : Hp), HallRep K x (hSettle n ha) C' → Own H' (C' ++ R) → Q .non H'
def spHLog (K : PySem.W.Frag) : Sp := fun vs H Q _ => ∃ (x : Addr) (n m : Nat) (ha : Ha) (C R : List Cell), vs = [.ref x] ∧ HaOk n m ha ∧ LH ha ∧ HallRep K x ha C ∧ Own H (C ++ R) ∧
  ∀ (p : Addr) (as : List Addr) (H' : Hp), TA C as (ha.t.log.map Ent.vs) → Own H' ((p, .lst (as.map V.ref)) :: (C ++ R)) → Q (.ref p) H'
theorem logC_TA : ∀ {as : List Addr} {es : List Ent}, as.length = es.length → TA (logC as es) as (es.map Ent.vs)
  | [], [], _ => trivial
  | [], _ :: _, h => by cases h
  | _ :: _, [], h => by cases h
  | a :: as, e :: es, h => ⟨List.mem_cons_self, (logC_TA (as := as) (es := es) (by simpa using h)).mono fun c hc => List.mem_cons_of_mem _ hc⟩
section
variable {P : Program} {w : World} {K : PySem.W.Frag} {mg : Str → Option Value} {base : Heap} {n lv : Nat}
theorem ok_H_log (T : Txt K mg) : FnOk P w K mg base CX0 1 (He.fAd K ("Hall", some "log")) T.fd_Hall_log ["self"] (spHLog K) := by
  refine okOf T.F_Hall_log sc_Hall_log (fun vs H Q E h => ?_) (fun cdv A outer s H vs Q E hr h => ?_)
  · obtain ⟨_, _, _, _, _, _, rfl, _⟩ := h
    rfl
  · obtain ⟨x, n, m, ha, C, R, rfl, hk, hl, ⟨A, rfl, Co, Cb, D, h1, h2, ⟨as, h3, rfl⟩, rfl⟩, O, k⟩ := h
    refine ⟨_, (pss_one (ps_ret (pe_callTy call_list_of (by rfl) T.n_list (by decide +kernel) (pa_cons (pe_fld (pv 0) rfl) pa_nil)))), ?_⟩
    have hx : H A.x = some (.ins (cH K) A.dx (fHall (.ref A.di) (.ref A.sh.last) (.ref A.sl) (.ref A.ol))) := O.a0
    have hdi : H A.di = some (.lst (as.map V.ref)) := O.mem (List.mem_append_left _ (List.mem_append_right _ (List.mem_append_right _ (List.mem_append_right _ List.mem_cons_self))))
    refine ⟨_, rfl, A.x, cH K, A.dx, _, _, rfl, hx, T.cl_Hall, T.na_Hall_diary, lk_Hall_diary, A.di, _, rfl, .inl (SqL.of hdi), fun q hq => ?_⟩
    exact k q as _ ((logC_TA h3).mono fun c hc => List.mem_append_right _ (List.mem_append_right _ (List.mem_append_right _ (List.mem_cons_of_mem _ hc)))) (O.new hq)
theorem ok_H_settle (T : Txt K mg) : FnOk P w K mg base CX0 13 (He.fAd K ("Hall", some "settle")) T.fd_Hall_settle ["self"] (spHSettle K) := by
  have G_Room_settle := ok_R_settle (P := P) (w := w) (base := base) T
  refine okOf T.F_Hall_settle sc_Hall_settle (fun vs H Q E h => ?_) (fun cdv A outer s H vs Q E hr h => ?_)
  · obtain ⟨_, _, _, _, _, _, rfl, _⟩ := h
    rfl
  · obtain ⟨x, n, m, ha, C, R, rfl, hk, hl, ⟨A, rfl, hC⟩, O, k⟩ := h
    have hx : ∀ {ha : Ha} {C R : List Cell} {H : Hp}, HallRepA K A ha C → Own H (C ++ R) → H A.x = some (.ins (cH K) A.dx (fHall (.ref A.di) (.ref A.sh.last) (.ref A.sl) (.ref A.ol))) ∧ H A.ol = some (.lst (A.owns.map V.ref)) ∧ H A.sl = some (.lst (A.sh.rooms.map V.ref)) := by
      rintro ha C R H ⟨Co, Cb, D, _, _, _, rfl⟩ O
      exact ⟨O.a0, O.a2, O.a1⟩
    have ho := hC.own
    have hm3 := hk.m3
    have hm1 := hk.m1
    have hn2 := hk.n2
    have hlen := hk.len
    have htl := hk.t.len
    unfold LH at hl
    have hrooms : A.sh.rooms.length = n := by
      obtain ⟨Co, Cb, D, _, h2, _, rfl⟩ := id hC
      rw [Rep.rooms h2]
      exact htl
    refine ⟨_, (pss_one (ps_for PassesOwn.never rfl (pi_list (pe_op op_cat (pe_fld (pv 0) rfl) (pe_fld (pv 0) rfl))) (pg_name (i := 1) sc_Hall_settle.nd rfl (Or.inl rfl)) (pss_one (ps_expr (pe_meth0 (pv 1) T.cl_Room T.m_Room_settle G_Room_settle (hr.mono (by omega)) T.b_Room_settle .nil pass0))))), ?_⟩
    refine ⟨_, rfl, A.x, cH K, A.dx, _, _, rfl, (hx hC O).1, T.cl_Hall, T.na_Hall_own, lk_Hall_own, _, rfl, A.x, cH K, A.dx, _, _, rfl, (hx hC O).1, T.cl_Hall, T.na_Hall_shared, lk_Hall_shared, A.ol, A.sl, _, _, rfl, rfl, (hx hC O).2.1, (hx hC O).2.2, by rw [List.length_map, List.length_map]; exact Nat.le_of_lt (size1 (by omega)), fun q hq => ?_⟩
    have O1 := O.new (o := .lst (A.owns.map V.ref ++ A.sh.rooms.map V.ref)) hq
    generalize upd H q _ = H1 at O1 ⊢
    obtain ⟨R1, hR1⟩ : ∃ R1, R1 = (q, HO.lst (A.owns.map V.ref ++ A.sh.rooms.map V.ref)) :: R := ⟨_, rfl⟩
    have hqR : (q, HO.lst (A.owns.map V.ref ++ A.sh.rooms.map V.ref)) ∈ R1 := by
      rw [hR1]
      exact List.mem_cons_self
    have O2 : Own H1 (C ++ R1) := by
      rw [hR1]
      exact O1.perm (by walk_at "perm")
    obtain ⟨P2, hP2⟩ : ∃ P2 : Nat → Hp → Prop, P2 = fun j H' => ∃ (pre : List Rm) (be : Pa) (tj : Ta) (Co Cp Cb D : List Cell), j ≤ n ∧ pre.length = j ∧ TaOk (n - j) tj ∧ tj.log.length ≤ 910000 + 208 * j ∧ OwnsRep K A.di A.sh A.owns (ha.own.map cleanR) Co ∧
        (∀ rs' far' C', RepK K A.di be rs' far' C' → ∃ C'', RepK K A.di A.sh (pre ++ rs') far' C'' ∧ C''.Perm (Cp ++ C')) ∧ A.sh.rooms.drop j = be.rooms ∧ RepK K A.di be tj.rs tj.far Cb ∧ DRep A.di tj.log D ∧
        shT n (ownT n ha.own ha.t) = { shT (n - j) tj with rs := pre ++ (shT (n - j) tj).rs } ∧ Own H' (hallC K A ++ (Co ++ (Cp ++ (Cb ++ (D ++ R1))))) := ⟨_, rfl⟩
    have to2 : ∀ (C' : List Cell) (H' : Hp), HallRepA K A ⟨ha.own.map cleanR, ownT n ha.own ha.t⟩ C' → Own H' (C' ++ R1) → P2 0 H' := by
      rintro C' H' ⟨Co, Cb, D, h1, h2, h3, rfl⟩ O'
      obtain ⟨g1, g2⟩ := ownT_ok hk.n2 hk.own hk.t
      rw [hP2]
      exact ⟨[], A.sh, ownT n ha.own ha.t, Co, [], Cb, D, Nat.zero_le _, rfl, g1, by omega, h1, fun rs' far' C' h => ⟨C', h, List.Perm.refl _⟩, rfl, h2, h3, rfl, O'.perm (by walk_at "perm")⟩
    refine ⟨q, rfl, ⟨_, SqL.of (O2.mem (List.mem_append_right _ hqR))⟩, ?_⟩
    refine for_list (K := K) (a := q) (xs := A.owns.map V.ref ++ A.sh.rooms.map V.ref) (fun i σ H' => (∃ v, σ = [some (.ref A.x), v]) ∧ ((i < m ∧ ∃ C', HallRepA K A ⟨(ha.own.take i).map cleanR ++ ha.own.drop i, ownT n (ha.own.take i) ha.t⟩ C' ∧ Own H' (C' ++ R1)) ∨ (m ≤ i ∧ P2 (i - m) H')))
      ⟨⟨_, rfl⟩, .inl ⟨by omega, C, hC, O2⟩⟩ ?_ ?_ ?_
    · rintro i σ H' _ ⟨_, ⟨_, C', _, O'⟩ | ⟨_, h⟩⟩
      · exact SqL.of (O'.mem (List.mem_append_right _ hqR))
      · rw [hP2] at h
        obtain ⟨_, _, _, Co, Cp, Cb, D, _, _, _, _, _, _, _, _, _, _, O'⟩ := h
        exact SqL.of (O'.mem (by simp only [List.mem_append]; exact .inr (.inr (.inr (.inr (.inr hqR))))))
    · rintro i y σ H2 hi ⟨⟨v, rfl⟩, ⟨him, C', hC', O3⟩ | ⟨him, h⟩⟩
      · -- an own room
        have hio : i < ha.own.length := by omega
        obtain ⟨r, er0⟩ : ∃ r, ha.own[i]? = some r := ⟨_, List.getElem?_eq_getElem hio⟩
        have hpl : ((ha.own.take i).map cleanR).length = i := by
          rw [List.length_map, List.length_take]
          omega
        have er : ((ha.own.take i).map cleanR ++ ha.own.drop i)[i]? = some r := by
          rw [get_mid hpl, List.getElem?_drop, Nat.add_zero, er0]
        obtain ⟨g1, g2⟩ := ownT_ok hk.n2 (rs := ha.own.take i) (fun r hr => hk.own r (List.mem_of_mem_take hr)) hk.t
        have hti : (ha.own.take i).length = i := by
          rw [List.length_take]
          omega
        have hk1 : HaOk n m ⟨(ha.own.take i).map cleanR ++ ha.own.drop i, ownT n (ha.own.take i) ha.t⟩ := by
          refine ⟨g1, ?_, fun r hr => ?_, hk.n2, hk.m1, hk.m3⟩
          · show ((ha.own.take i).map cleanR ++ ha.own.drop i).length = m
            rw [List.length_append, hpl, List.length_drop]
            omega
          · rcases List.mem_append.mp hr with hr | hr
            · obtain ⟨r0, h0, rfl⟩ := List.mem_map.mp hr
              exact cleanR_ok (hk.own r0 (List.mem_of_mem_take h0))
            · exact hk.own r (List.mem_of_mem_drop hr)
        obtain ⟨a, C1, Cb, D, R', e1, ⟨f1, f2, f3, f4, f5, f6, Of⟩, hback⟩ := hC'.at hk1 (by show (ownT n (ha.own.take i) ha.t).log.length ≤ _; omega) er O3
        have ey : y = .ref a := by
          rw [List.getElem?_append_left (by rw [List.length_map]; omega), List.getElem?_map, e1] at hi
          exact (Option.some.inj hi).symm
        subst ey
        obtain ⟨dxr, _, _, _, _, _, _, _, _, hmr⟩ := room_obj f4
        refine ⟨_, rfl, a, dxr, _, rfl, Of.mem (List.mem_append_left _ hmr), no_Room_settle, n, a, A.sh, A.di, r, ownT n (ha.own.take i) ha.t, C1, Cb, D, hallC K A ++ R', rfl, hn2, f1, f2, by omega, f4, f5, f6, Of, fun H3 hp => ?_⟩
        obtain ⟨C2, hC2, O4⟩ := hback _ _ H3 hp
        have et : ha.own.take (i + 1) = ha.own.take i ++ [r] := take_snoc er0
        have eo : ((ha.own.take i).map cleanR ++ ha.own.drop i).set i (settleR n r (ownT n (ha.own.take i) ha.t)).1 = (ha.own.take (i + 1)).map cleanR ++ ha.own.drop (i + 1) := by
          rw [List.set_append_right _ _ (by omega), hpl, Nat.sub_self, et, List.map_append, List.append_assoc]
          have hdr : ha.own.drop i = r :: ha.own.drop (i + 1) := by
            rw [List.drop_eq_getElem_cons hio]
            congr 1
            rw [List.getElem?_eq_getElem hio] at er0
            exact Option.some.inj er0
          rw [hdr]
          rfl
        have et2 : ownT n (ha.own.take (i + 1)) ha.t = (settleR n r (ownT n (ha.own.take i) ha.t)).2 := by
          rw [et, ownT_snoc]
        have hC2 : HallRepA K A ⟨((ha.own.take i).map cleanR ++ ha.own.drop i).set i (settleR n r (ownT n (ha.own.take i) ha.t)).1, (settleR n r (ownT n (ha.own.take i) ha.t)).2⟩ C2 := hC2
        rw [eo, ← et2] at hC2
        refine ⟨⟨_, rfl⟩, ?_⟩
        by_cases hlast : i + 1 < m
        · exact .inl ⟨hlast, C2, hC2, O4⟩
        · refine .inr ⟨by omega, ?_⟩
          have e0 : i + 1 - m = 0 := by omega
          rw [e0]
          rw [List.take_of_length_le (by omega), List.drop_of_length_le (by omega), List.append_nil] at hC2
          exact to2 C2 H3 hC2 O4
      · -- a shared room
        rw [hP2] at h
        obtain ⟨pre, be, tj, Co, Cp, Cb, D, hjn, hpl, htj, hlj, h1, hbk, hdr, h2, h3, hsh, O3⟩ := h
        have hil : i < m + n := by
          have := (List.getElem?_eq_some_iff.mp hi).1
          rw [List.length_append, List.length_map, List.length_map] at this
          omega
        obtain ⟨j, hj⟩ : ∃ j, i - m = j := ⟨_, rfl⟩
        rw [hj] at hjn hpl htj hlj hdr hsh
        obtain ⟨n', hn'⟩ : ∃ n', n - j = n' + 1 := ⟨n - j - 1, by omega⟩
        rw [hn'] at htj hsh
        obtain ⟨r, rs, ers, hr, ht⟩ := htj.uncons
        rw [ers] at h2
        cases be with
        | far la => exact h2.elim
        | room a be' =>
          obtain ⟨C1, C2, g1, g2, rfl⟩ := h2
          have ey : y = .ref a := by
            rw [List.getElem?_append_right (by rw [List.length_map]; omega), List.length_map, ho, hlen, hj, List.getElem?_map] at hi
            have e2 : A.sh.rooms[j]? = some a := by
              have := congrArg (fun z : List Addr => z[0]?) hdr
              rw [List.getElem?_drop, Nat.add_zero] at this
              exact this
            rw [e2] at hi
            exact (Option.some.inj hi).symm
          subst ey
          obtain ⟨dxr, _, _, _, _, _, _, _, _, hmr⟩ := room_obj (A := A) g1
          have O4 := O3.perm (L' := C1 ++ (C2 ++ (D ++ (hallC K A ++ (Co ++ (Cp ++ R1)))))) (by walk_at "perm")
          refine ⟨_, rfl, a, dxr, _, rfl, O4.mem (List.mem_append_left _ hmr), no_Room_settle, n', a, be', A.di, r, { tj with rs := rs }, C1, C2, D, hallC K A ++ (Co ++ (Cp ++ R1)), rfl, by omega, hr, ht, (by show tj.log.length ≤ _; omega), g1, g2, h3, O4, fun H3 hp => ?_⟩
          obtain ⟨s1, s2, s3⟩ := settleR_ok hr ht (by omega)
          obtain ⟨C1', C2', D', k1, k2, k3, O5⟩ := hp
          refine ⟨⟨_, rfl⟩, .inr ⟨by omega, ?_⟩⟩
          have ej : i + 1 - m = j + 1 := by omega
          have en : n - (j + 1) = n' := by omega
          rw [ej, hP2]
          refine ⟨pre ++ [cleanR r], be', (settleR n' r { tj with rs := rs }).2, Co, Cp ++ C1', C2', D', by omega, by rw [List.length_append, hpl]; rfl, by rw [en]; exact s2, ?_, h1, fun rs' far' C' h => ?_, ?_, k2, k3, ?_, O5.perm (by walk_at "perm")⟩
          · have : ({ tj with rs := rs } : Ta).log.length = tj.log.length := rfl
            omega
          · obtain ⟨C'', b1, b2⟩ := hbk (cleanR r :: rs') far' (C1' ++ C') ⟨C1', C', k1, h, rfl⟩
            refine ⟨C'', by rw [List.append_assoc]; exact b1, b2.trans ?_⟩
            walk_at "perm"
          · have := congrArg (List.drop 1) hdr
            rw [List.drop_drop] at this
            exact this
          · rw [en, hsh, shT_cons ers, List.append_assoc]
            rfl
    · rintro σ H2 ⟨⟨v, rfl⟩, ⟨him, _⟩ | ⟨him, h⟩⟩
      · rw [List.length_append, List.length_map] at him
        omega
      · rw [hP2] at h
        obtain ⟨pre, be, tj, Co, Cp, Cb, D, hjn, hpl, htj, hlj, h1, hbk, hdr, h2, h3, hsh, O3⟩ := h
        have ej : (A.owns.map V.ref ++ A.sh.rooms.map V.ref).length - m = n := by
          rw [List.length_append, List.length_map, List.length_map]
          omega
        rw [ej] at hsh htj
        rw [Nat.sub_self] at hsh htj
        obtain ⟨C'', b1, b2⟩ := hbk _ _ _ h2
        have e1 : (hSettle n ha).t = { tj with rs := pre ++ tj.rs } := hsh
        refine k (hallC K A ++ (Co ++ (C'' ++ D))) H2 ⟨A, rfl, Co, C'', D, h1, ?_, ?_, rfl⟩ ?_
        · rw [e1]
          exact b1
        · rw [e1]
          exact h3
        · rw [hR1] at O3
          have O4 := O3.perm (L' := (q, .lst (A.owns.map V.ref ++ A.sh.rooms.map V.ref)) :: (hallC K A ++ (Co ++ ((Cp ++ Cb) ++ (D ++ R))))) (by walk_at "perm")
          refine O4.tail.perm ?_
          refine List.Perm.trans (List.Perm.append_left _ (List.Perm.append_left _ (List.Perm.append_right _ b2.symm))) ?_
          walk_at "perm"
end
-- WwCoh4
/-! ### what settling means -/
section
variable {n : Nat} {o : Ops} {u : Ru} {s : Nat}
theorem settleL_sem (O : OpsC n o) (Ok : OpsOk n (gOf n) o) : ∀ {k : Nat} {ls : List Ln} {t : Ta}, SetW s k ls → (∀ l ∈ ls, LnOk l) → Cln ls (eff t) → TaOk n t → TaW t → TaW (settleL o u ls t).2 ∧ ∀ c, eff (settleL o u ls t).2 c = effS ls (eff t) c
  | k, [], t, w, hl, hc, h, hw => ⟨hw, fun c => rfl⟩
  | k, l :: r, t, w, hl, hc, h, hw => by
    have hlo := hl l List.mem_cons_self
    have key : TaOk n (if l.d = true then passH o u.tl t l.b l.ns else t) ∧ TaW (if l.d = true then passH o u.tl t l.b l.ns else t) ∧ ∀ c, eff (if l.d = true then passH o u.tl t l.b l.ns else t) c = if c = l.b then l.ns else eff t c := by
      split
      · obtain ⟨h1, h2⟩ := passH_eff (tl := u.tl) O h hw hlo.b hlo.ns
        exact ⟨(passH_ok Ok h hlo.b hlo.ns).1, h1, h2⟩
      · rename_i hd
        refine ⟨h, hw, fun c => ?_⟩
        split
        · rename_i e
          rw [e]
          exact (hc l List.mem_cons_self (by simpa using hd)).symm
        · rfl
    show TaW (settleL o u r _).2 ∧ ∀ c, eff (settleL o u r _).2 c = _
    generalize (if l.d = true then passH o u.tl t l.b l.ns else t) = t1 at key ⊢
    obtain ⟨h1, h2, h3⟩ := key
    have hne : ∀ l' ∈ r, l'.b ≠ l.b := w.head
    obtain ⟨i1, i2⟩ := settleL_sem O Ok w.tail (fun l' hm => hl l' (List.mem_cons_of_mem _ hm)) (fun l' hm hd => by
      rw [h3, if_neg (hne l' hm)]
      exact hc l' (List.mem_cons_of_mem _ hm) hd) h1 h2
    refine ⟨i1, fun c => ?_⟩
    rw [i2]
    by_cases e : c = l.b
    · subst e
      rw [effS_no hne, h3, if_pos rfl, effS_mem w List.mem_cons_self]
    · refine effS_same ?_ fun _ => by rw [h3, if_neg e]
      show _ = (if l.b = c then some l else lnOf c r)
      rw [if_neg (Ne.symm e)]
theorem effS_out {k : Nat} {ls : List Ln} (w : SetW s k ls) {c : Nat} (h : c % s ≠ k) (e : Nat → List Int) : effS ls e c = e c := effS_no (fun l hl z => h (by rw [← z]; exact w.ix l hl)) e
theorem settleS_sem (O : OpsC n o) (Ok : OpsOk n (gOf n) o) : ∀ {off : Nat} {ss : List (List Ln)} {t : Ta}, (∀ k ls, ss[k]? = some ls → SetW s (off + k) ls) → (∀ ls ∈ ss, (∀ l ∈ ls, LnOk l) ∧ Cln ls (eff t)) → TaOk n t → TaW t →
    TaW (settleS o u ss t).2 ∧ ∀ c, (∀ k ls, ss[k]? = some ls → c % s = off + k → eff (settleS o u ss t).2 c = effS ls (eff t) c) ∧ ((∀ k, k < ss.length → c % s ≠ off + k) → eff (settleS o u ss t).2 c = eff t c)
  | off, [], t, w, hl, h, hw => ⟨hw, fun c => ⟨fun k ls hk => by simp at hk, fun _ => rfl⟩⟩
  | off, ls :: r, t, w, hl, h, hw => by
    have w0 : SetW s off ls := w 0 ls rfl
    obtain ⟨l1, l2⟩ := hl ls List.mem_cons_self
    obtain ⟨a1, a2⟩ := settleL_sem O Ok (u := u) w0 l1 l2 h hw
    obtain ⟨_, _, a3, _⟩ := settleL_ok (u := u) Ok l1 h
    have wr : ∀ k l, r[k]? = some l → SetW s (off + 1 + k) l := fun k l hk => by
      have := w (k + 1) l (by simpa using hk)
      rwa [show off + 1 + k = off + (k + 1) by omega]
    show TaW (settleS o u r (settleL o u ls t).2).2 ∧ _
    generalize ht1 : (settleL o u ls t).2 = t1 at a1 a2 a3
    obtain ⟨i1, i2⟩ := settleS_sem O Ok (off := off + 1) (ss := r) (t := t1) wr (fun l' hm => ⟨(hl l' (List.mem_cons_of_mem _ hm)).1, fun q hq hd => by
      obtain ⟨k, hk, ek⟩ := List.mem_iff_getElem.mp hm
      have hg : r[k]? = some l' := by rw [List.getElem?_eq_getElem hk, ek]
      have := (wr k l' hg).ix q hq
      rw [a2, effS_out w0 (by omega)]
      exact (hl l' (List.mem_cons_of_mem _ hm)).2 q hq hd⟩) a3 a1
    have es : settleS o u (ls :: r) t = ((settleL o u ls t).1 :: (settleS o u r t1).1, (settleS o u r t1).2) := by
      rw [← ht1]
      rfl
    rw [es]
    refine ⟨i1, fun c => ⟨fun k l hk hc => ?_, fun hc => ?_⟩⟩
    · show eff (settleS o u r t1).2 c = _
      cases k with
      | zero =>
        have : ls = l := by simpa using hk
        subst this
        rw [(i2 c).2 (fun k _ => by omega), a2]
      | succ k =>
        have hk : r[k]? = some l := by simpa using hk
        rw [(i2 c).1 k l hk (by omega)]
        exact effS_same rfl fun _ => by rw [a2, effS_out w0 (by omega)]
    · show eff (settleS o u r t1).2 c = _
      have h0 : c % s ≠ off := by
        have := hc 0 (by simp)
        omega
      rw [(i2 c).2 (fun k hk => by have := hc (k + 1) (by simp; omega); omega), a2, effS_out w0 h0]
end
section
variable {n m : Nat} {r : Rm} {t : Ta}
theorem settleR_sem (R : RW r t) (hr : RmOk r) (h : TaOk n t) : TaW (settleR n r t).2 ∧ ∀ c, eff (settleR n r t).2 c = effR r t c := by
  obtain ⟨h1, h2⟩ := settleS_sem (s := r.ss.length) (ops_c n) (ops_ok n) (u := r.ru) (off := 0) (ss := r.ss) (t := t) (fun k ls hk => by rw [Nat.zero_add]; exact R.w k ls hk) (fun ls hm => ⟨(hr.ln ls hm).ok, (R.c ls hm).1⟩) h R.t
  refine ⟨h1, fun c => ?_⟩
  refine (h2 c).1 (r.ix c) (r.ls c) (ls_get hr.s0 c) ?_
  rw [Nat.zero_add]
  rfl
theorem clean_len (r : Rm) : (cleanR r).ss.length = r.ss.length := by
  show (r.ss.map _).length = _
  rw [List.length_map]
theorem InR.unclean {l : Ln} (h : InR l (cleanR r)) : l.d = false ∧ ∃ l0, InR l0 r ∧ l0.b = l.b ∧ l0.ns = l.ns := by
  obtain ⟨ls, hm, hl⟩ := h
  obtain ⟨ls0, h0, rfl⟩ := List.mem_map.mp hm
  obtain ⟨l0, hl0, rfl⟩ := List.mem_map.mp hl
  exact ⟨rfl, l0, ⟨ls0, h0, hl0⟩, rfl, rfl⟩
theorem InR.clean {l : Ln} (h : InR l r) : InR { l with d := false } (cleanR r) := by
  obtain ⟨ls, hm, hl⟩ := h
  exact ⟨_, List.mem_map.mpr ⟨ls, hm, rfl⟩, List.mem_map.mpr ⟨l, hl, rfl⟩⟩
theorem clean_w (w : RmW r) : RmW (cleanR r) := fun k ls hk => by
  have hk : (r.ss.map fun ls => ls.map fun l => { l with d := false })[k]? = some ls := hk
  rw [List.getElem?_map] at hk
  cases e : r.ss[k]? with
  | none =>
    rw [e] at hk
    cases hk
  | some ls0 =>
    rw [e] at hk
    have := w k ls0 e
    rw [← Option.some.inj hk, clean_len]
    refine ⟨?_, fun l hl => ?_⟩
    · rw [List.map_map]
      exact this.nd
    · obtain ⟨l0, hl0, rfl⟩ := List.mem_map.mp hl
      exact this.ix l0 hl0
theorem clean_eff (R : RW r t) (hr : RmOk r) {t' : Ta} (he : ∀ c, eff t' c = effR r t c) : (∀ l, InR l (cleanR r) → l.ns = eff t' l.b) ∧ ∀ c, effR (cleanR r) t' c = effR r t c := by
  have h1 : ∀ l, InR l (cleanR r) → l.ns = eff t' l.b := fun l hl => by
    obtain ⟨_, l0, h0, e1, e2⟩ := hl.unclean
    rw [he, ← e1, ← e2]
    exact (effS_mem (R.w _ _ (ls_get hr.s0 l0.b)) (h0.ls R.w) _).symm
  refine ⟨h1, fun c => ?_⟩
  show effS ((cleanR r).ls c) (eff t') c = _
  cases q : lnOf c ((cleanR r).ls c) with
  | some l =>
    obtain ⟨g1, g2⟩ := lnOf_mem q
    unfold effS
    rw [q]
    show l.ns = _
    have h0 : 0 < (cleanR r).ss.length := by rw [clean_len]; exact hr.s0
    rw [h1 l (.of h0 g1), g2]
    exact he c
  | none =>
    unfold effS
    rw [q]
    exact he c
end
section
variable {n m : Nat} {ha : Ha} {pl : Nat → List Int}
theorem HCoh.settle1 (h : HCoh ha pl) (hk : HaOk n m ha) {i : Nat} {r : Rm} (e : ha.own[i]? = some r) : HCoh ⟨ha.own.set i (cleanR r), (settleR n r ha.t).2⟩ pl := by
  have hr := hk.own r (List.mem_of_getElem? e)
  have R := h.rw e hr.s0
  obtain ⟨s1, s2⟩ := settleR_sem R hr hk.t
  have hi := (List.getElem?_eq_some_iff.mp e).1
  have hrm := List.mem_of_getElem? e
  have oth : ∀ j, j ≠ i → (ha.own.set i (cleanR r))[j]? = ha.own[j]? := fun j z => List.getElem?_set_ne (Ne.symm z)
  have mine : (ha.own.set i (cleanR r))[i]? = some (cleanR r) := List.getElem?_set_self hi
  have memC : ∀ q ∈ ha.own.set i (cleanR r), q = cleanR r ∨ ∃ j, j ≠ i ∧ ha.own[j]? = some q := fun q hq => by
    obtain ⟨j, hj, ej⟩ := List.mem_iff_getElem.mp hq
    have hg : (ha.own.set i (cleanR r))[j]? = some q := by rw [List.getElem?_eq_getElem hj, ej]
    by_cases z : j = i
    · subst z
      rw [mine] at hg
      exact .inl (Option.some.inj hg).symm
    · rw [oth j z] at hg
      exact .inr ⟨j, z, hg⟩
  refine ⟨fun q hq => ?_, fun q hq hb l hl => ?_, s1, fun q hq l hl => ?_, fun j1 j2 q1 q2 hne g1 g2 l l2 hl hl2 hdl => ?_, fun c hc => ?_⟩
  · rcases memC q hq with z | ⟨j, _, hg⟩
    · rw [z]
      exact clean_w (h.w r hrm)
    · exact h.w q (List.mem_of_getElem? hg)
  · rcases memC q hq with z | ⟨j, _, hg⟩
    · rw [z] at hl
      exact hl.unclean.1
    · exact h.th q (List.mem_of_getElem? hg) hb l hl
  · rcases memC q hq with z | ⟨j, _, hg⟩
    · rw [z] at hl
      obtain ⟨_, l0, h0, e1, e2⟩ := hl.unclean
      rw [← e1, ← e2]
      exact h.pn r hrm l0 h0
    · exact h.pn q (List.mem_of_getElem? hg) l hl
  · have g1 : (ha.own.set i (cleanR r))[j1]? = some q1 := g1
    have g2 : (ha.own.set i (cleanR r))[j2]? = some q2 := g2
    by_cases z1 : j1 = i
    · rw [z1, mine] at g1
      cases g1
      rw [hl.unclean.1] at hdl
      cases hdl
    · rw [oth j1 z1] at g1
      by_cases z2 : j2 = i
      · rw [z2, mine] at g2
        cases g2
        obtain ⟨_, l0, h0, e1, _⟩ := hl2.unclean
        rw [← e1]
        exact h.one j1 i q1 r z1 g1 e l l0 hl h0 hdl
      · rw [oth j2 z2] at g2
        exact h.one j1 j2 q1 q2 hne g1 g2 l l2 hl hl2 hdl
  · show eff (settleR n r ha.t).2 c = pl c
    rw [s2]
    refine h.eff_of e hr.s0 fun j q zj hg l hl hcl => ?_
    refine hc q ?_ l hl hcl
    have : (ha.own.set i (cleanR r))[j]? = some q := by
      rw [oth j zj]
      exact hg
    exact List.mem_of_getElem? this
theorem own_ok {i : Nat} (hk : HaOk n m ha) (hi : i ≤ m) : HaOk n m ⟨(ha.own.take i).map cleanR ++ ha.own.drop i, ownT n (ha.own.take i) ha.t⟩ := by
  obtain ⟨g1, g2⟩ := ownT_ok hk.n2 (rs := ha.own.take i) (fun r hr => hk.own r (List.mem_of_mem_take hr)) hk.t
  have := hk.len
  refine ⟨g1, ?_, fun r hr => ?_, hk.n2, hk.m1, hk.m3⟩
  · show ((ha.own.take i).map cleanR ++ ha.own.drop i).length = m
    rw [List.length_append, List.length_map, List.length_take, List.length_drop]
    omega
  · rcases List.mem_append.mp hr with hr | hr
    · obtain ⟨r0, h0, rfl⟩ := List.mem_map.mp hr
      exact cleanR_ok (hk.own r0 (List.mem_of_mem_take h0))
    · exact hk.own r (List.mem_of_mem_drop hr)
theorem HCoh.settleN (h : HCoh ha pl) (hk : HaOk n m ha) : ∀ i, i ≤ m → HCoh ⟨(ha.own.take i).map cleanR ++ ha.own.drop i, ownT n (ha.own.take i) ha.t⟩ pl
  | 0, _ => h
  | i + 1, hi => by
    have ih := HCoh.settleN h hk i (by omega)
    have hio : i < ha.own.length := by rw [hk.len]; omega
    obtain ⟨r, er0⟩ : ∃ r, ha.own[i]? = some r := ⟨_, List.getElem?_eq_getElem hio⟩
    have hpl : ((ha.own.take i).map cleanR).length = i := by
      rw [List.length_map, List.length_take]
      omega
    have er : ((ha.own.take i).map cleanR ++ ha.own.drop i)[i]? = some r := by
      rw [get_mid hpl, List.getElem?_drop, Nat.add_zero, er0]
    have := ih.settle1 (own_ok hk (by omega)) er
    have et : ha.own.take (i + 1) = ha.own.take i ++ [r] := take_snoc er0
    have eo : ((ha.own.take i).map cleanR ++ ha.own.drop i).set i (cleanR r) = (ha.own.take (i + 1)).map cleanR ++ ha.own.drop (i + 1) := by
      rw [List.set_append_right _ _ (by omega), hpl, Nat.sub_self, et, List.map_append, List.append_assoc]
      have hdr : ha.own.drop i = r :: ha.own.drop (i + 1) := by
        rw [List.drop_eq_getElem_cons hio]
        congr 1
        rw [List.getElem?_eq_getElem hio] at er0
        exact Option.some.inj er0
      rw [hdr]
      rfl
    have et2 : ownT n (ha.own.take (i + 1)) ha.t = (settleR n r (ownT n (ha.own.take i) ha.t)).2 := by
      rw [et, ownT_snoc]
    have this : HCoh ⟨((ha.own.take i).map cleanR ++ ha.own.drop i).set i (cleanR r), (settleR n r (ownT n (ha.own.take i) ha.t)).2⟩ pl := this
    rw [eo, ← et2] at this
    exact this
/-- the shared rooms settle -/
theorem shT_sem : ∀ {n : Nat} {t : Ta}, n ≤ 2 → TaOk n t → TaW t → TaW (shT n t) ∧ (∀ c, eff (shT n t) c = eff t c) ∧ (∀ c, getBlk (shT n t).far c = eff t c) ∧ ∀ r ∈ (shT n t).rs, ∀ l, InR l r → l.d = false ∧ l.ns = getBlk (shT n t).far l.b
  | 0, t, _, h, hw => by
    have ers : t.rs = [] := List.length_eq_zero_iff.mp h.len
    refine ⟨hw, fun _ => rfl, fun c => ?_, fun r hr => ?_⟩
    · show getBlk t.far c = effC t.rs t.far c
      rw [ers]
      rfl
    · have hr : r ∈ t.rs := hr
      rw [ers] at hr
      cases hr
  | n + 1, t, hn, h, hw => by
    obtain ⟨r, rs, e, hr, ht⟩ := h.uncons
    have R := hw.uncons e
    obtain ⟨s1, s2⟩ := settleR_sem R hr ht
    obtain ⟨_, s3, _⟩ := settleR_ok hr ht (by omega)
    obtain ⟨i1, i2, i3, i4⟩ := shT_sem (n := n) (by omega) s3 s1
    rw [shT_cons e]
    have he : ∀ c, eff (shT n (settleR n r { t with rs := rs }).2) c = effR r { t with rs := rs } c := fun c => by rw [i2, s2]
    obtain ⟨c1, c2⟩ := clean_eff R hr he
    have hfar : ∀ c, getBlk (shT n (settleR n r { t with rs := rs }).2).far c = effR r { t with rs := rs } c := fun c => by rw [i3, s2]
    refine ⟨RW.cons ⟨clean_w R.w, fun ls hm => ⟨fun l hl _ => c1 l ⟨ls, hm, hl⟩, fun _ l hl => (InR.unclean ⟨ls, hm, hl⟩).1⟩, i1⟩, fun c => ?_, fun c => ?_, fun q hq l hl => ?_⟩
    · rw [eff_cons, c2, eff_uncons e]
    · rw [eff_uncons e]
      exact hfar c
    · show l.d = false ∧ l.ns = getBlk (shT n (settleR n r { t with rs := rs }).2).far l.b
      rcases List.mem_cons.mp hq with z | hq
      · rw [z] at hl
        refine ⟨hl.unclean.1, ?_⟩
        rw [c1 l hl, he, hfar]
      · exact i4 q hq l hl
theorem blk_ext {a b : List Int} (ha : a.length = 64) (hb : b.length = 64) (h : ∀ c, c < 16 → getBlk a c = getBlk b c) : a = b := by
  apply List.ext_getElem?
  intro i
  by_cases hi : i < 64
  · have := congrArg (fun z : List Int => z[i % 4]?) (h (i / 4) (by omega))
    unfold getBlk at this
    rw [List.getElem?_take_of_lt (by omega), List.getElem?_take_of_lt (by omega), List.getElem?_drop, List.getElem?_drop] at this
    have e : i / 4 * 4 + i % 4 = i := by omega
    rw [e] at this
    exact this
  · rw [List.getElem?_eq_none (by omega), List.getElem?_eq_none (by omega)]
/-- all settled: the far room is as plainly, each line has what it has, none is dirty -/
theorem HCoh.settled {cs : List Int} (h : HCoh ha (getBlk cs)) (hk : HaOk n m ha) (hcs : cs.length = 64) : HCoh (hSettle n ha) (getBlk cs) ∧ (hSettle n ha).t.far = cs ∧ (∀ r ∈ (hSettle n ha).own ++ (hSettle n ha).t.rs, RmW r ∧ ∀ l, InR l r → l.d = false ∧ l.ns = getBlk cs l.b) := by
  have h1 := h.settleN hk m (Nat.le_refl _)
  rw [List.take_of_length_le (by rw [hk.len]; exact Nat.le_refl _), List.drop_of_length_le (by rw [hk.len]; exact Nat.le_refl _), List.append_nil] at h1
  obtain ⟨g1, g2⟩ := ownT_ok hk.n2 hk.own hk.t
  obtain ⟨s1, s2, s3, s4⟩ := shT_sem hk.n2 g1 h1.t
  have hcl : ∀ r ∈ ha.own.map cleanR, ∀ l, InR l r → l.d = false := fun r hr l hl => by
    obtain ⟨r0, _, rfl⟩ := List.mem_map.mp hr
    exact hl.unclean.1
  have hef : ∀ c, eff (ownT n ha.own ha.t) c = getBlk cs c := fun c => h1.ef c fun r hr l hl _ => hcl r hr l hl
  obtain ⟨ok1, _⟩ := shT_ok hk.n2 g1
  have hfar : (hSettle n ha).t.far = cs := blk_ext ok1.far hcs fun c _ => (s3 c).trans (hef c)
  refine ⟨⟨h1.w, h1.th, s1, h1.pn, h1.one, fun c hc => (s2 c).trans (hef c)⟩, hfar, fun r hr => ?_⟩
  rcases List.mem_append.mp hr with hr | hr
  · exact ⟨h1.w r hr, fun l hl => ⟨hcl r hr l hl, h1.pn r hr l hl⟩⟩
  · have hw : ∀ (rs : List Rm) (far : List Int), ChW rs far → ∀ r ∈ rs, RmW r := by
      intro rs
      induction rs with
      | nil => intro far _ r hr; cases hr
      | cons a rs ih =>
        intro far hw r hr
        rcases List.mem_cons.mp hr with e | hr
        · rw [e]
          exact hw.1
        · exact ih far hw.2.2 r hr
    refine ⟨hw _ _ s1 r hr, fun l hl => ?_⟩
    obtain ⟨d1, d2⟩ := s4 r hr l hl
    refine ⟨d1, d2.trans ?_⟩
    have : (shT n (ownT n ha.own ha.t)).far = cs := hfar
    rw [this]
end
-- WwLog
/-! ### what stands in the log -/
def WdOk (w : Str) : Prop := w = "home" ∨ w = "bring" ∨ w = "cell"
def RuP (P : Ent → Prop) (u : Ru) : Prop := ∀ w k, WdOk w → P ⟨u.tl, w, k⟩
structure LogP (P : Ent → Prop) (t : Ta) : Prop where
  rs : ∀ r ∈ t.rs, RuP P r.ru
  log : ∀ e ∈ t.log, P e
structure OpsP (P : Ent → Prop) (o : Ops) : Prop where
  hm : ∀ t b ns, LogP P t → LogP P (o.hm t b ns)
  br : ∀ t b, LogP P t → LogP P (o.br t b).2
  ch : ∀ t p v, LogP P t → LogP P (o.ch t p v)
section
variable {P : Ent → Prop} {o : Ops} {u : Ru} {ls : List Ln} {t : Ta}
theorem note_p (h : LogP P t) (hu : RuP P u) (w : Str) (k : Nat) (hw : WdOk w) : LogP P (t.note u.tl w k) := ⟨h.rs, fun e he => by
  rcases List.mem_append.mp he with he | he
  · exact h.log e he
  · rw [List.mem_singleton.mp he]
    exact hu w k hw⟩
theorem passH_p (O : OpsP P o) (h : LogP P t) (hu : RuP P u) (b : Nat) (ns : List Int) : LogP P (passH o u.tl t b ns) := O.hm _ b ns (note_p h hu "home" b (.inl rfl))
theorem passC_p (O : OpsP P o) (h : LogP P t) (hu : RuP P u) (p : Nat) (v : Int) : LogP P (passC o u.tl t p v) := O.ch _ p v (note_p h hu "cell" p (.inr (.inr rfl)))
theorem mkWay_p (O : OpsP P o) (h : LogP P t) (hu : RuP P u) : LogP P (mkWay o u ls t).2 := by
  unfold mkWay
  split
  · cases ls with
    | nil => exact h
    | cons l rest =>
      dsimp only
      split
      · exact passH_p O h hu _ _
      · exact h
  · exact h
theorem reach_p (O : OpsP P o) (h : LogP P t) (hu : RuP P u) (b : Nat) : LogP P (reachL o u ls t b).2.1 := by
  unfold reachL
  split
  · exact h
  · exact O.br _ b (note_p (mkWay_p O h hu) hu "bring" b (.inr (.inl rfl)))
theorem change_p (O : OpsP P o) (h : LogP P t) (hu : RuP P u) (p : Nat) (v : Int) : LogP P (changeL o u ls t p v).2 := by
  unfold changeL
  split
  · exact passC_p O h hu p v
  · dsimp only
    split
    · exact reach_p O h hu _
    · exact passC_p O (reach_p O h hu _) hu p v
theorem home_p (O : OpsP P o) (h : LogP P t) (hu : RuP P u) (b : Nat) (ns : List Int) : LogP P (homeL o u ls t b ns).2 := by
  unfold homeL
  split
  · split
    · dsimp only
      split
      · exact mkWay_p O h hu
      · exact passH_p O (mkWay_p O h hu) hu b ns
    · exact passH_p O h hu b ns
  · dsimp only
    split
    · exact h
    · exact passH_p O h hu b ns
theorem yield_p (O : OpsP P o) (h : LogP P t) (hu : RuP P u) (b : Nat) (g : Bool) : LogP P (yieldL o u ls t b g).2 := by
  unfold yieldL
  split
  · exact h
  · dsimp only
    split
    · exact passH_p O h hu b _
    · exact h
theorem settleL_p (O : OpsP P o) (hu : RuP P u) : ∀ {ls : List Ln} {t : Ta}, LogP P t → LogP P (settleL o u ls t).2
  | [], t, h => h
  | l :: r, t, h => by
    refine settleL_p O hu (ls := r) ?_
    split
    · exact passH_p O h hu _ _
    · exact h
theorem settleS_p (O : OpsP P o) (hu : RuP P u) : ∀ {ss : List (List Ln)} {t : Ta}, LogP P t → LogP P (settleS o u ss t).2
  | [], t, h => h
  | ls :: r, t, h => settleS_p O hu (ss := r) (settleL_p O hu h)
theorem LogP.tail {r : Rm} {rs : List Rm} (h : LogP P t) (e : t.rs = r :: rs) : RuP P r.ru ∧ LogP P { t with rs := rs } := ⟨h.rs r (by rw [e]; exact List.mem_cons_self), fun q hq => h.rs q (by rw [e]; exact List.mem_cons_of_mem _ hq), h.log⟩
theorem LogP.cons {r : Rm} (h : LogP P t) (hr : RuP P r.ru) : LogP P (Ta.cons r t) := ⟨fun q hq => by
  rcases List.mem_cons.mp hq with e | hq
  · rw [e]
    exact hr
  · exact h.rs q hq, h.log⟩
end
theorem ops_p {P : Ent → Prop} : ∀ n, OpsP P (ops n)
  | 0 => ⟨fun t b ns h => ⟨h.rs, h.log⟩, fun t b h => h, fun t p v h => ⟨h.rs, h.log⟩⟩
  | n + 1 => {
    hm := fun t b ns h => by
      show LogP P (match t.rs with | [] => t | r :: rs => _)
      cases e : t.rs with
      | nil => exact h
      | cons r rs =>
        obtain ⟨h1, h2⟩ := h.tail e
        exact LogP.cons (home_p (ops_p n) h2 h1 b ns) h1
    br := fun t b h => by
      show LogP P (match t.rs with | [] => ([], t) | r :: rs => _ : List Int × Ta).2
      cases e : t.rs with
      | nil => exact h
      | cons r rs =>
        obtain ⟨h1, h2⟩ := h.tail e
        exact LogP.cons (reach_p (ops_p n) h2 h1 b) h1
    ch := fun t p v h => by
      show LogP P (match t.rs with | [] => t | r :: rs => _)
      cases e : t.rs with
      | nil => exact h
      | cons r rs =>
        obtain ⟨h1, h2⟩ := h.tail e
        exact LogP.cons (change_p (ops_p n) h2 h1 p v) h1 }
-- WwS3
/-! ### a hall's log -/
structure HaP (P : Ent → Prop) (ha : Ha) : Prop where
  own : ∀ r ∈ ha.own, RuP P r.ru
  t : LogP P ha.t
section
variable {P : Ent → Prop} {ha : Ha} {n : Nat}
theorem HaP.set (h : HaP P ha) {i : Nat} {r : Rm} {t : Ta} (hr : RuP P r.ru) (ht : LogP P t) : HaP P ⟨ha.own.set i r, t⟩ := ⟨fun q hq => by
  rcases List.mem_or_eq_of_mem_set hq with hq | e
  · exact h.own q hq
  · rw [e]
    exact hr, ht⟩
theorem HaP.yieldAt (h : HaP P ha) (b : Nat) (g : Bool) (i : Nat) : HaP P (yieldAt n ha b g i) := by
  unfold Ww.yieldAt
  cases e : ha.own[i]? with
  | none => exact h
  | some r =>
    have hr := h.own r (List.mem_of_getElem? e)
    exact h.set hr (yield_p (ops_p n) h.t hr b g)
theorem HaP.askN (h : HaP P ha) (b hand : Nat) (g : Bool) : ∀ k, HaP P (askN n hand b g k ha)
  | 0 => h
  | k + 1 => by
    unfold Ww.askN
    split
    · exact HaP.askN h b hand g k
    · exact (HaP.askN h b hand g k).yieldAt b g k
theorem HaP.deed (h : HaP P ha) (d : Deed) : HaP P (doDeed n ha d).2 := by
  cases d with
  | look hh p =>
    show HaP P (lookAt n (ask n ha hh (p / 4) false) hh p).2
    have h1 : HaP P (ask n ha hh (p / 4) false) := h.askN (p / 4) hh false _
    unfold lookAt
    cases e : (ask n ha hh (p / 4) false).own[hh]? with
    | none => exact h1
    | some r =>
      have hr := h1.own r (List.mem_of_getElem? e)
      exact h1.set hr (reach_p (ops_p n) h1.t hr _)
  | set hh p v =>
    show HaP P (changeAt n (ask n ha hh (p / 4) true) hh p v)
    have h1 : HaP P (ask n ha hh (p / 4) true) := h.askN (p / 4) hh true _
    unfold changeAt
    cases e : (ask n ha hh (p / 4) true).own[hh]? with
    | none => exact h1
    | some r =>
      have hr := h1.own r (List.mem_of_getElem? e)
      exact h1.set hr (change_p (ops_p n) h1.t hr p v)
theorem ownT_p : ∀ {rs : List Rm} {t : Ta}, (∀ r ∈ rs, RuP P r.ru) → LogP P t → LogP P (ownT n rs t)
  | [], t, _, h => h
  | r :: rs, t, hr, h => ownT_p (rs := rs) (fun q hq => hr q (List.mem_cons_of_mem _ hq)) (settleS_p (ops_p n) (hr r List.mem_cons_self) h)
theorem shT_p : ∀ {n : Nat} {t : Ta}, LogP P t → LogP P (shT n t)
  | 0, t, h => h
  | n + 1, t, h => by
    show LogP P (match t.rs with | [] => t | r :: rs => _)
    cases e : t.rs with
    | nil => exact h
    | cons r rs =>
      obtain ⟨h1, h2⟩ := h.tail e
      exact LogP.cons (shT_p (n := n) (settleS_p (ops_p n) h1 h2)) h1
theorem HaP.settle (h : HaP P ha) : HaP P (hSettle n ha) := ⟨fun r hr => by
  obtain ⟨q, hq, rfl⟩ := List.mem_map.mp hr
  exact h.own q hq, shT_p (ownT_p h.own h.t)⟩
end
def EntI (e : Ent) : Prop := (∃ a b : Nat, e.tl = [.int a, .int b]) ∧ WdOk e.w
theorem hall0_p (us : List Rul) (m : Nat) : HaP EntI (hall0 us m) := by
  refine ⟨fun r hr => ?_, ⟨?_, fun e he => by cases he⟩⟩
  · obtain ⟨h, _, rfl⟩ := List.mem_map.mp hr
    exact fun w k hw => ⟨⟨0, h, rfl⟩, hw⟩
  · have : ∀ (us : List Rul) (lev : Nat), ∀ r ∈ shRs lev us, RuP EntI r.ru := by
      intro us
      induction us with
      | nil => intro lev r hr; cases hr
      | cons u us ih =>
        intro lev r hr
        rcases List.mem_cons.mp hr with e | hr
        · rw [e]
          exact fun w k hw => ⟨⟨lev, 0, rfl⟩, hw⟩
        · exact ih (lev + 1) r hr
    exact this _ _
def vD : V → PyData
  | .int i => .int i
  | _ => .none
def entD (e : Ent) : PyData := .tuple (e.tl.map vD ++ [.str e.w, .int e.n])
theorem entD_dp {C : List Cell} {a : Addr} {e : Ent} (h : (a, HO.tup e.vs) ∈ C) (he : EntI e) : DpL C (.ref a) (entD e) := by
  obtain ⟨⟨x, y, e1⟩, _⟩ := he
  unfold Ent.vs at h
  unfold entD
  rw [e1] at h ⊢
  exact .tup h (.cons (.int _) (.cons (.int _) (.cons (.str _) (.cons (.int _) .nil))))
theorem logD {C : List Cell} : ∀ {as : List Addr} {es : List Ent}, TA C as (es.map Ent.vs) → (∀ e ∈ es, EntI e) → DpsL C (as.map V.ref) (es.map entD)
  | [], [], _, _ => .nil
  | [], _ :: _, h, _ => h.elim
  | _ :: _, [], h, _ => h.elim
  | a :: as, e :: es, h, he => .cons (entD_dp h.1 (he e List.mem_cons_self)) (logD h.2 fun q hq => he q (List.mem_cons_of_mem _ hq))
theorem wd_ok {w : Str} (h : WdOk w) : PyData.canLay0 (.str w) = true := by
  rcases h with e | e | e <;> subst e <;> decide +kernel
theorem entD_lay {e : Ent} (h : EntI e) : (entD e).canLay0 = true ∧ (entD e).depth ≤ 1 := by
  obtain ⟨⟨x, y, e1⟩, hw⟩ := h
  unfold entD
  rw [e1]
  refine ⟨?_, ?_⟩
  · show (PyData.canLay0 (.int x) && (PyData.canLay0 (.int y) && (PyData.canLay0 (.str e.w) && (PyData.canLay0 (.int e.n) && true)))) = true
    rw [wd_ok hw]
    rfl
  · show PyData.depthAll [.int x, .int y, .str e.w, .int e.n] + 1 ≤ 1
    simp [PyData.depthAll, PyData.depth]
theorem logs_shaped {es : List Ent} (h : ∀ e ∈ es, EntI e) : SeqAt.shaped (.list (es.map entD)) = true := by
  have key : ∀ es : List Ent, (∀ e ∈ es, EntI e) → PyData.canLayAll0 (es.map entD) = true ∧ PyData.depthAll (es.map entD) ≤ 1 := by
    intro es
    induction es with
    | nil => intro _; exact ⟨rfl, by show 0 ≤ 1; omega⟩
    | cons e es ih =>
      intro h
      obtain ⟨i1, i2⟩ := ih fun q hq => h q (List.mem_cons_of_mem _ hq)
      obtain ⟨a1, a2⟩ := entD_lay (h e List.mem_cons_self)
      refine ⟨?_, ?_⟩
      · show (PyData.canLay0 (entD e) && PyData.canLayAll0 (es.map entD)) = true
        rw [a1, i1]
        rfl
      · show max (PyData.depth (entD e)) (PyData.depthAll (es.map entD)) ≤ 1
        omega
  obtain ⟨h1, h2⟩ := key es h
  refine shaped_of h1 ?_
  show PyData.depthAll (es.map entD) + 1 ≤ 64
  omega
/-! ### nothing to settle -/
def Clean (r : Rm) : Prop := ∀ l, InR l r → l.d = false
theorem cleanR_self {r : Rm} (h : Clean r) : cleanR r = r := by
  have : (r.ss.map fun ls => ls.map fun l => ({ l with d := false } : Ln)) = r.ss := by
    have h2 : ∀ ls ∈ r.ss, (ls.map fun l => ({ l with d := false } : Ln)) = ls := fun ls hm => by
      have : ∀ l ∈ ls, ({ l with d := false } : Ln) = l := fun l hl => by
        have hd := h l ⟨ls, hm, hl⟩
        cases l with
        | mk b ns d =>
          have hd : d = false := hd
          rw [hd]
      exact List.map_congr_left this |>.trans (List.map_id' ls)
    exact List.map_congr_left h2 |>.trans (List.map_id' r.ss)
  unfold cleanR
  rw [this]
theorem settleL_clean {o : Ops} {u : Ru} : ∀ {ls : List Ln} {t : Ta}, (∀ l ∈ ls, l.d = false) → (settleL o u ls t).2 = t
  | [], t, _ => rfl
  | l :: r, t, h => by
    show (settleL o u r (if l.d = true then _ else t)).2 = t
    rw [h l List.mem_cons_self, if_neg Bool.false_ne_true]
    exact settleL_clean fun q hq => h q (List.mem_cons_of_mem _ hq)
theorem settleS_clean {o : Ops} {u : Ru} : ∀ {ss : List (List Ln)} {t : Ta}, (∀ ls ∈ ss, ∀ l ∈ ls, l.d = false) → (settleS o u ss t).2 = t
  | [], t, _ => rfl
  | ls :: r, t, h => by
    show (settleS o u r (settleL o u ls t).2).2 = t
    rw [settleL_clean (h ls List.mem_cons_self)]
    exact settleS_clean fun q hq => h q (List.mem_cons_of_mem _ hq)
theorem settleR_clean {n : Nat} {r : Rm} {t : Ta} (h : Clean r) : (settleR n r t).2 = t := settleS_clean fun ls hm l hl => h l ⟨ls, hm, hl⟩
def spRSettle0 (K : PySem.W.Frag) : Sp := fun vs H Q _ => ∃ (a : Addr) (be : Pa) (di : Addr) (r : Rm) (C1 R : List Cell), vs = [.ref a] ∧ RmRepK K di a be r C1 ∧ Clean r ∧ Own H (C1 ++ R) ∧ Q .non H
def spHSettle0 (K : PySem.W.Frag) : Sp := fun vs H Q _ => ∃ (x : Addr) (n m : Nat) (ha : Ha) (C R : List Cell), vs = [.ref x] ∧ HaOk n m ha ∧ HallRep K x ha C ∧ (∀ r ∈ ha.own ++ ha.t.rs, Clean r) ∧ Own H (C ++ R) ∧ ∀ H' : Hp, Own H' (C ++ R) → Q .non H'
section
variable {P : Program} {w : World} {K : PySem.W.Frag} {mg : Str → Option Value} {base : Heap} {n lv : Nat}
theorem ok_R_settle0 (T : Txt K mg) : FnOk P w K mg base CX0 12 (He.fAd K ("Room", some "settle")) T.fd_Room_settle ["self"] (spRSettle0 K) := by
  have G_Room_pass_home := ok_pass_home T (behN (P := P) (w := w) (base := base) T 0) (by decide)
  refine okOf T.F_Room_settle sc_Room_settle (fun vs H Q E h => ?_) (fun cdv A outer s H vs Q E hr h => ?_)
  · obtain ⟨_, _, _, _, _, _, rfl, _⟩ := h
    rfl
  · obtain ⟨a, be, di, r, C1, R, rfl, ⟨hd, ss, rfl, rfl, rfl, eu, esas, ess, rfl⟩, hcl, O, k⟩ := h
    have hlv : lvOf 0 = 1 := rfl
    refine ⟨_, (pss_one (ps_for PassesOwn.never rfl (pi_list (pe_fld (pv 0) rfl)) (pg_name (i := 1) sc_Room_settle.nd rfl (Or.inl rfl)) (pss_one (ps_for PassesOwn.never rfl (pi_list (pv 1)) (pg_name (i := 2) sc_Room_settle.nd rfl (Or.inl rfl)) (pss_one (ps_if (pt_val (pe_fld (pv 2) rfl)) (pss_one (ps_expr (pe_meth (pv 0) T.cl_Room T.m_Room_pass_home G_Room_pass_home (hr.mono (by omega)) T.b_Room_pass_home .nil pass0 (pa_cons (pv 2) pa_nil)))) pss_nil)))))), ?_⟩
    refine ⟨_, rfl, hd.a, cR K, hd.dx, _, _, rfl, O.a0, T.cl_Room, T.na_Room_sets, lk_Room_sets, hd.sl, rfl, ⟨_, SqL.of O.a1⟩, ?_⟩
    refine for_list (K := K) (a := hd.sl) (xs := hd.sas.map V.ref) (fun i σ H' => (∃ v1 v2, σ = [some (.ref hd.a), v1, v2]) ∧ H' = H) ⟨⟨_, _, rfl⟩, rfl⟩ (fun i σ H' _ ⟨_, e⟩ => by rw [e]; exact SqL.of O.a1) ?_ ?_
    · rintro i x σ H1 hi ⟨⟨v1, v2, rfl⟩, rfl⟩
      rw [esas, List.map_map, List.getElem?_map] at hi
      cases hs : ss[i]? with
      | none =>
        rw [hs] at hi
        cases hi
      | some s =>
        rw [hs] at hi
        have ex : V.ref s.1 = x := Option.some.inj hi
        subst ex
        have hsm : ∀ c ∈ stC (cL K) s, c ∈ ((hdC (cR K) hd ++ stsC (cL K) ss) ++ R) := fun c hc => List.mem_append_left _ (List.mem_append_right _ (sts_mem hs c hc))
        have hrs : r.ss[i]? = some (s.2.map (·.l)) := by rw [ess, List.getElem?_map, hs]; rfl
        have hsq : SqL K H1 s.1 (s.2.map fun l => V.ref l.a) := SqL.of (O.mem (hsm _ List.mem_cons_self))
        refine ⟨_, rfl, s.1, rfl, ⟨_, hsq⟩, ?_⟩
        refine for_list (K := K) (a := s.1) (xs := s.2.map fun l => V.ref l.a) (fun j σ H' => (∃ v2, σ = [some (.ref hd.a), some (.ref s.1), v2]) ∧ H' = H1) ⟨⟨_, rfl⟩, rfl⟩ (fun j σ H' _ ⟨_, e⟩ => by rw [e]; exact hsq) ?_ ?_
        · rintro j y σ H2 hj ⟨⟨v2, rfl⟩, rfl⟩
          rw [List.getElem?_map] at hj
          cases hl : s.2[j]? with
          | none =>
            rw [hl] at hj
            cases hj
          | some l =>
            rw [hl] at hj
            have ey : V.ref l.a = y := Option.some.inj hj
            subst ey
            have h1 : H2 l.a = some (.ins (cL K) l.dx (fLine (.int l.l.b) (.ref l.na) (.bl l.l.d))) := O.mem (hsm _ (List.mem_cons_of_mem _ (lns_mem hl _ List.mem_cons_self)))
            have hd0 : l.l.d = false := hcl l.l ⟨_, List.mem_of_getElem? hrs, List.mem_map.mpr ⟨l, List.mem_of_getElem? hl, rfl⟩⟩
            refine ⟨_, rfl, l.a, cL K, l.dx, _, _, rfl, h1, T.cl_Line, T.na_Line_is_dirty, lk_Line_is_dirty, _, rfl, ?_⟩
            rw [hd0]
            exact iteF ⟨⟨_, rfl⟩, rfl⟩
        · rintro σ H2 ⟨⟨v2, rfl⟩, rfl⟩
          exact ⟨⟨_, _, rfl⟩, rfl⟩
    · rintro σ H1 ⟨_, rfl⟩
      exact k
theorem ok_H_settle0 (T : Txt K mg) : FnOk P w K mg base CX0 13 (He.fAd K ("Hall", some "settle")) T.fd_Hall_settle ["self"] (spHSettle0 K) := by
  have G_Room_settle := ok_R_settle0 (P := P) (w := w) (base := base) T
  refine okOf T.F_Hall_settle sc_Hall_settle (fun vs H Q E h => ?_) (fun cdv A outer s H vs Q E hr h => ?_)
  · obtain ⟨_, _, _, _, _, _, rfl, _⟩ := h
    rfl
  · obtain ⟨x, n, m, ha, C, R, rfl, hk, ⟨A, rfl, Co, Cb, D, h1, h2, h3, rfl⟩, hcl, O, k⟩ := h
    have ho := h1.len
    have hm3 := hk.m3
    have hn2 := hk.n2
    have hlen := hk.len
    have htl := hk.t.len
    have hrooms : A.sh.rooms.length = n := by
      rw [Rep.rooms h2]
      exact htl
    have hx : H A.x = some (.ins (cH K) A.dx (fHall (.ref A.di) (.ref A.sh.last) (.ref A.sl) (.ref A.ol))) := O.a0
    have hs : H A.sl = some (.lst (A.sh.rooms.map V.ref)) := O.a1
    have hol : H A.ol = some (.lst (A.owns.map V.ref)) := O.a2
    refine ⟨_, (pss_one (ps_for PassesOwn.never rfl (pi_list (pe_op op_cat (pe_fld (pv 0) rfl) (pe_fld (pv 0) rfl))) (pg_name (i := 1) sc_Hall_settle.nd rfl (Or.inl rfl)) (pss_one (ps_expr (pe_meth0 (pv 1) T.cl_Room T.m_Room_settle G_Room_settle (hr.mono (by omega)) T.b_Room_settle .nil pass0))))), ?_⟩
    refine ⟨_, rfl, A.x, cH K, A.dx, _, _, rfl, hx, T.cl_Hall, T.na_Hall_own, lk_Hall_own, _, rfl, A.x, cH K, A.dx, _, _, rfl, hx, T.cl_Hall, T.na_Hall_shared, lk_Hall_shared, A.ol, A.sl, _, _, rfl, rfl, hol, hs, by rw [List.length_map, List.length_map]; exact Nat.le_of_lt (size1 (by omega)), fun q hq => ?_⟩
    have O1 := O.new (o := .lst (A.owns.map V.ref ++ A.sh.rooms.map V.ref)) hq
    generalize upd H q _ = H1 at O1 ⊢
    refine ⟨q, rfl, ⟨_, SqL.of O1.a0⟩, ?_⟩
    refine for_list (K := K) (a := q) (xs := A.owns.map V.ref ++ A.sh.rooms.map V.ref) (fun i σ H' => (∃ v, σ = [some (.ref A.x), v]) ∧ H' = H1) ⟨⟨_, rfl⟩, rfl⟩ (fun i σ H' _ ⟨_, e⟩ => by rw [e]; exact SqL.of O1.a0) ?_ ?_
    · rintro i y σ H2 hi ⟨⟨v, rfl⟩, rfl⟩
      have key : ∃ (a : Addr) (be : Pa) (r : Rm) (C1 Z : List Cell), y = .ref a ∧ RmRepK K A.di a be r C1 ∧ r ∈ ha.own ++ ha.t.rs ∧ Own H2 (C1 ++ Z) := by
        by_cases him : i < m
        · obtain ⟨r, er⟩ : ∃ r, ha.own[i]? = some r := ⟨_, List.getElem?_eq_getElem (by omega)⟩
          obtain ⟨a, C1, Z, g1, g2, g3, _⟩ := h1.at er
          rw [List.getElem?_append_left (by rw [List.length_map]; omega), List.getElem?_map, g1] at hi
          refine ⟨a, A.sh, r, C1, (q, .lst (A.owns.map V.ref ++ A.sh.rooms.map V.ref)) :: (hallC K A ++ (Z ++ (Cb ++ (D ++ R)))), (Option.some.inj hi).symm, g2, List.mem_append_left _ (List.mem_of_getElem? er), O1.perm ?_⟩
          refine (List.Perm.cons _ (List.Perm.append_right R (List.Perm.append_left _ (List.Perm.append_right _ g3)))).trans ?_
          walk_at "perm"
        · have hil : i < m + n := by
            have := (List.getElem?_eq_some_iff.mp hi).1
            rw [List.length_append, List.length_map, List.length_map] at this
            omega
          obtain ⟨r, er⟩ : ∃ r, ha.t.rs[i - m]? = some r := ⟨_, List.getElem?_eq_getElem (by omega)⟩
          obtain ⟨a, be', C1, Z, g1, g2, g3⟩ := Rep.at h2 er
          rw [List.getElem?_append_right (by rw [List.length_map]; omega), List.length_map, ho, hlen, List.getElem?_map, g1] at hi
          refine ⟨a, be', r, C1, (q, .lst (A.owns.map V.ref ++ A.sh.rooms.map V.ref)) :: (hallC K A ++ (Co ++ (Z ++ (D ++ R)))), (Option.some.inj hi).symm, g2, List.mem_append_right _ (List.mem_of_getElem? er), O1.perm ?_⟩
          refine (List.Perm.cons _ (List.Perm.append_right R (List.Perm.append_left _ (List.Perm.append_left _ (List.Perm.append_right _ g3))))).trans ?_
          walk_at "perm"
      obtain ⟨a, be, r, C1, Z, rfl, g1, g2, O2⟩ := key
      obtain ⟨dxr, _, _, _, _, _, _, _, _, hmr⟩ := room_obj (A := A) g1
      exact ⟨_, rfl, a, dxr, _, rfl, O2.mem (List.mem_append_left _ hmr), no_Room_settle, a, be, A.di, r, C1, Z, rfl, g1, hcl r g2, O2, ⟨_, rfl⟩, rfl⟩
    · rintro σ H2 ⟨_, rfl⟩
      exact k _ O1.tail
end
-- WwM
/-! ### list.count of texts -/
def eqTx (k : Str) (v : Value) : Bool := match v with
  | .str n _ => n == k
  | _ => false
inductive TxAre : List Value → List Str → Prop
  | nil : TxAre [] []
  | cons {us : List Value} {ns : List Str} (x : Str) (t : Tok) : TxAre us ns → TxAre (.str x t :: us) (x :: ns)
theorem txAre_of : ∀ {ns : List Str} {us : List Value}, Vals (ns.map V.str) us → TxAre us ns
  | [], _, .nil => .nil
  | n :: ns, _, .cons r h => by
    obtain ⟨t, rfl⟩ := r
    exact .cons n t (txAre_of h)
theorem eqTx_at {A : Around} {s : Shared} {k : Str} {t : Tok} : ∀ {us : List Value} {ns : List Str}, TxAre us ns → ∀ y ∈ us, SeqAt.EqAt A s y (.str k t) (eqTx k y)
  | _, _, .nil => fun y hy => by cases hy
  | _, _, .cons n t' h => fun y hy => by
    rcases List.mem_cons.mp hy with e | e
    · rw [e]
      exact SeqAt.EqAt.str_str n t' k t
    · exact eqTx_at h y e
theorem eqTx_count {k : Str} : ∀ {us : List Value} {ns : List Str}, TxAre us ns → us.countP (eqTx k) = ns.countP (· == k)
  | _, _, .nil => rfl
  | _, _, .cons n t h => by
    have ih := eqTx_count (k := k) h
    rw [List.countP_cons, List.countP_cons, ih] <;> rfl
def rCntS (K : PySem.W.Frag) : V → List V → Hp → VK → Prop := fun x xs H Q => ∃ (p : Addr) (ns : List Str) (k : Str), x = .ref p ∧ xs = [.str k] ∧ SqL K H p (ns.map V.str) ∧ Q (.int (ns.countP (· == k) : Nat)) H
theorem mt_lcountS {X : Cx} : MtR X "list.count" (rCntS X.K) := by
  intro pins s σ H x xs v us Q I rx rxs h
  obtain ⟨p, ns, k, rfl, rfl, hs, q⟩ := h
  cases rx
  obtain ⟨u, rfl, ru⟩ := rxs.one
  obtain ⟨t, rfl⟩ := ru
  obtain ⟨its, rv, ⟨⟨cls, dd, data, sl⟩, n, ho, hc, hdn, hd⟩, hlen⟩ := I.list hs
  simp only at hc hd
  subst hc hd
  have hi := txAre_of rv
  refine call_meets PySem.F.slot_list_count ⟨_, ho, rfl⟩ PySem.F.entry_list_count (PySem.F.args_list_count_2 _ _) (SeqAt.list_countAt p its.toArray n dd sl (.str k t) (eqTx k)) ⟨ho, fun y hy => eqTx_at hi y (by simpa using hy), ?_⟩
  have ec : its.toArray.toList.countP (eqTx k) = ns.countP (· == k) := eqTx_count hi
  refine ⟨.int (ns.countP (· == k) : Nat), H, I.tok _, ⟨s.toks, ?_⟩, q⟩
  show Value.int ((its.toArray.toList.countP (eqTx k) : Nat) : Int) s.toks = _
  rw [ec]
/-! ### moves -/
def lvW (log : List Ent) (lev : Nat) : List Str := (log.filter fun e => decide (e.tl.head? = some (V.int lev))).map (·.w)
def mvOf (log : List Ent) (lev : Nat) : List Int := [((lvW log lev).countP (· == ("bring" : Str)) : Nat), ((lvW log lev).countP (· == ("home" : Str)) : Nat), ((lvW log lev).countP (· == ("cell" : Str)) : Nat)]
def spMoves (K : PySem.W.Frag) : Sp := fun vs H Q _ => ∃ (x : Addr) (n m : Nat) (ha : Ha) (C R : List Cell), vs = [.ref x] ∧ HaOk n m ha ∧ ha.t.log.length ≤ 990000 ∧ HaP EntI ha ∧ HallRep K x ha C ∧ Own H (C ++ R) ∧
  ∀ (p : Addr) (as : List Addr) (N : List Cell) (H' : Hp), TA N as ((List.range (n + 1)).map fun lev => (mvOf ha.t.log lev).map V.int) → Own H' ((p, .lst (as.map V.ref)) :: (N ++ (C ++ R))) → Q (.ref p) H'
section
variable {P : Program} {w : World} {K : PySem.W.Frag} {mg : Str → Option Value} {base : Heap} {n lv : Nat}
theorem ok_H_moves (T : Txt K mg) : FnOk P w K mg base CX0 1 (He.fAd K ("Hall", some "moves")) T.fd_Hall_moves ["self"] (spMoves K) := by
  refine okOf T.F_Hall_moves sc_Hall_moves (fun vs H Q E h => ?_) (fun cdv A outer s H vs Q E hr h => ?_)
  · obtain ⟨_, _, _, _, _, _, rfl, _⟩ := h
    rfl
  · obtain ⟨x, n, m, ha, C, R, rfl, hk, hl, hp, hC0, O, k⟩ := h
    obtain ⟨A, rfl, Co, Cb, D, h1, h2, ⟨das, h3, rfl⟩, rfl⟩ := hC0
    have htl := hk.t.len
    have hn2 := hk.n2
    have hrooms : A.sh.rooms.length = n := by
      rw [Rep.rooms h2]
      exact htl
    refine ⟨_, (pss_cons (ps_set (i := 1) sc_Hall_moves.nd rfl (Or.inl rfl) (pe_lst pa_nil)) (pss_cons (ps_for PassesOwn.never rfl (pi_range1 (by rfl) T.n_range (pa_cons (pe_op op_add (pe_callB call_len_seq (by rfl) T.n_len PySem.boot_len (pa_cons (pe_fld (pv 0) rfl) pa_nil)) pe_int) pa_nil)) (pg_name (i := 2) sc_Hall_moves.nd rfl (Or.inr rfl)) (pss_cons (ps_setLc (i := 3) (tt := (tTest (tOp rEq (tVar 4) (tVar 2)))) (g := (gTup K 4 (gCons (gName 4) (gCons (gName 5) (gCons (gName 6) (gCons (gName 7) gNil)))))) (own := [("one", 4), ("hand", 5), ("word", 6), ("number", 7)]) (by rfl) sc_Hall_moves.nd rfl rfl (sw_true rfl rfl rfl (by decide +kernel)) (pi_list (pe_fld (pv 0) rfl)) (blkOk_by (own := [("one", 4), ("hand", 5), ("word", 6), ("number", 7)]) (by kernel_rfl)) (fun _ _ _ _ _ => (pg_tup (by rfl) (pgs_cons (pg_name (i := 4) sc_Hall_moves.nd rfl (Or.inl rfl)) (pgs_cons (pg_name (i := 5) sc_Hall_moves.nd rfl (Or.inl rfl)) (pgs_cons (pg_name (i := 6) sc_Hall_moves.nd rfl (Or.inl rfl)) (pgs_cons (pg_name (i := 7) sc_Hall_moves.nd rfl (Or.inl rfl)) pgs_nil)))))) (fun _ _ _ _ _ => (pts_one (pt_cmpR op_eq (pv 4) (pv 2) (nomark _)))) (fun _ _ _ _ _ => (pv 6))) (pss_one (ps_expr (pe_bm PySem.F.plainAttrs_list PySem.F.slot_list_append PySem.F.type_list_append mt_append (pv 1) (pa_cons (pe_tup (pa_cons (pe_bm PySem.F.plainAttrs_list PySem.F.slot_list_count PySem.F.type_list_count mt_lcountS (pv 3) (pa_cons (pe_globS rfl T.g_BRING) pa_nil)) (pa_cons (pe_bm PySem.F.plainAttrs_list PySem.F.slot_list_count PySem.F.type_list_count mt_lcountS (pv 3) (pa_cons (pe_globS rfl T.g_HOME) pa_nil)) (pa_cons (pe_bm PySem.F.plainAttrs_list PySem.F.slot_list_count PySem.F.type_list_count mt_lcountS (pv 3) (pa_cons (pe_globS rfl T.g_CELL) pa_nil)) pa_nil)))) pa_nil)))))) (pss_one (ps_ret (pv 1))))), ?_⟩
    refine ⟨by show 0 ≤ sizeLine; decide, fun D0 hD0 => ?_⟩
    have O1 := O.new (o := .lst []) hD0
    generalize upd H D0 _ = H1 at O1 ⊢
    obtain ⟨B, hB⟩ : ∃ B, B = (hallC K A ++ (Co ++ (Cb ++ ((A.di, .lst (das.map V.ref)) :: logC das ha.t.log)))) ++ R := ⟨_, rfl⟩
    have hxB : (A.x, HO.ins (cH K) A.dx (fHall (.ref A.di) (.ref A.sh.last) (.ref A.sl) (.ref A.ol))) ∈ B := by
      rw [hB]
      exact List.mem_append_left _ (List.mem_append_left _ List.mem_cons_self)
    have hsB : (A.sl, HO.lst (A.sh.rooms.map V.ref)) ∈ B := by
      rw [hB]
      exact List.mem_append_left _ (List.mem_append_left _ (List.mem_cons_of_mem _ List.mem_cons_self))
    have hdB : (A.di, HO.lst (das.map V.ref)) ∈ B := by
      rw [hB]
      exact List.mem_append_left _ (List.mem_append_right _ (List.mem_append_right _ (List.mem_append_right _ List.mem_cons_self)))
    have hlB : ∀ c ∈ logC das ha.t.log, c ∈ B := fun c hc => by
      rw [hB]
      exact List.mem_append_left _ (List.mem_append_right _ (List.mem_append_right _ (List.mem_append_right _ (List.mem_cons_of_mem _ hc))))
    have hTA := (logC_TA h3).mono hlB
    rw [← hB] at O1 k
    have hin : ∀ {H : Hp} {L : List Cell} {a : Addr} {o : HO}, Own H (L ++ B) → (a, o) ∈ B → H a = some o := fun O h => O.mem (List.mem_append_right _ h)
    refine ⟨_, rfl, A.x, cH K, A.dx, _, _, rfl, hin (L := [_]) O1 hxB, T.cl_Hall, T.na_Hall_shared, lk_Hall_shared, A.sl, _, rfl, .inl (SqL.of (hin (L := [_]) O1 hsB)), _, _, rfl, rfl, ((n + 1 : Nat) : Int), by rw [List.length_map, hrooms]; rfl, by omega, by omega, ?_⟩
    refine for_range (lo := 0) (n := n + 1) (fun i σ H' => (∃ v2 v3 v4 v5 v6 v7, σ = [some (.ref A.x), some (.ref D0), v2, v3, v4, v5, v6, v7]) ∧ ∃ (as : List Addr) (N : List Cell), TA N as ((List.range i).map fun lev => (mvOf ha.t.log lev).map V.int) ∧ Own H' ((D0, .lst (as.map V.ref)) :: (N ++ B)))
      ⟨⟨_, _, _, _, _, _, rfl⟩, [], [], trivial, O1⟩ ?_ ?_
    · rintro i σ H2 hi ⟨⟨v2, v3, v4, v5, v6, v7, rfl⟩, as, N, hta, O2⟩
      have ei : (0 : Int) + (i : Int) = ((i : Nat) : Int) := by omega
      rw [ei]
      have hal := hta.len
      rw [List.length_map, List.length_range] at hal
      have hin2 : ∀ {H : Hp} {c : Cell} {a : Addr} {o : HO}, Own H (c :: (N ++ B)) → (a, o) ∈ B → H a = some o := fun O h => O.mem (List.mem_cons_of_mem _ (List.mem_append_right _ h))
      have hin3 : ∀ {H : Hp} {c c' : Cell} {a : Addr} {o : HO}, Own H (c' :: c :: (N ++ B)) → (a, o) ∈ B → H a = some o := fun O h => O.mem (List.mem_cons_of_mem _ (List.mem_cons_of_mem _ (List.mem_append_right _ h)))
      refine ⟨_, rfl, A.x, cH K, A.dx, _, _, rfl, hin2 O2 hxB, T.cl_Hall, T.na_Hall_diary, lk_Hall_diary, A.di, rfl, ⟨_, SqL.of (hin2 O2 hdB)⟩, fun W hW => ?_⟩
      refine lc_list (K := K) (a := A.di) (xs := das.map V.ref) (fun t H' => Own H' ((W, .lst ((lvW (ha.t.log.take t) i).map V.str)) :: (D0, .lst (as.map V.ref)) :: (N ++ B))) (O2.new hW) (fun t H' _ O' => SqL.of (hin3 O' hdB)) ?_ ?_
      · rintro t y H3 ht O3
        have htl2 : t < das.length := by
          have := (List.getElem?_eq_some_iff.mp ht).1
          rwa [List.length_map] at this
        obtain ⟨e, he⟩ : ∃ e, ha.t.log[t]? = some e := ⟨_, List.getElem?_eq_getElem (by omega)⟩
        obtain ⟨u, hu1, hu2⟩ := hTA.get (List.getElem?_eq_getElem htl2)
        rw [List.getElem?_map, he] at hu1
        have hu1 : e.vs = u := Option.some.inj hu1
        subst hu1
        have hy : y = .ref das[t] := by
          rw [List.getElem?_map, List.getElem?_eq_getElem htl2] at ht
          exact (Option.some.inj ht).symm
        subst hy
        generalize das[t] = da at hu2
        obtain ⟨⟨a, b, etl⟩, _⟩ := hp.t.log e (List.mem_of_getElem? he)
        have m1 := hin3 O3 hu2
        have hlv : lvW (ha.t.log.take (t + 1)) i = lvW (ha.t.log.take t) i ++ (if a = i then [e.w] else []) := by
          unfold lvW
          rw [take_snoc he, List.filter_append, List.map_append]
          congr 1
          by_cases z : a = i
          · rw [if_pos z]
            have : decide (e.tl.head? = some (V.int (i : Nat))) = true := by
              rw [etl, z]
              exact decide_eq_true rfl
            show ((match decide (e.tl.head? = some (V.int (i : Nat))) with | true => e :: [] | false => []) : List Ent).map (·.w) = [e.w]
            rw [this]
            rfl
          · rw [if_neg z]
            have : decide (e.tl.head? = some (V.int (i : Nat))) = false := by
              rw [etl]
              refine Bool.eq_false_iff.mpr fun q => ?_
              have q := Option.some.inj (of_decide_eq_true q)
              exact z (Int.ofNat.inj (V.int.inj q))
            show ((match decide (e.tl.head? = some (V.int (i : Nat))) with | true => e :: [] | false => []) : List Ent).map (·.w) = []
            rw [this]
            rfl
        unfold Ent.vs at m1
        rw [etl] at m1
        refine ⟨da, _, rfl, SqT.of m1, rfl, _, _, rfl, _, _, rfl, _, _, rfl, _, _, rfl, rfl, rfl, _, rfl, _, rfl, rfl, decide (a = i), ?_, ?_⟩
        · have : decide (V.int (a : Nat) = V.int (i : Nat)) = decide (a = i) := decide_eq_decide.mpr ⟨fun e => Int.ofNat.inj (V.int.inj e), fun e => by rw [e]⟩
          rw [this]
        · rw [hlv]
          by_cases z : a = i
          · rw [decide_eq_true z, if_pos z]
            refine iteT ⟨_, rfl, _, O3.a0, ?_, ?_⟩
            · rw [List.length_map]
              have : (lvW (ha.t.log.take t) i).length ≤ t := by
                unfold lvW
                rw [List.length_map]
                exact Nat.le_trans (List.length_filter_le _ _) (by rw [List.length_take]; omega)
              exact size1 (by omega)
            · rw [List.map_append]
              exact O3.set
          · rw [decide_eq_false z, if_neg z, List.append_nil]
            exact iteF O3
      intro H3 O3
      have ed : (das.map V.ref).length = ha.t.log.length := by
        rw [List.length_map]
        exact h3
      rw [ed, List.take_length] at O3
      refine ⟨_, rfl, .inl ⟨rfl, _, SqL.of O3.a1⟩, ?_⟩
      refine ⟨_, rfl, .inl ⟨rfl, _, SqL.of O3.a0⟩, W, lvW ha.t.log i, "bring", rfl, rfl, SqL.of O3.a0, ?_⟩
      refine ⟨_, rfl, .inl ⟨rfl, _, SqL.of O3.a0⟩, W, lvW ha.t.log i, "home", rfl, rfl, SqL.of O3.a0, ?_⟩
      refine ⟨_, rfl, .inl ⟨rfl, _, SqL.of O3.a0⟩, W, lvW ha.t.log i, "cell", rfl, rfl, SqL.of O3.a0, by show 3 ≤ sizeLine; decide, fun q hq => ?_⟩
      have O4 := O3.new (o := .tup ((mvOf ha.t.log i).map V.int)) hq
      refine ⟨D0, _, _, rfl, rfl, O4.a2, by rw [List.length_map]; exact size1 (by omega), ⟨_, _, _, _, _, _, rfl⟩, as ++ [q], (q, .tup ((mvOf ha.t.log i).map V.int)) :: N, ?_, ?_⟩
      · rw [List.range_succ, List.map_append]
        exact (hta.mono fun c hc => List.mem_cons_of_mem _ hc).app ⟨List.mem_cons_self, trivial⟩
      · rw [List.map_append]
        have O5 := (O4.perm (L' := (D0, .lst (as.map V.ref)) :: (W, .lst ((lvW ha.t.log i).map V.str)) :: (((q, .tup ((mvOf ha.t.log i).map V.int)) :: N) ++ B)) (by walk_at "perm")).set (o' := .lst (as.map V.ref ++ [.ref q]))
        have O6 := Own.tail (O5.perm (L' := (W, .lst ((lvW ha.t.log i).map V.str)) :: (D0, .lst (as.map V.ref ++ [.ref q])) :: (((q, .tup ((mvOf ha.t.log i).map V.int)) :: N) ++ B)) (by walk_at "perm"))
        exact O6
    · rintro σ H2 ⟨⟨v2, v3, v4, v5, v6, v7, rfl⟩, as, N, hta, O2⟩
      exact ⟨_, rfl, k D0 as N H2 hta O2⟩
end
-- WwN
/-! ### deeds, done and told -/
def lkV : V → List Int
  | .int i => [i]
  | _ => []
def runD (n : Nat) (ha : Ha) : List Deed → List Int × Ha
  | [] => ([], ha)
  | d :: ds => (lkV (doDeed n ha d).1 ++ (runD n (doDeed n ha d).2 ds).1, (runD n (doDeed n ha d).2 ds).2)
theorem runD_snoc {n : Nat} : ∀ (ds : List Deed) (ha : Ha) (d : Deed), runD n ha (ds ++ [d]) = ((runD n ha ds).1 ++ lkV (doDeed n (runD n ha ds).2 d).1, (doDeed n (runD n ha ds).2 d).2)
  | [], ha, d => by
    show (lkV (doDeed n ha d).1 ++ [], (doDeed n ha d).2) = ([] ++ lkV (doDeed n ha d).1, _)
    rw [List.append_nil]
    rfl
  | a :: ds, ha, d => by
    have ih := runD_snoc (n := n) ds (doDeed n ha a).2 d
    show (lkV _ ++ (runD n (doDeed n ha a).2 (ds ++ [d])).1, (runD n (doDeed n ha a).2 (ds ++ [d])).2) = ((lkV _ ++ (runD n (doDeed n ha a).2 ds).1) ++ _, _)
    rw [ih, List.append_assoc]
    rfl
theorem runD_ok {n m : Nat} : ∀ {ds : List Deed} {ha : Ha}, (∀ d ∈ ds, d.ok m) → HaOk n m ha → HaOk n m (runD n ha ds).2 ∧ (runD n ha ds).2.t.log.length ≤ ha.t.log.length + 100 * ds.length ∧ (runD n ha ds).1.length ≤ ds.length
  | [], ha, _, h => ⟨h, by show ha.t.log.length ≤ _; omega, Nat.le_refl _⟩
  | d :: ds, ha, hd, h => by
    obtain ⟨h1, h2⟩ := doDeed_ok h (hd d List.mem_cons_self)
    obtain ⟨i1, i2, i3⟩ := runD_ok (ds := ds) (fun q hq => hd q (List.mem_cons_of_mem _ hq)) h1
    refine ⟨i1, ?_, ?_⟩
    · show (runD n (doDeed n ha d).2 ds).2.t.log.length ≤ _
      rw [List.length_cons]
      omega
    · show (lkV (doDeed n ha d).1 ++ (runD n (doDeed n ha d).2 ds).1).length ≤ _
      rw [List.length_append, List.length_cons]
      have : (lkV (doDeed n ha d).1).length ≤ 1 := by cases d <;> simp [doDeed, lkV]
      omega
theorem runD_p {P : Ent → Prop} {n : Nat} : ∀ {ds : List Deed} {ha : Ha}, HaP P ha → HaP P (runD n ha ds).2
  | [], ha, h => h
  | d :: ds, ha, h => runD_p (ds := ds) (h.deed d)
def toldOf (us : List Rul) (m : Nat) (ds : List Deed) : List Int × List (List Int) × List Int :=
  ((runD (us.length - 1) (hall0 us m) ds).1, (List.range us.length).map (mvOf (hSettle (us.length - 1) (runD (us.length - 1) (hall0 us m) ds).2).t.log), (hSettle (us.length - 1) (runD (us.length - 1) (hall0 us m) ds).2).t.far)
def spIsDeed : Sp := fun vs H Q _ => ∃ (da : Addr) (m : Nat) (d : Deed), vs = [.ref da, .int m] ∧ d.ok m ∧ H da = some (.tup d.vs) ∧ Q (.bl true) H
def spNeedDeeds : Sp := fun vs H Q _ => ∃ (pd : Addr) (m : Nat) (ds : List Deed) (R : List Cell), vs = [.ref pd, .int m] ∧ (∀ d ∈ ds, d.ok m) ∧ ds.length ≤ 200 ∧ DeedsAt R pd ds ∧ Own H R ∧ ∀ H', Own H' R → Q .non H'
def spDone (K : PySem.W.Frag) : Sp := fun vs H Q _ => ∃ (x pd : Addr) (n m : Nat) (ha : Ha) (ds : List Deed) (C R : List Cell), vs = [.ref x, .ref pd] ∧ HaOk n m ha ∧ ha.t.log.length ≤ 500000 ∧ (∀ d ∈ ds, d.ok m) ∧ ds.length ≤ 200 ∧ DeedsAt R pd ds ∧ HallRep K x ha C ∧ Own H (C ++ R) ∧
  ∀ (p : Addr) (C' : List Cell) (H' : Hp), HallRep K x (runD n ha ds).2 C' → Own H' ((p, .lst ((runD n ha ds).1.map V.int)) :: (C' ++ R)) → Q (.ref p) H'
def spTold (K : PySem.W.Frag) : Sp := fun vs H Q _ => ∃ (rl pd : Addr) (us : List Rul) (m : Nat) (ds : List Deed) (R : List Cell), vs = [.ref rl, .int m, .ref pd] ∧ RulesOk us ∧ 1 ≤ m ∧ m ≤ 3 ∧ (∀ d ∈ ds, d.ok m) ∧ ds.length ≤ 200 ∧ RulesAt R rl us ∧ DeedsAt R pd ds ∧ Own H R ∧
  ∀ (p p1 p2 p3 : Addr) (as : List Addr) (N : List Cell) (H' : Hp), TA N as ((toldOf us m ds).2.1.map fun r => r.map V.int) →
    Own H' ((p, .tup [.ref p1, .ref p2, .ref p3]) :: (p1, .lst ((toldOf us m ds).1.map V.int)) :: (p2, .lst (as.map V.ref)) :: (p3, .lst ((toldOf us m ds).2.2.map V.int)) :: (N ++ R)) → Q (.ref p) H'
section
variable {P : Program} {w : World} {K : PySem.W.Frag} {mg : Str → Option Value} {base : Heap} {n lv : Nat}
theorem ok_is_deed (T : Txt K mg) : FnOk P w K mg base CX0 2 (He.fAd K ("is_deed", none)) T.fd_is_deed ["deed", "hands"] spIsDeed := by
  have G_is_number := ok_is_number (P := P) (w := w) (base := base) T
  refine okOf T.F_is_deed sc_is_deed (fun vs H Q E h => ?_) (fun cdv A outer s H vs Q E hr h => ?_)
  · obtain ⟨_, _, _, rfl, _⟩ := h
    rfl
  · obtain ⟨da, m, d, rfl, hd, hda, k⟩ := h
    refine ⟨_, (pss_cons (ps_if (PW.pt (pw_or (pt_not (pt_val (pe_callB call_isi (by rfl) T.n_isinstance (by decide +kernel) (pa_cons (pv 0) (pa_cons (pe_bltn (v := .ty "tuple") (by rfl) T.n_tuple (by decide +kernel) rfl) pa_nil))))) (pw_or (pt_cmpR op_lt (pe_callB call_len_seq (by rfl) T.n_len PySem.boot_len (pa_cons (pv 0) pa_nil)) pe_int (nomark _)) (pw_or1 (pt_not (pt_val (pe_call G_is_number (hr.mono (by omega)) rfl T.g_is_number T.k_is_number T.b_is_number .nil pass0 (pa_cons (pe_ix ix_tup (pv 0) pe_int (fun _ _ => rfl)) (pa_cons pe_int (pa_cons (pe_op op_sub (pv 1) pe_int) pa_nil)))))))))) (pss_one (ps_ret pe_bl)) pss_nil) (pss_cons (ps_if (pt_not (pt_val (pe_call G_is_number (hr.mono (by omega)) rfl T.g_is_number T.k_is_number T.b_is_number .nil pass0 (pa_cons (pe_ix ix_tup (pv 0) pe_int (fun _ _ => rfl)) (pa_cons pe_int (pa_cons (pe_op op_sub (pe_globI rfl T.g_CELLS) pe_int) pa_nil)))))) (pss_one (ps_ret pe_bl)) pss_nil) (pss_cons (ps_if (pt_cmpR op_eq (pe_ix ix_tup (pv 0) pe_int (fun _ _ => rfl)) (pe_globS rfl T.g_LOOK) (nomark _)) (pss_one (ps_ret (pe_cmpR op_eq (pe_callB call_len_seq (by rfl) T.n_len PySem.boot_len (pa_cons (pv 0) pa_nil)) pe_int (nomark _)))) pss_nil) (pss_one (ps_ret (pe_and (pe_cmpR op_eq (pe_ix ix_tup (pv 0) pe_int (fun _ _ => rfl)) (pe_globS rfl T.g_SET) (nomark _)) (pe_and (pe_cmpR op_eq (pe_callB call_len_seq (by rfl) T.n_len PySem.boot_len (pa_cons (pv 0) pa_nil)) pe_int (nomark _)) (pe_one (pe_call G_is_number (hr.mono (by omega)) rfl T.g_is_number T.k_is_number T.b_is_number .nil pass0 (pa_cons (pe_ix ix_tup (pv 0) pe_int (fun _ _ => rfl)) (pa_cons pe_int (pa_cons (pe_globI rfl T.g_MOST_NUMBER) pa_nil)))))))))))), ?_⟩
    refine ⟨_, rfl, _, _, _, _, true, rfl, ClsV.ty _, TyX.base (.tup hda), kit_ty (by decide +kernel), true, rfl, iteF ?_⟩
    have hl : decide (((d.vs.length : Nat) : Int) < 3) = false := by cases d <;> rfl
    refine ⟨_, rfl, da, _, rfl, .inr (SqT.of hda), _, _, rfl, rfl, false, congrArg V.bl hl, iteF ?_⟩
    have h1 : (0 : Int) ≤ (d.h : Nat) ∧ ((d.h : Nat) : Int) ≤ (m : Int) - 1 := by
      cases d with
      | look hh p =>
        have := hd.1
        show (0 : Int) ≤ (hh : Nat) ∧ ((hh : Nat) : Int) ≤ (m : Int) - 1
        omega
      | set hh p v =>
        have := hd.1
        show (0 : Int) ≤ (hh : Nat) ∧ ((hh : Nat) : Int) ≤ (m : Int) - 1
        omega
    have h2 : (0 : Int) ≤ (d.p : Nat) ∧ ((d.p : Nat) : Int) ≤ 63 := by
      cases d with
      | look hh p =>
        have := hd.2
        show (0 : Int) ≤ (p : Nat) ∧ ((p : Nat) : Int) ≤ 63
        omega
      | set hh p v =>
        have := hd.2.1
        show (0 : Int) ≤ (p : Nat) ∧ ((p : Nat) : Int) ≤ 63
        omega
    refine ⟨_, rfl, da, _, 1, .int d.h, rfl, rfl, SqT.of hda, d.at1, _, rfl, _, _, rfl, rfl, (d.h : Nat), 0, (m : Int) - 1, rfl, true, by rw [decide_eq_true h1], iteF ?_⟩
    refine ⟨_, rfl, da, _, 2, .int d.p, rfl, rfl, SqT.of hda, d.at2, _, _, rfl, rfl, (d.p : Nat), 0, 63, rfl, true, by rw [decide_eq_true h2], iteF ?_⟩
    cases d with
    | look hh p =>
      refine ⟨_, rfl, da, _, 0, .str "look", rfl, rfl, SqT.of hda, rfl, rfl, true, by rw [decide_eq_true rfl], iteT ?_⟩
      refine ⟨_, rfl, da, _, rfl, .inr (SqT.of hda), rfl, ?_⟩
      exact k
    | set hh p v =>
      refine ⟨_, rfl, da, _, 0, .str "set", rfl, rfl, SqT.of hda, rfl, rfl, false, by decide +kernel, iteF ?_⟩
      refine ⟨_, rfl, da, _, 0, .str "set", rfl, rfl, SqT.of hda, rfl, rfl, true, by rw [decide_eq_true rfl], iteT ?_⟩
      refine ⟨_, rfl, da, _, rfl, .inr (SqT.of hda), rfl, true, rfl, iteT ?_⟩
      refine ⟨_, rfl, da, _, 3, .int v, rfl, rfl, SqT.of hda, rfl, v, 0, 999, rfl, ?_⟩
      rw [decide_eq_true ⟨hd.2.2.1, hd.2.2.2⟩]
      exact k
theorem ok_need_deeds (T : Txt K mg) : FnOk P w K mg base CX0 3 (He.fAd K ("need_deeds", none)) T.fd_need_deeds ["deeds", "hands"] spNeedDeeds := by
  have G_is_deed := ok_is_deed (P := P) (w := w) (base := base) T
  refine okOf T.F_need_deeds sc_need_deeds (fun vs H Q E h => ?_) (fun cdv A outer s H vs Q E hr h => ?_)
  · obtain ⟨_, _, _, _, rfl, _⟩ := h
    rfl
  · obtain ⟨pd, m, ds, R, rfl, hds, hdl, hat, O, k⟩ := h
    obtain ⟨as, hal, hpd, hget⟩ := hat.get
    refine ⟨_, (pss_one (ps_for PassesOwn.never rfl (pi_enum (by rfl) T.n_enumerate (pa_cons (pv 0) pa_nil)) (pg_tup (by rfl) (pgs_cons (pg_name (i := 2) sc_need_deeds.nd rfl (Or.inl rfl)) (pgs_cons (pg_name (i := 3) sc_need_deeds.nd rfl (Or.inl rfl)) pgs_nil))) (pss_one (ps_if (PW.pt (pw_or (pt_cmpR op_ge (pv 2) (pe_globI rfl T.g_MOST_DEEDS) (nomark _)) (pw_or1 (pt_not (pt_val (pe_call G_is_deed (hr.mono (by omega)) rfl T.g_is_deed T.k_is_deed T.b_is_deed .nil pass0 (pa_cons (pv 3) (pa_cons (pv 1) pa_nil)))))))) (pss_one ps_never) pss_nil)))), ?_⟩
    refine ⟨_, rfl, pd, _, rfl, SqL.of (O.mem hpd), ?_⟩
    refine for_enum (K := K) (a := pd) (xs := as.map V.ref) (fun i σ H' => (∃ v1 v2, σ = [some (.ref pd), some (.int m), v1, v2]) ∧ Own H' R) ⟨⟨none, none, rfl⟩, O⟩ (fun i σ H' _ ⟨_, O'⟩ => SqL.of (O'.mem hpd)) ?_ ?_
    · rintro i x σ H1 p hi ⟨⟨v1, v2, rfl⟩, O1⟩ hp
      obtain ⟨a, d, rfl, _, hd1, hd2⟩ := hget hi
      have hil : i < ds.length := (List.getElem?_eq_some_iff.mp hd1).1
      have O2 := O1.new (o := .tup [.int (i : Nat), .ref a]) hp
      refine ⟨p, _, rfl, SqT.of O2.a0, rfl, _, _, rfl, _, _, rfl, rfl, ?_⟩
      refine ⟨_, rfl, i, 200, rfl, rfl, false, ?_, iteF ?_⟩
      · show V.bl (decide ((200 : Int) ≤ (i : Int))) = V.bl false
        rw [decide_eq_false (by omega)]
      · exact ⟨_, rfl, _, rfl, a, m, d, rfl, hds d (List.mem_of_getElem? hd1), O2.mem (List.mem_cons_of_mem _ hd2), true, rfl, iteF ⟨⟨_, _, rfl⟩, O2.tail⟩⟩
    · rintro σ H1 ⟨⟨v1, v2, rfl⟩, O1⟩
      exact k H1 O1
theorem ok_done (T : Txt K mg) : FnOk P w K mg base CX0 17 (He.fAd K ("done", none)) T.fd_done ["hall", "deeds"] (spDone K) := by
  have G_Hall_look := ok_H_look (P := P) (w := w) (base := base) T
  have G_Hall_change := ok_H_change (P := P) (w := w) (base := base) T
  refine okOf T.F_done sc_done (fun vs H Q E h => ?_) (fun cdv A outer s H vs Q E hr h => ?_)
  · obtain ⟨_, _, _, _, _, _, _, _, rfl, _⟩ := h
    rfl
  · obtain ⟨x, pd, n, m, ha, ds, C, R, rfl, hk, hl, hds, hdl, hat, hC, O, k⟩ := h
    obtain ⟨as, hal, hpd, hget⟩ := hat.get
    refine ⟨_, (pss_cons (ps_set (i := 2) sc_done.nd rfl (Or.inl rfl) (pe_lst pa_nil)) (pss_cons (ps_for PassesOwn.never rfl (pi_list (pv 1)) (pg_name (i := 3) sc_done.nd rfl (Or.inl rfl)) (pss_one (ps_if (pt_cmpR op_eq (pe_ix ix_tup (pv 3) pe_int (fun _ _ => rfl)) (pe_globS rfl T.g_LOOK) (nomark _)) (pss_one (ps_expr (pe_bm PySem.F.plainAttrs_list PySem.F.slot_list_append PySem.F.type_list_append mt_append (pv 2) (pa_cons (pe_meth (pv 0) T.cl_Hall T.m_Hall_look G_Hall_look (hr.mono (by omega)) T.b_Hall_look .nil pass0 (pa_cons (pe_ix ix_tup (pv 3) pe_int (fun _ _ => rfl)) (pa_cons (pe_ix ix_tup (pv 3) pe_int (fun _ _ => rfl)) pa_nil))) pa_nil)))) (pss_one (ps_expr (pe_meth (pv 0) T.cl_Hall T.m_Hall_change G_Hall_change (hr.mono (by omega)) T.b_Hall_change .nil pass0 (pa_cons (pe_ix ix_tup (pv 3) pe_int (fun _ _ => rfl)) (pa_cons (pe_ix ix_tup (pv 3) pe_int (fun _ _ => rfl)) (pa_cons (pe_ix ix_tup (pv 3) pe_int (fun _ _ => rfl)) pa_nil))))))))) (pss_one (ps_ret (pv 2))))), ?_⟩
    refine ⟨by show 0 ≤ sizeLine; decide, fun D hD => ?_⟩
    have O1 := O.new (o := .lst []) hD
    generalize upd H D _ = H1 at O1 ⊢
    have hsq : ∀ {H : Hp} {c : Cell} {C : List Cell}, Own H (c :: (C ++ R)) → SqL K H pd (as.map V.ref) := fun O => SqL.of (O.mem (List.mem_cons_of_mem _ (List.mem_append_right _ hpd)))
    refine ⟨_, rfl, pd, rfl, ⟨_, hsq O1⟩, ?_⟩
    refine for_list (K := K) (a := pd) (xs := as.map V.ref) (fun i σ H' => (∃ v3, σ = [some (.ref x), some (.ref pd), some (.ref D), v3]) ∧ ∃ C' : List Cell, HallRep K x (runD n ha (ds.take i)).2 C' ∧ Own H' ((D, .lst ((runD n ha (ds.take i)).1.map V.int)) :: (C' ++ R)))
      ⟨⟨_, rfl⟩, C, hC, O1⟩ (fun i σ H' _ ⟨_, _, _, O'⟩ => hsq O') ?_ ?_
    · rintro i y σ H2 hi ⟨⟨v3, rfl⟩, C2, hC2, O2⟩
      obtain ⟨a, d, rfl, _, hd1, hd2⟩ := hget hi
      have hil : i < ds.length := (List.getElem?_eq_some_iff.mp hd1).1
      have hdok := hds d (List.mem_of_getElem? hd1)
      obtain ⟨hk2, hl2, hlk⟩ := runD_ok (ds := ds.take i) (fun q hq => hds q (List.mem_of_mem_take hq)) hk
      rw [List.length_take] at hl2 hlk
      rw [take_snoc hd1, runD_snoc]
      generalize (runD n ha (ds.take i)).2 = ha2 at hk2 hl2 hC2 ⊢
      generalize (runD n ha (ds.take i)).1 = lk at O2 hlk ⊢
      have hLH : LH ha2 := by
        show ha2.t.log.length ≤ 900000
        omega
      obtain ⟨A, hA, Co, Cb, DD, h1, h2, h3, eC⟩ := id hC2
      have hx : H2 x = some (.ins (cH K) A.dx (fHall (.ref A.di) (.ref A.sh.last) (.ref A.sl) (.ref A.ol))) := by
        rw [← hA]
        exact O2.mem (List.mem_cons_of_mem _ (List.mem_append_left _ (by rw [eC]; exact List.mem_append_left _ List.mem_cons_self)))
      have hda := O2.mem (List.mem_cons_of_mem _ (List.mem_append_right _ hd2))
      cases d with
      | look hh p =>
        have s1 : SqT K H2 a [.str "look", .int hh, .int p] := SqT.of hda
        refine ⟨_, rfl, a, _, 0, .str "look", rfl, rfl, s1, rfl, rfl, true, by rw [decide_eq_true rfl], iteT ?_⟩
        refine ⟨_, rfl, .inl ⟨rfl, _, SqL.of O2.a0⟩, _, rfl, x, A.dx, _, rfl, hx, no_Hall_look, _, rfl, a, _, 1, .int hh, rfl, rfl, s1, rfl, _, rfl, a, _, 2, .int p, rfl, rfl, s1, rfl, ?_⟩
        refine ⟨x, n, m, hh, p, ha2, C2, (D, .lst (lk.map V.int)) :: R, rfl, hdok.1, hdok.2, hk2, hLH, hC2, O2.perm (by walk_at "perm"), fun C3 H3 hC3 O3 => ?_⟩
        have O4 := O3.perm (L' := (D, .lst (lk.map V.int)) :: (C3 ++ R)) (by walk_at "perm")
        refine ⟨D, _, _, rfl, rfl, O4.a0, by rw [List.length_map]; exact size1 (by omega), ⟨_, rfl⟩, C3, hC3, ?_⟩
        show Own _ ((D, .lst ((lk ++ [(hLook n ha2 hh p).1]).map V.int)) :: (C3 ++ R))
        rw [List.map_append]
        exact O4.set
      | set hh p v =>
        have s1 : SqT K H2 a [.str "set", .int hh, .int p, .int v] := SqT.of hda
        refine ⟨_, rfl, a, _, 0, .str "set", rfl, rfl, s1, rfl, rfl, false, by decide +kernel, iteF ?_⟩
        refine ⟨_, rfl, x, A.dx, _, rfl, hx, no_Hall_change, _, rfl, a, _, 1, .int hh, rfl, rfl, s1, rfl, _, rfl, a, _, 2, .int p, rfl, rfl, s1, rfl, _, rfl, a, _, 3, .int v, rfl, rfl, s1, rfl, ?_⟩
        refine ⟨x, n, m, hh, p, v, ha2, C2, (D, .lst (lk.map V.int)) :: R, rfl, hdok.1, hdok.2.1, hdok.2.2.1, hdok.2.2.2, hk2, hLH, hC2, O2.perm (by walk_at "perm"), fun C3 H3 hC3 O3 => ?_⟩
        refine ⟨⟨_, rfl⟩, C3, hC3, ?_⟩
        show Own _ ((D, .lst ((lk ++ []).map V.int)) :: (C3 ++ R))
        rw [List.append_nil]
        exact O3.perm (by walk_at "perm")
    · rintro σ H2 ⟨⟨v3, rfl⟩, C2, hC2, O2⟩
      have e : (as.map V.ref).length = ds.length := by rw [List.length_map]; exact hal
      rw [e, List.take_length] at hC2 O2
      exact ⟨_, rfl, k D C2 H2 hC2 O2⟩
theorem ok_told (T : Txt K mg) : FnOk P w K mg base CX0 18 (He.fAd K ("told", none)) T.fd_told ["rules", "hands", "deeds"] (spTold K) := by
  have G_need_deeds := ok_need_deeds (P := P) (w := w) (base := base) T
  have G_done := ok_done (P := P) (w := w) (base := base) T
  have G_Hall___init__ := ok_Hall_init (P := P) (w := w) (base := base) T
  have G_Hall_settle := ok_H_settle (P := P) (w := w) (base := base) T
  have G_Hall_moves := ok_H_moves (P := P) (w := w) (base := base) T
  have G_Hall_far := ok_H_far (P := P) (w := w) (base := base) T
  refine okOf T.F_told sc_told (fun vs H Q E h => ?_) (fun cdv A outer s H vs Q E hr h => ?_)
  · obtain ⟨_, _, _, _, _, _, rfl, _⟩ := h
    rfl
  · obtain ⟨rl, pd, us, m, ds, R, rfl, hus, hm1, hm3, hds, hdl, hra, hat, O, k⟩ := h
    refine ⟨_, (pss_cons (ps_set (i := 3) sc_told.nd rfl (Or.inl rfl) (pe_make T.mk_Hall G_Hall___init__ (hr.mono (by omega)) rfl T.g_Hall T.b_Hall___init__ .nil pass0 (pa_cons (pv 0) (pa_cons (pv 1) pa_nil)))) (pss_cons (ps_expr (pe_call G_need_deeds (hr.mono (by omega)) rfl T.g_need_deeds T.k_need_deeds T.b_need_deeds .nil pass0 (pa_cons (pv 2) (pa_cons (pv 1) pa_nil)))) (pss_cons (ps_set (i := 4) sc_told.nd rfl (Or.inl rfl) (pe_call G_done (hr.mono (by omega)) rfl T.g_done T.k_done T.b_done .nil pass0 (pa_cons (pv 3) (pa_cons (pv 2) pa_nil)))) (pss_cons (ps_expr (pe_meth0 (pv 3) T.cl_Hall T.m_Hall_settle G_Hall_settle (hr.mono (by omega)) T.b_Hall_settle .nil pass0)) (pss_one (ps_ret (pe_tup (pa_cons (pv 4) (pa_cons (pe_meth0 (pv 3) T.cl_Hall T.m_Hall_moves G_Hall_moves (hr.mono (by omega)) T.b_Hall_moves .nil pass0) (pa_cons (pe_meth0 (pv 3) T.cl_Hall T.m_Hall_far G_Hall_far (hr.mono (by omega)) T.b_Hall_far .nil pass0) pa_nil)))))))))), ?_⟩
    refine ⟨_, rfl, _, rfl, fun x dx hx hdx hne => ?_⟩
    have O1 := (O.keepNew (o := .own x) hdx).new (p := x) (o := .ins (cH K) dx []) (by rw [upd_ne (Ne.symm hne)]; exact hx)
    refine ⟨x, dx, rl, us, m, R, rfl, hus, hm1, hm3, hra, O1, fun C1 H1 hC1 O2 => ⟨rfl, ?_⟩⟩
    have hsub : ∀ c ∈ R, c ∈ C1 ++ R := fun c hc => List.mem_append_right _ hc
    refine ⟨_, rfl, _, rfl, pd, m, ds, C1 ++ R, rfl, hds, hdl, hat.mono hsub, O2, fun H2 O3 => ?_⟩
    have hk0 := hall0_ok hus hm1 hm3
    refine ⟨_, rfl, _, rfl, x, pd, us.length - 1, m, hall0 us m, ds, C1, R, rfl, hk0, (by show (0 : Nat) ≤ _; omega), hds, hdl, hat, hC1, O3, fun p1 C2 H3 hC2 O4 => ?_⟩
    obtain ⟨hk2, hl2, hlk⟩ := runD_ok hds hk0
    have hl0 : (hall0 us m).t.log.length = 0 := rfl
    have hp2 : HaP EntI (runD (us.length - 1) (hall0 us m) ds).2 := runD_p (hall0_p us m)
    obtain ⟨hk3, hl3⟩ := hSettle_ok hk2
    have hp3 : HaP EntI (hSettle (us.length - 1) (runD (us.length - 1) (hall0 us m) ds).2) := hp2.settle
    have hx2 : ∀ {ha : Ha} {C : List Cell}, HallRep K x ha C → ∃ (dx : Addr) (v1 v2 v3 v4 : V), ∀ {H : Hp} {L R : List Cell}, Own H (L ++ (C ++ R)) → H x = some (.ins (cH K) dx (fHall v1 v2 v3 v4)) := by
      rintro ha C ⟨hA, hAx, Co, Cb, D, h1, h2, h3, eC⟩
      refine ⟨hA.dx, .ref hA.di, .ref hA.sh.last, .ref hA.sl, .ref hA.ol, fun O => ?_⟩
      rw [← hAx]
      exact O.mem (List.mem_append_right _ (List.mem_append_left _ (by rw [eC]; exact List.mem_append_left _ List.mem_cons_self)))
    obtain ⟨dx2, _, _, _, _, hxa⟩ := hx2 hC2
    refine ⟨_, rfl, x, dx2, _, rfl, hxa (L := [_]) O4, no_Hall_settle, x, us.length - 1, m, _, C2, (p1, .lst ((runD (us.length - 1) (hall0 us m) ds).1.map V.int)) :: R, rfl, hk2, (by show (runD (us.length - 1) (hall0 us m) ds).2.t.log.length ≤ 900000; omega), hC2, O4.perm (by walk_at "perm"), fun C3 H4 hC3 O5 => ?_⟩
    obtain ⟨dx3, _, _, _, _, hxb⟩ := hx2 hC3
    refine ⟨_, rfl, _, rfl, x, dx3, _, rfl, hxb (L := []) O5, no_Hall_moves, x, us.length - 1, m, _, C3, (p1, .lst ((runD (us.length - 1) (hall0 us m) ds).1.map V.int)) :: R, rfl, hk3, by omega, hp3, hC3, O5, fun p2 as N H5 hta O6 => ?_⟩
    have O7 := O6.perm (L' := ((p2, .lst (as.map V.ref)) :: N) ++ (C3 ++ ((p1, .lst ((runD (us.length - 1) (hall0 us m) ds).1.map V.int)) :: R))) (by walk_at "perm")
    refine ⟨_, rfl, x, dx3, _, rfl, hxb (L := (p2, .lst (as.map V.ref)) :: N) O7, no_Hall_far, x, us.length - 1, m, _, C3, (p2, .lst (as.map V.ref)) :: (N ++ ((p1, .lst ((runD (us.length - 1) (hall0 us m) ds).1.map V.int)) :: R)), rfl, hk3, hC3, O7.perm (by walk_at "perm"), fun p3 H6 O8 => ?_⟩
    refine ⟨by show 3 ≤ sizeLine; decide, fun p hp => ?_⟩
    have O9 := O8.new (o := .tup [.ref p1, .ref p2, .ref p3]) hp
    have hul := hus.l1
    have eu : us.length - 1 + 1 = us.length := by omega
    rw [eu] at hta
    refine k p p1 p2 p3 as N _ ?_ (Own.right (L' := C3) (O9.perm ?_))
    · show TA N as (((List.range us.length).map _).map _)
      rw [List.map_map]
      exact hta
    · show List.Perm ((p, HO.tup [.ref p1, .ref p2, .ref p3]) :: (p3, .lst ((hSettle (us.length - 1) (runD (us.length - 1) (hall0 us m) ds).2).t.far.map V.int)) :: (C3 ++ ((p2, .lst (as.map V.ref)) :: (N ++ ((p1, .lst ((runD (us.length - 1) (hall0 us m) ds).1.map V.int)) :: R))))) (C3 ++ ((p, .tup [.ref p1, .ref p2, .ref p3]) :: (p1, .lst ((runD (us.length - 1) (hall0 us m) ds).1.map V.int)) :: (p2, .lst (as.map V.ref)) :: (p3, .lst ((hSettle (us.length - 1) (runD (us.length - 1) (hall0 us m) ds).2).t.far.map V.int)) :: (N ++ R)))
      walk_at "perm"
end
-- WwPl
/-! ### plainly -/
def plLook (cs : List Int) : Deed → List Int
  | .look _ p => [cs.getD p 0]
  | .set _ _ _ => []
def plRun (cs : List Int) : List Deed → List Int × List Int
  | [] => ([], cs)
  | d :: ds => (plLook cs d ++ (plRun (dCells cs d) ds).1, (plRun (dCells cs d) ds).2)
theorem plRun_snoc : ∀ (ds : List Deed) (cs : List Int) (d : Deed), plRun cs (ds ++ [d]) = ((plRun cs ds).1 ++ plLook (plRun cs ds).2 d, dCells (plRun cs ds).2 d)
  | [], cs, d => by
    show (plLook cs d ++ [], dCells cs d) = ([] ++ plLook cs d, _)
    rw [List.append_nil]
    rfl
  | a :: ds, cs, d => by
    have ih := plRun_snoc ds (dCells cs a) d
    show (plLook cs a ++ (plRun (dCells cs a) (ds ++ [d])).1, (plRun (dCells cs a) (ds ++ [d])).2) = ((plLook cs a ++ (plRun (dCells cs a) ds).1) ++ _, _)
    rw [ih, List.append_assoc]
    rfl
theorem plRun_len : ∀ (ds : List Deed) (cs : List Int), (plRun cs ds).2.length = cs.length ∧ (plRun cs ds).1.length ≤ ds.length
  | [], cs => ⟨rfl, Nat.le_refl _⟩
  | d :: ds, cs => by
    obtain ⟨h1, h2⟩ := plRun_len ds (dCells cs d)
    refine ⟨by show (plRun (dCells cs d) ds).2.length = _; rw [h1, dCells_len], ?_⟩
    show (plLook cs d ++ (plRun (dCells cs d) ds).1).length ≤ ds.length + 1
    rw [List.length_append]
    have : (plLook cs d).length ≤ 1 := by cases d <;> simp [plLook]
    omega
theorem getBlk_at {cs : List Int} (hcs : cs.length = 64) {p : Nat} (hp : p < 64) : (getBlk cs (p / 4)).getD (p % 4) 0 = cs.getD p 0 := by
  unfold getBlk
  rw [List.getD_eq_getElem?_getD, List.getD_eq_getElem?_getD, List.getElem?_take, if_pos (by omega), List.getElem?_drop]
  have : p / 4 * 4 + p % 4 = p := by omega
  rw [this]
theorem run_plain {n m : Nat} : ∀ {ds : List Deed} {ha : Ha} {cs : List Int}, HCoh ha (getBlk cs) → HaOk n m ha → cs.length = 64 → (∀ d ∈ ds, d.ok m) →
    (runD n ha ds).1 = (plRun cs ds).1 ∧ HCoh (runD n ha ds).2 (getBlk (plRun cs ds).2)
  | [], ha, cs, h, _, _, _ => ⟨rfl, h⟩
  | d :: ds, ha, cs, h, hk, hcs, hd => by
    have hdo := hd d List.mem_cons_self
    obtain ⟨h1, _, _⟩ := deed_coh h hk hcs hdo
    obtain ⟨hk1, _⟩ := doDeed_ok hk hdo
    obtain ⟨i1, i2⟩ := run_plain (ds := ds) h1 hk1 (by rw [dCells_len]; exact hcs) fun q hq => hd q (List.mem_cons_of_mem _ hq)
    refine ⟨?_, i2⟩
    show lkV (doDeed n ha d).1 ++ (runD n (doDeed n ha d).2 ds).1 = plLook cs d ++ (plRun (dCells cs d) ds).1
    rw [i1]
    congr 1
    cases d with
    | look hh p =>
      obtain ⟨_, e, _, _⟩ := h.look hk hdo.1 hdo.2
      show [(hLook n ha hh p).1] = [cs.getD p 0]
      rw [e, getBlk_at hcs hdo.2]
    | set hh p v => rfl
abbrev cs0 : List Int := List.replicate 64 0
theorem told_plain {us : List Rul} {m : Nat} {ds : List Deed} (hus : RulesOk us) (hm1 : 1 ≤ m) (hm3 : m ≤ 3) (hd : ∀ d ∈ ds, d.ok m) : (toldOf us m ds).1 = (plRun cs0 ds).1 ∧ (toldOf us m ds).2.2 = (plRun cs0 ds).2 := by
  have hk := hall0_ok hus hm1 hm3
  obtain ⟨h1, h2⟩ := run_plain (ds := ds) (hall0_coh us m).1 hk (by rfl) hd
  obtain ⟨hk2, _, _⟩ := runD_ok hd hk
  refine ⟨h1, ?_⟩
  have hl := (plRun_len ds cs0).1
  exact (h2.settled hk2 (by rw [hl]; rfl)).2.1
def spPlain (K : PySem.W.Frag) : Sp := fun vs H Q _ => ∃ (pd : Addr) (m : Nat) (ds : List Deed) (R : List Cell), vs = [.int m, .ref pd] ∧ 1 ≤ m ∧ m ≤ 3 ∧ (∀ d ∈ ds, d.ok m) ∧ ds.length ≤ 200 ∧ DeedsAt R pd ds ∧ Own H R ∧
  ∀ (p p1 p2 : Addr) (H' : Hp), Own H' ((p, .tup [.ref p1, .ref p2]) :: (p1, .lst ((plRun cs0 ds).1.map V.int)) :: (p2, .lst ((plRun cs0 ds).2.map V.int)) :: R) → Q (.ref p) H'
section
variable {P : Program} {w : World} {K : PySem.W.Frag} {mg : Str → Option Value} {base : Heap} {n lv : Nat}
theorem ok_plain (T : Txt K mg) : FnOk P w K mg base CX0 4 (He.fAd K ("plain", none)) T.fd_plain ["hands", "deeds"] (spPlain K) := by
  have G_need_deeds := ok_need_deeds (P := P) (w := w) (base := base) T
  have G_need_hands := ok_need_hands (P := P) (w := w) (base := base) T
  refine okOf T.F_plain sc_plain (fun vs H Q E h => ?_) (fun cdv A outer s H vs Q E hr h => ?_)
  · obtain ⟨_, _, _, _, rfl, _⟩ := h
    rfl
  · obtain ⟨pd, m, ds, R, rfl, hm1, hm3, hds, hdl, hat, O, k⟩ := h
    obtain ⟨as, hal, hpd, hget⟩ := hat.get
    refine ⟨_, (pss_cons (ps_expr (pe_call G_need_hands (hr.mono (by omega)) rfl T.g_need_hands T.k_need_hands T.b_need_hands .nil pass0 (pa_cons (pv 0) pa_nil))) (pss_cons (ps_expr (pe_call G_need_deeds (hr.mono (by omega)) rfl T.g_need_deeds T.k_need_deeds T.b_need_deeds .nil pass0 (pa_cons (pv 1) (pa_cons (pv 0) pa_nil)))) (pss_cons (ps_set (i := 2) sc_plain.nd rfl (Or.inl rfl) (pe_op op_rep (pe_lst (pa_cons pe_int pa_nil)) (pe_globI rfl T.g_CELLS))) (pss_cons (ps_set (i := 3) sc_plain.nd rfl (Or.inl rfl) (pe_lst pa_nil)) (pss_cons (ps_for PassesOwn.never rfl (pi_list (pv 1)) (pg_name (i := 4) sc_plain.nd rfl (Or.inl rfl)) (pss_one (ps_if (pt_cmpR op_eq (pe_ix ix_tup (pv 4) pe_int (fun _ _ => rfl)) (pe_globS rfl T.g_LOOK) (nomark _)) (pss_one (ps_expr (pe_bm PySem.F.plainAttrs_list PySem.F.slot_list_append PySem.F.type_list_append mt_append (pv 3) (pa_cons (pe_ix ix_list (pv 2) (pe_ix ix_tup (pv 4) pe_int (fun _ _ => rfl)) (fun _ _ => rfl)) pa_nil)))) (pss_one (ps_asg (pe_ix ix_tup (pv 4) pe_int (fun _ _ => rfl)) (pg_sub (pv 2) (pe_ix ix_tup (pv 4) pe_int (fun _ _ => rfl)) set_list)))))) (pss_one (ps_ret (pe_tup (pa_cons (pv 3) (pa_cons (pv 2) pa_nil)))))))))), ?_⟩
    refine ⟨_, rfl, m, rfl, hm1, hm3, ?_⟩
    refine ⟨_, rfl, _, rfl, pd, m, ds, R, rfl, hds, hdl, hat, O, fun H1 O1 => ?_⟩
    refine ⟨by show 1 ≤ sizeLine; decide, fun l0 hl0 => ?_⟩
    have O2 := O1.new (o := .lst [.int 0]) hl0
    refine ⟨l0, 64, [.int 0], rfl, rfl, O2.a0, by decide, by decide, by show 1 * 64 ≤ sizeLine; decide, fun ca hca => ?_⟩
    have O3 := (O2.tail).new (o := .lst (List.replicate (64 : Int).toNat [V.int 0]).flatten) hca
    have e0 : (List.replicate (64 : Int).toNat [V.int 0]).flatten = cs0.map V.int := by decide
    rw [e0] at O3 ⊢
    refine ⟨by show 0 ≤ sizeLine; decide, fun D hD => ?_⟩
    have O4 := O3.new (o := .lst []) hD
    generalize upd _ D _ = H4 at O4 ⊢
    have hsq : ∀ {H : Hp} {c c' : Cell}, Own H (c :: c' :: R) → SqL K H pd (as.map V.ref) := fun O => SqL.of (O.mem (List.mem_cons_of_mem _ (List.mem_cons_of_mem _ hpd)))
    refine ⟨_, rfl, pd, rfl, ⟨_, hsq O4⟩, ?_⟩
    refine for_list (K := K) (a := pd) (xs := as.map V.ref) (fun i σ H' => (∃ v4, σ = [some (.int m), some (.ref pd), some (.ref ca), some (.ref D), v4]) ∧ Own H' ((D, .lst ((plRun cs0 (ds.take i)).1.map V.int)) :: (ca, .lst ((plRun cs0 (ds.take i)).2.map V.int)) :: R))
      ⟨⟨_, rfl⟩, O4⟩ (fun i σ H' _ ⟨_, O'⟩ => hsq O') ?_ ?_
    · rintro i y σ H5 hi ⟨⟨v4, rfl⟩, O5⟩
      obtain ⟨a, d, rfl, _, hd1, hd2⟩ := hget hi
      have hil : i < ds.length := (List.getElem?_eq_some_iff.mp hd1).1
      have hdok := hds d (List.mem_of_getElem? hd1)
      obtain ⟨hl1, hl2⟩ := plRun_len (ds.take i) cs0
      rw [List.length_take] at hl2
      have hl1 : (plRun cs0 (ds.take i)).2.length = 64 := hl1
      rw [take_snoc hd1, plRun_snoc]
      generalize plRun cs0 (ds.take i) = pr at O5 hl1 hl2 ⊢
      have hda := O5.mem (List.mem_cons_of_mem _ (List.mem_cons_of_mem _ hd2))
      cases d with
      | look hh p =>
        have s1 : SqT K H5 a [.str "look", .int hh, .int p] := SqT.of hda
        have hp : p < 64 := hdok.2
        refine ⟨_, rfl, a, _, 0, .str "look", rfl, rfl, s1, rfl, rfl, true, by rw [decide_eq_true rfl], iteT ?_⟩
        refine ⟨_, rfl, .inl ⟨rfl, _, SqL.of O5.a0⟩, _, rfl, _, rfl, a, _, 2, .int p, rfl, rfl, s1, rfl, ca, _, p, .int (pr.2.getD p 0), rfl, rfl, SqL.of O5.a1, ?_, D, _, _, rfl, rfl, O5.a0, by rw [List.length_map]; exact size1 (by omega), ⟨_, rfl⟩, ?_⟩
        · refine atI_nat ?_
          rw [List.getElem?_map, List.getD_eq_getElem?_getD, List.getElem?_eq_getElem (by omega)]
          rfl
        · rw [List.map_append]
          exact O5.set
      | set hh p v =>
        have s1 : SqT K H5 a [.str "set", .int hh, .int p, .int v] := SqT.of hda
        have hp : p < 64 := hdok.2.1
        refine ⟨_, rfl, a, _, 0, .str "set", rfl, rfl, s1, rfl, rfl, false, by decide +kernel, iteF ?_⟩
        refine ⟨_, rfl, a, _, 3, .int v, rfl, rfl, s1, rfl, _, rfl, _, rfl, a, _, 2, .int p, rfl, rfl, s1, rfl, ca, _, p, p, rfl, rfl, O5.a1, by rw [List.length_map, hl1]; exact ixN_nat hp, ⟨_, rfl⟩, ?_⟩
        have O6 := (O5.perm (L' := (ca, .lst (pr.2.map V.int)) :: (D, .lst (pr.1.map V.int)) :: R) (by walk_at "perm")).set (o' := .lst ((pr.2.map V.int).set p (.int v)))
        rw [← List.map_set] at O6 ⊢
        show Own _ ((D, .lst ((pr.1 ++ []).map V.int)) :: (ca, .lst ((pr.2.set p v).map V.int)) :: R)
        rw [List.append_nil]
        exact O6.perm (by walk_at "perm")
    · rintro σ H5 ⟨⟨v4, rfl⟩, O5⟩
      have e : (as.map V.ref).length = ds.length := by rw [List.length_map]; exact hal
      rw [e, List.take_length] at O5
      refine ⟨_, rfl, _, rfl, by show 2 ≤ sizeLine; decide, fun p hp => ?_⟩
      exact k p D ca _ (O5.new hp)
end
-- WwHx
/-! ### halls, told, plain, least of whatever is handed in -/
def HandOk (m : Int) : Prop := 1 ≤ m ∧ m ≤ 3
def RsGood (xss : List (List V)) : Prop := xss ≠ [] ∧ ∀ i, i < xss.length → RuleAt xss i
def RsBad (xss : List (List V)) (i : Nat) : Prop := RuleBad xss i ∨ (xss = [] ∧ i = 0)
theorem RsBad.not {xss : List (List V)} {i : Nat} (h : RsBad xss i) (g : RsGood xss) : False := by
  rcases h with h | h
  · exact h.2.1 (g.2 i h.1)
  · exact g.1 h.1
theorem RsBad.uniq {xss : List (List V)} {i j : Nat} (h : RsBad xss i) (g : RsBad xss j) : i = j := by
  rcases h with h | h <;> rcases g with g | g
  · rcases Nat.lt_trichotomy i j with z | z | z
    · exact absurd (g.2.2 i z) h.2.1
    · exact z
    · exact absurd (h.2.2 j z) g.2.1
  · have := h.1
    rw [g.1] at this
    cases this
  · have := g.1
    rw [h.1] at this
    cases this
  · rw [h.2, g.2]
theorem DeedBad.uniq {m : Int} {xss : List (List V)} {i j : Nat} (h : DeedBad m xss i) (g : DeedBad m xss j) : i = j := by
  rcases Nat.lt_trichotomy i j with z | z | z
  · exact absurd (g.2.2 i z) h.2.1
  · exact z
  · exact absurd (h.2.2 j z) g.2.1
/-- rows of flat tuples at an address -/
structure RowsAt (R : List Cell) (p : Addr) (as : List Addr) (xss : List (List V)) : Prop where
  p : (p, HO.lst (as.map V.ref)) ∈ R
  ta : TA R as xss
  fl : ∀ xs ∈ xss, FlatX xs
  ln : xss.length ≤ 100000
theorem RowsAt.mono {R R' : List Cell} {p : Addr} {as : List Addr} {xss : List (List V)} (h : RowsAt R p as xss) (hs : ∀ c ∈ R, c ∈ R') : RowsAt R' p as xss := ⟨hs _ h.p, h.ta.mono hs, h.fl, h.ln⟩
def spHallInitX (K : PySem.W.Frag) : Sp := fun vs H Q E => ∃ (x dx rl : Addr) (m : Int) (as : List Addr) (xss : List (List V)) (R : List Cell), vs = [.ref x, .ref rl, .int m] ∧ RowsAt R rl as xss ∧ Own H ((x, .ins (cH K) dx []) :: R) ∧
  (∀ i, RsBad xss i → ∀ (d : Addr) (H' : Hp), Own H' ((d, .xd [("number", .int (i : Nat))]) :: R) → E (.ref (He.ga K "BadRule")) (some d) H') ∧
  (RsGood xss → ¬ HandOk m → ∀ H', Own H' R → E (.ref (He.ga K "BadHands")) none H') ∧
  (RsGood xss → HandOk m → ∃ us : List Rul, xss = us.map Rul.vs ∧ RulesOk us ∧ ∀ (C : List Cell) (H' : Hp), HallRep K x (hall0 us m.toNat) C → Own H' (C ++ R) → Q .non H')
theorem RA.ofTA {N : List Cell} : ∀ {as : List Addr} {us : List Rul}, TA N as (us.map Rul.vs) → RA N as us
  | [], [], _ => trivial
  | [], _ :: _, h => h.elim
  | _ :: _, [], h => h.elim
  | _ :: _, _ :: _, h => ⟨h.1, RA.ofTA h.2⟩
section
variable {P : Program} {w : World} {K : PySem.W.Frag} {mg : Str → Option Value} {base : Heap} {n lv : Nat}
theorem ok_Hall_initX (T : Txt K mg) : FnOk P w K mg base (L2.CX P w) 4 (He.fAd K ("Hall", some "__init__")) T.fd_Hall___init__ ["self", "rules", "hands"] (spHallInitX K) := by
  have G_need_rules := ok_need_rulesX (P := P) (w := w) (base := base) T
  have G_need_hands := ok_need_handsX (P := P) (w := w) (base := base) T
  have G_Far___init__ := ok_Far_init (P := P) (w := w) (base := base) T
  have G_Room___init__ := ok_Room_init (P := P) (w := w) (base := base) T
  refine okX T.F_Hall___init__ sc_Hall___init__ (fun vs H Q E h => ?_) (fun cdv A outer s H vs Q E hr h => ?_)
  · obtain ⟨_, _, _, _, _, _, _, rfl, _⟩ := h
    rfl
  · obtain ⟨x, dx, rl, mi, as, xss, R, rfl, hrw, O, k1, k2, k3⟩ := h
    refine ⟨_, (pss_cons (ps_expr (pe_call G_need_rules (hr.mono (by omega)) rfl T.g_need_rules T.k_need_rules T.b_need_rules .nil (passes_call (takes_of rfl rfl rfl rfl) fun _ _ _ _ z => z) (pa_cons (pv 1) pa_nil))) (pss_cons (ps_expr (pe_call G_need_hands (hr.mono (by omega)) rfl T.g_need_hands T.k_need_hands T.b_need_hands .nil (passes_call (takes_of rfl rfl rfl rfl) fun _ _ _ _ z => z) (pa_cons (pv 2) pa_nil))) (pss_cons (ps_fld (pv 0) (pe_lst pa_nil) rfl) (pss_cons (ps_fld (pv 0) (pe_make0 T.mk_Far G_Far___init__ (hr.mono (by omega)) rfl T.g_Far T.b_Far___init__ .nil pass0) rfl) (pss_cons (ps_fld (pv 0) (pe_lst pa_nil) rfl) (pss_cons (ps_set (i := 3) sc_Hall___init__.nd rfl (Or.inr rfl) (pe_fld (pv 0) rfl)) (pss_cons (ps_for (passes_of rfl) rfl (pi_range3 rfl T.n_range (pa_cons (pe_op op_sub (pe_callB call_len_seq (by rfl) T.n_len PySem.boot_len (pa_cons (pv 1) pa_nil)) pe_int) (pa_cons pe_int (pa_cons (pe_un un_neg pe_int) pa_nil)))) (pg_name (i := 4) sc_Hall___init__.nd rfl (Or.inl rfl)) (pss_cons (ps_set (i := 3) sc_Hall___init__.nd rfl (Or.inr rfl) (pe_make T.mk_Room G_Room___init__ (hr.mono (by omega)) rfl T.g_Room T.b_Room___init__ .nil pass0 (pa_cons (pe_ix ix_list (pv 1) (pv 4) (fun _ _ => rfl)) (pa_cons (pv 3) (pa_cons (pe_tup (pa_cons (pv 4) (pa_cons pe_int pa_nil))) (pa_cons (pe_fld (pv 0) rfl) pa_nil)))))) (pss_one (ps_fld (pv 0) (pe_op op_cat (pe_lst (pa_cons (pv 3) pa_nil)) (pe_fld (pv 0) rfl)) rfl)))) (pss_one (ps_fld (pv 0) (pe_lc (te := (tMake (He.ga K "Room") (spRoomInit K) [] E0 (tCons (tOp (rIxL K) (tVar 1) (tC (.int 0))) (tCons (tVar 3) (tCons (tTup (tCons (tC (.int 0)) (tCons (tVar 5) tNil))) (tCons (tFld K (tVar 0) "diary") tNil)))))) (own := [("hand", 5)]) (by rfl) sc_Hall___init__.nd (pi_range1 (by rfl) T.n_range (pa_cons (pv 2) pa_nil)) (blkOk_by (own := [("hand", 5)]) (by kernel_rfl)) (fun _ _ _ _ _ => (pg_name (i := 5) sc_Hall___init__.nd rfl (Or.inl rfl))) (fun _ _ _ _ _ => pts_nil) (fun _ _ _ _ _ => (pe_make T.mk_Room G_Room___init__ (hr.mono (by omega)) rfl T.g_Room T.b_Room___init__ .nil pass0 (pa_cons (pe_ix ix_list (pv 1) pe_int (fun _ _ => rfl)) (pa_cons (pv 3) (pa_cons (pe_tup (pa_cons pe_int (pa_cons (pv 5) pa_nil))) (pa_cons (pe_fld (pv 0) rfl) pa_nil))))))) rfl))))))))), ?_⟩
    have hcm : ∀ c ∈ R, c ∈ ((x, HO.ins (cH K) dx []) :: R) := fun c hc => List.mem_cons_of_mem _ hc
    refine ⟨_, rfl, rl, as, xss, _, rfl, hcm _ hrw.p, hrw.ta.mono hcm, hrw.fl, hrw.ln, O, fun i hi d H' O' => k1 i hi d H' (Own.right (L' := [(x, HO.ins (cH K) dx [])]) (O'.perm (by walk_at "perm"))), fun hne hall H1 O1 => ?_⟩
    refine ⟨_, rfl, mi, rfl, fun hm => ?_, fun hm => k2 ⟨hne, hall⟩ hm H1 O1.tail⟩
    obtain ⟨us, rfl, hus, k⟩ := k3 ⟨hne, hall⟩ hm
    obtain ⟨m, rfl⟩ : ∃ m : Nat, mi = (m : Int) := ⟨mi.toNat, by have := hm.1; omega⟩
    rw [Int.toNat_natCast] at k
    have hm1 : 1 ≤ m := by have := hm.1; omega
    have hm3 : m ≤ 3 := by have := hm.2; omega
    obtain ⟨ras, hrl1, hra⟩ : ∃ ras : List Addr, (rl, HO.lst (ras.map V.ref)) ∈ R ∧ RA R ras us := ⟨as, hrw.p, .ofTA hrw.ta⟩
    have hlen := hra.len
    have hl1 := hus.l1
    have hl3 := hus.l3
    -- self.diary = []
    refine ⟨by show 0 ≤ sizeLine; decide, fun di hdi => ?_⟩
    have O2 := O1.new (o := .lst []) hdi
    generalize upd H1 di _ = H2 at O2 ⊢
    refine ⟨_, rfl, x, cH K, dx, _, rfl, O2.a1, T.cl_Hall, T.na_Hall_diary, by show 0 < 1000; decide, ?_⟩
    replace O2 := (O2.perm (L' := (x, .ins (cH K) dx []) :: (di, .lst []) :: R) (by walk_at "perm")).set (o' := .ins (cH K) dx (putF "diary" (.ref di) []))
    generalize upd H2 x _ = H3 at O2 ⊢
    -- self.last = Far()
    intro la ldx hla hldx hne
    have O3 := (O2.keepNew (o := .own la) hldx).new (p := la) (o := .ins (cF K) ldx []) (by rw [upd_ne (Ne.symm hne)]; exact hla)
    refine ⟨la, ldx, _, rfl, O3, fun fl H4 O4 => ⟨rfl, ?_⟩⟩
    refine ⟨_, rfl, x, cH K, dx, _, rfl, O4.a2, T.cl_Hall, T.na_Hall_last, by show 1 < 1000; decide, ?_⟩
    replace O4 := (O4.perm (L' := (x, .ins (cH K) dx (putF "diary" (.ref di) [])) :: (di, .lst []) :: ([(la, .ins (cF K) ldx (fFar (.ref fl))), (fl, .lst ((List.replicate 64 (0 : Int)).map V.int))] ++ R)) (by walk_at "perm")).set (o' := .ins (cH K) dx (putF "last" (.ref la) (putF "diary" (.ref di) [])))
    generalize upd H4 x _ = H5 at O4 ⊢
    simp only [pf_nil, pf_tl ne_last_diary] at O4
    -- self.shared = []
    refine ⟨by show 0 ≤ sizeLine; decide, fun sl hsl => ?_⟩
    have O5 := O4.new (o := .lst []) hsl
    generalize upd H5 sl _ = H6 at O5 ⊢
    refine ⟨_, rfl, x, cH K, dx, _, rfl, O5.a1, T.cl_Hall, T.na_Hall_shared, by show 2 < 1000; decide, ?_⟩
    replace O5 := (O5.perm (L' := (x, .ins (cH K) dx [("diary", .ref di), ("last", .ref la)]) :: (sl, .lst []) :: (di, .lst []) :: ([(la, .ins (cF K) ldx (fFar (.ref fl))), (fl, .lst ((List.replicate 64 (0 : Int)).map V.int))] ++ R)) (by walk_at "perm")).set (o' := .ins (cH K) dx (putF "shared" (.ref sl) [("diary", .ref di), ("last", .ref la)]))
    generalize upd H6 x _ = H7 at O5 ⊢
    simp only [pf_nil, pf_tl ne_shared_diary, pf_tl ne_shared_last] at O5
    -- behind = self.last
    refine ⟨_, rfl, x, cH K, dx, _, _, rfl, O5.a0, T.cl_Hall, T.na_Hall_last, (lk_tl ne_last_diary).trans lk_hd, ?_⟩
    -- the loop
    have hrlm : ∀ {L : List Cell} {H : Hp}, Own H (L ++ R) → H rl = some (.lst (ras.map V.ref)) := fun O => O.mem (List.mem_append_right _ hrl1)
    refine ⟨_, rfl, rl, _, rfl, .inl (SqL.of (hrlm (L := _ :: _ :: _ :: _ :: [_]) O5)), _, _, rfl, rfl, 1, rfl, ((ras.map V.ref).length : Int) - 1, 0, -1, (((ras.map V.ref).length : Int) - 1 - 0).toNat, rfl, RgC.neg (by rw [List.length_map]; omega) (by rw [List.length_map]; omega) (by decide) (by decide), ?_⟩
    have eN : (((ras.map V.ref).length : Int) - 1 - 0).toNat = us.length - 1 := by
      rw [List.length_map]
      omega
    rw [eN]
    refine for_rangeC (lo := ((ras.map V.ref).length : Int) - 1) (c := -1) (n := us.length - 1) (fun i σ H' => ∃ (be : Pa) (sl : Addr) (Cb : List Cell) (v4 : Option V), σ = [some (.ref x), some (.ref rl), some (.int m), some (.ref be.ad), v4, none] ∧ be.last = la ∧ RepK K di be (shRs (us.length - i) (us.drop (us.length - i))) (List.replicate 64 0) Cb ∧
        be.rooms.length = i ∧ Own H' ((x, .ins (cH K) dx [("diary", .ref di), ("last", .ref la), ("shared", .ref sl)]) :: (sl, .lst (be.rooms.map V.ref)) :: (di, .lst []) :: (Cb ++ R)))
      ⟨.far la, sl, _, none, rfl, rfl, by rw [Nat.sub_zero, List.drop_length]; exact ⟨ldx, fl, rfl⟩, rfl, O5⟩ ?_ ?_
    · rintro i σ H8 hi ⟨be, sl, Cb, v4, rfl, hbl, hCb, hbr, O8⟩
      have hlt : us.length - 1 - i < us.length := by omega
      obtain ⟨a, ha1, ha2⟩ := hra.get' (List.getElem?_eq_getElem hlt)
      have hu : RulOk us[us.length - 1 - i] := hus.ok _ (List.getElem_mem hlt)
      refine ⟨_, rfl, _, rfl, rl, _, _, .ref a, rfl, rfl, SqL.of (hrlm (L := _ :: _ :: _ :: Cb) O8), ?_, _, rfl, _, rfl, by show 2 ≤ sizeLine; decide, fun ti hti => ?_⟩
      · have e : ((ras.map V.ref).length : Int) - 1 + (i : Nat) * (-1) = ((us.length - 1 - i : Nat) : Int) := by
          rw [List.length_map]
          omega
        rw [e]
        refine atI_nat ?_
        rw [List.getElem?_map, ha1]
        rfl
      · have e : ((ras.map V.ref).length : Int) - 1 + (i : Nat) * (-1) = ((us.length - 1 - i : Nat) : Int) := by
          rw [List.length_map]
          omega
        rw [e] at *
        have O9 := O8.new (o := .tup [.int ((us.length - 1 - i : Nat) : Int), .int 0]) hti
        generalize upd H8 ti _ = H9 at O9 ⊢
        refine ⟨_, rfl, x, cH K, dx, _, _, rfl, O9.a1, T.cl_Hall, T.na_Hall_diary, lk_hd, fun y dy hy hdy hne => ?_⟩
        have O10 := (O9.keepNew (o := .own y) hdy).new (p := y) (o := .ins (cR K) dy []) (by rw [upd_ne (Ne.symm hne)]; exact hy)
        refine ⟨y, dy, a, ti, di, be, us[us.length - 1 - i], [.int ((us.length - 1 - i : Nat) : Int), .int 0], _, rfl, hu, ?_, O10, fun C1 H11 hC1 O11 => ⟨rfl, ?_⟩⟩
        · simp only [List.mem_cons, List.mem_append]
          exact .inr (.inr (.inr (.inr ha2)))
        · -- self.shared = [behind] + self.shared
          have O12 := O11.perm (L' := (x, .ins (cH K) dx [("diary", .ref di), ("last", .ref la), ("shared", .ref sl)]) :: (sl, .lst (be.rooms.map V.ref)) :: (di, .lst []) :: ((C1 ++ Cb) ++ R)) (by walk_at "perm")
          refine ⟨_, rfl, by show 1 ≤ sizeLine; decide, fun p hp => ?_⟩
          have O13 := O12.new (o := .lst [.ref y]) hp
          generalize upd H11 p _ = H13 at O13 ⊢
          refine ⟨_, rfl, x, cH K, dx, _, _, rfl, O13.a1, T.cl_Hall, T.na_Hall_shared, (lk_tl ne_shared_diary).trans ((lk_tl ne_shared_last).trans lk_hd), p, sl, _, _, rfl, rfl, O13.a0, O13.a2, ?_, fun q hq => ?_⟩
          · rw [List.length_map, hbr]
            exact size2 (by show 1 + i ≤ _; omega)
          · have O14 := O13.tail.new (o := .lst ([.ref y] ++ be.rooms.map V.ref)) hq
            generalize upd H13 q _ = H14 at O14 ⊢
            refine ⟨_, rfl, x, cH K, dx, _, rfl, O14.a1, T.cl_Hall, T.na_Hall_shared, by show 3 < 1000; decide, ?_⟩
            have O15 := (O14.perm (L' := (x, .ins (cH K) dx [("diary", .ref di), ("last", .ref la), ("shared", .ref sl)]) :: (q, .lst ([.ref y] ++ be.rooms.map V.ref)) :: (sl, .lst (be.rooms.map V.ref)) :: (di, .lst []) :: ((C1 ++ Cb) ++ R)) (by walk_at "perm")).set (o' := .ins (cH K) dx (putF "shared" (.ref q) [("diary", .ref di), ("last", .ref la), ("shared", .ref sl)]))
            simp only [pf_tl ne_shared_diary, pf_tl ne_shared_last, pf_hd] at O15 ⊢
            refine ⟨.room y be, q, C1 ++ Cb, _, rfl, hbl, ?_, by show be.rooms.length + 1 = _; rw [hbr], ?_⟩
            · have e1 : us.length - (i + 1) = us.length - 1 - i := by omega
              have e2 : us.drop (us.length - 1 - i) = us[us.length - 1 - i] :: us.drop (us.length - i) := by
                rw [List.drop_eq_getElem_cons hlt]
                congr 2
                omega
              rw [e1, e2]
              refine ⟨C1, Cb, hC1, ?_, rfl⟩
              have e3 : us.length - 1 - i + 1 = us.length - i := by omega
              rw [e3]
              exact hCb
            · refine Own.right (L' := [(sl, .lst (be.rooms.map V.ref))]) (O15.perm ?_)
              show (_ :: (q, HO.lst (V.ref y :: be.rooms.map V.ref)) :: _).Perm (_ ++ (_ :: (q, HO.lst (V.ref y :: be.rooms.map V.ref)) :: _))
              walk_at "perm"
    · rintro σ H8 ⟨be, sl, Cb, v4, rfl, hbl, hCb, hbr, O8⟩
      have e1 : us.length - (us.length - 1) = 1 := by omega
      rw [e1] at hCb
      obtain ⟨hu0, hg0⟩ := rul0_ok hus
      obtain ⟨a, ha1, ha2⟩ := hra.get' hg0
      refine ⟨_, rfl, m, rfl, by omega, by omega, fun D hD => ?_⟩
      refine lc_range (lo := 0) (n := m) (fun i H' => ∃ (as : List Addr) (Co : List Cell), OwnsRep K di be as (ownRs (rul0 us) i) Co ∧ Own H' ((D, .lst (as.map V.ref)) :: (x, .ins (cH K) dx [("diary", .ref di), ("last", .ref la), ("shared", .ref sl)]) :: (sl, .lst (be.rooms.map V.ref)) :: (di, .lst []) :: (Co ++ (Cb ++ R))))
        ⟨[], [], rfl, O8.new hD⟩ ?_ ?_
      · rintro i H9 hi ⟨as, Co, hCo, O9⟩
        have hal := hCo.len
        unfold ownRs at hal
        rw [List.length_map, List.length_range] at hal
        refine ⟨rfl, tYes_go (iteT ?_)⟩
        refine ⟨_, rfl, rl, _, 0, .ref a, rfl, rfl, SqL.of (O9.mem (by simp only [List.mem_cons, List.mem_append]; exact .inr (.inr (.inr (.inr (.inr (.inr hrl1))))))), ?_, _, rfl, _, rfl, by show 2 ≤ sizeLine; decide, fun ti hti => ?_⟩
        · refine atI_nat (j := 0) ?_
          rw [List.getElem?_map, ha1]
          rfl
        · have O10 := O9.new (o := .tup [.int 0, .int (0 + (i : Int))]) hti
          generalize upd H9 ti _ = H10 at O10 ⊢
          refine ⟨_, rfl, x, cH K, dx, _, _, rfl, O10.a2, T.cl_Hall, T.na_Hall_diary, lk_hd, fun y dy hy hdy hne => ?_⟩
          have O11 := (O10.keepNew (o := .own y) hdy).new (p := y) (o := .ins (cR K) dy []) (by rw [upd_ne (Ne.symm hne)]; exact hy)
          refine ⟨y, dy, a, ti, di, be, rul0 us, [.int 0, .int (0 + (i : Int))], _, rfl, hu0, ?_, O11, fun C1 H12 hC1 O12 => ⟨rfl, ?_⟩⟩
          · simp only [List.mem_cons, List.mem_append]
            exact .inr (.inr (.inr (.inr (.inr (.inr ha2)))))
          · have O13 := O12.perm (L' := (D, .lst (as.map V.ref)) :: (x, .ins (cH K) dx [("diary", .ref di), ("last", .ref la), ("shared", .ref sl)]) :: (sl, .lst (be.rooms.map V.ref)) :: (di, .lst []) :: ((Co ++ C1) ++ (Cb ++ R))) (by walk_at "perm")
            refine ⟨_, O13.a0, by rw [List.length_map]; exact size1 (by omega), as ++ [y], Co ++ C1, ?_, ?_⟩
            · have e : ownRs (rul0 us) (i + 1) = ownRs (rul0 us) i ++ [mkRm (rul0 us) [.int 0, .int (0 + (i : Int))]] := by
                unfold ownRs
                rw [List.range_succ, List.map_append, Int.zero_add]
                rfl
              rw [e]
              exact hCo.app hC1
            · rw [List.map_append]
              exact O13.set
      · rintro H9 ⟨as, Co, hCo, O9⟩
        have O10 := O9.perm (L' := (x, .ins (cH K) dx [("diary", .ref di), ("last", .ref la), ("shared", .ref sl)]) :: (D, .lst (as.map V.ref)) :: (sl, .lst (be.rooms.map V.ref)) :: (di, .lst []) :: (Co ++ (Cb ++ R))) (by walk_at "perm")
        refine ⟨_, rfl, x, cH K, dx, _, rfl, O10.a0, T.cl_Hall, T.na_Hall_own, by show 3 < 1000; decide, ?_⟩
        have O11 := O10.set (o' := .ins (cH K) dx (putF "own" (.ref D) [("diary", .ref di), ("last", .ref la), ("shared", .ref sl)]))
        simp only [pf_nil, pf_tl ne_own_diary, pf_tl ne_own_last, pf_tl ne_own_shared] at O11 ⊢
        refine k (hallC K ⟨x, dx, di, sl, D, be, as⟩ ++ (Co ++ (Cb ++ [(di, .lst [])]))) _ ⟨⟨x, dx, di, sl, D, be, as⟩, rfl, Co, Cb, [(di, .lst [])], hCo, hCb, ⟨[], rfl, rfl⟩, rfl⟩ (O11.perm ?_)
        unfold hallC fHall
        dsimp only
        rw [hbl]
        walk_at "perm"
end
-- WwTo
def spToldX (K : PySem.W.Frag) : Sp := fun vs H Q E => ∃ (rl pd : Addr) (m : Int) (as das : List Addr) (xss yss : List (List V)) (R : List Cell), vs = [.ref rl, .int m, .ref pd] ∧ RowsAt R rl as xss ∧ RowsAt R pd das yss ∧ Own H R ∧
  (∀ i, RsBad xss i → ∀ (d : Addr) (H' : Hp), Own H' ((d, .xd [("number", .int (i : Nat))]) :: R) → E (.ref (He.ga K "BadRule")) (some d) H') ∧
  (RsGood xss → ¬ HandOk m → ∀ H', Own H' R → E (.ref (He.ga K "BadHands")) none H') ∧
  (RsGood xss → HandOk m → (∃ us : List Rul, xss = us.map Rul.vs ∧ RulesOk us) ∧ ∃ j, DeedBad m yss j ∧ ∀ (d : Addr) (H' : Hp), Own H' ((d, .xd [("number", .int (j : Nat))]) :: R) → E (.ref (He.ga K "BadDeed")) (some d) H')
def spPlainX (K : PySem.W.Frag) : Sp := fun vs H Q E => ∃ (pd : Addr) (m : Int) (as : List Addr) (yss : List (List V)) (R : List Cell), vs = [.int m, .ref pd] ∧ RowsAt R pd as yss ∧ Own H R ∧
  (¬ HandOk m → ∀ H', Own H' R → E (.ref (He.ga K "BadHands")) none H') ∧
  (HandOk m → ∀ i, DeedBad m yss i → ∀ (d : Addr) (H' : Hp), Own H' ((d, .xd [("number", .int (i : Nat))]) :: R) → E (.ref (He.ga K "BadDeed")) (some d) H') ∧
  (HandOk m → (∀ i, i < yss.length → DeedAt m yss i) → ∃ ds : List Deed, yss = ds.map Deed.vs ∧ (∀ d ∈ ds, d.ok m.toNat) ∧ ds.length ≤ 200 ∧
    ∀ (p p1 p2 : Addr) (H' : Hp), Own H' ((p, .tup [.ref p1, .ref p2]) :: (p1, .lst ((plRun cs0 ds).1.map V.int)) :: (p2, .lst ((plRun cs0 ds).2.map V.int)) :: R) → Q (.ref p) H')
/-- lists of rows -/
def HaX (R : List Cell) : List Addr → List (List (List V)) → Prop
  | [], [] => True
  | a :: as, xss :: r => (∃ bs, RowsAt R a bs xss) ∧ HaX R as r
  | _, _ => False
theorem HaX.len {R : List Cell} : ∀ {as : List Addr} {r : List (List (List V))}, HaX R as r → as.length = r.length
  | [], [], _ => rfl
  | [], _ :: _, h => h.elim
  | _ :: _, [], h => h.elim
  | _ :: _, _ :: _, h => congrArg (· + 1) (HaX.len h.2)
theorem HaX.get {R : List Cell} : ∀ {as : List Addr} {r : List (List (List V))} {i : Nat} {a : Addr}, HaX R as r → as[i]? = some a → ∃ xss bs, r[i]? = some xss ∧ RowsAt R a bs xss
  | [], [], i, a, _, e => by simp at e
  | [], _ :: _, _, _, h, _ => h.elim
  | _ :: _, [], _, _, h, _ => h.elim
  | _ :: _, _ :: _, 0, a, h, e => by
    simp at e
    subst e
    obtain ⟨bs, h1⟩ := h.1
    exact ⟨_, bs, rfl, h1⟩
  | _ :: as, _ :: r, i + 1, a, h, e => by
    obtain ⟨xss, bs, h1, h2⟩ := HaX.get (i := i) (a := a) h.2 (by simpa using e)
    exact ⟨xss, bs, by simpa using h1, h2⟩
def spLeastX (K : PySem.W.Frag) : Sp := fun vs H Q E => ∃ (hp pd : Addr) (m : Int) (has das : List Addr) (r : List (List (List V))) (yss : List (List V)) (R : List Cell), vs = [.ref hp, .int m, .ref pd] ∧ (hp, HO.lst (has.map V.ref)) ∈ R ∧ HaX R has r ∧ has.length ≤ 1000 ∧ RowsAt R pd das yss ∧ Own H R ∧
  (¬ (1 ≤ has.length ∧ has.length ≤ 6) → ∀ H', Own H' R → E (.ref (He.ga K "BadRoom")) none H') ∧
  ((1 ≤ has.length ∧ has.length ≤ 6) → ∀ (j i : Nat) (xss : List (List V)), r[j]? = some xss → RsBad xss i → (∀ j', j' < j → ∃ x, r[j']? = some x ∧ RsGood x) → ∀ (d : Addr) (H' : Hp), Own H' ((d, .xd [("number", .int (i : Nat))]) :: R) → E (.ref (He.ga K "BadRule")) (some d) H') ∧
  ((1 ≤ has.length ∧ has.length ≤ 6) → (∀ xss ∈ r, RsGood xss) → ¬ HandOk m → ∀ H', Own H' R → E (.ref (He.ga K "BadHands")) none H') ∧
  ((1 ≤ has.length ∧ has.length ≤ 6) → (∀ xss ∈ r, RsGood xss) → HandOk m → ∃ j, DeedBad m yss j ∧ ∀ (d : Addr) (H' : Hp), Own H' ((d, .xd [("number", .int (j : Nat))]) :: R) → E (.ref (He.ga K "BadDeed")) (some d) H')
section
variable {P : Program} {w : World} {K : PySem.W.Frag} {mg : Str → Option Value} {base : Heap} {n lv : Nat}
theorem ok_toldX (T : Txt K mg) : FnOk P w K mg base (L2.CX P w) 6 (He.fAd K ("told", none)) T.fd_told ["rules", "hands", "deeds"] (spToldX K) := by
  have G_need_deeds := ok_need_deedsX (P := P) (w := w) (base := base) T
  have G_Hall___init__ := ok_Hall_initX (P := P) (w := w) (base := base) T
  refine okX T.F_told sc_told (fun vs H Q E h => ?_) (fun cdv A outer s H vs Q E hr h => ?_)
  · obtain ⟨_, _, _, _, _, _, _, _, rfl, _⟩ := h
    rfl
  · obtain ⟨rl, pd, m, as, das, xss, yss, R, rfl, hr1, hr2, O, k1, k2, k3⟩ := h
    refine ⟨_, (pss_cons (ps_set (i := 3) sc_told.nd rfl (Or.inl rfl) (pe_make T.mk_Hall G_Hall___init__ (hr.mono (by omega)) rfl T.g_Hall T.b_Hall___init__ .nil (passes_call (takes_of rfl rfl rfl rfl) fun _ _ _ _ z => z) (pa_cons (pv 0) (pa_cons (pv 1) pa_nil)))) (pss_cons (ps_expr (pe_call G_need_deeds (hr.mono (by omega)) rfl T.g_need_deeds T.k_need_deeds T.b_need_deeds .nil (passes_call (takes_of rfl rfl rfl rfl) fun _ _ _ _ z => z) (pa_cons (pv 2) (pa_cons (pv 1) pa_nil)))) (pss_cons ps_never (pss_cons ps_never (pss_one ps_never))))), ?_⟩
    refine ⟨_, rfl, _, rfl, fun x dx hx hdx hne => ?_⟩
    have O1 := (O.keepNew (o := .own x) hdx).new (p := x) (o := .ins (cH K) dx []) (by rw [upd_ne (Ne.symm hne)]; exact hx)
    refine ⟨x, dx, rl, m, as, xss, R, rfl, hr1, O1, k1, k2, fun hg hm => ?_⟩
    obtain ⟨⟨us, e, hus⟩, j, hj, kd⟩ := k3 hg hm
    refine ⟨us, e, hus, fun C H1 hC O2 => ⟨rfl, ?_⟩⟩
    have hs : ∀ c ∈ R, c ∈ C ++ R := fun c hc => List.mem_append_right _ hc
    refine ⟨_, rfl, _, rfl, pd, m, das, yss, C ++ R, rfl, hs _ hr2.p, hr2.ta.mono hs, hr2.fl, hr2.ln, O2, fun i hi d H' O' => ?_, fun hall => absurd (hall j hj.1) hj.2.1⟩
    rw [hi.uniq hj] at O'
    exact kd d H' (Own.right (L' := C) (O'.perm (by walk_at "perm")))
theorem ok_plainX (T : Txt K mg) : FnOk P w K mg base (L2.CX P w) 4 (He.fAd K ("plain", none)) T.fd_plain ["hands", "deeds"] (spPlainX K) := by
  have G_need_deeds := ok_need_deedsX (P := P) (w := w) (base := base) T
  have G_need_hands := ok_need_handsX (P := P) (w := w) (base := base) T
  refine okX T.F_plain sc_plain (fun vs H Q E h => ?_) (fun cdv A outer s H vs Q E hr h => ?_)
  · obtain ⟨_, _, _, _, _, rfl, _⟩ := h
    rfl
  · obtain ⟨pd, m, das, yss, R, rfl, hr2, O, k1, k2, k3⟩ := h
    refine ⟨_, (pss_cons (ps_expr (pe_call G_need_hands (hr.mono (by omega)) rfl T.g_need_hands T.k_need_hands T.b_need_hands .nil (passes_call (takes_of rfl rfl rfl rfl) fun _ _ _ _ z => z) (pa_cons (pv 0) pa_nil))) (pss_cons (ps_expr (pe_call G_need_deeds (hr.mono (by omega)) rfl T.g_need_deeds T.k_need_deeds T.b_need_deeds .nil (passes_call (takes_of rfl rfl rfl rfl) fun _ _ _ _ z => z) (pa_cons (pv 1) (pa_cons (pv 0) pa_nil)))) (pss_cons (ps_set (i := 2) sc_plain.nd rfl (Or.inl rfl) (pe_op op_rep (pe_lst (pa_cons pe_int pa_nil)) (pe_globI rfl T.g_CELLS))) (pss_cons (ps_set (i := 3) sc_plain.nd rfl (Or.inl rfl) (pe_lst pa_nil)) (pss_cons (ps_for (passes_of rfl) rfl (pi_list (pv 1)) (pg_name (i := 4) sc_plain.nd rfl (Or.inl rfl)) (pss_one (ps_if (pt_cmpR op_eq (pe_ix ix_tup (pv 4) pe_int (fun _ _ => rfl)) (pe_globS rfl T.g_LOOK) (nomark _)) (pss_one (ps_expr (pe_bm PySem.F.plainAttrs_list PySem.F.slot_list_append PySem.F.type_list_append mt_append (pv 3) (pa_cons (pe_ix ix_list (pv 2) (pe_ix ix_tup (pv 4) pe_int (fun _ _ => rfl)) (fun _ _ => rfl)) pa_nil)))) (pss_one (ps_asg (pe_ix ix_tup (pv 4) pe_int (fun _ _ => rfl)) (pg_sub (pv 2) (pe_ix ix_tup (pv 4) pe_int (fun _ _ => rfl)) set_list)))))) (pss_one (ps_ret (pe_tup (pa_cons (pv 3) (pa_cons (pv 2) pa_nil)))))))))), ?_⟩
    refine ⟨_, rfl, m, rfl, fun hm => ?_, fun hm => k1 hm H O⟩
    refine ⟨_, rfl, _, rfl, pd, m, das, yss, R, rfl, hr2.p, hr2.ta, hr2.fl, hr2.ln, O, k2 hm, fun hall H1 O1 => ?_⟩
    obtain ⟨ds, rfl, hds0, hdl, k⟩ := k3 hm hall
    obtain ⟨m', hm'⟩ : ∃ m' : Nat, m.toNat = m' := ⟨_, rfl⟩
    have hds : ∀ d ∈ ds, d.ok m' := by rw [← hm']; exact hds0
    have hat : DeedsAt R pd ds := ⟨das, hr2.p, hr2.ta⟩
    obtain ⟨as, hal, hpd, hget⟩ := hat.get
    refine ⟨by show 1 ≤ sizeLine; decide, fun l0 hl0 => ?_⟩
    have O2 := O1.new (o := .lst [.int 0]) hl0
    refine ⟨l0, 64, [.int 0], rfl, rfl, O2.a0, by decide, by decide, by show 1 * 64 ≤ sizeLine; decide, fun ca hca => ?_⟩
    have O3 := (O2.tail).new (o := .lst (List.replicate (64 : Int).toNat [V.int 0]).flatten) hca
    have e0 : (List.replicate (64 : Int).toNat [V.int 0]).flatten = cs0.map V.int := by decide
    rw [e0] at O3 ⊢
    refine ⟨by show 0 ≤ sizeLine; decide, fun D hD => ?_⟩
    have O4 := O3.new (o := .lst []) hD
    generalize upd _ D _ = H4 at O4 ⊢
    have hsq : ∀ {H : Hp} {c c' : Cell}, Own H (c :: c' :: R) → SqL K H pd (as.map V.ref) := fun O => SqL.of (O.mem (List.mem_cons_of_mem _ (List.mem_cons_of_mem _ hpd)))
    refine ⟨_, rfl, pd, rfl, ⟨_, hsq O4⟩, ?_⟩
    refine for_list (K := K) (a := pd) (xs := as.map V.ref) (fun i σ H' => (∃ v4, σ = [some (.int m), some (.ref pd), some (.ref ca), some (.ref D), v4]) ∧ Own H' ((D, .lst ((plRun cs0 (ds.take i)).1.map V.int)) :: (ca, .lst ((plRun cs0 (ds.take i)).2.map V.int)) :: R))
      ⟨⟨_, rfl⟩, O4⟩ (fun i σ H' _ ⟨_, O'⟩ => hsq O') ?_ ?_
    · rintro i y σ H5 hi ⟨⟨v4, rfl⟩, O5⟩
      obtain ⟨a, d, rfl, _, hd1, hd2⟩ := hget hi
      have hil : i < ds.length := (List.getElem?_eq_some_iff.mp hd1).1
      have hdok := hds d (List.mem_of_getElem? hd1)
      obtain ⟨hl1, hl2⟩ := plRun_len (ds.take i) cs0
      rw [List.length_take] at hl2
      have hl1 : (plRun cs0 (ds.take i)).2.length = 64 := hl1
      rw [take_snoc hd1, plRun_snoc]
      generalize plRun cs0 (ds.take i) = pr at O5 hl1 hl2 ⊢
      have hda := O5.mem (List.mem_cons_of_mem _ (List.mem_cons_of_mem _ hd2))
      cases d with
      | look hh p =>
        have s1 : SqT K H5 a [.str "look", .int hh, .int p] := SqT.of hda
        have hp : p < 64 := hdok.2
        refine ⟨_, rfl, a, _, 0, .str "look", rfl, rfl, s1, rfl, rfl, true, by rw [decide_eq_true rfl], iteT ?_⟩
        refine ⟨_, rfl, .inl ⟨rfl, _, SqL.of O5.a0⟩, _, rfl, _, rfl, a, _, 2, .int p, rfl, rfl, s1, rfl, ca, _, p, .int (pr.2.getD p 0), rfl, rfl, SqL.of O5.a1, ?_, D, _, _, rfl, rfl, O5.a0, by rw [List.length_map]; exact size1 (by omega), ⟨_, rfl⟩, ?_⟩
        · refine atI_nat ?_
          rw [List.getElem?_map, List.getD_eq_getElem?_getD, List.getElem?_eq_getElem (by omega)]
          rfl
        · rw [List.map_append]
          exact O5.set
      | set hh p v =>
        have s1 : SqT K H5 a [.str "set", .int hh, .int p, .int v] := SqT.of hda
        have hp : p < 64 := hdok.2.1
        refine ⟨_, rfl, a, _, 0, .str "set", rfl, rfl, s1, rfl, rfl, false, by decide +kernel, iteF ?_⟩
        refine ⟨_, rfl, a, _, 3, .int v, rfl, rfl, s1, rfl, _, rfl, _, rfl, a, _, 2, .int p, rfl, rfl, s1, rfl, ca, _, p, p, rfl, rfl, O5.a1, by rw [List.length_map, hl1]; exact ixN_nat hp, ⟨_, rfl⟩, ?_⟩
        have O6 := (O5.perm (L' := (ca, .lst (pr.2.map V.int)) :: (D, .lst (pr.1.map V.int)) :: R) (by walk_at "perm")).set (o' := .lst ((pr.2.map V.int).set p (.int v)))
        rw [← List.map_set] at O6 ⊢
        show Own _ ((D, .lst ((pr.1 ++ []).map V.int)) :: (ca, .lst ((pr.2.set p v).map V.int)) :: R)
        rw [List.append_nil]
        exact O6.perm (by walk_at "perm")
    · rintro σ H5 ⟨⟨v4, rfl⟩, O5⟩
      have e : (as.map V.ref).length = ds.length := by rw [List.length_map]; exact hal
      rw [e, List.take_length] at O5
      refine ⟨_, rfl, _, rfl, by show 2 ≤ sizeLine; decide, fun p hp => ?_⟩
      exact k p D ca _ (O5.new hp)
theorem ok_leastX (T : Txt K mg) : FnOk P w K mg base (L2.CX P w) 4 (He.fAd K ("least", none)) T.fd_least ["halls", "hands", "deeds"] (spLeastX K) := by
  have G_need_rules := ok_need_rulesX (P := P) (w := w) (base := base) T
  have G_need_deeds := ok_need_deedsX (P := P) (w := w) (base := base) T
  have G_need_hands := ok_need_handsX (P := P) (w := w) (base := base) T
  refine okX T.F_least sc_least (fun vs H Q E h => ?_) (fun cdv A outer s H vs Q E hr h => ?_)
  · obtain ⟨_, _, _, _, _, _, _, _, rfl, _⟩ := h
    rfl
  · obtain ⟨hp, pd, m, has, das, r, yss, R, rfl, mhp, hHA, hl0, hr2, O, k0, k1, k2, k3⟩ := h
    have hlen := hHA.len
    refine ⟨_, (pss_cons (ps_if (pt_not (pt_chain op_le op_le pe_int (pe_callB call_len_seq (by rfl) T.n_len PySem.boot_len (pa_cons (pv 0) pa_nil)) (pe_globI rfl T.g_MOST_HALLS))) (pss_one (ps_raise rfl (takes_of rfl rfl rfl rfl) (pmk_own PySem.F.excBase_ValueError T.xe_BadRoom.1 T.g_BadRoom T.xe_BadRoom.2.1 (raises_own T.xe_BadRoom.2.2.1 T.xe_BadRoom.2.2.2) (by rfl)))) pss_nil) (pss_cons (ps_for (passes_of rfl) rfl (pi_list (pv 0)) (pg_name (i := 3) sc_least.nd rfl (Or.inl rfl)) (pss_one (ps_expr (pe_call G_need_rules (hr.mono (by omega)) rfl T.g_need_rules T.k_need_rules T.b_need_rules .nil (passes_call (takes_of rfl rfl rfl rfl) fun _ _ _ _ z => z) (pa_cons (pv 3) pa_nil))))) (pss_cons (ps_expr (pe_call G_need_hands (hr.mono (by omega)) rfl T.g_need_hands T.k_need_hands T.b_need_hands .nil (passes_call (takes_of rfl rfl rfl rfl) fun _ _ _ _ z => z) (pa_cons (pv 1) pa_nil))) (pss_cons (ps_expr (pe_call G_need_deeds (hr.mono (by omega)) rfl T.g_need_deeds T.k_need_deeds T.b_need_deeds .nil (passes_call (takes_of rfl rfl rfl rfl) fun _ _ _ _ z => z) (pa_cons (pv 2) (pa_cons (pv 1) pa_nil)))) (pss_cons ps_never (pss_cons ps_never (pss_one ps_never))))))), ?_⟩
    have sq : ∀ {H : Hp}, Own H R → SqL K H hp (has.map V.ref) := fun O => SqL.of (O.mem mhp)
    have el : (has.map V.ref).length = has.length := List.length_map _
    by_cases g1 : 1 ≤ has.length
    · by_cases g6 : has.length ≤ 6
      · refine ⟨_, rfl, hp, _, rfl, .inl (sq O), 1, ((has.map V.ref).length : Nat), rfl, rfl, true, ?_, iteT ⟨((has.map V.ref).length : Nat), 6, rfl, rfl, true, ?_, iteF ?_⟩⟩
        · exact congrArg V.bl (decide_eq_true (by rw [el]; omega))
        · exact congrArg V.bl (decide_eq_true (by rw [el]; omega))
        refine ⟨_, rfl, hp, rfl, ⟨_, sq O⟩, ?_⟩
        refine for_list (K := K) (a := hp) (xs := has.map V.ref) (fun i σ H' => (∃ v3, σ = [some (.ref hp), some (.int m), some (.ref pd), v3, none, none]) ∧ (∀ j', j' < i → ∃ x, r[j']? = some x ∧ RsGood x) ∧ Own H' R)
          ⟨⟨_, rfl⟩, (fun j' hj' => absurd hj' (by omega)), O⟩ (fun i σ H' _ ⟨_, _, O'⟩ => sq O') ?_ ?_
        · rintro i y σ H1 hi ⟨⟨v3, rfl⟩, hg, O1⟩
          rw [List.getElem?_map] at hi
          cases ea : has[i]? with
          | none =>
            rw [ea] at hi
            cases hi
          | some a =>
            rw [ea] at hi
            obtain rfl : V.ref a = y := Option.some.inj hi
            obtain ⟨xss, bs, hx1, hx2⟩ := hHA.get ea
            refine ⟨_, rfl, a, bs, xss, R, rfl, hx2.p, hx2.ta, hx2.fl, hx2.ln, O1, fun i' hi' d H' O' => k1 ⟨g1, g6⟩ i i' xss hx1 hi' hg d H' O', fun hne hall H2 O2 => ⟨⟨_, rfl⟩, fun j' hj' => ?_, O2⟩⟩
            by_cases e : j' = i
            · rw [e]
              exact ⟨xss, hx1, hne, hall⟩
            · exact hg j' (by omega)
        · rintro σ H1 ⟨⟨v3, rfl⟩, hg, O1⟩
          have hgood : ∀ xss ∈ r, RsGood xss := fun xss hx => by
            obtain ⟨j, hj⟩ := List.getElem?_of_mem hx
            obtain ⟨x, h1, h2⟩ := hg j (by rw [el, hlen]; exact (List.getElem?_eq_some_iff.mp hj).1)
            rw [hj] at h1
            obtain rfl := Option.some.inj h1
            exact h2
          refine ⟨_, rfl, m, rfl, fun hm => ?_, fun hm => k2 ⟨g1, g6⟩ hgood hm H1 O1⟩
          obtain ⟨j, hj, kd⟩ := k3 ⟨g1, g6⟩ hgood hm
          refine ⟨_, rfl, _, rfl, pd, m, das, yss, R, rfl, hr2.p, hr2.ta, hr2.fl, hr2.ln, O1, fun i hi d H' O' => ?_, fun hall => absurd (hall j hj.1) hj.2.1⟩
          rw [hi.uniq hj] at O'
          exact kd d H' O'
      · refine ⟨_, rfl, hp, _, rfl, .inl (sq O), 1, ((has.map V.ref).length : Nat), rfl, rfl, true, ?_, iteT ⟨((has.map V.ref).length : Nat), 6, rfl, rfl, false, ?_, iteT ?_⟩⟩
        · exact congrArg V.bl (decide_eq_true (by rw [el]; omega))
        · exact congrArg V.bl (decide_eq_false (by rw [el]; omega))
        exact k0 (fun z => g6 z.2) H O
    · refine ⟨_, rfl, hp, _, rfl, .inl (sq O), 1, ((has.map V.ref).length : Nat), rfl, rfl, false, ?_, iteF ⟨false, rfl, iteT ?_⟩⟩
      · exact congrArg V.bl (decide_eq_false (by rw [el]; omega))
      exact k0 (fun z => g1 z.1) H O
/-! ### a hall refuses -/
def spHNeedX (K : PySem.W.Frag) : Sp := fun vs H Q E => ∃ (A : HaA) (hand p : Int) (R : List Cell), vs = [.ref A.x, .int hand, .int p] ∧ Own H (hallC K A ++ R) ∧
  (¬ (0 ≤ hand ∧ hand ≤ (A.owns.length : Int) - 1) → E (.ref (He.ga K "BadHand")) none H) ∧
  (0 ≤ hand ∧ hand ≤ (A.owns.length : Int) - 1 → ¬ (0 ≤ p ∧ p ≤ 63) → E (.ref (He.ga K "BadPlace")) none H) ∧
  (0 ≤ hand ∧ hand ≤ (A.owns.length : Int) - 1 → 0 ≤ p ∧ p ≤ 63 → Q .non H)
theorem ok_H_needX (T : Txt K mg) : FnOk P w K mg base (L2.CX P w) 2 (He.fAd K ("Hall", some "need")) T.fd_Hall_need ["self", "hand", "place"] (spHNeedX K) := by
  have G_is_number := ok_is_number (P := P) (w := w) (base := base) T
  refine okX T.F_Hall_need sc_Hall_need (fun vs H Q E h => ?_) (fun cdv A outer s H vs Q E hr h => ?_)
  · obtain ⟨_, _, _, _, rfl, _⟩ := h
    rfl
  · obtain ⟨A, hand, p, R, rfl, O, k1, k2, k3⟩ := h
    refine ⟨_, (pss_cons (ps_if (pt_not (pt_val (pe_call G_is_number (hr.mono (by omega)) rfl T.g_is_number T.k_is_number T.b_is_number .nil pass0 (pa_cons (pv 1) (pa_cons pe_int (pa_cons (pe_op op_sub (pe_callB call_len_seq (by rfl) T.n_len PySem.boot_len (pa_cons (pe_fld (pv 0) rfl) pa_nil)) pe_int) pa_nil)))))) (pss_one (ps_raise rfl (takes_of rfl rfl rfl rfl) (pmk_own PySem.F.excBase_ValueError T.xe_BadHand.1 T.g_BadHand T.xe_BadHand.2.1 (raises_own T.xe_BadHand.2.2.1 T.xe_BadHand.2.2.2) (by rfl)))) pss_nil) (pss_one (ps_if (pt_not (pt_val (pe_call G_is_number (hr.mono (by omega)) rfl T.g_is_number T.k_is_number T.b_is_number .nil pass0 (pa_cons (pv 2) (pa_cons pe_int (pa_cons (pe_op op_sub (pe_globI rfl T.g_CELLS) pe_int) pa_nil)))))) (pss_one (ps_raise rfl (takes_of rfl rfl rfl rfl) (pmk_own PySem.F.excBase_ValueError T.xe_BadPlace.1 T.g_BadPlace T.xe_BadPlace.2.1 (raises_own T.xe_BadPlace.2.2.1 T.xe_BadPlace.2.2.2) (by rfl)))) pss_nil))), ?_⟩
    have el : ((A.owns.map V.ref).length : Int) - 1 = (A.owns.length : Int) - 1 := by rw [List.length_map]
    refine ⟨_, rfl, _, rfl, A.x, cH K, A.dx, _, _, rfl, O.a0, T.cl_Hall, T.na_Hall_own, lk_Hall_own, A.ol, _, rfl, .inl (SqL.of O.a2), _, _, rfl, rfl, hand, 0, _, rfl, ?_⟩
    by_cases g1 : 0 ≤ hand ∧ hand ≤ (A.owns.length : Int) - 1
    · refine ⟨true, congrArg V.bl (decide_eq_true (by rw [el]; exact g1)), iteF ?_⟩
      refine ⟨_, rfl, _, _, rfl, rfl, p, 0, _, rfl, ?_⟩
      by_cases g2 : 0 ≤ p ∧ p ≤ 63
      · exact ⟨true, congrArg V.bl (decide_eq_true (by omega)), iteF (k3 g1 g2)⟩
      · exact ⟨false, congrArg V.bl (decide_eq_false (by omega)), iteT (k2 g1 g2)⟩
    · exact ⟨false, congrArg V.bl (decide_eq_false (by rw [el]; exact g1)), iteT (k1 g1)⟩
/-- what is refused of a look: a hand, or a place -/
def spHLookX (K : PySem.W.Frag) : Sp := fun vs H Q E => ∃ (x : Addr) (m : Nat) (ha : Ha) (hand p : Int) (C R : List Cell), vs = [.ref x, .int hand, .int p] ∧ ha.own.length = m ∧ HallRep K x ha C ∧ Own H (C ++ R) ∧
  ((¬ (0 ≤ hand ∧ hand ≤ (m : Int) - 1) ∧ ∀ H', Own H' (C ++ R) → E (.ref (He.ga K "BadHand")) none H') ∨ ((0 ≤ hand ∧ hand ≤ (m : Int) - 1) ∧ ¬ (0 ≤ p ∧ p ≤ 63) ∧ ∀ H', Own H' (C ++ R) → E (.ref (He.ga K "BadPlace")) none H'))
def spHChangeX (K : PySem.W.Frag) : Sp := fun vs H Q E => ∃ (x : Addr) (m : Nat) (ha : Ha) (hand p v : Int) (C R : List Cell), vs = [.ref x, .int hand, .int p, .int v] ∧ ha.own.length = m ∧ HallRep K x ha C ∧ Own H (C ++ R) ∧
  ((¬ (0 ≤ hand ∧ hand ≤ (m : Int) - 1) ∧ ∀ H', Own H' (C ++ R) → E (.ref (He.ga K "BadHand")) none H') ∨ ((0 ≤ hand ∧ hand ≤ (m : Int) - 1) ∧ ¬ (0 ≤ p ∧ p ≤ 63) ∧ ∀ H', Own H' (C ++ R) → E (.ref (He.ga K "BadPlace")) none H') ∨
    ((0 ≤ hand ∧ hand ≤ (m : Int) - 1) ∧ (0 ≤ p ∧ p ≤ 63) ∧ ¬ (0 ≤ v ∧ v ≤ 999) ∧ ∀ H', Own H' (C ++ R) → E (.ref (He.ga K "BadNumber")) none H'))
def spHNearX (K : PySem.W.Frag) : Sp := fun vs H Q E => ∃ (x : Addr) (n m : Nat) (ha : Ha) (level hand : Int) (C R : List Cell), vs = [.ref x, .int level, .int hand] ∧ HaOk n m ha ∧ HallRep K x ha C ∧ Own H (C ++ R) ∧
  ((¬ (0 ≤ level ∧ level ≤ (n : Int)) ∧ ∀ H', Own H' (C ++ R) → E (.ref (He.ga K "BadRoom")) none H') ∨ ((0 ≤ level ∧ level ≤ (n : Int)) ∧ ¬ (0 ≤ hand ∧ hand ≤ (m : Int) - 1) ∧ ∀ H', Own H' (C ++ R) → E (.ref (He.ga K "BadHand")) none H'))
theorem ok_H_lookX (T : Txt K mg) : FnOk P w K mg base (L2.CX P w) 3 (He.fAd K ("Hall", some "look")) T.fd_Hall_look ["self", "hand", "place"] (spHLookX K) := by
  have G_Hall_need := ok_H_needX (P := P) (w := w) (base := base) T
  refine okX T.F_Hall_look sc_Hall_look (fun vs H Q E h => ?_) (fun cdv A outer s H vs Q E hr h => ?_)
  · obtain ⟨_, _, _, _, _, _, _, rfl, _⟩ := h
    rfl
  · obtain ⟨x, m, ha, hand, p, C, R, rfl, hm, ⟨A, rfl, hC⟩, O, k⟩ := h
    have ho := hC.own
    obtain ⟨Co, Cb, D, _, _, _, rfl⟩ := id hC
    have Oh := O
    rw [List.append_assoc] at Oh
    refine ⟨_, (pss_cons (ps_expr (pe_meth (pv 0) T.cl_Hall T.m_Hall_need G_Hall_need (hr.mono (by omega)) T.b_Hall_need .nil (passes_call (takes_of rfl rfl rfl rfl) fun _ _ _ _ z => z) (pa_cons (pv 1) (pa_cons (pv 2) pa_nil)))) (pss_cons ps_never (pss_one ps_never))), ?_⟩
    refine ⟨_, rfl, A.x, A.dx, _, rfl, Oh.a0, no_Hall_need, _, rfl, _, rfl, A, hand, p, _, rfl, Oh, fun z => ?_, fun z1 z2 => ?_, fun z1 z2 => ?_⟩ <;> rw [ho, hm] at * <;> rcases k with ⟨g1, g2⟩ | ⟨g1, g2, g3⟩
    · exact g2 H O
    · exact absurd g1 z
    · exact absurd z1 g1
    · exact g3 H O
    · exact absurd z1 g1
    · exact absurd z2 g2
theorem ok_H_changeX (T : Txt K mg) : FnOk P w K mg base (L2.CX P w) 3 (He.fAd K ("Hall", some "change")) T.fd_Hall_change ["self", "hand", "place", "number"] (spHChangeX K) := by
  have G_Hall_need := ok_H_needX (P := P) (w := w) (base := base) T
  have G_is_number := ok_is_number (P := P) (w := w) (base := base) T
  refine okX T.F_Hall_change sc_Hall_change (fun vs H Q E h => ?_) (fun cdv A outer s H vs Q E hr h => ?_)
  · obtain ⟨_, _, _, _, _, _, _, _, rfl, _⟩ := h
    rfl
  · obtain ⟨x, m, ha, hand, p, v, C, R, rfl, hm, ⟨A, rfl, hC⟩, O, k⟩ := h
    have ho := hC.own
    obtain ⟨Co, Cb, D, _, _, _, rfl⟩ := id hC
    have Oh := O
    rw [List.append_assoc] at Oh
    refine ⟨_, (pss_cons (ps_expr (pe_meth (pv 0) T.cl_Hall T.m_Hall_need G_Hall_need (hr.mono (by omega)) T.b_Hall_need .nil (passes_call (takes_of rfl rfl rfl rfl) fun _ _ _ _ z => z) (pa_cons (pv 1) (pa_cons (pv 2) pa_nil)))) (pss_cons (ps_if (pt_not (pt_val (pe_call G_is_number (hr.mono (by omega)) rfl T.g_is_number T.k_is_number T.b_is_number .nil pass0 (pa_cons (pv 3) (pa_cons pe_int (pa_cons (pe_globI rfl T.g_MOST_NUMBER) pa_nil)))))) (pss_one (ps_raise rfl (takes_of rfl rfl rfl rfl) (pmk_own PySem.F.excBase_ValueError T.xe_BadNumber.1 T.g_BadNumber T.xe_BadNumber.2.1 (raises_own T.xe_BadNumber.2.2.1 T.xe_BadNumber.2.2.2) (by rfl)))) pss_nil) (pss_cons ps_never (pss_one ps_never)))), ?_⟩
    refine ⟨_, rfl, A.x, A.dx, _, rfl, Oh.a0, no_Hall_need, _, rfl, _, rfl, A, hand, p, _, rfl, Oh, fun z => ?_, fun z1 z2 => ?_, fun z1 z2 => ?_⟩ <;> rw [ho, hm] at * <;> rcases k with ⟨g1, g2⟩ | ⟨g1, g2, g3⟩ | ⟨g1, g2, g3, g4⟩
    · exact g2 H O
    · exact absurd g1 z
    · exact absurd g1 z
    · exact absurd z1 g1
    · exact g3 H O
    · exact absurd g2 z2
    · exact absurd z1 g1
    · exact absurd z2 g2
    · exact ⟨_, rfl, v, 0, 999, rfl, false, congrArg V.bl (decide_eq_false g3), iteT (g4 H O)⟩
theorem ok_H_nearX (T : Txt K mg) : FnOk P w K mg base (L2.CX P w) 2 (He.fAd K ("Hall", some "near")) T.fd_Hall_near ["self", "level", "hand"] (spHNearX K) := by
  have G_is_number := ok_is_number (P := P) (w := w) (base := base) T
  refine okX T.F_Hall_near sc_Hall_near (fun vs H Q E h => ?_) (fun cdv A outer s H vs Q E hr h => ?_)
  · obtain ⟨_, _, _, _, _, _, _, _, rfl, _⟩ := h
    rfl
  · obtain ⟨x, n, m, ha, level, hand, C, R, rfl, hk, ⟨A, rfl, Co, Cb, D, h1, h2, h3, rfl⟩, O, k⟩ := h
    have hrooms := Rep.rooms h2
    have ho := h1.len
    have hlen := hk.len
    have htl := hk.t.len
    have hx : H A.x = some (.ins (cH K) A.dx (fHall (.ref A.di) (.ref A.sh.last) (.ref A.sl) (.ref A.ol))) := O.a0
    have hs : H A.sl = some (.lst (A.sh.rooms.map V.ref)) := O.a1
    have hol : H A.ol = some (.lst (A.owns.map V.ref)) := O.a2
    refine ⟨_, (pss_cons (ps_if (pt_not (pt_val (pe_call G_is_number (hr.mono (by omega)) rfl T.g_is_number T.k_is_number T.b_is_number .nil pass0 (pa_cons (pv 1) (pa_cons pe_int (pa_cons (pe_callB call_len_seq (by rfl) T.n_len PySem.boot_len (pa_cons (pe_fld (pv 0) rfl) pa_nil)) pa_nil)))))) (pss_one (ps_raise rfl (takes_of rfl rfl rfl rfl) (pmk_own PySem.F.excBase_ValueError T.xe_BadRoom.1 T.g_BadRoom T.xe_BadRoom.2.1 (raises_own T.xe_BadRoom.2.2.1 T.xe_BadRoom.2.2.2) (by rfl)))) pss_nil) (pss_cons (ps_if (pt_not (pt_val (pe_call G_is_number (hr.mono (by omega)) rfl T.g_is_number T.k_is_number T.b_is_number .nil pass0 (pa_cons (pv 2) (pa_cons pe_int (pa_cons (pe_op op_sub (pe_callB call_len_seq (by rfl) T.n_len PySem.boot_len (pa_cons (pe_fld (pv 0) rfl) pa_nil)) pe_int) pa_nil)))))) (pss_one (ps_raise rfl (takes_of rfl rfl rfl rfl) (pmk_own PySem.F.excBase_ValueError T.xe_BadHand.1 T.g_BadHand T.xe_BadHand.2.1 (raises_own T.xe_BadHand.2.2.1 T.xe_BadHand.2.2.2) (by rfl)))) pss_nil) (pss_one ps_never))), ?_⟩
    refine ⟨_, rfl, _, rfl, A.x, cH K, A.dx, _, _, rfl, hx, T.cl_Hall, T.na_Hall_shared, lk_Hall_shared, A.sl, _, rfl, .inl (SqL.of hs), level, 0, _, rfl, ?_⟩
    have e1 : ((A.sh.rooms.map V.ref).length : Int) = (n : Int) := by rw [List.length_map]; omega
    have e2 : ((A.owns.map V.ref).length : Int) - 1 = (m : Int) - 1 := by rw [List.length_map]; omega
    rcases k with ⟨g1, g2⟩ | ⟨g1, g2, g3⟩
    · exact ⟨false, congrArg V.bl (decide_eq_false (by rw [e1]; exact g1)), iteT (g2 H O)⟩
    · refine ⟨true, congrArg V.bl (decide_eq_true (by rw [e1]; exact g1)), iteF ?_⟩
      refine ⟨_, rfl, _, rfl, A.x, cH K, A.dx, _, _, rfl, hx, T.cl_Hall, T.na_Hall_own, lk_Hall_own, A.ol, _, rfl, .inl (SqL.of hol), _, _, rfl, rfl, hand, 0, _, rfl, ?_⟩
      exact ⟨false, congrArg V.bl (decide_eq_false (by rw [e2]; exact g2)), iteT (g3 H O)⟩
end
-- WwLm
section lamLayer
 open LamX
/-! ### lambdas as values, with a default or without -/
abbrev lmFn (q : Str) (params : Arguments) (body : Expr) (scope : Scope) (cl : List (Str × Addr)) (dV pm cdv ct : Value) : FuncData :=
  { name := "<lambda>", qualname := q, params := params, body := .expr body, scope := scope, globals := mainGlobals, closure := cl, defaults := dV, kwdefaults := .none, doc := .none, pyModule := pm, annotations := none, code := cdv, closureTuple := ct, builtins := builtinsNs }
abbrev lmObj (q : Str) (params : Arguments) (body : Expr) (scope : Scope) (cl : List (Str × Addr)) (dV pm : Value) (c' : Addr) (ctv : Value) : Obj := { cls := .type "function", data := .func (lmFn q params body scope cl dV pm (.ref c') ctv) }
section
variable {M : Model} {A : Around} {E : Value → Shared → Prop} {s : Shared} {q : Str} {params : Arguments} {body : Expr} {scope : Scope} {env : Env} {c P : Addr} {ps : Array Value} {pos : Pos} {firstLine : Nat} {mg : Str → Option Value} {cl : List (Str × Addr)} {Q : Value → Shared → Prop} {dV : Value}
/-- the function's object is made, its code new in the table -/
theorem lm_new (hcl : closureFor scope env = pure cl) (hge0 : env.globals = mainGlobals) (hg : s.heap.Ns mainGlobals mg) (hcode : env.code = .ref c) (C : PySem.W.CodeHd s.heap c P) (hP : s.heap.get? P = some (PySem.W.tabObj ps)) (ht : TriplesOk ps.toList) (hnf : codeAmong pos ps.toList = none) (hgP : mainGlobals ≠ P) (hb : s.heap.BuiltinsAt mg P)
    (k : ∀ (c' : Addr) (ctv : Value) (h' : Heap) (tk : Tok), Heap.ExtBut P s.heap h' → s.heap.objs.size ≤ c' → c' < h'.objs.size → h'.CodeRec (.ref c') q → h'.get? P = some (PySem.W.tabObj (ps ++ #[rawInt pos.line, rawInt pos.col, .ref c'])) → Q (.ref h'.objs.size) { s with heap := h'.push (lmObj q params body scope cl dV ((mg "__name__").getD .none) c' ctv), toks := tk }) :
    wpAny M A (makeTail "<lambda>" q params (.expr body) scope env dV .none none pos firstLine) Q E s := by
  obtain ⟨bm, ob, b1, b2, _, b3, b4, b5, b6, b7⟩ := hb
  unfold makeTail; rw [hcl, hge0]; refine wpAny_bind (wpAny_pure ?_)
  cases cl with
  | nil =>
    simp only [List.isEmpty_nil, if_true]; refine wpAny_bind (wpAny_pure ?_)
    refine wpAny_bind (wpAny_functionCodeX hcode (C.code hP ht) (C.tab hP) hnf fun c' h' tk hx g1 g2 _ g3 g4 _ => ?_); have hg' := hg.extBut hx hgP
    refine wpAny_bind (wpAny_builtinsFor hg' b1 b2 (hx _ _ b3 b4) b5 b6 b7 ?_); refine wpAny_bind (wpAny_nsGet hg' ?_)
    exact wpAny_bind (wpAny_pure (wpAny_newObj_type (k c' .none h' tk hx g1 g2 g3 g4.2) (by size_fits)))
  | cons x r =>
    simp only [List.isEmpty_cons, Bool.false_eq_true, if_false]; refine wpAny_bind (wpAny_newTextTuple ?_)
    have up : ∀ {T : Obj} (b : Addr) (o : Obj), s.heap.get? b = some o → (s.heap.push T).get? b = some o := fun b o e => Heap.get?_push_of_some _ e
    refine wpAny_bind (wpAny_functionCodeX hcode ((C.keeps up).code (Heap.get?_push_of_some _ hP) ht) ((C.keeps up).tab (Heap.get?_push_of_some _ hP)) hnf fun c' h' tk hx g1 g2 _ g3 g4 _ => ?_)
    have hg' := (hg.push _).extBut hx hgP; have hx' : Heap.ExtBut P s.heap h' := fun b o hb' e => hx b o hb' (Heap.get?_push_of_some _ e)
    refine wpAny_bind (wpAny_builtinsFor hg' b1 b2 (hx' _ _ b3 b4) b5 b6 b7 ?_); refine wpAny_bind (wpAny_nsGet hg' ?_)
    exact wpAny_bind (wpAny_pure (wpAny_newObj_type (k c' _ h' tk hx' (Nat.le_trans (by rw [Heap.size_push]; omega) g1) g2 g3 g4.2) (by size_fits)))
/-- the same, its code found in the table -/
theorem lm_old {cv : Value} (hcl : closureFor scope env = pure cl) (hge0 : env.globals = mainGlobals) (hg : s.heap.Ns mainGlobals mg) (hcode : env.code = .ref c) (C : PySem.W.CodeHd s.heap c P) (hP : s.heap.get? P = some (PySem.W.tabObj ps)) (ht : TriplesOk ps.toList) (hf : codeAmong pos ps.toList = some cv) (hb : s.heap.BuiltinsAt mg P)
    (k : ∀ (ctv : Value) (h' : Heap) (tk : Tok), (∀ b o, s.heap.get? b = some o → h'.get? b = some o) → s.heap.objs.size ≤ h'.objs.size → Q (.ref h'.objs.size) { s with heap := h'.push { cls := .type "function", data := .func (lmFn q params body scope cl dV ((mg "__name__").getD .none) cv ctv) }, toks := tk }) :
    wpAny M A (makeTail "<lambda>" q params (.expr body) scope env dV .none none pos firstLine) Q E s := by
  obtain ⟨bm, ob, b1, b2, _, b3, b4, b5, b6, b7⟩ := hb
  unfold makeTail; rw [hcl, hge0]; refine wpAny_bind (wpAny_pure ?_)
  cases cl with
  | nil =>
    simp only [List.isEmpty_nil, if_true]; refine wpAny_bind (wpAny_pure ?_)
    refine wpAny_bind (wpAny_functionCode_hit hcode (C.code hP ht) hf ?_); refine wpAny_bind (wpAny_builtinsFor hg b1 b2 b4 b5 b6 b7 ?_); refine wpAny_bind (wpAny_nsGet hg ?_)
    exact wpAny_bind (wpAny_pure (wpAny_newObj_type (k .none s.heap s.toks (fun _ _ e => e) (Nat.le_refl _)) (by size_fits)))
  | cons x r =>
    simp only [List.isEmpty_cons, Bool.false_eq_true, if_false]; refine wpAny_bind (wpAny_newTextTuple ?_)
    have up : ∀ {T : Obj} (b : Addr) (o : Obj), s.heap.get? b = some o → (s.heap.push T).get? b = some o := fun b o e => Heap.get?_push_of_some _ e
    refine wpAny_bind (wpAny_functionCode_hit hcode ((C.keeps up).code (Heap.get?_push_of_some _ hP) ht) hf ?_); refine wpAny_bind (wpAny_builtinsFor (hg.push _) b1 b2 (Heap.get?_push_of_some _ b4) b5 b6 b7 ?_); refine wpAny_bind (wpAny_nsGet (hg.push _) ?_)
    exact wpAny_bind (wpAny_pure (wpAny_newObj_type (k _ _ s.toks (fun b o e => Heap.get?_push_of_some _ e) (by rw [Heap.size_push]; omega)) (by size_fits)))
end
/-- a lambda's function, told by its object -/
def LamO (f : Addr) (o : Obj) : HO := .frz o (.own 0)
theorem lamO_nt (f : Addr) (o : Obj) : isTb (LamO f o) = false := rfl
/-- the defaults: none, or one number -/
def Dfl (X : Cx) (params : Arguments) : Option Int → Prop
  | none => defaultsOf params X.env = ([], [])
  | some i => ∃ e : Expr, defaultsOf params X.env = ([eval e X.env], []) ∧ PE X e (tC (.int i))
def DvOk (H : Hp) (dV : Value) : Option Int → Prop
  | none => dV = .none
  | some i => ∃ d : Addr, dV = .ref d ∧ H d = some (.tup [.int i])
section
variable {X : Cx} {pins : List (Addr × Obj)} {σ : L2.St} {H : Hp} {s : Shared}
/-- behind the defaults: the function is made and known -/
theorem lm_make1 {T : List (Addr × Str)} {c P : Addr} {params : Arguments} {body : Expr} {scope : Scope} {pos : Pos} {dV : Value} {ds : Option Int} {E : Value → Shared → Prop} {Q : Value → Shared → Prop} (I : Inv X pins σ H s) (TB : TabB X.base X.mg c P) (hcode : X.env.code = .ref c)
    (hm : (P, X.env.qual ++ "<lambda>") ∈ T) (hu : ∀ p ∈ T, p.1 = P → p.2 = X.env.qual ++ "<lambda>") (hT : Tabs T H) (hd : DvOk H dV ds) (hfree : ∀ y ∈ scope.names, y.2 = .free → ∃ c, X.env.cells.lookup y.1 = some c)
    (k : ∀ (f c' : Addr) (pm ctv : Value) (H1 : Hp) (s' : Shared), Inv X pins σ H1 s' → ExtN H H1 → Tabs T H1 → H f = none → H1 f = some (LamO f (lmObj (X.env.qual ++ "<lambda>") params body scope (cloFrom X.env.cells scope.names []) dV pm c' ctv)) → H1 c' = some (CodeO c' (X.env.qual ++ "<lambda>")) → DvOk H1 dV ds → Q (.ref f) s') :
    wpAny (model X.prog X.w) X.A (makeTail "<lambda>" (X.env.qual ++ "<lambda>") params (.expr body) scope X.env dV .none none pos pos.line) Q E s := by
  obtain ⟨ps, hP, ht, ha⟩ := hT _ hm
  have bP : s.heap.BuiltinsAt X.mg P := TB.bm.keeps I.bk
  have hP' : s.heap.get? P = some { cls := .none, data := .fields ps } := I.hok P _ hP
  have dvK : ∀ {H' : Hp}, ExtN H H' → DvOk H' dV ds := fun {H'} e => by
    cases ds with
    | none => exact hd
    | some i =>
      obtain ⟨d, e1, e2⟩ := hd
      exact ⟨d, e1, e d _ e2 (fun ps z => by cases z)⟩
  cases hc : codeAmong pos ps.toList with
  | none =>
    refine lm_new (mg := X.mg) (c := c) (P := P) (ps := ps) (closure_ok hfree) I.ok.glob (I.mod.glob.keeps I.bk) hcode (TB.code.keeps I.bk) hP' ht hc TB.gP bP fun c' ctv h' tk hx g1 g2 g3 g4 => ?_
    obtain ⟨c2, oc, vs, t, e2, hoc, hdd, hv⟩ := g3
    cases e2
    have hsz : s.heap.objs.size ≤ h'.objs.size := Nat.le_trans g1 (Nat.le_of_lt g2)
    have nC : H c' = none := I.hok.fresh g1
    have I1 := inv_table (t' := tk) (more := #[rawInt pos.line, rawInt pos.col, .ref c']) (h' := h') I hP hx g4 g1 ⟨oc, vs, t, hoc, hdd, hv⟩
    have hE : ExtN H (upd (upd H P (.tbl (ps ++ #[rawInt pos.line, rawInt pos.col, .ref c']))) c' (CodeO c' (X.env.qual ++ "<lambda>"))) := fun b o e n => by
      rw [upd_ne (ne_of_none e nC), upd_ne (fun z => n ps (Option.some.inj (e.symm.trans (by rw [z]; exact hP))))]
      exact e
    have eL : (ps ++ #[rawInt pos.line, rawInt pos.col, .ref c']).toList = ps.toList ++ [rawInt pos.line, rawInt pos.col, .ref c'] := by simp
    have hT1 : Tabs T (upd (upd H P (.tbl (ps ++ #[rawInt pos.line, rawInt pos.col, .ref c']))) c' (CodeO c' (X.env.qual ++ "<lambda>"))) := fun p hp => by
      by_cases hb : p.1 = P
      · rw [hu p hp hb, hb]
        refine ⟨_, by rw [upd_ne (ne_of_none hP nC), upd_same], by rw [eL]; exact PySem.TriplesOk_snoc _ _ _ _ ht, fun p' cv hcv => ?_⟩
        rw [eL] at hcv
        rcases among_app _ ht hcv with z | z
        · obtain ⟨c0, e1, e2⟩ := ha p' cv z
          exact ⟨c0, e1, hE _ _ e2 codeO_ne⟩
        · exact ⟨c', z, upd_same⟩
      · obtain ⟨ps', a1, a2, a3⟩ := hT p hp
        refine ⟨ps', by rw [upd_ne (ne_of_none a1 nC), upd_ne hb]; exact a1, a2, fun p' cv hcv => ?_⟩
        obtain ⟨c0, e1, e2⟩ := a3 p' cv hcv
        exact ⟨c0, e1, hE _ _ e2 codeO_ne⟩
    have nF : (upd (upd H P (.tbl (ps ++ #[rawInt pos.line, rawInt pos.col, .ref c']))) c' (CodeO c' (X.env.qual ++ "<lambda>"))) h'.objs.size = none := I1.hok.fresh (Nat.le_refl _)
    have I2 := I1.laid (a := h'.objs.size) (o := LamO h'.objs.size (lmObj (X.env.qual ++ "<lambda>") params body scope (cloFrom X.env.cells scope.names []) dV ((X.mg "__name__").getD .none) c' ctv)) (h' := h'.push (lmObj (X.env.qual ++ "<lambda>") params body scope (cloFrom X.env.cells scope.names []) dV ((X.mg "__name__").getD .none) c' ctv)) (t' := tk) (fun b o e => Heap.get?_push_of_some _ e) (Nat.le_refl _)
      ⟨Heap.get?_push_size _ rfl, ⟨_, Heap.get?_push_size _ rfl⟩⟩
    have up : ∀ b o, (upd (upd H P (.tbl (ps ++ #[rawInt pos.line, rawInt pos.col, .ref c']))) c' (CodeO c' (X.env.qual ++ "<lambda>"))) b = some o → upd (upd (upd H P (.tbl (ps ++ #[rawInt pos.line, rawInt pos.col, .ref c']))) c' (CodeO c' (X.env.qual ++ "<lambda>"))) h'.objs.size (LamO h'.objs.size (lmObj (X.env.qual ++ "<lambda>") params body scope (cloFrom X.env.cells scope.names []) dV ((X.mg "__name__").getD .none) c' ctv)) b = some o := fun b o e => by
      rw [upd_ne (ne_of_none e nF)]
      exact e
    have hE2 := hE.trans (ExtN.of up)
    exact k h'.objs.size c' _ ctv _ _ I2 hE2 (hT1.ext up) (I.hok.fresh hsz) upd_same (up _ _ upd_same) (dvK hE2)
  | some cv =>
    obtain ⟨c', e, hco⟩ := ha pos cv hc
    subst e
    refine lm_old (mg := X.mg) (c := c) (P := P) (ps := ps) (closure_ok hfree) I.ok.glob (I.mod.glob.keeps I.bk) hcode (TB.code.keeps I.bk) hP' ht hc bP fun ctv h' tk hx hsz => ?_
    have I1 : Inv X pins σ H { s with heap := h', toks := tk } := I.kept hx
    have nF : H h'.objs.size = none := I.hok.fresh hsz
    have I2 := I1.laid (a := h'.objs.size) (o := LamO h'.objs.size (lmObj (X.env.qual ++ "<lambda>") params body scope (cloFrom X.env.cells scope.names []) dV ((X.mg "__name__").getD .none) c' ctv)) (h' := h'.push (lmObj (X.env.qual ++ "<lambda>") params body scope (cloFrom X.env.cells scope.names []) dV ((X.mg "__name__").getD .none) c' ctv)) (t' := tk) (fun b o e => Heap.get?_push_of_some _ e) (Nat.le_refl _)
      ⟨Heap.get?_push_size _ rfl, ⟨_, Heap.get?_push_size _ rfl⟩⟩
    have up : ∀ b o, H b = some o → upd H h'.objs.size (LamO h'.objs.size (lmObj (X.env.qual ++ "<lambda>") params body scope (cloFrom X.env.cells scope.names []) dV ((X.mg "__name__").getD .none) c' ctv)) b = some o := fun b o e => by
      rw [upd_ne (ne_of_none e nF)]
      exact e
    exact k h'.objs.size c' _ ctv _ _ I2 (ExtN.of up) (hT.ext up) nF upd_same (up _ _ hco) (dvK (ExtN.of up))
/-- a lambda as a value -/
structure LamI where
  params : Arguments
  body : Expr
  scope : Scope
  ds : Option Int
  ps : List Str
def LamAt (X : Cx) (B : LamI) (H : Hp) (f : Addr) : Prop := ∃ (dV pm : Value) (c' : Addr) (ctv : Value), H f = some (LamO f (lmObj (X.env.qual ++ "<lambda>") B.params B.body B.scope (cloFrom X.env.cells B.scope.names []) dV pm c' ctv)) ∧ H c' = some (CodeO c' (X.env.qual ++ "<lambda>")) ∧ DvOk H dV B.ds
def tLamV (X : Cx) (T : List (Addr × Str)) (B : LamI) : TE := fun σ H Q => Tabs T H ∧ ∀ (f : Addr) (H1 : Hp), ExtN H H1 → Tabs T H1 → H f = none → LamAt X B H1 f → Q (.ref f) H1
theorem pe_lamV {T : List (Addr × Str)} {c P : Addr} {B : LamI} {pos : Pos} (TB : TabB X.base X.mg c P) (hcode : X.env.code = .ref c) (hm : (P, X.env.qual ++ "<lambda>") ∈ T) (hu : ∀ p ∈ T, p.1 = P → p.2 = X.env.qual ++ "<lambda>") (hd : Dfl X B.params B.ds)
    (hfree : X.Ok → ∀ y ∈ B.scope.names, y.2 = .free → ∃ c, X.env.cells.lookup y.1 = some c) : PE X (.Lambda B.params B.body B.scope pos) (tLamV X T B) := by
  refine ⟨fun pins s σ H Q I h => ?_⟩
  obtain ⟨hT, h⟩ := h
  rw [arm_eval_Lambda]
  cases hds : B.ds with
  | none =>
    rw [hds] at hd
    have hd : defaultsOf B.params X.env = ([], []) := hd
    rw [hd]
    show wpAny _ _ (do let dv ← evalAll []; let kdv ← holding dv (evalAllOpt []); makeFunction "<lambda>" (X.env.qual ++ "<lambda>") B.params (.expr B.body) B.scope X.env dv kdv [] pos pos.line) _ _ s
    refine wpAny_bind (wpAny_pure (wpAny_bind (wpAny_holding (wpAny_pure ?_))))
    rw [makeFunction_eq]
    simp only [List.zip_nil_right, List.filterMap_nil, List.isEmpty_nil, if_true, pure_bind]
    refine lm_make1 (T := T) (c := c) (P := P) (ds := none) I TB hcode hm hu hT rfl (hfree I.ok) fun f c' pm ctv H1 s' I1 eN T1 hf hl hc' hdv => ?_
    exact ⟨.ref f, H1, I1, rfl, h f H1 eN T1 hf ⟨.none, pm, c', ctv, hl, hc', by rw [hds]; exact hdv⟩⟩
  | some i =>
    rw [hds] at hd
    obtain ⟨e, he, pe⟩ := hd
    rw [he]
    show wpAny _ _ (do let dv ← evalAll [eval e X.env]; let kdv ← holding dv (evalAllOpt []); makeFunction "<lambda>" (X.env.qual ++ "<lambda>") B.params (.expr B.body) B.scope X.env dv kdv [] pos pos.line) _ _ s
    refine wpAny_bind (wpAny_evalAll_cons (thn (pe.run pins s σ H (fun v H' => v = .int i ∧ H' = H) I ⟨rfl, rfl⟩) fun u s1 ⟨v, H', I1, r1, e1, e2⟩ => wpAny_evalAll_nil ?_))
    subst e1
    subst e2
    obtain ⟨tk0, rfl⟩ := r1
    refine wpAny_bind (wpAny_holding (wpAny_pure ?_))
    rw [makeFunction_eq]
    simp only [List.zip_nil_right, List.filterMap_nil, List.isEmpty_nil, List.isEmpty_cons, if_true, Bool.false_eq_true, if_false, pure_bind]
    refine wpAny_bind (wpAny_newTextTuple ?_)
    have nD : H' s1.heap.objs.size = none := I1.hok.fresh (Nat.le_refl _)
    have I2 := I1.laid (a := s1.heap.objs.size) (o := .tup [.int i]) (h' := s1.heap.push { cls := .type "tuple", data := .seq [Value.int i tk0].toArray }) (t' := s1.toks) (fun b o e => Heap.get?_push_of_some _ e) (Nat.le_refl _)
      ⟨by show 1 ≤ sizeLine; decide, [Value.int i tk0], .cons ⟨tk0, rfl⟩ .nil, ⟨_, Heap.get?_push_size _ rfl, rfl, _, rfl⟩⟩
    have up : ∀ b o, H' b = some o → upd H' s1.heap.objs.size (.tup [.int i]) b = some o := fun b o e => by
      rw [upd_ne (ne_of_none e nD)]
      exact e
    refine lm_make1 (T := T) (c := c) (P := P) (ds := some i) I2 TB hcode hm hu (hT.ext up) ⟨_, rfl, upd_same⟩ (hfree I.ok) fun f c' pm ctv H1 s' I3 eN T1 hf hl hc' hdv => ?_
    refine ⟨.ref f, H1, I3, rfl, h f H1 ((ExtN.of up).trans eN) T1 ?_ ⟨_, pm, c', ctv, hl, hc', by rw [hds]; exact hdv⟩⟩
    cases hh : H' f with
    | none => rfl
    | some o =>
      rw [up f o hh] at hf
      cases hf
end
/-! ### a lambda's body runs -/
/-- its names: captured ones, globals, and its parameter, which the maker has not -/
structure LmS (N : List Str) (sc : Scope) (B : LamI) : Prop where
  kind : B.scope.kind = .function
  co : B.scope.isCoroutine = false
  gen : B.scope.isGenerator = false
  own : ∀ y ∈ B.scope.names, y.2 ≠ .cell ∧ (y.2 = .local → y.1 ∉ N)
  free : ∀ y ∈ B.scope.names, y.2 = .free → sc.names.lookup y.1 = some .cell ∨ sc.names.lookup y.1 = some .free
  par : ∀ x ∈ B.ps, B.scope.names.lookup x = some .local
def lmSB (N : List Str) (sc : Scope) (B : LamI) : Bool :=
  decide (B.scope.kind = .function) && (!B.scope.isCoroutine && (!B.scope.isGenerator && ((B.scope.names.all fun y => !decide (y.2 = .cell) && ((!decide (y.2 = .local) || !decide (y.1 ∈ N)) && (!decide (y.2 = .free) || (decide (sc.names.lookup y.1 = some .cell) || decide (sc.names.lookup y.1 = some .free))))) && B.ps.all fun x => decide (B.scope.names.lookup x = some .local))))
theorem lmS_by {N : List Str} {sc : Scope} {B : LamI} (h : lmSB N sc B = true) : LmS N sc B := by
  unfold lmSB at h
  simp only [Bool.and_eq_true, Bool.or_eq_true, Bool.not_eq_true', decide_eq_true_eq, decide_eq_false_iff_not, List.all_eq_true] at h
  obtain ⟨h1, h2, h3, h4, h5⟩ := h
  refine ⟨h1, h2, h3, fun y hy => ⟨(h4 y hy).1, fun e => ?_⟩, fun y hy e => ?_, h5⟩
  · rcases (h4 y hy).2.1 with z | z
    · exact absurd e z
    · exact z
  · rcases (h4 y hy).2.2 with z | z
    · exact absurd e z
    · exact z
theorem LmS.has {X : Cx} {B : LamI} (L : LmS X.N X.env.scope B) (ok : X.Ok) : ∀ y ∈ B.scope.names, y.2 = .free → ∃ c, X.env.cells.lookup y.1 = some c := fun y hy e => by
  rcases L.free y hy e with k | k
  · exact ok.has _ (.inl k)
  · exact ok.has _ (.inr k)
/-- what the maker's cells hold -/
structure Home (X : Cx) (B : LamI) (σ : L2.St) (H : Hp) (h : Heap) : Prop where
  has : ∀ y ∈ B.scope.names, y.2 = .free → ∃ c, X.env.cells.lookup y.1 = some c
  inj : ∀ x y c, X.env.cells.lookup x = some c → X.env.cells.lookup y = some c → x = y
  cell : ∀ y c, X.env.cells.lookup y = some c → H c = none ∧ ∃ v, h.IsCell c v
  loc : ∀ (i : Nat) (y : Str) (v : V), X.N[i]? = some y → σ[i]? = some (some v) → (y, NameKind.free) ∈ B.scope.names → ∃ u c, RelV v u ∧ X.env.cells.lookup y = some c ∧ h.IsCell c (some u)
  len : σ.length = X.N.length
theorem Home.of {X : Cx} {B : LamI} {pins : List (Addr × Obj)} {σ : L2.St} {H : Hp} {s : Shared} (L : LmS X.N X.env.scope B) (I : Inv X pins σ H s) : Home X B σ H s.heap := by
  refine ⟨L.has I.ok, I.ok.inj, fun y c e => ⟨I.freeC y c e, I.cell y c e⟩, fun i y v e1 e2 hy => ?_, I.len⟩
  obtain ⟨m, hn, hl⟩ := I.loc
  have hvis : Vis X.env.scope y := (L.free _ hy rfl).elim (fun k => .inr (.inl k)) (fun k => .inr (.inr k))
  obtain ⟨u, r, q⟩ := hl i y v e1 e2 hvis
  rcases q with ⟨k', _⟩ | ⟨_, c, e, z⟩
  · have k' : X.env.scope.names.lookup y = some .local := k'
    rcases L.free _ hy rfl with k2 | k2 <;> rw [show X.env.scope.names.lookup y = _ from k2] at k' <;> cases k'
  · exact ⟨u, c, r, e, z⟩
theorem isCell_un {fs ex : List Addr} {H H' : Hp} {h h' : Heap} {c : Addr} {v : Option Value} (u : Un fs ex H H' h h') (n : H c = none) (hx : c ∉ ex) (z : h.IsCell c v) : h'.IsCell c v := by
  obtain ⟨o, ho, hd⟩ := z
  obtain ⟨sl, q⟩ := u.any ho n hx
  exact ⟨_, q, hd⟩
theorem Home.un {X : Cx} {B : LamI} {σ : L2.St} {H H' : Hp} {h h' : Heap} {fs ex : List Addr} (m : Home X B σ H h) (u : Un fs ex H H' h h') (hx : ∀ y c, X.env.cells.lookup y = some c → c ∉ ex) : Home X B σ H' h' := by
  refine ⟨m.has, m.inj, fun y c e => ?_, fun i y v e1 e2 hy => ?_, m.len⟩
  · obtain ⟨n, v, z⟩ := m.cell y c e
    obtain ⟨o, ho, _⟩ := id z
    exact ⟨u.free c o ho n (hx y c e), v, isCell_un u n (hx y c e) z⟩
  · obtain ⟨w, c, r, e, z⟩ := m.loc i y v e1 e2 hy
    exact ⟨w, c, r, e, isCell_un u (m.cell y c e).1 (hx y c e) z⟩
theorem lm_start {X : Cx} {B : LamI} {σ : L2.St} {HZ : Hp} {s1 : Shared} {A : Around} {outer : List Env} {E : XK} {f c' : Addr} {h₁ : Heap} {tk : Nat} {bs : List (Str × Value)} (L : LmS X.N X.env.scope B) (m : Home X B σ HZ s1.heap) (e0 : Env0 X.prog X.w X.K X.mg X.base A outer s1 HZ) (hd : A.handled = none)
    (hns : h₁.Ns s1.heap.objs.size fun y => bs.reverse.lookup y) (kp : ∀ b o, s1.heap.get? b = some o → h₁.get? b = some o) : Inv (lamCx X A outer s1 HZ E B.scope f c') [] σ HZ { s1 with heap := h₁, toks := tk } := by
  have cm : ∀ {y c}, (cloFrom X.env.cells B.scope.names []).lookup y = some c → X.env.cells.lookup y = some c := fun {y c} e => by
    rcases cloFrom_mem (PySem.mem_of_lookup e) with hm | ⟨h1, h2⟩
    · cases hm
    · obtain ⟨c1, hc⟩ := m.has _ h1 rfl
      have hc : X.env.cells.lookup y = some c1 := hc
      have e2 : c = c1 := by rw [h2, hc] <;> rfl
      rw [e2]
      exact hc
  have look : ∀ {y}, B.scope.names.lookup y = some .free → ∃ c, (cloFrom X.env.cells B.scope.names []).lookup y = some c := fun {y} hl => mem_lookup (cloFrom_has (cells := X.env.cells) (acc := []) (PySem.mem_of_lookup hl))
  have up : ∀ {c : Addr} {v : Option Value}, s1.heap.IsCell c v → h₁.IsCell c v := fun {c v} ⟨o, ho, hd⟩ => ⟨o, kp _ _ ho, hd⟩
  have noA : ∀ b : Addr, b ∉ (lamCx X A outer s1 HZ E B.scope f c').ex := fun b z => absurd (show b ∈ ([] : List Addr) from z) (by simp)
  refine ⟨⟨e0.mod, L.kind, rfl, rfl, Nat.le_refl _, fun y z c e1 e2 => m.inj y z c (cm e1) (cm e2), fun y hy => ?_, fun y c z _ => ?_, fun _ => hd, Around.frames_deeper e0.frames, .inr ⟨rfl, rfl⟩, fun b z => absurd z (noA b), e0.bs, e0.bsz, fun b _ _ => noA b, fun b z => absurd z (noA b), e0.funs, e0.frf⟩,
    rfl, e0.bare, Un.kept kp, ⟨_, hns, fun i y v e1 e2 e3 => ?_⟩, fun y c e => ?_, e0.hok.fresh (Nat.le_refl _), fun y c e => (m.cell y c (cm e)).1, fun q hq => absurd (show q ∈ ([] : List (Addr × Obj)) ++ [] from hq) (by simp), e0.hok.kept kp, m.len⟩
  · have hy : B.scope.names.lookup y = some .cell ∨ B.scope.names.lookup y = some .free := hy
    rcases hy with hy | hy
    · exact absurd rfl (L.own _ (PySem.mem_of_lookup hy)).1
    · exact look hy
  · have z : false = true := z
    cases z
  · have e3 : Vis B.scope y := e3
    rcases e3 with k | k | k
    · exact absurd (List.mem_of_getElem? e1) ((L.own _ (PySem.mem_of_lookup k)).2 rfl)
    · exact absurd rfl (L.own _ (PySem.mem_of_lookup k)).1
    · obtain ⟨w', c, r, e, z⟩ := m.loc i y v e1 e2 (PySem.mem_of_lookup k)
      obtain ⟨c2, h2⟩ := look k
      have : c2 = c := by
        have := cm h2
        rw [e] at this
        exact (Option.some.inj this).symm
      subst this
      exact ⟨w', r, .inr ⟨.inr k, c2, h2, up z⟩⟩
  · obtain ⟨_, w', z⟩ := m.cell y c (cm e)
    exact ⟨w', up z⟩
/-- what a call without arguments binds -/
def LBd (B : LamI) : Prop := match B.ds with
  | none => B.ps = [] ∧ ∀ (q : Str) (cl : List (Str × Addr)) (pm cv ctv : Value), bindArgs (lmFn q B.params B.body B.scope cl .none pm cv ctv) ⟨[], []⟩ = pure []
  | some _ => ∃ x0, B.ps = [x0] ∧ ∀ (T : Addr) (q : Str) (cl : List (Str × Addr)) (pm cv ctv u : Value), ∃ k, bindArgs (lmFn q B.params B.body B.scope cl (.ref T) pm cv ctv) ⟨[], []⟩ = seqItems? (.ref T) >>= k ∧ k (some #[u]) = pure [(x0, u)]
theorem lbd_run {P : Program} {w : World} {A : Around} {E : Value → Shared → Prop} {B : LamI} {H : Hp} {s : Shared} {q : Str} {cl : List (Str × Addr)} {dV pm cv ctv : Value} {Q : List (Str × Value) → Shared → Prop} (hb : LBd B) (hk : HOk P w H s.heap) (hd : DvOk H dV B.ds) (k : ∀ bs, (∀ y ∈ bs, y.1 ∈ B.ps) → Q bs s) :
    wpAny (model P w) A (bindArgs (lmFn q B.params B.body B.scope cl dV pm cv ctv) ⟨[], []⟩) Q E s := by
  unfold LBd at hb
  cases hds : B.ds with
  | none =>
    rw [hds] at hb hd
    obtain rfl : dV = .none := hd
    rw [hb.2]
    exact wpAny_pure (k [] fun y hy => nomatch hy)
  | some i =>
    rw [hds] at hb hd
    obtain ⟨x0, e0, hb⟩ := hb
    obtain ⟨d, rfl, hd⟩ := hd
    obtain ⟨_, its, rv, o, ho, hc, n, hdt⟩ := (show ObjOk P w H s.heap d (.tup [.int i]) from hk d _ hd)
    cases rv with
    | @cons _ u _ us r1 r2 =>
      cases r2
      obtain ⟨kk, e1, e2⟩ := hb d q cl pm cv ctv u
      rw [e1]
      refine wpAny_bind (wpAny_seqItems ho hdt ?_)
      rw [show ([u] : List Value).toArray = #[u] from rfl, e2]
      exact wpAny_pure (k _ fun y hy => by rw [List.mem_singleton.mp hy, e0]; exact List.mem_cons_self)
/-- a(), in the def that got the lambda -/
theorem pe_actD {X : Cx} {B : LamI} {CXg : CXT} {Eg : XK} {Ng : List Str} {qg : Str} {sg : Scope} {g f : Addr} {cdg : Value} {A0 : Around} {stk : List Env} {σ : L2.St} {H : Hp} {s : Shared} {k i : Nat} {a : Str} {pn : List (Addr × Obj)} {xe : Value → Shared → Prop} {W : WX} {E : XK} {tb : TE} {p1 p2 : Pos}
    (m : Home X B σ H s.heap) (L : LmS X.N X.env.scope B) (hb : LBd B) (tk : Takes ((cxOf CXg X.prog X.w X.K X.mg X.base Ng qg sg g cdg A0 stk s H Eg).tr pn xe) W) (hW : ∀ cls d σ' H', E cls d H' → W cls d σ' H') (hr : Room (k + 1) (A0.deeper (envOfC qg sg s.heap.objs.size g cdg)))
    (hbody : ∀ (A : Around) (outer : List Env) (s : Shared) (H : Hp) (c' : Addr), Room k (A.deeper (lamEnv X B.scope s.heap.objs.size f c')) → PE (lamCx X A outer s H E B.scope f c') B.body tb)
    (hN : Ng[i]? = some a) (hv : Vis sg a) (hd : (a == ("__debug__" : Str)) = false := by decide) (hcd : (a == ("__classdict__" : Str)) = false := by decide) :
    PE ((cxOf CXg X.prog X.w X.K X.mg X.base Ng qg sg g cdg A0 stk s H Eg).tr pn xe) (.Call (.Name a p1) [] [] p2) (fun σZ HZ Q => σZ[i]? = some (some (.ref f)) ∧ LamAt X B HZ f ∧ tb σ HZ Q) := by
  refine ⟨fun pinsZ sZ σZ HZ Q IZ h => ?_⟩
  obtain ⟨hs, ⟨dV, pm, c', ctv, hf, hc, hdv⟩, ht⟩ := h
  refine wpAny_Call_Name_kw (thn ((pe_var (pos := p1) (i := i) hN hv hd hcd).run pinsZ sZ σZ HZ (fun v H1 => v = .ref f ∧ H1 = HZ) IZ ⟨.ref f, hs, rfl, rfl⟩) fun u s1 ⟨v, H1, I1, r1, q1⟩ => ?_)
  obtain ⟨ev, eH⟩ := q1
  subst ev
  rw [eH] at I1
  obtain rfl : u = Value.ref f := r1
  have of1 : s1.heap.get? f = some (lmObj (X.env.qual ++ "<lambda>") B.params B.body B.scope (cloFrom X.env.cells B.scope.names []) dV pm c' ctv) := (I1.hok f _ hf).1
  refine PySem.W.callWith_F0 ⟨_, _, _, _, of1⟩ ?_
  have un : Un (frs stk) [] H HZ s.heap s1.heap := I1.base
  obtain ⟨⟨oc, vs, t, hoc, hdc, hvc⟩, _, _⟩ := I1.hok c' _ hc
  have rc : codeAny (model X.prog X.w) (A0.deeper (envOfC qg sg s.heap.objs.size g cdg)) (.call (.ref f) ⟨[], []⟩) (CR (L2.CX X.prog X.w) (envOfC qg sg s.heap.objs.size g cdg :: stk) X.prog X.w HZ s1 Q E) s1 := by
    refine PySem.W.kla_callFunE hr.depth of1 rfl L.co L.gen rfl ⟨c', oc, vs, t, rfl, hoc, hdc, hvc⟩ ?_
    refine lbd_run hb I1.hok hdv fun bs hbs => ?_
    refine wpAny_newFunctionEnv (fun y hy => (L.own y hy).1) (fun y hy => L.par _ (hbs y hy)) (fun h₁ hns hsb => ⟨I1.nolimit.fresh _ hsb, ?_⟩) L.kind
    show codeAny _ _ (.expr B.body (lamEnv X B.scope s1.heap.objs.size f c')) _ _
    have kp : ∀ b o, s1.heap.get? b = some o → h₁.get? b = some o := fun b o e => hsb.extBut b o (Nat.ne_of_lt (Heap.lt_size e)) (Heap.get?_push_of_some _ e)
    have J : Inv (lamCx X (A0.deeper (envOfC qg sg s.heap.objs.size g cdg)) (envOfC qg sg s.heap.objs.size g cdg :: stk) s1 HZ E B.scope f c') [] σ HZ { s1 with heap := h₁, toks := s1.toks + bs.length } := lm_start L (m.un un fun _ _ _ z => nomatch z) I1.env0 hr.hd hns kp
    refine PySem.W.kla_codeExpr (wpAny_mono ((hbody _ _ s1 HZ c' (hr.deeper _)).run [] _ _ HZ Q J ht) (fun v s' hq => ?_) fun e s' hq => hq)
    obtain ⟨w', H', J', rv, q⟩ := hq
    exact ⟨w', H', J'.os, J'.bare, J'.base, J'.hok, rv, q⟩
  have hx : Passes (L2.CX X.prog X.w) ((cxOf CXg X.prog X.w X.K X.mg X.base Ng qg sg g cdg A0 stk s H Eg).tr pn xe) E := passes_call tk hW
  refine wpAny_call (codeAny_mono rc fun r s' hq => ?_)
  cases r with
  | error e => exact hx pinsZ σZ HZ s1 e s' I1 hq
  | ok fl =>
    cases fl with
    | ret u => exact I1.after hq
    | next => exact False.elim hq
    | brk => exact False.elim hq
    | cont => exact False.elim hq
/-- a lambda whose body is read by t -/
structure LamK (X : Cx) (k : Nat) (B : LamI) (t : XK → TE) : Prop where
  L : LmS X.N X.env.scope B
  bd : LBd B
  body : ∀ (A : Around) (outer : List Env) (s : Shared) (H : Hp) (E : XK) (f c' : Addr), Room k (A.deeper (lamEnv X B.scope s.heap.objs.size f c')) → PE (lamCx X A outer s H E B.scope f c') B.body (t E)
def tCallLam (X : Cx) (k : Nat) (σf : L2.St → L2.St) (TT : (XK → Hp → VK → Prop) → Hp → VK → Prop) (te : TE) : TE := fun σ H Q => te σ H fun v H1 => ∃ (B : LamI) (t : XK → TE) (f : Addr), LamK X k B t ∧ v = .ref f ∧ LamAt X B H1 f ∧ TT (fun E H' Q' => LamAt X B H' f ∧ t E (σf σ) H' Q') H1 Q
/-- x(e), e a lambda that was made in X's frame; within Y, which is X or a block of it -/
theorem pe_callLamY {X : Cx} {s0 : Shared} {H0 : Hp} {ev : Env} {ou : List Env} {ex0 : List Addr} {fn0 : Str → Bool} {pn0 : List (Addr × Obj)} {xe0 : Value → Shared → Prop} {TT : (XK → Hp → VK → Prop) → Hp → VK → Prop} {x a : Str} {g : Addr} {k : Nat} {pg : Arguments} {bg : List Stmt} {sg : Scope} {dV kV doc pm cdv ct oc : Value} {an od : Option Addr}
    {osl : Array (Option Value)} {Ng : List Str} {e : Expr} {te : TE} {σf : L2.St → L2.St} {p pos : Pos} (hg : Gl { X with s_0 := s0, H_0 := H0, env := ev, outer := ou, ex := ex0, fn := fn0, pn := pn0, xe := xe0 } x) (hm : X.mg x = some (.ref g)) (hk : PySem.W.keepIn X.K (.ref g) = true)
    (lk : X.K.lookup g = some ⟨oc, od, .func (PySem.W.fnOf x x pg bg sg dV kV doc pm an cdv ct), osl⟩) (hcg : PySem.W.codeIn X.K cdv x = true) (hb : L2.Binds X.K (PySem.W.fnOf x x pg bg sg dV kV doc pm an cdv ct) [a] []) (Sg : FnScope Ng [a] sg) (hNg : Ng[0]? = some a) (hva : Vis sg a)
    (hG : GivesTo X Ng x sg g cdv bg a (X.env.qual ++ "<lambda>") TT) (hr : Room (k + 2) X.A)
    (hH : ∀ (B : LamI) (pins : List (Addr × Obj)) (s : Shared) (σ : L2.St) (H : Hp), LmS X.N X.env.scope B → Inv { X with s_0 := s0, H_0 := H0, env := ev, outer := ou, ex := ex0, fn := fn0, pn := pn0, xe := xe0 } pins σ H s → Home X B (σf σ) H s.heap)
    (he : PE { X with s_0 := s0, H_0 := H0, env := ev, outer := ou, ex := ex0, fn := fn0, pn := pn0, xe := xe0 } e te) (hst : starEach [e] ev = (false, eval e ev) :: starEach [] ev := by rfl)
    (hdb : (x == ("__debug__" : Str)) = false := by decide) (hd : (a == ("__debug__" : Str)) = false := by decide) (hcd : (a == ("__classdict__" : Str)) = false := by decide) :
    PE { X with s_0 := s0, H_0 := H0, env := ev, outer := ou, ex := ex0, fn := fn0, pn := pn0, xe := xe0 } (.Call (.Name x p) [e] [] pos) (tCallLam X k σf TT te) := by
  refine ⟨fun pins s σ H Q I h => ?_⟩
  refine wpAny_Call_Name_kw (ld_glob I hg hm ?_ hdb)
  refine PySem.W.callWith_K (h₀ := X.base) I.ok.mod.kin hk ?_ hst (by rfl)
  show wpAny _ _ (spliced (backTo pos (starEach [e] ev))) _ _ s
  rw [hst]
  show wpAny _ _ (spliced ((false, eval e ev) :: backTo pos (starEach [] ev))) _ _ s
  refine Calls.spliced_cons (thn (he.run pins s σ H _ I h) fun u s' ⟨v, H1, I1, r1, q1⟩ => ?_)
  obtain ⟨B, t, f, hB, rfl, hAt, hq⟩ := q1
  obtain rfl : u = Value.ref f := r1
  refine Calls.spliced_nil ⟨I1.kIn, ?_⟩
  obtain ⟨dV', pm', c', ctv', hf, hco, hdv⟩ := id hAt
  have rc : codeAny (model X.prog X.w) X.A (.call (.ref g) ⟨[.ref f], []⟩) (CR C8.CX0 X.stack X.prog X.w H1 s' Q C8.E0) s' := by
    refine run_ofS (N := Ng) (ps := [a]) (us := [.ref f]) (vs := [.ref f]) lk hcg Sg hr I1.env0 (hb s' [.ref f] I1.kIn rfl) (.cons rfl .nil) rfl fun hr' => ?_
    obtain ⟨t', ht', hq'⟩ := hG f c' s' H1 Q (fun E H' Q' => LamAt X B H' f ∧ t E (σf σ) H' Q') (fun W pn xe E p1 p2 tk hW => ⟨fun pins2 s2 σ2 H2 Q2 I2 h2 => (pe_actD (i := 0) (p1 := p1) (p2 := p2) (hH B pins s' σ H1 hB.L I1) hB.L hB.bd tk hW hr' (fun A outer s H c' hr2 => hB.body A outer s H E f c' hr2) hNg hva hd hcd).run pins2 s2 σ2 H2 Q2 I2 ⟨h2.1, h2.2.2⟩⟩) hco hq
    exact ⟨t', ht'.nox, hq'⟩
  refine wpAny_call (codeAny_mono rc fun r s2 hq => ?_)
  cases r with
  | error e => exact (show False from hq).elim
  | ok fl =>
    cases fl with
    | ret u => exact I1.after hq
    | next => exact False.elim hq
    | brk => exact False.elim hq
    | cont => exact False.elim hq
/-- the same in the maker's own frame -/
theorem pe_callLam {X : Cx} {TT : (XK → Hp → VK → Prop) → Hp → VK → Prop} {x a : Str} {g : Addr} {k : Nat} {pg : Arguments} {bg : List Stmt} {sg : Scope} {dV kV doc pm cdv ct oc : Value} {an od : Option Addr} {osl : Array (Option Value)} {Ng : List Str} {e : Expr} {te : TE} {p pos : Pos} (hg : Gl X x) (hm : X.mg x = some (.ref g)) (hk : PySem.W.keepIn X.K (.ref g) = true)
    (lk : X.K.lookup g = some ⟨oc, od, .func (PySem.W.fnOf x x pg bg sg dV kV doc pm an cdv ct), osl⟩) (hcg : PySem.W.codeIn X.K cdv x = true) (hb : L2.Binds X.K (PySem.W.fnOf x x pg bg sg dV kV doc pm an cdv ct) [a] []) (Sg : FnScope Ng [a] sg) (hNg : Ng[0]? = some a) (hva : Vis sg a)
    (hG : GivesTo X Ng x sg g cdv bg a (X.env.qual ++ "<lambda>") TT) (hr : Room (k + 2) X.A) (he : PE X e te) (hst : starEach [e] X.env = (false, eval e X.env) :: starEach [] X.env := by rfl)
    (hdb : (x == ("__debug__" : Str)) = false := by decide) (hd : (a == ("__debug__" : Str)) = false := by decide) (hcd : (a == ("__classdict__" : Str)) = false := by decide) : PE X (.Call (.Name x p) [e] [] pos) (tCallLam X k id TT te) :=
  pe_callLamY (X := X) (s0 := X.s_0) (H0 := X.H_0) (ev := X.env) (ou := X.outer) (ex0 := X.ex) (fn0 := X.fn) (pn0 := X.pn) (xe0 := X.xe) (σf := id) hg hm hk lk hcg hb Sg hNg hva hG hr (fun B pins s σ H L I => Home.of L I) he hst hdb hd hcd
/-! ### by cells -/
/-- a lambda among the cells -/
def LamC (X : Cx) (B : LamI) (L : List Cell) (f : Addr) : Prop := ∃ (dV pm : Value) (c' : Addr) (ctv : Value), (f, LamO f (lmObj (X.env.qual ++ "<lambda>") B.params B.body B.scope (cloFrom X.env.cells B.scope.names []) dV pm c' ctv)) ∈ L ∧ (c', CodeO c' (X.env.qual ++ "<lambda>")) ∈ L ∧ (match B.ds with | none => dV = .none | some i => ∃ d : Addr, dV = .ref d ∧ (d, HO.tup [.int i]) ∈ L)
theorem LamC.at {X : Cx} {B : LamI} {L : List Cell} {f : Addr} (h : LamC X B L f) {H : Hp} (O : Own H L) : LamAt X B H f := by
  obtain ⟨dV, pm, c', ctv, h1, h2, h3⟩ := h
  refine ⟨dV, pm, c', ctv, O.mem h1, O.mem h2, ?_⟩
  cases hd : B.ds with
  | none =>
    rw [hd] at h3
    exact h3
  | some i =>
    rw [hd] at h3
    obtain ⟨d, e, h4⟩ := h3
    exact ⟨d, e, O.mem h4⟩
theorem lbd0 {p : Arguments} {b : Expr} {s : Scope} (h : ∀ (q : Str) (cl : List (Str × Addr)) (pm cv ctv : Value), bindArgs (lmFn q p b s cl .none pm cv ctv) ⟨[], []⟩ = pure []) : LBd ⟨p, b, s, none, []⟩ := ⟨rfl, h⟩
theorem lbd1 {p : Arguments} {b : Expr} {s : Scope} {i : Int} {x0 : Str} (h : ∀ (T : Addr) (q : Str) (cl : List (Str × Addr)) (pm cv ctv u : Value), ∃ k, bindArgs (lmFn q p b s cl (.ref T) pm cv ctv) ⟨[], []⟩ = seqItems? (.ref T) >>= k ∧ k (some #[u]) = pure [(x0, u)]) : LBd ⟨p, b, s, some i, [x0]⟩ := ⟨x0, rfl, h⟩
theorem dfl0 {X : Cx} {p : Arguments} (h : defaultsOf p X.env = ([], [])) : Dfl X p none := h
theorem dfl1 {X : Cx} {p : Arguments} {i : Int} {e : Expr} (h : defaultsOf p X.env = ([eval e X.env], [])) (pe : PE X e (tC (.int i))) : Dfl X p (some i) := ⟨e, h, pe⟩
theorem TabC.mono {TL TL' : List Cell} {P : Addr} {q : Str} (t : TabC TL P q) (h : ∀ c ∈ TL, c ∈ TL') : TabC TL' P q := by
  obtain ⟨ps, h1, h2, h3⟩ := t
  refine ⟨ps, h _ h1, h2, fun pos cv hc => ?_⟩
  obtain ⟨c, e, hm⟩ := h3 pos cv hc
  exact ⟨c, e, h _ hm⟩
theorem Own.meetX {H : Hp} {L : List Cell} {q : Addr} {o : HO} (O : Own H L) (h : H q = some o) : ∃ N : List Cell, Own H (N ++ L) ∧ (q, o) ∈ N ++ L ∧ ∀ c ∈ N, c = (q, o) := by
  by_cases m : q ∈ L.map (·.1)
  · obtain ⟨c, hc, e⟩ := List.mem_map.mp m
    have := O.2 c hc
    rw [e, h] at this
    have e2 : c = (q, o) := Prod.ext e (Option.some.inj this).symm
    exact ⟨[], O, by rw [← e2]; exact hc, fun c hc => nomatch hc⟩
  · exact ⟨[(q, o)], ⟨List.nodup_cons.mpr ⟨m, O.1⟩, fun c hc => (List.mem_cons.mp hc).elim (fun e => by rw [e]; exact h) (O.2 c)⟩, List.mem_cons_self, fun c hc => List.mem_singleton.mp hc⟩
theorem lamV_goE {X : Cx} {B : LamI} {P : Addr} {q : Str} {σ : L2.St} {H : Hp} {Q : VK} {L TL : List Cell} (O : Own H (L ++ TL)) (n : NT L) (ht : TabC TL P q) (hq : X.env.qual ++ "<lambda>" = q)
    (k : ∀ (f : Addr) (H1 : Hp) (F TL' : List Cell), ExtN H H1 → TabC TL' P q → NT F → LamC X B (F ++ (L ++ TL')) f → Own H1 (F ++ (L ++ TL')) → Q (.ref f) H1) : tLamV X [(P, q)] B σ H Q := by
  refine ⟨fun p hp => ?_, fun f H1 e T1 hf hat => ?_⟩
  · rw [List.mem_singleton.mp hp]
    exact ht.tab fun c hc => O.2 c (List.mem_append_right _ hc)
  · obtain ⟨TL', h1, O1⟩ := tab_cells (T1 (P, q) List.mem_cons_self) ((O.left).extN n e) n
    obtain ⟨dV, pm, c', ctv, a1, a2, a3⟩ := hat
    obtain ⟨N1, O2, m2, _⟩ := O1.meetX a2
    obtain ⟨N3, O3, m3, hN3⟩ := O2.meetX a1
    have ntF : NT N3 := fun c hc => by
      rw [hN3 c hc]
      rfl
    have pm3 : ∀ {M : List Cell}, (M ++ (N3 ++ (N1 ++ (L ++ TL')))).Perm ((M ++ N3) ++ (L ++ (N1 ++ TL'))) := fun {M} => by
      refine cnt_perm fun c => ?_
      simp only [cnt_app]
      omega
    have tb : TabC (N1 ++ TL') P q := h1.mono fun c hc => List.mem_append_right _ hc
    cases hds : B.ds with
    | none =>
      rw [hds] at a3
      have O4 := O3.perm (pm3 (M := []))
      refine k f H1 N3 (N1 ++ TL') e tb ntF ⟨dV, pm, c', ctv, (pm3 (M := [])).mem_iff.mp m3, (pm3 (M := [])).mem_iff.mp (List.mem_append_right N3 m2), by rw [hds]; exact a3⟩ O4
    | some i =>
      rw [hds] at a3
      obtain ⟨d, e1, e2⟩ := a3
      obtain ⟨N4, O4, m4, hN4⟩ := O3.meetX e2
      have ntG : NT (N4 ++ N3) := NT.app (fun c hc => by rw [hN4 c hc]; rfl) ntF
      have O5 := O4.perm (pm3 (M := N4))
      refine k f H1 (N4 ++ N3) (N1 ++ TL') e tb ntG ⟨dV, pm, c', ctv, (pm3 (M := N4)).mem_iff.mp (List.mem_append_right _ m3), (pm3 (M := N4)).mem_iff.mp (List.mem_append_right _ (List.mem_append_right _ m2)), by rw [hds]; exact ⟨d, e1, (pm3 (M := N4)).mem_iff.mp m4⟩⟩ O5
theorem lamV_go {X : Cx} {B : LamI} {P : Addr} {q : Str} {σ : L2.St} {H : Hp} {Q : VK} {L TL : List Cell} (O : Own H (L ++ TL)) (n : NT L) (ht : TabC TL P q) (hq : X.env.qual ++ "<lambda>" = q)
    (k : ∀ (f : Addr) (H1 : Hp) (F TL' : List Cell), TabC TL' P q → NT F → LamC X B (F ++ (L ++ TL')) f → Own H1 (F ++ (L ++ TL')) → Q (.ref f) H1) : tLamV X [(P, q)] B σ H Q :=
  lamV_goE O n ht hq fun f H1 F TL' _ => k f H1 F TL'
theorem LamAt.ext {X : Cx} {B : LamI} {H H' : Hp} {f : Addr} (h : LamAt X B H f) (e : ExtN H H') : LamAt X B H' f := by
  obtain ⟨dV, pm, c', ctv, a1, a2, a3⟩ := h
  refine ⟨dV, pm, c', ctv, e _ _ a1 (fun ps z => by cases z), e _ _ a2 (fun ps z => by cases z), ?_⟩
  cases hds : B.ds with
  | none =>
    rw [hds] at a3
    exact a3
  | some i =>
    rw [hds] at a3
    obtain ⟨d, e1, e2⟩ := a3
    exact ⟨d, e1, e _ _ e2 (fun ps z => by cases z)⟩
theorem lam_cells {X : Cx} {B : LamI} {H : Hp} {L : List Cell} {f : Addr} (O : Own H L) (h : LamAt X B H f) : ∃ N : List Cell, Own H (N ++ L) ∧ LamC X B (N ++ L) f := by
  obtain ⟨dV, pm, c', ctv, a1, a2, a3⟩ := h
  obtain ⟨N1, O1, m1, h1⟩ := O.meetX a1
  obtain ⟨N2, O2, m2, h2⟩ := O1.meetX a2
  cases hds : B.ds with
  | none =>
    rw [hds] at a3
    refine ⟨N2 ++ N1, by rw [List.append_assoc]; exact O2, dV, pm, c', ctv, ?_, ?_, by rw [hds]; exact a3⟩
    · rw [List.append_assoc]
      exact List.mem_append_right _ m1
    · rw [List.append_assoc]
      exact m2
  | some i =>
    rw [hds] at a3
    obtain ⟨d, e1, e2⟩ := a3
    obtain ⟨N3, O3, m3, h3⟩ := O2.meetX e2
    refine ⟨N3 ++ (N2 ++ N1), ?_, dV, pm, c', ctv, ?_, ?_, ?_⟩
    · rw [List.append_assoc, List.append_assoc]
      exact O3
    · rw [List.append_assoc, List.append_assoc]
      exact List.mem_append_right _ (List.mem_append_right _ m1)
    · rw [List.append_assoc, List.append_assoc]
      exact List.mem_append_right _ m2
    · rw [hds]
      refine ⟨d, e1, ?_⟩
      rw [List.append_assoc, List.append_assoc]
      exact m3
theorem callLam_go {X : Cx} {B : LamI} {P : Addr} {q : Str} {σ : L2.St} {H : Hp} {Q : VK} {kk : Nat} {TT : (XK → Hp → VK → Prop) → Hp → VK → Prop} {L TL : List Cell} (O : Own H (L ++ TL)) (n : NT L) (ht : TabC TL P q) (hq : X.env.qual ++ "<lambda>" = q)
    (k : ∀ (f : Addr) (H1 : Hp) (F TL' : List Cell), TabC TL' P q → NT F → LamC X B (F ++ (L ++ TL')) f → Own H1 (F ++ (L ++ TL')) → ∃ t : XK → TE, LamK X kk B t ∧ TT (fun E H' Q' => LamAt X B H' f ∧ t E σ H' Q') H1 Q) : tCallLam X kk id TT (tLamV X [(P, q)] B) σ H Q :=
  lamV_go O n ht hq fun f H1 F TL' h1 h2 h3 O1 => by
    obtain ⟨t, hk, h⟩ := k f H1 F TL' h1 h2 h3 O1
    exact ⟨B, t, f, hk, rfl, h3.at O1, h⟩
theorem seqLst_go {i : Nat} {v : V} {a : TE} {r : L2.TA} {g : TG} {u : TS} {D : Ends} {rt : VK} {bk ct : L2.St → Hp → Prop} {σ : L2.St} {H : Hp} (h : a (σ.set i (some v)) H fun x H1 => r (σ.set i (some v)) H1 fun xs H2 => (x :: xs).length ≤ sizeLine ∧ ∀ p, H2 p = none → g (.ref p) (σ.set i (some v)) (upd H2 p (.lst (x :: xs))) (u D)) : gName i v σ H (Ends.mk (tSeq (tAsg (tLst (tCons a r)) g) u D) rt bk ct).nx := h
theorem tCons_go {a : TE} {r : L2.TA} {σ : L2.St} {H : Hp} {Q : List V → Hp → Prop} (h : a σ H fun x H1 => r σ H1 fun xs H2 => Q (x :: xs) H2) : tCons a r σ H Q := h
end lamLayer
-- WwLc
/-! ### a comprehension whose test is never so, the test told of the outer frame -/
section
variable {X : Cx}
def tLcF (wi : TI) (g : TG) (tt : L2.St → TT) (vs : List Nat) : TE := fun σ H Q => wi σ H fun J H1 => ∀ D, H1 D = none → ∃ W : Nat → Nat → Hp → Prop, (∃ m, W 0 m (upd H1 D (.lst []))) ∧
  ∀ i m H2, W i m H2 → (J.stop i H2 ∧ Q (.ref D) H2) ∨ (J.go i H2 ∧ ∃ N : Hp → Prop, (∀ H5, N H5 → ∃ m', m' < m ∧ W (i + 1) m' H5) ∧ ∀ x H3, J.yld i H2 x H3 → g x (wipe σ vs) H3 fun σ4 H4 => wipe σ4 vs = wipe σ vs ∧ tt σ σ4 H4 fun b H5 => b = false ∧ N H5)
/-- what the block's iterator has is let alone by what is asked of the block -/
theorem fpIn {s0 : Shared} {H0 : Hp} {scope : Scope} {ce : Env} {fp : List Addr} {σ' : L2.St} {H' : Hp} {s' : Shared} (J : Inv (X.blk s0 H0 scope ce fp) [] σ' H' s') (z : ∀ b ∈ fp, H' b = none) : ∀ b ∈ fp, FpOk (X.blk s0 H0 scope ce fp) [] H' b := by
  intro b hb
  have q := J.ok.exf b hb
  refine ⟨z b hb, q.1, J.ok.exfs b hb, Or.inl hb, q.2, ?_⟩
  intro p hp
  have hp : p ∈ ([] : List (Addr × Obj)) ++ [] := hp
  simp at hp
theorem lcF_loop {s0 s4 : Shared} {H0 : Hp} {σ : L2.St} {elt tg iter : Expr} {ifs : List Expr} {scope : Scope} {pos : Pos} {ce : Env} {fp : List Addr} {it D : Addr} {tn : Nat → Heap → Prop} {J : It} {g : TG} {tt : TT} {vs : List Nat} {Q : VK} {R : Result → Shared → Prop} {W : Nat → Nat → Hp → Prop} {m0 : Nat}
    (hc : X.calm = true) (T : Turn X.prog X.w X.K tg J fp it tn) (I4 : Inv (X.blk s0 H0 scope ce fp) [] (wipe σ vs) H0 s4) (st : tn 0 s4.heap) (nf : ∀ b ∈ fp, H0 b = none) (pg : PG (X.blk s0 H0 scope ce fp) tg g) (pt : PTs (X.blk s0 H0 scope ce fp) ifs tt) (w0 : W 0 m0 H0)
    (turn : ∀ i m H2, W i m H2 → (J.stop i H2 ∧ Q (.ref D) H2) ∨ (J.go i H2 ∧ ∃ N : Hp → Prop, (∀ H5, N H5 → ∃ m', m' < m ∧ W (i + 1) m' H5) ∧ ∀ x H3, J.yld i H2 x H3 → g x (wipe σ vs) H3 fun σ4 H4 => wipe σ4 vs = wipe σ vs ∧ tt σ4 H4 fun b H5 => b = false ∧ N H5))
    (hR : ∀ s' H', Inv (X.blk s0 H0 scope ce fp) [] (wipe σ vs) H' s' → Q (.ref D) H' → R (.ok .next) s') :
    codeAny (model X.prog X.w) X.A (.compLoop (.ListComp elt [⟨tg, iter, ifs, 0⟩] scope pos) 0 (.ref it) (.ref D) ce) R s4 := by
  refine compLoop_any (fun m s' => ∃ (i : Nat) (H' : Hp), W i m H' ∧ tn i s'.heap ∧ (∀ b ∈ fp, H' b = none) ∧ Inv (X.blk s0 H0 scope ce fp) [] (wipe σ vs) H' s') (fun m s5 hyp => ?_) m0 ⟨0, H0, w0, st, nf, I4⟩
  obtain ⟨i, H5, w5, t5, n5, I5⟩ := hyp
  have F5 := fpIn I5 n5
  cases turn i m H5 w5 with
  | inl z =>
    refine thnF (T.done (X.blk s0 H0 scope ce fp) rfl rfl rfl hc i [] s5 (wipe σ vs) H5 (fun _ _ => False) I5 F5 t5 z.1) (fun r s6 hr => ?_)
    rw [hr.1]
    exact hR s6 H5 hr.2 z.2
  | inr z =>
    obtain ⟨zg, N, hN, zs⟩ := z
    refine thnF (T.item (X.blk s0 H0 scope ce fp) rfl rfl rfl hc i [] s5 (wipe σ vs) H5 (fun _ _ => False) I5 F5 t5 zg) (fun r s6 hr => ?_)
    obtain ⟨u, e, hn⟩ := hr
    rw [e]
    refine thnF hn (fun _ s7 hy => ?_)
    obtain ⟨x, H7, I7, rx, y7, t7, n7⟩ := hy
    have P7 := I7.pinned (fpIn I7 n7) (T.obj _ _ t7)
    refine thnF (pg.run _ s7 _ H7 x u _ P7 rx (zs x H7 y7)) (fun _ s8 hs => ?_)
    obtain ⟨σ8, H8, I8, e8, q8⟩ := hs
    refine thnF (pt.run _ s8 σ8 H8 _ I8 q8) (fun b s9 hb => ?_)
    obtain ⟨H9, I9, rfl, hn9⟩ := hb
    obtain ⟨m', lt, w9⟩ := hN H9 hn9
    have pn : ∀ b ∈ fp, ∀ o, s7.heap.get? b = some o → s9.heap.get? b = some o ∧ H9 b = none := fun b hb o eo => by
      have := I9.pin (b, o) (List.mem_append_right _ (List.mem_append_right _ (mem_pinsAt hb eo)))
      exact ⟨this.1, this.2.1⟩
    refine ⟨m', lt, i + 1, H9, w9, T.keep _ _ _ t7 fun b hb o eo => (pn b hb o eo).1, fun b hb => ?_, (I9.unpinned (pins := [])).weak ?_ fun j v ev => ?_⟩
    · obtain ⟨o, eo, _⟩ := T.obj _ _ t7 b hb
      exact (pn b hb o eo).2
    · rw [← e8, wipe_length]
    · rw [← e8] at ev
      exact (wipe_some ev).1
theorem pe_lcF {elt tg iter : Expr} {ifs : List Expr} {scope : Scope} {own : List (Str × Nat)} {pos : Pos} {wi : TI} {g : TG} {tt : L2.St → TT} (hc : X.calm = true) (hN : X.N.Nodup) (hi : PI X tg iter wi) (ok : BlkOk X.N X.env.scope scope own)
    (hg : ∀ (s : Shared) (H : Hp) (C : Addr) (cl : List (Str × Addr)) (fp : List Addr), PG (X.blk s H scope (compEnvC scope cl C X.env) fp) tg g)
    (ht : ∀ (pins : List (Addr × Obj)) (σ : L2.St) (s : Shared) (H : Hp) (C : Addr) (cl : List (Str × Addr)) (fp : List Addr), Inv X pins σ H s → (∀ b ∈ fp, FpOk X pins H b) → PTs (X.blk s H scope (compEnvC scope cl C X.env) fp) ifs (tt σ))
    (hs : ∀ x, foldedSetIterable iter X.env x = pure x := by intro _; rfl) : PE X (.ListComp elt [⟨tg, iter, ifs, 0⟩] scope pos) (tLcF wi g tt (own.map (·.2))) := by
  refine ⟨fun pins s σ H Q I h => ?_⟩
  rw [eval_ListComp]
  have cells : ∀ y ∈ scope.names, y.2 = .free → ∃ c, X.env.cells.lookup y.1 = some c := fun y hy e => I.ok.has _ (ok.free y hy e)
  refine wpAny_comprehension_free rfl hs (closure_ok cells) ok.kind (fun y hy e => (ok.uniq y hy).trans (congrArg some e)) ?_
  refine thn (hi.run pins s σ H _ I h) (fun xv s1 hx => thn hx fun itv s2 h2 => ?_)
  obtain ⟨it, fp, tn, J, H2, rfl, I2, T, st2, f2, q⟩ := h2
  refine wpAny_newObj_type (newEnv_comp ?_) (by show 0 ≤ sizeLine; decide)
  obtain ⟨W, ⟨m0, w0⟩, turn⟩ := q s2.heap.objs.size (I2.hok.fresh (Nat.le_refl _))
  obtain ⟨D, eD⟩ : ∃ D, D = s2.heap.objs.size := ⟨_, rfl⟩
  obtain ⟨s3, e3⟩ : ∃ s3 : Shared, s3 = { s2 with heap := s2.heap.push { cls := .type "list", data := .seq ([] : List Value).toArray } } := ⟨_, rfl⟩
  have kp3 : ∀ b o, s2.heap.get? b = some o → s3.heap.get? b = some o := fun b o e => by
    rw [e3]
    exact Heap.get?_push_of_some _ e
  have I3 : Inv X pins σ (upd H2 D (.lst [])) s3 := by
    rw [e3, eD]
    exact I2.laid (t' := s2.toks) (fun b o e => Heap.get?_push_of_some _ e) (Nat.le_refl _) ⟨Nat.zero_le _, [], 0, .nil, Heap.get?_push_size _ rfl⟩
  have f3 : ∀ b ∈ fp, FpOk X pins (upd H2 D (.lst [])) b ∧ b < s3.heap.objs.size := fun b hb => by
    obtain ⟨o, eo, _⟩ := T.obj _ _ st2 b hb
    refine ⟨⟨?_, (f2 b hb).2⟩, Heap.lt_size (kp3 b o eo)⟩
    rw [upd_ne (by rw [eD]; exact Nat.ne_of_lt (Heap.lt_size eo))]
    exact (f2 b hb).1
  have st3 : tn 0 s3.heap := T.keep _ _ _ st2 fun b _ o e => kp3 b o e
  rw [← eD] at w0 turn
  rw [← e3, ← eD]
  have I4 := block_start I3 ok hN f3
  have pg := hg s3 (upd H2 D (.lst [])) s3.heap.objs.size (cellsFrom (s3.heap.objs.size + 1) scope.names (cloFrom X.env.cells scope.names [])) fp
  have pt := ht pins σ s3 (upd H2 D (.lst [])) s3.heap.objs.size (cellsFrom (s3.heap.objs.size + 1) scope.names (cloFrom X.env.cells scope.names [])) fp I3 fun b hb => (f3 b hb).1
  have st4 : tn 0 (pushCells (s3.heap.push { cls := .type "dict", data := .dict #[] }) scope.names) := T.keep _ _ _ st3 fun b _ o e => pushCells_keeps _ _ _ _ (Heap.get?_push_of_some _ e)
  have loop := lcF_loop (elt := elt) (iter := iter) (pos := pos) (D := D) (Q := Q) (R := compPost (model X.prog X.w) X.A X.xe none (EP X pins σ Q) (.ref D) s3.heap.objs.size) hc T I4 st4 (fun b hb => (f3 b hb).1.1) pg pt w0 turn (fun s6 H6 I6 qq => ?_)
  · exact codeAny_compStart_list loop (T.self X.A 0 _ _ _ st4 loop)
  · have I7 : Inv X pins σ H6 s6 := I3.call' (ch := fp) I6.os I6.base I6.hok I6.bare fun b hb => by
      obtain ⟨_, a1, _, a3, a4, a5⟩ := (f3 b hb).1
      exact ⟨a3, a1, a4, a5⟩
    obtain ⟨m, hn, _⟩ := I6.loc
    obtain ⟨_, g1, g2, g3, g4, g5⟩ := I3.fpOk (H' := H6) (Nat.le_refl _) I6.free
    exact ⟨m, hn, fun h'' sb => ⟨.ref D, H6, I7.turned (t' := s6.toks) (fun b o hb e => (sb.2 b hb).trans e) I6.free g1 g3 g4 g5, rfl, qq⟩⟩
/-- x(e) within a block, e a lambda that the block's maker has made -/
theorem pe_callLamB {s0 : Shared} {H0 : Hp} {scope : Scope} {ce : Env} {fp : List Addr} {pins : List (Addr × Obj)} {σ : L2.St} (I : Inv X pins σ H0 s0) (hf : ∀ b ∈ fp, FpOk X pins H0 b) {TT : (XK → Hp → VK → Prop) → Hp → VK → Prop} {x a : Str} {g : Addr} {k : Nat} {pg : Arguments} {bg : List Stmt} {sg : Scope} {dV kV doc pm cdv ct oc : Value} {an od : Option Addr}
    {osl : Array (Option Value)} {Ng : List Str} {e : Expr} {te : TE} {p pos : Pos} (hg : Gl (X.blk s0 H0 scope ce fp) x) (hm : X.mg x = some (.ref g)) (hk : PySem.W.keepIn X.K (.ref g) = true)
    (lk : X.K.lookup g = some ⟨oc, od, .func (PySem.W.fnOf x x pg bg sg dV kV doc pm an cdv ct), osl⟩) (hcg : PySem.W.codeIn X.K cdv x = true) (hb : L2.Binds X.K (PySem.W.fnOf x x pg bg sg dV kV doc pm an cdv ct) [a] []) (Sg : FnScope Ng [a] sg) (hNg : Ng[0]? = some a) (hva : Vis sg a)
    (hG : LamX.GivesTo X Ng x sg g cdv bg a (X.env.qual ++ "<lambda>") TT) (hr : Room (k + 2) X.A) (he : PE (X.blk s0 H0 scope ce fp) e te) (hst : starEach [e] ce = (false, eval e ce) :: starEach [] ce := by rfl)
    (hdb : (x == ("__debug__" : Str)) = false := by decide) (hd : (a == ("__debug__" : Str)) = false := by decide) (hcd : (a == ("__classdict__" : Str)) = false := by decide) :
    PE (X.blk s0 H0 scope ce fp) (.Call (.Name x p) [e] [] pos) (tCallLam X k (fun _ => σ) TT te) :=
  pe_callLamY (X := X) (σf := fun _ => σ) hg hm hk lk hcg hb Sg hNg hva hG hr (fun B pins' s' σ' H' L I' => (Home.of L I).un I'.base fun y c e hc => (hf c hc).2.2.2.2.1 y c e rfl) he hst hdb hd hcd
theorem lcF_list {K : PySem.W.Frag} {a : Addr} {xs : List V} {g : TG} {tt : L2.St → TT} {vs : List Nat} {σ : L2.St} {H1 : Hp} {D : Addr} {Qd : Hp → Prop} (Pv : Nat → Hp → Prop) (h0 : Pv 0 (upd H1 D (.lst []))) (hq : ∀ i H, i ≤ xs.length → Pv i H → SqL K H a xs)
    (step : ∀ i x H, xs[i]? = some x → Pv i H → g x (wipe σ vs) H fun σ4 H4 => wipe σ4 vs = wipe σ vs ∧ tt σ σ4 H4 fun b H5 => b = false ∧ Pv (i + 1) H5) (fin : ∀ H, Pv xs.length H → Qd H) :
    ∃ W : Nat → Nat → Hp → Prop, (∃ m, W 0 m (upd H1 D (.lst []))) ∧
      ∀ i m H2, W i m H2 → ((Itl K a).stop i H2 ∧ Qd H2) ∨ ((Itl K a).go i H2 ∧ ∃ N : Hp → Prop, (∀ H5, N H5 → ∃ m', m' < m ∧ W (i + 1) m' H5) ∧ ∀ x H3, (Itl K a).yld i H2 x H3 → g x (wipe σ vs) H3 fun σ4 H4 => wipe σ4 vs = wipe σ vs ∧ tt σ σ4 H4 fun b H5 => b = false ∧ N H5) := by
  refine ⟨fun i m H => i + m = xs.length ∧ Pv i H, ⟨xs.length, Nat.zero_add _, h0⟩, fun i m H2 hw => ?_⟩
  obtain ⟨him, hp⟩ := hw
  have sq := hq i H2 (by omega) hp
  cases m with
  | zero =>
    obtain rfl : i = xs.length := him
    exact .inl ⟨⟨xs, sq, Nat.le_refl _⟩, fin H2 hp⟩
  | succ m =>
    have hi : i < xs.length := by omega
    refine .inr ⟨⟨xs, xs[i], sq, List.getElem?_eq_getElem hi⟩, Pv (i + 1), fun H5 h5 => ⟨m, Nat.lt_succ_self m, by omega, h5⟩, fun x H3 hy => ?_⟩
    obtain ⟨rfl, hx⟩ := hy
    exact step i x _ (hx xs sq) hp
end
theorem gRet_go {i : Nat} {v : V} {rr : R2} {a b : TE} {r : L2.TA} {D : Ends} {rt : VK} {bk ct : L2.St → Hp → Prop} {σ : L2.St} {H : Hp} (h : a (σ.set i (some v)) H fun x H1 => r (σ.set i (some v)) H1 fun xs H2 => (x :: xs).length ≤ sizeLine ∧ ∀ p, H2 p = none → b (σ.set i (some v)) (upd H2 p (.lst (x :: xs))) fun y H3 => rr (.ref p) y H3 D.rt) :
    gName i v σ H (Ends.mk (tRet (tOp rr (tLst (tCons a r)) b) D) rt bk ct).nx := h
theorem lam_here {X : Cx} {B : LamI} {L : List Cell} {f : Addr} {kk : Nat} {t : XK → TE} {H : Hp} {σ : L2.St} {Q : VK} {TT : (XK → Hp → VK → Prop) → Hp → VK → Prop} (C : LamC X B L f) (O : Own H L) (k : LamK X kk B t) (h : TT (fun E H' Q' => LamAt X B H' f ∧ t E σ H' Q') H Q) :
    ∃ (B : LamI) (t : XK → TE) (f' : Addr), LamK X kk B t ∧ V.ref f = .ref f' ∧ LamAt X B H f' ∧ TT (fun E H' Q' => LamAt X B H' f' ∧ t E σ H' Q') H Q := ⟨B, t, f, k, rfl, C.at O, h⟩
theorem LamC.mono {X : Cx} {B : LamI} {L L' : List Cell} {f : Addr} (h : LamC X B L f) (s : ∀ c ∈ L, c ∈ L') : LamC X B L' f := by
  obtain ⟨dV, pm, c', ctv, a1, a2, a3⟩ := h
  refine ⟨dV, pm, c', ctv, s _ a1, s _ a2, ?_⟩
  cases hds : B.ds with
  | none =>
    rw [hds] at a3
    exact a3
  | some i =>
    rw [hds] at a3
    obtain ⟨d, e1, e2⟩ := a3
    exact ⟨d, e1, s _ e2⟩
theorem LamC.drop {X : Cx} {B : LamI} {R : List Cell} {f a : Addr} {xs : List V} (h : LamC X B ((a, .lst xs) :: R) f) : LamC X B R f := by
  have q : ∀ (c : Addr) (o : HO), (∀ ys, o ≠ .lst ys) → (c, o) ∈ ((a, HO.lst xs) :: R) → (c, o) ∈ R := fun c o n m => by
    rcases List.mem_cons.mp m with z | z
    · exact absurd (congrArg Prod.snd z) (n xs)
    · exact z
  obtain ⟨dV, pm, c', ctv, a1, a2, a3⟩ := h
  refine ⟨dV, pm, c', ctv, q _ _ (fun ys z => by cases z) a1, q _ _ (fun ys z => by cases z) a2, ?_⟩
  cases hds : B.ds with
  | none =>
    rw [hds] at a3
    exact a3
  | some i =>
    rw [hds] at a3
    obtain ⟨d, e1, e2⟩ := a3
    exact ⟨d, e1, q _ _ (fun ys z => by cases z) e2⟩
-- WwLt
section
 open LamX
/-! ### lambdas of two defs: two tables of code objects -/
theorem Own.meets {H : Hp} : ∀ (fs : List Cell) {L : List Cell}, Own H L → (∀ c ∈ fs, H c.1 = some c.2) → ∃ N : List Cell, Own H (N ++ L) ∧ ∀ c ∈ fs, c ∈ N ++ L
  | [], L, O, _ => ⟨[], O, fun c hc => nomatch hc⟩
  | c :: fs, L, O, h => by
    obtain ⟨N1, O1, h1⟩ := Own.meets fs O fun d hd => h d (List.mem_cons_of_mem _ hd)
    obtain ⟨N2, O2, m2, _⟩ := O1.meetX (q := c.1) (o := c.2) (h c List.mem_cons_self)
    refine ⟨N2 ++ N1, by rw [List.append_assoc]; exact O2, fun d hd => ?_⟩
    rw [List.append_assoc]
    rcases List.mem_cons.mp hd with e | e
    · rw [e]
      exact m2
    · exact List.mem_append_right _ (h1 d e)
/-- both tables -/
structure Tb2 (TL : List Cell) (P : Addr) (q : Str) (P' : Addr) (q' : Str) : Prop where
  a : TabC TL P q
  b : TabC TL P' q'
theorem Tb2.mono {TL TL' : List Cell} {P P' : Addr} {q q' : Str} (t : Tb2 TL P q P' q') (h : ∀ c ∈ TL, c ∈ TL') : Tb2 TL' P q P' q' := ⟨t.a.mono h, t.b.mono h⟩
theorem Tb2.tabs {TL : List Cell} {P P' : Addr} {q q' : Str} (t : Tb2 TL P q P' q') {H : Hp} (O : ∀ c ∈ TL, H c.1 = some c.2) : Tabs [(P, q), (P', q')] H := fun p hp => by
  rcases List.mem_cons.mp hp with e | e
  · rw [e]
    exact t.a.tab O
  · rw [List.mem_singleton.mp e]
    exact t.b.tab O
theorem tab_cells2 {H : Hp} {L : List Cell} {P P' : Addr} {q q' : Str} (t : Tabs [(P, q), (P', q')] H) (O : Own H L) (n : NT L) : ∃ TL, Tb2 TL P q P' q' ∧ Own H (L ++ TL) := by
  obtain ⟨TL1, h1, O1⟩ := tab_cells (t (P, q) List.mem_cons_self) O n
  obtain ⟨TL2, h2, O2⟩ := tab_cells (t (P', q') (List.mem_cons_of_mem _ List.mem_cons_self)) O n
  obtain ⟨N, O3, hm⟩ := O1.meets TL2 fun c hc => O2.2 c (List.mem_append_right _ hc)
  have pm : (N ++ (L ++ TL1)).Perm (L ++ (N ++ TL1)) := by
    refine cnt_perm fun c => ?_
    simp only [cnt_app]
    omega
  refine ⟨N ++ TL1, ⟨h1.mono fun c hc => List.mem_append_right _ hc, h2.mono fun c hc => ?_⟩, O3.perm pm⟩
  rcases List.mem_append.mp (hm c hc) with g | g
  · exact List.mem_append_left _ g
  · rcases List.mem_append.mp g with g | g
    · exfalso
      have nd := O2.1
      rw [List.map_append] at nd
      exact (List.nodup_append.mp nd).2.2 c.1 (List.mem_map_of_mem g) c.1 (List.mem_map_of_mem hc) rfl
    · exact List.mem_append_right _ g
theorem lamV_go2 {X : Cx} {B : LamI} {P P' : Addr} {q q' : Str} {σ : L2.St} {H : Hp} {Q : VK} {L TL : List Cell} (O : Own H (L ++ TL)) (n : NT L) (ht : Tb2 TL P q P' q')
    (k : ∀ (f : Addr) (H1 : Hp) (F TL' : List Cell), ExtN H H1 → Tb2 TL' P q P' q' → NT F → LamC X B (F ++ (L ++ TL')) f → Own H1 (F ++ (L ++ TL')) → Q (.ref f) H1) : tLamV X [(P, q), (P', q')] B σ H Q := by
  refine ⟨ht.tabs fun c hc => O.2 c (List.mem_append_right _ hc), fun f H1 e T1 hf hat => ?_⟩
  obtain ⟨TL', h1, O1⟩ := tab_cells2 T1 ((O.left).extN n e) n
  obtain ⟨dV, pm, c', ctv, a1, a2, a3⟩ := hat
  obtain ⟨N1, O2, m2, _⟩ := O1.meetX a2
  obtain ⟨N3, O3, m3, hN3⟩ := O2.meetX a1
  have ntF : NT N3 := fun c hc => by
    rw [hN3 c hc]
    rfl
  have pm3 : ∀ {M : List Cell}, (M ++ (N3 ++ (N1 ++ (L ++ TL')))).Perm ((M ++ N3) ++ (L ++ (N1 ++ TL'))) := fun {M} => by
    refine cnt_perm fun c => ?_
    simp only [cnt_app]
    omega
  have tb : Tb2 (N1 ++ TL') P q P' q' := h1.mono fun c hc => List.mem_append_right _ hc
  cases hds : B.ds with
  | none =>
    rw [hds] at a3
    have O4 := O3.perm (pm3 (M := []))
    refine k f H1 N3 (N1 ++ TL') e tb ntF ⟨dV, pm, c', ctv, (pm3 (M := [])).mem_iff.mp m3, (pm3 (M := [])).mem_iff.mp (List.mem_append_right N3 m2), by rw [hds]; exact a3⟩ O4
  | some i =>
    rw [hds] at a3
    obtain ⟨d, e1, e2⟩ := a3
    obtain ⟨N4, O4, m4, hN4⟩ := O3.meetX e2
    have ntG : NT (N4 ++ N3) := NT.app (fun c hc => by rw [hN4 c hc]; rfl) ntF
    have O5 := O4.perm (pm3 (M := N4))
    refine k f H1 (N4 ++ N3) (N1 ++ TL') e tb ntG ⟨dV, pm, c', ctv, (pm3 (M := N4)).mem_iff.mp (List.mem_append_right _ m3), (pm3 (M := N4)).mem_iff.mp (List.mem_append_right _ (List.mem_append_right _ m2)), by rw [hds]; exact ⟨d, e1, (pm3 (M := N4)).mem_iff.mp m4⟩⟩ O5
theorem callLam_go2 {X : Cx} {B : LamI} {P P' : Addr} {q q' : Str} {σ : L2.St} {H : Hp} {Q : VK} {kk : Nat} {TT : (XK → Hp → VK → Prop) → Hp → VK → Prop} {L TL : List Cell} (O : Own H (L ++ TL)) (n : NT L) (ht : Tb2 TL P q P' q')
    (k : ∀ (f : Addr) (H1 : Hp) (F TL' : List Cell), Tb2 TL' P q P' q' → NT F → LamC X B (F ++ (L ++ TL')) f → Own H1 (F ++ (L ++ TL')) → ∃ t : XK → TE, LamK X kk B t ∧ TT (fun E H' Q' => LamAt X B H' f ∧ t E σ H' Q') H1 Q) : tCallLam X kk id TT (tLamV X [(P, q), (P', q')] B) σ H Q :=
  lamV_go2 O n ht fun f H1 F TL' _ h1 h2 h3 O1 => by
    obtain ⟨t, hk, h⟩ := k f H1 F TL' h1 h2 h3 O1
    exact ⟨B, t, f, hk, rfl, h3.at O1, h⟩
/-- a list of words of lambdas that are kept, the cells that lack being met again -/
theorem lam_keep {X : Cx} {B : LamI} {H H' : Hp} {L L' : List Cell} {f : Addr} (C : LamC X B L f) (O : Own H L) (e : ExtN H H') (O' : Own H' L') : ∃ N : List Cell, Own H' (N ++ L') ∧ LamC X B (N ++ L') f := lam_cells O' ((C.at O).ext e)
end
-- WwOd
/-! ### what is no deed -/
def okB : V → Bool
  | .int _ => true
  | .str _ => true
  | _ => false
theorem okB_ok {x : V} (h : okB x = true) : OkF x := by
  cases x with
  | int i => exact .int i
  | str s => exact .str s
  | _ => cases h
theorem flatOf {xs : List V} (h : xs.all okB = true) (hl : xs.length ≤ 1000) : FlatX xs := ⟨fun x hx => okB_ok (List.all_eq_true.mp h x hx), hl⟩
theorem dB3 {m : Int} {a b c : V} (h : numIn b 0 (m - 1) = false ∨ numIn c 0 63 = false ∨ eqS a "look" = false) : deedB m [a, b, c] = false := by
  show (numIn b 0 (m - 1) && (numIn c 0 63 && eqS a "look")) = false
  rcases h with h | h | h <;> rw [h] <;> simp
theorem dB4 {m : Int} {a b c d : V} (h : numIn b 0 (m - 1) = false ∨ numIn c 0 63 = false ∨ eqS a "set" = false ∨ numIn d 0 999 = false) : deedB m [a, b, c, d] = false := by
  show (numIn b 0 (m - 1) && (numIn c 0 63 && (eqS a "set" && numIn d 0 999))) = false
  rcases h with h | h | h | h <;> rw [h] <;> simp
def spOddL (K : PySem.W.Frag) : Sp := fun vs H Q _ => ∃ (rw : Addr) (S : List Cell) (c : Cell) (m : Nat) (far : Int) (R : List Cell), vs = [.ref rw, .int (m : Nat), .int far] ∧ 0 ≤ far ∧ RowC K rw S c ∧ Own H (c :: (S ++ R)) ∧
  ∀ (a : Addr) (xs : List V) (N : List Cell) (c' : Cell) (H' : Hp), (a, HO.tup xs) ∈ N → deedB (m : Nat) xs = false → FlatX xs → NT N → RowC K rw S c' → Own H' (c' :: (S ++ (N ++ R))) → Q (.ref a) H'
section
variable {P : Program} {w : World} {K : PySem.W.Frag} {mg : Str → Option Value} {base : Heap} {n lv : Nat}
theorem ok_odd (T : Txt K mg) : FnOk P w K mg base CX0 2 (He.fAd K ("_law_odd", none)) T.fd__law_odd ["_law_row", "_law_hands", "_law_far"] (spOddL K) := by
  have G__law_taken := ok_taken (P := P) (w := w) (base := base) T
  refine okOf T.F__law_odd sc__law_odd (fun vs H Q E h => ?_) (fun cdv A outer s H vs Q E hr h => ?_)
  · obtain ⟨_, _, _, _, _, _, rfl, _⟩ := h
    rfl
  · obtain ⟨rw, S, c, m, far, R, rfl, hf0, hc, O0, k⟩ := h
    refine ⟨_, (pss_cons (ps_set (i := 3) sc__law_odd.nd rfl (Or.inl rfl) (pe_lst (pa_cons (pe_tup pa_nil) (pa_cons (pe_tup (pa_cons pe_str (pa_cons pe_int pa_nil))) (pa_cons (pe_tup (pa_cons pe_str (pa_cons (pe_op op_add (pv 1) (pv 2)) (pa_cons pe_int pa_nil)))) (pa_cons (pe_tup (pa_cons pe_str (pa_cons pe_int (pa_cons (pe_op op_add pe_int (pv 2)) pa_nil)))) (pa_cons (pe_tup (pa_cons pe_str (pa_cons (pe_op op_sub pe_int pe_int) (pa_cons pe_int pa_nil)))) pa_nil))))))) (pss_cons (ps_set (i := 3) sc__law_odd.nd rfl (Or.inl rfl) (pe_op op_cat (pv 3) (pe_lst (pa_cons (pe_tup (pa_cons pe_str (pa_cons pe_int (pa_cons (pe_op op_sub (pe_op op_sub pe_int pe_int) (pv 2)) pa_nil)))) (pa_cons (pe_tup (pa_cons pe_str (pa_cons pe_int (pa_cons pe_int (pa_cons pe_int pa_nil))))) (pa_cons (pe_tup (pa_cons pe_str (pa_cons pe_int (pa_cons pe_int pa_nil)))) (pa_cons (pe_tup (pa_cons pe_str (pa_cons pe_int (pa_cons pe_int (pa_cons (pe_op op_add pe_int (pv 2)) pa_nil))))) pa_nil))))))) (pss_cons (ps_set (i := 3) sc__law_odd.nd rfl (Or.inl rfl) (pe_op op_cat (pv 3) (pe_lst (pa_cons (pe_tup (pa_cons pe_str (pa_cons pe_int (pa_cons pe_int (pa_cons (pe_op op_sub pe_int pe_int) pa_nil))))) (pa_cons (pe_tup (pa_cons pe_str (pa_cons pe_int (pa_cons pe_int (pa_cons pe_int pa_nil))))) (pa_cons (pe_tup (pa_cons pe_str (pa_cons (pv 1) (pa_cons pe_int (pa_cons pe_int pa_nil))))) (pa_cons (pe_tup (pa_cons pe_str (pa_cons pe_int (pa_cons pe_int pa_nil)))) (pa_cons (pe_tup (pa_cons pe_str (pa_cons pe_int (pa_cons pe_int (pa_cons pe_int (pa_cons pe_int pa_nil)))))) pa_nil)))))))) (pss_cons (ps_set (i := 3) sc__law_odd.nd rfl (Or.inl rfl) (pe_op op_cat (pv 3) (pe_lst (pa_cons (pe_tup (pa_cons pe_str (pa_cons pe_str (pa_cons pe_int pa_nil)))) (pa_cons (pe_tup (pa_cons pe_str (pa_cons pe_int (pa_cons pe_int (pa_cons pe_str pa_nil))))) (pa_cons (pe_tup (pa_cons pe_int (pa_cons pe_int (pa_cons pe_int pa_nil)))) pa_nil)))))) (pss_one (ps_ret (pe_ix ix_list (pv 3) (pe_call G__law_taken (hr.mono (by omega)) rfl T.g__law_taken T.k__law_taken T.b__law_taken .nil pass0 (pa_cons (pv 0) (pa_cons pe_int pa_nil))) (fun _ _ => rfl)))))))), ?_⟩
    refine ⟨by show 0 ≤ sizeLine; decide, fun t0 ht0 => ?_⟩
    have O1 := O0.new (o := .tup []) ht0
    skip
    refine ⟨by show 2 ≤ sizeLine; decide, fun t1 ht1 => ?_⟩
    have O2 := O1.new (o := .tup [.str "look", .int 0]) ht1
    clear O1
    refine ⟨_, rfl, _, rfl, _, _, rfl, rfl, by show 3 ≤ sizeLine; decide, fun t2 ht2 => ?_⟩
    have O3 := O2.new (o := .tup [.str "look", .int ((m : Nat) + far), .int 0]) ht2
    clear O2
    refine ⟨_, rfl, _, _, rfl, rfl, by show 3 ≤ sizeLine; decide, fun t3 ht3 => ?_⟩
    have O4 := O3.new (o := .tup [.str "look", .int 0, .int (64 + far)]) ht3
    clear O3
    refine ⟨_, _, rfl, rfl, by show 3 ≤ sizeLine; decide, fun t4 ht4 => ?_⟩
    have O5 := O4.new (o := .tup [.str "look", .int (0 - 1), .int 0]) ht4
    clear O4
    refine ⟨by show 5 ≤ sizeLine; decide, fun l0 hl0 => ?_⟩
    have O6 := O5.new (o := .lst [.ref t0, .ref t1, .ref t2, .ref t3, .ref t4]) hl0
    clear O5
    refine ⟨_, rfl, _, _, rfl, rfl, _, rfl, _, _, rfl, rfl, by show 3 ≤ sizeLine; decide, fun t5 ht5 => ?_⟩
    have O7 := O6.new (o := .tup [.str "look", .int 0, .int (0 - 1 - far)]) ht5
    clear O6
    refine ⟨by show 4 ≤ sizeLine; decide, fun t6 ht6 => ?_⟩
    have O8 := O7.new (o := .tup [.str "look", .int 0, .int 0, .int 0]) ht6
    clear O7
    refine ⟨by show 3 ≤ sizeLine; decide, fun t7 ht7 => ?_⟩
    have O9 := O8.new (o := .tup [.str "set", .int 0, .int 0]) ht7
    clear O8
    refine ⟨_, rfl, _, _, rfl, rfl, by show 4 ≤ sizeLine; decide, fun t8 ht8 => ?_⟩
    have O10 := O9.new (o := .tup [.str "set", .int 0, .int 0, .int (1000 + far)]) ht8
    clear O9
    refine ⟨by show 4 ≤ sizeLine; decide, fun l1 hl1 => ?_⟩
    have O11 := O10.new (o := .lst [.ref t5, .ref t6, .ref t7, .ref t8]) hl1
    clear O10
    refine ⟨l0, l1, _, _, rfl, rfl, O11.mem (show (l0, HO.lst [.ref t0, .ref t1, .ref t2, .ref t3, .ref t4]) ∈ _ from (List.mem_cons_of_mem _ (List.mem_cons_of_mem _ (List.mem_cons_of_mem _ (List.mem_cons_of_mem _ (List.mem_cons_of_mem _ List.mem_cons_self)))))), O11.a0, by show 5 + 4 ≤ sizeLine; decide, fun c1 hc1 => ?_⟩
    have O12 := O11.new (o := .lst ([.ref t0, .ref t1, .ref t2, .ref t3, .ref t4] ++ [.ref t5, .ref t6, .ref t7, .ref t8])) hc1
    replace O12 := O12.perm (L' := (c1, .lst [.ref t0, .ref t1, .ref t2, .ref t3, .ref t4, .ref t5, .ref t6, .ref t7, .ref t8]) :: _) (List.Perm.refl _)
    clear O11
    refine ⟨_, rfl, _, _, rfl, rfl, by show 4 ≤ sizeLine; decide, fun t9 ht9 => ?_⟩
    have O13 := O12.new (o := .tup [.str "set", .int 0, .int 0, .int (0 - 1)]) ht9
    clear O12
    refine ⟨by show 4 ≤ sizeLine; decide, fun t10 ht10 => ?_⟩
    have O14 := O13.new (o := .tup [.str "set", .int 0, .int 64, .int 0]) ht10
    clear O13
    refine ⟨_, rfl, by show 4 ≤ sizeLine; decide, fun t11 ht11 => ?_⟩
    have O15 := O14.new (o := .tup [.str "set", .int (m : Nat), .int 0, .int 0]) ht11
    clear O14
    refine ⟨by show 3 ≤ sizeLine; decide, fun t12 ht12 => ?_⟩
    have O16 := O15.new (o := .tup [.str "Look", .int 0, .int 0]) ht12
    clear O15
    refine ⟨by show 5 ≤ sizeLine; decide, fun t13 ht13 => ?_⟩
    have O17 := O16.new (o := .tup [.str "set", .int 0, .int 0, .int 0, .int 0]) ht13
    clear O16
    refine ⟨by show 5 ≤ sizeLine; decide, fun l2 hl2 => ?_⟩
    have O18 := O17.new (o := .lst [.ref t9, .ref t10, .ref t11, .ref t12, .ref t13]) hl2
    clear O17
    refine ⟨c1, l2, _, _, rfl, rfl, O18.mem (show (c1, HO.lst [.ref t0, .ref t1, .ref t2, .ref t3, .ref t4, .ref t5, .ref t6, .ref t7, .ref t8]) ∈ _ from (List.mem_cons_of_mem _ (List.mem_cons_of_mem _ (List.mem_cons_of_mem _ (List.mem_cons_of_mem _ (List.mem_cons_of_mem _ (List.mem_cons_of_mem _ List.mem_cons_self))))))), O18.a0, by show 9 + 5 ≤ sizeLine; decide, fun c2 hc2 => ?_⟩
    have O19 := O18.new (o := .lst ([.ref t0, .ref t1, .ref t2, .ref t3, .ref t4, .ref t5, .ref t6, .ref t7, .ref t8] ++ [.ref t9, .ref t10, .ref t11, .ref t12, .ref t13])) hc2
    replace O19 := O19.perm (L' := (c2, .lst [.ref t0, .ref t1, .ref t2, .ref t3, .ref t4, .ref t5, .ref t6, .ref t7, .ref t8, .ref t9, .ref t10, .ref t11, .ref t12, .ref t13]) :: _) (List.Perm.refl _)
    clear O18
    refine ⟨_, rfl, by show 3 ≤ sizeLine; decide, fun t14 ht14 => ?_⟩
    have O20 := O19.new (o := .tup [.str "look", .str "0", .int 0]) ht14
    clear O19
    refine ⟨by show 4 ≤ sizeLine; decide, fun t15 ht15 => ?_⟩
    have O21 := O20.new (o := .tup [.str "set", .int 0, .int 0, .str "1"]) ht15
    clear O20
    refine ⟨by show 3 ≤ sizeLine; decide, fun t16 ht16 => ?_⟩
    have O22 := O21.new (o := .tup [.int 0, .int 0, .int 0]) ht16
    clear O21
    refine ⟨by show 3 ≤ sizeLine; decide, fun l3 hl3 => ?_⟩
    have O23 := O22.new (o := .lst [.ref t14, .ref t15, .ref t16]) hl3
    clear O22
    refine ⟨c2, l3, _, _, rfl, rfl, O23.mem (show (c2, HO.lst [.ref t0, .ref t1, .ref t2, .ref t3, .ref t4, .ref t5, .ref t6, .ref t7, .ref t8, .ref t9, .ref t10, .ref t11, .ref t12, .ref t13]) ∈ _ from (List.mem_cons_of_mem _ (List.mem_cons_of_mem _ (List.mem_cons_of_mem _ (List.mem_cons_of_mem _ List.mem_cons_self))))), O23.a0, by show 14 + 3 ≤ sizeLine; decide, fun c3 hc3 => ?_⟩
    have O24 := O23.new (o := .lst ([.ref t0, .ref t1, .ref t2, .ref t3, .ref t4, .ref t5, .ref t6, .ref t7, .ref t8, .ref t9, .ref t10, .ref t11, .ref t12, .ref t13] ++ [.ref t14, .ref t15, .ref t16])) hc3
    replace O24 := O24.perm (L' := (c3, .lst [.ref t0, .ref t1, .ref t2, .ref t3, .ref t4, .ref t5, .ref t6, .ref t7, .ref t8, .ref t9, .ref t10, .ref t11, .ref t12, .ref t13, .ref t14, .ref t15, .ref t16]) :: _) (List.Perm.refl _)
    clear O23
    obtain ⟨N, hN⟩ : ∃ N : List Cell, N = [(c3, HO.lst [.ref t0, .ref t1, .ref t2, .ref t3, .ref t4, .ref t5, .ref t6, .ref t7, .ref t8, .ref t9, .ref t10, .ref t11, .ref t12, .ref t13, .ref t14, .ref t15, .ref t16]), (l3, HO.lst [.ref t14, .ref t15, .ref t16]), (t16, HO.tup ([.int 0, .int 0, .int 0] : List V)), (t15, HO.tup ([.str "set", .int 0, .int 0, .str "1"] : List V)), (t14, HO.tup ([.str "look", .str "0", .int 0] : List V)), (c2, HO.lst [.ref t0, .ref t1, .ref t2, .ref t3, .ref t4, .ref t5, .ref t6, .ref t7, .ref t8, .ref t9, .ref t10, .ref t11, .ref t12, .ref t13]), (l2, HO.lst [.ref t9, .ref t10, .ref t11, .ref t12, .ref t13]), (t13, HO.tup ([.str "set", .int 0, .int 0, .int 0, .int 0] : List V)), (t12, HO.tup ([.str "Look", .int 0, .int 0] : List V)), (t11, HO.tup ([.str "set", .int (m : Nat), .int 0, .int 0] : List V)), (t10, HO.tup ([.str "set", .int 0, .int 64, .int 0] : List V)), (t9, HO.tup ([.str "set", .int 0, .int 0, .int (0 - 1)] : List V)), (c1, HO.lst [.ref t0, .ref t1, .ref t2, .ref t3, .ref t4, .ref t5, .ref t6, .ref t7, .ref t8]), (l1, HO.lst [.ref t5, .ref t6, .ref t7, .ref t8]), (t8, HO.tup ([.str "set", .int 0, .int 0, .int (1000 + far)] : List V)), (t7, HO.tup ([.str "set", .int 0, .int 0] : List V)), (t6, HO.tup ([.str "look", .int 0, .int 0, .int 0] : List V)), (t5, HO.tup ([.str "look", .int 0, .int (0 - 1 - far)] : List V)), (l0, HO.lst [.ref t0, .ref t1, .ref t2, .ref t3, .ref t4]), (t4, HO.tup ([.str "look", .int (0 - 1), .int 0] : List V)), (t3, HO.tup ([.str "look", .int 0, .int (64 + far)] : List V)), (t2, HO.tup ([.str "look", .int ((m : Nat) + far), .int 0] : List V)), (t1, HO.tup ([.str "look", .int 0] : List V)), (t0, HO.tup ([] : List V))] := ⟨_, rfl⟩
    have hNT : NT N := by
      rw [hN]
      exact NT.cons rfl (NT.cons rfl (NT.cons rfl (NT.cons rfl (NT.cons rfl (NT.cons rfl (NT.cons rfl (NT.cons rfl (NT.cons rfl (NT.cons rfl (NT.cons rfl (NT.cons rfl (NT.cons rfl (NT.cons rfl (NT.cons rfl (NT.cons rfl (NT.cons rfl (NT.cons rfl (NT.cons rfl (NT.cons rfl (NT.cons rfl (NT.cons rfl (NT.cons rfl (NT.cons rfl (NT.nil))))))))))))))))))))))))
    replace O24 := O24.perm (L' := N ++ (c :: (S ++ R))) (by rw [hN]; exact List.Perm.refl _)
    have O25 := O24.perm (L' := c :: (S ++ (N ++ R))) (by walk_at "perm")
    clear O24
    refine ⟨_, rfl, _, rfl, rw, S, c, 17, N ++ R, rfl, hc, by decide, O25, fun v c2 H2 h0 h17 hc2 P1 => ?_⟩
    have ml : (c3, HO.lst [V.ref t0, V.ref t1, V.ref t2, V.ref t3, V.ref t4, V.ref t5, V.ref t6, V.ref t7, V.ref t8, V.ref t9, V.ref t10, V.ref t11, V.ref t12, V.ref t13, V.ref t14, V.ref t15, V.ref t16]) ∈ N := by rw [hN]; exact List.mem_cons_self
    obtain ⟨a, xs, ha, hm, hd, hfl⟩ : ∃ (a : Addr) (xs : List V), atI [V.ref t0, V.ref t1, V.ref t2, V.ref t3, V.ref t4, V.ref t5, V.ref t6, V.ref t7, V.ref t8, V.ref t9, V.ref t10, V.ref t11, V.ref t12, V.ref t13, V.ref t14, V.ref t15, V.ref t16] v = some (.ref a) ∧ (a, HO.tup xs) ∈ N ∧ deedB (m : Nat) xs = false ∧ FlatX xs := by
      rcases (show v = 0 ∨ v = 1 ∨ v = 2 ∨ v = 3 ∨ v = 4 ∨ v = 5 ∨ v = 6 ∨ v = 7 ∨ v = 8 ∨ v = 9 ∨ v = 10 ∨ v = 11 ∨ v = 12 ∨ v = 13 ∨ v = 14 ∨ v = 15 ∨ v = 16 by omega) with rfl | rfl | rfl | rfl | rfl | rfl | rfl | rfl | rfl | rfl | rfl | rfl | rfl | rfl | rfl | rfl | rfl
      · exact ⟨t0, [], rfl, by rw [hN]; exact (List.mem_cons_of_mem _ (List.mem_cons_of_mem _ (List.mem_cons_of_mem _ (List.mem_cons_of_mem _ (List.mem_cons_of_mem _ (List.mem_cons_of_mem _ (List.mem_cons_of_mem _ (List.mem_cons_of_mem _ (List.mem_cons_of_mem _ (List.mem_cons_of_mem _ (List.mem_cons_of_mem _ (List.mem_cons_of_mem _ (List.mem_cons_of_mem _ (List.mem_cons_of_mem _ (List.mem_cons_of_mem _ (List.mem_cons_of_mem _ (List.mem_cons_of_mem _ (List.mem_cons_of_mem _ (List.mem_cons_of_mem _ (List.mem_cons_of_mem _ (List.mem_cons_of_mem _ (List.mem_cons_of_mem _ (List.mem_cons_of_mem _ List.mem_cons_self))))))))))))))))))))))), rfl, flatOf rfl (by show 0 ≤ 1000; decide)⟩
      · exact ⟨t1, [.str "look", .int 0], rfl, by rw [hN]; exact (List.mem_cons_of_mem _ (List.mem_cons_of_mem _ (List.mem_cons_of_mem _ (List.mem_cons_of_mem _ (List.mem_cons_of_mem _ (List.mem_cons_of_mem _ (List.mem_cons_of_mem _ (List.mem_cons_of_mem _ (List.mem_cons_of_mem _ (List.mem_cons_of_mem _ (List.mem_cons_of_mem _ (List.mem_cons_of_mem _ (List.mem_cons_of_mem _ (List.mem_cons_of_mem _ (List.mem_cons_of_mem _ (List.mem_cons_of_mem _ (List.mem_cons_of_mem _ (List.mem_cons_of_mem _ (List.mem_cons_of_mem _ (List.mem_cons_of_mem _ (List.mem_cons_of_mem _ (List.mem_cons_of_mem _ List.mem_cons_self)))))))))))))))))))))), rfl, flatOf rfl (by show 2 ≤ 1000; decide)⟩
      · exact ⟨t2, [.str "look", .int ((m : Nat) + far), .int 0], rfl, by rw [hN]; exact (List.mem_cons_of_mem _ (List.mem_cons_of_mem _ (List.mem_cons_of_mem _ (List.mem_cons_of_mem _ (List.mem_cons_of_mem _ (List.mem_cons_of_mem _ (List.mem_cons_of_mem _ (List.mem_cons_of_mem _ (List.mem_cons_of_mem _ (List.mem_cons_of_mem _ (List.mem_cons_of_mem _ (List.mem_cons_of_mem _ (List.mem_cons_of_mem _ (List.mem_cons_of_mem _ (List.mem_cons_of_mem _ (List.mem_cons_of_mem _ (List.mem_cons_of_mem _ (List.mem_cons_of_mem _ (List.mem_cons_of_mem _ (List.mem_cons_of_mem _ (List.mem_cons_of_mem _ List.mem_cons_self))))))))))))))))))))), dB3 (.inl (decide_eq_false (by omega))), flatOf rfl (by show 3 ≤ 1000; decide)⟩
      · exact ⟨t3, [.str "look", .int 0, .int (64 + far)], rfl, by rw [hN]; exact (List.mem_cons_of_mem _ (List.mem_cons_of_mem _ (List.mem_cons_of_mem _ (List.mem_cons_of_mem _ (List.mem_cons_of_mem _ (List.mem_cons_of_mem _ (List.mem_cons_of_mem _ (List.mem_cons_of_mem _ (List.mem_cons_of_mem _ (List.mem_cons_of_mem _ (List.mem_cons_of_mem _ (List.mem_cons_of_mem _ (List.mem_cons_of_mem _ (List.mem_cons_of_mem _ (List.mem_cons_of_mem _ (List.mem_cons_of_mem _ (List.mem_cons_of_mem _ (List.mem_cons_of_mem _ (List.mem_cons_of_mem _ (List.mem_cons_of_mem _ List.mem_cons_self)))))))))))))))))))), dB3 (.inr (.inl (decide_eq_false (by omega)))), flatOf rfl (by show 3 ≤ 1000; decide)⟩
      · exact ⟨t4, [.str "look", .int (0 - 1), .int 0], rfl, by rw [hN]; exact (List.mem_cons_of_mem _ (List.mem_cons_of_mem _ (List.mem_cons_of_mem _ (List.mem_cons_of_mem _ (List.mem_cons_of_mem _ (List.mem_cons_of_mem _ (List.mem_cons_of_mem _ (List.mem_cons_of_mem _ (List.mem_cons_of_mem _ (List.mem_cons_of_mem _ (List.mem_cons_of_mem _ (List.mem_cons_of_mem _ (List.mem_cons_of_mem _ (List.mem_cons_of_mem _ (List.mem_cons_of_mem _ (List.mem_cons_of_mem _ (List.mem_cons_of_mem _ (List.mem_cons_of_mem _ (List.mem_cons_of_mem _ List.mem_cons_self))))))))))))))))))), dB3 (.inl (decide_eq_false (by omega))), flatOf rfl (by show 3 ≤ 1000; decide)⟩
      · exact ⟨t5, [.str "look", .int 0, .int (0 - 1 - far)], rfl, by rw [hN]; exact (List.mem_cons_of_mem _ (List.mem_cons_of_mem _ (List.mem_cons_of_mem _ (List.mem_cons_of_mem _ (List.mem_cons_of_mem _ (List.mem_cons_of_mem _ (List.mem_cons_of_mem _ (List.mem_cons_of_mem _ (List.mem_cons_of_mem _ (List.mem_cons_of_mem _ (List.mem_cons_of_mem _ (List.mem_cons_of_mem _ (List.mem_cons_of_mem _ (List.mem_cons_of_mem _ (List.mem_cons_of_mem _ (List.mem_cons_of_mem _ (List.mem_cons_of_mem _ List.mem_cons_self))))))))))))))))), dB3 (.inr (.inl (decide_eq_false (by omega)))), flatOf rfl (by show 3 ≤ 1000; decide)⟩
      · exact ⟨t6, [.str "look", .int 0, .int 0, .int 0], rfl, by rw [hN]; exact (List.mem_cons_of_mem _ (List.mem_cons_of_mem _ (List.mem_cons_of_mem _ (List.mem_cons_of_mem _ (List.mem_cons_of_mem _ (List.mem_cons_of_mem _ (List.mem_cons_of_mem _ (List.mem_cons_of_mem _ (List.mem_cons_of_mem _ (List.mem_cons_of_mem _ (List.mem_cons_of_mem _ (List.mem_cons_of_mem _ (List.mem_cons_of_mem _ (List.mem_cons_of_mem _ (List.mem_cons_of_mem _ (List.mem_cons_of_mem _ List.mem_cons_self)))))))))))))))), dB4 (.inr (.inr (.inl (by decide +kernel)))), flatOf rfl (by show 4 ≤ 1000; decide)⟩
      · exact ⟨t7, [.str "set", .int 0, .int 0], rfl, by rw [hN]; exact (List.mem_cons_of_mem _ (List.mem_cons_of_mem _ (List.mem_cons_of_mem _ (List.mem_cons_of_mem _ (List.mem_cons_of_mem _ (List.mem_cons_of_mem _ (List.mem_cons_of_mem _ (List.mem_cons_of_mem _ (List.mem_cons_of_mem _ (List.mem_cons_of_mem _ (List.mem_cons_of_mem _ (List.mem_cons_of_mem _ (List.mem_cons_of_mem _ (List.mem_cons_of_mem _ (List.mem_cons_of_mem _ List.mem_cons_self))))))))))))))), dB3 (.inr (.inr (by decide +kernel))), flatOf rfl (by show 3 ≤ 1000; decide)⟩
      · exact ⟨t8, [.str "set", .int 0, .int 0, .int (1000 + far)], rfl, by rw [hN]; exact (List.mem_cons_of_mem _ (List.mem_cons_of_mem _ (List.mem_cons_of_mem _ (List.mem_cons_of_mem _ (List.mem_cons_of_mem _ (List.mem_cons_of_mem _ (List.mem_cons_of_mem _ (List.mem_cons_of_mem _ (List.mem_cons_of_mem _ (List.mem_cons_of_mem _ (List.mem_cons_of_mem _ (List.mem_cons_of_mem _ (List.mem_cons_of_mem _ (List.mem_cons_of_mem _ List.mem_cons_self)))))))))))))), dB4 (.inr (.inr (.inr (decide_eq_false (by omega))))), flatOf rfl (by show 4 ≤ 1000; decide)⟩
      · exact ⟨t9, [.str "set", .int 0, .int 0, .int (0 - 1)], rfl, by rw [hN]; exact (List.mem_cons_of_mem _ (List.mem_cons_of_mem _ (List.mem_cons_of_mem _ (List.mem_cons_of_mem _ (List.mem_cons_of_mem _ (List.mem_cons_of_mem _ (List.mem_cons_of_mem _ (List.mem_cons_of_mem _ (List.mem_cons_of_mem _ (List.mem_cons_of_mem _ (List.mem_cons_of_mem _ List.mem_cons_self))))))))))), dB4 (.inr (.inr (.inr (decide_eq_false (by omega))))), flatOf rfl (by show 4 ≤ 1000; decide)⟩
      · exact ⟨t10, [.str "set", .int 0, .int 64, .int 0], rfl, by rw [hN]; exact (List.mem_cons_of_mem _ (List.mem_cons_of_mem _ (List.mem_cons_of_mem _ (List.mem_cons_of_mem _ (List.mem_cons_of_mem _ (List.mem_cons_of_mem _ (List.mem_cons_of_mem _ (List.mem_cons_of_mem _ (List.mem_cons_of_mem _ (List.mem_cons_of_mem _ List.mem_cons_self)))))))))), dB4 (.inr (.inl (by decide +kernel))), flatOf rfl (by show 4 ≤ 1000; decide)⟩
      · exact ⟨t11, [.str "set", .int (m : Nat), .int 0, .int 0], rfl, by rw [hN]; exact (List.mem_cons_of_mem _ (List.mem_cons_of_mem _ (List.mem_cons_of_mem _ (List.mem_cons_of_mem _ (List.mem_cons_of_mem _ (List.mem_cons_of_mem _ (List.mem_cons_of_mem _ (List.mem_cons_of_mem _ (List.mem_cons_of_mem _ List.mem_cons_self))))))))), dB4 (.inl (decide_eq_false (by omega))), flatOf rfl (by show 4 ≤ 1000; decide)⟩
      · exact ⟨t12, [.str "Look", .int 0, .int 0], rfl, by rw [hN]; exact (List.mem_cons_of_mem _ (List.mem_cons_of_mem _ (List.mem_cons_of_mem _ (List.mem_cons_of_mem _ (List.mem_cons_of_mem _ (List.mem_cons_of_mem _ (List.mem_cons_of_mem _ (List.mem_cons_of_mem _ List.mem_cons_self)))))))), dB3 (.inr (.inr (by decide +kernel))), flatOf rfl (by show 3 ≤ 1000; decide)⟩
      · exact ⟨t13, [.str "set", .int 0, .int 0, .int 0, .int 0], rfl, by rw [hN]; exact (List.mem_cons_of_mem _ (List.mem_cons_of_mem _ (List.mem_cons_of_mem _ (List.mem_cons_of_mem _ (List.mem_cons_of_mem _ (List.mem_cons_of_mem _ (List.mem_cons_of_mem _ List.mem_cons_self))))))), rfl, flatOf rfl (by show 5 ≤ 1000; decide)⟩
      · exact ⟨t14, [.str "look", .str "0", .int 0], rfl, by rw [hN]; exact (List.mem_cons_of_mem _ (List.mem_cons_of_mem _ (List.mem_cons_of_mem _ (List.mem_cons_of_mem _ List.mem_cons_self)))), dB3 (.inl rfl), flatOf rfl (by show 3 ≤ 1000; decide)⟩
      · exact ⟨t15, [.str "set", .int 0, .int 0, .str "1"], rfl, by rw [hN]; exact (List.mem_cons_of_mem _ (List.mem_cons_of_mem _ (List.mem_cons_of_mem _ List.mem_cons_self))), dB4 (.inr (.inr (.inr rfl))), flatOf rfl (by show 4 ≤ 1000; decide)⟩
      · exact ⟨t16, [.int 0, .int 0, .int 0], rfl, by rw [hN]; exact (List.mem_cons_of_mem _ (List.mem_cons_of_mem _ List.mem_cons_self)), dB3 (.inr (.inr (by decide +kernel))), flatOf rfl (by show 3 ≤ 1000; decide)⟩
    refine ⟨c3, _, _, .ref a, rfl, rfl, SqL.of (P1.mem (List.mem_cons_of_mem _ (List.mem_append_right _ (List.mem_append_left _ ml)))), ha, ?_⟩
    exact k a xs N c2 H2 hm hd hfl hNT hc2 P1
end
-- WwTp
/-! ### texts -/
/-- str(x) of a number or a text -/
def rStrF : List V → Hp → VK → Prop := fun xs H Q => (∃ i, xs = [.int i] ∧ i.natAbs.log2 < 1920 ∧ Q (.str (toString i)) H) ∨ ∃ a, xs = [.str a] ∧ Q (.str a) H
theorem call_strF {X : Cx} : CallR X (.type "str") rStrF := fun pins s σ H xs us Q I r h => h.elim (fun h => call_str_int pins s σ H xs us Q I r h) (fun h => SkE.call_str_str pins s σ H xs us Q I r h)
/-- what sep.join(xs) asks -/
abbrev rJoin (K : PySem.W.Frag) : V → List V → Hp → VK → Prop := fun x xs H Q => ∃ a p, ∃ ys : List Str, x = .str a ∧ xs = [.ref p] ∧ (SqL K H p (ys.map V.str) ∨ SqT K H p (ys.map V.str)) ∧ (ys.map (·.length)).sum + ys.length * a.length ≤ 16777216 ∧ Q (.str (Txt.join a ys)) H
/-- what x + y asks of two texts -/
abbrev rAddS : V → V → Hp → VK → Prop := fun x y H Q => ∃ i j, x = .str i ∧ y = .str j ∧ i.length + j.length ≤ sizeLine ∧ Q (.str (i ++ j)) H
/-- a comprehension over a text's signs -/
theorem lc_str {x : Str} {g : TG} {tt : TT} {te : TE} {vs : List Nat} {σ : L2.St} {H1 : Hp} {D : Addr} {Qd : Hp → Prop} (Pv : Nat → Hp → Prop) (h0 : Pv 0 (upd H1 D (.lst [])))
    (hs : ∀ i c H, x.cps[i]? = some c → Pv i H → g (.str ⟨#[c]⟩) (wipe σ vs) H fun σ2 H2 => wipe σ2 vs = wipe σ vs ∧ tt σ2 H2 fun b H3 =>
      if b = true then te σ2 H3 fun y H4 => ∃ acc, H4 D = some (.lst acc) ∧ acc.length < sizeLine ∧ Pv (i + 1) (upd H4 D (.lst (acc ++ [y]))) else Pv (i + 1) H3) (hd : ∀ H, Pv x.cps.size H → Qd H) :
    ∃ W : Nat → Nat → Hp → Prop, (∃ m, W 0 m (upd H1 D (.lst []))) ∧ ∀ i m H, W i m H →
      ((Its x).stop i H ∧ Qd H) ∨ ((Its x).go i H ∧ ∃ Nx : Hp → Prop, (∀ H', Nx H' → ∃ m', m' < m ∧ W (i + 1) m' H') ∧ ∀ y H', (Its x).yld i H y H' → g y (wipe σ vs) H' fun σ2 H2 => wipe σ2 vs = wipe σ vs ∧ tt σ2 H2 fun b H3 =>
        if b = true then te σ2 H3 fun y H4 => ∃ acc, H4 D = some (.lst acc) ∧ acc.length < sizeLine ∧ Nx (upd H4 D (.lst (acc ++ [y]))) else Nx H3) := by
  refine ⟨fun i m H => m + i = x.cps.size ∧ Pv i H, ⟨x.cps.size, rfl, h0⟩, ?_⟩
  rintro i m H ⟨e, p⟩
  by_cases hlt : i < x.cps.size
  · refine .inr ⟨hlt, Pv (i + 1), fun H' p' => ⟨m - 1, by omega, by omega, p'⟩, ?_⟩
    rintro y H' ⟨rfl, c, hc, rfl⟩
    exact hs i c _ hc p
  · have e2 : i = x.cps.size := by omega
    refine .inl ⟨by show x.cps.size ≤ i; omega, hd H ?_⟩
    rw [← e2]
    exact p
def digB (c : Nat) : Bool := decide (48 ≤ c) && decide (c ≤ 57)
def allDig (x : Str) : Bool := (TL.tl x).all digB
/-- the number that a word writes -/
def numOf (x : Str) : V := if 1 ≤ x.length ∧ x.length ≤ 3 ∧ allDig x = true then (if x = "0" ∨ (TL.tl x).head? ≠ some 48 then .int ((NumText.digitsVal (TL.tl x) : Nat) : Int) else .non) else .non
theorem figs_mem (c : Nat) : decide (c ∈ (Str.ofString "0123456789").cps.toList) = digB c := by
  have e : (Str.ofString "0123456789").cps.toList = [48, 49, 50, 51, 52, 53, 54, 55, 56, 57] := by decide +kernel
  rw [e]
  unfold digB
  by_cases h : 48 ≤ c ∧ c ≤ 57
  · rw [decide_eq_true h.1, decide_eq_true h.2]
    refine decide_eq_true ?_
    simp only [List.mem_cons, List.not_mem_nil, or_false]
    omega
  · have e : (decide (48 ≤ c) && decide (c ≤ 57)) = false := by
      by_cases h1 : 48 ≤ c
      · have h2 : ¬ c ≤ 57 := fun z => h ⟨h1, z⟩
        rw [decide_eq_false h2, Bool.and_false]
      · rw [decide_eq_false h1]
        rfl
    rw [e]
    refine decide_eq_false fun z => h ?_
    simp only [List.mem_cons, List.not_mem_nil, or_false] at z
    omega
def Sgn (x : Str) : Prop := ∀ c ∈ TL.tl x, c < 1114112
theorem Sgn.lay {x : Str} (h : Sgn x) : PyData.canLay0 (.str x) = true := by
  show x.cps.all (· < 0x110000) = true
  rw [Array.all_eq_true']
  exact fun c hc => decide_eq_true (h c (Array.mem_toList_iff.mpr hc))
def sgn1 (c : Nat) : Str := ⟨#[c]⟩
def badS (x : Str) : List Nat := (TL.tl x).filter fun c => !digB c
theorem badS_nil (x : Str) : badS x = [] ↔ allDig x = true := by
  unfold badS allDig
  rw [List.filter_eq_nil_iff, List.all_eq_true]
  constructor
  · intro h c hc
    have := h c hc
    cases e : digB c with
    | true => rfl
    | false =>
      rw [e] at this
      exact absurd rfl this
  · intro h c hc z
    rw [h c hc] at z
    cases z
theorem strs_dp {L : List Cell} : ∀ cs : List Nat, DpsL L (cs.map fun c => V.str (sgn1 c)) (cs.map fun c => PyData.str (sgn1 c))
  | [] => .nil
  | c :: cs => .cons (.str _) (strs_dp cs)
theorem strs_shaped {cs : List Nat} (h : ∀ c ∈ cs, c < 1114112) : SeqAt.shaped (.list (cs.map fun c => PyData.str (sgn1 c))) = true := by
  obtain ⟨h1, h2⟩ := layL (f := fun c => PyData.str (sgn1 c)) (k := 0) (xs := cs) fun c hc => ⟨Sgn.lay fun d hd => by
    have e : d = c := by
      have hd : d ∈ [c] := hd
      exact List.mem_singleton.mp hd
    rw [e]
    exact h c hc, Nat.le_refl _⟩
  exact shaped_of h1 (Nat.le_trans h2 (by decide))
theorem eqv_nilL (d : PyData) (ds : List PyData) : PyData.eqv (.list (d :: ds)) (.list []) = false := by
  first
    | rfl
    | simp [PyData.eqv]
/-! ### parts of a text -/
theorem spl_facts (S : List Nat) (k : Nat) (acc l : List Nat) : TL.spl S k acc l ≠ [] ∧ (TL.spl S k acc l).length ≤ l.length + 1 ∧ ∀ p ∈ TL.spl S k acc l, p.length ≤ acc.length + l.length ∧ ∀ c ∈ p, c ∈ acc ∨ c ∈ l := by
  fun_induction TL.spl S k acc l with
  | case1 _ acc =>
    refine ⟨by simp, by simp, fun p hp => ?_⟩
    rw [List.mem_singleton.mp hp]
    exact ⟨by simp, fun c hc => .inl hc⟩
  | case2 acc c r h ih =>
    obtain ⟨_, h2, h3⟩ := ih
    refine ⟨by simp, by simp; omega, fun p hp => ?_⟩
    rcases List.mem_cons.mp hp with e | e
    · rw [e]
      exact ⟨by simp, fun c hc => .inl hc⟩
    · obtain ⟨g1, g2⟩ := h3 p e
      refine ⟨by simp at g1 ⊢; omega, fun d hd => ?_⟩
      rcases g2 d hd with z | z
      · cases z
      · exact .inr (List.mem_cons_of_mem _ z)
  | case3 acc c r h ih =>
    obtain ⟨h1, h2, h3⟩ := ih
    refine ⟨h1, by simp; omega, fun p hp => ?_⟩
    obtain ⟨g1, g2⟩ := h3 p hp
    refine ⟨by simp at g1 ⊢; omega, fun d hd => ?_⟩
    rcases g2 d hd with z | z
    · rcases List.mem_append.mp z with z | z
      · exact .inl z
      · rw [List.mem_singleton.mp z]
        exact .inr List.mem_cons_self
    · exact .inr (List.mem_cons_of_mem _ z)
  | case4 acc k' c r ih =>
    obtain ⟨h1, h2, h3⟩ := ih
    refine ⟨h1, by simp; omega, fun p hp => ?_⟩
    obtain ⟨g1, g2⟩ := h3 p hp
    exact ⟨by simp; omega, fun d hd => (g2 d hd).elim .inl fun z => .inr (List.mem_cons_of_mem _ z)⟩
theorem split_facts {x y : Str} (hy : TL.tl y ≠ []) (hk : y.cps.all (· < 256) = true) (hx : Sgn x) : Txt.split x y ≠ [] ∧ (Txt.split x y).length ≤ x.length + 1 ∧ ∀ p ∈ Txt.split x y, p.length ≤ x.length ∧ Sgn p := by
  have e := TL.split_spl x y hy (TL.kind_ok hk)
  obtain ⟨h1, h2, h3⟩ := spl_facts (TL.tl y) 0 [] (TL.tl x)
  rw [← e] at h1 h2 h3
  refine ⟨fun z => h1 (by rw [z]; rfl), by rw [List.length_map] at h2; rw [TL.len_tl]; exact h2, fun p hp => ?_⟩
  obtain ⟨g1, g2⟩ := h3 (TL.tl p) (List.mem_map.mpr ⟨p, hp, rfl⟩)
  refine ⟨by rw [TL.len_tl, TL.len_tl]; simpa using g1, fun c hc => ?_⟩
  rcases g2 c hc with z | z
  · cases z
  · exact hx c z
-- WwTx
/-! ### texts read -/
def spNumOf : Sp := fun vs H Q _ => ∃ (x : Str) (R : List Cell), vs = [.str x] ∧ x.length ≤ 100000 ∧ Sgn x ∧ Own H R ∧ ∀ H' : Hp, Own H' R → Q (numOf x) H'
theorem numOf_no {x : Str} (h : ¬ (1 ≤ x.length ∧ x.length ≤ 3 ∧ allDig x = true)) : numOf x = .non := if_neg h
def ruleW : List Str → Option (List V)
  | [r, a, b, c, d, e] => if r = "room" ∧ ruleB [numOf a, numOf b, .str c, .str d, .str e] = true then some [numOf a, numOf b, .str c, .str d, .str e] else none
  | _ => none
def deedW : List Str → Option (List V)
  | [] => none
  | x :: r => if (x = "look" ∨ x = "set") ∧ deedB 3 (.str x :: r.map numOf) = true then some (.str x :: r.map numOf) else none
theorem numOf_ok (x : Str) : OkF (numOf x) := by
  unfold numOf
  split
  · split
    · exact .int _
    · exact .non
  · exact .non
def WsOk (ws : List Str) : Prop := ws ≠ [] ∧ ws.length ≤ 90000 ∧ ∀ x ∈ ws, x.length ≤ 100000 ∧ Sgn x
def tellO (o : Option (List V)) (R : List Cell) (Q : VK) : Prop := match o with
  | none => ∀ H' : Hp, Own H' R → Q .non H'
  | some xs => ∀ (p : Addr) (H' : Hp), Own H' ((p, .tup xs) :: R) → Q (.ref p) H'
def spRuleOf : Sp := fun vs H Q _ => ∃ (pw : Addr) (ws : List Str) (R : List Cell), vs = [.ref pw] ∧ WsOk ws ∧ (pw, HO.lst (ws.map V.str)) ∈ R ∧ Own H R ∧ tellO (ruleW ws) R Q
def spDeedOf : Sp := fun vs H Q _ => ∃ (pw : Addr) (ws : List Str) (R : List Cell), vs = [.ref pw] ∧ WsOk ws ∧ (pw, HO.lst (ws.map V.str)) ∈ R ∧ Own H R ∧ tellO (deedW ws) R Q
theorem len6 {xs : List Str} (h : xs.length = 6) : ∃ a b c d e f, xs = [a, b, c, d, e, f] := by
  match xs, h with
  | [a, b, c, d, e, f], _ => exact ⟨a, b, c, d, e, f, rfl⟩
theorem ruleW_len {ws : List Str} (h : ws.length ≠ 6) : ruleW ws = none := by
  unfold ruleW
  split
  · exact absurd rfl h
  · rfl
section
variable {P : Program} {w : World} {K : PySem.W.Frag} {mg : Str → Option Value} {base : Heap} {n lv : Nat}
end
-- WwAl
/-! ### alike -/
def rIxS (K : PySem.W.Frag) : R2 := fun x y H Q => rIxL K x y H Q ∨ rIxT K x y H Q
theorem ix_sq {X : Cx} : IxR X (rIxS X.K) := fun value slice pins s σ H x y v u Q I rx ry h hs => h.elim (fun h => ix_list value slice pins s σ H x y v u Q I rx ry h hs) (fun h => ix_tup value slice pins s σ H x y v u Q I rx ry h hs)
/-- data of at most so many layers, of lists that are not too long -/
def AlD : Nat → PyData → Prop
  | 0, _ => False
  | n + 1, .list ds => ds.length ≤ 100000 ∧ ∀ d ∈ ds, AlD n d
  | n + 1, .tuple ds => ds.length ≤ 100000 ∧ ∀ d ∈ ds, AlD n d
  | _ + 1, .dict _ => False
  | _ + 1, _ => True
def spAlike (n : Nat) : Sp := fun vs H Q _ => ∃ (x y : V) (d : PyData) (L : List Cell), vs = [x, y] ∧ DpL L x d ∧ DpL L y d ∧ AlD n d ∧ Own H L ∧ ∀ H', Own H' L → Q (.bl true) H'
theorem kit_anylst {K : PySem.W.Frag} : PySem.W.kitAny K (.type "list") [.type "tuple", .type "list"] = some true :=
  kitAny_cons (b := false) (kit_ty (by decide +kernel)) (fun _ => kitAny_cons (b := true) (kit_ty (by decide +kernel)) (fun z => nomatch z) fun _ => rfl) (fun z => nomatch z)
theorem kit_anytup {K : PySem.W.Frag} : PySem.W.kitAny K (.type "tuple") [.type "tuple", .type "list"] = some true :=
  kitAny_cons (b := true) (kit_ty (by decide +kernel)) (fun z => nomatch z) fun _ => rfl
section
variable {P : Program} {w : World} {K : PySem.W.Frag} {mg : Str → Option Value} {base : Heap} {n lv : Nat}
theorem ok_alike (T : Txt K mg) : ∀ n, FnOk P w K mg base CX0 n (He.fAd K ("_law_alike", none)) T.fd__law_alike ["_law_found", "_law_due"] (spAlike n)
  | 0 => ⟨fun vs H Q E ⟨_, _, _, _, _, _, _, h, _⟩ => h.elim, fun A outer s H args us vs Q E hr he hb hv ⟨_, _, _, _, _, _, _, h, _⟩ => h.elim⟩
  | n + 1 => by
    have G__law_alike := ok_alike T n
    refine okOf T.F__law_alike sc__law_alike (fun vs H Q E h => ?_) (fun cdv A outer s H vs Q E hr h => ?_)
    · obtain ⟨_, _, _, _, rfl, _⟩ := h
      rfl
    · obtain ⟨x, y, d, L, rfl, hx, hy, hd, O, k⟩ := h
      refine ⟨_, (pss_cons (ps_if (PW.pt (pw_or (pt_val (pe_callB call_isi (by rfl) T.n_isinstance (by decide +kernel) (pa_cons (pv 1) (pa_cons (pe_bltn (v := .ty "tuple") (by rfl) T.n_tuple (by decide +kernel) rfl) pa_nil)))) (pw_or1 (pt_val (pe_callB call_isi (by rfl) T.n_isinstance (by decide +kernel) (pa_cons (pv 1) (pa_cons (pe_bltn (v := .ty "list") (by rfl) T.n_list (by decide +kernel) rfl) pa_nil))))))) (pss_cons (ps_if (PW.pt (pw_or (pt_cmpR op_ne (pe_callB call_isi (by rfl) T.n_isinstance (by decide +kernel) (pa_cons (pv 0) (pa_cons (pe_bltn (v := .ty "tuple") (by rfl) T.n_tuple (by decide +kernel) rfl) pa_nil))) (pe_callB call_isi (by rfl) T.n_isinstance (by decide +kernel) (pa_cons (pv 1) (pa_cons (pe_bltn (v := .ty "tuple") (by rfl) T.n_tuple (by decide +kernel) rfl) pa_nil))) (nomark _)) (pw_or1 (pt_not (pt_val (pe_callB call_isiT (by rfl) T.n_isinstance (by decide +kernel) (pa_cons (pv 0) (pa_cons (pe_tup (pa_cons (pe_bltn (v := .ty "tuple") (by rfl) T.n_tuple (by decide +kernel) rfl) (pa_cons (pe_bltn (v := .ty "list") (by rfl) T.n_list (by decide +kernel) rfl) pa_nil))) pa_nil)))))))) (pss_one (ps_ret pe_bl)) pss_nil) (pss_cons (ps_if (pt_cmpR op_ne (pe_callB call_len_seq (by rfl) T.n_len PySem.boot_len (pa_cons (pv 0) pa_nil)) (pe_callB call_len_seq (by rfl) T.n_len PySem.boot_len (pa_cons (pv 1) pa_nil)) (nomark _)) (pss_one (ps_ret pe_bl)) pss_nil) (pss_one (ps_ret (pe_cmpR (op_eqD hr.units) (pe_lc (tt := (tNot (tB (tCall (spAlike n) [] E0 (tCons (tOp (rIxS K) (tVar 0) (tVar 2)) (tCons (tOp (rIxS K) (tVar 1) (tVar 2)) tNil)))))) (own := [("_law_k", 2)]) (by rfl) sc__law_alike.nd (pi_range1 (by rfl) T.n_range (pa_cons (pe_callB call_len_seq (by rfl) T.n_len PySem.boot_len (pa_cons (pv 1) pa_nil)) pa_nil)) (blkOk_by (own := [("_law_k", 2)]) (by kernel_rfl)) (fun _ _ _ _ _ => (pg_name (i := 2) sc__law_alike.nd rfl (Or.inl rfl))) (fun _ _ _ _ _ => (pts_one (pt_not (pt_val (pe_call G__law_alike (hr.mono (by omega)) rfl T.g__law_alike T.k__law_alike T.b__law_alike .nil pass0 (pa_cons (pe_ix ix_sq (pv 0) (pv 2) (fun _ _ => rfl)) (pa_cons (pe_ix ix_sq (pv 1) (pv 2) (fun _ _ => rfl)) pa_nil))))))) (fun _ _ _ _ _ => (pv 2))) (pe_lst pa_nil) (nomark _)))))) pss_nil) (pss_cons (ps_if (PW.pt (pw_or (pt_cmpR op_isN (pv 1) pe_non (nomark _)) (pw_or1 (pt_cmpR op_isN (pv 0) pe_non (nomark _))))) (pss_one (ps_ret (pe_and (pe_cmpR op_isN (pv 1) pe_non (nomark _)) (pe_one (pe_cmpR op_isN (pv 0) pe_non (nomark _)))))) pss_nil) (pss_cons (ps_if (PW.pt (pw_or (pt_val (pe_callB call_isi (by rfl) T.n_isinstance (by decide +kernel) (pa_cons (pv 1) (pa_cons (pe_bltn (v := .ty "bool") (by rfl) T.n_bool (by decide +kernel) rfl) pa_nil)))) (pw_or1 (pt_val (pe_callB call_isi (by rfl) T.n_isinstance (by decide +kernel) (pa_cons (pv 0) (pa_cons (pe_bltn (v := .ty "bool") (by rfl) T.n_bool (by decide +kernel) rfl) pa_nil))))))) (pss_one (ps_ret (pe_and (pe_callB call_isi (by rfl) T.n_isinstance (by decide +kernel) (pa_cons (pv 1) (pa_cons (pe_bltn (v := .ty "bool") (by rfl) T.n_bool (by decide +kernel) rfl) pa_nil))) (pe_and (pe_callB call_isi (by rfl) T.n_isinstance (by decide +kernel) (pa_cons (pv 0) (pa_cons (pe_bltn (v := .ty "bool") (by rfl) T.n_bool (by decide +kernel) rfl) pa_nil))) (pe_one (pe_cmpR op_eq (pv 0) (pv 1) (nomark _))))))) pss_nil) (pss_cons (ps_if (pt_val (pe_callB call_isi (by rfl) T.n_isinstance (by decide +kernel) (pa_cons (pv 1) (pa_cons (pe_bltn (v := .ty "str") (by rfl) T.n_str (by decide +kernel) rfl) pa_nil)))) (pss_one (ps_ret (pe_and (pe_callB call_isi (by rfl) T.n_isinstance (by decide +kernel) (pa_cons (pv 0) (pa_cons (pe_bltn (v := .ty "str") (by rfl) T.n_str (by decide +kernel) rfl) pa_nil))) (pe_one (pe_cmpR op_eq (pv 0) (pv 1) (nomark _)))))) pss_nil) (pss_one (ps_ret (pe_and (pe_callB call_isi (by rfl) T.n_isinstance (by decide +kernel) (pa_cons (pv 0) (pa_cons (pe_bltn (v := .ty "int") (by rfl) T.n_int (by decide +kernel) rfl) pa_nil))) (pe_one (pe_cmpR op_eq (pv 0) (pv 1) (nomark _)))))))))), ?_⟩
      cases hx with
      | non =>
        cases hy
        refine ⟨_, rfl, _, _, _, _, false, rfl, ClsV.ty _, TyX.base (.non), kit_ty (by decide +kernel), _, rfl, iteF ?_⟩
        refine ⟨_, rfl, _, _, _, _, false, rfl, ClsV.ty _, TyX.base (.non), kit_ty (by decide +kernel), _, rfl, iteF ?_⟩
        refine ⟨_, rfl, rfl, true, by rw [decide_eq_true rfl], iteT (iteT ?_)⟩
        refine ⟨_, rfl, rfl, true, by rw [decide_eq_true rfl], iteT ⟨_, rfl, rfl, ?_⟩⟩
        rw [decide_eq_true rfl]
        exact k H O
      | bl b =>
        cases hy
        refine ⟨_, rfl, _, _, _, _, false, rfl, ClsV.ty _, TyX.base (.bl b), kit_ty (by decide +kernel), _, rfl, iteF ?_⟩
        refine ⟨_, rfl, _, _, _, _, false, rfl, ClsV.ty _, TyX.base (.bl b), kit_ty (by decide +kernel), _, rfl, iteF ?_⟩
        refine ⟨_, rfl, rfl, false, by rw [decide_eq_false (fun e => nomatch e)], iteF ?_⟩
        refine ⟨_, rfl, rfl, false, by rw [decide_eq_false (fun e => nomatch e)], iteF ?_⟩
        refine ⟨_, rfl, _, _, _, _, true, rfl, ClsV.ty _, TyX.base (.bl b), kit_ty (by decide +kernel), _, rfl, iteT (iteT ?_)⟩
        refine ⟨_, rfl, _, _, _, _, true, rfl, ClsV.ty _, TyX.base (.bl b), kit_ty (by decide +kernel), _, rfl, iteT ?_⟩
        refine ⟨_, rfl, _, _, _, _, true, rfl, ClsV.ty _, TyX.base (.bl b), kit_ty (by decide +kernel), _, rfl, iteT ?_⟩
        refine ⟨_, rfl, _, rfl, rfl, ?_⟩
        rw [decide_eq_true rfl]
        exact k H O
      | int i =>
        cases hy
        refine ⟨_, rfl, _, _, _, _, false, rfl, ClsV.ty _, TyX.base (.int i), kit_ty (by decide +kernel), _, rfl, iteF ?_⟩
        refine ⟨_, rfl, _, _, _, _, false, rfl, ClsV.ty _, TyX.base (.int i), kit_ty (by decide +kernel), _, rfl, iteF ?_⟩
        refine ⟨_, rfl, rfl, false, by rw [decide_eq_false (fun e => nomatch e)], iteF ?_⟩
        refine ⟨_, rfl, rfl, false, by rw [decide_eq_false (fun e => nomatch e)], iteF ?_⟩
        refine ⟨_, rfl, _, _, _, _, false, rfl, ClsV.ty _, TyX.base (.int i), kit_ty (by decide +kernel), _, rfl, iteF ?_⟩
        refine ⟨_, rfl, _, _, _, _, false, rfl, ClsV.ty _, TyX.base (.int i), kit_ty (by decide +kernel), _, rfl, iteF ?_⟩
        refine ⟨_, rfl, _, _, _, _, false, rfl, ClsV.ty _, TyX.base (.int i), kit_ty (by decide +kernel), _, rfl, iteF ?_⟩
        refine ⟨_, rfl, _, _, _, _, true, rfl, ClsV.ty _, TyX.base (.int i), kit_ty (by decide +kernel), _, rfl, iteT ?_⟩
        refine ⟨_, rfl, _, rfl, rfl, ?_⟩
        rw [decide_eq_true rfl]
        exact k H O
      | str z =>
        cases hy
        refine ⟨_, rfl, _, _, _, _, false, rfl, ClsV.ty _, TyX.base (.str z), kit_ty (by decide +kernel), _, rfl, iteF ?_⟩
        refine ⟨_, rfl, _, _, _, _, false, rfl, ClsV.ty _, TyX.base (.str z), kit_ty (by decide +kernel), _, rfl, iteF ?_⟩
        refine ⟨_, rfl, rfl, false, by rw [decide_eq_false (fun e => nomatch e)], iteF ?_⟩
        refine ⟨_, rfl, rfl, false, by rw [decide_eq_false (fun e => nomatch e)], iteF ?_⟩
        refine ⟨_, rfl, _, _, _, _, false, rfl, ClsV.ty _, TyX.base (.str z), kit_ty (by decide +kernel), _, rfl, iteF ?_⟩
        refine ⟨_, rfl, _, _, _, _, false, rfl, ClsV.ty _, TyX.base (.str z), kit_ty (by decide +kernel), _, rfl, iteF ?_⟩
        refine ⟨_, rfl, _, _, _, _, true, rfl, ClsV.ty _, TyX.base (.str z), kit_ty (by decide +kernel), _, rfl, iteT ?_⟩
        refine ⟨_, rfl, _, _, _, _, true, rfl, ClsV.ty _, TyX.base (.str z), kit_ty (by decide +kernel), _, rfl, iteT ?_⟩
        refine ⟨_, rfl, _, rfl, rfl, ?_⟩
        rw [decide_eq_true rfl]
        exact k H O
      | @lst a1 xs1 ds h1 r1 =>
        cases hy with
        | @lst a2 xs2 _ h2 r2 =>
          have m1 := O.mem h1
          have m2 := O.mem h2
          have e1 := r1.len
          have e2 := r2.len
          obtain ⟨hd1, hd2⟩ : ds.length ≤ 100000 ∧ ∀ d ∈ ds, AlD n d := hd
          refine ⟨_, rfl, _, _, _, _, false, rfl, ClsV.ty _, TyX.base (.lst m2), kit_ty (by decide +kernel), _, rfl, iteF ?_⟩
          refine ⟨_, rfl, _, _, _, _, true, rfl, ClsV.ty _, TyX.base (.lst m2), kit_ty (by decide +kernel), _, rfl, iteT ?_⟩
          refine ⟨_, rfl, _, _, _, _, false, rfl, ClsV.ty _, TyX.base (.lst m1), kit_ty (by decide +kernel), ?_⟩
          refine ⟨_, rfl, _, _, _, _, false, rfl, ClsV.ty _, TyX.base (.lst m2), kit_ty (by decide +kernel), rfl, false, by rw [decide_eq_true rfl]; rfl, iteF ?_⟩
          refine ⟨_, rfl, by show 2 ≤ sizeLine; decide, fun tp htp => ?_⟩
          have O1 := O.new (o := .tup [.ty "tuple", .ty "list"]) htp
          refine ⟨_, tp, _, _, [.type "tuple", .type "list"], true, rfl, O1.a0, ?_, TyX.base (.lst (O1.tail.mem h1)), ?_, _, rfl, iteF ?_⟩
          · exact .cons (ClsV.ty _) (.cons (ClsV.ty _) .nil)
          · exact kit_anylst
          replace O1 := O1.tail
          generalize upd H tp _ = H1 at O1 ⊢
          refine ⟨_, rfl, a1, _, rfl, .inl (SqL.of (O1.mem h1)), _, rfl, a2, _, rfl, .inl (SqL.of (O1.mem h2)), rfl, false, by rw [e1, e2, decide_eq_true rfl]; rfl, iteF ?_⟩
          refine ⟨_, rfl, a2, _, rfl, .inl (SqL.of (O1.mem h2)), (xs2.length : Int), rfl, by omega, by omega, fun D hD => ?_⟩
          refine lc_range (lo := 0) (n := xs2.length) (fun i H' => Own H' ((D, .lst []) :: L)) (O1.new hD) ?_ ?_
          · rintro i H2 hi O2
            have ei : (0 : Int) + (i : Int) = ((i : Nat) : Int) := by omega
            rw [ei]
            obtain ⟨d, hdi⟩ : ∃ d, ds[i]? = some d := ⟨_, List.getElem?_eq_getElem (by omega)⟩
            obtain ⟨v1, hv1, p1⟩ := r1.get' hdi
            obtain ⟨v2, hv2, p2⟩ := r2.get' hdi
            have hs : ∀ c ∈ L, c ∈ (D, HO.lst []) :: L := fun c hc => List.mem_cons_of_mem _ hc
            exact ⟨rfl, _, rfl, _, rfl, .inl ⟨a1, _, _, v1, rfl, rfl, SqL.of (O2.mem (hs _ h1)), atI_nat hv1, _, rfl, _, rfl, .inl ⟨a2, _, _, v2, rfl, rfl, SqL.of (O2.mem (hs _ h2)), atI_nat hv2, v1, v2, d, _, rfl, p1.mono hs, p2.mono hs, hd2 d (List.mem_of_getElem? hdi), O2, fun H3 O3 => ⟨_, rfl, iteF O3⟩⟩⟩⟩
          · intro H2 O2
            refine ⟨by show 0 ≤ sizeLine; decide, fun e he => ?_⟩
            have O3 := O2.new (o := .lst []) he
            refine ⟨.list [], .list [], .lst (SqL.of O3.a1) .nil, .lst (SqL.of O3.a0) .nil, sh0, sh0, ?_⟩
            have ee : PyData.eqv (.list []) (.list []) = true := by decide +kernel
            rw [ee]
            exact k _ O3.tail.tail
      | @tup a1 xs1 ds h1 r1 =>
        cases hy with
        | @tup a2 xs2 _ h2 r2 =>
          have m1 := O.mem h1
          have m2 := O.mem h2
          have e1 := r1.len
          have e2 := r2.len
          obtain ⟨hd1, hd2⟩ : ds.length ≤ 100000 ∧ ∀ d ∈ ds, AlD n d := hd
          refine ⟨_, rfl, _, _, _, _, true, rfl, ClsV.ty _, TyX.base (.tup m2), kit_ty (by decide +kernel), _, rfl, iteT (iteT ?_)⟩
          refine ⟨_, rfl, _, _, _, _, true, rfl, ClsV.ty _, TyX.base (.tup m1), kit_ty (by decide +kernel), ?_⟩
          refine ⟨_, rfl, _, _, _, _, true, rfl, ClsV.ty _, TyX.base (.tup m2), kit_ty (by decide +kernel), rfl, false, by rw [decide_eq_true rfl]; rfl, iteF ?_⟩
          refine ⟨_, rfl, by show 2 ≤ sizeLine; decide, fun tp htp => ?_⟩
          have O1 := O.new (o := .tup [.ty "tuple", .ty "list"]) htp
          refine ⟨_, tp, _, _, [.type "tuple", .type "list"], true, rfl, O1.a0, ?_, TyX.base (.tup (O1.tail.mem h1)), ?_, _, rfl, iteF ?_⟩
          · exact .cons (ClsV.ty _) (.cons (ClsV.ty _) .nil)
          · exact kit_anytup
          replace O1 := O1.tail
          generalize upd H tp _ = H1 at O1 ⊢
          refine ⟨_, rfl, a1, _, rfl, .inr (SqT.of (O1.mem h1)), _, rfl, a2, _, rfl, .inr (SqT.of (O1.mem h2)), rfl, false, by rw [e1, e2, decide_eq_true rfl]; rfl, iteF ?_⟩
          refine ⟨_, rfl, a2, _, rfl, .inr (SqT.of (O1.mem h2)), (xs2.length : Int), rfl, by omega, by omega, fun D hD => ?_⟩
          refine lc_range (lo := 0) (n := xs2.length) (fun i H' => Own H' ((D, .lst []) :: L)) (O1.new hD) ?_ ?_
          · rintro i H2 hi O2
            have ei : (0 : Int) + (i : Int) = ((i : Nat) : Int) := by omega
            rw [ei]
            obtain ⟨d, hdi⟩ : ∃ d, ds[i]? = some d := ⟨_, List.getElem?_eq_getElem (by omega)⟩
            obtain ⟨v1, hv1, p1⟩ := r1.get' hdi
            obtain ⟨v2, hv2, p2⟩ := r2.get' hdi
            have hs : ∀ c ∈ L, c ∈ (D, HO.lst []) :: L := fun c hc => List.mem_cons_of_mem _ hc
            exact ⟨rfl, _, rfl, _, rfl, .inr ⟨a1, _, _, v1, rfl, rfl, SqT.of (O2.mem (hs _ h1)), atI_nat hv1, _, rfl, _, rfl, .inr ⟨a2, _, _, v2, rfl, rfl, SqT.of (O2.mem (hs _ h2)), atI_nat hv2, v1, v2, d, _, rfl, p1.mono hs, p2.mono hs, hd2 d (List.mem_of_getElem? hdi), O2, fun H3 O3 => ⟨_, rfl, iteF O3⟩⟩⟩⟩
          · intro H2 O2
            refine ⟨by show 0 ≤ sizeLine; decide, fun e he => ?_⟩
            have O3 := O2.new (o := .lst []) he
            refine ⟨.list [], .list [], .lst (SqL.of O3.a1) .nil, .lst (SqL.of O3.a0) .nil, sh0, sh0, ?_⟩
            have ee : PyData.eqv (.list []) (.list []) = true := by decide +kernel
            rw [ee]
            exact k _ O3.tail.tail
end
-- WwLy
/-! ### data that can be compared -/
def dD : Deed → PyData
  | .look h p => .tuple [.str "look", .int (h : Nat), .int (p : Nat)]
  | .set h p v => .tuple [.str "set", .int (h : Nat), .int (p : Nat), .int v]
theorem lay_look : PyData.canLay0 (.str "look") = true := by decide +kernel
theorem lay_set : PyData.canLay0 (.str "set") = true := by decide +kernel
theorem lay_bk (b : Bool) : PyData.canLay0 (.str (sBk b)) = true := by cases b <;> decide +kernel
theorem lay_in (b : Bool) : PyData.canLay0 (.str (sIn b)) = true := by cases b <;> decide +kernel
theorem lay_lt (b : Bool) : PyData.canLay0 (.str (sLt b)) = true := by cases b <;> decide +kernel
theorem dD_lay (d : Deed) : (dD d).canLay0 = true ∧ (dD d).depth ≤ 1 := by
  cases d with
  | look h p =>
    refine ⟨?_, Nat.le_refl _⟩
    show (PyData.canLay0 (.str "look") && _) = true
    rw [lay_look]
    rfl
  | set h p v =>
    refine ⟨?_, Nat.le_refl _⟩
    show (PyData.canLay0 (.str "set") && _) = true
    rw [lay_set]
    rfl
theorem dD_dp {N : List Cell} {a : Addr} (d : Deed) (h : (a, HO.tup d.vs) ∈ N) : DpL N (.ref a) (dD d) := by
  cases d with
  | look hh p => exact .tup h (.cons (.str _) (.cons (.int _) (.cons (.int _) .nil)))
  | set hh p v => exact .tup h (.cons (.str _) (.cons (.int _) (.cons (.int _) (.cons (.int _) .nil))))
theorem deeds_dp {N : List Cell} : ∀ {as : List Addr} {ds : List Deed}, TA N as (ds.map Deed.vs) → DpsL N (as.map V.ref) (ds.map dD)
  | [], [], _ => .nil
  | [], _ :: _, h => h.elim
  | _ :: _, [], h => h.elim
  | a :: as, d :: ds, h => .cons (dD_dp d h.1) (deeds_dp h.2)
theorem deeds_shaped (ds : List Deed) : SeqAt.shaped (.list (ds.map dD)) = true := by
  obtain ⟨h1, h2⟩ := layL (xs := ds) fun d _ => dD_lay d
  exact shaped_of h1 (by omega)
def ruD (u : Rul) : PyData := .tuple [.int (u.s : Nat), .int (u.w : Nat), .str (sBk u.bk), .str (sIn u.inn), .str (sLt u.lt)]
theorem ruD_lay (u : Rul) : (ruD u).canLay0 = true ∧ (ruD u).depth ≤ 1 := by
  refine ⟨?_, Nat.le_refl _⟩
  show (true && (true && (PyData.canLay0 (.str (sBk u.bk)) && (PyData.canLay0 (.str (sIn u.inn)) && (PyData.canLay0 (.str (sLt u.lt)) && true))))) = true
  rw [lay_bk, lay_in, lay_lt]
  rfl
theorem rules_dp {N : List Cell} : ∀ {as : List Addr} {us : List Rul}, RA N as us → DpsL N (as.map V.ref) (us.map ruD)
  | [], [], _ => .nil
  | [], _ :: _, h => h.elim
  | _ :: _, [], h => h.elim
  | a :: as, u :: us, h => .cons (.tup h.1 (.cons (.int _) (.cons (.int _) (.cons (.str _) (.cons (.str _) (.cons (.str _) .nil)))))) (rules_dp h.2)
theorem rules_shaped (us : List Rul) : SeqAt.shaped (.list (us.map ruD)) = true := by
  obtain ⟨h1, h2⟩ := layL (xs := us) fun u _ => ruD_lay u
  exact shaped_of h1 (by omega)
theorem alD_ints {n : Nat} {ns : List Int} (h : ns.length ≤ 100000) : AlD (n + 2) (.list (ns.map .int)) := ⟨by rw [List.length_map]; exact h, fun d hd => by
  obtain ⟨i, _, rfl⟩ := List.mem_map.mp hd
  trivial⟩
theorem alD_intsT {n : Nat} {ns : List Int} (h : ns.length ≤ 100000) : AlD (n + 2) (.tuple (ns.map .int)) := ⟨by rw [List.length_map]; exact h, fun d hd => by
  obtain ⟨i, _, rfl⟩ := List.mem_map.mp hd
  trivial⟩
-- WwRp
/-! ### rules and deeds that words write -/
theorem inV_2 {c : V} (h : OkF c) {a b : Str} (e : inV c [.str a, .str b] = true) : c = .str a ∨ c = .str b := by
  obtain ⟨x, hx, e⟩ := List.any_eq_true.mp e
  simp only [List.mem_cons, List.not_mem_nil, or_false] at hx
  cases h with
  | int i =>
    rcases hx with z | z <;> rw [z] at e <;> cases e
  | non =>
    rcases hx with z | z <;> rw [z] at e <;> cases e
  | str s =>
    rcases hx with z | z <;> rw [z] at e
    · exact .inl (by rw [show a = s from eq_of_beq e])
    · exact .inr (by rw [show b = s from eq_of_beq e])
theorem inV_3 {i : Int} (e : inV (.int i) [.int 1, .int 2, .int 4] = true) : i = 1 ∨ i = 2 ∨ i = 4 := by
  rw [show inV (.int i) [.int 1, .int 2, .int 4] = inV (.int i) ([1, 2, 4].map V.int) from rfl, inV_is] at e
  have := of_decide_eq_true e
  simpa using this
theorem num_of {x : V} {lo hi : Int} (e : numIn x lo hi = true) : ∃ i : Int, x = .int i ∧ lo ≤ i ∧ i ≤ hi := by
  cases x with
  | int i => exact ⟨i, rfl, (of_decide_eq_true e).1, (of_decide_eq_true e).2⟩
  | _ => cases e
theorem rule_shape {xs : List V} (hf : ∀ x ∈ xs, OkF x) (h : ruleB xs = true) : ∃ u : Rul, RulOk u ∧ xs = u.vs := by
  unfold ruleB at h
  split at h
  · rename_i a b c d e
    obtain ⟨h1, h⟩ := He.ba h
    obtain ⟨h2, h⟩ := He.ba h
    obtain ⟨h3, h⟩ := He.ba h
    obtain ⟨h4, h⟩ := He.ba h
    obtain ⟨h5, h6⟩ := He.ba h
    obtain ⟨i, rfl, _, _⟩ := num_of h1
    obtain ⟨j, rfl, hj1, hj4⟩ := num_of h3
    have hi := inV_3 h2
    have hc := inV_2 (hf c (by simp)) h4
    have hd := inV_2 (hf d (by simp)) h5
    have he := inV_2 (hf e (by simp)) h6
    obtain ⟨bk, hbk⟩ : ∃ bk : Bool, c = .str (sBk bk) := by
      rcases hc with z | z
      · exact ⟨false, z⟩
      · exact ⟨true, z⟩
    obtain ⟨inn, hin⟩ : ∃ inn : Bool, d = .str (sIn inn) := by
      rcases hd with z | z
      · exact ⟨true, z⟩
      · exact ⟨false, z⟩
    obtain ⟨lt, hlt⟩ : ∃ lt : Bool, e = .str (sLt lt) := by
      rcases he with z | z
      · exact ⟨false, z⟩
      · exact ⟨true, z⟩
    refine ⟨⟨i.toNat, j.toNat, bk, inn, lt⟩, ⟨by show i.toNat = 1 ∨ i.toNat = 2 ∨ i.toNat = 4; omega, by show 1 ≤ j.toNat; omega, by show j.toNat ≤ 4; omega⟩, ?_⟩
    show _ = [V.int ((i.toNat : Nat) : Int), .int ((j.toNat : Nat) : Int), .str (sBk bk), .str (sIn inn), .str (sLt lt)]
    rw [hbk, hin, hlt, Int.toNat_of_nonneg (by omega), Int.toNat_of_nonneg (by omega)]
  · cases h
theorem deed_shape {m : Nat} {xs : List V} (h : deedB (m : Int) xs = true) : ∃ d : Deed, d.ok m ∧ xs = d.vs := by
  unfold deedB at h
  split at h
  · rename_i a b c
    obtain ⟨h1, h⟩ := He.ba h
    obtain ⟨h2, h3⟩ := He.ba h
    obtain ⟨i, rfl, hi1, hi2⟩ := num_of h1
    obtain ⟨j, rfl, hj1, hj2⟩ := num_of h2
    have ha : a = .str "look" := of_decide_eq_true h3
    refine ⟨.look i.toNat j.toNat, ⟨by omega, by omega⟩, ?_⟩
    show _ = [V.str "look", .int ((i.toNat : Nat) : Int), .int ((j.toNat : Nat) : Int)]
    rw [ha, Int.toNat_of_nonneg hi1, Int.toNat_of_nonneg hj1]
  · rename_i a b c d
    obtain ⟨h1, h⟩ := He.ba h
    obtain ⟨h2, h⟩ := He.ba h
    obtain ⟨h3, h4⟩ := He.ba h
    obtain ⟨i, rfl, hi1, hi2⟩ := num_of h1
    obtain ⟨j, rfl, hj1, hj2⟩ := num_of h2
    obtain ⟨v, rfl, hv1, hv2⟩ := num_of h4
    have ha : a = .str "set" := of_decide_eq_true h3
    refine ⟨.set i.toNat j.toNat v, ⟨by omega, by omega, hv1, hv2⟩, ?_⟩
    show _ = [V.str "set", .int ((i.toNat : Nat) : Int), .int ((j.toNat : Nat) : Int), .int v]
    rw [ha, Int.toNat_of_nonneg hi1, Int.toNat_of_nonneg hj1]
  · cases h
def decR : List V → Option Rul
  | [.int s, .int w, .str b, .str i, .str l] => some ⟨s.toNat, w.toNat, decide (b = "back"), decide (i = "in"), decide (l = "late")⟩
  | _ => none
theorem decR_vs (u : Rul) : decR u.vs = some u := by
  obtain ⟨s, w, b, i, l⟩ := u
  cases b <;> cases i <;> cases l <;> (show some _ = some _; congr 1)
def decD : List V → Option Deed
  | [.str _, .int h, .int p] => some (.look h.toNat p.toNat)
  | [.str _, .int h, .int p, .int v] => some (.set h.toNat p.toNat v)
  | _ => none
theorem decD_vs (d : Deed) : decD d.vs = some d := by
  cases d <;> rfl
def ruleP (ws : List Str) : Option Rul := (ruleW ws).bind decR
def deedP (ws : List Str) : Option Deed := (deedW ws).bind decD
theorem ruleP_ok (ws : List Str) : (ruleW ws = none ∧ ruleP ws = none) ∨ ∃ u : Rul, RulOk u ∧ ruleW ws = some u.vs ∧ ruleP ws = some u := by
  cases e : ruleW ws with
  | none => exact .inl ⟨rfl, by unfold ruleP; rw [e]; rfl⟩
  | some xs =>
    have hs : (∀ x ∈ xs, OkF x) ∧ ruleB xs = true := by
      unfold ruleW at e
      split at e
      · split at e
        · rename_i hh
          obtain rfl := Option.some.inj e
          refine ⟨fun x hx => ?_, hh.2⟩
          simp only [List.mem_cons, List.not_mem_nil, or_false] at hx
          rcases hx with z | z | z | z | z <;> rw [z]
          · exact numOf_ok _
          · exact numOf_ok _
          · exact .str _
          · exact .str _
          · exact .str _
        · cases e
      · cases e
    obtain ⟨u, hu, rfl⟩ := rule_shape hs.1 hs.2
    exact .inr ⟨u, hu, rfl, by unfold ruleP; rw [e]; exact decR_vs u⟩
theorem deedP_ok (ws : List Str) : (deedW ws = none ∧ deedP ws = none) ∨ ∃ d : Deed, d.ok 3 ∧ deedW ws = some d.vs ∧ deedP ws = some d := by
  cases e : deedW ws with
  | none => exact .inl ⟨rfl, by unfold deedP; rw [e]; rfl⟩
  | some xs =>
    have hs : deedB ((3 : Nat) : Int) xs = true := by
      unfold deedW at e
      split at e
      · cases e
      · split at e
        · rename_i hh
          obtain rfl := Option.some.inj e
          exact hh.2
        · cases e
    obtain ⟨d, hd, rfl⟩ := deed_shape hs
    exact .inr ⟨d, hd, rfl, by unfold deedP; rw [e]; exact decD_vs d⟩
/-- rows of words, read -/
def rdGo : List (List Str) → List Rul → List Deed → Nat → Nat ⊕ (List Rul × List Deed)
  | [], us, ds, _ => .inr (us, ds)
  | ws :: more, us, ds, i => match (if ds.isEmpty = true ∧ us.length < 3 then ruleP ws else none) with
    | some u => rdGo more (us ++ [u]) ds (i + 1)
    | none => match (if us.isEmpty = false ∧ ds.length < 200 then deedP ws else none) with
      | some d => rdGo more us (ds ++ [d]) (i + 1)
      | none => .inl i
def rowsOf (x : Str) : List (List Str) := (Txt.split x "\n").map fun l => Txt.split l " "
-- WwWr
/-! ### written -/
/-- str(part) -/
def partS : V → Str
  | .int i => Str.ofString (toString i)
  | .str x => x
  | _ => Str.empty
def rowR (u : Rul) : Str := Txt.join " " (("room" : Str) :: u.vs.map partS : List Str)
def rowD (d : Deed) : Str := Txt.join " " (d.vs.map partS)
def textOf (us : List Rul) (ds : List Deed) : Str := Txt.join "\n" (us.map rowR ++ ds.map rowD)
def PartOk (x : V) : Prop := (∃ i : Int, x = .int i ∧ 0 ≤ i ∧ i < 1000) ∨ ∃ s : Str, x = .str s ∧ s.length ≤ 7
theorem PartOk.len {x : V} (h : PartOk x) : (partS x).length ≤ 7 := by
  rcases h with ⟨i, rfl, h0, h1⟩ | ⟨s, rfl, h⟩
  · have e := int_text_length_le10 (a := i) (k := 3) (by decide) (by omega)
    show (Str.ofString (toString i)).length ≤ 7
    rw [PySem.ofString_length]
    omega
  · exact h
theorem sBk_len (b : Bool) : (sBk b).length ≤ 7 := by cases b <;> decide +kernel
theorem sIn_len (b : Bool) : (sIn b).length ≤ 7 := by cases b <;> decide +kernel
theorem sLt_len (b : Bool) : (sLt b).length ≤ 7 := by cases b <;> decide +kernel
theorem rul_parts {u : Rul} (hu : RulOk u) : ∀ x ∈ u.vs, PartOk x := fun x hx => by
  unfold Rul.vs at hx
  simp only [List.mem_cons, List.not_mem_nil, or_false] at hx
  have hs := hu.s
  have hw := hu.w4
  rcases hx with e | e | e | e | e <;> rw [e]
  · exact .inl ⟨_, rfl, by omega, by omega⟩
  · exact .inl ⟨_, rfl, by omega, by omega⟩
  · exact .inr ⟨_, rfl, sBk_len _⟩
  · exact .inr ⟨_, rfl, sIn_len _⟩
  · exact .inr ⟨_, rfl, sLt_len _⟩
theorem deed_parts {d : Deed} (hd : d.ok 3) : ∀ x ∈ d.vs, PartOk x := fun x hx => by
  cases d with
  | look h p =>
    obtain ⟨h1, h2⟩ := hd
    have hx : x ∈ [V.str "look", .int (h : Nat), .int (p : Nat)] := hx
    simp only [List.mem_cons, List.not_mem_nil, or_false] at hx
    rcases hx with e | e | e <;> rw [e]
    · exact .inr ⟨_, rfl, by decide +kernel⟩
    · exact .inl ⟨_, rfl, by omega, by omega⟩
    · exact .inl ⟨_, rfl, by omega, by omega⟩
  | set h p v =>
    obtain ⟨h1, h2, h3, h4⟩ := hd
    have hx : x ∈ [V.str "set", .int (h : Nat), .int (p : Nat), .int v] := hx
    simp only [List.mem_cons, List.not_mem_nil, or_false] at hx
    rcases hx with e | e | e | e <;> rw [e]
    · exact .inr ⟨_, rfl, by decide +kernel⟩
    · exact .inl ⟨_, rfl, by omega, by omega⟩
    · exact .inl ⟨_, rfl, by omega, by omega⟩
    · exact .inl ⟨_, rfl, by omega, by omega⟩
theorem joinL_len (S : List Nat) : ∀ ps : List (List Nat), (TL.joinL S ps).length ≤ (ps.map List.length).sum + ps.length * S.length
  | [] => Nat.zero_le _
  | [p] => by
    show p.length ≤ _
    simp
  | p :: q :: r => by
    have ih := joinL_len S (q :: r)
    show (p ++ (S ++ TL.joinL S (q :: r))).length ≤ ((p :: q :: r).map List.length).sum + (r.length + 1 + 1) * S.length
    rw [List.length_append, List.length_append, List.map_cons, List.sum_cons, Nat.add_mul, Nat.one_mul]
    have e : (q :: r).length = r.length + 1 := rfl
    rw [e] at ih
    omega
theorem join_len (y : Str) (ps : List Str) : (Txt.join y ps).length ≤ (ps.map (·.length)).sum + ps.length * y.length := by
  rw [TL.join_eq, TL.len_tl, TL.tl_join]
  refine Nat.le_trans (joinL_len _ _) ?_
  rw [List.length_map, TL.len_tl y, List.map_map]
  have e : ps.map (List.length ∘ TL.tl) = ps.map (·.length) := List.map_congr_left fun x _ => (TL.len_tl x).symm
  rw [e]
  exact Nat.le_refl _
theorem sum_le {xs : List Str} {m : Nat} (h : ∀ x ∈ xs, x.length ≤ m) : (xs.map (·.length)).sum ≤ xs.length * m := by
  induction xs with
  | nil => exact Nat.zero_le _
  | cons a xs ih =>
    have h1 := h a List.mem_cons_self
    have h2 := ih fun x hx => h x (List.mem_cons_of_mem _ hx)
    rw [List.map_cons, List.sum_cons, List.length_cons, Nat.add_mul, Nat.one_mul]
    omega
theorem row_len {xs : List V} (h : ∀ x ∈ xs, PartOk x) (hl : xs.length ≤ 5) : (Txt.join " " (xs.map partS)).length ≤ 40 ∧ (Txt.join " " ("room" :: xs.map partS)).length ≤ 48 := by
  have hb : ∀ x ∈ xs.map partS, x.length ≤ 7 := fun x hx => by
    obtain ⟨y, hy, rfl⟩ := List.mem_map.mp hx
    exact (h y hy).len
  have h1 := join_len " " (xs.map partS)
  have h2 := join_len " " ("room" :: xs.map partS)
  have h3 := sum_le hb
  have e1 : (Str.ofString " ").length = 1 := by decide +kernel
  have e2 : (Str.ofString "room").length = 4 := by decide +kernel
  rw [List.length_map] at h1 h3
  rw [List.map_cons, List.sum_cons, List.length_cons, List.length_map] at h2
  rw [e1] at h1 h2
  rw [e2] at h2
  omega
theorem parts_go {K : PySem.W.Frag} {s : Nat} {p : Addr} {a0 a1 a2 a3 a4 a5 : Option V} {H : Hp} {Q : VK} {xs : List V} {L : List Cell} (hs : ([a0, a1, a2, a3, a4, a5] : List (Option V))[s]? = some (some (.ref p))) (hp : (p, HO.tup xs) ∈ L) (hx : ∀ x ∈ xs, PartOk x) (hl : xs.length ≤ 5) (O : Own H L)
    (k : ∀ (D : Addr) (H' : Hp), Own H' ((D, .lst ((xs.map partS).map V.str)) :: L) → Q (.ref D) H') :
    tLc (iTup K (tVar s)) (gName 5) tYes (tCB rStrF (tCons (tVar 5) tNil)) [5] [a0, a1, a2, a3, a4, a5] H Q := by
  refine ⟨_, hs, p, rfl, ⟨_, SqT.of (O.mem hp)⟩, fun D hD => ?_⟩
  refine lc_tup (K := K) (a := p) (xs := xs) (fun i H' => Own H' ((D, .lst (((xs.take i).map partS).map V.str)) :: L)) (O.new hD) (fun i H' _ O' => SqT.of (O'.mem (List.mem_cons_of_mem _ hp))) ?_ ?_
  · rintro i y H1 hi O1
    have hil : i < xs.length := (List.getElem?_eq_some_iff.mp hi).1
    have fin : ∀ z, partS y = z → ∃ acc, H1 D = some (.lst acc) ∧ acc.length < sizeLine ∧ Own (upd H1 D (.lst (acc ++ [.str z]))) ((D, .lst (((xs.take (i + 1)).map partS).map V.str)) :: L) := fun z hz => by
      refine ⟨_, O1.a0, by rw [List.length_map, List.length_map, List.length_take]; exact size1 (by omega), ?_⟩
      rw [take_snoc hi, List.map_append, List.map_append, ← hz]
      exact O1.set
    refine ⟨rfl, tYes_go (iteT ⟨_, rfl, ?_⟩)⟩
    rcases hx y (List.mem_of_getElem? hi) with ⟨j, rfl, h0, h1⟩ | ⟨z, rfl, hz⟩
    · exact .inl ⟨j, rfl, log60 (by omega), fin _ rfl⟩
    · exact .inr ⟨z, rfl, fin _ rfl⟩
  · intro H1 O1
    rw [List.take_length] at O1
    exact k D H1 O1
def spWritten (K : PySem.W.Frag) : Sp := fun vs H Q E => ∃ (pr pd : Addr) (ras das : List Addr) (xss yss : List (List V)) (R : List Cell), vs = [.ref pr, .ref pd] ∧ (pr, HO.lst (ras.map V.ref)) ∈ R ∧ TA R ras xss ∧ (∀ xs ∈ xss, FlatX xs) ∧ xss.length ≤ 100000 ∧ (pd, HO.lst (das.map V.ref)) ∈ R ∧ TA R das yss ∧ (∀ xs ∈ yss, FlatX xs) ∧ yss.length ≤ 100000 ∧ Own H R ∧
  (∀ i, RuleBad xss i ∨ (xss = [] ∧ i = 0) → ∀ (d : Addr) (H' : Hp), Own H' ((d, .xd [("number", .int (i : Nat))]) :: R) → E (.ref (He.ga K "BadRule")) (some d) H') ∧
  (xss ≠ [] → (∀ i, i < xss.length → RuleAt xss i) → ∀ i, DeedBad 3 yss i → ∀ (d : Addr) (H' : Hp), Own H' ((d, .xd [("number", .int (i : Nat))]) :: R) → E (.ref (He.ga K "BadDeed")) (some d) H') ∧
  (xss ≠ [] → (∀ i, i < xss.length → RuleAt xss i) → (∀ i, i < yss.length → DeedAt 3 yss i) → ∃ (us : List Rul) (ds : List Deed), xss = us.map Rul.vs ∧ yss = ds.map Deed.vs ∧ (∀ u ∈ us, RulOk u) ∧ us.length ≤ 3 ∧ (∀ d ∈ ds, d.ok 3) ∧ ds.length ≤ 200 ∧ ∀ H', Own H' R → Q (.str (textOf us ds)) H')
section
variable {P : Program} {w : World} {K : PySem.W.Frag} {mg : Str → Option Value} {base : Heap} {n lv : Nat}
theorem ok_written (T : Txt K mg) : FnOk P w K mg base (L2.CX P w) 5 (He.fAd K ("written", none)) T.fd_written ["rules", "deeds"] (spWritten K) := by
  have G_need_rules := ok_need_rulesX (P := P) (w := w) (base := base) T
  have G_need_deeds := ok_need_deedsX (P := P) (w := w) (base := base) T
  refine okX T.F_written sc_written (fun vs H Q E h => ?_) (fun cdv A outer s H vs Q E hr h => ?_)
  · obtain ⟨_, _, _, _, _, _, _, rfl, _⟩ := h
    rfl
  · obtain ⟨pr, pd, ras, das, xss, yss, R, rfl, hpr, hra, hxf, hxl, hpd, hda, hyf, hyl, O, k1, k2, k3⟩ := h
    refine ⟨_, (pss_cons (ps_expr (pe_call G_need_rules (hr.mono (by omega)) rfl T.g_need_rules T.k_need_rules T.b_need_rules .nil (passes_call (takes_of rfl rfl rfl rfl) fun _ _ _ _ z => z) (pa_cons (pv 0) pa_nil))) (pss_cons (ps_expr (pe_call G_need_deeds (hr.mono (by omega)) rfl T.g_need_deeds T.k_need_deeds T.b_need_deeds .nil (passes_call (takes_of rfl rfl rfl rfl) fun _ _ _ _ z => z) (pa_cons (pv 1) (pa_cons (pe_globI rfl T.g_MOST_HANDS) pa_nil)))) (pss_cons (ps_setLc (i := 2) (te := (tM1 (rJoin K) (tC (.str " ")) (tOp rCat (tLst (tCons (tC (.str "room")) tNil)) (tLc (iTup K (tVar 3)) (gName 5) tYes (tCB rStrF (tCons (tVar 5) tNil)) [5])))) (own := [("rule", 3)]) (by rfl) sc_written.nd rfl rfl (sw_true rfl rfl rfl (by decide +kernel)) (pi_list (pv 0)) (blkOk_by (own := [("rule", 3)]) (by kernel_rfl)) (fun _ _ _ _ _ => (pg_name (i := 3) sc_written.nd rfl (Or.inl rfl))) (fun _ _ _ _ _ => pts_nil) (fun _ _ _ _ _ => (pe_join pe_str (pe_op op_cat (pe_lst (pa_cons (pe_globS rfl T.g_ROOM) pa_nil)) (pe_lc (te := (tCB rStrF (tCons (tVar 5) tNil))) (own := [("part", 5)]) (by rfl) sc_written.nd (pi_tup (pv 3)) (blkOk_by (own := [("part", 5)]) (by kernel_rfl)) (fun _ _ _ _ _ => (pg_name (i := 5) sc_written.nd rfl (Or.inl rfl))) (fun _ _ _ _ _ => pts_nil) (fun _ _ _ _ _ => (pe_callTy call_strF (by rfl) T.n_str (by decide +kernel) (pa_cons (pv 5) pa_nil)))))))) (pss_cons (ps_expr (pe_bm PySem.F.plainAttrs_list PySem.F.slot_list_extend PySem.F.type_list_extend mt_extend (pv 2) (pa_cons (pe_lc (te := (tM1 (rJoin K) (tC (.str " ")) (tLc (iTup K (tVar 4)) (gName 5) tYes (tCB rStrF (tCons (tVar 5) tNil)) [5]))) (own := [("deed", 4)]) (by rfl) sc_written.nd (pi_list (pv 1)) (blkOk_by (own := [("deed", 4)]) (by kernel_rfl)) (fun _ _ _ _ _ => (pg_name (i := 4) sc_written.nd rfl (Or.inl rfl))) (fun _ _ _ _ _ => pts_nil) (fun _ _ _ _ _ => (pe_join pe_str (pe_lc (te := (tCB rStrF (tCons (tVar 5) tNil))) (own := [("part", 5)]) (by rfl) sc_written.nd (pi_tup (pv 4)) (blkOk_by (own := [("part", 5)]) (by kernel_rfl)) (fun _ _ _ _ _ => (pg_name (i := 5) sc_written.nd rfl (Or.inl rfl))) (fun _ _ _ _ _ => pts_nil) (fun _ _ _ _ _ => (pe_callTy call_strF (by rfl) T.n_str (by decide +kernel) (pa_cons (pv 5) pa_nil))))))) pa_nil))) (pss_one (ps_ret (pe_join pe_str (pv 2)))))))), ?_⟩
    refine ⟨_, rfl, pr, ras, xss, R, rfl, hpr, hra, hxf, hxl, O, k1, fun hne hrok H1 O1 => ?_⟩
    refine ⟨_, rfl, pd, 3, das, yss, R, rfl, hpd, hda, hyf, hyl, O1, k2 hne hrok, fun hdok H2 O2 => ?_⟩
    obtain ⟨us, ds, rfl, rfl, hus, husl, hds, hdsl, k⟩ := k3 hne hrok hdok
    have hasl := hra.len
    have hdsl2 := hda.len
    rw [List.length_map] at hasl hdsl2
    have e1 : (Str.ofString " ").length = 1 := by decide +kernel
    have e2 : (Str.ofString "room").length = 4 := by decide +kernel
    -- rows of rules
    refine ⟨_, rfl, pr, rfl, ⟨_, SqL.of (O2.mem hpr)⟩, fun D hD => ?_⟩
    refine lc_list (K := K) (a := pr) (xs := ras.map V.ref) (fun i H' => Own H' ((D, .lst (((us.take i).map rowR).map V.str)) :: R)) (O2.new hD) (fun i H' _ O' => SqL.of (O'.mem (List.mem_cons_of_mem _ hpr))) ?_ ?_
    · rintro i y H3 hi O3
      rw [List.getElem?_map] at hi
      cases ha : ras[i]? with
      | none =>
        rw [ha] at hi
        cases hi
      | some a =>
        rw [ha] at hi
        obtain rfl : V.ref a = y := Option.some.inj hi
        obtain ⟨xs, hx1, hx2⟩ := hra.get ha
        rw [List.getElem?_map] at hx1
        cases hu : us[i]? with
        | none =>
          rw [hu] at hx1
          cases hx1
        | some u =>
          rw [hu] at hx1
          obtain rfl : u.vs = xs := Option.some.inj hx1
          have hil : i < us.length := (List.getElem?_eq_some_iff.mp hu).1
          have hpk := rul_parts (hus u (List.mem_of_getElem? hu))
          refine ⟨rfl, tYes_go (iteT ⟨⟨_, rfl⟩, by show 1 ≤ sizeLine; decide, fun q1 hq1 => ?_⟩)⟩
          have O4 := O3.new (o := .lst ((["room"] : List Str).map V.str)) hq1
          refine parts_go (s := 3) rfl (by simp [hx2]) hpk (Nat.le_refl 5) O4 fun q2 H4 O5 => ?_
          refine ⟨q1, q2, _, _, rfl, rfl, O5.a1, O5.a0, by show 1 + 5 ≤ sizeLine; decide, fun q3 hq3 => ?_⟩
          have O6 := O5.new (o := .lst ((("room" : Str) :: u.vs.map partS : List Str).map V.str)) hq3
          have hb : ∀ x ∈ (("room" : Str) :: u.vs.map partS : List Str), x.length ≤ 7 := fun x hx => by
            rcases List.mem_cons.mp hx with e | hx
            · rw [e, e2]
              decide
            · obtain ⟨y, hy, rfl⟩ := List.mem_map.mp hx
              exact (hpk y hy).len
          have hsum := sum_le hb
          have hl6 : (("room" : Str) :: u.vs.map partS : List Str).length = 6 := rfl
          rw [hl6] at hsum
          refine ⟨_, q3, (("room" : Str) :: u.vs.map partS : List Str), rfl, rfl, .inl (SqL.of O6.a0), by rw [hl6, e1]; omega, _, O6.mem (show (D, HO.lst (((us.take i).map rowR).map V.str)) ∈ _ by simp), by rw [List.length_map, List.length_map, List.length_take]; exact size1 (by omega), ?_⟩
          rw [take_snoc hu, List.map_append, List.map_append]
          exact ((O6.perm (L' := (D, .lst (((us.take i).map rowR).map V.str)) :: (q3, .lst ((("room" : Str) :: u.vs.map partS : List Str).map V.str)) :: (q2, .lst ((u.vs.map partS).map V.str)) :: (q1, .lst ((["room"] : List Str).map V.str)) :: R) (by walk_at "perm")).set).sub (List.Sublist.cons_cons _ (List.sublist_append_right [_, _, _] R))
    intro H3 O3
    rw [List.length_map, hasl, List.take_length] at O3
    -- rows of deeds
    refine ⟨_, rfl, .inl ⟨rfl, _, SqL.of O3.a0⟩, _, rfl, pd, rfl, ⟨_, SqL.of (O3.mem (List.mem_cons_of_mem _ hpd))⟩, fun D2 hD2 => ?_⟩
    refine lc_list (K := K) (a := pd) (xs := das.map V.ref) (fun i H' => Own H' ((D2, .lst (((ds.take i).map rowD).map V.str)) :: (D, .lst ((us.map rowR).map V.str)) :: R)) (O3.new hD2) (fun i H' _ O' => SqL.of (O'.mem (List.mem_cons_of_mem _ (List.mem_cons_of_mem _ hpd)))) ?_ ?_
    · rintro i y H4 hi O4
      rw [List.getElem?_map] at hi
      cases ha : das[i]? with
      | none =>
        rw [ha] at hi
        cases hi
      | some a =>
        rw [ha] at hi
        obtain rfl : V.ref a = y := Option.some.inj hi
        obtain ⟨xs, hx1, hx2⟩ := hda.get ha
        rw [List.getElem?_map] at hx1
        cases hd : ds[i]? with
        | none =>
          rw [hd] at hx1
          cases hx1
        | some d =>
          rw [hd] at hx1
          obtain rfl : d.vs = xs := Option.some.inj hx1
          have hil : i < ds.length := (List.getElem?_eq_some_iff.mp hd).1
          have hpk := deed_parts (hds d (List.mem_of_getElem? hd))
          have hdl : d.vs.length ≤ 5 := by cases d with | look h p => exact (by decide : 3 ≤ 5) | set h p v => exact (by decide : 4 ≤ 5)
          refine ⟨rfl, tYes_go (iteT ⟨⟨_, rfl⟩, ?_⟩)⟩
          refine parts_go (s := 4) rfl (by simp [hx2]) hpk hdl O4 fun q2 H5 O5 => ?_
          have hb : ∀ x ∈ d.vs.map partS, x.length ≤ 7 := fun x hx => by
            obtain ⟨y, hy, rfl⟩ := List.mem_map.mp hx
            exact (hpk y hy).len
          have hsum := sum_le hb
          rw [List.length_map] at hsum
          refine ⟨_, q2, d.vs.map partS, rfl, rfl, .inl (SqL.of O5.a0), by rw [List.length_map, e1]; omega, _, O5.a1, by rw [List.length_map, List.length_map, List.length_take]; exact size1 (by omega), ?_⟩
          rw [take_snoc hd, List.map_append, List.map_append]
          exact ((O5.perm (L' := (D2, .lst (((ds.take i).map rowD).map V.str)) :: (q2, .lst ((d.vs.map partS).map V.str)) :: (D, .lst ((us.map rowR).map V.str)) :: R) (by walk_at "perm")).set).sub (List.Sublist.cons_cons _ (List.sublist_append_right [_] _))
    intro H4 O4
    rw [List.length_map, hdsl2, List.take_length] at O4
    have O5 := O4.perm (L' := (D, .lst ((us.map rowR).map V.str)) :: (D2, .lst ((ds.map rowD).map V.str)) :: R) (by walk_at "perm")
    refine ⟨D, D2, _, _, rfl, rfl, O5.a0, O5.a1, by simp only [List.length_map]; exact Nat.le_of_lt (size1 (by omega)), ?_⟩
    have O6 := O5.set (o' := .lst ((us.map rowR ++ ds.map rowD).map V.str))
    rw [← List.map_append]
    have hrl : ∀ x ∈ us.map rowR ++ ds.map rowD, x.length ≤ 48 := fun x hx => by
      rcases List.mem_append.mp hx with h | h
      · obtain ⟨u, hu, rfl⟩ := List.mem_map.mp h
        exact (row_len (rul_parts (hus u hu)) (Nat.le_refl 5)).2
      · obtain ⟨d, hd, rfl⟩ := List.mem_map.mp h
        have := (row_len (deed_parts (hds d hd)) (by cases d with | look h p => exact (by decide : 3 ≤ 5) | set h p v => exact (by decide : 4 ≤ 5))).1
        exact Nat.le_trans this (by decide)
    have hsum := sum_le hrl
    have e3 : (Str.ofString "\n").length = 1 := by decide +kernel
    have hll : (us.map rowR ++ ds.map rowD).length ≤ 203 := by
      simp only [List.length_append, List.length_map]
      omega
    refine ⟨⟨_, rfl⟩, _, rfl, _, D, us.map rowR ++ ds.map rowD, rfl, rfl, .inl (SqL.of O6.a0), by rw [e3]; omega, k _ (O6.sub (List.sublist_append_right [_, _] R))⟩
end
-- WwBr
/-! ### rules that can't be -/
theorem rB5 {a b c d e : V} (h : numIn a 1 64 = false ∨ inV a [.int 1, .int 2, .int 4] = false ∨ numIn b 1 4 = false ∨ inV c [.str "through", .str "back"] = false ∨ inV d [.str "in", .str "by"] = false ∨ inV e [.str "first", .str "late"] = false) : ruleB [a, b, c, d, e] = false := by
  show (numIn a 1 64 && (inV a [.int 1, .int 2, .int 4] && (numIn b 1 4 && (inV c [.str "through", .str "back"] && (inV d [.str "in", .str "by"] && inV e [.str "first", .str "late"]))))) = false
  rcases h with h | h | h | h | h | h <;> rw [h] <;> simp
theorem in124 {i : Int} (h1 : i ≠ 1) (h2 : i ≠ 2) (h4 : i ≠ 4) : inV (.int i) [.int 1, .int 2, .int 4] = false := by
  show ((1 == i) || ((2 == i) || ((4 == i) || false))) = false
  rw [beq_eq_false_iff_ne.mpr (Ne.symm h1), beq_eq_false_iff_ne.mpr (Ne.symm h2), beq_eq_false_iff_ne.mpr (Ne.symm h4)]
  rfl
theorem rulB1 {u : Rul} (hu : RulOk u) : ruleB u.vs = true := by
  have h1 : numIn (.int u.s) 1 64 = true := decide_eq_true (by rcases hu.s with e | e | e <;> omega)
  have h2 : numIn (.int u.w) 1 4 = true := decide_eq_true (by have := hu.w0; have := hu.w4; omega)
  have h3 : inV (.int u.s) [.int 1, .int 2, .int 4] = true := by
    rcases hu.s with e | e | e <;> rw [e] <;> decide +kernel
  have h4 : inV (.str (sBk u.bk)) [.str "through", .str "back"] = true := by cases u.bk <;> decide +kernel
  have h5 : inV (.str (sIn u.inn)) [.str "in", .str "by"] = true := by cases u.inn <;> decide +kernel
  have h6 : inV (.str (sLt u.lt)) [.str "first", .str "late"] = true := by cases u.lt <;> decide +kernel
  show (numIn (.int u.s) 1 64 && (inV (.int u.s) [.int 1, .int 2, .int 4] && (numIn (.int u.w) 1 4 && (inV (.str (sBk u.bk)) [.str "through", .str "back"] && (inV (.str (sIn u.inn)) [.str "in", .str "by"] && inV (.str (sLt u.lt)) [.str "first", .str "late"]))))) = true
  rw [h1, h2, h3, h4, h5, h6]
  rfl
theorem rulFl (u : Rul) : FlatX u.vs := flatOf rfl (by show 5 ≤ 1000; decide)
theorem TA.take {R : List Cell} : ∀ {as : List Addr} {us : List (List V)} (i : Nat), TA R as us → TA R (as.take i) (us.take i)
  | [], [], i, _ => by simp; trivial
  | [], _ :: _, _, h => h.elim
  | _ :: _, [], _, h => h.elim
  | _ :: _, _ :: _, 0, _ => trivial
  | _ :: _, _ :: _, i + 1, h => ⟨h.1, TA.take i h.2⟩
theorem TA.drop {R : List Cell} : ∀ {as : List Addr} {us : List (List V)} (i : Nat), TA R as us → TA R (as.drop i) (us.drop i)
  | [], [], i, _ => by simp; trivial
  | [], _ :: _, _, h => h.elim
  | _ :: _, [], _, h => h.elim
  | _ :: _, _ :: _, 0, h => h
  | _ :: _, _ :: _, i + 1, h => TA.drop i h.2
theorem RA.toTA {N : List Cell} : ∀ {as : List Addr} {us : List Rul}, RA N as us → TA N as (us.map Rul.vs)
  | [], [], _ => trivial
  | [], _ :: _, h => h.elim
  | _ :: _, [], h => h.elim
  | _ :: _, _ :: _, h => ⟨h.1, RA.toTA h.2⟩
theorem rs_good {us : List Rul} (h : RulesOk us) : RsGood (us.map Rul.vs) := by
  have h1 := h.l1
  have h3 := h.l3
  refine ⟨fun z => ?_, fun i hi => ?_⟩
  · rw [List.map_eq_nil_iff.mp z] at h1
    cases h1
  · rw [List.length_map] at hi
    exact ⟨by omega, (us[i]).vs, by rw [List.getElem?_map, List.getElem?_eq_getElem hi]; rfl, rulB1 (h.ok _ (List.getElem_mem hi))⟩
/-- one rule spoilt, one more behind -/
theorem bad_one {us : List Rul} (h : RulesOk us) {i : Nat} (hi : i < us.length) {xs : List V} (hx : ruleB xs = false) {more : List (List V)} : RsBad ((us.map Rul.vs).take i ++ [xs] ++ more) i := by
  have hl : ((us.map Rul.vs).take i).length = i := by rw [List.length_take, List.length_map]; omega
  have h3 := h.l3
  refine .inl ⟨by simp; omega, fun ⟨_, ys, hy, hy2⟩ => ?_, fun j hj => ?_⟩
  · rw [List.append_assoc, List.getElem?_append_right (by omega), hl, Nat.sub_self] at hy
    obtain rfl : xs = ys := Option.some.inj hy
    rw [hx] at hy2
    cases hy2
  · obtain ⟨_, ys, hy, hy2⟩ := (rs_good h).2 j (by rw [List.length_map]; omega)
    refine ⟨by omega, ys, ?_, hy2⟩
    rw [List.append_assoc, List.getElem?_append_left (by omega), List.getElem?_take_of_lt hj]
    exact hy
theorem bad_four {us : List Rul} (h : RulesOk us) {k : Nat} (hk : 4 ≤ k) : RsBad (((us.map Rul.vs) ++ ((us.map Rul.vs) ++ ((us.map Rul.vs) ++ (us.map Rul.vs)))).take k) 3 := by
  have h1 := h.l1
  have h3 := h.l3
  have all : ∀ xs ∈ ((us.map Rul.vs) ++ ((us.map Rul.vs) ++ ((us.map Rul.vs) ++ (us.map Rul.vs)))), ruleB xs = true := fun xs hx => by
    have : xs ∈ us.map Rul.vs := by
      simp only [List.mem_append] at hx
      rcases hx with h | h | h | h <;> exact h
    obtain ⟨u, hu, rfl⟩ := List.mem_map.mp this
    exact rulB1 (h.ok u hu)
  have hl : (((us.map Rul.vs) ++ ((us.map Rul.vs) ++ ((us.map Rul.vs) ++ (us.map Rul.vs)))).take k).length ≥ 4 := by
    simp only [List.length_take, List.length_append, List.length_map]
    omega
  refine .inl ⟨by omega, fun z => by have := z.1; omega, fun j hj => ⟨hj, _, List.getElem?_eq_getElem (by omega), all _ (List.mem_of_mem_take (List.getElem_mem _))⟩⟩
def spBadR (K : PySem.W.Frag) : Sp := fun vs H Q _ => ∃ (rw rl : Addr) (S : List Cell) (c : Cell) (us : List Rul) (far : Int) (R : List Cell), vs = [.ref rw, .ref rl, .int far] ∧ 0 ≤ far ∧ RulesOk us ∧ RulesAt R rl us ∧ RowC K rw S c ∧ Own H (c :: (S ++ R)) ∧
  ∀ (t pb : Addr) (due : Nat) (as : List Addr) (xss : List (List V)) (N : List Cell) (c' : Cell) (H' : Hp), (t, HO.tup [.ref pb, .int (due : Nat)]) ∈ N → RowsAt (N ++ R) pb as xss → RsBad xss due → NT N → RowC K rw S c' → Own H' (c' :: (S ++ (N ++ R))) → Q (.ref t) H'
section
variable {P : Program} {w : World} {K : PySem.W.Frag} {mg : Str → Option Value} {base : Heap} {n lv : Nat}
theorem ok_bad_rules (T : Txt K mg) : FnOk P w K mg base CX0 2 (He.fAd K ("_law_bad_rules", none)) T.fd__law_bad_rules ["_law_row", "_law_rules_here", "_law_far"] (spBadR K) := by
  have G__law_taken := ok_taken (P := P) (w := w) (base := base) T
  refine okOf T.F__law_bad_rules sc__law_bad_rules (fun vs H Q E h => ?_) (fun cdv A outer s H vs Q E hr h => ?_)
  · obtain ⟨_, _, _, _, _, _, _, rfl, _⟩ := h
    rfl
  · obtain ⟨rw, rl, S, c, us, far, R, rfl, hf0, hus, ⟨ras, mrl, hra⟩, hc, O, k⟩ := h
    have hral := hra.len
    have hl1 := hus.l1
    have hl3 := hus.l3
    refine ⟨_, (pss_cons (ps_set (i := 3) sc__law_bad_rules.nd rfl (Or.inl rfl) (pe_call G__law_taken (hr.mono (by omega)) rfl T.g__law_taken T.k__law_taken T.b__law_taken .nil pass0 (pa_cons (pv 0) (pa_cons (pe_callB call_len_seq (by rfl) T.n_len PySem.boot_len (pa_cons (pv 1) pa_nil)) pa_nil)))) (pss_cons (ps_set (i := 4) sc__law_bad_rules.nd rfl (Or.inl rfl) (pe_ix ix_list (pv 1) (pv 3) (fun _ _ => rfl))) (pss_cons (ps_set (i := 5) sc__law_bad_rules.nd rfl (Or.inl rfl) (pe_lst (pa_cons (pe_op op_catA (pe_tup (pa_cons pe_int pa_nil)) (pe_slice sl_tup (pv 4) (po_some pe_int) po_none)) (pa_cons (pe_op op_catA (pe_tup (pa_cons pe_int pa_nil)) (pe_slice sl_tup (pv 4) (po_some pe_int) po_none)) (pa_cons (pe_op op_catA (pe_tup (pa_cons (pe_op op_add pe_int (pv 2)) pa_nil)) (pe_slice sl_tup (pv 4) (po_some pe_int) po_none)) (pa_cons (pe_op op_catA (pe_op op_catA (pe_slice sl_tup (pv 4) po_none (po_some pe_int)) (pe_tup (pa_cons (pe_op op_add pe_int (pv 2)) pa_nil))) (pe_slice sl_tup (pv 4) (po_some pe_int) po_none)) (pa_cons (pe_tup pa_nil) pa_nil))))))) (pss_cons (ps_set (i := 5) sc__law_bad_rules.nd rfl (Or.inl rfl) (pe_op op_cat (pv 5) (pe_lst (pa_cons (pe_op op_catA (pe_op op_catA (pe_slice sl_tup (pv 4) po_none (po_some pe_int)) (pe_tup (pa_cons pe_int pa_nil))) (pe_slice sl_tup (pv 4) (po_some pe_int) po_none)) (pa_cons (pe_op op_catA (pe_op op_catA (pe_slice sl_tup (pv 4) po_none (po_some pe_int)) (pe_tup (pa_cons pe_str pa_nil))) (pe_slice sl_tup (pv 4) (po_some pe_int) po_none)) (pa_cons (pe_op op_catA (pe_op op_catA (pe_slice sl_tup (pv 4) po_none (po_some pe_int)) (pe_tup (pa_cons pe_str pa_nil))) (pe_slice sl_tup (pv 4) (po_some pe_int) po_none)) pa_nil)))))) (pss_cons (ps_set (i := 5) sc__law_bad_rules.nd rfl (Or.inl rfl) (pe_op op_cat (pv 5) (pe_lst (pa_cons (pe_op op_catA (pe_slice sl_tup (pv 4) po_none (po_some pe_int)) (pe_tup (pa_cons pe_str pa_nil))) (pa_cons (pe_slice sl_tup (pv 4) po_none (po_some pe_int)) (pa_cons (pe_op op_catA (pv 4) (pe_tup (pa_cons pe_int pa_nil))) pa_nil)))))) (pss_cons (ps_set (i := 5) sc__law_bad_rules.nd rfl (Or.inl rfl) (pe_op op_cat (pv 5) (pe_lst (pa_cons (pe_op op_catA (pe_tup (pa_cons pe_str pa_nil)) (pe_slice sl_tup (pv 4) (po_some pe_int) po_none)) (pa_cons (pe_op op_catA (pe_op op_catA (pe_slice sl_tup (pv 4) po_none (po_some pe_int)) (pe_tup (pa_cons pe_int pa_nil))) (pe_slice sl_tup (pv 4) (po_some pe_int) po_none)) (pa_cons (pe_op op_catA (pe_op op_catA (pe_slice sl_tup (pv 4) po_none (po_some pe_int)) (pe_tup (pa_cons pe_str pa_nil))) (pe_slice sl_tup (pv 4) (po_some pe_int) po_none)) (pa_cons (pe_op op_catA (pe_tup (pa_cons pe_int pa_nil)) (pe_slice sl_tup (pv 4) (po_some pe_int) po_none)) pa_nil))))))) (pss_cons (ps_set (i := 5) sc__law_bad_rules.nd rfl (Or.inl rfl) (pe_op op_cat (pv 5) (pe_lst (pa_cons (pe_op op_catA (pe_tup (pa_cons pe_int pa_nil)) (pe_slice sl_tup (pv 4) (po_some pe_int) po_none)) (pa_cons (pe_op op_catA (pe_tup (pa_cons pe_int pa_nil)) (pe_slice sl_tup (pv 4) (po_some pe_int) po_none)) pa_nil))))) (pss_cons (ps_set (i := 6) sc__law_bad_rules.nd rfl (Or.inl rfl) (pe_op op_cat (pe_op op_cat (pe_op op_cat (pe_slice sl_list (pv 1) po_none (po_some (pv 3))) (pe_lst (pa_cons (pe_ix ix_list (pv 5) (pe_call G__law_taken (hr.mono (by omega)) rfl T.g__law_taken T.k__law_taken T.b__law_taken .nil pass0 (pa_cons (pv 0) (pa_cons pe_int pa_nil))) (fun _ _ => rfl)) pa_nil))) (pe_slice sl_list (pv 1) (po_some (pe_op op_add (pv 3) pe_int)) po_none)) (pe_lst (pa_cons (pe_tup pa_nil) pa_nil)))) (pss_one (ps_ret (pe_ix ix_list (pe_lst (pa_cons (pe_tup (pa_cons (pv 6) (pa_cons (pv 3) pa_nil))) (pa_cons (pe_tup (pa_cons (pv 6) (pa_cons (pv 3) pa_nil))) (pa_cons (pe_tup (pa_cons (pv 6) (pa_cons (pv 3) pa_nil))) (pa_cons (pe_tup (pa_cons (pe_lst pa_nil) (pa_cons pe_int pa_nil))) (pa_cons (pe_tup (pa_cons (pe_slice sl_list (pe_op op_rep (pv 1) pe_int) po_none (po_some (pe_op op_add pe_int (pe_op op_mod (pv 2) pe_int)))) (pa_cons pe_int pa_nil))) pa_nil)))))) (pe_call G__law_taken (hr.mono (by omega)) rfl T.g__law_taken T.k__law_taken T.b__law_taken .nil pass0 (pa_cons (pv 0) (pa_cons pe_int pa_nil))) (fun _ _ => rfl)))))))))))), ?_⟩
    refine ⟨_, rfl, _, rfl, rl, _, rfl, .inl (SqL.of (O.mem (List.mem_cons_of_mem _ (List.mem_append_right _ mrl)))), ?_⟩
    refine ⟨rw, S, c, _, R, rfl, hc, by rw [List.length_map]; omega, O, fun va c1 H1 ha0 ha1 hc1 O0 => ?_⟩
    rw [List.length_map] at ha1
    obtain ⟨at', rfl⟩ : ∃ a : Nat, va = (a : Int) := ⟨va.toNat, by omega⟩
    have hat : at' < us.length := by omega
    obtain ⟨u, hu⟩ : ∃ u, us[at']? = some u := ⟨_, List.getElem?_eq_getElem hat⟩
    obtain ⟨ra, hra1, mra⟩ := hra.get' hu
    have huo := hus.ok u (List.mem_of_getElem? hu)
    refine ⟨_, rfl, _, rfl, rl, _, _, .ref ra, rfl, rfl, SqL.of (O0.mem (List.mem_cons_of_mem _ (List.mem_append_right _ mrl))), atI_nat (by rw [List.getElem?_map, hra1]; rfl), ?_⟩
    have mru : (ra, HO.tup [.int u.s, .int u.w, .str (sBk u.bk), .str (sIn u.inn), .str (sLt u.lt)]) ∈ (c1 :: (S ++ R)) := List.mem_cons_of_mem _ (List.mem_append_right _ mra)
    refine ⟨by show 1 ≤ sizeLine; decide, fun r1 hr1 => ?_⟩
    replace O0 := O0.new (o := .tup [.int 3]) hr1
    refine ⟨_, rfl, 1, rfl, ra, _, rfl, SqT.of (O0.mem (List.mem_cons_of_mem _ mru)), (by show ¬(HT.sIx 5 0 (some 1) = 0 ∧ HT.sIx 5 5 none = 5); decide), fun r2 hr2 => ?_⟩
    replace O0 := O0.new (o := .tup [.int u.w, .str (sBk u.bk), .str (sIn u.inn), .str (sLt u.lt)]) hr2
    refine ⟨r1, r2, _, _, rfl, rfl, SqT.of (O0.mem (List.mem_cons_of_mem _ List.mem_cons_self)), SqT.of (O0.mem List.mem_cons_self), by show 1 + 4 ≤ sizeLine; decide, (fun z => nomatch z), (fun _ z => nomatch z), fun _ _ r3 hr3 => ?_⟩
    replace O0 := O0.new (o := .tup [.int 3, .int u.w, .str (sBk u.bk), .str (sIn u.inn), .str (sLt u.lt)]) hr3
    replace O0 := O0.sub (List.Sublist.cons_cons _ (List.sublist_append_right [_, _] _))
    refine ⟨by show 1 ≤ sizeLine; decide, fun r4 hr4 => ?_⟩
    replace O0 := O0.new (o := .tup [.int 0]) hr4
    refine ⟨_, rfl, 1, rfl, ra, _, rfl, SqT.of (O0.mem (List.mem_cons_of_mem _ (List.mem_cons_of_mem _ mru))), (by show ¬(HT.sIx 5 0 (some 1) = 0 ∧ HT.sIx 5 5 none = 5); decide), fun r5 hr5 => ?_⟩
    replace O0 := O0.new (o := .tup [.int u.w, .str (sBk u.bk), .str (sIn u.inn), .str (sLt u.lt)]) hr5
    refine ⟨r4, r5, _, _, rfl, rfl, SqT.of (O0.mem (List.mem_cons_of_mem _ List.mem_cons_self)), SqT.of (O0.mem List.mem_cons_self), by show 1 + 4 ≤ sizeLine; decide, (fun z => nomatch z), (fun _ z => nomatch z), fun _ _ r6 hr6 => ?_⟩
    replace O0 := O0.new (o := .tup [.int 0, .int u.w, .str (sBk u.bk), .str (sIn u.inn), .str (sLt u.lt)]) hr6
    replace O0 := O0.sub (List.Sublist.cons_cons _ (List.sublist_append_right [_, _] _))
    refine ⟨_, rfl, _, _, rfl, rfl, by show 1 ≤ sizeLine; decide, fun r7 hr7 => ?_⟩
    replace O0 := O0.new (o := .tup [.int (8 + far)]) hr7
    refine ⟨_, rfl, 1, rfl, ra, _, rfl, SqT.of (O0.mem (List.mem_cons_of_mem _ (List.mem_cons_of_mem _ (List.mem_cons_of_mem _ mru)))), (by show ¬(HT.sIx 5 0 (some 1) = 0 ∧ HT.sIx 5 5 none = 5); decide), fun r8 hr8 => ?_⟩
    replace O0 := O0.new (o := .tup [.int u.w, .str (sBk u.bk), .str (sIn u.inn), .str (sLt u.lt)]) hr8
    refine ⟨r7, r8, _, _, rfl, rfl, SqT.of (O0.mem (List.mem_cons_of_mem _ List.mem_cons_self)), SqT.of (O0.mem List.mem_cons_self), by show 1 + 4 ≤ sizeLine; decide, (fun z => nomatch z), (fun _ z => nomatch z), fun _ _ r9 hr9 => ?_⟩
    replace O0 := O0.new (o := .tup [.int (8 + far), .int u.w, .str (sBk u.bk), .str (sIn u.inn), .str (sLt u.lt)]) hr9
    replace O0 := O0.sub (List.Sublist.cons_cons _ (List.sublist_append_right [_, _] _))
    refine ⟨_, rfl, 1, rfl, ra, _, rfl, SqT.of (O0.mem (List.mem_cons_of_mem _ (List.mem_cons_of_mem _ (List.mem_cons_of_mem _ mru)))), (by show ¬(HT.sIx 5 0 none = 0 ∧ HT.sIx 5 5 (some 1) = 5); decide), fun r10 hr10 => ?_⟩
    replace O0 := O0.new (o := .tup [.int u.s]) hr10
    refine ⟨_, rfl, _, _, rfl, rfl, by show 1 ≤ sizeLine; decide, fun r11 hr11 => ?_⟩
    replace O0 := O0.new (o := .tup [.int (5 + far)]) hr11
    refine ⟨r10, r11, _, _, rfl, rfl, SqT.of (O0.mem (List.mem_cons_of_mem _ List.mem_cons_self)), SqT.of (O0.mem List.mem_cons_self), by show 1 + 1 ≤ sizeLine; decide, (fun z => nomatch z), (fun _ z => nomatch z), fun _ _ r12 hr12 => ?_⟩
    replace O0 := O0.new (o := .tup [.int u.s, .int (5 + far)]) hr12
    refine ⟨_, rfl, 2, rfl, ra, _, rfl, SqT.of (O0.mem (List.mem_cons_of_mem _ (List.mem_cons_of_mem _ (List.mem_cons_of_mem _ (List.mem_cons_of_mem _ (List.mem_cons_of_mem _ (List.mem_cons_of_mem _ mru))))))), (by show ¬(HT.sIx 5 0 (some 2) = 0 ∧ HT.sIx 5 5 none = 5); decide), fun r13 hr13 => ?_⟩
    replace O0 := O0.new (o := .tup [.str (sBk u.bk), .str (sIn u.inn), .str (sLt u.lt)]) hr13
    refine ⟨r12, r13, _, _, rfl, rfl, SqT.of (O0.mem (List.mem_cons_of_mem _ List.mem_cons_self)), SqT.of (O0.mem List.mem_cons_self), by show 2 + 3 ≤ sizeLine; decide, (fun z => nomatch z), (fun _ z => nomatch z), fun _ _ r14 hr14 => ?_⟩
    replace O0 := O0.new (o := .tup [.int u.s, .int (5 + far), .str (sBk u.bk), .str (sIn u.inn), .str (sLt u.lt)]) hr14
    replace O0 := O0.sub (List.Sublist.cons_cons _ (List.sublist_append_right [_, _, _, _] _))
    refine ⟨by show 0 ≤ sizeLine; decide, fun r15 hr15 => ?_⟩
    replace O0 := O0.new (o := .tup []) hr15
    refine ⟨by show 5 ≤ sizeLine; decide, fun l0 hl0 => ?_⟩
    replace O0 := O0.new (o := .lst [.ref r3, .ref r6, .ref r9, .ref r14, .ref r15]) hl0
    refine ⟨_, rfl, _, rfl, 1, rfl, ra, _, rfl, SqT.of (O0.mem (List.mem_cons_of_mem _ (List.mem_cons_of_mem _ (List.mem_cons_of_mem _ (List.mem_cons_of_mem _ (List.mem_cons_of_mem _ (List.mem_cons_of_mem _ mru))))))), (by show ¬(HT.sIx 5 0 none = 0 ∧ HT.sIx 5 5 (some 1) = 5); decide), fun r16 hr16 => ?_⟩
    replace O0 := O0.new (o := .tup [.int u.s]) hr16
    refine ⟨by show 1 ≤ sizeLine; decide, fun r17 hr17 => ?_⟩
    replace O0 := O0.new (o := .tup [.int 0]) hr17
    refine ⟨r16, r17, _, _, rfl, rfl, SqT.of (O0.mem (List.mem_cons_of_mem _ List.mem_cons_self)), SqT.of (O0.mem List.mem_cons_self), by show 1 + 1 ≤ sizeLine; decide, (fun z => nomatch z), (fun _ z => nomatch z), fun _ _ r18 hr18 => ?_⟩
    replace O0 := O0.new (o := .tup [.int u.s, .int 0]) hr18
    refine ⟨_, rfl, 2, rfl, ra, _, rfl, SqT.of (O0.mem (List.mem_cons_of_mem _ (List.mem_cons_of_mem _ (List.mem_cons_of_mem _ (List.mem_cons_of_mem _ (List.mem_cons_of_mem _ (List.mem_cons_of_mem _ (List.mem_cons_of_mem _ (List.mem_cons_of_mem _ (List.mem_cons_of_mem _ mru)))))))))), (by show ¬(HT.sIx 5 0 (some 2) = 0 ∧ HT.sIx 5 5 none = 5); decide), fun r19 hr19 => ?_⟩
    replace O0 := O0.new (o := .tup [.str (sBk u.bk), .str (sIn u.inn), .str (sLt u.lt)]) hr19
    refine ⟨r18, r19, _, _, rfl, rfl, SqT.of (O0.mem (List.mem_cons_of_mem _ List.mem_cons_self)), SqT.of (O0.mem List.mem_cons_self), by show 2 + 3 ≤ sizeLine; decide, (fun z => nomatch z), (fun _ z => nomatch z), fun _ _ r20 hr20 => ?_⟩
    replace O0 := O0.new (o := .tup [.int u.s, .int 0, .str (sBk u.bk), .str (sIn u.inn), .str (sLt u.lt)]) hr20
    replace O0 := O0.sub (List.Sublist.cons_cons _ (List.sublist_append_right [_, _, _, _] _))
    refine ⟨_, rfl, 2, rfl, ra, _, rfl, SqT.of (O0.mem (List.mem_cons_of_mem _ (List.mem_cons_of_mem _ (List.mem_cons_of_mem _ (List.mem_cons_of_mem _ (List.mem_cons_of_mem _ (List.mem_cons_of_mem _ (List.mem_cons_of_mem _ mru)))))))), (by show ¬(HT.sIx 5 0 none = 0 ∧ HT.sIx 5 5 (some 2) = 5); decide), fun r21 hr21 => ?_⟩
    replace O0 := O0.new (o := .tup [.int u.s, .int u.w]) hr21
    refine ⟨by show 1 ≤ sizeLine; decide, fun r22 hr22 => ?_⟩
    replace O0 := O0.new (o := .tup [.str "Back"]) hr22
    refine ⟨r21, r22, _, _, rfl, rfl, SqT.of (O0.mem (List.mem_cons_of_mem _ List.mem_cons_self)), SqT.of (O0.mem List.mem_cons_self), by show 2 + 1 ≤ sizeLine; decide, (fun z => nomatch z), (fun _ z => nomatch z), fun _ _ r23 hr23 => ?_⟩
    replace O0 := O0.new (o := .tup [.int u.s, .int u.w, .str "Back"]) hr23
    refine ⟨_, rfl, 3, rfl, ra, _, rfl, SqT.of (O0.mem (List.mem_cons_of_mem _ (List.mem_cons_of_mem _ (List.mem_cons_of_mem _ (List.mem_cons_of_mem _ (List.mem_cons_of_mem _ (List.mem_cons_of_mem _ (List.mem_cons_of_mem _ (List.mem_cons_of_mem _ (List.mem_cons_of_mem _ (List.mem_cons_of_mem _ mru))))))))))), (by show ¬(HT.sIx 5 0 (some 3) = 0 ∧ HT.sIx 5 5 none = 5); decide), fun r24 hr24 => ?_⟩
    replace O0 := O0.new (o := .tup [.str (sIn u.inn), .str (sLt u.lt)]) hr24
    refine ⟨r23, r24, _, _, rfl, rfl, SqT.of (O0.mem (List.mem_cons_of_mem _ List.mem_cons_self)), SqT.of (O0.mem List.mem_cons_self), by show 3 + 2 ≤ sizeLine; decide, (fun z => nomatch z), (fun _ z => nomatch z), fun _ _ r25 hr25 => ?_⟩
    replace O0 := O0.new (o := .tup [.int u.s, .int u.w, .str "Back", .str (sIn u.inn), .str (sLt u.lt)]) hr25
    replace O0 := O0.sub (List.Sublist.cons_cons _ (List.sublist_append_right [_, _, _, _] _))
    refine ⟨_, rfl, 3, rfl, ra, _, rfl, SqT.of (O0.mem (List.mem_cons_of_mem _ (List.mem_cons_of_mem _ (List.mem_cons_of_mem _ (List.mem_cons_of_mem _ (List.mem_cons_of_mem _ (List.mem_cons_of_mem _ (List.mem_cons_of_mem _ (List.mem_cons_of_mem _ mru))))))))), (by show ¬(HT.sIx 5 0 none = 0 ∧ HT.sIx 5 5 (some 3) = 5); decide), fun r26 hr26 => ?_⟩
    replace O0 := O0.new (o := .tup [.int u.s, .int u.w, .str (sBk u.bk)]) hr26
    refine ⟨by show 1 ≤ sizeLine; decide, fun r27 hr27 => ?_⟩
    replace O0 := O0.new (o := .tup [.str "out"]) hr27
    refine ⟨r26, r27, _, _, rfl, rfl, SqT.of (O0.mem (List.mem_cons_of_mem _ List.mem_cons_self)), SqT.of (O0.mem List.mem_cons_self), by show 3 + 1 ≤ sizeLine; decide, (fun z => nomatch z), (fun _ z => nomatch z), fun _ _ r28 hr28 => ?_⟩
    replace O0 := O0.new (o := .tup [.int u.s, .int u.w, .str (sBk u.bk), .str "out"]) hr28
    refine ⟨_, rfl, 4, rfl, ra, _, rfl, SqT.of (O0.mem (List.mem_cons_of_mem _ (List.mem_cons_of_mem _ (List.mem_cons_of_mem _ (List.mem_cons_of_mem _ (List.mem_cons_of_mem _ (List.mem_cons_of_mem _ (List.mem_cons_of_mem _ (List.mem_cons_of_mem _ (List.mem_cons_of_mem _ (List.mem_cons_of_mem _ (List.mem_cons_of_mem _ mru)))))))))))), (by show ¬(HT.sIx 5 0 (some 4) = 0 ∧ HT.sIx 5 5 none = 5); decide), fun r29 hr29 => ?_⟩
    replace O0 := O0.new (o := .tup [.str (sLt u.lt)]) hr29
    refine ⟨r28, r29, _, _, rfl, rfl, SqT.of (O0.mem (List.mem_cons_of_mem _ List.mem_cons_self)), SqT.of (O0.mem List.mem_cons_self), by show 4 + 1 ≤ sizeLine; decide, (fun z => nomatch z), (fun _ z => nomatch z), fun _ _ r30 hr30 => ?_⟩
    replace O0 := O0.new (o := .tup [.int u.s, .int u.w, .str (sBk u.bk), .str "out", .str (sLt u.lt)]) hr30
    replace O0 := O0.sub (List.Sublist.cons_cons _ (List.sublist_append_right [_, _, _, _] _))
    refine ⟨by show 3 ≤ sizeLine; decide, fun l1 hl1 => ?_⟩
    replace O0 := O0.new (o := .lst [.ref r20, .ref r25, .ref r30]) hl1
    refine ⟨l0, l1, _, _, rfl, rfl, O0.mem (show (l0, HO.lst [.ref r3, .ref r6, .ref r9, .ref r14, .ref r15]) ∈ _ from (List.mem_cons_of_mem _ (List.mem_cons_of_mem _ (List.mem_cons_of_mem _ (List.mem_cons_of_mem _ List.mem_cons_self))))), O0.a0, by show 5 + 3 ≤ sizeLine; decide, fun c_1 hc_1 => ?_⟩
    replace O0 := O0.new (o := .lst ([.ref r3, .ref r6, .ref r9, .ref r14, .ref r15] ++ [.ref r20, .ref r25, .ref r30])) hc_1
    replace O0 := O0.perm (L' := (c_1, .lst [.ref r3, .ref r6, .ref r9, .ref r14, .ref r15, .ref r20, .ref r25, .ref r30]) :: _) (List.Perm.refl _)
    refine ⟨_, rfl, _, rfl, 4, rfl, ra, _, rfl, SqT.of (O0.mem (List.mem_cons_of_mem _ (List.mem_cons_of_mem _ (List.mem_cons_of_mem _ (List.mem_cons_of_mem _ (List.mem_cons_of_mem _ (List.mem_cons_of_mem _ (List.mem_cons_of_mem _ (List.mem_cons_of_mem _ (List.mem_cons_of_mem _ (List.mem_cons_of_mem _ (List.mem_cons_of_mem _ mru)))))))))))), (by show ¬(HT.sIx 5 0 none = 0 ∧ HT.sIx 5 5 (some 4) = 5); decide), fun r31 hr31 => ?_⟩
    replace O0 := O0.new (o := .tup [.int u.s, .int u.w, .str (sBk u.bk), .str (sIn u.inn)]) hr31
    refine ⟨by show 1 ≤ sizeLine; decide, fun r32 hr32 => ?_⟩
    replace O0 := O0.new (o := .tup [.str "last"]) hr32
    refine ⟨r31, r32, _, _, rfl, rfl, SqT.of (O0.mem (List.mem_cons_of_mem _ List.mem_cons_self)), SqT.of (O0.mem List.mem_cons_self), by show 4 + 1 ≤ sizeLine; decide, (fun z => nomatch z), (fun _ z => nomatch z), fun _ _ r33 hr33 => ?_⟩
    replace O0 := O0.new (o := .tup [.int u.s, .int u.w, .str (sBk u.bk), .str (sIn u.inn), .str "last"]) hr33
    replace O0 := O0.sub (List.Sublist.cons_cons _ (List.sublist_append_right [_, _] _))
    refine ⟨_, rfl, 4, rfl, ra, _, rfl, SqT.of (O0.mem (List.mem_cons_of_mem _ (List.mem_cons_of_mem _ (List.mem_cons_of_mem _ (List.mem_cons_of_mem _ (List.mem_cons_of_mem _ (List.mem_cons_of_mem _ (List.mem_cons_of_mem _ (List.mem_cons_of_mem _ (List.mem_cons_of_mem _ (List.mem_cons_of_mem _ (List.mem_cons_of_mem _ (List.mem_cons_of_mem _ mru))))))))))))), (by show ¬(HT.sIx 5 0 none = 0 ∧ HT.sIx 5 5 (some 4) = 5); decide), fun r34 hr34 => ?_⟩
    replace O0 := O0.new (o := .tup [.int u.s, .int u.w, .str (sBk u.bk), .str (sIn u.inn)]) hr34
    refine ⟨_, rfl, by show 1 ≤ sizeLine; decide, fun r35 hr35 => ?_⟩
    replace O0 := O0.new (o := .tup [.int 0]) hr35
    refine ⟨ra, r35, _, _, rfl, rfl, SqT.of (O0.mem (List.mem_cons_of_mem _ (List.mem_cons_of_mem _ (List.mem_cons_of_mem _ (List.mem_cons_of_mem _ (List.mem_cons_of_mem _ (List.mem_cons_of_mem _ (List.mem_cons_of_mem _ (List.mem_cons_of_mem _ (List.mem_cons_of_mem _ (List.mem_cons_of_mem _ (List.mem_cons_of_mem _ (List.mem_cons_of_mem _ (List.mem_cons_of_mem _ (List.mem_cons_of_mem _ mru))))))))))))))), SqT.of (O0.mem List.mem_cons_self), by show 5 + 1 ≤ sizeLine; decide, (fun z => nomatch z), (fun _ z => nomatch z), fun _ _ r36 hr36 => ?_⟩
    replace O0 := O0.new (o := .tup [.int u.s, .int u.w, .str (sBk u.bk), .str (sIn u.inn), .str (sLt u.lt), .int 0]) hr36
    replace O0 := O0.sub (List.Sublist.cons_cons _ (List.sublist_append_right [_] _))
    refine ⟨by show 3 ≤ sizeLine; decide, fun l2 hl2 => ?_⟩
    replace O0 := O0.new (o := .lst [.ref r33, .ref r34, .ref r36]) hl2
    refine ⟨c_1, l2, _, _, rfl, rfl, O0.mem (show (c_1, HO.lst [.ref r3, .ref r6, .ref r9, .ref r14, .ref r15, .ref r20, .ref r25, .ref r30]) ∈ _ from (List.mem_cons_of_mem _ (List.mem_cons_of_mem _ (List.mem_cons_of_mem _ (List.mem_cons_of_mem _ List.mem_cons_self))))), O0.a0, by show 8 + 3 ≤ sizeLine; decide, fun c_2 hc_2 => ?_⟩
    replace O0 := O0.new (o := .lst ([.ref r3, .ref r6, .ref r9, .ref r14, .ref r15, .ref r20, .ref r25, .ref r30] ++ [.ref r33, .ref r34, .ref r36])) hc_2
    replace O0 := O0.perm (L' := (c_2, .lst [.ref r3, .ref r6, .ref r9, .ref r14, .ref r15, .ref r20, .ref r25, .ref r30, .ref r33, .ref r34, .ref r36]) :: _) (List.Perm.refl _)
    refine ⟨_, rfl, by show 1 ≤ sizeLine; decide, fun r37 hr37 => ?_⟩
    replace O0 := O0.new (o := .tup [.str "1"]) hr37
    refine ⟨_, rfl, 1, rfl, ra, _, rfl, SqT.of (O0.mem (List.mem_cons_of_mem _ (List.mem_cons_of_mem _ (List.mem_cons_of_mem _ (List.mem_cons_of_mem _ (List.mem_cons_of_mem _ (List.mem_cons_of_mem _ (List.mem_cons_of_mem _ (List.mem_cons_of_mem _ (List.mem_cons_of_mem _ (List.mem_cons_of_mem _ (List.mem_cons_of_mem _ (List.mem_cons_of_mem _ (List.mem_cons_of_mem _ (List.mem_cons_of_mem _ (List.mem_cons_of_mem _ (List.mem_cons_of_mem _ (List.mem_cons_of_mem _ mru)))))))))))))))))), (by show ¬(HT.sIx 5 0 (some 1) = 0 ∧ HT.sIx 5 5 none = 5); decide), fun r38 hr38 => ?_⟩
    replace O0 := O0.new (o := .tup [.int u.w, .str (sBk u.bk), .str (sIn u.inn), .str (sLt u.lt)]) hr38
    refine ⟨r37, r38, _, _, rfl, rfl, SqT.of (O0.mem (List.mem_cons_of_mem _ List.mem_cons_self)), SqT.of (O0.mem List.mem_cons_self), by show 1 + 4 ≤ sizeLine; decide, (fun z => nomatch z), (fun _ z => nomatch z), fun _ _ r39 hr39 => ?_⟩
    replace O0 := O0.new (o := .tup [.str "1", .int u.w, .str (sBk u.bk), .str (sIn u.inn), .str (sLt u.lt)]) hr39
    replace O0 := O0.sub (List.Sublist.cons_cons _ (List.sublist_append_right [_, _] _))
    refine ⟨_, rfl, 2, rfl, ra, _, rfl, SqT.of (O0.mem (List.mem_cons_of_mem _ (List.mem_cons_of_mem _ (List.mem_cons_of_mem _ (List.mem_cons_of_mem _ (List.mem_cons_of_mem _ (List.mem_cons_of_mem _ (List.mem_cons_of_mem _ (List.mem_cons_of_mem _ (List.mem_cons_of_mem _ (List.mem_cons_of_mem _ (List.mem_cons_of_mem _ (List.mem_cons_of_mem _ (List.mem_cons_of_mem _ (List.mem_cons_of_mem _ (List.mem_cons_of_mem _ (List.mem_cons_of_mem _ (List.mem_cons_of_mem _ mru)))))))))))))))))), (by show ¬(HT.sIx 5 0 none = 0 ∧ HT.sIx 5 5 (some 2) = 5); decide), fun r40 hr40 => ?_⟩
    replace O0 := O0.new (o := .tup [.int u.s, .int u.w]) hr40
    refine ⟨by show 1 ≤ sizeLine; decide, fun r41 hr41 => ?_⟩
    replace O0 := O0.new (o := .tup [.int 0]) hr41
    refine ⟨r40, r41, _, _, rfl, rfl, SqT.of (O0.mem (List.mem_cons_of_mem _ List.mem_cons_self)), SqT.of (O0.mem List.mem_cons_self), by show 2 + 1 ≤ sizeLine; decide, (fun z => nomatch z), (fun _ z => nomatch z), fun _ _ r42 hr42 => ?_⟩
    replace O0 := O0.new (o := .tup [.int u.s, .int u.w, .int 0]) hr42
    refine ⟨_, rfl, 3, rfl, ra, _, rfl, SqT.of (O0.mem (List.mem_cons_of_mem _ (List.mem_cons_of_mem _ (List.mem_cons_of_mem _ (List.mem_cons_of_mem _ (List.mem_cons_of_mem _ (List.mem_cons_of_mem _ (List.mem_cons_of_mem _ (List.mem_cons_of_mem _ (List.mem_cons_of_mem _ (List.mem_cons_of_mem _ (List.mem_cons_of_mem _ (List.mem_cons_of_mem _ (List.mem_cons_of_mem _ (List.mem_cons_of_mem _ (List.mem_cons_of_mem _ (List.mem_cons_of_mem _ (List.mem_cons_of_mem _ (List.mem_cons_of_mem _ (List.mem_cons_of_mem _ (List.mem_cons_of_mem _ mru))))))))))))))))))))), (by show ¬(HT.sIx 5 0 (some 3) = 0 ∧ HT.sIx 5 5 none = 5); decide), fun r43 hr43 => ?_⟩
    replace O0 := O0.new (o := .tup [.str (sIn u.inn), .str (sLt u.lt)]) hr43
    refine ⟨r42, r43, _, _, rfl, rfl, SqT.of (O0.mem (List.mem_cons_of_mem _ List.mem_cons_self)), SqT.of (O0.mem List.mem_cons_self), by show 3 + 2 ≤ sizeLine; decide, (fun z => nomatch z), (fun _ z => nomatch z), fun _ _ r44 hr44 => ?_⟩
    replace O0 := O0.new (o := .tup [.int u.s, .int u.w, .int 0, .str (sIn u.inn), .str (sLt u.lt)]) hr44
    replace O0 := O0.sub (List.Sublist.cons_cons _ (List.sublist_append_right [_, _, _, _] _))
    refine ⟨_, rfl, 3, rfl, ra, _, rfl, SqT.of (O0.mem (List.mem_cons_of_mem _ (List.mem_cons_of_mem _ (List.mem_cons_of_mem _ (List.mem_cons_of_mem _ (List.mem_cons_of_mem _ (List.mem_cons_of_mem _ (List.mem_cons_of_mem _ (List.mem_cons_of_mem _ (List.mem_cons_of_mem _ (List.mem_cons_of_mem _ (List.mem_cons_of_mem _ (List.mem_cons_of_mem _ (List.mem_cons_of_mem _ (List.mem_cons_of_mem _ (List.mem_cons_of_mem _ (List.mem_cons_of_mem _ (List.mem_cons_of_mem _ (List.mem_cons_of_mem _ mru))))))))))))))))))), (by show ¬(HT.sIx 5 0 none = 0 ∧ HT.sIx 5 5 (some 3) = 5); decide), fun r45 hr45 => ?_⟩
    replace O0 := O0.new (o := .tup [.int u.s, .int u.w, .str (sBk u.bk)]) hr45
    refine ⟨by show 1 ≤ sizeLine; decide, fun r46 hr46 => ?_⟩
    replace O0 := O0.new (o := .tup [.str ""]) hr46
    refine ⟨r45, r46, _, _, rfl, rfl, SqT.of (O0.mem (List.mem_cons_of_mem _ List.mem_cons_self)), SqT.of (O0.mem List.mem_cons_self), by show 3 + 1 ≤ sizeLine; decide, (fun z => nomatch z), (fun _ z => nomatch z), fun _ _ r47 hr47 => ?_⟩
    replace O0 := O0.new (o := .tup [.int u.s, .int u.w, .str (sBk u.bk), .str ""]) hr47
    refine ⟨_, rfl, 4, rfl, ra, _, rfl, SqT.of (O0.mem (List.mem_cons_of_mem _ (List.mem_cons_of_mem _ (List.mem_cons_of_mem _ (List.mem_cons_of_mem _ (List.mem_cons_of_mem _ (List.mem_cons_of_mem _ (List.mem_cons_of_mem _ (List.mem_cons_of_mem _ (List.mem_cons_of_mem _ (List.mem_cons_of_mem _ (List.mem_cons_of_mem _ (List.mem_cons_of_mem _ (List.mem_cons_of_mem _ (List.mem_cons_of_mem _ (List.mem_cons_of_mem _ (List.mem_cons_of_mem _ (List.mem_cons_of_mem _ (List.mem_cons_of_mem _ (List.mem_cons_of_mem _ (List.mem_cons_of_mem _ (List.mem_cons_of_mem _ mru)))))))))))))))))))))), (by show ¬(HT.sIx 5 0 (some 4) = 0 ∧ HT.sIx 5 5 none = 5); decide), fun r48 hr48 => ?_⟩
    replace O0 := O0.new (o := .tup [.str (sLt u.lt)]) hr48
    refine ⟨r47, r48, _, _, rfl, rfl, SqT.of (O0.mem (List.mem_cons_of_mem _ List.mem_cons_self)), SqT.of (O0.mem List.mem_cons_self), by show 4 + 1 ≤ sizeLine; decide, (fun z => nomatch z), (fun _ z => nomatch z), fun _ _ r49 hr49 => ?_⟩
    replace O0 := O0.new (o := .tup [.int u.s, .int u.w, .str (sBk u.bk), .str "", .str (sLt u.lt)]) hr49
    replace O0 := O0.sub (List.Sublist.cons_cons _ (List.sublist_append_right [_, _, _, _] _))
    refine ⟨by show 1 ≤ sizeLine; decide, fun r50 hr50 => ?_⟩
    replace O0 := O0.new (o := .tup [.int 16]) hr50
    refine ⟨_, rfl, 1, rfl, ra, _, rfl, SqT.of (O0.mem (List.mem_cons_of_mem _ (List.mem_cons_of_mem _ (List.mem_cons_of_mem _ (List.mem_cons_of_mem _ (List.mem_cons_of_mem _ (List.mem_cons_of_mem _ (List.mem_cons_of_mem _ (List.mem_cons_of_mem _ (List.mem_cons_of_mem _ (List.mem_cons_of_mem _ (List.mem_cons_of_mem _ (List.mem_cons_of_mem _ (List.mem_cons_of_mem _ (List.mem_cons_of_mem _ (List.mem_cons_of_mem _ (List.mem_cons_of_mem _ (List.mem_cons_of_mem _ (List.mem_cons_of_mem _ (List.mem_cons_of_mem _ (List.mem_cons_of_mem _ mru))))))))))))))))))))), (by show ¬(HT.sIx 5 0 (some 1) = 0 ∧ HT.sIx 5 5 none = 5); decide), fun r51 hr51 => ?_⟩
    replace O0 := O0.new (o := .tup [.int u.w, .str (sBk u.bk), .str (sIn u.inn), .str (sLt u.lt)]) hr51
    refine ⟨r50, r51, _, _, rfl, rfl, SqT.of (O0.mem (List.mem_cons_of_mem _ List.mem_cons_self)), SqT.of (O0.mem List.mem_cons_self), by show 1 + 4 ≤ sizeLine; decide, (fun z => nomatch z), (fun _ z => nomatch z), fun _ _ r52 hr52 => ?_⟩
    replace O0 := O0.new (o := .tup [.int 16, .int u.w, .str (sBk u.bk), .str (sIn u.inn), .str (sLt u.lt)]) hr52
    replace O0 := O0.sub (List.Sublist.cons_cons _ (List.sublist_append_right [_, _] _))
    refine ⟨by show 4 ≤ sizeLine; decide, fun l3 hl3 => ?_⟩
    replace O0 := O0.new (o := .lst [.ref r39, .ref r44, .ref r49, .ref r52]) hl3
    refine ⟨c_2, l3, _, _, rfl, rfl, O0.mem (show (c_2, HO.lst [.ref r3, .ref r6, .ref r9, .ref r14, .ref r15, .ref r20, .ref r25, .ref r30, .ref r33, .ref r34, .ref r36]) ∈ _ from (List.mem_cons_of_mem _ (List.mem_cons_of_mem _ (List.mem_cons_of_mem _ (List.mem_cons_of_mem _ (List.mem_cons_of_mem _ List.mem_cons_self)))))), O0.a0, by show 11 + 4 ≤ sizeLine; decide, fun c_3 hc_3 => ?_⟩
    replace O0 := O0.new (o := .lst ([.ref r3, .ref r6, .ref r9, .ref r14, .ref r15, .ref r20, .ref r25, .ref r30, .ref r33, .ref r34, .ref r36] ++ [.ref r39, .ref r44, .ref r49, .ref r52])) hc_3
    replace O0 := O0.perm (L' := (c_3, .lst [.ref r3, .ref r6, .ref r9, .ref r14, .ref r15, .ref r20, .ref r25, .ref r30, .ref r33, .ref r34, .ref r36, .ref r39, .ref r44, .ref r49, .ref r52]) :: _) (List.Perm.refl _)
    refine ⟨_, rfl, by show 1 ≤ sizeLine; decide, fun r53 hr53 => ?_⟩
    replace O0 := O0.new (o := .tup [.int 64]) hr53
    refine ⟨_, rfl, 1, rfl, ra, _, rfl, SqT.of (O0.mem (List.mem_cons_of_mem _ (List.mem_cons_of_mem _ (List.mem_cons_of_mem _ (List.mem_cons_of_mem _ (List.mem_cons_of_mem _ (List.mem_cons_of_mem _ (List.mem_cons_of_mem _ (List.mem_cons_of_mem _ (List.mem_cons_of_mem _ (List.mem_cons_of_mem _ (List.mem_cons_of_mem _ (List.mem_cons_of_mem _ (List.mem_cons_of_mem _ (List.mem_cons_of_mem _ (List.mem_cons_of_mem _ (List.mem_cons_of_mem _ (List.mem_cons_of_mem _ (List.mem_cons_of_mem _ (List.mem_cons_of_mem _ (List.mem_cons_of_mem _ (List.mem_cons_of_mem _ (List.mem_cons_of_mem _ (List.mem_cons_of_mem _ mru)))))))))))))))))))))))), (by show ¬(HT.sIx 5 0 (some 1) = 0 ∧ HT.sIx 5 5 none = 5); decide), fun r54 hr54 => ?_⟩
    replace O0 := O0.new (o := .tup [.int u.w, .str (sBk u.bk), .str (sIn u.inn), .str (sLt u.lt)]) hr54
    refine ⟨r53, r54, _, _, rfl, rfl, SqT.of (O0.mem (List.mem_cons_of_mem _ List.mem_cons_self)), SqT.of (O0.mem List.mem_cons_self), by show 1 + 4 ≤ sizeLine; decide, (fun z => nomatch z), (fun _ z => nomatch z), fun _ _ r55 hr55 => ?_⟩
    replace O0 := O0.new (o := .tup [.int 64, .int u.w, .str (sBk u.bk), .str (sIn u.inn), .str (sLt u.lt)]) hr55
    replace O0 := O0.sub (List.Sublist.cons_cons _ (List.sublist_append_right [_, _] _))
    refine ⟨by show 1 ≤ sizeLine; decide, fun r56 hr56 => ?_⟩
    replace O0 := O0.new (o := .tup [.int 6]) hr56
    refine ⟨_, rfl, 1, rfl, ra, _, rfl, SqT.of (O0.mem (List.mem_cons_of_mem _ (List.mem_cons_of_mem _ (List.mem_cons_of_mem _ (List.mem_cons_of_mem _ (List.mem_cons_of_mem _ (List.mem_cons_of_mem _ (List.mem_cons_of_mem _ (List.mem_cons_of_mem _ (List.mem_cons_of_mem _ (List.mem_cons_of_mem _ (List.mem_cons_of_mem _ (List.mem_cons_of_mem _ (List.mem_cons_of_mem _ (List.mem_cons_of_mem _ (List.mem_cons_of_mem _ (List.mem_cons_of_mem _ (List.mem_cons_of_mem _ (List.mem_cons_of_mem _ (List.mem_cons_of_mem _ (List.mem_cons_of_mem _ (List.mem_cons_of_mem _ (List.mem_cons_of_mem _ (List.mem_cons_of_mem _ (List.mem_cons_of_mem _ mru))))))))))))))))))))))))), (by show ¬(HT.sIx 5 0 (some 1) = 0 ∧ HT.sIx 5 5 none = 5); decide), fun r57 hr57 => ?_⟩
    replace O0 := O0.new (o := .tup [.int u.w, .str (sBk u.bk), .str (sIn u.inn), .str (sLt u.lt)]) hr57
    refine ⟨r56, r57, _, _, rfl, rfl, SqT.of (O0.mem (List.mem_cons_of_mem _ List.mem_cons_self)), SqT.of (O0.mem List.mem_cons_self), by show 1 + 4 ≤ sizeLine; decide, (fun z => nomatch z), (fun _ z => nomatch z), fun _ _ r58 hr58 => ?_⟩
    replace O0 := O0.new (o := .tup [.int 6, .int u.w, .str (sBk u.bk), .str (sIn u.inn), .str (sLt u.lt)]) hr58
    replace O0 := O0.sub (List.Sublist.cons_cons _ (List.sublist_append_right [_, _] _))
    refine ⟨by show 2 ≤ sizeLine; decide, fun l4 hl4 => ?_⟩
    replace O0 := O0.new (o := .lst [.ref r55, .ref r58]) hl4
    refine ⟨c_3, l4, _, _, rfl, rfl, O0.mem (show (c_3, HO.lst [.ref r3, .ref r6, .ref r9, .ref r14, .ref r15, .ref r20, .ref r25, .ref r30, .ref r33, .ref r34, .ref r36, .ref r39, .ref r44, .ref r49, .ref r52]) ∈ _ from (List.mem_cons_of_mem _ (List.mem_cons_of_mem _ (List.mem_cons_of_mem _ List.mem_cons_self)))), O0.a0, by show 15 + 2 ≤ sizeLine; decide, fun c_4 hc_4 => ?_⟩
    replace O0 := O0.new (o := .lst ([.ref r3, .ref r6, .ref r9, .ref r14, .ref r15, .ref r20, .ref r25, .ref r30, .ref r33, .ref r34, .ref r36, .ref r39, .ref r44, .ref r49, .ref r52] ++ [.ref r55, .ref r58])) hc_4
    replace O0 := O0.perm (L' := (c_4, .lst [.ref r3, .ref r6, .ref r9, .ref r14, .ref r15, .ref r20, .ref r25, .ref r30, .ref r33, .ref r34, .ref r36, .ref r39, .ref r44, .ref r49, .ref r52, .ref r55, .ref r58]) :: _) (List.Perm.refl _)
    obtain ⟨N, hN⟩ : ∃ N : List Cell, N = [(c_4, HO.lst [.ref r3, .ref r6, .ref r9, .ref r14, .ref r15, .ref r20, .ref r25, .ref r30, .ref r33, .ref r34, .ref r36, .ref r39, .ref r44, .ref r49, .ref r52, .ref r55, .ref r58]), (l4, HO.lst [.ref r55, .ref r58]), (r58, HO.tup ([.int 6, .int u.w, .str (sBk u.bk), .str (sIn u.inn), .str (sLt u.lt)] : List V)), (r55, HO.tup ([.int 64, .int u.w, .str (sBk u.bk), .str (sIn u.inn), .str (sLt u.lt)] : List V)), (c_3, HO.lst [.ref r3, .ref r6, .ref r9, .ref r14, .ref r15, .ref r20, .ref r25, .ref r30, .ref r33, .ref r34, .ref r36, .ref r39, .ref r44, .ref r49, .ref r52]), (l3, HO.lst [.ref r39, .ref r44, .ref r49, .ref r52]), (r52, HO.tup ([.int 16, .int u.w, .str (sBk u.bk), .str (sIn u.inn), .str (sLt u.lt)] : List V)), (r49, HO.tup ([.int u.s, .int u.w, .str (sBk u.bk), .str "", .str (sLt u.lt)] : List V)), (r44, HO.tup ([.int u.s, .int u.w, .int 0, .str (sIn u.inn), .str (sLt u.lt)] : List V)), (r39, HO.tup ([.str "1", .int u.w, .str (sBk u.bk), .str (sIn u.inn), .str (sLt u.lt)] : List V)), (c_2, HO.lst [.ref r3, .ref r6, .ref r9, .ref r14, .ref r15, .ref r20, .ref r25, .ref r30, .ref r33, .ref r34, .ref r36]), (l2, HO.lst [.ref r33, .ref r34, .ref r36]), (r36, HO.tup ([.int u.s, .int u.w, .str (sBk u.bk), .str (sIn u.inn), .str (sLt u.lt), .int 0] : List V)), (r34, HO.tup ([.int u.s, .int u.w, .str (sBk u.bk), .str (sIn u.inn)] : List V)), (r33, HO.tup ([.int u.s, .int u.w, .str (sBk u.bk), .str (sIn u.inn), .str "last"] : List V)), (c_1, HO.lst [.ref r3, .ref r6, .ref r9, .ref r14, .ref r15, .ref r20, .ref r25, .ref r30]), (l1, HO.lst [.ref r20, .ref r25, .ref r30]), (r30, HO.tup ([.int u.s, .int u.w, .str (sBk u.bk), .str "out", .str (sLt u.lt)] : List V)), (r25, HO.tup ([.int u.s, .int u.w, .str "Back", .str (sIn u.inn), .str (sLt u.lt)] : List V)), (r20, HO.tup ([.int u.s, .int 0, .str (sBk u.bk), .str (sIn u.inn), .str (sLt u.lt)] : List V)), (l0, HO.lst [.ref r3, .ref r6, .ref r9, .ref r14, .ref r15]), (r15, HO.tup ([] : List V)), (r14, HO.tup ([.int u.s, .int (5 + far), .str (sBk u.bk), .str (sIn u.inn), .str (sLt u.lt)] : List V)), (r9, HO.tup ([.int (8 + far), .int u.w, .str (sBk u.bk), .str (sIn u.inn), .str (sLt u.lt)] : List V)), (r6, HO.tup ([.int 0, .int u.w, .str (sBk u.bk), .str (sIn u.inn), .str (sLt u.lt)] : List V)), (r3, HO.tup ([.int 3, .int u.w, .str (sBk u.bk), .str (sIn u.inn), .str (sLt u.lt)] : List V))] := ⟨_, rfl⟩
    have hNT : NT N := by
      rw [hN]
      exact NT.cons rfl (NT.cons rfl (NT.cons rfl (NT.cons rfl (NT.cons rfl (NT.cons rfl (NT.cons rfl (NT.cons rfl (NT.cons rfl (NT.cons rfl (NT.cons rfl (NT.cons rfl (NT.cons rfl (NT.cons rfl (NT.cons rfl (NT.cons rfl (NT.cons rfl (NT.cons rfl (NT.cons rfl (NT.cons rfl (NT.cons rfl (NT.cons rfl (NT.cons rfl (NT.cons rfl (NT.cons rfl (NT.cons rfl (NT.nil))))))))))))))))))))))))))
    replace O0 := O0.perm (L' := N ++ (c1 :: (S ++ R))) (by rw [hN]; exact List.Perm.refl _)
    have ml : (c_4, HO.lst [V.ref r3, V.ref r6, V.ref r9, V.ref r14, V.ref r15, V.ref r20, V.ref r25, V.ref r30, V.ref r33, V.ref r34, V.ref r36, V.ref r39, V.ref r44, V.ref r49, V.ref r52, V.ref r55, V.ref r58]) ∈ N := by rw [hN]; exact List.mem_cons_self
    have pick : ∀ v : Int, 0 ≤ v → v < 17 → ∃ (a : Addr) (xs : List V), atI [V.ref r3, V.ref r6, V.ref r9, V.ref r14, V.ref r15, V.ref r20, V.ref r25, V.ref r30, V.ref r33, V.ref r34, V.ref r36, V.ref r39, V.ref r44, V.ref r49, V.ref r52, V.ref r55, V.ref r58] v = some (.ref a) ∧ (a, HO.tup xs) ∈ N ∧ ruleB xs = false ∧ FlatX xs := fun v h0 h17 => by
      rcases (show v = 0 ∨ v = 1 ∨ v = 2 ∨ v = 3 ∨ v = 4 ∨ v = 5 ∨ v = 6 ∨ v = 7 ∨ v = 8 ∨ v = 9 ∨ v = 10 ∨ v = 11 ∨ v = 12 ∨ v = 13 ∨ v = 14 ∨ v = 15 ∨ v = 16 by omega) with rfl | rfl | rfl | rfl | rfl | rfl | rfl | rfl | rfl | rfl | rfl | rfl | rfl | rfl | rfl | rfl | rfl
      · exact ⟨r3, [.int 3, .int u.w, .str (sBk u.bk), .str (sIn u.inn), .str (sLt u.lt)], rfl, by rw [hN]; exact (List.mem_cons_of_mem _ (List.mem_cons_of_mem _ (List.mem_cons_of_mem _ (List.mem_cons_of_mem _ (List.mem_cons_of_mem _ (List.mem_cons_of_mem _ (List.mem_cons_of_mem _ (List.mem_cons_of_mem _ (List.mem_cons_of_mem _ (List.mem_cons_of_mem _ (List.mem_cons_of_mem _ (List.mem_cons_of_mem _ (List.mem_cons_of_mem _ (List.mem_cons_of_mem _ (List.mem_cons_of_mem _ (List.mem_cons_of_mem _ (List.mem_cons_of_mem _ (List.mem_cons_of_mem _ (List.mem_cons_of_mem _ (List.mem_cons_of_mem _ (List.mem_cons_of_mem _ (List.mem_cons_of_mem _ (List.mem_cons_of_mem _ (List.mem_cons_of_mem _ (List.mem_cons_of_mem _ List.mem_cons_self))))))))))))))))))))))))), rB5 (.inr (.inl (by decide +kernel))), flatOf rfl (by show 5 ≤ 1000; decide)⟩
      · exact ⟨r6, [.int 0, .int u.w, .str (sBk u.bk), .str (sIn u.inn), .str (sLt u.lt)], rfl, by rw [hN]; exact (List.mem_cons_of_mem _ (List.mem_cons_of_mem _ (List.mem_cons_of_mem _ (List.mem_cons_of_mem _ (List.mem_cons_of_mem _ (List.mem_cons_of_mem _ (List.mem_cons_of_mem _ (List.mem_cons_of_mem _ (List.mem_cons_of_mem _ (List.mem_cons_of_mem _ (List.mem_cons_of_mem _ (List.mem_cons_of_mem _ (List.mem_cons_of_mem _ (List.mem_cons_of_mem _ (List.mem_cons_of_mem _ (List.mem_cons_of_mem _ (List.mem_cons_of_mem _ (List.mem_cons_of_mem _ (List.mem_cons_of_mem _ (List.mem_cons_of_mem _ (List.mem_cons_of_mem _ (List.mem_cons_of_mem _ (List.mem_cons_of_mem _ (List.mem_cons_of_mem _ List.mem_cons_self)))))))))))))))))))))))), rB5 (.inl (by decide +kernel)), flatOf rfl (by show 5 ≤ 1000; decide)⟩
      · exact ⟨r9, [.int (8 + far), .int u.w, .str (sBk u.bk), .str (sIn u.inn), .str (sLt u.lt)], rfl, by rw [hN]; exact (List.mem_cons_of_mem _ (List.mem_cons_of_mem _ (List.mem_cons_of_mem _ (List.mem_cons_of_mem _ (List.mem_cons_of_mem _ (List.mem_cons_of_mem _ (List.mem_cons_of_mem _ (List.mem_cons_of_mem _ (List.mem_cons_of_mem _ (List.mem_cons_of_mem _ (List.mem_cons_of_mem _ (List.mem_cons_of_mem _ (List.mem_cons_of_mem _ (List.mem_cons_of_mem _ (List.mem_cons_of_mem _ (List.mem_cons_of_mem _ (List.mem_cons_of_mem _ (List.mem_cons_of_mem _ (List.mem_cons_of_mem _ (List.mem_cons_of_mem _ (List.mem_cons_of_mem _ (List.mem_cons_of_mem _ (List.mem_cons_of_mem _ List.mem_cons_self))))))))))))))))))))))), rB5 (.inr (.inl (in124 (by omega) (by omega) (by omega)))), flatOf rfl (by show 5 ≤ 1000; decide)⟩
      · exact ⟨r14, [.int u.s, .int (5 + far), .str (sBk u.bk), .str (sIn u.inn), .str (sLt u.lt)], rfl, by rw [hN]; exact (List.mem_cons_of_mem _ (List.mem_cons_of_mem _ (List.mem_cons_of_mem _ (List.mem_cons_of_mem _ (List.mem_cons_of_mem _ (List.mem_cons_of_mem _ (List.mem_cons_of_mem _ (List.mem_cons_of_mem _ (List.mem_cons_of_mem _ (List.mem_cons_of_mem _ (List.mem_cons_of_mem _ (List.mem_cons_of_mem _ (List.mem_cons_of_mem _ (List.mem_cons_of_mem _ (List.mem_cons_of_mem _ (List.mem_cons_of_mem _ (List.mem_cons_of_mem _ (List.mem_cons_of_mem _ (List.mem_cons_of_mem _ (List.mem_cons_of_mem _ (List.mem_cons_of_mem _ (List.mem_cons_of_mem _ List.mem_cons_self)))))))))))))))))))))), rB5 (.inr (.inr (.inl (decide_eq_false (by omega))))), flatOf rfl (by show 5 ≤ 1000; decide)⟩
      · exact ⟨r15, [], rfl, by rw [hN]; exact (List.mem_cons_of_mem _ (List.mem_cons_of_mem _ (List.mem_cons_of_mem _ (List.mem_cons_of_mem _ (List.mem_cons_of_mem _ (List.mem_cons_of_mem _ (List.mem_cons_of_mem _ (List.mem_cons_of_mem _ (List.mem_cons_of_mem _ (List.mem_cons_of_mem _ (List.mem_cons_of_mem _ (List.mem_cons_of_mem _ (List.mem_cons_of_mem _ (List.mem_cons_of_mem _ (List.mem_cons_of_mem _ (List.mem_cons_of_mem _ (List.mem_cons_of_mem _ (List.mem_cons_of_mem _ (List.mem_cons_of_mem _ (List.mem_cons_of_mem _ (List.mem_cons_of_mem _ List.mem_cons_self))))))))))))))))))))), rfl, flatOf rfl (by show 0 ≤ 1000; decide)⟩
      · exact ⟨r20, [.int u.s, .int 0, .str (sBk u.bk), .str (sIn u.inn), .str (sLt u.lt)], rfl, by rw [hN]; exact (List.mem_cons_of_mem _ (List.mem_cons_of_mem _ (List.mem_cons_of_mem _ (List.mem_cons_of_mem _ (List.mem_cons_of_mem _ (List.mem_cons_of_mem _ (List.mem_cons_of_mem _ (List.mem_cons_of_mem _ (List.mem_cons_of_mem _ (List.mem_cons_of_mem _ (List.mem_cons_of_mem _ (List.mem_cons_of_mem _ (List.mem_cons_of_mem _ (List.mem_cons_of_mem _ (List.mem_cons_of_mem _ (List.mem_cons_of_mem _ (List.mem_cons_of_mem _ (List.mem_cons_of_mem _ (List.mem_cons_of_mem _ List.mem_cons_self))))))))))))))))))), rB5 (.inr (.inr (.inl (by decide +kernel)))), flatOf rfl (by show 5 ≤ 1000; decide)⟩
      · exact ⟨r25, [.int u.s, .int u.w, .str "Back", .str (sIn u.inn), .str (sLt u.lt)], rfl, by rw [hN]; exact (List.mem_cons_of_mem _ (List.mem_cons_of_mem _ (List.mem_cons_of_mem _ (List.mem_cons_of_mem _ (List.mem_cons_of_mem _ (List.mem_cons_of_mem _ (List.mem_cons_of_mem _ (List.mem_cons_of_mem _ (List.mem_cons_of_mem _ (List.mem_cons_of_mem _ (List.mem_cons_of_mem _ (List.mem_cons_of_mem _ (List.mem_cons_of_mem _ (List.mem_cons_of_mem _ (List.mem_cons_of_mem _ (List.mem_cons_of_mem _ (List.mem_cons_of_mem _ (List.mem_cons_of_mem _ List.mem_cons_self)))))))))))))))))), rB5 (.inr (.inr (.inr (.inl (by decide +kernel))))), flatOf rfl (by show 5 ≤ 1000; decide)⟩
      · exact ⟨r30, [.int u.s, .int u.w, .str (sBk u.bk), .str "out", .str (sLt u.lt)], rfl, by rw [hN]; exact (List.mem_cons_of_mem _ (List.mem_cons_of_mem _ (List.mem_cons_of_mem _ (List.mem_cons_of_mem _ (List.mem_cons_of_mem _ (List.mem_cons_of_mem _ (List.mem_cons_of_mem _ (List.mem_cons_of_mem _ (List.mem_cons_of_mem _ (List.mem_cons_of_mem _ (List.mem_cons_of_mem _ (List.mem_cons_of_mem _ (List.mem_cons_of_mem _ (List.mem_cons_of_mem _ (List.mem_cons_of_mem _ (List.mem_cons_of_mem _ (List.mem_cons_of_mem _ List.mem_cons_self))))))))))))))))), rB5 (.inr (.inr (.inr (.inr (.inl (by decide +kernel)))))), flatOf rfl (by show 5 ≤ 1000; decide)⟩
      · exact ⟨r33, [.int u.s, .int u.w, .str (sBk u.bk), .str (sIn u.inn), .str "last"], rfl, by rw [hN]; exact (List.mem_cons_of_mem _ (List.mem_cons_of_mem _ (List.mem_cons_of_mem _ (List.mem_cons_of_mem _ (List.mem_cons_of_mem _ (List.mem_cons_of_mem _ (List.mem_cons_of_mem _ (List.mem_cons_of_mem _ (List.mem_cons_of_mem _ (List.mem_cons_of_mem _ (List.mem_cons_of_mem _ (List.mem_cons_of_mem _ (List.mem_cons_of_mem _ (List.mem_cons_of_mem _ List.mem_cons_self)))))))))))))), rB5 (.inr (.inr (.inr (.inr (.inr (by decide +kernel)))))), flatOf rfl (by show 5 ≤ 1000; decide)⟩
      · exact ⟨r34, [.int u.s, .int u.w, .str (sBk u.bk), .str (sIn u.inn)], rfl, by rw [hN]; exact (List.mem_cons_of_mem _ (List.mem_cons_of_mem _ (List.mem_cons_of_mem _ (List.mem_cons_of_mem _ (List.mem_cons_of_mem _ (List.mem_cons_of_mem _ (List.mem_cons_of_mem _ (List.mem_cons_of_mem _ (List.mem_cons_of_mem _ (List.mem_cons_of_mem _ (List.mem_cons_of_mem _ (List.mem_cons_of_mem _ (List.mem_cons_of_mem _ List.mem_cons_self))))))))))))), rfl, flatOf rfl (by show 4 ≤ 1000; decide)⟩
      · exact ⟨r36, [.int u.s, .int u.w, .str (sBk u.bk), .str (sIn u.inn), .str (sLt u.lt), .int 0], rfl, by rw [hN]; exact (List.mem_cons_of_mem _ (List.mem_cons_of_mem _ (List.mem_cons_of_mem _ (List.mem_cons_of_mem _ (List.mem_cons_of_mem _ (List.mem_cons_of_mem _ (List.mem_cons_of_mem _ (List.mem_cons_of_mem _ (List.mem_cons_of_mem _ (List.mem_cons_of_mem _ (List.mem_cons_of_mem _ (List.mem_cons_of_mem _ List.mem_cons_self)))))))))))), rfl, flatOf rfl (by show 6 ≤ 1000; decide)⟩
      · exact ⟨r39, [.str "1", .int u.w, .str (sBk u.bk), .str (sIn u.inn), .str (sLt u.lt)], rfl, by rw [hN]; exact (List.mem_cons_of_mem _ (List.mem_cons_of_mem _ (List.mem_cons_of_mem _ (List.mem_cons_of_mem _ (List.mem_cons_of_mem _ (List.mem_cons_of_mem _ (List.mem_cons_of_mem _ (List.mem_cons_of_mem _ (List.mem_cons_of_mem _ List.mem_cons_self))))))))), rB5 (.inl rfl), flatOf rfl (by show 5 ≤ 1000; decide)⟩
      · exact ⟨r44, [.int u.s, .int u.w, .int 0, .str (sIn u.inn), .str (sLt u.lt)], rfl, by rw [hN]; exact (List.mem_cons_of_mem _ (List.mem_cons_of_mem _ (List.mem_cons_of_mem _ (List.mem_cons_of_mem _ (List.mem_cons_of_mem _ (List.mem_cons_of_mem _ (List.mem_cons_of_mem _ (List.mem_cons_of_mem _ List.mem_cons_self)))))))), rB5 (.inr (.inr (.inr (.inl (by decide +kernel))))), flatOf rfl (by show 5 ≤ 1000; decide)⟩
      · exact ⟨r49, [.int u.s, .int u.w, .str (sBk u.bk), .str "", .str (sLt u.lt)], rfl, by rw [hN]; exact (List.mem_cons_of_mem _ (List.mem_cons_of_mem _ (List.mem_cons_of_mem _ (List.mem_cons_of_mem _ (List.mem_cons_of_mem _ (List.mem_cons_of_mem _ (List.mem_cons_of_mem _ List.mem_cons_self))))))), rB5 (.inr (.inr (.inr (.inr (.inl (by decide +kernel)))))), flatOf rfl (by show 5 ≤ 1000; decide)⟩
      · exact ⟨r52, [.int 16, .int u.w, .str (sBk u.bk), .str (sIn u.inn), .str (sLt u.lt)], rfl, by rw [hN]; exact (List.mem_cons_of_mem _ (List.mem_cons_of_mem _ (List.mem_cons_of_mem _ (List.mem_cons_of_mem _ (List.mem_cons_of_mem _ (List.mem_cons_of_mem _ List.mem_cons_self)))))), rB5 (.inr (.inl (by decide +kernel))), flatOf rfl (by show 5 ≤ 1000; decide)⟩
      · exact ⟨r55, [.int 64, .int u.w, .str (sBk u.bk), .str (sIn u.inn), .str (sLt u.lt)], rfl, by rw [hN]; exact (List.mem_cons_of_mem _ (List.mem_cons_of_mem _ (List.mem_cons_of_mem _ List.mem_cons_self))), rB5 (.inr (.inl (by decide +kernel))), flatOf rfl (by show 5 ≤ 1000; decide)⟩
      · exact ⟨r58, [.int 6, .int u.w, .str (sBk u.bk), .str (sIn u.inn), .str (sLt u.lt)], rfl, by rw [hN]; exact (List.mem_cons_of_mem _ (List.mem_cons_of_mem _ List.mem_cons_self)), rB5 (.inr (.inl (by decide +kernel))), flatOf rfl (by show 5 ≤ 1000; decide)⟩
    clear hN
    have mrlN : ∀ {L : List Cell}, (rl, HO.lst (ras.map V.ref)) ∈ L ++ (c1 :: (S ++ R)) := fun {L} => List.mem_append_right _ (List.mem_cons_of_mem _ (List.mem_append_right _ mrl))
    have big : ∀ {j : Nat}, j ≤ 5000 → j ≤ sizeLine := fun h => Nat.le_of_lt (size1 (by omega))
    -- one rule is spoilt
    refine ⟨_, rfl, _, rfl, _, rfl, rl, _, rfl, SqL.of (O0.mem mrlN), fun s1 hs1 => ?_⟩
    have ec1 : cutV (ras.map V.ref) none (some ((at' : Nat) : Int)) = (ras.take at').map V.ref := by rw [cutTake (by rw [List.length_map]; omega), List.map_take]
    rw [ec1]
    have X1 := O0.new (o := .lst ((ras.take at').map V.ref)) hs1
    replace X1 := X1.perm (L' := c1 :: (S ++ ((s1, .lst ((ras.take at').map V.ref)) :: (N ++ R)))) (by walk_at "perm")
    refine ⟨_, rfl, _, rfl, rw, S, c1, 17, _, rfl, hc1, by decide, X1, fun v c2 H2 h0 h17 hc2 X2 => ?_⟩
    clear X1 O0 O
    obtain ⟨a, xs, ha, hm, hb, hfl⟩ := pick v h0 h17
    clear pick
    replace X2 := X2.perm (L' := (s1, .lst ((ras.take at').map V.ref)) :: (N ++ (c2 :: (S ++ R)))) (by walk_at "perm")
    refine ⟨c_4, _, _, .ref a, rfl, rfl, SqL.of (X2.mem (List.mem_cons_of_mem _ (List.mem_append_left _ ml))), ha, by show 1 ≤ sizeLine; decide, fun s2 hs2 => ?_⟩
    have X3 := X2.new (o := .lst ([a].map V.ref)) hs2
    refine ⟨s1, s2, _, _, rfl, rfl, X3.a1, X3.a0, big (by rw [List.length_map, List.length_map, List.length_take]; show _ + 1 ≤ 5000; omega), fun s3 hs3 => ?_⟩
    rw [← List.map_append]
    have X4 := X3.new (o := .lst ((ras.take at' ++ [a]).map V.ref)) hs3
    have mrl4 : ∀ {L M : List Cell}, (rl, HO.lst (ras.map V.ref)) ∈ L ++ (M ++ (c2 :: (S ++ R))) := fun {L M} => List.mem_append_right _ (List.mem_append_right _ (List.mem_cons_of_mem _ (List.mem_append_right _ mrl)))
    refine ⟨_, rfl, _, rfl, _, _, rfl, rfl, _, rfl, noPart ⟨rl, _, rfl, SqL.of (X4.mem (mrl4 (L := [_, _, _]))), fun s4 hs4 => ?_⟩⟩
    have ec2 : cutV (ras.map V.ref) (some (((at' : Nat) : Int) + 1)) none = (ras.drop (at' + 1)).map V.ref := by
      rw [show ((at' : Nat) : Int) + 1 = ((at' + 1 : Nat) : Int) by omega, cutDrop (by rw [List.length_map]; omega), List.map_drop]
    rw [ec2]
    have X5 := X4.new (o := .lst ((ras.drop (at' + 1)).map V.ref)) hs4
    refine ⟨s3, s4, _, _, rfl, rfl, X5.a1, X5.a0, big (by simp only [List.length_map, List.length_append, List.length_take, List.length_drop, List.length_cons, List.length_nil]; omega), fun s5 hs5 => ?_⟩
    rw [← List.map_append]
    have X6 := X5.new (o := .lst ((ras.take at' ++ [a] ++ ras.drop (at' + 1)).map V.ref)) hs5
    refine ⟨by show 0 ≤ sizeLine; decide, fun e he => ?_⟩
    have X7 := X6.new (o := .tup []) he
    refine ⟨by show 1 ≤ sizeLine; decide, fun s6 hs6 => ?_⟩
    have X8 := X7.new (o := .lst ([e].map V.ref)) hs6
    refine ⟨s5, s6, _, _, rfl, rfl, X8.a2, X8.a0, big (by simp only [List.length_map, List.length_append, List.length_take, List.length_drop, List.length_cons, List.length_nil]; omega), fun s7 hs7 => ?_⟩
    rw [← List.map_append]
    obtain ⟨bas, hbas⟩ : ∃ bas : List Addr, bas = ras.take at' ++ [a] ++ ras.drop (at' + 1) ++ [e] := ⟨_, rfl⟩
    rw [← hbas]
    have X9 := X8.new (o := .lst (bas.map V.ref)) hs7
    obtain ⟨N2, hN2⟩ : ∃ N2 : List Cell, N2 = (s7, HO.lst (bas.map V.ref)) :: (s6, .lst ([e].map V.ref)) :: (e, .tup []) :: (s5, .lst ((ras.take at' ++ [a] ++ ras.drop (at' + 1)).map V.ref)) :: (s4, .lst ((ras.drop (at' + 1)).map V.ref)) :: (s3, .lst ((ras.take at' ++ [a]).map V.ref)) :: (s2, .lst ([a].map V.ref)) :: (s1, .lst ((ras.take at').map V.ref)) :: N := ⟨_, rfl⟩
    have hNT2 : NT N2 := by
      rw [hN2]
      exact NT.cons rfl (NT.cons rfl (NT.cons rfl (NT.cons rfl (NT.cons rfl (NT.cons rfl (NT.cons rfl (NT.cons rfl hNT)))))))
    replace X9 := X9.perm (L' := N2 ++ (c2 :: (S ++ R))) (by rw [hN2]; exact List.Perm.refl _)
    have ms7 : (s7, HO.lst (bas.map V.ref)) ∈ N2 := by rw [hN2]; exact List.mem_cons_self
    have me : (e, HO.tup []) ∈ N2 := by rw [hN2]; simp
    have ma : (a, HO.tup xs) ∈ N2 := by rw [hN2]; simp [hm]
    clear hN2 X8 X7 X6 X5 X4 X3 X2
    have hvs := hra.toTA
    -- what is told
    refine ⟨_, rfl, _, rfl, by show 2 ≤ sizeLine; decide, fun t1 ht1 => ?_⟩
    have Y1 := X9.new (o := .tup [.ref s7, .int (at' : Nat)]) ht1
    refine ⟨_, rfl, _, rfl, by show 2 ≤ sizeLine; decide, fun t2 ht2 => ?_⟩
    have Y2 := Y1.new (o := .tup [.ref s7, .int (at' : Nat)]) ht2
    refine ⟨_, rfl, _, rfl, by show 2 ≤ sizeLine; decide, fun t3 ht3 => ?_⟩
    have Y3 := Y2.new (o := .tup [.ref s7, .int (at' : Nat)]) ht3
    refine ⟨by show 0 ≤ sizeLine; decide, fun n0 hn0 => ?_⟩
    have Y4 := Y3.new (o := .lst (([] : List Addr).map V.ref)) hn0
    refine ⟨by show 2 ≤ sizeLine; decide, fun t4 ht4 => ?_⟩
    have Y5 := Y4.new (o := .tup [.ref n0, .int ((0 : Nat) : Int)]) ht4
    refine ⟨_, rfl, rl, 4, ras.map V.ref, rfl, rfl, Y5.mem (mrl4 (L := [_, _, _, _, _])), by decide, by decide, big (by rw [List.length_map]; show _ * 4 ≤ 5000; omega), fun s8 hs8 => ?_⟩
    obtain ⟨fas, hfas⟩ : ∃ fas : List Addr, fas = ras ++ (ras ++ (ras ++ ras)) := ⟨_, rfl⟩
    have eR : (List.replicate (4 : Int).toNat (ras.map V.ref)).flatten = fas.map V.ref := by
      show ras.map V.ref ++ (ras.map V.ref ++ (ras.map V.ref ++ (ras.map V.ref ++ []))) = _
      rw [hfas]
      simp
    rw [eR]
    have Y6 := Y5.new (o := .lst (fas.map V.ref)) hs8
    obtain ⟨kk, hkk, hkk4⟩ : ∃ kk : Nat, 4 + far % 2 = (kk : Int) ∧ 4 ≤ kk := ⟨(4 + far % 2).toNat, by omega, by omega⟩
    refine ⟨_, rfl, _, _, rfl, rfl, by show (0 : Int) < 2; decide, _, _, rfl, rfl, _, rfl, s8, _, rfl, SqL.of Y6.a0, fun s9 hs9 => ?_⟩
    have ec3 : cutV (fas.map V.ref) none (some (4 + far % 2)) = (fas.take kk).map V.ref := by
      rw [hkk]
      unfold cutV
      rw [HT.sIx_none, HT.sIx_nat, List.drop_zero, Nat.sub_zero, List.map_take, List.length_map]
      rcases Nat.le_total kk fas.length with z | z
      · rw [Nat.min_eq_left z]
      · rw [Nat.min_eq_right z, List.take_of_length_le (by rw [List.length_map]; exact Nat.le_refl _), List.take_of_length_le (by rw [List.length_map]; exact z)]
    rw [ec3]
    have Y7 := Y6.new (o := .lst ((fas.take kk).map V.ref)) hs9
    refine ⟨by show 2 ≤ sizeLine; decide, fun t5 ht5 => ?_⟩
    have Y8 := Y7.new (o := .tup [.ref s9, .int ((3 : Nat) : Int)]) ht5
    refine ⟨by show 5 ≤ sizeLine; decide, fun s10 hs10 => ?_⟩
    have Y9 := Y8.new (o := .lst [.ref t1, .ref t2, .ref t3, .ref t4, .ref t5]) hs10
    obtain ⟨N3, hN3⟩ : ∃ N3 : List Cell, N3 = (s10, HO.lst [.ref t1, .ref t2, .ref t3, .ref t4, .ref t5]) :: (t5, .tup [.ref s9, .int ((3 : Nat) : Int)]) :: (s9, .lst ((fas.take kk).map V.ref)) :: (s8, .lst (fas.map V.ref)) :: (t4, .tup [.ref n0, .int ((0 : Nat) : Int)]) :: (n0, .lst (([] : List Addr).map V.ref)) :: (t3, .tup [.ref s7, .int (at' : Nat)]) :: (t2, .tup [.ref s7, .int (at' : Nat)]) :: (t1, .tup [.ref s7, .int (at' : Nat)]) :: N2 := ⟨_, rfl⟩
    have hNT3 : NT N3 := by
      rw [hN3]
      exact NT.cons rfl (NT.cons rfl (NT.cons rfl (NT.cons rfl (NT.cons rfl (NT.cons rfl (NT.cons rfl (NT.cons rfl (NT.cons rfl hNT2))))))))
    have h23 : ∀ x ∈ N2, x ∈ N3 := fun x hx => by rw [hN3]; simp [hx]
    have Y10 := Y9.perm (L' := c2 :: (S ++ (N3 ++ R))) (by rw [hN3]; walk_at "perm")
    refine ⟨_, rfl, rw, S, c2, 5, _, rfl, hc2, by decide, Y10, fun v5 c3 H9 h50 h55 hc3 Z => ?_⟩
    have rowA : RowsAt (N3 ++ R) s7 bas ((us.map Rul.vs).take at' ++ [xs] ++ ((us.map Rul.vs).drop (at' + 1) ++ [[]])) := by
      have mR : ∀ x ∈ R, x ∈ N3 ++ R := fun x hx => List.mem_append_right _ hx
      have m3 : ∀ x ∈ N2, x ∈ N3 ++ R := fun x hx => List.mem_append_left _ (h23 x hx)
      refine ⟨m3 _ ms7, ?_, fun ys hy => ?_, ?_⟩
      · rw [hbas, List.append_assoc (ras.take at' ++ [a])]
        exact TA.app (TA.app ((hvs.take at').mono mR) ⟨m3 _ ma, trivial⟩) (TA.app ((hvs.drop (at' + 1)).mono mR) ⟨m3 _ me, trivial⟩)
      · have fl : ∀ z ∈ us.map Rul.vs, FlatX z := fun z hz => by
          obtain ⟨q, _, rfl⟩ := List.mem_map.mp hz
          exact rulFl q
        rcases List.mem_append.mp hy with h | h
        · rcases List.mem_append.mp h with h | h
          · exact fl _ (List.mem_of_mem_take h)
          · rw [List.mem_singleton.mp h]
            exact hfl
        · rcases List.mem_append.mp h with h | h
          · exact fl _ (List.mem_of_mem_drop h)
          · rw [List.mem_singleton.mp h]
            exact flatOf rfl (by show 0 ≤ 1000; decide)
      · simp only [List.length_append, List.length_take, List.length_drop, List.length_map, List.length_cons, List.length_nil]
        omega
    have badA : RsBad ((us.map Rul.vs).take at' ++ [xs] ++ ((us.map Rul.vs).drop (at' + 1) ++ [[]])) at' := bad_one hus hat hb
    have ms10 : (s10, HO.lst [.ref t1, .ref t2, .ref t3, .ref t4, .ref t5]) ∈ N3 := by rw [hN3]; exact List.mem_cons_self
    have sqZ : SqL K H9 s10 [.ref t1, .ref t2, .ref t3, .ref t4, .ref t5] := SqL.of (Z.mem (List.mem_cons_of_mem _ (List.mem_append_right _ (List.mem_append_left _ ms10))))
    rcases (show v5 = 0 ∨ v5 = 1 ∨ v5 = 2 ∨ v5 = 3 ∨ v5 = 4 by omega) with rfl | rfl | rfl | rfl | rfl
    · exact ⟨s10, _, _, .ref t1, rfl, rfl, sqZ, rfl, k t1 s7 at' bas _ N3 c3 H9 (by rw [hN3]; simp) rowA badA hNT3 hc3 Z⟩
    · exact ⟨s10, _, _, .ref t2, rfl, rfl, sqZ, rfl, k t2 s7 at' bas _ N3 c3 H9 (by rw [hN3]; simp) rowA badA hNT3 hc3 Z⟩
    · exact ⟨s10, _, _, .ref t3, rfl, rfl, sqZ, rfl, k t3 s7 at' bas _ N3 c3 H9 (by rw [hN3]; simp) rowA badA hNT3 hc3 Z⟩
    · exact ⟨s10, _, _, .ref t4, rfl, rfl, sqZ, rfl, k t4 n0 0 [] [] N3 c3 H9 (by rw [hN3]; simp) ⟨by rw [hN3]; simp, trivial, (fun x hx => nomatch hx), by show 0 ≤ 100000; decide⟩ (.inr ⟨rfl, rfl⟩) hNT3 hc3 Z⟩
    · refine ⟨s10, _, _, .ref t5, rfl, rfl, sqZ, rfl, k t5 s9 3 (fas.take kk) _ N3 c3 H9 (by rw [hN3]; simp) ⟨by rw [hN3]; simp, ?_, fun ys hy => ?_, ?_⟩ (bad_four hus hkk4) hNT3 hc3 Z⟩
      · rw [hfas]
        have mR : ∀ x ∈ R, x ∈ N3 ++ R := fun x hx => List.mem_append_right _ hx
        exact TA.take kk (TA.app (hvs.mono mR) (TA.app (hvs.mono mR) (TA.app (hvs.mono mR) (hvs.mono mR))))
      · have := List.mem_of_mem_take hy
        simp only [List.mem_append] at this
        have : ys ∈ us.map Rul.vs := by rcases this with h | h | h | h <;> exact h
        obtain ⟨q, _, rfl⟩ := List.mem_map.mp this
        exact rulFl q
      · simp only [List.length_take, List.length_append, List.length_map]
        omega

end
-- WwHs
local macro_rules | `(tactic| walk_at "perm") => `(tactic| (refine cnt_perm fun c => ?_; simp only [List.append_eq, cnt_app, cnt_cons, cnt_nil, List.append_assoc, List.cons_append, List.nil_append] <;> omega))
/-! ### a hall refuses, as the law asks it -/
theorem call_lenK (K : PySem.W.Frag) {X : Cx} (hK : X.K = K) : CallR X (.builtin "len") (fun xs H Q => ∃ p ys, xs = [.ref p] ∧ (SqL K H p ys ∨ SqT K H p ys) ∧ Q (.int ((ys.length : Nat) : Int)) H) := by
  subst hK
  exact call_len_seq
theorem lstCons_go {a : TE} {r : L2.TA} {σ : L2.St} {H : Hp} {Q : VK} (h : a σ H fun x H1 => r σ H1 fun xs H2 => (x :: xs).length ≤ sizeLine ∧ ∀ p, H2 p = none → Q (.ref p) (upd H2 p (.lst (x :: xs)))) : tLst (tCons a r) σ H Q := h
theorem RowC.nt {K : PySem.W.Frag} {rw : Addr} {S : List Cell} {c : Cell} (h : RowC K rw S c) : isTb c.2 = false := by
  obtain ⟨_, _, _, _, _, _, _, rfl⟩ := h
  rfl
theorem lns_nt {CL : Addr} : ∀ ls : List LnA, NT (lnsC CL ls)
  | [] => NT.nil
  | l :: r => NT.cons rfl (NT.cons rfl (lns_nt r))
theorem sts_nt {CL : Addr} : ∀ ss : List (Addr × List LnA), NT (stsC CL ss)
  | [] => NT.nil
  | s :: r => NT.app (NT.cons rfl (lns_nt s.2)) (sts_nt r)
theorem rm_nt {CL CR di a : Addr} {be : Pa} {r : Rm} {C : List Cell} (h : RmRep CL CR di a be r C) : NT C := by
  obtain ⟨hd, ss, _, _, _, _, _, _, rfl⟩ := h
  exact NT.app (NT.cons rfl (NT.cons rfl (NT.cons rfl NT.nil))) (sts_nt ss)
theorem rep_nt {CF CL CR di : Addr} : ∀ {be : Pa} {rs : List Rm} {far : List Int} {C : List Cell}, Rep CF CL CR di be rs far C → NT C
  | .far _, [], _, _, ⟨_, _, e⟩ => by
    rw [e]
    exact NT.cons rfl (NT.cons rfl NT.nil)
  | .far _, _ :: _, _, _, h => h.elim
  | .room _ _, [], _, _, h => h.elim
  | .room _ be, _ :: _, _, _, ⟨_, _, h1, h2, e⟩ => by
    rw [e]
    exact NT.app (rm_nt h1) (rep_nt h2)
theorem owns_nt {K : PySem.W.Frag} {di : Addr} {be : Pa} : ∀ {as : List Addr} {rs : List Rm} {C : List Cell}, OwnsRep K di be as rs C → NT C
  | [], [], _, h => by
    have h : _ = [] := h
    rw [h]
    exact NT.nil
  | [], _ :: _, _, h => h.elim
  | _ :: _, [], _, h => h.elim
  | _ :: _, _ :: _, _, ⟨_, _, h1, h2, e⟩ => by
    rw [e]
    exact NT.app (rm_nt h1) (owns_nt h2)
theorem log_nt : ∀ (as : List Addr) (es : List Ent), NT (logC as es)
  | [], [] => NT.nil
  | [], _ :: _ => NT.nil
  | _ :: _, [] => NT.nil
  | _ :: as, _ :: es => NT.cons rfl (log_nt as es)
theorem HallRep.nt {K : PySem.W.Frag} {x : Addr} {ha : Ha} {C : List Cell} (h : HallRep K x ha C) : NT C := by
  obtain ⟨A, _, Co, Cb, D, h1, h2, ⟨as, _, h3⟩, rfl⟩ := h
  rw [h3]
  exact NT.app (NT.cons rfl (NT.cons rfl (NT.cons rfl NT.nil))) (NT.app (owns_nt h1) (NT.app (rep_nt h2) (NT.cons rfl (log_nt _ _))))
theorem hall_obj {K : PySem.W.Frag} {x : Addr} {ha : Ha} {C : List Cell} (h : HallRep K x ha C) : ∃ (dx : Addr) (v1 v2 v3 v4 : V), ∀ {H : Hp} {L : List Cell}, Own H L → (∀ c ∈ C, c ∈ L) → H x = some (.ins (cH K) dx (fHall v1 v2 v3 v4)) := by
  obtain ⟨A, hAx, Co, Cb, D, h1, h2, h3, eC⟩ := h
  refine ⟨A.dx, .ref A.di, .ref A.sh.last, .ref A.sl, .ref A.ol, fun O hs => ?_⟩
  rw [← hAx]
  exact O.mem (hs _ (by rw [eC]; exact List.mem_append_left _ List.mem_cons_self))
def lamQ : Str := (envOfC "law" (defScope s_law) 0 0 .none).qual ++ "<lambda>"
abbrev lamP (K : PySem.W.Frag) : Addr := (He.cT K ("law", none)).2
def lamQH : Str := (envOfC "_law_halls" (defScope s__law_halls) 0 0 .none).qual ++ "<lambda>"
abbrev lamPH (K : PySem.W.Frag) : Addr := (He.cT K ("_law_halls", none)).2
abbrev lamTs (K : PySem.W.Frag) : List (Addr × Str) := [(lamP K, lamQ), (lamPH K, lamQH)]
abbrev TBs (K : PySem.W.Frag) (TL : List Cell) : Prop := Tb2 TL (lamP K) lamQ (lamPH K) lamQH
def spHallsL (K : PySem.W.Frag) : Sp := fun vs H Q _ => ∃ (rw rl : Addr) (S : List Cell) (c : Cell) (us : List Rul) (m : Nat) (far : Int) (R TL : List Cell), vs = [.ref rw, .ref rl, .int (m : Nat), .int far] ∧ 0 ≤ far ∧ RulesOk us ∧ RulesAt R rl us ∧ 1 ≤ m ∧ m ≤ 3 ∧ RowC K rw S c ∧ NT S ∧ NT R ∧ TBs K TL ∧ Own H (c :: (S ++ (R ++ TL))) ∧
  ∀ (c' : Cell) (TL' : List Cell) (H' : Hp), RowC K rw S c' → TBs K TL' → Own H' (c' :: (S ++ (R ++ TL'))) → Q (.bl true) H'
theorem look_999 {us : List Rul} {m : Nat} (hus : RulesOk us) (hm1 : 1 ≤ m) (hm3 : m ≤ 3) : (hLook (us.length - 1) (hChange (us.length - 1) (hall0 us m) (m - 1) 63 999) 0 63).1 = 999 := by
  have hd : ∀ d ∈ [Deed.set (m - 1) 63 999, Deed.look 0 63], d.ok m := fun d hd => by
    simp only [List.mem_cons, List.not_mem_nil, or_false] at hd
    rcases hd with e | e <;> rw [e]
    · exact ⟨by omega, by decide, by decide, by decide⟩
    · exact ⟨by omega, by decide⟩
  have h := (told_plain (ds := [Deed.set (m - 1) 63 999, Deed.look 0 63]) hus hm1 hm3 hd).1
  have h1 : (toldOf us m [Deed.set (m - 1) 63 999, Deed.look 0 63]).1 = [(hLook (us.length - 1) (hChange (us.length - 1) (hall0 us m) (m - 1) 63 999) 0 63).1] := rfl
  have h2 : (plRun cs0 [Deed.set (m - 1) 63 999, Deed.look 0 63]).1 = [999] := rfl
  rw [h1, h2] at h
  exact List.head_eq_of_cons_eq h
section
variable {P : Program} {w : World} {K : PySem.W.Frag} {mg : Str → Option Value} {base : Heap} {n lv : Nat}
theorem ok_halls (T : Txt K mg) (TB : LamX.TabB base mg (He.cT K ("_law_halls", none)).1 (lamPH K)) : FnOk P w K mg base CX0 18 (He.fAd K ("_law_halls", none)) T.fd__law_halls ["_law_row", "_law_rules_here", "_law_hands", "_law_far"] (spHallsL K) := by
  have G__law_taken := ok_taken (P := P) (w := w) (base := base) T
  have G__law_alike := ok_alike (P := P) (w := w) (base := base) T 1
  have G_Hall___init__ := ok_Hall_init (P := P) (w := w) (base := base) T
  have G_Hall_log := ok_H_log (P := P) (w := w) (base := base) T
  have G_Hall_far := ok_H_far (P := P) (w := w) (base := base) T
  have G_Hall_change := ok_H_change (P := P) (w := w) (base := base) T
  have G_Hall_look := ok_H_look (P := P) (w := w) (base := base) T
  obtain ⟨oc, od, dW, kV, doc, pm, an, cdg, ct, osl, efd, lkW, hcW, _, _⟩ := T.F__law_word.ex
  have bW := T.b__law_word
  rw [efd] at lkW bW
  have hmT : (lamPH K, lamQH) ∈ lamTs K := List.mem_cons_of_mem _ List.mem_cons_self
  have huT : ∀ p ∈ lamTs K, p.1 = lamPH K → p.2 = lamQH := fun p hp e => by
    rcases List.mem_cons.mp hp with z | z
    · rw [z] at e
      exact absurd e T.pp
    · rw [List.mem_singleton.mp z]
  refine okTab T.F__law_halls sc__law_halls (fun vs H Q E h => ?_) (fun A outer s H vs Q E hr h => ?_)
  · obtain ⟨_, _, _, _, _, _, _, _, _, rfl, _⟩ := h
    rfl
  · obtain ⟨rw, rl, S, c, us, m, far, R, TL, rfl, hf0, hus, hra, hm1, hm3, hc, hS, hR, hT, O, k⟩ := h
    refine ⟨_, (pss_cons (ps_set (i := 4) sc__law_halls.nd rfl (Or.inr rfl) (pe_make T.mk_Hall G_Hall___init__ (hr.mono (by omega)) rfl T.g_Hall T.b_Hall___init__ .nil pass0 (pa_cons (pv 1) (pa_cons (pv 2) pa_nil)))) (pss_cons (ps_set (i := 5) sc__law_halls.nd rfl (Or.inr rfl) (pe_ix ix_list (pe_lst (pa_cons (pe_op op_add (pv 2) (pv 3)) (pa_cons (pe_op op_sub (pe_op op_sub pe_int pe_int) (pv 3)) pa_nil))) (pe_call G__law_taken (hr.mono (by omega)) rfl T.g__law_taken T.k__law_taken T.b__law_taken .nil pass0 (pa_cons (pv 0) (pa_cons pe_int pa_nil))) (fun _ _ => rfl))) (pss_cons (ps_set (i := 6) sc__law_halls.nd rfl (Or.inr rfl) (pe_ix ix_list (pe_lst (pa_cons (pe_op op_add pe_int (pv 3)) (pa_cons (pe_op op_sub (pe_op op_sub pe_int pe_int) (pv 3)) pa_nil))) (pe_call G__law_taken (hr.mono (by omega)) rfl T.g__law_taken T.k__law_taken T.b__law_taken .nil pass0 (pa_cons (pv 0) (pa_cons pe_int pa_nil))) (fun _ _ => rfl))) (pss_cons (ps_set (i := 7) sc__law_halls.nd rfl (Or.inr rfl) (pe_ix ix_list (pe_lst (pa_cons (pe_op op_add pe_int (pv 3)) (pa_cons (pe_op op_sub (pe_op op_sub pe_int pe_int) (pv 3)) pa_nil))) (pe_call G__law_taken (hr.mono (by omega)) rfl T.g__law_taken T.k__law_taken T.b__law_taken .nil pass0 (pa_cons (pv 0) (pa_cons pe_int pa_nil))) (fun _ _ => rfl))) (pss_cons (ps_set (i := 8) sc__law_halls.nd rfl (Or.inl rfl) (pe_lst (pa_cons (pe_callLam (k := 5) (by rfl) T.g__law_word T.k__law_word lkW hcW bW sc__law_word rfl (.inl rfl) (word_gives T) (hr.mono (by omega)) (pe_lamV (T := lamTs K) (B := ⟨_, _, _, none, []⟩) TB rfl hmT huT (dfl0 rfl) (fun ok => LmS.has (lmS_by (by rfl)) ok))) (pa_cons (pe_callLam (k := 5) (by rfl) T.g__law_word T.k__law_word lkW hcW bW sc__law_word rfl (.inl rfl) (word_gives T) (hr.mono (by omega)) (pe_lamV (T := lamTs K) (B := ⟨_, _, _, (some 0), ["_law_a"]⟩) TB rfl hmT huT (dfl1 rfl pe_int) (fun ok => LmS.has (lmS_by (by rfl)) ok))) pa_nil)))) (pss_cons (ps_set (i := 8) sc__law_halls.nd rfl (Or.inl rfl) (pe_op op_cat (pv 8) (pe_lst (pa_cons (pe_callLam (k := 5) (by rfl) T.g__law_word T.k__law_word lkW hcW bW sc__law_word rfl (.inl rfl) (word_gives T) (hr.mono (by omega)) (pe_lamV (T := lamTs K) (B := ⟨_, _, _, (some 0), ["_law_b"]⟩) TB rfl hmT huT (dfl1 rfl pe_int) (fun ok => LmS.has (lmS_by (by rfl)) ok))) (pa_cons (pe_callLam (k := 5) (by rfl) T.g__law_word T.k__law_word lkW hcW bW sc__law_word rfl (.inl rfl) (word_gives T) (hr.mono (by omega)) (pe_lamV (T := lamTs K) (B := ⟨_, _, _, (some 0), ["_law_c"]⟩) TB rfl hmT huT (dfl1 rfl pe_int) (fun ok => LmS.has (lmS_by (by rfl)) ok))) pa_nil))))) (pss_cons (ps_expr (pe_bm PySem.F.plainAttrs_list PySem.F.slot_list_append PySem.F.type_list_append mt_append (pv 8) (pa_cons (pe_callLam (k := 5) (by rfl) T.g__law_word T.k__law_word lkW hcW bW sc__law_word rfl (.inl rfl) (word_gives T) (hr.mono (by omega)) (pe_lamV (T := lamTs K) (B := ⟨_, _, _, (some 0), ["_law_e"]⟩) TB rfl hmT huT (dfl1 rfl pe_int) (fun ok => LmS.has (lmS_by (by rfl)) ok))) pa_nil))) (pss_cons (ps_set (i := 9) sc__law_halls.nd rfl (Or.inr rfl) (pe_ix ix_list (pe_lst (pa_cons (pe_op op_add (pe_callB call_len_seq (by rfl) T.n_len PySem.boot_len (pa_cons (pv 1) pa_nil)) (pv 3)) (pa_cons (pe_op op_sub (pe_op op_sub pe_int pe_int) (pv 3)) pa_nil))) (pe_call G__law_taken (hr.mono (by omega)) rfl T.g__law_taken T.k__law_taken T.b__law_taken .nil pass0 (pa_cons (pv 0) (pa_cons pe_int pa_nil))) (fun _ _ => rfl))) (pss_cons (ps_expr (pe_bm PySem.F.plainAttrs_list PySem.F.slot_list_append PySem.F.type_list_append mt_append (pv 8) (pa_cons (pe_callLam (k := 5) (by rfl) T.g__law_word T.k__law_word lkW hcW bW sc__law_word rfl (.inl rfl) (word_gives T) (hr.mono (by omega)) (pe_lamV (T := lamTs K) (B := ⟨_, _, _, (some 0), ["_law_f"]⟩) TB rfl hmT huT (dfl1 rfl pe_int) (fun ok => LmS.has (lmS_by (by rfl)) ok))) pa_nil))) (pss_cons (ps_expr (pe_bm PySem.F.plainAttrs_list PySem.F.slot_list_append PySem.F.type_list_append mt_append (pv 8) (pa_cons (pe_callLam (k := 5) (by rfl) T.g__law_word T.k__law_word lkW hcW bW sc__law_word rfl (.inl rfl) (word_gives T) (hr.mono (by omega)) (pe_lamV (T := lamTs K) (B := ⟨_, _, _, (some 0), ["_law_g"]⟩) TB rfl hmT huT (dfl1 rfl pe_int) (fun ok => LmS.has (lmS_by (by rfl)) ok))) pa_nil))) (pss_cons (ps_if (pt_cmpR (op_neD hr.units) (pv 8) (pe_lst (pa_cons pe_str (pa_cons pe_str (pa_cons pe_str (pa_cons pe_str (pa_cons pe_str (pa_cons pe_str (pa_cons pe_str pa_nil)))))))) (nomark _)) (pss_one (ps_ret pe_bl)) pss_nil) (pss_cons (ps_if (PW.pt (pw_or (pt_cmpR (op_neD hr.units) (pe_meth0 (pv 4) T.cl_Hall T.m_Hall_log G_Hall_log (hr.mono (by omega)) T.b_Hall_log .nil pass0) (pe_lst pa_nil) (nomark _)) (pw_or1 (pt_cmpR (op_neD hr.units) (pe_meth0 (pv 4) T.cl_Hall T.m_Hall_far G_Hall_far (hr.mono (by omega)) T.b_Hall_far .nil pass0) (pe_op op_rep (pe_lst (pa_cons pe_int pa_nil)) pe_int) (nomark _))))) (pss_one (ps_ret pe_bl)) pss_nil) (pss_cons (ps_expr (pe_meth (pv 4) T.cl_Hall T.m_Hall_change G_Hall_change (hr.mono (by omega)) T.b_Hall_change .nil pass0 (pa_cons (pe_op op_sub (pv 2) pe_int) (pa_cons pe_int (pa_cons pe_int pa_nil))))) (pss_one (ps_ret (pe_call G__law_alike (hr.mono (by omega)) rfl T.g__law_alike T.k__law_alike T.b__law_alike .nil pass0 (pa_cons (pe_meth (pv 4) T.cl_Hall T.m_Hall_look G_Hall_look (hr.mono (by omega)) T.b_Hall_look .nil pass0 (pa_cons pe_int (pa_cons pe_int pa_nil))) (pa_cons pe_int pa_nil)))))))))))))))))), ?_⟩
    obtain ⟨ras, mrl, hraa⟩ := id hra
    have hral := hraa.len
    have hl1 := hus.l1
    have hl3 := hus.l3
    -- the hall
    refine ⟨_, rfl, _, rfl, fun x dx hx hdx hne => ?_⟩
    have O1 := (O.keepNew (o := .own x) hdx).new (p := x) (o := .ins (cH K) dx []) (by rw [upd_ne (Ne.symm hne)]; exact hx)
    refine ⟨x, dx, rl, us, m, _, rfl, hus, hm1, hm3, ⟨ras, by simp [mrl], hraa.mono fun z hz => by simp [hz]⟩, O1, fun C H1 hC O2 => ⟨rfl, ?_⟩⟩
    have hk0 := hall0_ok hus hm1 hm3
    obtain ⟨dx2, w1, w2, w3, w4, hxo⟩ := hall_obj hC
    -- what can't be
    have two : ∀ (a b : Int), ∀ v : Int, 0 ≤ v → v < 2 → ∃ y, atI [V.int a, .int b] v = some (.int y) ∧ (y = a ∨ y = b) := fun a b v h0 h2 => by
      rcases (show v = 0 ∨ v = 1 by omega) with rfl | rfl
      · exact ⟨a, rfl, .inl rfl⟩
      · exact ⟨b, rfl, .inr rfl⟩
    refine ⟨_, rfl, _, rfl, _, _, rfl, rfl, _, _, rfl, rfl, _, rfl, _, _, rfl, rfl, by show 2 ≤ sizeLine; decide, fun p1 hp1 => ?_⟩
    have O3 := O2.new (o := .lst [.int ((m : Nat) + far), .int (0 - 1 - far)]) hp1
    refine ⟨_, rfl, rw, S, c, 2, (p1, .lst [.int ((m : Nat) + far), .int (0 - 1 - far)]) :: (C ++ (R ++ TL)), rfl, hc, by decide, O3.perm (by walk_at "perm"), fun v1 c1 H2 h10 h12 hc1 O4 => ?_⟩
    obtain ⟨hand, hh, hhv⟩ := two ((m : Nat) + far) (0 - 1 - far) v1 h10 h12
    have hbad : ¬ (0 ≤ hand ∧ hand ≤ (m : Int) - 1) := by omega
    refine ⟨p1, _, _, .int hand, rfl, rfl, SqL.of (O4.mem (show (p1, HO.lst [.int ((m : Nat) + far), .int (0 - 1 - far)]) ∈ _ by simp)), hh, ?_⟩
    refine ⟨_, rfl, _, _, rfl, rfl, _, _, rfl, rfl, _, rfl, _, _, rfl, rfl, by show 2 ≤ sizeLine; decide, fun p2 hp2 => ?_⟩
    have O5 := O4.new (o := .lst [.int (64 + far), .int (0 - 1 - far)]) hp2
    refine ⟨_, rfl, rw, S, c1, 2, (p2, .lst [.int (64 + far), .int (0 - 1 - far)]) :: (p1, .lst [.int ((m : Nat) + far), .int (0 - 1 - far)]) :: (C ++ (R ++ TL)), rfl, hc1, by decide, O5.perm (by walk_at "perm"), fun v2 c2 H3 h20 h22 hc2 O6 => ?_⟩
    obtain ⟨place, hpl, hpv⟩ := two (64 + far) (0 - 1 - far) v2 h20 h22
    have pbad : ¬ (0 ≤ place ∧ place ≤ 63) := by omega
    refine ⟨p2, _, _, .int place, rfl, rfl, SqL.of (O6.mem (show (p2, HO.lst [.int (64 + far), .int (0 - 1 - far)]) ∈ _ by simp)), hpl, ?_⟩
    refine ⟨_, rfl, _, _, rfl, rfl, _, _, rfl, rfl, _, rfl, _, _, rfl, rfl, by show 2 ≤ sizeLine; decide, fun p3 hp3 => ?_⟩
    have O7 := O6.new (o := .lst [.int (1000 + far), .int (0 - 1 - far)]) hp3
    refine ⟨_, rfl, rw, S, c2, 2, (p3, .lst [.int (1000 + far), .int (0 - 1 - far)]) :: (p2, .lst [.int (64 + far), .int (0 - 1 - far)]) :: (p1, .lst [.int ((m : Nat) + far), .int (0 - 1 - far)]) :: (C ++ (R ++ TL)), rfl, hc2, by decide, O7.perm (by walk_at "perm"), fun v3 c3 H4 h30 h32 hc3 O8 => ?_⟩
    obtain ⟨num, hnu, hnv⟩ := two (1000 + far) (0 - 1 - far) v3 h30 h32
    have nbad : ¬ (0 ≤ num ∧ num ≤ 999) := by omega
    refine ⟨p3, _, _, .int num, rfl, rfl, SqL.of (O8.mem (show (p3, HO.lst [.int (1000 + far), .int (0 - 1 - far)]) ∈ _ by simp)), hnu, ?_⟩
    obtain ⟨L1, hL1⟩ : ∃ L1 : List Cell, L1 = c3 :: (S ++ (C ++ R)) := ⟨_, rfl⟩
    have nL1 : NT L1 := by
      rw [hL1]
      exact NT.cons hc3.nt (NT.app hS (NT.app hC.nt hR))
    have U0 : Own H4 (L1 ++ TL) := Own.right (L' := [(p3, .lst [.int (1000 + far), .int (0 - 1 - far)]), (p2, .lst [.int (64 + far), .int (0 - 1 - far)]), (p1, .lst [.int ((m : Nat) + far), .int (0 - 1 - far)])]) (O8.perm (by rw [hL1]; walk_at "perm"))
    clear O8 O7 O6 O5 O4 O3 O2 O1 O
    have hown : (hall0 us m).own.length = m := hk0.len
    have hCL : ∀ {F M : List Cell}, ∀ z ∈ C, z ∈ F ++ (L1 ++ M) := fun {F M} z hz => by rw [hL1]; simp [hz]
    -- the cells of the hall ahead of the others
    have pmC : ∀ {F M : List Cell}, (F ++ (L1 ++ M)).Perm (C ++ (F ++ (c3 :: (S ++ (R ++ M))))) := fun {F M} => by rw [hL1]; walk_at "perm"
    have G_look0 := G_Hall_look
    have G_change0 := G_Hall_change
    clear G_Hall_look G_Hall_change
    have G_Hall_look := ok_H_lookX (P := P) (w := w) (base := base) T
    have G_Hall_change := ok_H_changeX (P := P) (w := w) (base := base) T
    have G_Hall_near := ok_H_nearX (P := P) (w := w) (base := base) T
    -- words
    refine seqLst_go ?_
    refine callLam_go2 (L := L1) U0 nL1 hT fun f1 H5 F1 TL1 hT1 hNF1 hLC1 V1 => ⟨_, ⟨lmS_by (by rfl), (lbd0 fun _ _ _ _ _ => rfl), fun A outer s H E f c' hr => (pe_meth (pv 4) T.cl_Hall T.m_Hall_look G_Hall_look (hr.mono (by omega)) T.b_Hall_look .nil (passes_call (takes_of rfl rfl rfl rfl) fun _ _ _ _ z => z) (pa_cons (pv 5) (pa_cons (pv 6) pa_nil)))⟩, hLC1.at V1, ?_⟩
    refine ⟨_, rfl, x, dx2, _, rfl, hxo V1 hCL, no_Hall_look, _, rfl, _, rfl, x, m, hall0 us m, hand, place, C, _, rfl, hown, hC, V1.perm pmC, .inl ⟨hbad, fun H6 V2 => ?_⟩⟩
    refine ⟨2, _, _, _, rfl, rfl, rfl, V2.perm pmC.symm, .inl ⟨rfl, rfl, fun H7 V3 => ?_⟩⟩
    replace V3 := Own.right V3
    refine tCons_go ?_
    refine callLam_go2 (L := L1) V3 nL1 hT1 fun f2 H8 F2 TL2 hT2 hNF2 hLC2 V4 => ⟨_, ⟨lmS_by (by rfl), (lbd1 fun _ _ _ _ _ _ _ => ⟨_, rfl, rfl⟩), fun A outer s H E f c' hr => (pe_meth (pv 4) T.cl_Hall T.m_Hall_change G_Hall_change (hr.mono (by omega)) T.b_Hall_change .nil (passes_call (takes_of rfl rfl rfl rfl) fun _ _ _ _ z => z) (pa_cons (pv 5) (pa_cons (pv 6) (pa_cons (pv 7) pa_nil))))⟩, hLC2.at V4, ?_⟩
    refine ⟨_, rfl, x, dx2, _, rfl, hxo V4 hCL, no_Hall_change, _, rfl, _, rfl, _, rfl, x, m, hall0 us m, hand, place, num, C, _, rfl, hown, hC, V4.perm pmC, .inl ⟨hbad, fun H9 V5 => ?_⟩⟩
    refine ⟨2, _, _, _, rfl, rfl, rfl, V5.perm pmC.symm, .inl ⟨rfl, rfl, fun H10 V6 => ?_⟩⟩
    replace V6 := Own.right V6
    clear V1 V2 V3 V4 V5 hLC1 hLC2 hT1
    refine ⟨by show 2 ≤ sizeLine; decide, fun q1 hq1 => ?_⟩
    have V7 := V6.new (o := .lst [.str "hand", .str "hand"]) hq1
    have pmC1 : ∀ {F M : List Cell} {z : Cell}, (F ++ ((z :: L1) ++ M)).Perm (C ++ (F ++ (z :: c3 :: (S ++ (R ++ M))))) := fun {F M z} => by rw [hL1]; walk_at "perm"
    have hCL1 : ∀ {F M : List Cell} {z : Cell}, ∀ y ∈ C, y ∈ F ++ ((z :: L1) ++ M) := fun {F M z} y hy => by rw [hL1]; simp [hy]
    have nL : ∀ {z : Addr} {ys : List V}, NT ((z, .lst ys) :: L1) := fun {z ys} => NT.cons rfl nL1
    -- more words
    refine ⟨_, rfl, ?_⟩
    refine lstCons_go ?_
    refine callLam_go2 (L := (q1, .lst [.str "hand", .str "hand"]) :: L1) V7 nL hT2 fun f3 H11 F3 TL3 hT3 hNF3 hLC3 V8 => ⟨_, ⟨lmS_by (by rfl), (lbd1 fun _ _ _ _ _ _ _ => ⟨_, rfl, rfl⟩), fun A outer s H E f c' hr => (pe_meth (pv 4) T.cl_Hall T.m_Hall_look G_Hall_look (hr.mono (by omega)) T.b_Hall_look .nil (passes_call (takes_of rfl rfl rfl rfl) fun _ _ _ _ z => z) (pa_cons pe_int (pa_cons (pv 6) pa_nil)))⟩, hLC3.at V8, ?_⟩
    refine ⟨_, rfl, x, dx2, _, rfl, hxo V8 hCL1, no_Hall_look, _, rfl, x, m, hall0 us m, 0, place, C, _, rfl, hown, hC, V8.perm pmC1, .inr ⟨⟨by decide, by omega⟩, pbad, fun H12 V9 => ?_⟩⟩
    refine ⟨3, _, _, _, rfl, rfl, rfl, V9.perm pmC1.symm, .inl ⟨rfl, rfl, fun H13 V10 => ?_⟩⟩
    replace V10 := Own.right V10
    refine tCons_go ?_
    refine callLam_go2 (L := (q1, .lst [.str "hand", .str "hand"]) :: L1) V10 nL hT3 fun f4 H14 F4 TL4 hT4 hNF4 hLC4 V11 => ⟨_, ⟨lmS_by (by rfl), (lbd1 fun _ _ _ _ _ _ _ => ⟨_, rfl, rfl⟩), fun A outer s H E f c' hr => (pe_meth (pv 4) T.cl_Hall T.m_Hall_change G_Hall_change (hr.mono (by omega)) T.b_Hall_change .nil (passes_call (takes_of rfl rfl rfl rfl) fun _ _ _ _ z => z) (pa_cons pe_int (pa_cons (pv 6) (pa_cons (pv 7) pa_nil))))⟩, hLC4.at V11, ?_⟩
    refine ⟨_, rfl, x, dx2, _, rfl, hxo V11 hCL1, no_Hall_change, _, rfl, _, rfl, x, m, hall0 us m, 0, place, num, C, _, rfl, hown, hC, V11.perm pmC1, .inr (.inl ⟨⟨by decide, by omega⟩, pbad, fun H15 V12 => ?_⟩)⟩
    refine ⟨3, _, _, _, rfl, rfl, rfl, V12.perm pmC1.symm, .inl ⟨rfl, rfl, fun H16 V13 => ?_⟩⟩
    replace V13 := Own.right V13
    clear V7 V8 V9 V10 V11 V12 hLC3 hLC4 hT2 hT3 V6
    refine ⟨by show 2 ≤ sizeLine; decide, fun q2 hq2 => ?_⟩
    have W1 := V13.new (o := .lst [.str "place", .str "place"]) hq2
    refine ⟨q1, q2, _, _, rfl, rfl, W1.a1, W1.a0, by show 2 + 2 ≤ sizeLine; decide, fun q3 hq3 => ?_⟩
    have W2 := W1.new (o := .lst [.str "hand", .str "hand", .str "place", .str "place"]) hq3
    have W3 : Own _ (((q3, .lst [.str "hand", .str "hand", .str "place", .str "place"]) :: L1) ++ TL4) := Own.right (L' := [(q2, .lst [.str "place", .str "place"]), (q1, .lst [.str "hand", .str "hand"])]) (W2.perm (by refine cnt_perm fun c => ?_; simp only [cnt_app, cnt_cons, cnt_nil, List.append_assoc, List.cons_append, List.nil_append]; omega))
    -- a number
    refine ⟨_, rfl, .inl ⟨rfl, _, SqL.of W3.a0⟩, ?_⟩
    refine tCons_go ?_
    refine callLam_go2 (L := (q3, .lst [.str "hand", .str "hand", .str "place", .str "place"]) :: L1) W3 nL hT4 fun f5 H17 F5 TL5 hT5 hNF5 hLC5 V1 => ⟨_, ⟨lmS_by (by rfl), (lbd1 fun _ _ _ _ _ _ _ => ⟨_, rfl, rfl⟩), fun A outer s H E f c' hr => (pe_meth (pv 4) T.cl_Hall T.m_Hall_change G_Hall_change (hr.mono (by omega)) T.b_Hall_change .nil (passes_call (takes_of rfl rfl rfl rfl) fun _ _ _ _ z => z) (pa_cons (pe_op op_sub (pv 2) pe_int) (pa_cons pe_int (pa_cons (pv 7) pa_nil))))⟩, hLC5.at V1, ?_⟩
    refine ⟨_, rfl, x, dx2, _, rfl, hxo V1 hCL1, no_Hall_change, _, rfl, _, _, rfl, rfl, _, rfl, x, m, hall0 us m, (m : Int) - 1, 63, num, C, _, rfl, hown, hC, V1.perm pmC1, .inr (.inr ⟨⟨by omega, by omega⟩, ⟨by decide, by decide⟩, nbad, fun H18 V2 => ?_⟩)⟩
    refine ⟨4, _, _, _, rfl, rfl, rfl, V2.perm pmC1.symm, .inl ⟨rfl, rfl, fun H19 V3 => ?_⟩⟩
    replace V3 := Own.right V3
    clear W1 W2 W3 V1 V2 V13 hLC5 hT4
    refine ⟨q3, _, _, rfl, rfl, V3.a0, by show 4 < sizeLine; decide, ?_⟩
    have W4 := V3.set (o' := .lst [.str "hand", .str "hand", .str "place", .str "place", .str "number"])
    -- a level
    have mrl4 : ∀ {F M : List Cell}, (rl, HO.lst (ras.map V.ref)) ∈ F ++ (L1 ++ M) := fun {F M} => by rw [hL1]; simp [mrl]
    refine ⟨_, rfl, rl, _, rfl, .inl (SqL.of (W4.mem (mrl4 (F := [_])))), _, rfl, _, _, rfl, rfl, _, _, rfl, rfl, _, rfl, _, _, rfl, rfl, by show 2 ≤ sizeLine; decide, fun p4 hp4 => ?_⟩
    have W5 := W4.new (o := .lst [.int (((ras.map V.ref).length : Nat) + far), .int (0 - 1 - far)]) hp4
    refine ⟨_, rfl, rw, S, c3, 2, (p4, .lst [.int (((ras.map V.ref).length : Nat) + far), .int (0 - 1 - far)]) :: (q3, .lst [.str "hand", .str "hand", .str "place", .str "place", .str "number"]) :: (C ++ (R ++ TL5)), rfl, hc3, by decide, W5.perm (by rw [hL1]; walk_at "perm"), fun v4 c4 H20 h40 h42 hc4 W6 => ?_⟩
    obtain ⟨level, hlv, hlvv⟩ := two (((ras.map V.ref).length : Nat) + far) (0 - 1 - far) v4 h40 h42
    have lbad : ¬ (0 ≤ level ∧ level ≤ ((us.length - 1 : Nat) : Int)) := by
      rw [List.length_map] at hlvv
      omega
    refine ⟨p4, _, _, .int level, rfl, rfl, SqL.of (W6.mem (show (p4, HO.lst [.int (((ras.map V.ref).length : Nat) + far), .int (0 - 1 - far)]) ∈ _ by simp)), hlv, ?_⟩
    obtain ⟨L2, hL2⟩ : ∃ L2 : List Cell, L2 = c4 :: (S ++ (C ++ R)) := ⟨_, rfl⟩
    have nL2 : ∀ {z : Addr} {ys : List V}, NT ((z, .lst ys) :: L2) := fun {z ys} => by
      rw [hL2]
      exact NT.cons rfl (NT.cons hc4.nt (NT.app hS (NT.app hC.nt hR)))
    have pmC2 : ∀ {F M : List Cell} {z : Cell}, (F ++ ((z :: L2) ++ M)).Perm (C ++ (F ++ (z :: c4 :: (S ++ (R ++ M))))) := fun {F M z} => by rw [hL2]; walk_at "perm"
    have hCL2 : ∀ {F M : List Cell} {z : Cell}, ∀ y ∈ C, y ∈ F ++ ((z :: L2) ++ M) := fun {F M z} y hy => by rw [hL2]; simp [hy]
    have mrl2 : ∀ {F M : List Cell} {z : Cell}, (rl, HO.lst (ras.map V.ref)) ∈ F ++ ((z :: L2) ++ M) := fun {F M z} => by rw [hL2]; simp [mrl]
    have W7 : Own H20 (((q3, .lst [.str "hand", .str "hand", .str "place", .str "place", .str "number"]) :: L2) ++ TL5) := Own.right (L' := [(p4, .lst [.int (((ras.map V.ref).length : Nat) + far), .int (0 - 1 - far)])]) (W6.perm (by rw [hL2]; walk_at "perm"))
    clear W4 W5 W6 V3
    refine ⟨_, rfl, .inl ⟨rfl, _, SqL.of W7.a0⟩, ?_⟩
    refine tCons_go ?_
    refine callLam_go2 (L := (q3, .lst [.str "hand", .str "hand", .str "place", .str "place", .str "number"]) :: L2) W7 nL2 hT5 fun f6 H21 F6 TL6 hT6 hNF6 hLC6 V1 => ⟨_, ⟨lmS_by (by rfl), (lbd1 fun _ _ _ _ _ _ _ => ⟨_, rfl, rfl⟩), fun A outer s H E f c' hr => (pe_meth (pv 4) T.cl_Hall T.m_Hall_near G_Hall_near (hr.mono (by omega)) T.b_Hall_near .nil (passes_call (takes_of rfl rfl rfl rfl) fun _ _ _ _ z => z) (pa_cons (pv 9) (pa_cons (pv 5) pa_nil)))⟩, hLC6.at V1, ?_⟩
    refine ⟨_, rfl, x, dx2, _, rfl, hxo V1 hCL2, no_Hall_near, _, rfl, _, rfl, x, us.length - 1, m, hall0 us m, level, hand, C, _, rfl, hk0, hC, V1.perm pmC2, .inl ⟨lbad, fun H22 V2 => ?_⟩⟩
    refine ⟨6, _, _, _, rfl, rfl, rfl, V2.perm pmC2.symm, .inl ⟨rfl, rfl, fun H23 V3 => ?_⟩⟩
    replace V3 := Own.right V3
    refine ⟨q3, _, _, rfl, rfl, V3.a0, by show 5 < sizeLine; decide, ?_⟩
    have W8 := V3.set (o' := .lst [.str "hand", .str "hand", .str "place", .str "place", .str "number", .str "room"])
    clear V1 V2 V3 W7 hLC6 hT5
    refine ⟨_, rfl, .inl ⟨rfl, _, SqL.of W8.a0⟩, ?_⟩
    refine tCons_go ?_
    refine callLam_go2 (L := (q3, .lst [.str "hand", .str "hand", .str "place", .str "place", .str "number", .str "room"]) :: L2) W8 nL2 hT6 fun f7 H24 F7 TL7 hT7 hNF7 hLC7 V1 => ⟨_, ⟨lmS_by (by rfl), (lbd1 fun _ _ _ _ _ _ _ => ⟨_, rfl, rfl⟩), fun A outer s H E f c' hr => (pe_meth (pv 4) T.cl_Hall T.m_Hall_near G_Hall_near (hr.mono (by omega)) T.b_Hall_near .nil (passes_call (takes_of rfl rfl rfl rfl) fun _ _ _ _ z => z) (pa_cons (pe_op op_sub (pe_callB (call_lenK K (by rfl)) (by rfl) T.n_len PySem.boot_len (pa_cons (pv 1) pa_nil)) pe_int) (pa_cons (pv 5) pa_nil)))⟩, hLC7.at V1, ?_⟩
    refine ⟨_, rfl, x, dx2, _, rfl, hxo V1 hCL2, no_Hall_near, _, rfl, rl, _, rfl, .inl (SqL.of (V1.mem mrl2)), _, _, rfl, rfl, _, rfl, x, us.length - 1, m, hall0 us m, ((ras.map V.ref).length : Nat) - 1, hand, C, _, rfl, hk0, hC, V1.perm pmC2, .inr ⟨by rw [List.length_map]; omega, hbad, fun H25 V2 => ?_⟩⟩
    refine ⟨2, _, _, _, rfl, rfl, rfl, V2.perm pmC2.symm, .inl ⟨rfl, rfl, fun H26 V3 => ?_⟩⟩
    replace V3 := Own.right V3
    refine ⟨q3, _, _, rfl, rfl, V3.a0, by show 6 < sizeLine; decide, ?_⟩
    have W9 := V3.set (o' := .lst [.str "hand", .str "hand", .str "place", .str "place", .str "number", .str "room", .str "hand"])
    clear V1 V2 V3 W8 hLC7 hT6
    -- the words
    refine ⟨_, rfl, by show 7 ≤ sizeLine; decide, fun q4 hq4 => ?_⟩
    have X1 := W9.new (o := .lst [.str "hand", .str "hand", .str "place", .str "place", .str "number", .str "room", .str "hand"]) hq4
    have hsh : SeqAt.shaped (.list [.str "hand", .str "hand", .str "place", .str "place", .str "number", .str "room", .str "hand"]) = true := by decide +kernel
    refine ⟨.list [.str "hand", .str "hand", .str "place", .str "place", .str "number", .str "room", .str "hand"], .list [.str "hand", .str "hand", .str "place", .str "place", .str "number", .str "room", .str "hand"], .lst (SqL.of X1.a1) (.cons (.str _) (.cons (.str _) (.cons (.str _) (.cons (.str _) (.cons (.str _) (.cons (.str _) (.cons (.str _) .nil))))))), .lst (SqL.of X1.a0) (.cons (.str _) (.cons (.str _) (.cons (.str _) (.cons (.str _) (.cons (.str _) (.cons (.str _) (.cons (.str _) .nil))))))), hsh, hsh, false, by rw [eqv_self _ hsh], iteF ?_⟩
    -- nothing is changed
    have X2 : Own _ (C ++ (c4 :: (S ++ (R ++ TL7)))) := Own.right (L' := [(q4, .lst [.str "hand", .str "hand", .str "place", .str "place", .str "number", .str "room", .str "hand"]), (q3, .lst [.str "hand", .str "hand", .str "place", .str "place", .str "number", .str "room", .str "hand"])]) (X1.perm (by rw [hL2]; walk_at "perm"))
    have hLH : LH (hall0 us m) := by show (0 : Nat) ≤ 900000; decide
    refine ⟨_, rfl, x, dx2, _, rfl, hxo X2 (fun y hy => List.mem_append_left _ hy), no_Hall_log, x, us.length - 1, m, hall0 us m, C, _, rfl, hk0, hLH, hC, X2, fun pl las H27 hta X3 => ?_⟩
    obtain rfl : las = [] := by
      have := hta.len
      exact List.length_eq_zero_iff.mp this
    refine ⟨by show 0 ≤ sizeLine; decide, fun e0 he0 => ?_⟩
    have X4 := X3.new (o := .lst []) he0
    refine ⟨.list [], .list [], .lst (SqL.of X4.a1) .nil, .lst (SqL.of X4.a0) .nil, sh0, sh0, false, by rw [eqv_self _ sh0], iteF ?_⟩
    have X5 : Own _ (C ++ (c4 :: (S ++ (R ++ TL7)))) := X4.tail.tail
    refine ⟨_, rfl, x, dx2, _, rfl, hxo X5 (fun y hy => List.mem_append_left _ hy), no_Hall_far, x, us.length - 1, m, hall0 us m, C, _, rfl, hk0, hC, X5, fun pf H28 X6 => ?_⟩
    refine ⟨by show 1 ≤ sizeLine; decide, fun l0 hl0 => ?_⟩
    have X7 := X6.new (o := .lst [.int 0]) hl0
    refine ⟨l0, 64, [.int 0], rfl, rfl, X7.a0, by decide, by decide, by show 1 * 64 ≤ sizeLine; decide, fun l6 hl6 => ?_⟩
    have e0 : (List.replicate (64 : Int).toNat [V.int 0]).flatten = cs0.map V.int := by decide
    rw [e0]
    have X8 := X7.new (o := .lst (cs0.map V.int)) hl6
    have shc : SeqAt.shaped (.list (cs0.map .int)) = true := PySem.W.shaped_ints cs0
    refine ⟨.list (cs0.map .int), .list (cs0.map .int), .lst (SqL.of X8.a2) (dpInts _), .lst (SqL.of X8.a0) (dpInts _), shc, shc, false, by rw [eqv_self _ shc], iteF ?_⟩
    have X9 : Own _ (C ++ (c4 :: (S ++ (R ++ TL7)))) := X8.tail.tail.tail
    -- at the bounds
    refine ⟨_, rfl, x, dx2, _, rfl, hxo X9 (fun y hy => List.mem_append_left _ hy), no_Hall_change, _, rfl, _, _, rfl, rfl, x, us.length - 1, m, m - 1, 63, 999, hall0 us m, C, _, congrArg (fun z => [V.ref x, V.int z, .int 63, .int 999]) (show (m : Int) - 1 = ((m - 1 : Nat) : Int) by omega), by omega, by decide, by decide, by decide, hk0, hLH, hC, X9, fun C2 H29 hC2 X10 => ?_⟩
    obtain ⟨hk2, hl2⟩ := hChange_ok hk0 (m - 1) (show 63 < 64 by decide) 999
    obtain ⟨dx3, y1, y2, y3, y4, hxo2⟩ := hall_obj hC2
    refine ⟨_, rfl, x, dx3, _, rfl, hxo2 X10 (fun y hy => List.mem_append_left _ hy), no_Hall_look, x, us.length - 1, m, 0, 63, _, C2, _, rfl, by omega, by decide, hk2, (by show (hChange (us.length - 1) (hall0 us m) (m - 1) 63 999).t.log.length ≤ 900000; exact Nat.le_trans hl2 (by show 0 + 100 ≤ 900000; decide)), hC2, X10, fun C3 H30 hC3 X11 => ?_⟩
    rw [look_999 hus hm1 hm3]
    exact ⟨.int 999, .int 999, .int 999, _, rfl, .int _, .int _, trivial, X11, fun H31 X12 => k c4 TL7 H31 hc4 hT7 (Own.right X12)⟩
end
-- WwL1
/-! ### the law -/
abbrev lawLv : Nat := 21
def spLaw (K : PySem.W.Frag) : Sp := fun vs H Q _ => ∃ (sc : Addr) (ns : List Int) (S TL : List Cell), vs = [.ref sc] ∧ Scr K sc ns S ∧ NT S ∧ TBs K TL ∧ Own H (S ++ TL) ∧ ∀ H', Q (.bl true) H'
theorem TA.ntOf {N : List Cell} : ∀ {as : List Addr} {us : List (List V)}, TA N as us → TA (nt N) as us
  | [], [], _ => trivial
  | [], _ :: _, h => h.elim
  | _ :: _, [], h => h.elim
  | _ :: _, _ :: _, h => ⟨nt_mem.mpr ⟨h.1, rfl⟩, TA.ntOf h.2⟩
theorem RA.ntOf {N : List Cell} : ∀ {as : List Addr} {us : List Rul}, RA N as us → RA (nt N) as us
  | [], [], _ => trivial
  | [], _ :: _, h => h.elim
  | _ :: _, [], h => h.elim
  | _ :: _, _ :: _, h => ⟨nt_mem.mpr ⟨h.1, rfl⟩, RA.ntOf h.2⟩
theorem rules_rows {R : List Cell} {rl : Addr} {ras : List Addr} {us : List Rul} (h : RulesOk us) (m : (rl, HO.lst (ras.map V.ref)) ∈ R) (ra : RA R ras us) : RowsAt R rl ras (us.map Rul.vs) := by
  have h3 := h.l3
  refine ⟨m, ra.toTA, fun xs hx => ?_, by rw [List.length_map]; omega⟩
  obtain ⟨u, _, rfl⟩ := List.mem_map.mp hx
  exact rulFl u
theorem nil_rows {R : List Cell} {l e : Addr} (h1 : (l, HO.lst ([e].map V.ref)) ∈ R) (h2 : (e, HO.tup []) ∈ R) : RowsAt R l [e] [[]] := ⟨h1, ⟨h2, trivial⟩, fun xs hx => by
  rw [List.mem_singleton.mp hx]
  exact flatOf rfl (by show 0 ≤ 1000; decide), by show 1 ≤ 100000; decide⟩
theorem deedFl (d : Deed) : FlatX d.vs := by
  cases d with
  | look h p => exact flatOf rfl (by show 3 ≤ 1000; decide)
  | set h p v => exact flatOf rfl (by show 4 ≤ 1000; decide)
theorem deedBm {m : Nat} {d : Deed} (hd : d.ok m) : deedB (m : Nat) d.vs = true := by
  cases d with
  | look h p =>
    obtain ⟨h1, h2⟩ := hd
    show (numIn (.int (h : Nat)) 0 ((m : Nat) - 1) && (numIn (.int (p : Nat)) 0 63 && eqS (.str "look") "look")) = true
    rw [show numIn (.int (h : Nat)) 0 ((m : Nat) - 1) = true from decide_eq_true (by omega), show numIn (.int (p : Nat)) 0 63 = true from decide_eq_true (by omega)]
    decide +kernel
  | set h p v =>
    obtain ⟨h1, h2, h3, h4⟩ := hd
    show (numIn (.int (h : Nat)) 0 ((m : Nat) - 1) && (numIn (.int (p : Nat)) 0 63 && (eqS (.str "set") "set" && numIn (.int v) 0 999))) = true
    rw [show numIn (.int (h : Nat)) 0 ((m : Nat) - 1) = true from decide_eq_true (by omega), show numIn (.int (p : Nat)) 0 63 = true from decide_eq_true (by omega), show numIn (.int v) 0 999 = true from decide_eq_true (by omega)]
    decide +kernel
theorem bad_deed {m : Nat} {ds : List Deed} (hd : ∀ d ∈ ds, d.ok m) {i : Nat} (hi : i ≤ ds.length) (hl : ds.length ≤ 100) {xs : List V} (hx : deedB (m : Nat) xs = false) {more : List (List V)} : DeedBad (m : Nat) ((ds.map Deed.vs).take i ++ [xs] ++ more) i := by
  have hl' : ((ds.map Deed.vs).take i).length = i := by rw [List.length_take, List.length_map]; omega
  refine ⟨by simp; omega, fun ⟨_, ys, hy, hy2⟩ => ?_, fun j hj => ?_⟩
  · rw [List.append_assoc, List.getElem?_append_right (by omega), hl', Nat.sub_self] at hy
    obtain rfl : xs = ys := Option.some.inj hy
    rw [hx] at hy2
    cases hy2
  · have hj2 : j < ds.length := by omega
    refine ⟨by omega, (ds[j]).vs, ?_, deedBm (hd _ (List.getElem_mem hj2))⟩
    rw [List.append_assoc, List.getElem?_append_left (by omega), List.getElem?_take_of_lt hj, List.getElem?_map, List.getElem?_eq_getElem hj2]
    rfl
theorem tb_only {K : PySem.W.Frag} {TL : List Cell} (h : TBs K TL) : TBs K (TL.filter fun c => isTb c.2) := by
  have key : ∀ {P : Addr} {q : Str}, TabC TL P q → TabC (TL.filter fun c => isTb c.2) P q := fun {P q} ⟨ps, h1, h2, h3⟩ => ⟨ps, List.mem_filter.mpr ⟨h1, rfl⟩, h2, fun pos cv hc => by
    obtain ⟨c, e, hm⟩ := h3 pos cv hc
    exact ⟨c, e, List.mem_filter.mpr ⟨hm, rfl⟩⟩⟩
  exact ⟨key h.a, key h.b⟩
theorem TA.strip {N TL : List Cell} (ht : ∀ c ∈ TL, isTb c.2 = true) : ∀ {as : List Addr} {us : List (List V)}, TA (N ++ TL) as us → TA N as us
  | [], [], _ => trivial
  | [], _ :: _, h => h.elim
  | _ :: _, [], h => h.elim
  | _ :: _, _ :: _, h => ⟨(List.mem_append.mp h.1).elim id fun z => (by have := ht _ z; cases this), TA.strip ht h.2⟩
theorem RowsAt.strip {N TL : List Cell} {p : Addr} {as : List Addr} {xss : List (List V)} (h : RowsAt (N ++ TL) p as xss) (ht : ∀ c ∈ TL, isTb c.2 = true) : RowsAt N p as xss :=
  ⟨(List.mem_append.mp h.p).elim id fun z => (by have := ht _ z; cases this), h.ta.strip ht, h.fl, h.ln⟩
theorem seqLst0_go {a : TE} {r : L2.TA} {g : TG} {u : TS} {D : Ends} {rt : VK} {bk ct : L2.St → Hp → Prop} {σ : L2.St} {H : Hp} (h : a σ H fun x H1 => r σ H1 fun xs H2 => (x :: xs).length ≤ sizeLine ∧ ∀ p, H2 p = none → g (.ref p) σ (upd H2 p (.lst (x :: xs))) (u D)) : (Ends.mk (tSeq (tAsg (tLst (tCons a r)) g) u D) rt bk ct).nx σ H := h
theorem gIf_go {i : Nat} {v : V} {t : L2.TT} {th el u : TS} {D : Ends} {rt : VK} {bk ct : L2.St → Hp → Prop} {σ : L2.St} {H : Hp} (h : t (σ.set i (some v)) H fun b H1 => if b = true then th { D with nx := u D } (σ.set i (some v)) H1 else el { D with nx := u D } (σ.set i (some v)) H1) : gName i v σ H (Ends.mk (tSeq (tIfS t th el) u D) rt bk ct).nx := h
theorem orTest_go {rr : R2} {a b : TE} {t2 : L2.TT} {σ : L2.St} {H : Hp} {Q : Bool → Hp → Prop} (h : a σ H fun x H1 => b σ H1 fun y H2 => rr x y H2 fun z H3 => ∃ k, z = .bl k ∧ if k = true then Q true H3 else t2 σ H3 Q) : tOr (tTest (tOp rr a b)) t2 σ H Q := h
theorem nextIf_go {t : L2.TT} {th el : TS} {D : Ends} {rt : VK} {bk ct : L2.St → Hp → Prop} {σ : L2.St} {H : Hp} (h : t σ H fun b H1 => if b = true then th D σ H1 else el D σ H1) : tNext (Ends.mk (tIfS t th el D) rt bk ct) σ H := h
theorem test_go {rr : R2} {a b : TE} {σ : L2.St} {H : Hp} {Q : Bool → Hp → Prop} (h : a σ H fun x H1 => b σ H1 fun y H2 => rr x y H2 fun z H3 => ∃ k, z = .bl k ∧ Q k H3) : tTest (tOp rr a b) σ H Q := h
theorem neStr (x : Str) : V.bl (!decide (V.str x = V.str x)) = V.bl false := by
  rw [decide_eq_true rfl]
  rfl
theorem flatRep (n : Nat) (v : V) : (List.replicate n [v]).flatten = List.replicate n v := by
  induction n with
  | zero => rfl
  | succ n ih => rw [List.replicate_succ, List.flatten_cons, ih, List.replicate_succ]; rfl
theorem HaX.snoc {R : List Cell} {xss : List (List V)} {a : Addr} : ∀ {as : List Addr} {r : List (List (List V))}, HaX R as r → (∃ bs, RowsAt R a bs xss) → HaX R (as ++ [a]) (r ++ [xss])
  | [], [], _, k => ⟨k, trivial⟩
  | [], _ :: _, h, _ => h.elim
  | _ :: _, [], h, _ => h.elim
  | _ :: _, _ :: _, h, k => ⟨h.1, HaX.snoc h.2 k⟩
theorem pl_looks : ∀ (n : Nat) (cs : List Int), (plRun cs (List.replicate n (Deed.look 0 63))).1.length = n
  | 0, _ => rfl
  | n + 1, cs => by
    rw [List.replicate_succ]
    show ([_] ++ (plRun cs (List.replicate n (Deed.look 0 63))).1).length = n + 1
    rw [List.length_append, pl_looks n cs]
    show 1 + n = n + 1
    omega
section
variable {P : Program} {w : World} {K : PySem.W.Frag} {mg : Str → Option Value} {base : Heap} {n lv : Nat}
set_option maxHeartbeats 0 in
theorem ok_law (T : Txt K mg) (TB : LamX.TabB base mg (He.cT K ("law", none)).1 (lamP K)) (TBH : LamX.TabB base mg (He.cT K ("_law_halls", none)).1 (lamPH K)) : FnOk P w K mg base CX0 21 (He.fAd K ("law", none)) T.fd_law ["_law_script"] (spLaw K) := by
  have G__law_taken := ok_taken (P := P) (w := w) (base := base) T
  have G__law_rules := ok_rules (P := P) (w := w) (base := base) T
  have G__law_deeds := ok_deeds (P := P) (w := w) (base := base) T
  have G__law_bad_rules := ok_bad_rules (P := P) (w := w) (base := base) T
  have G__law_odd := ok_odd (P := P) (w := w) (base := base) T
  have G__law_halls := ok_halls (P := P) (w := w) (base := base) T TBH
  have G_Hall___init__ := ok_Hall_initX (P := P) (w := w) (base := base) T
  have G_told := ok_toldX (P := P) (w := w) (base := base) T
  have G_plain := ok_plainX (P := P) (w := w) (base := base) T
  have G_least := ok_leastX (P := P) (w := w) (base := base) T
  have G_written := ok_written (P := P) (w := w) (base := base) T
  obtain ⟨oc, od, dW, kV, doc, pm, an, cdg, ct, osl, efd, lkW, hcW, _, _⟩ := T.F__law_word.ex
  have bW := T.b__law_word
  rw [efd] at lkW bW
  have hmT : (lamP K, lamQ) ∈ lamTs K := List.mem_cons_self
  have huT : ∀ p ∈ lamTs K, p.1 = lamP K → p.2 = lamQ := fun p hp e => by
    rcases List.mem_cons.mp hp with z | z
    · rw [z]
    · rw [List.mem_singleton.mp z] at e
      exact absurd e.symm T.pp
  refine okTab T.F_law sc_law (fun vs H Q E h => ?_) (fun A outer s H vs Q E hr h => ?_)
  · obtain ⟨_, _, _, _, rfl, _⟩ := h
    rfl
  · obtain ⟨sc, ns, S, TL, rfl, hsc, hS, hT, O, kq⟩ := h
    refine ⟨_, (pss_cons (ps_set (i := 1) sc_law.nd rfl (Or.inl rfl) (pe_lst (pa_cons (pv 0) (pa_cons pe_int (pa_cons pe_int pa_nil))))) (pss_cons (ps_for PassesOwn.never rfl (pi_range1 (by rfl) T.n_range (pa_cons pe_int pa_nil)) (pg_name (i := 2) sc_law.nd rfl (Or.inl rfl)) (pss_cons (ps_asg (pe_tup (pa_cons (pe_call G__law_rules (hr.mono (by omega)) rfl T.g__law_rules T.k__law_rules T.b__law_rules .nil pass0 (pa_cons (pv 1) pa_nil)) (pa_cons (pe_op op_add pe_int (pe_call G__law_taken (hr.mono (by omega)) rfl T.g__law_taken T.k__law_taken T.b__law_taken .nil pass0 (pa_cons (pv 1) (pa_cons pe_int pa_nil)))) pa_nil))) (pg_tup (by rfl) (pgs_cons (pg_name (i := 3) sc_law.nd rfl (Or.inr rfl)) (pgs_cons (pg_name (i := 4) sc_law.nd rfl (Or.inr rfl)) pgs_nil)))) (pss_cons (ps_set (i := 5) sc_law.nd rfl (Or.inl rfl) (pe_call G__law_deeds (hr.mono (by omega)) rfl T.g__law_deeds T.k__law_deeds T.b__law_deeds .nil pass0 (pa_cons (pv 1) (pa_cons (pv 4) (pa_cons pe_int pa_nil))))) (pss_cons (ps_set (i := 6) sc_law.nd rfl (Or.inr rfl) (pe_op op_mul (pe_call G__law_taken (hr.mono (by omega)) rfl T.g__law_taken T.k__law_taken T.b__law_taken .nil pass0 (pa_cons (pv 1) (pa_cons (pe_op op_pow pe_int pe_int) pa_nil))) (pe_call G__law_taken (hr.mono (by omega)) rfl T.g__law_taken T.k__law_taken T.b__law_taken .nil pass0 (pa_cons (pv 1) (pa_cons pe_int pa_nil))))) (pss_cons (ps_asg (pe_call G__law_bad_rules (hr.mono (by omega)) rfl T.g__law_bad_rules T.k__law_bad_rules T.b__law_bad_rules .nil pass0 (pa_cons (pv 1) (pa_cons (pv 3) (pa_cons (pv 6) pa_nil)))) (pg_tup (by rfl) (pgs_cons (pg_name (i := 7) sc_law.nd rfl (Or.inr rfl)) (pgs_cons (pg_name (i := 8) sc_law.nd rfl (Or.inr rfl)) pgs_nil)))) (pss_cons (ps_set (i := 9) sc_law.nd rfl (Or.inl rfl) (pe_lst (pa_cons (pe_lamV (T := lamTs K) (B := ⟨_, _, _, none, []⟩) TB rfl hmT huT (dfl0 rfl) (fun ok => LmS.has (lmS_by (by rfl)) ok)) (pa_cons (pe_lamV (T := lamTs K) (B := ⟨_, _, _, (some 0), ["_law_a"]⟩) TB rfl hmT huT (dfl1 rfl pe_int) (fun ok => LmS.has (lmS_by (by rfl)) ok)) (pa_cons (pe_lamV (T := lamTs K) (B := ⟨_, _, _, (some 0), ["_law_b"]⟩) TB rfl hmT huT (dfl1 rfl pe_int) (fun ok => LmS.has (lmS_by (by rfl)) ok)) pa_nil))))) (pss_cons (ps_if (pt_cmpR (op_neD hr.units) (pe_lcF (tt := fun σo => tTest (tOp (rNeD K) (tCallLam _ 7 (fun _ => σo) (TTword K) (tVar 15)) (tTup (tCons (tC (.str "rule")) (tCons (tVar 8) tNil))))) (own := [("_law_work", 15)]) (by rfl) sc_law.nd (pi_list (pv 9)) (blkOk_by (own := [("_law_work", 15)]) (by kernel_rfl)) (fun _ _ _ _ _ => (pg_name (i := 15) sc_law.nd rfl (Or.inl rfl))) (fun _ _ _ _ _ _ _ I hf => (pts_one (pt_cmpR (op_neD hr.units) (pe_callLamB I hf (k := 7) (by rfl) T.g__law_word T.k__law_word lkW hcW bW sc__law_word rfl (.inl rfl) (word_gives T) (hr.mono (by omega)) (pv 15)) (pe_tup (pa_cons pe_str (pa_cons (pv 8) pa_nil))) (nomark _))))) (pe_lst pa_nil) (nomark _)) (pss_one (ps_ret pe_bl)) pss_nil) (pss_cons (ps_set (i := 10) sc_law.nd rfl (Or.inr rfl) (pe_ix ix_list (pe_lst (pa_cons pe_int (pa_cons (pe_op op_add pe_int (pv 6)) (pa_cons (pe_op op_sub (pe_op op_sub pe_int pe_int) (pv 6)) (pa_cons (pe_op op_sub pe_int pe_int) pa_nil))))) (pe_call G__law_taken (hr.mono (by omega)) rfl T.g__law_taken T.k__law_taken T.b__law_taken .nil pass0 (pa_cons (pv 1) (pa_cons pe_int pa_nil))) (fun _ _ => rfl))) (pss_cons (ps_set (i := 9) sc_law.nd rfl (Or.inl rfl) (pe_lst (pa_cons (pe_lamV (T := lamTs K) (B := ⟨_, _, _, none, []⟩) TB rfl hmT huT (dfl0 rfl) (fun ok => LmS.has (lmS_by (by rfl)) ok)) (pa_cons (pe_lamV (T := lamTs K) (B := ⟨_, _, _, (some 0), ["_law_a"]⟩) TB rfl hmT huT (dfl1 rfl pe_int) (fun ok => LmS.has (lmS_by (by rfl)) ok)) (pa_cons (pe_lamV (T := lamTs K) (B := ⟨_, _, _, (some 0), ["_law_b"]⟩) TB rfl hmT huT (dfl1 rfl pe_int) (fun ok => LmS.has (lmS_by (by rfl)) ok)) pa_nil))))) (pss_cons (ps_expr (pe_bm PySem.F.plainAttrs_list PySem.F.slot_list_append PySem.F.type_list_append mt_append (pv 9) (pa_cons (pe_lamV (T := lamTs K) (B := ⟨_, _, _, (some 0), ["_law_c"]⟩) TB rfl hmT huT (dfl1 rfl pe_int) (fun ok => LmS.has (lmS_by (by rfl)) ok)) pa_nil))) (pss_cons (ps_if (pt_cmpR (op_neD hr.units) (pe_lcF (tt := fun σo => tTest (tOp rNe (tCallLam _ 7 (fun _ => σo) (TTword K) (tVar 15)) (tC (.str "hands")))) (own := [("_law_work", 15)]) (by rfl) sc_law.nd (pi_list (pv 9)) (blkOk_by (own := [("_law_work", 15)]) (by kernel_rfl)) (fun _ _ _ _ _ => (pg_name (i := 15) sc_law.nd rfl (Or.inl rfl))) (fun _ _ _ _ _ _ _ I hf => (pts_one (pt_cmpR op_ne (pe_callLamB I hf (k := 7) (by rfl) T.g__law_word T.k__law_word lkW hcW bW sc__law_word rfl (.inl rfl) (word_gives T) (hr.mono (by omega)) (pv 15)) pe_str (nomark _))))) (pe_lst pa_nil) (nomark _)) (pss_one (ps_ret pe_bl)) pss_nil) (pss_cons (ps_set (i := 11) sc_law.nd rfl (Or.inr rfl) (pe_call G__law_taken (hr.mono (by omega)) rfl T.g__law_taken T.k__law_taken T.b__law_taken .nil pass0 (pa_cons (pv 1) (pa_cons (pe_op op_add (pe_callB call_len_seq (by rfl) T.n_len PySem.boot_len (pa_cons (pv 5) pa_nil)) pe_int) pa_nil)))) (pss_cons (ps_set (i := 12) sc_law.nd rfl (Or.inr rfl) (pe_op op_cat (pe_op op_cat (pe_op op_cat (pe_slice sl_list (pv 5) po_none (po_some (pv 11))) (pe_lst (pa_cons (pe_call G__law_odd (hr.mono (by omega)) rfl T.g__law_odd T.k__law_odd T.b__law_odd .nil pass0 (pa_cons (pv 1) (pa_cons (pv 4) (pa_cons (pv 6) pa_nil)))) pa_nil))) (pe_slice sl_list (pv 5) (po_some (pv 11)) po_none)) (pe_lst (pa_cons (pe_tup pa_nil) pa_nil)))) (pss_cons (ps_set (i := 9) sc_law.nd rfl (Or.inl rfl) (pe_lst (pa_cons (pe_lamV (T := lamTs K) (B := ⟨_, _, _, none, []⟩) TB rfl hmT huT (dfl0 rfl) (fun ok => LmS.has (lmS_by (by rfl)) ok)) (pa_cons (pe_lamV (T := lamTs K) (B := ⟨_, _, _, (some 0), ["_law_a"]⟩) TB rfl hmT huT (dfl1 rfl pe_int) (fun ok => LmS.has (lmS_by (by rfl)) ok)) pa_nil)))) (pss_cons (ps_expr (pe_bm PySem.F.plainAttrs_list PySem.F.slot_list_append PySem.F.type_list_append mt_append (pv 9) (pa_cons (pe_lamV (T := lamTs K) (B := ⟨_, _, _, (some 0), ["_law_b"]⟩) TB rfl hmT huT (dfl1 rfl pe_int) (fun ok => LmS.has (lmS_by (by rfl)) ok)) pa_nil))) (pss_cons (ps_if (pt_cmpR (op_neD hr.units) (pe_lcF (tt := fun σo => tTest (tOp (rNeD K) (tCallLam _ 7 (fun _ => σo) (TTword K) (tVar 15)) (tTup (tCons (tC (.str "deed")) (tCons (tVar 11) tNil))))) (own := [("_law_work", 15)]) (by rfl) sc_law.nd (pi_list (pv 9)) (blkOk_by (own := [("_law_work", 15)]) (by kernel_rfl)) (fun _ _ _ _ _ => (pg_name (i := 15) sc_law.nd rfl (Or.inl rfl))) (fun _ _ _ _ _ _ _ I hf => (pts_one (pt_cmpR (op_neD hr.units) (pe_callLamB I hf (k := 7) (by rfl) T.g__law_word T.k__law_word lkW hcW bW sc__law_word rfl (.inl rfl) (word_gives T) (hr.mono (by omega)) (pv 15)) (pe_tup (pa_cons pe_str (pa_cons (pv 11) pa_nil))) (nomark _))))) (pe_lst pa_nil) (nomark _)) (pss_one (ps_ret pe_bl)) pss_nil) (pss_cons (ps_set (i := 13) sc_law.nd rfl (Or.inr rfl) (pe_op op_rep (pe_lst (pa_cons (pe_tup (pa_cons pe_str (pa_cons pe_int (pa_cons pe_int pa_nil)))) pa_nil)) (pe_op op_add pe_int (pe_op op_mod (pv 6) pe_int)))) (pss_cons (ps_if (PW.pt (pw_or (pt_cmpR (op_neD hr.units) (pe_callLam (k := 7) (by rfl) T.g__law_word T.k__law_word lkW hcW bW sc__law_word rfl (.inl rfl) (word_gives T) (hr.mono (by omega)) (pe_lamV (T := lamTs K) (B := ⟨_, _, _, none, []⟩) TB rfl hmT huT (dfl0 rfl) (fun ok => LmS.has (lmS_by (by rfl)) ok))) (pe_tup (pa_cons pe_str (pa_cons pe_int pa_nil))) (nomark _)) (pw_or1 (pt_cmpR op_ne (pe_callB call_len_seq (by rfl) T.n_len PySem.boot_len (pa_cons (pe_ix ix_tup (pe_call G_plain (hr.mono (by omega)) rfl T.g_plain T.k_plain T.b_plain .nil (passes_call LamX.takes0 fun _ _ _ _ z => z) (pa_cons pe_int (pa_cons (pe_slice sl_list (pv 13) po_none (po_some pe_int)) pa_nil))) pe_int (fun _ _ => rfl)) pa_nil)) pe_int (nomark _))))) (pss_one (ps_ret pe_bl)) pss_nil) (pss_cons (ps_if (pt_not (pt_val (pe_call G__law_halls (hr.mono (by omega)) rfl T.g__law_halls T.k__law_halls T.b__law_halls .nil pass0 (pa_cons (pv 1) (pa_cons (pv 3) (pa_cons (pv 4) (pa_cons (pv 6) pa_nil))))))) (pss_one (ps_ret pe_bl)) pss_nil) (pss_cons (ps_set (i := 14) sc_law.nd rfl (Or.inr rfl) (pe_ix ix_list (pe_lst (pa_cons (pe_lst pa_nil) (pa_cons (pe_op op_rep (pe_lst (pa_cons (pv 3) pa_nil)) pe_int) (pa_cons (pe_op op_rep (pe_lst (pa_cons (pv 3) pa_nil)) (pe_op op_add pe_int (pe_op op_mod (pv 6) pe_int))) pa_nil)))) (pe_call G__law_taken (hr.mono (by omega)) rfl T.g__law_taken T.k__law_taken T.b__law_taken .nil pass0 (pa_cons (pv 1) (pa_cons pe_int pa_nil))) (fun _ _ => rfl))) (pss_cons (ps_if (pt_cmpR op_ne (pe_callLam (k := 7) (by rfl) T.g__law_word T.k__law_word lkW hcW bW sc__law_word rfl (.inl rfl) (word_gives T) (hr.mono (by omega)) (pe_lamV (T := lamTs K) (B := ⟨_, _, _, none, []⟩) TB rfl hmT huT (dfl0 rfl) (fun ok => LmS.has (lmS_by (by rfl)) ok))) pe_str (nomark _)) (pss_one (ps_ret pe_bl)) pss_nil) (pss_one (ps_if (pt_cmpR (op_neD hr.units) (pe_callLam (k := 7) (by rfl) T.g__law_word T.k__law_word lkW hcW bW sc__law_word rfl (.inl rfl) (word_gives T) (hr.mono (by omega)) (pe_lamV (T := lamTs K) (B := ⟨_, _, _, none, []⟩) TB rfl hmT huT (dfl0 rfl) (fun ok => LmS.has (lmS_by (by rfl)) ok))) (pe_tup (pa_cons pe_str (pa_cons (pv 8) pa_nil))) (nomark _)) (pss_one (ps_ret pe_bl)) pss_nil))))))))))))))))))))))) (pss_one (ps_ret pe_bl)))), ?_⟩
    refine ⟨_, rfl, by show 3 ≤ sizeLine; decide, fun rw hrw => ?_⟩
    have O0 := O.new (o := .lst [.ref sc, .int 0, .int 0]) hrw
    generalize upd H rw _ = H0 at O0 ⊢
    refine ⟨3, rfl, by decide, by decide, ?_⟩
    refine for_range (lo := 0) (n := 3) (fun i σ H' => (∃ v2 v3 v4 v5 v6 v7 v8 v9 v10 v11 v12 v13 v14 v15, σ = [some (.ref sc), some (.ref rw), v2, v3, v4, v5, v6, v7, v8, v9, v10, v11, v12, v13, v14, v15]) ∧ ∃ c' TL, RowC K rw S c' ∧ TBs K TL ∧ Own H' (c' :: (S ++ TL)))
      ⟨⟨none, none, none, none, none, none, none, none, none, none, none, none, none, none, rfl⟩, _, TL, ⟨sc, ns, 0, 0, hsc, by decide, by decide, rfl⟩, hT, O0⟩ ?_ ?_
    · clear O0
      rintro ti σ H1 hti ⟨⟨v2, v3, v4, v5, v6, v7, v8, v9, v10, v11, v12, v13, v14, v15, rfl⟩, c1, TL0, hc1, hT0, O1⟩
      obtain ⟨TL, hTL⟩ : ∃ TL : List Cell, TL = TL0.filter fun c => isTb c.2 := ⟨_, rfl⟩
      have hT := tb_only hT0
      rw [← hTL] at hT
      have hTt : ∀ c ∈ TL, isTb c.2 = true := fun c hc => by rw [hTL] at hc; exact (List.mem_filter.mp hc).2
      replace O1 : Own H1 (c1 :: (S ++ TL)) := O1.sub (List.Sublist.cons_cons _ (List.Sublist.append (List.Sublist.refl _) (by rw [hTL]; exact List.filter_sublist)))
      clear hTL
      -- rules, hands
      refine ⟨_, rfl, rw, S, c1, TL, rfl, hc1, O1, fun us rl Nr c2 H2 hus hra hc2 O2 => ?_⟩
      refine ⟨_, rfl, rw, S, c2, 3, Nr ++ TL, rfl, hc2, by decide, O2, fun vh c3 H3 hh0 hh3 hc3 O3 => ?_⟩
      obtain ⟨m, hm, hm1, hm3⟩ : ∃ m : Nat, 1 + vh = (m : Int) ∧ 1 ≤ m ∧ m ≤ 3 := ⟨(1 + vh).toNat, by omega, by omega, by omega⟩
      refine ⟨_, _, rfl, rfl, ?_⟩
      dsimp only
      rw [hm]
      refine ⟨by show 2 ≤ sizeLine; decide, fun tp htp => ?_⟩
      have O4 := O3.new (o := .tup [.ref rl, .int (m : Nat)]) htp
      refine ⟨tp, _, rfl, SqT.of O4.a0, rfl, _, _, rfl, _, _, rfl, rfl, ?_⟩
      replace O4 := O4.tail
      -- deeds
      refine ⟨_, rfl, _, rfl, rw, S, c3, m, 9, Nr ++ TL, rfl, hm1, hm3, by decide, hc3, O4, fun ds pd Nd c4 H4 hds hdl hat hc4 O5 => ?_⟩
      -- far
      refine ⟨_, rfl, _, _, rfl, rfl, ⟨by decide, by decide, by decide⟩, rw, S, c4, _, Nd ++ (Nr ++ TL), rfl, hc4, by decide, O5, fun w1 c5 H5 h10 h11 hc5 O6 => ?_⟩
      refine ⟨_, rfl, rw, S, c5, 2, Nd ++ (Nr ++ TL), rfl, hc5, by decide, O6, fun w2 c6 H6 h20 h22 hc6 O7 => ?_⟩
      refine ⟨_, _, rfl, rfl, .inr ⟨by omega, by omega⟩, ?_⟩
      obtain ⟨far, hfar, hf0⟩ : ∃ far : Int, w1 * w2 = far ∧ 0 ≤ far := ⟨_, rfl, Int.mul_nonneg h10 h20⟩
      dsimp only
      rw [hfar]
      clear O1 O2 O3 O4 O5 O6
      -- rules that can't be
      obtain ⟨ras, mrl0, hra0⟩ := id hra
      obtain ⟨das, mpd0, hda0⟩ := id hat
      refine ⟨_, rfl, _, rfl, _, rfl, rw, rl, S, c6, us, far, (nt Nd ++ nt Nr) ++ TL, rfl, hf0, hus, ⟨ras, ?_, ?_⟩, hc6, O7.sub ?_, fun t pb due bas bss Nb c7 H7 mt hrows hbad hNb hc7 O8 => ?_⟩
      · exact List.mem_append_left _ (List.mem_append_right _ (nt_mem.mpr ⟨mrl0, rfl⟩))
      · exact hra0.ntOf.mono fun z hz => List.mem_append_left _ (List.mem_append_right _ hz)
      · rw [List.append_assoc]
        exact List.Sublist.cons_cons _ (List.Sublist.append (List.Sublist.refl _) (List.Sublist.append (nt_sub _) (List.Sublist.append (nt_sub _) (List.Sublist.refl _))))
      refine ⟨t, _, rfl, SqT.of (O8.mem (List.mem_cons_of_mem _ (List.mem_append_right _ (List.mem_append_left _ mt)))), rfl, _, _, rfl, _, _, rfl, rfl, ?_⟩
      obtain ⟨B, hB⟩ : ∃ B : List Cell, B = Nb ++ (nt Nd ++ nt Nr) := ⟨_, rfl⟩
      have nB : NT B := by
        rw [hB]
        exact NT.app hNb (NT.app (nt_NT _) (nt_NT _))
      have hrowsB : RowsAt B pb bas bss := by
        rw [hB]
        rw [← List.append_assoc] at hrows
        exact hrows.strip hTt
      have mrl : (rl, HO.lst (ras.map V.ref)) ∈ B := by
        rw [hB]
        exact List.mem_append_right _ (List.mem_append_right _ (nt_mem.mpr ⟨mrl0, rfl⟩))
      have hraB : RA B ras us := hra0.ntOf.mono fun z hz => by rw [hB]; simp [hz]
      have mpd : (pd, HO.lst (das.map V.ref)) ∈ B := by
        rw [hB]
        exact List.mem_append_right _ (List.mem_append_left _ (nt_mem.mpr ⟨mpd0, rfl⟩))
      have hdaB : TA B das (ds.map Deed.vs) := hda0.ntOf.mono fun z hz => by rw [hB]; simp [hz]
      have O9 : Own H7 (c7 :: (S ++ (B ++ TL))) := O8.perm (by rw [hB]; walk_at "perm")
      clear O8 O7 hrows
      have hdal := hda0.len
      rw [List.length_map] at hdal
      obtain ⟨L1, hL1⟩ : ∃ L1 : List Cell, L1 = c7 :: (S ++ B) := ⟨_, rfl⟩
      have nL1 : NT L1 := by
        rw [hL1]
        exact NT.cons hc7.nt (NT.app hS nB)
      have Y0 := O9.perm (L' := L1 ++ TL) (by rw [hL1]; walk_at "perm")
      have hBL : ∀ {F M : List Cell}, ∀ z ∈ B, z ∈ F ++ (L1 ++ M) := fun {F M} z hz => by rw [hL1]; simp [hz]
      clear O9
      have shc0 := sh0
      have rowsR : RowsAt B rl ras (us.map Rul.vs) := rules_rows hus mrl hraB
      have goodR := rs_good hus
      -- the first works
      refine seqLst0_go ?_
      refine lamV_go2 (L := L1) Y0 nL1 hT fun f1 H12 F1 TL1 e1 hT1 hNF1 hLC1 Y1 => ?_
      refine tCons_go ?_
      refine lamV_go2 (L := F1 ++ L1) (Y1.perm (by walk_at "perm")) (hNF1.app nL1) hT1 fun f2 H13 F2 TL2 e2 hT2 hNF2 hLC2 Y2 => ?_
      refine tCons_go ?_
      refine lamV_go2 (L := F2 ++ (F1 ++ L1)) (Y2.perm (by walk_at "perm")) (hNF2.app (hNF1.app nL1)) hT2 fun f3 H14 F3 TL3 e3 hT3 hNF3 hLC3 Y3 => ?_
      refine ⟨by show 3 ≤ sizeLine; decide, fun pw hpw => ?_⟩
      have Y4 := Y3.new (o := .lst [.ref f1, .ref f2, .ref f3]) hpw
      have e4 : LamX.ExtN H14 (upd H14 pw (.lst [.ref f1, .ref f2, .ref f3])) := LamX.ExtN.of fun b o hb => by
        rw [upd_ne (fun z => by rw [z, hpw] at hb; cases hb)]
        exact hb
      obtain ⟨N1, Z1, C1⟩ := lam_cells Y4 ((((hLC1.at Y1).ext e2).ext e3).ext e4)
      obtain ⟨N2, Z2, C2⟩ := lam_cells Z1 (((hLC2.at Y2).ext e3).ext e4)
      obtain ⟨M, hM⟩ : ∃ M : List Cell, M = N2 ++ (N1 ++ (F3 ++ (F2 ++ (F1 ++ TL3)))) := ⟨_, rfl⟩
      have hTM : TBs K M := hT3.mono fun c hc => by rw [hM]; simp [hc]
      have pmM : (N2 ++ (N1 ++ ((pw, HO.lst [.ref f1, .ref f2, .ref f3]) :: (F3 ++ ((F2 ++ (F1 ++ L1)) ++ TL3))))).Perm ((pw, .lst [.ref f1, .ref f2, .ref f3]) :: (L1 ++ M)) := by
        rw [hM]
        walk_at "perm"
      replace C1 := (C1.mono (L' := (pw, .lst [.ref f1, .ref f2, .ref f3]) :: (L1 ++ M)) fun c hc => pmM.mem_iff.mp (List.mem_append_right _ hc)).drop
      replace C2 := (C2.mono (L' := (pw, .lst [.ref f1, .ref f2, .ref f3]) :: (L1 ++ M)) fun c hc => pmM.mem_iff.mp hc).drop
      have C3 := (hLC3.mono (L' := (pw, .lst [.ref f1, .ref f2, .ref f3]) :: (L1 ++ M)) fun c hc => pmM.mem_iff.mp (List.mem_append_right _ (List.mem_append_right _ (List.mem_cons_of_mem _ hc)))).drop
      have Z5 := Z2.perm pmM
      clear Z1 Z2 Y0 Y1 Y2 Y3 Y4 hLC1 hLC2 hLC3
      generalize upd H14 pw _ = H16 at Z5 ⊢
      refine ⟨_, rfl, pw, rfl, ⟨_, SqL.of Z5.a0⟩, fun D2 hD2 => ?_⟩
      have hsh1 : SeqAt.shaped (.tuple [.str "rule", .int ((due : Nat) : Int)]) = true := shapedWI (by decide +kernel)
      refine lcF_list (tt := fun _ => _) (K := K) (a := pw) (xs := [.ref f1, .ref f2, .ref f3]) (fun _ H' => Own H' ((D2, .lst []) :: (pw, .lst [.ref f1, .ref f2, .ref f3]) :: (L1 ++ M))) (Z5.new hD2) (fun i H' _ O' => SqL.of O'.a1) ?_ ?_
      · rintro i x H17 hi V1
        have VA := Own.right (L' := [_, _]) V1
        have hi4 : i = 0 ∨ i = 1 ∨ i = 2 := by
          have : i < 3 := (List.getElem?_eq_some_iff.mp hi).1
          omega
        rcases hi4 with e | e | e <;> subst e <;> obtain rfl := Option.some.inj hi
        · refine ⟨rfl, _, rfl, lam_here C1 VA ⟨lmS_by (by rfl), (lbd0 fun _ _ _ _ _ => rfl), fun A outer s H E f c' hr => (pe_make T.mk_Hall G_Hall___init__ (hr.mono (by omega)) rfl T.g_Hall T.b_Hall___init__ .nil (passes_call (takes_of rfl rfl rfl rfl) fun _ _ _ _ z => z) (pa_cons (pv 7) (pa_cons pe_int pa_nil)))⟩ ⟨C1.at VA, ?_⟩⟩
          refine ⟨_, rfl, fun x dx hx hdx hne => ?_⟩
          have V2 := (V1.keepNew (o := .own x) hdx).new (p := x) (o := .ins (cH K) dx []) (by rw [upd_ne (Ne.symm hne)]; exact hx)
          refine ⟨x, dx, pb, 9, bas, bss, _, rfl, hrowsB.mono (hBL (F := [_, _])), V2, fun i hi d H18 V3 => ?_, fun hg _ => (hbad.not hg).elim, fun hg _ => (hbad.not hg).elim⟩
          rw [hi.uniq hbad] at V3
          refine ⟨0, _, _, _, rfl, rfl, rfl, V3, .inr ⟨d, "number", _, rfl, rfl, List.mem_cons_self, fun t1 HG V4 => ?_⟩⟩
          refine ⟨_, rfl, by show 2 ≤ sizeLine; decide, fun t2 ht2 => ?_⟩
          have V5 := V4.new (o := .tup [.str "rule", .int ((due : Nat) : Int)]) ht2
          exact ⟨_, _, .tup (SqT.of V5.a1) (.cons (.str _) (.cons (.int _) .nil)), .tup (SqT.of V5.a0) (.cons (.str _) (.cons (.int _) .nil)), hsh1, hsh1, false, by rw [eqv_self _ hsh1], rfl, Own.right (L' := [_, _, _]) V5⟩
        · refine ⟨rfl, _, rfl, lam_here C2 VA ⟨lmS_by (by rfl), (lbd1 fun _ _ _ _ _ _ _ => ⟨_, rfl, rfl⟩), fun A outer s H E f c' hr => (pe_call G_told (hr.mono (by omega)) rfl T.g_told T.k_told T.b_told .nil (passes_call (takes_of rfl rfl rfl rfl) fun _ _ _ _ z => z) (pa_cons (pv 7) (pa_cons pe_int (pa_cons (pe_lst (pa_cons (pe_tup pa_nil) pa_nil)) pa_nil))))⟩ ⟨C2.at VA, ?_⟩⟩
          refine ⟨_, rfl, by show 0 ≤ sizeLine; decide, fun e he => ?_⟩
          have V2 := V1.new (o := .tup []) he
          refine ⟨by show 1 ≤ sizeLine; decide, fun l hl => ?_⟩
          have V3 := V2.new (o := .lst ([e].map V.ref)) hl
          refine ⟨pb, l, 9, bas, [e], bss, [[]], _, rfl, hrowsB.mono (hBL (F := [_, _, _, _])), nil_rows List.mem_cons_self (List.mem_cons_of_mem _ List.mem_cons_self), V3, fun i hi d H18 V4 => ?_, fun hg _ => (hbad.not hg).elim, fun hg _ => (hbad.not hg).elim⟩
          rw [hi.uniq hbad] at V4
          refine ⟨0, _, _, _, rfl, rfl, rfl, V4, .inr ⟨d, "number", _, rfl, rfl, List.mem_cons_self, fun t1 HG V5 => ?_⟩⟩
          refine ⟨_, rfl, by show 2 ≤ sizeLine; decide, fun t2 ht2 => ?_⟩
          have V6 := V5.new (o := .tup [.str "rule", .int ((due : Nat) : Int)]) ht2
          exact ⟨_, _, .tup (SqT.of V6.a1) (.cons (.str _) (.cons (.int _) .nil)), .tup (SqT.of V6.a0) (.cons (.str _) (.cons (.int _) .nil)), hsh1, hsh1, false, by rw [eqv_self _ hsh1], rfl, Own.right (L' := [_, _, _, _, _]) V6⟩
        · refine ⟨rfl, _, rfl, lam_here C3 VA ⟨lmS_by (by rfl), (lbd1 fun _ _ _ _ _ _ _ => ⟨_, rfl, rfl⟩), fun A outer s H E f c' hr => (pe_call G_written (hr.mono (by omega)) rfl T.g_written T.k_written T.b_written .nil (passes_call (takes_of rfl rfl rfl rfl) fun _ _ _ _ z => z) (pa_cons (pv 7) (pa_cons (pe_lst (pa_cons (pe_tup pa_nil) pa_nil)) pa_nil)))⟩ ⟨C3.at VA, ?_⟩⟩
          refine ⟨_, rfl, by show 0 ≤ sizeLine; decide, fun e he => ?_⟩
          have V2 := V1.new (o := .tup []) he
          refine ⟨by show 1 ≤ sizeLine; decide, fun l hl => ?_⟩
          have V3 := V2.new (o := .lst ([e].map V.ref)) hl
          have rb := hrowsB.mono (hBL (F := [(l, HO.lst ([e].map V.ref)), (e, .tup []), (D2, .lst []), (pw, .lst [.ref f1, .ref f2, .ref f3])]) (M := M))
          have rn : RowsAt ((l, HO.lst ([e].map V.ref)) :: (e, .tup []) :: (D2, .lst []) :: (pw, .lst [.ref f1, .ref f2, .ref f3]) :: (L1 ++ M)) l [e] [[]] := nil_rows List.mem_cons_self (List.mem_cons_of_mem _ List.mem_cons_self)
          refine ⟨pb, l, bas, [e], bss, [[]], _, rfl, rb.p, rb.ta, rb.fl, rb.ln, rn.p, rn.ta, rn.fl, rn.ln, V3, fun i hi d H18 V4 => ?_, fun hne hall => (hbad.not ⟨hne, hall⟩).elim, fun hne hall => (hbad.not ⟨hne, hall⟩).elim⟩
          rw [RsBad.uniq hi hbad] at V4
          refine ⟨0, _, _, _, rfl, rfl, rfl, V4, .inr ⟨d, "number", _, rfl, rfl, List.mem_cons_self, fun t1 HG V5 => ?_⟩⟩
          refine ⟨_, rfl, by show 2 ≤ sizeLine; decide, fun t2 ht2 => ?_⟩
          have V6 := V5.new (o := .tup [.str "rule", .int ((due : Nat) : Int)]) ht2
          exact ⟨_, _, .tup (SqT.of V6.a1) (.cons (.str _) (.cons (.int _) .nil)), .tup (SqT.of V6.a0) (.cons (.str _) (.cons (.int _) .nil)), hsh1, hsh1, false, by rw [eqv_self _ hsh1], rfl, Own.right (L' := [_, _, _, _, _]) V6⟩
      intro H17 V1
      refine ⟨by show 0 ≤ sizeLine; decide, fun p9 hp9 => ?_⟩
      have V2 := V1.new (o := .lst []) hp9
      refine ⟨.list [], .list [], .lst (SqL.of V2.a1) .nil, .lst (SqL.of V2.a0) .nil, sh0, sh0, false, by rw [eqv_self _ sh0], iteF ?_⟩
      have Y0 : Own _ (L1 ++ M) := Own.right (L' := [_, _, _]) V2
      clear V1 V2 Z5 C1 C2 C3 hT1 hT2 hT3 hM pmM
      generalize upd H17 p9 _ = H18 at Y0 ⊢
      -- hands that can't be
      refine ⟨_, rfl, _, _, rfl, rfl, _, _, rfl, rfl, _, rfl, _, _, rfl, rfl, _, _, rfl, rfl, by show 4 ≤ sizeLine; decide, fun p1 hp1 => ?_⟩
      have O1 := Y0.new (o := .lst [.int 0, .int (4 + far), .int (0 - 1 - far), .int (1 - 9)]) hp1
      refine ⟨_, rfl, rw, S, c7, 4, (p1, .lst [.int 0, .int (4 + far), .int (0 - 1 - far), .int (1 - 9)]) :: (B ++ M), rfl, hc7, by decide, O1.perm (by rw [hL1]; walk_at "perm"), fun v c8 H19 h80 h84 hc8 O2 => ?_⟩
      obtain ⟨odd, hodd, hno⟩ : ∃ odd : Int, atI [V.int 0, .int (4 + far), .int (0 - 1 - far), .int (1 - 9)] v = some (.int odd) ∧ ¬ HandOk odd := by
        rcases (show v = 0 ∨ v = 1 ∨ v = 2 ∨ v = 3 by omega) with rfl | rfl | rfl | rfl
        · exact ⟨0, rfl, fun z => by have := z.1; omega⟩
        · exact ⟨4 + far, rfl, fun z => by have := z.2; omega⟩
        · exact ⟨0 - 1 - far, rfl, fun z => by have := z.1; omega⟩
        · exact ⟨1 - 9, rfl, fun z => by have := z.1; omega⟩
      refine ⟨p1, _, _, .int odd, rfl, rfl, SqL.of (O2.mem (show (p1, HO.lst [.int 0, .int (4 + far), .int (0 - 1 - far), .int (1 - 9)]) ∈ _ by simp)), hodd, ?_⟩
      have Y0' : Own H19 ((c8 :: (S ++ B)) ++ M) := Own.right (L' := [(p1, .lst [.int 0, .int (4 + far), .int (0 - 1 - far), .int (1 - 9)])]) (O2.perm (by walk_at "perm"))
      clear O1 O2 Y0 hL1 hBL nL1 hT
      obtain ⟨L1, hL1⟩ : ∃ L1 : List Cell, L1 = c8 :: (S ++ B) := ⟨_, rfl⟩
      rw [← hL1] at Y0'
      have nL1 : NT L1 := by
        rw [hL1]
        exact NT.cons hc8.nt (NT.app hS nB)
      have hBL : ∀ {F M : List Cell}, ∀ z ∈ B, z ∈ F ++ (L1 ++ M) := fun {F M} z hz => by rw [hL1]; simp [hz]
      have Y0 := Y0'
      clear Y0'
      have hT := hTM
      clear hTM
      generalize M = TL at Y0 hT
      -- works
      refine seqLst_go ?_
      refine lamV_go2 (L := L1) Y0 (nL1) hT fun f1 H31 F1 TL1 e1 hT1 hNF1 hLC1 Y1 => ?_
      refine tCons_go ?_
      refine lamV_go2 (L := F1 ++ (L1)) (Y1.perm (by walk_at "perm")) (hNF1.app (nL1)) hT1 fun f2 H32 F2 TL2 e2 hT2 hNF2 hLC2 Y2 => ?_
      refine tCons_go ?_
      refine lamV_go2 (L := F2 ++ (F1 ++ (L1))) (Y2.perm (by walk_at "perm")) (hNF2.app (hNF1.app (nL1))) hT2 fun f3 H33 F3 TL3 e3 hT3 hNF3 hLC3 Y3 => ?_
      refine ⟨by show 3 ≤ sizeLine; decide, fun pw hpw => ?_⟩
      have Yw := Y3.new (o := .lst [.ref f1, .ref f2, .ref f3]) hpw
      have ew : LamX.ExtN H33 (upd H33 pw (.lst [.ref f1, .ref f2, .ref f3])) := LamX.ExtN.of fun b o hb => by
        rw [upd_ne (fun z => by rw [z, hpw] at hb; cases hb)]
        exact hb
      refine ⟨_, rfl, .inl ⟨rfl, _, SqL.of Yw.a0⟩, ?_⟩
      refine tCons_go ?_
      refine lamV_go2 (L := (pw, .lst [.ref f1, .ref f2, .ref f3]) :: (F3 ++ (F2 ++ (F1 ++ (L1))))) (Yw.perm (by walk_at "perm")) (NT.cons rfl (hNF3.app (hNF2.app (hNF1.app (nL1))))) hT3 fun f4 H34 F4 TL4 e4 hT4 hNF4 hLC4 Y4 => ?_
      obtain ⟨N1, Z1, C1⟩ := lam_cells Y4 (((((hLC1.at Y1).ext e2).ext e3).ext ew).ext e4)
      obtain ⟨N2, Z2, C2⟩ := lam_cells Z1 ((((hLC2.at Y2).ext e3).ext ew).ext e4)
      obtain ⟨N3, Z3, C3⟩ := lam_cells Z2 (((hLC3.at Y3).ext ew).ext e4)
      obtain ⟨M2, hM⟩ : ∃ M : List Cell, M = N3 ++ (N2 ++ (N1 ++ (F4 ++ (F3 ++ (F2 ++ (F1 ++ (TL4))))))) := ⟨_, rfl⟩
      have hTM2 : TBs K M2 := hT4.mono fun c hc => by rw [hM]; simp [hc]
      have pmM : (N3 ++ (N2 ++ (N1 ++ (F4 ++ (((pw, HO.lst [.ref f1, .ref f2, .ref f3]) :: (F3 ++ (F2 ++ (F1 ++ (L1))))) ++ TL4))))).Perm ((pw, .lst [.ref f1, .ref f2, .ref f3]) :: (L1 ++ M2)) := by
        rw [hM]
        walk_at "perm"
      replace C1 := (C1.mono (L' := (pw, .lst [.ref f1, .ref f2, .ref f3]) :: (L1 ++ M2)) fun c hc => pmM.mem_iff.mp (List.mem_append_right _ (List.mem_append_right _ (hc)))).drop
      replace C2 := (C2.mono (L' := (pw, .lst [.ref f1, .ref f2, .ref f3]) :: (L1 ++ M2)) fun c hc => pmM.mem_iff.mp (List.mem_append_right _ (hc))).drop
      replace C3 := (C3.mono (L' := (pw, .lst [.ref f1, .ref f2, .ref f3]) :: (L1 ++ M2)) fun c hc => pmM.mem_iff.mp (hc)).drop
      have C4 := (hLC4.mono (L' := (pw, .lst [.ref f1, .ref f2, .ref f3]) :: (L1 ++ M2)) fun c hc => pmM.mem_iff.mp (List.mem_append_right _ (List.mem_append_right _ (List.mem_append_right _ (hc))))).drop
      have Zb := Z3.perm pmM
      refine ⟨pw, _, _, rfl, rfl, Zb.a0, by show 3 < sizeLine; decide, ?_⟩
      have Z5 := Zb.set (o' := .lst [.ref f1, .ref f2, .ref f3, .ref f4])
      clear Zb Yw Y0 Y1 Y2 Y3 Y4 Z1 Z2 Z3 hLC1 hLC2 hLC3 hLC4
      generalize hH16 : upd H34 pw (.lst ([.ref f1, .ref f2, .ref f3] ++ [.ref f4])) = H16
      replace Z5 : Own H16 ((pw, .lst [.ref f1, .ref f2, .ref f3, .ref f4]) :: (L1 ++ M2)) := by rw [← hH16]; exact Z5
      clear hH16
      refine ⟨_, rfl, pw, rfl, ⟨_, SqL.of Z5.a0⟩, fun D2 hD2 => ?_⟩
      refine lcF_list (tt := fun _ => _) (K := K) (a := pw) (xs := [.ref f1, .ref f2, .ref f3, .ref f4]) (fun _ H' => Own H' ((D2, .lst []) :: (pw, .lst [.ref f1, .ref f2, .ref f3, .ref f4]) :: (L1 ++ M2))) (Z5.new hD2) (fun i H' _ O' => SqL.of O'.a1) ?_ ?_
      · rintro i x H17 hi V1
        have VA := Own.right (L' := [_, _]) V1
        have hi4 : i = 0 ∨ i = 1 ∨ i = 2 ∨ i = 3 := by
          have : i < 4 := (List.getElem?_eq_some_iff.mp hi).1
          omega
        rcases hi4 with e | e | e | e <;> subst e <;> obtain rfl := Option.some.inj hi
        · refine ⟨rfl, _, rfl, lam_here C1 VA ⟨lmS_by (by rfl), (lbd0 fun _ _ _ _ _ => rfl), fun A outer s H E f c' hr => (pe_make T.mk_Hall G_Hall___init__ (hr.mono (by omega)) rfl T.g_Hall T.b_Hall___init__ .nil (passes_call (takes_of rfl rfl rfl rfl) fun _ _ _ _ z => z) (pa_cons (pv 3) (pa_cons (pv 10) pa_nil)))⟩ ⟨C1.at VA, ?_⟩⟩
          refine ⟨_, rfl, _, rfl, fun x dx hx hdx hne => ?_⟩
          have V2 := (V1.keepNew (o := .own x) hdx).new (p := x) (o := .ins (cH K) dx []) (by rw [upd_ne (Ne.symm hne)]; exact hx)
          refine ⟨x, dx, rl, odd, ras, us.map Rul.vs, _, rfl, rowsR.mono (hBL (F := [_, _])), V2, fun i hi => (hi.not goodR).elim, fun _ _ H18 V3 => ?_, fun _ hh => absurd hh hno⟩
          refine ⟨1, _, _, _, rfl, rfl, rfl, V3, .inl ⟨rfl, rfl, fun HG V7 => ?_⟩⟩
          exact ⟨rfl, false, neStr _, rfl, Own.right (L' := []) V7⟩
        · refine ⟨rfl, _, rfl, lam_here C2 VA ⟨lmS_by (by rfl), (lbd1 fun _ _ _ _ _ _ _ => ⟨_, rfl, rfl⟩), fun A outer s H E f c' hr => (pe_call G_told (hr.mono (by omega)) rfl T.g_told T.k_told T.b_told .nil (passes_call (takes_of rfl rfl rfl rfl) fun _ _ _ _ z => z) (pa_cons (pv 3) (pa_cons (pv 10) (pa_cons (pe_lst (pa_cons (pe_tup pa_nil) pa_nil)) pa_nil))))⟩ ⟨C2.at VA, ?_⟩⟩
          refine ⟨_, rfl, _, rfl, by show 0 ≤ sizeLine; decide, fun e he => ?_⟩
          have V2 := V1.new (o := .tup []) he
          refine ⟨by show 1 ≤ sizeLine; decide, fun l hl => ?_⟩
          have V3 := V2.new (o := .lst ([e].map V.ref)) hl
          refine ⟨rl, l, odd, ras, [e], us.map Rul.vs, [[]], _, rfl, rowsR.mono (hBL (F := [_, _, _, _])), nil_rows List.mem_cons_self (List.mem_cons_of_mem _ List.mem_cons_self), V3, fun i hi => (hi.not goodR).elim, fun _ _ H18 V4 => ?_, fun _ hh => absurd hh hno⟩
          refine ⟨1, _, _, _, rfl, rfl, rfl, V4, .inl ⟨rfl, rfl, fun HG V7 => ?_⟩⟩
          exact ⟨rfl, false, neStr _, rfl, Own.right (L' := [_, _]) V7⟩
        · refine ⟨rfl, _, rfl, lam_here C3 VA ⟨lmS_by (by rfl), (lbd1 fun _ _ _ _ _ _ _ => ⟨_, rfl, rfl⟩), fun A outer s H E f c' hr => (pe_call G_plain (hr.mono (by omega)) rfl T.g_plain T.k_plain T.b_plain .nil (passes_call (takes_of rfl rfl rfl rfl) fun _ _ _ _ z => z) (pa_cons (pv 10) (pa_cons (pe_lst (pa_cons (pe_tup pa_nil) pa_nil)) pa_nil)))⟩ ⟨C3.at VA, ?_⟩⟩
          refine ⟨_, rfl, by show 0 ≤ sizeLine; decide, fun e he => ?_⟩
          have V2 := V1.new (o := .tup []) he
          refine ⟨by show 1 ≤ sizeLine; decide, fun l hl => ?_⟩
          have V3 := V2.new (o := .lst ([e].map V.ref)) hl
          refine ⟨l, odd, [e], [[]], _, rfl, nil_rows List.mem_cons_self (List.mem_cons_of_mem _ List.mem_cons_self), V3, fun _ H18 V4 => ?_, fun hh => absurd hh hno, fun hh => absurd hh hno⟩
          refine ⟨1, _, _, _, rfl, rfl, rfl, V4, .inl ⟨rfl, rfl, fun HG V7 => ?_⟩⟩
          exact ⟨rfl, false, neStr _, rfl, Own.right (L' := [_, _]) V7⟩
        · refine ⟨rfl, _, rfl, lam_here C4 VA ⟨lmS_by (by rfl), (lbd1 fun _ _ _ _ _ _ _ => ⟨_, rfl, rfl⟩), fun A outer s H E f c' hr => (pe_call G_least (hr.mono (by omega)) rfl T.g_least T.k_least T.b_least .nil (passes_call (takes_of rfl rfl rfl rfl) fun _ _ _ _ z => z) (pa_cons (pe_lst (pa_cons (pv 3) pa_nil)) (pa_cons (pv 10) (pa_cons (pe_lst (pa_cons (pe_tup pa_nil) pa_nil)) pa_nil))))⟩ ⟨C4.at VA, ?_⟩⟩
          refine ⟨_, rfl, by show 1 ≤ sizeLine; decide, fun hp hhp => ?_⟩
          have V0 := V1.new (o := .lst ([rl].map V.ref)) hhp
          refine ⟨_, rfl, by show 0 ≤ sizeLine; decide, fun e he => ?_⟩
          have V2 := V0.new (o := .tup []) he
          refine ⟨by show 1 ≤ sizeLine; decide, fun l hl => ?_⟩
          have V3 := V2.new (o := .lst ([e].map V.ref)) hl
          refine ⟨hp, l, odd, [rl], [e], [us.map Rul.vs], [[]], _, rfl, List.mem_cons_of_mem _ (List.mem_cons_of_mem _ List.mem_cons_self), ⟨⟨ras, rowsR.mono (hBL (F := [_, _, _, _, _]))⟩, trivial⟩, by show 1 ≤ 1000; decide, nil_rows List.mem_cons_self (List.mem_cons_of_mem _ List.mem_cons_self), V3, fun z => (z ⟨Nat.le_refl 1, by show 1 ≤ 6; decide⟩).elim, fun _ j i xss hj hi _ => ?_, fun _ _ _ H18 V4 => ?_, fun _ _ hh => absurd hh hno⟩
          · cases j with
            | zero =>
              obtain rfl : us.map Rul.vs = xss := Option.some.inj hj
              exact (hi.not goodR).elim
            | succ j => cases hj
          refine ⟨1, _, _, _, rfl, rfl, rfl, V4, .inl ⟨rfl, rfl, fun HG V7 => ?_⟩⟩
          exact ⟨rfl, false, neStr _, rfl, Own.right (L' := [_, _, _]) V7⟩
      intro H17 V1
      refine ⟨by show 0 ≤ sizeLine; decide, fun p9 hp9 => ?_⟩
      have V2 := V1.new (o := .lst []) hp9
      refine ⟨.list [], .list [], .lst (SqL.of V2.a1) .nil, .lst (SqL.of V2.a0) .nil, sh0, sh0, false, by rw [eqv_self _ sh0], iteF ?_⟩
      have Y0 : Own _ (L1 ++ M2) := Own.right (L' := [_, _, _]) V2
      clear V1 V2 Z5 C1 C2 C3 C4 hT1 hT2 hT3 hT4 hM pmM
      generalize upd H17 p9 _ = H18 at Y0 ⊢
      -- deeds that can't be
      refine ⟨_, rfl, _, rfl, pd, _, rfl, .inl (SqL.of (Y0.mem (hBL (F := []) _ mpd))), _, _, rfl, rfl, ?_⟩
      refine ⟨rw, S, c8, _, B ++ M2, rfl, hc8, by omega, Y0.perm (by rw [hL1]; walk_at "perm"), fun va c9 H20 ha0 ha1 hc9 O1 => ?_⟩
      rw [List.length_map, hdal] at ha1
      obtain ⟨at', rfl⟩ : ∃ a : Nat, va = (a : Int) := ⟨va.toNat, by omega⟩
      have hatl : at' ≤ ds.length := by omega
      have hdl9 : ds.length ≤ 9 := hdl
      have big : ∀ {k : Nat}, k ≤ 5000 → k ≤ sizeLine := fun h => Nat.le_of_lt (size1 (by omega))
      have mpd1 : ∀ {F M : List Cell}, (pd, HO.lst (das.map V.ref)) ∈ F ++ (c9 :: (S ++ (B ++ M))) := fun {F M} => by simp [mpd]
      refine ⟨_, rfl, _, rfl, _, rfl, pd, _, rfl, SqL.of (O1.mem (mpd1 (F := []))), fun s1 hs1 => ?_⟩
      have ec1 : cutV (das.map V.ref) none (some ((at' : Nat) : Int)) = (das.take at').map V.ref := by rw [cutTake (by rw [List.length_map]; omega), List.map_take]
      rw [ec1]
      have X1 := O1.new (o := .lst ((das.take at').map V.ref)) hs1
      refine ⟨_, rfl, _, rfl, _, rfl, rw, S, c9, m, far, (s1, .lst ((das.take at').map V.ref)) :: (B ++ M2), rfl, hf0, hc9, X1.perm (by walk_at "perm"), fun oa oxs No c10 H21 mo hbo hfo hNo hc10 X2 => ?_⟩
      refine ⟨by show 1 ≤ sizeLine; decide, fun s2 hs2 => ?_⟩
      have X3 := X2.new (o := .lst ([oa].map V.ref)) hs2
      refine ⟨s1, s2, _, _, rfl, rfl, X3.mem (show (s1, HO.lst ((das.take at').map V.ref)) ∈ _ by simp), X3.a0, big (by rw [List.length_map, List.length_map, List.length_take]; show _ + 1 ≤ 5000; omega), fun s3 hs3 => ?_⟩
      rw [← List.map_append]
      have X4 := X3.new (o := .lst ((das.take at' ++ [oa]).map V.ref)) hs3
      refine ⟨_, rfl, _, rfl, _, rfl, noPart ⟨pd, _, rfl, SqL.of (X4.mem (show (pd, HO.lst (das.map V.ref)) ∈ _ by simp [mpd])), fun s4 hs4 => ?_⟩⟩
      have ec2 : cutV (das.map V.ref) (some ((at' : Nat) : Int)) none = (das.drop at').map V.ref := by rw [cutDrop (by rw [List.length_map]; omega), List.map_drop]
      rw [ec2]
      have X5 := X4.new (o := .lst ((das.drop at').map V.ref)) hs4
      refine ⟨s3, s4, _, _, rfl, rfl, X5.a1, X5.a0, big (by simp only [List.length_map, List.length_append, List.length_take, List.length_drop, List.length_cons, List.length_nil]; omega), fun s5 hs5 => ?_⟩
      rw [← List.map_append]
      have X6 := X5.new (o := .lst ((das.take at' ++ [oa] ++ das.drop at').map V.ref)) hs5
      refine ⟨by show 0 ≤ sizeLine; decide, fun e0 he0 => ?_⟩
      have X7 := X6.new (o := .tup []) he0
      refine ⟨by show 1 ≤ sizeLine; decide, fun s6 hs6 => ?_⟩
      have X8 := X7.new (o := .lst ([e0].map V.ref)) hs6
      refine ⟨s5, s6, _, _, rfl, rfl, X8.a2, X8.a0, big (by simp only [List.length_map, List.length_append, List.length_take, List.length_drop, List.length_cons, List.length_nil]; omega), fun ps hps => ?_⟩
      rw [← List.map_append]
      obtain ⟨sas, hsas⟩ : ∃ sas : List Addr, sas = das.take at' ++ [oa] ++ das.drop at' ++ [e0] := ⟨_, rfl⟩
      rw [← hsas]
      have X9 := X8.new (o := .lst (sas.map V.ref)) hps
      obtain ⟨B3, hB3⟩ : ∃ B3 : List Cell, B3 = (ps, HO.lst (sas.map V.ref)) :: (e0, .tup []) :: (No ++ B) := ⟨_, rfl⟩
      have nB3 : NT B3 := by
        rw [hB3]
        exact NT.cons rfl (NT.cons rfl (NT.app hNo nB))
      have hBB3 : ∀ z ∈ B, z ∈ B3 := fun z hz => by rw [hB3]; simp [hz]
      have rowsS : RowsAt B3 ps sas ((ds.map Deed.vs).take at' ++ [oxs] ++ ((ds.map Deed.vs).drop at' ++ [[]])) := by
        refine ⟨by rw [hB3]; exact List.mem_cons_self, ?_, fun ys hy => ?_, ?_⟩
        · rw [hsas, List.append_assoc (das.take at' ++ [oa])]
          exact TA.app (TA.app ((hdaB.take at').mono hBB3) ⟨by rw [hB3]; simp [mo], trivial⟩) (TA.app ((hdaB.drop at').mono hBB3) ⟨by rw [hB3]; simp, trivial⟩)
        · have fl : ∀ z ∈ ds.map Deed.vs, FlatX z := fun z hz => by
            obtain ⟨q, _, rfl⟩ := List.mem_map.mp hz
            exact deedFl q
          rcases List.mem_append.mp hy with h | h
          · rcases List.mem_append.mp h with h | h
            · exact fl _ (List.mem_of_mem_take h)
            · rw [List.mem_singleton.mp h]
              exact hfo
          · rcases List.mem_append.mp h with h | h
            · exact fl _ (List.mem_of_mem_drop h)
            · rw [List.mem_singleton.mp h]
              exact flatOf rfl (by show 0 ≤ 1000; decide)
        · simp only [List.length_append, List.length_take, List.length_drop, List.length_map, List.length_cons, List.length_nil]
          omega
      have badS : DeedBad (m : Nat) ((ds.map Deed.vs).take at' ++ [oxs] ++ ((ds.map Deed.vs).drop at' ++ [[]])) at' := bad_deed hds hatl (by omega) hbo
      have Y0' : Own _ ((c10 :: (S ++ B3)) ++ M2) := Own.right (L' := [(s6, .lst ([e0].map V.ref)), (s5, .lst ((das.take at' ++ [oa] ++ das.drop at').map V.ref)), (s4, .lst ((das.drop at').map V.ref)), (s3, .lst ((das.take at' ++ [oa]).map V.ref)), (s2, .lst ([oa].map V.ref)), (s1, .lst ((das.take at').map V.ref))]) (X9.perm (by rw [hB3]; walk_at "perm"))
      clear X9 X8 X7 X6 X5 X4 X3 X2 X1 O1 Y0 hL1 hBL nL1 hT
      obtain ⟨L1, hL1⟩ : ∃ L1 : List Cell, L1 = c10 :: (S ++ B3) := ⟨_, rfl⟩
      rw [← hL1] at Y0'
      have nL1 : NT L1 := by
        rw [hL1]
        exact NT.cons hc10.nt (NT.app hS nB3)
      have hBL : ∀ {F M : List Cell}, ∀ z ∈ B3, z ∈ F ++ (L1 ++ M) := fun {F M} z hz => by rw [hL1]; simp [hz]
      have Y0 := Y0'
      clear Y0'
      have hT := hTM2
      clear hTM2
      generalize M2 = TL at Y0 hT
      have hmok : HandOk (m : Nat) := ⟨by omega, by omega⟩
      have rowsR3 := rowsR.mono hBB3
      -- works
      refine seqLst_go ?_
      refine lamV_go2 (L := L1) Y0 (nL1) hT fun f1 H31 F1 TL1 e1 hT1 hNF1 hLC1 Y1 => ?_
      refine tCons_go ?_
      refine lamV_go2 (L := F1 ++ (L1)) (Y1.perm (by walk_at "perm")) (hNF1.app (nL1)) hT1 fun f2 H32 F2 TL2 e2 hT2 hNF2 hLC2 Y2 => ?_
      refine ⟨by show 2 ≤ sizeLine; decide, fun pw hpw => ?_⟩
      have Yw := Y2.new (o := .lst [.ref f1, .ref f2]) hpw
      have ew : LamX.ExtN H32 (upd H32 pw (.lst [.ref f1, .ref f2])) := LamX.ExtN.of fun b o hb => by
        rw [upd_ne (fun z => by rw [z, hpw] at hb; cases hb)]
        exact hb
      refine ⟨_, rfl, .inl ⟨rfl, _, SqL.of Yw.a0⟩, ?_⟩
      refine tCons_go ?_
      refine lamV_go2 (L := (pw, .lst [.ref f1, .ref f2]) :: (F2 ++ (F1 ++ (L1)))) (Yw.perm (by walk_at "perm")) (NT.cons rfl (hNF2.app (hNF1.app (nL1)))) hT2 fun f3 H33 F3 TL3 e3 hT3 hNF3 hLC3 Y3 => ?_
      obtain ⟨N1, Z1, C1⟩ := lam_cells Y3 ((((hLC1.at Y1).ext e2).ext ew).ext e3)
      obtain ⟨N2, Z2, C2⟩ := lam_cells Z1 (((hLC2.at Y2).ext ew).ext e3)
      obtain ⟨M3, hM⟩ : ∃ M : List Cell, M = N2 ++ (N1 ++ (F3 ++ (F2 ++ (F1 ++ (TL3))))) := ⟨_, rfl⟩
      have hTM3 : TBs K M3 := hT3.mono fun c hc => by rw [hM]; simp [hc]
      have pmM : (N2 ++ (N1 ++ (F3 ++ (((pw, HO.lst [.ref f1, .ref f2]) :: (F2 ++ (F1 ++ (L1)))) ++ TL3)))).Perm ((pw, .lst [.ref f1, .ref f2]) :: (L1 ++ M3)) := by
        rw [hM]
        walk_at "perm"
      replace C1 := (C1.mono (L' := (pw, .lst [.ref f1, .ref f2]) :: (L1 ++ M3)) fun c hc => pmM.mem_iff.mp (List.mem_append_right _ (hc))).drop
      replace C2 := (C2.mono (L' := (pw, .lst [.ref f1, .ref f2]) :: (L1 ++ M3)) fun c hc => pmM.mem_iff.mp (hc)).drop
      have C3 := (hLC3.mono (L' := (pw, .lst [.ref f1, .ref f2]) :: (L1 ++ M3)) fun c hc => pmM.mem_iff.mp (List.mem_append_right _ (List.mem_append_right _ (hc)))).drop
      have Zb := Z2.perm pmM
      refine ⟨pw, _, _, rfl, rfl, Zb.a0, by show 2 < sizeLine; decide, ?_⟩
      have Z5 := Zb.set (o' := .lst [.ref f1, .ref f2, .ref f3])
      clear Zb Yw Y0 Y1 Y2 Y3 Z1 Z2 hLC1 hLC2 hLC3
      generalize hH16 : upd H33 pw (.lst ([.ref f1, .ref f2] ++ [.ref f3])) = H16
      replace Z5 : Own H16 ((pw, .lst [.ref f1, .ref f2, .ref f3]) :: (L1 ++ M3)) := by rw [← hH16]; exact Z5
      clear hH16
      refine ⟨_, rfl, pw, rfl, ⟨_, SqL.of Z5.a0⟩, fun D2 hD2 => ?_⟩
      have hsh1 : SeqAt.shaped (.tuple [.str "deed", .int ((at' : Nat) : Int)]) = true := shapedWI (by decide +kernel)
      refine lcF_list (tt := fun _ => _) (K := K) (a := pw) (xs := [.ref f1, .ref f2, .ref f3]) (fun _ H' => Own H' ((D2, .lst []) :: (pw, .lst [.ref f1, .ref f2, .ref f3]) :: (L1 ++ M3))) (Z5.new hD2) (fun i H' _ O' => SqL.of O'.a1) ?_ ?_
      · rintro i x H17 hi V1
        have VA := Own.right (L' := [_, _]) V1
        have hi4 : i = 0 ∨ i = 1 ∨ i = 2 := by
          have : i < 3 := (List.getElem?_eq_some_iff.mp hi).1
          omega
        rcases hi4 with e | e | e <;> subst e <;> obtain rfl := Option.some.inj hi
        · refine ⟨rfl, _, rfl, lam_here C1 VA ⟨lmS_by (by rfl), (lbd0 fun _ _ _ _ _ => rfl), fun A outer s H E f c' hr => (pe_call G_told (hr.mono (by omega)) rfl T.g_told T.k_told T.b_told .nil (passes_call (takes_of rfl rfl rfl rfl) fun _ _ _ _ z => z) (pa_cons (pv 3) (pa_cons (pv 4) (pa_cons (pv 12) pa_nil))))⟩ ⟨C1.at VA, ?_⟩⟩
          refine ⟨_, rfl, _, rfl, _, rfl, rl, ps, (m : Nat), ras, sas, us.map Rul.vs, _, _, rfl, rowsR3.mono (hBL (F := [_, _])), rowsS.mono (hBL (F := [_, _])), V1, fun i hi => (hi.not goodR).elim, fun _ hh => absurd hmok hh, fun _ _ => ⟨⟨us, rfl, hus⟩, at', badS, fun d H18 V4 => ?_⟩⟩
          refine ⟨5, _, _, _, rfl, rfl, rfl, V4, .inr ⟨d, "number", _, rfl, rfl, List.mem_cons_self, fun t1 HG V7 => ?_⟩⟩
          refine ⟨_, rfl, by show 2 ≤ sizeLine; decide, fun t2 ht2 => ?_⟩
          have V8 := V7.new (o := .tup [.str "deed", .int ((at' : Nat) : Int)]) ht2
          exact ⟨_, _, .tup (SqT.of V8.a1) (.cons (.str _) (.cons (.int _) .nil)), .tup (SqT.of V8.a0) (.cons (.str _) (.cons (.int _) .nil)), hsh1, hsh1, false, by rw [eqv_self _ hsh1], rfl, Own.right (L' := [_, _, _]) V8⟩
        · refine ⟨rfl, _, rfl, lam_here C2 VA ⟨lmS_by (by rfl), (lbd1 fun _ _ _ _ _ _ _ => ⟨_, rfl, rfl⟩), fun A outer s H E f c' hr => (pe_call G_plain (hr.mono (by omega)) rfl T.g_plain T.k_plain T.b_plain .nil (passes_call (takes_of rfl rfl rfl rfl) fun _ _ _ _ z => z) (pa_cons (pv 4) (pa_cons (pv 12) pa_nil)))⟩ ⟨C2.at VA, ?_⟩⟩
          refine ⟨_, rfl, _, rfl, ps, (m : Nat), sas, _, _, rfl, rowsS.mono (hBL (F := [_, _])), V1, fun hh => absurd hmok hh, fun _ i hi d H18 V4 => ?_, fun _ hall => (badS.2.1 (hall _ badS.1)).elim⟩
          rw [hi.uniq badS] at V4
          refine ⟨5, _, _, _, rfl, rfl, rfl, V4, .inr ⟨d, "number", _, rfl, rfl, List.mem_cons_self, fun t1 HG V7 => ?_⟩⟩
          refine ⟨_, rfl, by show 2 ≤ sizeLine; decide, fun t2 ht2 => ?_⟩
          have V8 := V7.new (o := .tup [.str "deed", .int ((at' : Nat) : Int)]) ht2
          exact ⟨_, _, .tup (SqT.of V8.a1) (.cons (.str _) (.cons (.int _) .nil)), .tup (SqT.of V8.a0) (.cons (.str _) (.cons (.int _) .nil)), hsh1, hsh1, false, by rw [eqv_self _ hsh1], rfl, Own.right (L' := [_, _, _]) V8⟩
        · refine ⟨rfl, _, rfl, lam_here C3 VA ⟨lmS_by (by rfl), (lbd1 fun _ _ _ _ _ _ _ => ⟨_, rfl, rfl⟩), fun A outer s H E f c' hr => (pe_call G_least (hr.mono (by omega)) rfl T.g_least T.k_least T.b_least .nil (passes_call (takes_of rfl rfl rfl rfl) fun _ _ _ _ z => z) (pa_cons (pe_lst (pa_cons (pv 3) pa_nil)) (pa_cons (pv 4) (pa_cons (pv 12) pa_nil))))⟩ ⟨C3.at VA, ?_⟩⟩
          refine ⟨_, rfl, by show 1 ≤ sizeLine; decide, fun hp hhp => ?_⟩
          have V0 := V1.new (o := .lst ([rl].map V.ref)) hhp
          refine ⟨_, rfl, _, rfl, hp, ps, (m : Nat), [rl], sas, [us.map Rul.vs], _, _, rfl, List.mem_cons_self, ⟨⟨ras, rowsR3.mono (hBL (F := [_, _, _]))⟩, trivial⟩, by show 1 ≤ 1000; decide, rowsS.mono (hBL (F := [_, _, _])), V0, fun z => (z ⟨Nat.le_refl 1, by show 1 ≤ 6; decide⟩).elim, fun _ j i xss hj hi _ => ?_, fun _ _ hh => absurd hmok hh, fun _ _ _ => ⟨at', badS, fun d H18 V4 => ?_⟩⟩
          · cases j with
            | zero =>
              obtain rfl : us.map Rul.vs = xss := Option.some.inj hj
              exact (hi.not goodR).elim
            | succ j => cases hj
          refine ⟨5, _, _, _, rfl, rfl, rfl, V4, .inr ⟨d, "number", _, rfl, rfl, List.mem_cons_self, fun t1 HG V7 => ?_⟩⟩
          refine ⟨_, rfl, by show 2 ≤ sizeLine; decide, fun t2 ht2 => ?_⟩
          have V8 := V7.new (o := .tup [.str "deed", .int ((at' : Nat) : Int)]) ht2
          exact ⟨_, _, .tup (SqT.of V8.a1) (.cons (.str _) (.cons (.int _) .nil)), .tup (SqT.of V8.a0) (.cons (.str _) (.cons (.int _) .nil)), hsh1, hsh1, false, by rw [eqv_self _ hsh1], rfl, Own.right (L' := [_, _, _, _]) V8⟩
      intro H17 V1
      refine ⟨by show 0 ≤ sizeLine; decide, fun p9 hp9 => ?_⟩
      have V2 := V1.new (o := .lst []) hp9
      refine ⟨.list [], .list [], .lst (SqL.of V2.a1) .nil, .lst (SqL.of V2.a0) .nil, sh0, sh0, false, by rw [eqv_self _ sh0], iteF ?_⟩
      have Y0 : Own _ (L1 ++ M3) := Own.right (L' := [_, _, _]) V2
      clear V1 V2 Z5 C1 C2 C3 hT1 hT2 hT3 hM pmM
      generalize upd H17 p9 _ = H18 at Y0 ⊢
      -- too many
      have hbad2 := hrowsB.mono hBB3
      refine ⟨by show 3 ≤ sizeLine; decide, fun t1 ht1 => ?_⟩
      have X1 := Y0.new (o := .tup [.str "look", .int 0, .int 63]) ht1
      refine ⟨by show 1 ≤ sizeLine; decide, fun l1 hl1 => ?_⟩
      have X2 := X1.new (o := .lst [.ref t1]) hl1
      obtain ⟨mm, hmm, hmm1, hmm2⟩ : ∃ mm : Nat, 201 + far % 3 = (mm : Int) ∧ 201 ≤ mm ∧ mm ≤ 203 := ⟨(201 + far % 3).toNat, by omega, by omega, by omega⟩
      refine ⟨_, rfl, _, _, rfl, rfl, by show (0 : Int) < 3; decide, _, _, rfl, rfl, ?_⟩
      refine ⟨l1, 201 + far % 3, [.ref t1], rfl, rfl, X2.a0, by omega, by omega, by rw [hmm, Int.toNat_natCast]; exact Nat.le_of_lt (size1 (by show 1 * mm ≤ 1000000; omega)), fun pm hpm => ?_⟩
      have eR : (List.replicate (201 + far % 3).toNat [V.ref t1]).flatten = (List.replicate mm t1).map V.ref := by
        rw [hmm, Int.toNat_natCast, List.map_replicate]
        exact flatRep mm _
      rw [eR]
      have X3 := X2.new (o := .lst ((List.replicate mm t1).map V.ref)) hpm
      obtain ⟨B4, hB4⟩ : ∃ B4 : List Cell, B4 = (pm, HO.lst ((List.replicate mm t1).map V.ref)) :: (t1, .tup [.str "look", .int 0, .int 63]) :: B3 := ⟨_, rfl⟩
      have nB4 : NT B4 := by
        rw [hB4]
        exact NT.cons rfl (NT.cons rfl nB3)
      have hBB4 : ∀ z ∈ B3, z ∈ B4 := fun z hz => by rw [hB4]; simp [hz]
      have Y0' : Own _ ((c10 :: (S ++ B4)) ++ M3) := Own.right (L' := [(l1, .lst [.ref t1])]) (X3.perm (by rw [hB4, hL1]; walk_at "perm"))
      clear X1 X2 X3 Y0 hL1 hBL nL1 hT
      obtain ⟨L1, hL1⟩ : ∃ L1 : List Cell, L1 = c10 :: (S ++ B4) := ⟨_, rfl⟩
      rw [← hL1] at Y0'
      have nL1 : NT L1 := by
        rw [hL1]
        exact NT.cons hc10.nt (NT.app hS nB4)
      have hBL : ∀ {F M : List Cell}, ∀ z ∈ B4, z ∈ F ++ (L1 ++ M) := fun {F M} z hz => by rw [hL1]; simp [hz]
      have ta_rep : ∀ k : Nat, TA B4 (List.replicate k t1) ((List.replicate k (Deed.look 0 63)).map Deed.vs) := fun k => by
        induction k with
        | zero => exact trivial
        | succ k ih =>
          rw [List.replicate_succ, List.replicate_succ, List.map_cons]
          exact ⟨by rw [hB4]; exact List.mem_cons_of_mem _ List.mem_cons_self, ih⟩
      have rowsM : ∀ {p : Addr} {k : Nat} {R : List Cell}, k ≤ 1000 → (p, HO.lst ((List.replicate k t1).map V.ref)) ∈ R → (∀ z ∈ B4, z ∈ R) → RowsAt R p (List.replicate k t1) ((List.replicate k (Deed.look 0 63)).map Deed.vs) := fun {p k R} hk hp hs => ⟨hp, (ta_rep k).mono hs, fun ys hy => by
        obtain ⟨q, _, rfl⟩ := List.mem_map.mp hy
        exact deedFl q, by rw [List.length_map, List.length_replicate]; omega⟩
      have dAt : ∀ {k j : Nat}, j < k → j < 200 → DeedAt 1 ((List.replicate k (Deed.look 0 63)).map Deed.vs) j := fun {k j} h1 h2 => ⟨h2, (Deed.look 0 63).vs, by rw [List.getElem?_map, List.getElem?_replicate_of_lt h1]; rfl, by decide +kernel⟩
      have badM : DeedBad 1 ((List.replicate mm (Deed.look 0 63)).map Deed.vs) 200 := ⟨by rw [List.length_map, List.length_replicate]; omega, fun z => by have := z.1; omega, fun j hj => dAt (by omega) hj⟩
      have ok1 : HandOk 1 := ⟨by decide, by decide⟩
      refine gIf_go ?_
      refine orTest_go ?_
      refine callLam_go2 (L := L1) Y0' nL1 hTM3 fun f1 H31 F1 TL1 hT1 hNF1 hLC1 V1 => ⟨_, ⟨lmS_by (by rfl), (lbd0 fun _ _ _ _ _ => rfl), fun A outer s H E f c' hr => (pe_call G_plain (hr.mono (by omega)) rfl T.g_plain T.k_plain T.b_plain .nil (passes_call (takes_of rfl rfl rfl rfl) fun _ _ _ _ z => z) (pa_cons pe_int (pa_cons (pv 13) pa_nil)))⟩, hLC1.at V1, ?_⟩
      refine ⟨_, rfl, pm, 1, List.replicate mm t1, _, _, rfl, rowsM (by omega) (hBL _ (by rw [hB4]; exact List.mem_cons_self)) hBL, V1, fun hh => absurd ok1 hh, fun _ i hi d H32 V2 => ?_, fun _ hall => (badM.2.1 (hall _ badM.1)).elim⟩
      rw [hi.uniq badM] at V2
      refine ⟨5, _, _, _, rfl, rfl, rfl, V2, .inr ⟨d, "number", _, rfl, rfl, List.mem_cons_self, fun q1 HG V3 => ?_⟩⟩
      refine ⟨by show 2 ≤ sizeLine; decide, fun q2 hq2 => ?_⟩
      have V4 := V3.new (o := .tup [.str "deed", .int 200]) hq2
      have hsh1 : SeqAt.shaped (.tuple [.str "deed", .int 200]) = true := shapedWI (by decide +kernel)
      refine ⟨.tuple [.str "deed", .int 200], .tuple [.str "deed", .int 200], .tup (SqT.of V4.a1) (.cons (.str _) (.cons (.int _) .nil)), .tup (SqT.of V4.a0) (.cons (.str _) (.cons (.int _) .nil)), hsh1, hsh1, false, by rw [eqv_self _ hsh1], iteF ?_⟩
      have Y1 : Own _ (L1 ++ TL1) := Own.right (L' := (q2, HO.tup [.str "deed", .int 200]) :: (q1, .tup [.str "deed", .int ((200 : Nat) : Int)]) :: (d, .xd [("number", .int ((200 : Nat) : Int))]) :: F1) V4
      clear V1 V2 V3 V4 Y0' hLC1 hTM3
      refine ⟨_, rfl, 200, rfl, pm, _, rfl, SqL.of (Y1.mem (hBL (F := []) _ (show (pm, HO.lst ((List.replicate mm t1).map V.ref)) ∈ B4 by rw [hB4]; exact List.mem_cons_self))), fun q3 hq3 => ?_⟩
      have ec5 : cutV ((List.replicate mm t1).map V.ref) none (some 200) = (List.replicate 200 t1).map V.ref := by
        rw [show (200 : Int) = ((200 : Nat) : Int) from rfl, cutTake (by rw [List.length_map, List.length_replicate]; omega), ← List.map_take, List.take_replicate, Nat.min_eq_left (by omega)]
      rw [ec5]
      have Y2 := Y1.new (o := .lst ((List.replicate 200 t1).map V.ref)) hq3
      refine ⟨q3, 1, List.replicate 200 t1, _, _, rfl, rowsM (k := 200) (by decide) List.mem_cons_self (hBL (F := [_])), Y2, fun hh => absurd ok1 hh, fun _ i hi => (hi.2.1 (dAt (by have := hi.1; rw [List.length_map, List.length_replicate] at this; exact this) (by have := hi.1; rw [List.length_map, List.length_replicate] at this; exact this))).elim, fun _ _ => ⟨List.replicate 200 (Deed.look 0 63), rfl, fun d hd => by rw [List.eq_of_mem_replicate hd]; exact ⟨by decide, by decide⟩, by rw [List.length_replicate]; decide, fun p p1 p2 H33 Y3 => ?_⟩⟩
      refine ⟨p, _, 0, .ref p1, rfl, rfl, SqT.of Y3.a0, rfl, p1, _, rfl, .inl (SqL.of Y3.a1), ?_⟩
      rw [List.length_map, pl_looks]
      refine ⟨rfl, false, ?_, iteF ?_⟩
      · show V.bl (!decide (V.int ((200 : Nat) : Int) = V.int 200)) = _
        exact congrArg (fun b => V.bl (!b)) (decide_eq_true rfl)
      have Y4 : Own H33 (L1 ++ TL1) := Own.right (L' := [_, _, _, _]) Y3
      clear Y1 Y2 Y3
      -- halls
      have mrl4 : (rl, HO.lst (ras.map V.ref)) ∈ B4 := hBB4 _ (hBB3 _ mrl)
      have hraB4 : RA B4 ras us := hraB.mono fun z hz => hBB4 _ (hBB3 _ hz)
      refine ⟨_, rfl, _, rfl, _, rfl, _, rfl, rw, rl, S, c10, us, m, far, B4, TL1, rfl, hf0, hus, ⟨ras, mrl4, hraB4⟩, hm1, hm3, hc10, hS, nB4, hT1, Y4.perm (by rw [hL1]; walk_at "perm"), fun c11 TL2 H34 hc11 hT2 O1 => ⟨true, rfl, iteF ?_⟩⟩
      clear Y4 hL1 hBL nL1 hT1
      -- too many halls
      refine ⟨by show 0 ≤ sizeLine; decide, fun n0 hn0 => ?_⟩
      have X1 := O1.new (o := .lst (([] : List Addr).map V.ref)) hn0
      refine ⟨_, rfl, by show 1 ≤ sizeLine; decide, fun r1 hr1 => ?_⟩
      have X2 := X1.new (o := .lst [.ref rl]) hr1
      refine ⟨r1, 7, [.ref rl], rfl, rfl, X2.a0, by decide, by decide, by show 1 * 7 ≤ sizeLine; decide, fun r2 hr2 => ?_⟩
      have X3 := X2.new (o := .lst ((List.replicate 7 rl).map V.ref)) hr2
      refine ⟨_, rfl, by show 1 ≤ sizeLine; decide, fun r3 hr3 => ?_⟩
      have X4 := X3.new (o := .lst [.ref rl]) hr3
      obtain ⟨k9, hk9, hk91, hk92⟩ : ∃ k9 : Nat, 7 + far % 9 = (k9 : Int) ∧ 7 ≤ k9 ∧ k9 ≤ 15 := ⟨(7 + far % 9).toNat, by omega, by omega, by omega⟩
      refine ⟨_, rfl, _, _, rfl, rfl, by show (0 : Int) < 9; decide, _, _, rfl, rfl, ?_⟩
      refine ⟨r3, 7 + far % 9, [.ref rl], rfl, rfl, X4.a0, by omega, by omega, by rw [hk9, Int.toNat_natCast]; exact Nat.le_of_lt (size1 (by show 1 * k9 ≤ 1000000; omega)), fun r4 hr4 => ?_⟩
      have eR2 : (List.replicate (7 + far % 9).toNat [V.ref rl]).flatten = (List.replicate k9 rl).map V.ref := by
        rw [hk9, Int.toNat_natCast, List.map_replicate]
        exact flatRep k9 _
      rw [eR2]
      have X5 := X4.new (o := .lst ((List.replicate k9 rl).map V.ref)) hr4
      refine ⟨by show 3 ≤ sizeLine; decide, fun r5 hr5 => ?_⟩
      have X6 := X5.new (o := .lst [.ref n0, .ref r2, .ref r4]) hr5
      obtain ⟨B5, hB5⟩ : ∃ B5 : List Cell, B5 = (r5, HO.lst [.ref n0, .ref r2, .ref r4]) :: (r4, .lst ((List.replicate k9 rl).map V.ref)) :: (r3, .lst [.ref rl]) :: (r2, .lst ((List.replicate 7 rl).map V.ref)) :: (r1, .lst [.ref rl]) :: (n0, .lst (([] : List Addr).map V.ref)) :: B4 := ⟨_, rfl⟩
      have nB5 : NT B5 := by
        rw [hB5]
        exact NT.cons rfl (NT.cons rfl (NT.cons rfl (NT.cons rfl (NT.cons rfl (NT.cons rfl nB4)))))
      have hBB5 : ∀ z ∈ B4, z ∈ B5 := fun z hz => by rw [hB5]; simp [hz]
      refine ⟨_, rfl, rw, S, c11, 3, B5 ++ TL2, rfl, hc11, by decide, X6.perm (by rw [hB5]; walk_at "perm"), fun v12 c12 H35 h120 h123 hc12 X7 => ?_⟩
      clear X1 X2 X3 X4 X5 X6 O1
      obtain ⟨so, sk, hso, mso, hsk, hsk2⟩ : ∃ (so : Addr) (sk : Nat), atI [V.ref n0, .ref r2, .ref r4] v12 = some (.ref so) ∧ (so, HO.lst ((List.replicate sk rl).map V.ref)) ∈ B5 ∧ ¬ (1 ≤ sk ∧ sk ≤ 6) ∧ sk ≤ 15 := by
        rcases (show v12 = 0 ∨ v12 = 1 ∨ v12 = 2 by omega) with rfl | rfl | rfl
        · exact ⟨n0, 0, rfl, by rw [hB5]; simp, by omega, by omega⟩
        · exact ⟨r2, 7, rfl, by rw [hB5]; simp, by omega, by omega⟩
        · exact ⟨r4, k9, rfl, by rw [hB5]; simp, by omega, hk92⟩
      have mr5 : (r5, HO.lst [.ref n0, .ref r2, .ref r4]) ∈ B5 := by rw [hB5]; exact List.mem_cons_self
      refine ⟨r5, _, _, .ref so, rfl, rfl, SqL.of (X7.mem (List.mem_cons_of_mem _ (List.mem_append_right _ (List.mem_append_left _ mr5)))), hso, ?_⟩
      obtain ⟨L1, hL1⟩ : ∃ L1 : List Cell, L1 = c12 :: (S ++ B5) := ⟨_, rfl⟩
      have Y0 := X7.perm (L' := L1 ++ TL2) (by rw [hL1]; walk_at "perm")
      clear X7
      have nL1 : NT L1 := by
        rw [hL1]
        exact NT.cons hc12.nt (NT.app hS nB5)
      have hBL : ∀ {F M : List Cell}, ∀ z ∈ B5, z ∈ F ++ (L1 ++ M) := fun {F M} z hz => by rw [hL1]; simp [hz]
      have rowsR5 : RowsAt B5 rl ras (us.map Rul.vs) := rowsR3.mono fun z hz => hBB5 _ (hBB4 _ hz)
      have rowsB5 : RowsAt B5 pb bas bss := hbad2.mono fun z hz => hBB5 _ (hBB4 _ hz)
      have hax : ∀ {R : List Cell}, (∀ z ∈ B5, z ∈ R) → ∀ k : Nat, HaX R (List.replicate k rl) (List.replicate k (us.map Rul.vs)) := fun {R} hs k => by
        induction k with
        | zero => exact trivial
        | succ k ih =>
          rw [List.replicate_succ, List.replicate_succ]
          exact ⟨⟨ras, rowsR5.mono hs⟩, ih⟩
      refine gIf_go ?_
      refine test_go ?_
      refine callLam_go2 (L := L1) Y0 nL1 hT2 fun f1 H36 F1 TL3 hT3 hNF1 hLC1 V1 => ⟨_, ⟨lmS_by (by rfl), (lbd0 fun _ _ _ _ _ => rfl), fun A outer s H E f c' hr => (pe_call G_least (hr.mono (by omega)) rfl T.g_least T.k_least T.b_least .nil (passes_call (takes_of rfl rfl rfl rfl) fun _ _ _ _ z => z) (pa_cons (pv 14) (pa_cons pe_int (pa_cons (pe_lst (pa_cons (pe_tup pa_nil) pa_nil)) pa_nil))))⟩, hLC1.at V1, ?_⟩
      refine ⟨_, rfl, by show 0 ≤ sizeLine; decide, fun e he => ?_⟩
      have V2 := V1.new (o := .tup []) he
      refine ⟨by show 1 ≤ sizeLine; decide, fun l hl => ?_⟩
      have V3 := V2.new (o := .lst ([e].map V.ref)) hl
      refine ⟨so, l, 9, List.replicate sk rl, [e], List.replicate sk (us.map Rul.vs), [[]], _, rfl, List.mem_cons_of_mem _ (List.mem_cons_of_mem _ (hBL _ mso)), hax (fun z hz => List.mem_cons_of_mem _ (List.mem_cons_of_mem _ (hBL _ hz))) sk, by rw [List.length_replicate]; omega, nil_rows List.mem_cons_self (List.mem_cons_of_mem _ List.mem_cons_self), V3, fun _ H37 V4 => ?_, fun hh => absurd hh (by rw [List.length_replicate]; exact hsk), fun hh => absurd hh (by rw [List.length_replicate]; exact hsk), fun hh => absurd hh (by rw [List.length_replicate]; exact hsk)⟩
      refine ⟨6, _, _, _, rfl, rfl, rfl, V4, .inl ⟨rfl, rfl, fun HG V5 => ?_⟩⟩
      refine ⟨rfl, false, neStr _, iteF ?_⟩
      have Y1 : Own HG (L1 ++ TL3) := Own.right (L' := (l, .lst ([e].map V.ref)) :: (e, .tup []) :: F1) V5
      clear V1 V2 V3 V4 V5 Y0 hLC1 hT2
      -- the last one
      refine nextIf_go ?_
      refine test_go ?_
      refine callLam_go2 (L := L1) Y1 nL1 hT3 fun f1 H38 F1 TL4 hT4 hNF1 hLC1 V1 => ⟨_, ⟨lmS_by (by rfl), (lbd0 fun _ _ _ _ _ => rfl), fun A outer s H E f c' hr => (pe_call G_least (hr.mono (by omega)) rfl T.g_least T.k_least T.b_least .nil (passes_call (takes_of rfl rfl rfl rfl) fun _ _ _ _ z => z) (pa_cons (pe_op op_cat (pe_op op_rep (pe_lst (pa_cons (pv 3) pa_nil)) (pe_op op_add pe_int (pe_op op_mod (pv 6) pe_int))) (pe_lst (pa_cons (pv 7) pa_nil))) (pa_cons pe_int (pa_cons (pe_lst (pa_cons (pe_tup pa_nil) pa_nil)) pa_nil))))⟩, hLC1.at V1, ?_⟩
      refine ⟨_, rfl, by show 1 ≤ sizeLine; decide, fun g1 hg1 => ?_⟩
      have V2 := V1.new (o := .lst [.ref rl]) hg1
      obtain ⟨k5, hk5, hk51, hk52⟩ : ∃ k5 : Nat, 1 + far % 5 = (k5 : Int) ∧ 1 ≤ k5 ∧ k5 ≤ 5 := ⟨(1 + far % 5).toNat, by omega, by omega, by omega⟩
      refine ⟨_, rfl, _, _, rfl, rfl, by show (0 : Int) < 5; decide, _, _, rfl, rfl, ?_⟩
      refine ⟨g1, 1 + far % 5, [.ref rl], rfl, rfl, V2.a0, by omega, by omega, by rw [hk5, Int.toNat_natCast]; exact Nat.le_of_lt (size1 (by show 1 * k5 ≤ 1000000; omega)), fun g2 hg2 => ?_⟩
      have eR3 : (List.replicate (1 + far % 5).toNat [V.ref rl]).flatten = (List.replicate k5 rl).map V.ref := by
        rw [hk5, Int.toNat_natCast, List.map_replicate]
        exact flatRep k5 _
      rw [eR3]
      have V3 := V2.new (o := .lst ((List.replicate k5 rl).map V.ref)) hg2
      refine ⟨_, rfl, by show 1 ≤ sizeLine; decide, fun g3 hg3 => ?_⟩
      have V4 := V3.new (o := .lst ([pb].map V.ref)) hg3
      refine ⟨g2, g3, _, _, rfl, rfl, V4.a1, V4.a0, big (by rw [List.length_map, List.length_map, List.length_replicate]; show _ + 1 ≤ 5000; omega), fun g4 hg4 => ?_⟩
      rw [← List.map_append]
      have V5 := V4.new (o := .lst ((List.replicate k5 rl ++ [pb]).map V.ref)) hg4
      refine ⟨by show 0 ≤ sizeLine; decide, fun e he => ?_⟩
      have V6 := V5.new (o := .tup []) he
      refine ⟨by show 1 ≤ sizeLine; decide, fun l hl => ?_⟩
      have V7 := V6.new (o := .lst ([e].map V.ref)) hl
      have hs7 : ∀ z ∈ B5, z ∈ ((l, HO.lst ([e].map V.ref)) :: (e, .tup []) :: (g4, .lst ((List.replicate k5 rl ++ [pb]).map V.ref)) :: (g3, .lst ([pb].map V.ref)) :: (g2, .lst ((List.replicate k5 rl).map V.ref)) :: (g1, .lst [.ref rl]) :: (F1 ++ (L1 ++ TL4))) := fun z hz => by
        have := hBL (F := F1) (M := TL4) z hz
        simp [this]
      have hlen5 : (List.replicate k5 rl ++ [pb]).length = k5 + 1 := by rw [List.length_append, List.length_replicate]; rfl
      have gk : ∀ j', j' < k5 → ∃ x, (List.replicate k5 (us.map Rul.vs) ++ [bss])[j']? = some x ∧ RsGood x := fun j' hj' => ⟨us.map Rul.vs, by rw [List.getElem?_append_left (by rw [List.length_replicate]; exact hj'), List.getElem?_replicate_of_lt hj'], goodR⟩
      have bk : (List.replicate k5 (us.map Rul.vs) ++ [bss])[k5]? = some bss := by
        rw [List.getElem?_append_right (by rw [List.length_replicate]; exact Nat.le_refl _), List.length_replicate, Nat.sub_self]
        rfl
      refine ⟨g4, l, 9, List.replicate k5 rl ++ [pb], [e], List.replicate k5 (us.map Rul.vs) ++ [bss], [[]], _, rfl, by simp, HaX.snoc (hax hs7 k5) ⟨bas, rowsB5.mono hs7⟩, by rw [hlen5]; omega, nil_rows List.mem_cons_self (List.mem_cons_of_mem _ List.mem_cons_self), V7, fun hh => absurd ⟨by rw [hlen5]; omega, by rw [hlen5]; omega⟩ hh, fun _ j i xss hj hi hg d H39 V8 => ?_, fun _ hall => (hbad.not (hall bss (by simp))).elim, fun _ hall => (hbad.not (hall bss (by simp))).elim⟩
      obtain rfl : j = k5 := by
        have hjl : j < k5 + 1 := by
          have := (List.getElem?_eq_some_iff.mp hj).1
          rw [List.length_append, List.length_replicate] at this
          exact this
        rcases Nat.lt_or_ge j k5 with z | z
        · obtain ⟨x, hx, hgx⟩ := gk j z
          rw [hj] at hx
          obtain rfl := Option.some.inj hx
          exact (hi.not hgx).elim
        · omega
      rw [bk] at hj
      obtain rfl := Option.some.inj hj
      rw [hi.uniq hbad] at V8
      refine ⟨0, _, _, _, rfl, rfl, rfl, V8, .inr ⟨d, "number", _, rfl, rfl, List.mem_cons_self, fun q1 HG2 V9 => ?_⟩⟩
      refine ⟨_, rfl, by show 2 ≤ sizeLine; decide, fun q2 hq2 => ?_⟩
      have V10 := V9.new (o := .tup [.str "rule", .int ((due : Nat) : Int)]) hq2
      have hsh2 : SeqAt.shaped (.tuple [.str "rule", .int ((due : Nat) : Int)]) = true := shapedWI (by decide +kernel)
      refine ⟨.tuple [.str "rule", .int ((due : Nat) : Int)], .tuple [.str "rule", .int ((due : Nat) : Int)], .tup (SqT.of V10.a1) (.cons (.str _) (.cons (.int _) .nil)), .tup (SqT.of V10.a0) (.cons (.str _) (.cons (.int _) .nil)), hsh2, hsh2, false, by rw [eqv_self _ hsh2], iteF ?_⟩
      refine ⟨⟨_, _, _, _, _, _, _, _, _, _, _, _, _, _, rfl⟩, c12, TL4, hc12, hT4, ?_⟩
      have Z1 : Own _ (L1 ++ TL4) := Own.right (L' := [_, _, _, _, _, _, _, _, _] ++ F1) V10
      exact Own.right (L' := B5) (Z1.perm (by rw [hL1]; walk_at "perm"))
    · rintro σ H1 _
      exact kq H1
end
-- EndX2
theorem txt_of {w : World} {K : PySem.W.Frag} {h hh : Heap} {mg : Str → Option Value} (X : K.In h) (G : h.Ns mainGlobals mg) (c0 : He.SaysX fa fn [] tf ex w hh K) : Nonempty (Txt K mg) := by
  have c := c0.t.d
  have e0 : ex K = true := c0.more
  obtain ⟨x0, e1⟩ := He.ba (show (He.tupB K "SETS" [.int 1, .int 2, .int 4] && _) = true from e0)
  obtain ⟨x1, e2⟩ := He.ba (show (He.tupB K "WRITES" [.str "through", .str "back"] && _) = true from e1)
  obtain ⟨x2, e3⟩ := He.ba (show (He.tupB K "TAKES" [.str "in", .str "by"] && _) = true from e2)
  obtain ⟨x3, e4⟩ := He.ba (show (He.tupB K "LEAVES" [.str "first", .str "late"] && _) = true from e3)
  obtain ⟨x4, e5⟩ := He.ba (show (cmpB K (He.ga K "Line") && _) = true from e4)
  obtain ⟨x5, e6⟩ := He.ba (show (excTB K bads && _) = true from e5)
  obtain ⟨x6, e7⟩ := He.ba (show (oexB K (He.ga K "BadRule") && _) = true from e6)
  obtain ⟨x7, e8⟩ := He.ba (show (oexB K (He.ga K "BadDeed") && _) = true from e7)
  obtain ⟨x8, e9⟩ := He.ba (show (oexB K (He.ga K "BadLeavings") && _) = true from e8)
  obtain ⟨x9, e10⟩ := He.ba (show (oexB K (He.ga K "BadText") && _) = true from e9)
  obtain ⟨x10, e11⟩ := He.ba (show (decide ((He.cT K ("law", none)).2 ≠ (He.cT K ("_law_halls", none)).2) && _) = true from e10)
  obtain ⟨fd0, F0⟩ := c.def_ 0 (d := d_BadRule___init__) rfl
  obtain ⟨fd1, F1⟩ := c.def_ 1 (d := d_BadDeed___init__) rfl
  obtain ⟨fd2, F2⟩ := c.def_ 2 (d := d_BadLeavings___init__) rfl
  obtain ⟨fd3, F3⟩ := c.def_ 3 (d := d_BadText___init__) rfl
  obtain ⟨fd4, F4⟩ := c.def_ 4 (d := d_is_number) rfl
  obtain ⟨fd5, F5⟩ := c.def_ 5 (d := d_is_rule) rfl
  obtain ⟨fd6, F6⟩ := c.def_ 6 (d := d_need_rules) rfl
  obtain ⟨fd7, F7⟩ := c.def_ 7 (d := d_need_hands) rfl
  obtain ⟨fd8, F8⟩ := c.def_ 8 (d := d_is_deed) rfl
  obtain ⟨fd9, F9⟩ := c.def_ 9 (d := d_need_deeds) rfl
  obtain ⟨fd10, F10⟩ := c.def_ 10 (d := d_block_of) rfl
  obtain ⟨fd11, F11⟩ := c.def_ 11 (d := d_Far___init__) rfl
  obtain ⟨fd12, F12⟩ := c.def_ 12 (d := d_Far_bring) rfl
  obtain ⟨fd13, F13⟩ := c.def_ 13 (d := d_Far_home) rfl
  obtain ⟨fd14, F14⟩ := c.def_ 14 (d := d_Far_change) rfl
  obtain ⟨fd15, F15⟩ := c.def_ 15 (d := d_Line___init__) rfl
  obtain ⟨fd16, F16⟩ := c.def_ 16 (d := d_Room___init__) rfl
  obtain ⟨fd17, F17⟩ := c.def_ 17 (d := d_Room_lines_of) rfl
  obtain ⟨fd18, F18⟩ := c.def_ 18 (d := d_Room_line_of) rfl
  obtain ⟨fd19, F19⟩ := c.def_ 19 (d := d_Room_note) rfl
  obtain ⟨fd20, F20⟩ := c.def_ 20 (d := d_Room_pass_home) rfl
  obtain ⟨fd21, F21⟩ := c.def_ 21 (d := d_Room_pass_cell) rfl
  obtain ⟨fd22, F22⟩ := c.def_ 22 (d := d_Room_make_way) rfl
  obtain ⟨fd23, F23⟩ := c.def_ 23 (d := d_Room_touch) rfl
  obtain ⟨fd24, F24⟩ := c.def_ 24 (d := d_Room_reach) rfl
  obtain ⟨fd25, F25⟩ := c.def_ 25 (d := d_Room_bring) rfl
  obtain ⟨fd26, F26⟩ := c.def_ 26 (d := d_Room_look) rfl
  obtain ⟨fd27, F27⟩ := c.def_ 27 (d := d_Room_change) rfl
  obtain ⟨fd28, F28⟩ := c.def_ 28 (d := d_Room_home) rfl
  obtain ⟨fd29, F29⟩ := c.def_ 29 (d := d_Room_yield_up) rfl
  obtain ⟨fd30, F30⟩ := c.def_ 30 (d := d_Room_settle) rfl
  obtain ⟨fd31, F31⟩ := c.def_ 31 (d := d_Room_holds) rfl
  obtain ⟨fd32, F32⟩ := c.def_ 32 (d := d_Hall___init__) rfl
  obtain ⟨fd33, F33⟩ := c.def_ 33 (d := d_Hall_need) rfl
  obtain ⟨fd34, F34⟩ := c.def_ 34 (d := d_Hall_ask_others) rfl
  obtain ⟨fd35, F35⟩ := c.def_ 35 (d := d_Hall_look) rfl
  obtain ⟨fd36, F36⟩ := c.def_ 36 (d := d_Hall_change) rfl
  obtain ⟨fd37, F37⟩ := c.def_ 37 (d := d_Hall_settle) rfl
  obtain ⟨fd38, F38⟩ := c.def_ 38 (d := d_Hall_far) rfl
  obtain ⟨fd39, F39⟩ := c.def_ 39 (d := d_Hall_near) rfl
  obtain ⟨fd40, F40⟩ := c.def_ 40 (d := d_Hall_log) rfl
  obtain ⟨fd41, F41⟩ := c.def_ 41 (d := d_Hall_moves) rfl
  obtain ⟨fd42, F42⟩ := c.def_ 42 (d := d_done) rfl
  obtain ⟨fd43, F43⟩ := c.def_ 43 (d := d_told) rfl
  obtain ⟨fd44, F44⟩ := c.def_ 44 (d := d_plain) rfl
  obtain ⟨fd45, F45⟩ := c.def_ 45 (d := d_weight) rfl
  obtain ⟨fd46, F46⟩ := c.def_ 46 (d := d_least) rfl
  obtain ⟨fd47, F47⟩ := c.def_ 47 (d := d_written) rfl
  obtain ⟨fd48, F48⟩ := c.def_ 48 (d := d__law_taken) rfl
  obtain ⟨fd49, F49⟩ := c.def_ 49 (d := d__law_alike) rfl
  obtain ⟨fd50, F50⟩ := c.def_ 50 (d := d__law_word) rfl
  obtain ⟨fd51, F51⟩ := c.def_ 51 (d := d__law_rule) rfl
  obtain ⟨fd52, F52⟩ := c.def_ 52 (d := d__law_rules) rfl
  obtain ⟨fd53, F53⟩ := c.def_ 53 (d := d__law_place) rfl
  obtain ⟨fd54, F54⟩ := c.def_ 54 (d := d__law_deeds) rfl
  obtain ⟨fd55, F55⟩ := c.def_ 55 (d := d__law_bad_rules) rfl
  obtain ⟨fd56, F56⟩ := c.def_ 56 (d := d__law_odd) rfl
  obtain ⟨fd57, F57⟩ := c.def_ 57 (d := d__law_halls) rfl
  obtain ⟨fd58, F58⟩ := c.def_ 58 (d := d_law) rfl
  exact ⟨{
    g_is_number := He.glo_ok X G (c.fact 0 (f := .glo "is_number") rfl)
    g_is_rule := He.glo_ok X G (c.fact 1 (f := .glo "is_rule") rfl)
    g_need_rules := He.glo_ok X G (c.fact 2 (f := .glo "need_rules") rfl)
    g_need_hands := He.glo_ok X G (c.fact 3 (f := .glo "need_hands") rfl)
    g_is_deed := He.glo_ok X G (c.fact 4 (f := .glo "is_deed") rfl)
    g_need_deeds := He.glo_ok X G (c.fact 5 (f := .glo "need_deeds") rfl)
    g_block_of := He.glo_ok X G (c.fact 6 (f := .glo "block_of") rfl)
    g_done := He.glo_ok X G (c.fact 7 (f := .glo "done") rfl)
    g_told := He.glo_ok X G (c.fact 8 (f := .glo "told") rfl)
    g_plain := He.glo_ok X G (c.fact 9 (f := .glo "plain") rfl)
    g_weight := He.glo_ok X G (c.fact 10 (f := .glo "weight") rfl)
    g_least := He.glo_ok X G (c.fact 11 (f := .glo "least") rfl)
    g_written := He.glo_ok X G (c.fact 12 (f := .glo "written") rfl)
    g__law_taken := He.glo_ok X G (c.fact 13 (f := .glo "_law_taken") rfl)
    g__law_alike := He.glo_ok X G (c.fact 14 (f := .glo "_law_alike") rfl)
    g__law_word := He.glo_ok X G (c.fact 15 (f := .glo "_law_word") rfl)
    g__law_rule := He.glo_ok X G (c.fact 16 (f := .glo "_law_rule") rfl)
    g__law_rules := He.glo_ok X G (c.fact 17 (f := .glo "_law_rules") rfl)
    g__law_place := He.glo_ok X G (c.fact 18 (f := .glo "_law_place") rfl)
    g__law_deeds := He.glo_ok X G (c.fact 19 (f := .glo "_law_deeds") rfl)
    g__law_bad_rules := He.glo_ok X G (c.fact 20 (f := .glo "_law_bad_rules") rfl)
    g__law_odd := He.glo_ok X G (c.fact 21 (f := .glo "_law_odd") rfl)
    g__law_halls := He.glo_ok X G (c.fact 22 (f := .glo "_law_halls") rfl)
    g_law := He.glo_ok X G (c.fact 23 (f := .glo "law") rfl)
    g_WayError := He.glo_ok X G (c.fact 24 (f := .glo "WayError") rfl)
    g_BadRule := He.glo_ok X G (c.fact 25 (f := .glo "BadRule") rfl)
    g_BadHands := He.glo_ok X G (c.fact 26 (f := .glo "BadHands") rfl)
    g_BadHand := He.glo_ok X G (c.fact 27 (f := .glo "BadHand") rfl)
    g_BadPlace := He.glo_ok X G (c.fact 28 (f := .glo "BadPlace") rfl)
    g_BadNumber := He.glo_ok X G (c.fact 29 (f := .glo "BadNumber") rfl)
    g_BadDeed := He.glo_ok X G (c.fact 30 (f := .glo "BadDeed") rfl)
    g_BadRoom := He.glo_ok X G (c.fact 31 (f := .glo "BadRoom") rfl)
    g_BadWays := He.glo_ok X G (c.fact 32 (f := .glo "BadWays") rfl)
    g_BadLeavings := He.glo_ok X G (c.fact 33 (f := .glo "BadLeavings") rfl)
    g_BadText := He.glo_ok X G (c.fact 34 (f := .glo "BadText") rfl)
    g_Far := He.glo_ok X G (c.fact 35 (f := .glo "Far") rfl)
    g_Line := He.glo_ok X G (c.fact 36 (f := .glo "Line") rfl)
    g_Room := He.glo_ok X G (c.fact 37 (f := .glo "Room") rfl)
    g_Hall := He.glo_ok X G (c.fact 38 (f := .glo "Hall") rfl)
    cl_Far := He.cls_ok (c.fact 39 (f := .cls "Far") rfl)
    na_Far_held := He.noat_ok (c.fact 40 (f := .noat "Far" "held") rfl)
    mk_Far := He.mkr_ok (c.fact 41 (f := .mkr "Far") rfl)
    m_Far_bring := He.meth_ok (c.fact 42 (f := .meth "Far" "bring") rfl)
    m_Far_home := He.meth_ok (c.fact 43 (f := .meth "Far" "home") rfl)
    m_Far_change := He.meth_ok (c.fact 44 (f := .meth "Far" "change") rfl)
    cl_Line := He.cls_ok (c.fact 45 (f := .cls "Line") rfl)
    na_Line_block := He.noat_ok (c.fact 46 (f := .noat "Line" "block") rfl)
    na_Line_numbers := He.noat_ok (c.fact 47 (f := .noat "Line" "numbers") rfl)
    na_Line_is_dirty := He.noat_ok (c.fact 48 (f := .noat "Line" "is_dirty") rfl)
    mk_Line := He.mkr_ok (c.fact 49 (f := .mkr "Line") rfl)
    cl_Room := He.cls_ok (c.fact 50 (f := .cls "Room") rfl)
    na_Room_ways := He.noat_ok (c.fact 51 (f := .noat "Room" "ways") rfl)
    na_Room_is_back := He.noat_ok (c.fact 52 (f := .noat "Room" "is_back") rfl)
    na_Room_is_in := He.noat_ok (c.fact 53 (f := .noat "Room" "is_in") rfl)
    na_Room_is_late := He.noat_ok (c.fact 54 (f := .noat "Room" "is_late") rfl)
    na_Room_behind := He.noat_ok (c.fact 55 (f := .noat "Room" "behind") rfl)
    na_Room_title := He.noat_ok (c.fact 56 (f := .noat "Room" "title") rfl)
    na_Room_diary := He.noat_ok (c.fact 57 (f := .noat "Room" "diary") rfl)
    na_Room_sets := He.noat_ok (c.fact 58 (f := .noat "Room" "sets") rfl)
    mk_Room := He.mkr_ok (c.fact 59 (f := .mkr "Room") rfl)
    m_Room_lines_of := He.meth_ok (c.fact 60 (f := .meth "Room" "lines_of") rfl)
    m_Room_line_of := He.meth_ok (c.fact 61 (f := .meth "Room" "line_of") rfl)
    m_Room_note := He.meth_ok (c.fact 62 (f := .meth "Room" "note") rfl)
    m_Room_pass_home := He.meth_ok (c.fact 63 (f := .meth "Room" "pass_home") rfl)
    m_Room_pass_cell := He.meth_ok (c.fact 64 (f := .meth "Room" "pass_cell") rfl)
    m_Room_make_way := He.meth_ok (c.fact 65 (f := .meth "Room" "make_way") rfl)
    m_Room_touch := He.meth_ok (c.fact 66 (f := .meth "Room" "touch") rfl)
    m_Room_reach := He.meth_ok (c.fact 67 (f := .meth "Room" "reach") rfl)
    m_Room_bring := He.meth_ok (c.fact 68 (f := .meth "Room" "bring") rfl)
    m_Room_look := He.meth_ok (c.fact 69 (f := .meth "Room" "look") rfl)
    m_Room_change := He.meth_ok (c.fact 70 (f := .meth "Room" "change") rfl)
    m_Room_home := He.meth_ok (c.fact 71 (f := .meth "Room" "home") rfl)
    m_Room_yield_up := He.meth_ok (c.fact 72 (f := .meth "Room" "yield_up") rfl)
    m_Room_settle := He.meth_ok (c.fact 73 (f := .meth "Room" "settle") rfl)
    m_Room_holds := He.meth_ok (c.fact 74 (f := .meth "Room" "holds") rfl)
    cl_Hall := He.cls_ok (c.fact 75 (f := .cls "Hall") rfl)
    na_Hall_diary := He.noat_ok (c.fact 76 (f := .noat "Hall" "diary") rfl)
    na_Hall_last := He.noat_ok (c.fact 77 (f := .noat "Hall" "last") rfl)
    na_Hall_shared := He.noat_ok (c.fact 78 (f := .noat "Hall" "shared") rfl)
    na_Hall_own := He.noat_ok (c.fact 79 (f := .noat "Hall" "own") rfl)
    mk_Hall := He.mkr_ok (c.fact 80 (f := .mkr "Hall") rfl)
    m_Hall_need := He.meth_ok (c.fact 81 (f := .meth "Hall" "need") rfl)
    m_Hall_ask_others := He.meth_ok (c.fact 82 (f := .meth "Hall" "ask_others") rfl)
    m_Hall_look := He.meth_ok (c.fact 83 (f := .meth "Hall" "look") rfl)
    m_Hall_change := He.meth_ok (c.fact 84 (f := .meth "Hall" "change") rfl)
    m_Hall_settle := He.meth_ok (c.fact 85 (f := .meth "Hall" "settle") rfl)
    m_Hall_far := He.meth_ok (c.fact 86 (f := .meth "Hall" "far") rfl)
    m_Hall_near := He.meth_ok (c.fact 87 (f := .meth "Hall" "near") rfl)
    m_Hall_log := He.meth_ok (c.fact 88 (f := .meth "Hall" "log") rfl)
    m_Hall_moves := He.meth_ok (c.fact 89 (f := .meth "Hall" "moves") rfl)
    g_CELLS := He.int_ok X G (c.fact 90 (f := .int "CELLS" 64) rfl)
    g_BLOCK := He.int_ok X G (c.fact 91 (f := .int "BLOCK" 4) rfl)
    g_MOST_NUMBER := He.int_ok X G (c.fact 92 (f := .int "MOST_NUMBER" 999) rfl)
    g_MOST_WAYS := He.int_ok X G (c.fact 93 (f := .int "MOST_WAYS" 4) rfl)
    g_MOST_RULES := He.int_ok X G (c.fact 94 (f := .int "MOST_RULES" 3) rfl)
    g_MOST_HANDS := He.int_ok X G (c.fact 95 (f := .int "MOST_HANDS" 3) rfl)
    g_MOST_DEEDS := He.int_ok X G (c.fact 96 (f := .int "MOST_DEEDS" 200) rfl)
    g_SETS := He.glo_ok X G (c.fact 97 (f := .glo "SETS") rfl)
    g_WRITES := He.glo_ok X G (c.fact 98 (f := .glo "WRITES") rfl)
    g_TAKES := He.glo_ok X G (c.fact 99 (f := .glo "TAKES") rfl)
    g_LEAVES := He.glo_ok X G (c.fact 100 (f := .glo "LEAVES") rfl)
    g_LOOK := He.str_ok X G (c.fact 101 (f := .str "LOOK" "look") rfl)
    g_SET := He.str_ok X G (c.fact 102 (f := .str "SET" "set") rfl)
    g_BRING := He.str_ok X G (c.fact 103 (f := .str "BRING" "bring") rfl)
    g_HOME := He.str_ok X G (c.fact 104 (f := .str "HOME" "home") rfl)
    g_CELL := He.str_ok X G (c.fact 105 (f := .str "CELL" "cell") rfl)
    g_MOST_HALLS := He.int_ok X G (c.fact 106 (f := .int "MOST_HALLS" 6) rfl)
    g_ROOM := He.str_ok X G (c.fact 107 (f := .str "ROOM" "room") rfl)
    n_ValueError := He.free_ok X G (c.fact 108 (f := .free "ValueError") rfl)
    n_len := He.free_ok X G (c.fact 109 (f := .free "len") rfl)
    n_isinstance := He.free_ok X G (c.fact 110 (f := .free "isinstance") rfl)
    n_range := He.free_ok X G (c.fact 111 (f := .free "range") rfl)
    n_list := He.free_ok X G (c.fact 112 (f := .free "list") rfl)
    n_tuple := He.free_ok X G (c.fact 113 (f := .free "tuple") rfl)
    n_enumerate := He.free_ok X G (c.fact 114 (f := .free "enumerate") rfl)
    n_int := He.free_ok X G (c.fact 115 (f := .free "int") rfl)
    n_bool := He.free_ok X G (c.fact 116 (f := .free "bool") rfl)
    n_set := He.free_ok X G (c.fact 117 (f := .free "set") rfl)
    n_sum := He.free_ok X G (c.fact 118 (f := .free "sum") rfl)
    n_min := He.free_ok X G (c.fact 119 (f := .free "min") rfl)
    n_str := He.free_ok X G (c.fact 120 (f := .free "str") rfl)
    m_BadRule___init__ := He.meth_ok (c.fact 121 (f := .meth "BadRule" "__init__") rfl)
    na_BadRule_number := He.noat_ok (c.fact 122 (f := .noat "BadRule" "number") rfl)
    xe_BadHands := He.exc_ok (c.fact 123 (f := .exc "BadHands") rfl)
    xe_BadHand := He.exc_ok (c.fact 124 (f := .exc "BadHand") rfl)
    xe_BadPlace := He.exc_ok (c.fact 125 (f := .exc "BadPlace") rfl)
    xe_BadNumber := He.exc_ok (c.fact 126 (f := .exc "BadNumber") rfl)
    m_BadDeed___init__ := He.meth_ok (c.fact 127 (f := .meth "BadDeed" "__init__") rfl)
    na_BadDeed_number := He.noat_ok (c.fact 128 (f := .noat "BadDeed" "number") rfl)
    xe_BadRoom := He.exc_ok (c.fact 129 (f := .exc "BadRoom") rfl)
    xe_BadWays := He.exc_ok (c.fact 130 (f := .exc "BadWays") rfl)
    m_BadLeavings___init__ := He.meth_ok (c.fact 131 (f := .meth "BadLeavings" "__init__") rfl)
    na_BadLeavings_number := He.noat_ok (c.fact 132 (f := .noat "BadLeavings" "number") rfl)
    m_BadText___init__ := He.meth_ok (c.fact 133 (f := .meth "BadText" "__init__") rfl)
    na_BadText_row := He.noat_ok (c.fact 134 (f := .noat "BadText" "row") rfl)
    t_SETS := fun H => He.tupB_ok x0 H
    t_WRITES := fun H => He.tupB_ok x1 H
    t_TAKES := fun H => He.tupB_ok x2 H
    t_LEAVES := fun H => He.tupB_ok x3 H
    cmp_Line := cmpB_ok x4
    xt := excTB_ok x5
    ox_BadRule := x6
    ox_BadDeed := x7
    ox_BadLeavings := x8
    ox_BadText := x9
    pp := of_decide_eq_true x10
    fd_BadRule___init__ := fd0
    F_BadRule___init__ := F0
    b_BadRule___init__ := F0.bindsN fun _ _ _ _ _ _ us hl => match us, hl with | [_, _], _ => rfl
    k_BadRule___init__ := F0.kp
    fd_BadDeed___init__ := fd1
    F_BadDeed___init__ := F1
    b_BadDeed___init__ := F1.bindsN fun _ _ _ _ _ _ us hl => match us, hl with | [_, _], _ => rfl
    k_BadDeed___init__ := F1.kp
    fd_BadLeavings___init__ := fd2
    F_BadLeavings___init__ := F2
    b_BadLeavings___init__ := F2.bindsN fun _ _ _ _ _ _ us hl => match us, hl with | [_, _], _ => rfl
    k_BadLeavings___init__ := F2.kp
    fd_BadText___init__ := fd3
    F_BadText___init__ := F3
    b_BadText___init__ := F3.bindsN fun _ _ _ _ _ _ us hl => match us, hl with | [_, _], _ => rfl
    k_BadText___init__ := F3.kp
    fd_is_number := fd4
    F_is_number := F4
    b_is_number := F4.bindsN fun _ _ _ _ _ _ us hl => match us, hl with | [_, _, _], _ => rfl
    k_is_number := F4.kp
    fd_is_rule := fd5
    F_is_rule := F5
    b_is_rule := F5.bindsN fun _ _ _ _ _ _ us hl => match us, hl with | [_], _ => rfl
    k_is_rule := F5.kp
    fd_need_rules := fd6
    F_need_rules := F6
    b_need_rules := F6.bindsN fun _ _ _ _ _ _ us hl => match us, hl with | [_], _ => rfl
    k_need_rules := F6.kp
    fd_need_hands := fd7
    F_need_hands := F7
    b_need_hands := F7.bindsN fun _ _ _ _ _ _ us hl => match us, hl with | [_], _ => rfl
    k_need_hands := F7.kp
    fd_is_deed := fd8
    F_is_deed := F8
    b_is_deed := F8.bindsN fun _ _ _ _ _ _ us hl => match us, hl with | [_, _], _ => rfl
    k_is_deed := F8.kp
    fd_need_deeds := fd9
    F_need_deeds := F9
    b_need_deeds := F9.bindsN fun _ _ _ _ _ _ us hl => match us, hl with | [_, _], _ => rfl
    k_need_deeds := F9.kp
    fd_block_of := fd10
    F_block_of := F10
    b_block_of := F10.bindsN fun _ _ _ _ _ _ us hl => match us, hl with | [_], _ => rfl
    k_block_of := F10.kp
    fd_Far___init__ := fd11
    F_Far___init__ := F11
    b_Far___init__ := F11.bindsN fun _ _ _ _ _ _ us hl => match us, hl with | [_], _ => rfl
    k_Far___init__ := F11.kp
    fd_Far_bring := fd12
    F_Far_bring := F12
    b_Far_bring := F12.bindsN fun _ _ _ _ _ _ us hl => match us, hl with | [_, _], _ => rfl
    k_Far_bring := F12.kp
    fd_Far_home := fd13
    F_Far_home := F13
    b_Far_home := F13.bindsN fun _ _ _ _ _ _ us hl => match us, hl with | [_, _, _], _ => rfl
    k_Far_home := F13.kp
    fd_Far_change := fd14
    F_Far_change := F14
    b_Far_change := F14.bindsN fun _ _ _ _ _ _ us hl => match us, hl with | [_, _, _], _ => rfl
    k_Far_change := F14.kp
    fd_Line___init__ := fd15
    F_Line___init__ := F15
    b_Line___init__ := F15.bindsN fun _ _ _ _ _ _ us hl => match us, hl with | [_, _, _], _ => rfl
    k_Line___init__ := F15.kp
    fd_Room___init__ := fd16
    F_Room___init__ := F16
    b_Room___init__ := F16.bindsN fun _ _ _ _ _ _ us hl => match us, hl with | [_, _, _, _, _], _ => rfl
    k_Room___init__ := F16.kp
    fd_Room_lines_of := fd17
    F_Room_lines_of := F17
    b_Room_lines_of := F17.bindsN fun _ _ _ _ _ _ us hl => match us, hl with | [_, _], _ => rfl
    k_Room_lines_of := F17.kp
    fd_Room_line_of := fd18
    F_Room_line_of := F18
    b_Room_line_of := F18.bindsN fun _ _ _ _ _ _ us hl => match us, hl with | [_, _], _ => rfl
    k_Room_line_of := F18.kp
    fd_Room_note := fd19
    F_Room_note := F19
    b_Room_note := F19.bindsN fun _ _ _ _ _ _ us hl => match us, hl with | [_, _, _], _ => rfl
    k_Room_note := F19.kp
    fd_Room_pass_home := fd20
    F_Room_pass_home := F20
    b_Room_pass_home := F20.bindsN fun _ _ _ _ _ _ us hl => match us, hl with | [_, _], _ => rfl
    k_Room_pass_home := F20.kp
    fd_Room_pass_cell := fd21
    F_Room_pass_cell := F21
    b_Room_pass_cell := F21.bindsN fun _ _ _ _ _ _ us hl => match us, hl with | [_, _, _], _ => rfl
    k_Room_pass_cell := F21.kp
    fd_Room_make_way := fd22
    F_Room_make_way := F22
    b_Room_make_way := F22.bindsN fun _ _ _ _ _ _ us hl => match us, hl with | [_, _], _ => rfl
    k_Room_make_way := F22.kp
    fd_Room_touch := fd23
    F_Room_touch := F23
    b_Room_touch := F23.bindsN fun _ _ _ _ _ _ us hl => match us, hl with | [_, _], _ => rfl
    k_Room_touch := F23.kp
    fd_Room_reach := fd24
    F_Room_reach := F24
    b_Room_reach := F24.bindsN fun _ _ _ _ _ _ us hl => match us, hl with | [_, _], _ => rfl
    k_Room_reach := F24.kp
    fd_Room_bring := fd25
    F_Room_bring := F25
    b_Room_bring := F25.bindsN fun _ _ _ _ _ _ us hl => match us, hl with | [_, _], _ => rfl
    k_Room_bring := F25.kp
    fd_Room_look := fd26
    F_Room_look := F26
    b_Room_look := F26.bindsN fun _ _ _ _ _ _ us hl => match us, hl with | [_, _], _ => rfl
    k_Room_look := F26.kp
    fd_Room_change := fd27
    F_Room_change := F27
    b_Room_change := F27.bindsN fun _ _ _ _ _ _ us hl => match us, hl with | [_, _, _], _ => rfl
    k_Room_change := F27.kp
    fd_Room_home := fd28
    F_Room_home := F28
    b_Room_home := F28.bindsN fun _ _ _ _ _ _ us hl => match us, hl with | [_, _, _], _ => rfl
    k_Room_home := F28.kp
    fd_Room_yield_up := fd29
    F_Room_yield_up := F29
    b_Room_yield_up := F29.bindsN fun _ _ _ _ _ _ us hl => match us, hl with | [_, _, _], _ => rfl
    k_Room_yield_up := F29.kp
    fd_Room_settle := fd30
    F_Room_settle := F30
    b_Room_settle := F30.bindsN fun _ _ _ _ _ _ us hl => match us, hl with | [_], _ => rfl
    k_Room_settle := F30.kp
    fd_Room_holds := fd31
    F_Room_holds := F31
    b_Room_holds := F31.bindsN fun _ _ _ _ _ _ us hl => match us, hl with | [_], _ => rfl
    k_Room_holds := F31.kp
    fd_Hall___init__ := fd32
    F_Hall___init__ := F32
    b_Hall___init__ := F32.bindsN fun _ _ _ _ _ _ us hl => match us, hl with | [_, _, _], _ => rfl
    k_Hall___init__ := F32.kp
    fd_Hall_need := fd33
    F_Hall_need := F33
    b_Hall_need := F33.bindsN fun _ _ _ _ _ _ us hl => match us, hl with | [_, _, _], _ => rfl
    k_Hall_need := F33.kp
    fd_Hall_ask_others := fd34
    F_Hall_ask_others := F34
    b_Hall_ask_others := F34.bindsN fun _ _ _ _ _ _ us hl => match us, hl with | [_, _, _, _], _ => rfl
    k_Hall_ask_others := F34.kp
    fd_Hall_look := fd35
    F_Hall_look := F35
    b_Hall_look := F35.bindsN fun _ _ _ _ _ _ us hl => match us, hl with | [_, _, _], _ => rfl
    k_Hall_look := F35.kp
    fd_Hall_change := fd36
    F_Hall_change := F36
    b_Hall_change := F36.bindsN fun _ _ _ _ _ _ us hl => match us, hl with | [_, _, _, _], _ => rfl
    k_Hall_change := F36.kp
    fd_Hall_settle := fd37
    F_Hall_settle := F37
    b_Hall_settle := F37.bindsN fun _ _ _ _ _ _ us hl => match us, hl with | [_], _ => rfl
    k_Hall_settle := F37.kp
    fd_Hall_far := fd38
    F_Hall_far := F38
    b_Hall_far := F38.bindsN fun _ _ _ _ _ _ us hl => match us, hl with | [_], _ => rfl
    k_Hall_far := F38.kp
    fd_Hall_near := fd39
    F_Hall_near := F39
    b_Hall_near := F39.bindsN fun _ _ _ _ _ _ us hl => match us, hl with | [_, _, _], _ => rfl
    k_Hall_near := F39.kp
    fd_Hall_log := fd40
    F_Hall_log := F40
    b_Hall_log := F40.bindsN fun _ _ _ _ _ _ us hl => match us, hl with | [_], _ => rfl
    k_Hall_log := F40.kp
    fd_Hall_moves := fd41
    F_Hall_moves := F41
    b_Hall_moves := F41.bindsN fun _ _ _ _ _ _ us hl => match us, hl with | [_], _ => rfl
    k_Hall_moves := F41.kp
    fd_done := fd42
    F_done := F42
    b_done := F42.bindsN fun _ _ _ _ _ _ us hl => match us, hl with | [_, _], _ => rfl
    k_done := F42.kp
    fd_told := fd43
    F_told := F43
    b_told := F43.bindsN fun _ _ _ _ _ _ us hl => match us, hl with | [_, _, _], _ => rfl
    k_told := F43.kp
    fd_plain := fd44
    F_plain := F44
    b_plain := F44.bindsN fun _ _ _ _ _ _ us hl => match us, hl with | [_, _], _ => rfl
    k_plain := F44.kp
    fd_weight := fd45
    F_weight := F45
    b_weight := F45.bindsN fun _ _ _ _ _ _ us hl => match us, hl with | [_], _ => rfl
    k_weight := F45.kp
    fd_least := fd46
    F_least := F46
    b_least := F46.bindsN fun _ _ _ _ _ _ us hl => match us, hl with | [_, _, _], _ => rfl
    k_least := F46.kp
    fd_written := fd47
    F_written := F47
    b_written := F47.bindsN fun _ _ _ _ _ _ us hl => match us, hl with | [_, _], _ => rfl
    k_written := F47.kp
    fd__law_taken := fd48
    F__law_taken := F48
    b__law_taken := F48.bindsN fun _ _ _ _ _ _ us hl => match us, hl with | [_, _], _ => rfl
    k__law_taken := F48.kp
    fd__law_alike := fd49
    F__law_alike := F49
    b__law_alike := F49.bindsN fun _ _ _ _ _ _ us hl => match us, hl with | [_, _], _ => rfl
    k__law_alike := F49.kp
    fd__law_word := fd50
    F__law_word := F50
    b__law_word := F50.bindsN fun _ _ _ _ _ _ us hl => match us, hl with | [_], _ => rfl
    k__law_word := F50.kp
    fd__law_rule := fd51
    F__law_rule := F51
    b__law_rule := F51.bindsN fun _ _ _ _ _ _ us hl => match us, hl with | [_], _ => rfl
    k__law_rule := F51.kp
    fd__law_rules := fd52
    F__law_rules := F52
    b__law_rules := F52.bindsN fun _ _ _ _ _ _ us hl => match us, hl with | [_], _ => rfl
    k__law_rules := F52.kp
    fd__law_place := fd53
    F__law_place := F53
    b__law_place := F53.bindsN fun _ _ _ _ _ _ us hl => match us, hl with | [_, _], _ => rfl
    k__law_place := F53.kp
    fd__law_deeds := fd54
    F__law_deeds := F54
    b__law_deeds := F54.bindsN fun _ _ _ _ _ _ us hl => match us, hl with | [_, _, _], _ => rfl
    k__law_deeds := F54.kp
    fd__law_bad_rules := fd55
    F__law_bad_rules := F55
    b__law_bad_rules := F55.bindsN fun _ _ _ _ _ _ us hl => match us, hl with | [_, _, _], _ => rfl
    k__law_bad_rules := F55.kp
    fd__law_odd := fd56
    F__law_odd := F56
    b__law_odd := F56.bindsN fun _ _ _ _ _ _ us hl => match us, hl with | [_, _, _], _ => rfl
    k__law_odd := F56.kp
    fd__law_halls := fd57
    F__law_halls := F57
    b__law_halls := F57.bindsN fun _ _ _ _ _ _ us hl => match us, hl with | [_, _, _, _], _ => rfl
    k__law_halls := F57.kp
    fd_law := fd58
    F_law := F58
    b_law := F58.bindsN fun _ _ _ _ _ _ us hl => match us, hl with | [_], _ => rfl
    k_law := F58.kp
  }⟩
theorem law_enter2 {K : PySem.W.Frag} {H : Hp} {a P1 P2 : Addr} {q1 q2 : Str} {ns : List Int} (hne : P1 ≠ P2) (h : SqL K H a (ns.map V.int)) (h1 : H P1 = some (.tbl #[])) (h2 : H P2 = some (.tbl #[])) : ∃ S TL : List Cell, Scr K a ns S ∧ NT S ∧ Tb2 TL P1 q1 P2 q2 ∧ Own H (S ++ TL) := by
  have tab : ∀ {P : Addr} {q : Str} {L : List Cell}, (P, HO.tbl #[]) ∈ L → TabC L P q := fun {P q L} hm => ⟨#[], hm, trivial, fun pos cv hc => by
    have z : codeAmong pos [] = some cv := hc
    simp [codeAmong] at z⟩
  have tb : Tb2 [(P1, HO.tbl #[]), (P2, HO.tbl #[])] P1 q1 P2 q2 := ⟨tab List.mem_cons_self, tab (List.mem_cons_of_mem _ List.mem_cons_self)⟩
  have Ot : Own H [(P1, HO.tbl #[]), (P2, HO.tbl #[])] := ⟨by
    show [P1, P2].Nodup
    exact List.nodup_cons.mpr ⟨fun z => hne (List.mem_singleton.mp z), List.nodup_cons.mpr ⟨List.not_mem_nil, List.nodup_nil⟩⟩, fun c hc => by
    rcases List.mem_cons.mp hc with z | z
    · rw [z]
      exact h1
    · rw [List.mem_singleton.mp z]
      exact h2⟩
  have one : ∀ {o : HO}, H a = some o → isTb o = false → Own H ([(a, o)] ++ [(P1, HO.tbl #[]), (P2, HO.tbl #[])]) := fun {o} e f => by
    have na : ∀ {P : Addr}, H P = some (.tbl #[]) → a ≠ P := fun {P} hP z => by
      rw [z, hP] at e
      rw [← Option.some.inj e] at f
      cases f
    refine ⟨?_, fun c hc => ?_⟩
    · show [a, P1, P2].Nodup
      refine List.nodup_cons.mpr ⟨fun z => ?_, Ot.1⟩
      rcases List.mem_cons.mp z with z | z
      · exact na h1 z
      · exact na h2 (List.mem_singleton.mp z)
    · rcases List.mem_cons.mp hc with z | z
      · rw [z]
        exact e
      · exact Ot.2 c z
  rcases h with (h | ⟨o, h⟩) | h
  · exact ⟨[(a, .lst (ns.map V.int))], _, fun H' h' => .inl (.inl (h' _ List.mem_cons_self)), NT.cons rfl NT.nil, tb, one h rfl⟩
  · exact ⟨[(a, .frz o (.lst (ns.map V.int)))], _, fun H' h' => .inl (.inr ⟨o, h' _ List.mem_cons_self⟩), NT.cons rfl NT.nil, tb, one h rfl⟩
  · exact ⟨[], _, fun H' _ => .inr h, NT.nil, tb, Ot⟩
theorem lawFactsX {l : PySem.W.OpenLaw} {w : World} {K : PySem.W.Frag} {h : Heap} {mg : Str → Option Value} {f : Addr} (X : K.In h) (G : h.Ns mainGlobals mg) (hf : mg ("law" : Str) = some (.ref f)) (c : He.SaysX fa fn [] tf ex w h K) : LamX.LawAtS l w K CX0 lawLv 63 "_law_script" mg f h := by
  obtain ⟨T⟩ := txt_of X G c
  have e : some (Value.ref f) = some (.ref (He.fAd K ("law", none))) := hf.symm.trans T.g_law
  cases e
  have b := FunD.bindsA (ps := ["_law_script"]) T.F_law fun _ _ _ _ _ _ us hl => match us, hl with | [_], _ => rfl
  have m1 : (("law", none) : He.Defn) ∈ tf := by decide
  have m2 : (("_law_halls", none) : He.Defn) ∈ tf := by decide
  refine ⟨T.fd_law, [He.cT K ("law", none), He.cT K ("_law_halls", none)], spLaw K, fun p hp => ?_, fun p hp => ?_, fun p hp => ?_, fun s v => b s [v] rfl, fun H a ns _ _ hH hS => ?_, fun base _ _ hT => ok_law T (hT _ List.mem_cons_self) (hT _ (List.mem_cons_of_mem _ List.mem_cons_self))⟩
  · rcases List.mem_cons.mp hp with z | z
    · rw [z]
      exact c.empty _ m1
    · rw [List.mem_singleton.mp z]
      exact c.empty _ m2
  · rcases List.mem_cons.mp hp with z | z
    · rw [z]
      exact c.out _ m1
    · rw [List.mem_singleton.mp z]
      exact c.out _ m2
  · rcases List.mem_cons.mp hp with z | z
    · rw [z]
      exact PySem.W.codeHd_of_K X (c.hd _ m1)
    · rw [List.mem_singleton.mp z]
      exact PySem.W.codeHd_of_K X (c.hd _ m2)
  · obtain ⟨S, TL, h1, h2, h3, h4⟩ := law_enter2 (q1 := lamQ) (q2 := lamQH) T.pp hS (hH _ List.mem_cons_self) (hH _ (List.mem_cons_of_mem _ List.mem_cons_self))
    exact ⟨a, ns, S, TL, rfl, h1, h2, h3, h4, fun _ => rfl⟩
end Ww
open PySem PySem.W PySem.Calls PyProof.Rows
theorem PySem.Challenge.cw_writeways_k01_refused_holds : PySem.Challenge.rw_writeways_k01_refused.Holds := by
  w_on; o_law
  refine HandSHeadRun.head_any (r := OpenLaw.row PySem.Challenge.rw_writeways_k01_refused) (q := view (OpenLaw.row PySem.Challenge.rw_writeways_k01_refused).prog [63]) (H := Ww.hk) (ob := Ww.ob) (M := 6000) (loose := Ww.loose) (d := HandSHeadRun.topDef (OpenLaw.row PySem.Challenge.rw_writeways_k01_refused).prog 63) (kwd := []) Ww.ob_eq
    (by kernel_rfl) (fun s => by kernel_rfl) Ww.run (by kernel_rfl) (by kernel_rfl) (by kernel_rfl) (by rfl) (by first | assumption | decide +kernel) (by decide +kernel) ⟨rfl, rfl, rfl, rfl, rfl, by decide +kernel⟩ ?hw ?hc
  case hw => w_witness2
  case hc =>
    refine LamX.walk_ofTsE (l := PySem.Challenge.rw_writeways_k01_refused) (n := 63) (k := Ww.lawLv) (x := "_law_script") (CX := fun _ => L2.CX0) rfl (by decide) (by kernel_rfl) ⟨rfl, by decide, by decide⟩ ?F (fun _ _ _ _ _ z => z)
    intro w mg f h Y G hmg0
    obtain ⟨K, KX, c⟩ := Y
    have hmg : mg ("law" : PySem.Str) = some (.ref f) := by
      have e : (HandSHeadRun.topDef (OpenLaw.row PySem.Challenge.rw_writeways_k01_refused).prog 63).name = ("law" : PySem.Str) := by kernel_rfl
      rw [← e]
      exact hmg0
    exact ⟨K, KX, Ww.lawFactsX KX G hmg c⟩
