import PyProof.Rows.All
import Wide.All
import OpenK.AllK
import Wide.FinOn
import HandS.ForMost
import HandS.ForExc
import HandS.Evl
import HandS.IsInst
import HandS.SortInts
import HandS.More
import HandS.Steps
import HandS.Strs
import HandS.SetFor
import HandS.Zip
import HandS.Style
import HandS.Conv
import HandS.ExcCtx
import HandS.ExcIs
import HandS.HotCalls
import PySem.Challenge.RW_linkpay_k10_which_refusal
set_option Elab.async false
set_option linter.all false
set_option maxRecDepth 100000
set_option maxHeartbeats 4000000
namespace Lp
open PySem PySem.Spec PyProof.Rows L2
open Evl (Ex)
/-! ### defs, classes, built-in names -/
structure Cal (P : Program) (w : World) (K : PySem.W.Frag) (mg : Str → Option Value) (base : Heap) (k : Nat) (x : Str) (ps : List Str) (sp : Sp) where
  f : Addr
  fd : FuncData
  ok : FnOk P w K mg base (L2.CX P w) k f fd ps sp
  gl : mg x = some (.ref f)
  kp : PySem.W.keepIn K (.ref f) = true
  bd : Binds K fd ps []
structure Bl (mg : Str → Option Value) : Prop where
  b_len : mg "len" = none
  b_range : mg "range" = none
  b_sorted : mg "sorted" = none
  b_isinstance : mg "isinstance" = none
  b_int : mg "int" = none
  b_bool : mg "bool" = none
  b_list : mg "list" = none
  b_tuple : mg "tuple" = none
  b_str : mg "str" = none
  b_set : mg "set" = none
  b_dict : mg "dict" = none
  b_enumerate : mg "enumerate" = none
  b_zip : mg "zip" = none
  b_sum : mg "sum" = none
  b_min : mg "min" = none
  b_max : mg "max" = none
  b_ValueError : mg "ValueError" = none
/-- an own class of errors, without a body -/
structure Exo (K : PySem.W.Frag) (mg : Str → Option Value) (x : Str) where
  C : Addr
  q : PySem.W.excIn K C [.type "ValueError", .type "Exception", .type "BaseException", .type "object"] "ValueError.__new__" = true
  gC : mg x = some (.ref C)
  kC : PySem.W.keepIn K (.ref C) = true
  e1 : PySem.W.subIn K (.ref C) (.type "BaseException") = some true
  e2 : PySem.W.typeIn K (.ref C) = some (.type "type")
theorem Exo.mk' {X : Cx} {x m : Str} (T : Exo X.K X.mg x) (hg : Gl X x) {j : Nat} {p p2 pos : Pos} (hdb : (x == ("__debug__" : Str)) = false := by decide) :
    PMk X (.Call (.Name x p) [.Constant (.str m) j p2] [] pos) (fun _ H Q => Q (.ref T.C) none H) :=
  pmk_own PySem.F.excBase_ValueError T.q T.gC T.kC (raises_own T.e1 T.e2) hg hdb

theorem noCX {P : Program} {w : World} {H : Hp} {s : Shared} {e : Value} {s' : Shared} (h : L2.CX P w [] H s (fun _ _ _ => False) e s') : False := by
  obtain ⟨_, _, _, _, _, _, _, _, _, _, _, _, z⟩ := h
  exact z.elim
/-- the goal behind the head, where the law's promise may use what the head says of the loose names -/
theorem walkX {l : PySem.W.OpenLaw} {n k : Nat} {q : Program} {loose : List Str} {XP : (Str → Option Value) → Heap → Prop} {YP : World → Heap → Prop} {d : DefRec} {K : Params → PySem.W.Frag} {sp : World → Sp} {x : Str}
    (hn : l.most = some n) (hz : n ≤ sizeLine) (hdf : d.params.defaults = []) (hr : Room k callerA) (hY : ∀ (w : World) (h : Heap), YP w h → (K w.params).In h)
    (F : ∀ (w : World) (mg : Str → Option Value) (fa : Addr) (h : Heap), (K w.params).In h → h.Ns mainGlobals mg → XP mg h → mg d.name = some (.ref fa) →
      ∃ fd : FuncData, (∀ (s : Shared) (u : Value), BindsTo s fd ⟨[u], []⟩ [(x, u)]) ∧
        ∀ base : Heap, (K w.params).In base → base.Ns mainGlobals mg → FnOk l.prog w (K w.params) mg base (L2.CX l.prog w) k fa fd [x] (sp w))
    (hsp : ∀ (w : World) (H : Hp) (a : Addr) (ns : List Int), ns.length ≤ n → SqL (K w.params) H a (ns.map V.int) → sp w [.ref a] H (fun v _ => v = .bl true) fun _ _ _ => False) :
    PySem.W.WalkO q loose XP YP l.row.toRowW d [] (fun f vs => PySem.call f vs) :=
  Att.attach_call hn hdf fun w s0 s1 mg mb fa o pm cd doc a vs ns G Y _ _ _ hmg hobj hints hlen hg => by
    obtain ⟨fd, hb, hF⟩ := F w mg fa s1.heap (hY w _ Y) G.T.g G.X hmg
    exact law_call (CX := L2.CX l.prog w) (hY w _ Y) G.T.g G.T.b G.T.builtins G.T.nolimit hg hobj hints (by omega) hr hF hb (fun H _ hS => hsp w H a ns hlen hS) fun H e s' => noCX
theorem loose_int {lv : List (Str × PySem.W.WData)} {mg : Str → Option Value} {h : Heap} (x : PySem.W.LooseAre lv mg h) {n : Str} {i : Int} (hm : (n, PySem.W.WData.int i) ∈ lv) : ∃ t, mg n = some (.int i t) := by
  obtain ⟨v, hv, r⟩ := x.val _ hm
  cases r
  exact ⟨_, hv⟩
/-! ### heaps -/
def Ints (H : Hp) (p : Addr) (ns : List Int) : Prop := H p = some (.lst (ns.map V.int))
theorem Ints.ex {H H' : Hp} {p : Addr} {ns : List Int} (h : Ints H p ns) (e : Ex H H') : Ints H' p ns := e _ _ h
theorem Ints.sq {K : PySem.W.Frag} {H : Hp} {p : Addr} {ns : List Int} (h : Ints H p ns) : SqL K H p (ns.map V.int) := .inl (.inl h)
/-- without the object at D -/
def del (H : Hp) (D : Addr) : Hp := fun b => if b = D then none else H b
theorem del_same {H : Hp} {D : Addr} : del H D D = none := if_pos rfl
theorem del_ne {H : Hp} {D b : Addr} (h : b ≠ D) : del H D b = H b := if_neg h
theorem del_le (H : Hp) (D : Addr) : Ex (del H D) H := fun a o h => by
  by_cases e : a = D
  · rw [e, del_same] at h
    cases h
  · rwa [del_ne e] at h
theorem del_upd (H : Hp) (D : Addr) (o : HO) : del (upd H D o) D = del H D := by
  funext b
  by_cases e : b = D
  · rw [e, del_same, del_same]
  · rw [del_ne e, del_ne e, upd_ne e]
theorem del_mono {H H' : Hp} (D : Addr) (e : Ex H H') : Ex (del H D) (del H' D) := fun a o h => by
  by_cases q : a = D
  · rw [q, del_same] at h
    cases h
  · rw [del_ne q] at h ⊢
    exact e _ _ h
theorem del_of {F H : Hp} {D : Addr} (e : Ex F H) (n : F D = none) : Ex F (del H D) := fun a o h => by
  rw [del_ne (ne_of_none h n)]
  exact e _ _ h
/-- a new object: told of some heap that holds it -/
theorem newO {H : Hp} {o : HO} {Q : V → Hp → Prop} (h : ∀ p H1, H p = none → Ex H H1 → H1 p = some o → H1 = upd H p o → Q (.ref p) H1) : ∀ p, H p = none → Q (.ref p) (upd H p o) :=
  fun p hp => h p _ hp (Evl.Ex.new hp) upd_same rfl

theorem nw {H : Hp} {p : Addr} (h : H p = none) (o : HO) : Ex H (upd H p o) ∧ upd H p o p = some o := ⟨Evl.Ex.new h, upd_same⟩

/-! ### related lists -/
theorem Paired.at {α β : Type} {F : α → β → Prop} : ∀ {l1 : List α} {l2 : List β} {i : Nat} {a : α}, Paired F l1 l2 → l1[i]? = some a → ∃ b, l2[i]? = some b ∧ F a b
  | _, _, _, _, .nil, e => by simp at e
  | _, _, 0, _, .cons r _, e => by
    simp at e
    subst e
    exact ⟨_, rfl, r⟩
  | _, _, i + 1, a, .cons _ t, e => by
    obtain ⟨b, h1, h2⟩ := Paired.at (i := i) (a := a) t (by simpa using e)
    exact ⟨b, by simpa using h1, h2⟩
theorem Paired.len {α β : Type} {F : α → β → Prop} : ∀ {l1 : List α} {l2 : List β}, Paired F l1 l2 → l1.length = l2.length
  | _, _, .nil => rfl
  | _, _, .cons _ t => by simp [Paired.len t]
theorem Paired.imp {α β : Type} {F G : α → β → Prop} : ∀ {l1 : List α} {l2 : List β}, Paired F l1 l2 → (∀ a b, F a b → G a b) → Paired G l1 l2
  | _, _, .nil, _ => .nil
  | _, _, .cons r t, h => .cons (h _ _ r) (Paired.imp t h)
theorem Paired.cat {α β : Type} {F : α → β → Prop} : ∀ {l1 l3 : List α} {l2 l4 : List β}, Paired F l1 l2 → Paired F l3 l4 → Paired F (l1 ++ l3) (l2 ++ l4)
  | _, _, _, _, .nil, s => s
  | _, _, _, _, .cons r t, s => .cons r (Paired.cat t s)
theorem Paired.ofMap {α β : Type} {F : α → β → Prop} {f : β → α} (h : ∀ b, F (f b) b) : ∀ l : List β, Paired F (l.map f) l
  | [] => .nil
  | b :: r => .cons (h b) (Paired.ofMap h r)
def IsI : V → Int → Prop := fun v n => v = .int n
theorem isI : ∀ l : List Int, Paired IsI (l.map V.int) l
  | [] => .nil
  | n :: r => .cons (show IsI (V.int n) n from rfl) (isI r)
theorem isI_eq : ∀ {xs : List V} {l : List Int}, Paired IsI xs l → xs = l.map V.int
  | _, _, .nil => rfl
  | _, _, .cons r t => by rw [isI_eq t, show _ = _ from r]; rfl
/-- a pair of ints -/
def RP (H : Hp) : V → Int × Int → Prop := fun v p => ∃ a, v = .ref a ∧ H a = some (.tup [.int p.1, .int p.2])
theorem RP.ex {H H' : Hp} (e : Ex H H') {v : V} {p : Int × Int} (h : RP H v p) : RP H' v p := by
  obtain ⟨a, rfl, q⟩ := h
  exact ⟨a, rfl, e _ _ q⟩
theorem RP.mut {H : Hp} {q : Addr} {xs ys : List V} (hq : H q = some (.lst xs)) {v : V} {p : Int × Int} (h : RP H v p) : RP (upd H q (.lst ys)) v p := by
  obtain ⟨a, rfl, z⟩ := h
  refine ⟨a, rfl, ?_⟩
  rw [upd_ne (ne_of z hq (by intro z; cases z))]
  exact z
/-- a list of pairs -/
def Prs (H : Hp) (p : Addr) (ps : List (Int × Int)) : Prop := ∃ xs, H p = some (.lst xs) ∧ Paired (RP H) xs ps
theorem Prs.ex {H H' : Hp} {p : Addr} {ps : List (Int × Int)} (h : Prs H p ps) (e : Ex H H') : Prs H' p ps := by
  obtain ⟨xs, h1, h2⟩ := h
  exact ⟨xs, e _ _ h1, Paired.imp h2 fun _ _ => RP.ex e⟩
theorem take_snoc {α : Type} {l : List α} {i : Nat} {x : α} (h : l[i]? = some x) : l.take (i + 1) = l.take i ++ [x] := by
  rw [List.take_add_one, h]
  rfl

/-! ### loops -/
/-- a for over a list that stands still: the word speaks of the items taken -/
theorem for_pre {β : Type} {K : PySem.W.Frag} {a : Addr} {xs : List V} {g : TG} {tb : TS} {D : Ends} {σ : L2.St} {H : Hp} {R : V → β → Prop} {ys : List β} (hp : Paired R xs ys) (I : List β → L2.St → Hp → Prop) (h0 : I [] σ H)
    (hl : ∀ pre σ H, I pre σ H → SqL K H a xs)
    (hs : ∀ pre y post x σ H, ys = pre ++ y :: post → R x y → I pre σ H → g x σ H fun σ2 H2 => tb { D with nx := I (pre ++ [y]), ct := I (pre ++ [y]), bk := D.nx } σ2 H2) (hd : ∀ σ H, I ys σ H → D.nx σ H) :
    ∃ W : Nat → Nat → L2.St → Hp → Prop, (∃ m, W 0 m σ H) ∧ ∀ i m σ H, W i m σ H →
      ((Itl K a).stop i H ∧ D.nx σ H) ∨ ((Itl K a).go i H ∧ ∃ N : L2.St → Hp → Prop, (∀ σ' H', N σ' H' → ∃ m', m' < m ∧ W (i + 1) m' σ' H') ∧ ∀ x H', (Itl K a).yld i H x H' → g x σ H' fun σ2 H2 => tb { D with nx := N, ct := N, bk := D.nx } σ2 H2) := by
  refine for_list (xs := xs) (fun i σ H => I (ys.take i) σ H) h0 (fun i σ H _ q => hl _ _ _ q) (fun i x σ H hx q => ?_) (fun σ H q => hd σ H ?_)
  · obtain ⟨y, hy, r⟩ := Paired.at hp hx
    have hi : i < ys.length := (List.getElem?_eq_some_iff.mp hy).1
    have e : ys = ys.take i ++ y :: ys.drop (i + 1) := by
      have e2 := (List.getElem?_eq_some_iff.mp hy).2
      rw [← e2, ← List.drop_eq_getElem_cons hi, List.take_append_drop]
    have z := hs (ys.take i) y _ x σ H e r q
    rw [← take_snoc hy] at z
    exact z
  · have q' : I (ys.take xs.length) σ H := q
    rwa [Paired.len hp, List.take_length] at q'
/-- a comprehension over a list that stands still; what it makes is told of the heap without the new list -/
theorem lc_pre {β γ : Type} {K : PySem.W.Frag} {a : Addr} {xs : List V} {g : TG} {tt : TT} {te : TE} {vs : List Nat} {σ : L2.St} {H : Hp} {Dl : Addr} {Qd : Hp → Prop} {R : V → β → Prop} {ys : List β} {R' : Hp → V → γ → Prop} (hD : H Dl = none)
    (hp : Paired R xs ys) (hsrc : SqL K H a xs) (hz : xs.length < sizeLine) (mono : ∀ H1 H2 v c, Ex H1 H2 → R' H1 v c → R' H2 v c) (p : β → Bool) (f : β → γ)
    (hs : ∀ y x H1 acc, y ∈ ys → R x y → Ex H (del H1 Dl) → H1 Dl = some (.lst acc) → ∀ (Y : V → Hp → Prop) (Z : Hp → Prop), (p y = true → ∀ v H4, Ex H1 H4 → R' (del H4 Dl) v (f y) → Y v H4) → (p y = false → ∀ H3, Ex H1 H3 → Z H3) →
      g x (wipe σ vs) H1 fun σ2 H2 => wipe σ2 vs = wipe σ vs ∧ tt σ2 H2 fun b H3 => if b = true then te σ2 H3 Y else Z H3)
    (hd : ∀ H2 acc, H2 Dl = some (.lst acc) → Ex H (del H2 Dl) → Paired (R' (del H2 Dl)) acc ((ys.filter p).map f) → Qd H2) :
    ∃ W : Nat → Nat → Hp → Prop, (∃ m, W 0 m (upd H Dl (.lst []))) ∧ ∀ i m H, W i m H →
      ((Itl K a).stop i H ∧ Qd H) ∨ ((Itl K a).go i H ∧ ∃ Nx : Hp → Prop, (∀ H', Nx H' → ∃ m', m' < m ∧ W (i + 1) m' H') ∧ ∀ x H', (Itl K a).yld i H x H' → g x (wipe σ vs) H' fun σ2 H2 => wipe σ2 vs = wipe σ vs ∧ tt σ2 H2 fun b H3 =>
        if b = true then te σ2 H3 fun y H4 => ∃ acc, H4 Dl = some (.lst acc) ∧ acc.length < sizeLine ∧ Nx (upd H4 Dl (.lst (acc ++ [y]))) else Nx H3) := by
  have hlen : ∀ i, ((List.filter p (ys.take i)).map f).length ≤ ys.length := fun i => by
    rw [List.length_map]
    exact Nat.le_trans (List.length_filter_le _ _) (by rw [List.length_take]; exact Nat.min_le_right _ _)
  have hL := Paired.len hp
  refine lc_list (xs := xs) (fun i H2 => ∃ acc, H2 Dl = some (.lst acc) ∧ Ex H (del H2 Dl) ∧ Paired (R' (del H2 Dl)) acc (((ys.take i).filter p).map f)) ⟨[], upd_same, ?_, ?_⟩ (fun i H2 _ q => ?_) (fun i x H2 hx q => ?_) (fun H2 q => ?_)
  · rw [del_upd]
    exact del_of (Evl.Ex.refl H) hD
  · exact .nil
  · obtain ⟨acc, _, e, _⟩ := q
    exact Evl.ex_l (e.trans (del_le _ _)) hsrc
  · obtain ⟨acc, h1, h2, h3⟩ := q
    obtain ⟨y, hy, r⟩ := Paired.at hp hx
    have ha : acc.length ≤ ys.length := by
      rw [Paired.len h3]
      exact hlen i
    refine hs y x H2 acc (List.mem_of_getElem? hy) r h2 h1 _ _ (fun hpy v H4 e4 r4 => ?_) (fun hpy H3 e3 => ?_)
    · refine ⟨acc, e4 _ _ h1, by omega, acc ++ [v], upd_same, ?_, ?_⟩
      · rw [del_upd]
        exact h2.trans (del_mono _ e4)
      · rw [del_upd, take_snoc hy, List.filter_append, List.map_append]
        refine Paired.cat (Paired.imp h3 fun _ _ => mono _ _ _ _ (del_mono _ e4)) ?_
        rw [List.filter_cons, if_pos hpy]
        exact .cons r4 .nil
    · refine ⟨acc, e3 _ _ h1, h2.trans (del_mono _ e3), ?_⟩
      rw [take_snoc hy, List.filter_append, List.map_append, List.filter_cons, if_neg (by rw [hpy]; exact Bool.false_ne_true)]
      show Paired _ _ (_ ++ [])
      rw [List.append_nil]
      exact Paired.imp h3 fun _ _ => mono _ _ _ _ (del_mono _ e3)
  · obtain ⟨acc, h1, h2, h3⟩ := q
    refine hd H2 acc h1 h2 ?_
    rw [hL, List.take_length] at h3
    exact h3
theorem le1 : 1 ≤ sizeLine := by decide
theorem le2 : 2 ≤ sizeLine := by decide
theorem le3 : 3 ≤ sizeLine := by decide
theorem sz_small {n : Nat} (h : n ≤ 100000) : n < sizeLine := Nat.lt_of_le_of_lt h (by decide)
theorem sz_big {n : Nat} (h : n ≤ 10000000) : n < sizeLine := Nat.lt_of_le_of_lt h (by decide)
theorem ex_refl' {H H' : Hp} (h : H' = H) : Ex H H' := h ▸ Evl.Ex.refl _
/-! ### tests -/
theorem iteN {p A B : Prop} [Decidable p] (h1 : p → B) (h2 : ¬ p → A) : if (!decide p) = true then A else B := by
  by_cases h : p
  · rw [decide_eq_true h]
    exact iteF (h1 h)
  · rw [decide_eq_false h]
    exact iteT (h2 h)
theorem iteD {p A B : Prop} [Decidable p] (h1 : p → A) (h2 : ¬ p → B) : if decide p = true then A else B := by
  by_cases h : p
  · rw [decide_eq_true h]
    exact iteT (h1 h)
  · rw [decide_eq_false h]
    exact iteF (h2 h)
theorem iteB {A B : Prop} (b : Bool) (h1 : b = true → A) (h2 : b = false → B) : if b = true then A else B := by
  cases b with
  | true => exact iteT (h1 rfl)
  | false => exact iteF (h2 rfl)
/-- the same of two equal ints as values -/
theorem iteE {i j : Int} {A B : Prop} (h1 : i = j → A) (h2 : i ≠ j → B) : if decide (V.int i = V.int j) = true then A else B :=
  iteD (fun e => h1 (V.int.inj e)) (fun e => h2 fun q => e (congrArg V.int q))
end Lp
namespace Lp
open PySem PySem.Spec PyProof.Rows L2
open Evl (Ex)
/-! ### data -/
def pD (p : Int × Int) : PyData := .tuple [.int p.1, .int p.2]
def prsD (ps : List (Int × Int)) : PyData := .list (ps.map pD)
def intsD (ns : List Int) : PyData := .list (ns.map PyData.int)
theorem dpAllInts {K : PySem.W.Frag} {H : Hp} : ∀ ns : List Int, DpAll K H (ns.map V.int) (ns.map PyData.int)
  | [] => .nil
  | n :: r => .cons (.int n) (dpAllInts r)
theorem dpInts {K : PySem.W.Frag} {H : Hp} {p : Addr} {ns : List Int} (h : Ints H p ns) : Dp K H (.ref p) (intsD ns) := .lst h.sq (dpAllInts ns)
theorem dpAllPrs {K : PySem.W.Frag} {H : Hp} : ∀ {xs : List V} {ps : List (Int × Int)}, Paired (RP H) xs ps → DpAll K H xs (ps.map pD)
  | _, _, .nil => .nil
  | _, _, .cons (a := v) (b := p) r t => .cons (by
      obtain ⟨a, rfl, h⟩ := r
      exact .tup (.inl (.inl h)) (.cons (.int _) (.cons (.int _) .nil))) (dpAllPrs t)
theorem Prs.dp {K : PySem.W.Frag} {H : Hp} {p : Addr} {ps : List (Int × Int)} (h : Prs H p ps) : Dp K H (.ref p) (prsD ps) := by
  obtain ⟨xs, h1, h2⟩ := h
  exact .lst (.inl (.inl h1)) (dpAllPrs h2)
theorem layInts : ∀ ns : List Int, PyData.canLayAll0 (ns.map PyData.int) = true ∧ PyData.depthAll (ns.map PyData.int) ≤ 1
  | [] => ⟨rfl, by simp [PyData.depthAll]⟩
  | n :: r => by
    have h := layInts r
    simp only [List.map_cons, PyData.canLayAll0, PyData.canLay0, PyData.depthAll, PyData.depth, h.1]
    exact ⟨rfl, by omega⟩
theorem layPrs : ∀ ps : List (Int × Int), PyData.canLayAll0 (ps.map pD) = true ∧ PyData.depthAll (ps.map pD) ≤ 3
  | [] => ⟨rfl, by simp [PyData.depthAll]⟩
  | p :: r => by
    have h := layPrs r
    simp only [List.map_cons, PyData.canLayAll0, PyData.canLay0, PyData.depthAll, PyData.depth, pD, h.1]
    exact ⟨rfl, by omega⟩
theorem shInts (ns : List Int) : SeqAt.shaped (intsD ns) = true := by
  have h := layInts ns
  unfold SeqAt.shaped intsD
  rw [PyData.canLay0, h.1, Bool.true_and, PyData.depth]
  exact decide_eq_true (by omega)
theorem shPrs (ps : List (Int × Int)) : SeqAt.shaped (prsD ps) = true := by
  have h := layPrs ps
  unfold SeqAt.shaped prsD
  rw [PyData.canLay0, h.1, Bool.true_and, PyData.depth]
  exact decide_eq_true (by omega)
theorem eqvI (n m : Int) : PyData.eqv (.int n) (.int m) = decide (n = m) := by
  simp only [PyData.eqv]
  exact Bool.beq_eq_decide_eq _ _
theorem eqvInts : ∀ ns ms : List Int, PyData.eqvAll (ns.map PyData.int) (ms.map PyData.int) = decide (ns = ms)
  | [], [] => by simp [PyData.eqvAll]
  | [], _ :: _ => by simp [PyData.eqvAll]
  | _ :: _, [] => by simp [PyData.eqvAll]
  | n :: r, m :: t => by
    rw [List.map_cons, List.map_cons, PyData.eqvAll, eqvI, eqvInts r t]
    by_cases h : n = m <;> by_cases h2 : r = t <;> simp [h, h2]
theorem eqvIntsD (ns ms : List Int) : PyData.eqv (intsD ns) (intsD ms) = decide (ns = ms) := by
  unfold intsD
  rw [PyData.eqv, eqvInts]
theorem eqvPrsSame (ps : List (Int × Int)) : PyData.eqv (prsD ps) (prsD ps) = true := SeqAt.eqv_refl _ (by unfold prsD; rw [PyData.canLay0]; exact (layPrs ps).1)
end Lp
namespace Lp
open PySem PySem.Spec PyProof.Rows L2
open Evl (Ex)
/-- a comprehension of ints over a list that stands still -/
theorem lc_int {β : Type} {K : PySem.W.Frag} {a : Addr} {xs : List V} {g : TG} {tt : TT} {te : TE} {vs : List Nat} {σ : L2.St} {H : Hp} {Dl : Addr} {Qd : Hp → Prop} {R : V → β → Prop} {ys : List β} (hD : H Dl = none)
    (hp : Paired R xs ys) (hsrc : SqL K H a xs) (hz : xs.length < sizeLine) (p : β → Bool) (f : β → Int)
    (hs : ∀ y x H1, y ∈ ys → R x y → Ex H H1 → ∀ (Y : V → Hp → Prop) (Z : Hp → Prop), (p y = true → ∀ H4, Ex H1 H4 → Y (.int (f y)) H4) → (p y = false → ∀ H3, Ex H1 H3 → Z H3) →
      g x (wipe σ vs) H1 fun σ2 H2 => wipe σ2 vs = wipe σ vs ∧ tt σ2 H2 fun b H3 => if b = true then te σ2 H3 Y else Z H3)
    (hd : ∀ H2, Ints H2 Dl ((ys.filter p).map f) → Ex H H2 → Qd H2) :
    ∃ W : Nat → Nat → Hp → Prop, (∃ m, W 0 m (upd H Dl (.lst []))) ∧ ∀ i m H, W i m H →
      ((Itl K a).stop i H ∧ Qd H) ∨ ((Itl K a).go i H ∧ ∃ Nx : Hp → Prop, (∀ H', Nx H' → ∃ m', m' < m ∧ W (i + 1) m' H') ∧ ∀ x H', (Itl K a).yld i H x H' → g x (wipe σ vs) H' fun σ2 H2 => wipe σ2 vs = wipe σ vs ∧ tt σ2 H2 fun b H3 =>
        if b = true then te σ2 H3 fun y H4 => ∃ acc, H4 Dl = some (.lst acc) ∧ acc.length < sizeLine ∧ Nx (upd H4 Dl (.lst (acc ++ [y]))) else Nx H3) :=
  lc_pre (R' := fun _ => IsI) hD hp hsrc hz (fun _ _ _ _ _ h => h) p f
    (fun y x H1 acc hy r e _ Y Z h1 h2 => hs y x H1 hy r (e.trans (del_le _ _)) Y Z (fun hp H4 e4 => h1 hp _ H4 e4 rfl) h2)
    (fun H2 acc h1 h2 h3 => hd H2 (by show _ = _; rw [h1, isI_eq h3]) (h2.trans (del_le _ _)))
end Lp
namespace Lp
open PySem PySem.Spec PyProof.Rows L2
open Evl (Ex)
/-! ### rules with the written part named (within a comprehension's block) -/
section
variable {X : Cx}
theorem ix_tupK (K : PySem.W.Frag) (h : X.K = K) : IxR X (rIxT K) := h ▸ ix_tup
theorem ix_listK (K : PySem.W.Frag) (h : X.K = K) : IxR X (rIxL K) := h ▸ ix_list
theorem op_in_seqK (K : PySem.W.Frag) (h : X.K = K) : OpR X (compareOp .In) (rIn K false) := h ▸ op_in_seq
theorem op_notIn_seqK (K : PySem.W.Frag) (h : X.K = K) : OpR X (compareOp .NotIn) (rIn K true) := h ▸ op_notIn_seq
theorem call_len_seqK (K : PySem.W.Frag) (h : X.K = K) : CallR X (.builtin "len") (Evl.rLenS K) := h ▸ call_len_seq
theorem pg_tupK (K : PySem.W.Frag) (hK : X.K = K) {pos : Pos} {es : List Expr} {k : Nat} {t : TGs} {n : Nat} (hc : X.calm = true) (h : PGs X es t)
    (hn : (assignEach es X.env).length = n := by rfl) (hst : (assignEach es X.env).findIdx? (·.1) = none := by rfl) : PG X (.Tuple es k pos) (gTup K n t) := hK ▸ pg_tup hc h hn hst
theorem call_list_ofK (K : PySem.W.Frag) (h : X.K = K) : CallR X (.type "list") (Evl.rListS K) := h ▸ call_list_of
end
end Lp
namespace Lp
open PySem PySem.Spec PyProof.Rows L2
open Evl (Ex)
/-- an if whose answer is known, with something behind it -/
theorem seqNo {c : TT} {t1 t2 u : TS} {D : Ends} {σ : L2.St} {H : Hp} (h : Ans c σ H false) (q : t2 { D with nx := u D } σ H) : tSeq (tIfS c t1 t2) u D σ H := L2.st_no h q
theorem nxNo {c : TT} {t1 t2 u : TS} {D D0 : Ends} {σ : L2.St} {H : Hp} (e : D0.nx = tSeq (tIfS c t1 t2) u D) (h : Ans c σ H false) (q : t2 { D with nx := u D } σ H) : tNext D0 σ H := by
  show D0.nx σ H
  rw [e]
  exact L2.st_no h q
theorem seqYes {c : TT} {t1 t2 u : TS} {D : Ends} {σ : L2.St} {H : Hp} (h : Ans c σ H true) (q : t1 { D with nx := u D } σ H) : tSeq (tIfS c t1 t2) u D σ H := L2.st_yes h q
end Lp

namespace Lp
open PySem PySem.Spec PyProof.Rows L2
open Evl (Ex)
/-- rising numbers of links -/
def Rising (links : Int) : Int → List Int → Prop
  | _, [] => True
  | b, l :: r => b < l ∧ l < links ∧ Rising links l r
def lastOr (b : Int) : List Int → Int
  | [] => b
  | l :: r => lastOr l r
theorem lastOr_snoc : ∀ (b : Int) (pre : List Int) (y : Int), lastOr b (pre ++ [y]) = y
  | _, [], _ => rfl
  | _, l :: r, y => lastOr_snoc l r y
theorem rising_snoc {links : Int} : ∀ {b : Int} {pre post : List Int}, Rising links b (pre ++ post) ↔ Rising links b pre ∧ Rising links (lastOr b pre) post
  | b, [], post => ⟨fun h => ⟨trivial, h⟩, fun h => h.2⟩
  | b, l :: r, post => by
    show (b < l ∧ l < links ∧ Rising links l (r ++ post)) ↔ (b < l ∧ l < links ∧ Rising links l r) ∧ Rising links (lastOr l r) post
    rw [rising_snoc (b := l) (pre := r) (post := post)]
    exact ⟨fun ⟨a, c, d, e⟩ => ⟨⟨a, c, d⟩, e⟩, fun ⟨⟨a, c, d⟩, e⟩ => ⟨a, c, d, e⟩⟩
def RowOk (links : Int) : Prop := 1 ≤ links ∧ links ≤ 1000000000000000000000000000000
def OpenOk (links : Int) (ns : List Int) : Prop := ns.length ≤ 100 ∧ Rising links (-1) ns
/-- one opened link more -/
def pcStep (s : Int × List (Int × Int)) (l : Int) : Int × List (Int × Int) := (l + 1, s.2 ++ ((if s.1 < l then [(s.1, l - s.1)] else []) ++ [(l, 1)]))
def pcEnd (links : Int) (s : Int × List (Int × Int)) : List (Int × Int) := s.2 ++ (if s.1 < links then [(s.1, links - s.1)] else [])
/-- the pieces of a row -/
def pcs (links : Int) (ns : List Int) : List (Int × Int) := pcEnd links (ns.foldl pcStep (0, []))
theorem pcFold_len : ∀ (ns : List Int) (s : Int × List (Int × Int)), (ns.foldl pcStep s).2.length ≤ s.2.length + 2 * ns.length
  | [], s => by simp
  | l :: r, s => by
    have h := pcFold_len r (pcStep s l)
    have h2 : (pcStep s l).2.length ≤ s.2.length + 2 := by
      show (s.2 ++ ((if s.1 < l then [(s.1, l - s.1)] else []) ++ [(l, 1)])).length ≤ _
      split <;> simp
    rw [List.foldl_cons, List.length_cons]
    omega
def cell (ns : List Int) (k : Int) : Int := ns.getD k.toNat 0
def nxt (n : Int) : Int := (n * 48271 + 12345) % 2147483647
theorem rising_of : ∀ {links : Int} {b : Int} {os : List Int}, os.Pairwise (· ≤ ·) → os.Nodup → (∀ l ∈ os, b < l ∧ l < links) → Rising links b os
  | _, _, [], _, _, _ => trivial
  | links, b, l :: r, h1, h2, h3 => by
    have a1 := List.pairwise_cons.mp h1
    have a2 := List.nodup_cons.mp h2
    refine ⟨(h3 l List.mem_cons_self).1, (h3 l List.mem_cons_self).2, rising_of a1.2 a2.2 fun x hx => ⟨?_, (h3 x (List.mem_cons_of_mem _ hx)).2⟩⟩
    have c1 := a1.1 x hx
    have c2 : l ≠ x := fun e => a2.1 (e ▸ hx)
    omega
theorem inV_int (x : Int) (ns : List Int) : inV (.int x) (ns.map V.int) = decide (x ∈ ns) := by
  unfold inV
  rw [List.any_map]
  by_cases h : x ∈ ns
  · rw [decide_eq_true h]
    refine List.any_eq_true.mpr ⟨x, h, ?_⟩
    simp [eqV]
  · rw [decide_eq_false h]
    refine List.any_eq_false.mpr fun y hy => ?_
    simp [eqV]
    rintro rfl
    exact h hy
theorem flatInts (ns : List Int) : (ns.map V.int).all flatV = true := by
  rw [List.all_map]
  exact List.all_eq_true.mpr fun _ _ => rfl
end Lp
namespace Lp
open PySem PySem.Spec PyProof.Rows L2
open Evl (Ex)
theorem pcs_len (links : Int) (ns : List Int) : (pcs links ns).length ≤ 2 * ns.length + 1 := by
  have h := pcFold_len ns (0, [])
  unfold pcs pcEnd
  rw [List.length_append]
  simp at h
  split <;> simp <;> omega
theorem rising_up : ∀ {links b : Int} {os : List Int}, Rising links b os → os.Pairwise (· < ·) ∧ ∀ x ∈ os, b < x ∧ x < links
  | _, _, [], _ => ⟨.nil, fun _ h => (nomatch h)⟩
  | links, b, l :: r, h => by
    have ih := rising_up h.2.2
    refine ⟨List.pairwise_cons.mpr ⟨fun x hx => (ih.2 x hx).1, ih.1⟩, fun x hx => ?_⟩
    rcases List.mem_cons.mp hx with e | e
    · rw [e]
      exact ⟨h.1, h.2.1⟩
    · have h1 := ih.2 x e
      have h2 := h.1
      exact ⟨by omega, h1.2⟩
theorem sset_eq {ns ns2 : List Int} (h : ns.Pairwise (· < ·)) (up : ns2.Pairwise (· ≤ ·)) (nd : ns2.Nodup) (hm : ∀ k, k ∈ ns2 ↔ decide (k ∈ ns) = true) : ns2 = ns := by
  refine PySem.W.ksm_same ?_ up (h.imp fun h => Int.le_of_lt h)
  refine (List.perm_ext_iff_of_nodup nd (h.imp fun h => Int.ne_of_lt h)).mpr fun k => ?_
  rw [hm k, decide_eq_true_eq]
theorem rising_lt {links b : Int} {os : List Int} (h : os.Pairwise (· < ·)) (hb : ∀ x ∈ os, b < x ∧ x < links) : Rising links b os :=
  rising_of (h.imp fun h => Int.le_of_lt h) (h.imp fun h => Int.ne_of_lt h) hb
theorem cut_take {xs : List V} (k : Nat) : cutV xs none (some (k : Int)) = xs.take k := by
  unfold cutV
  rw [HT.sIx_none, HT.sIx_nat, List.drop_zero, Nat.sub_zero]
  rcases Nat.le_total k xs.length with h | h
  · rw [Nat.min_eq_left h]
  · rw [Nat.min_eq_right h, List.take_of_length_le (Nat.le_refl _), List.take_of_length_le h]
theorem cut_drop {xs : List V} (k : Nat) : cutV xs (some (k : Int)) none = xs.drop k := by
  unfold cutV
  rw [HT.sIx_none, HT.sIx_nat]
  rcases Nat.le_total k xs.length with h | h
  · rw [Nat.min_eq_left h, List.take_of_length_le (by rw [List.length_drop]; omega)]
  · rw [Nat.min_eq_right h, List.drop_eq_nil_of_le (Nat.le_refl _), List.drop_eq_nil_of_le h]
    simp
theorem atI_int {os : List Int} {k : Nat} (h : k < os.length) : atI (os.map V.int) (k : Int) = some (.int os[k]) := by
  refine atI_nat ?_
  rw [List.getElem?_map, List.getElem?_eq_getElem h]
  rfl
/-! ### what is refused first -/
def RowE (CR CO : Addr) (links : Int) (ns : List Int) (H : Hp) (E : XK) (k : Prop) : Prop := (RowOk links → OpenOk links ns → k) ∧ (¬ RowOk links → E (.ref CR) none H) ∧ (RowOk links → ¬ OpenOk links ns → E (.ref CO) none H)
def Few (CT : Addr) (ns : List Int) (H : Hp) (E : XK) (k : Prop) : Prop := (ns.length ≤ 8 → k) ∧ (¬ ns.length ≤ 8 → E (.ref CT) none H)
def Amt (CA : Addr) (links amount : Int) (H : Hp) (E : XK) (k : Prop) : Prop := (0 ≤ amount ∧ amount ≤ links → k) ∧ (¬ (0 ≤ amount ∧ amount ≤ links) → E (.ref CA) none H)
end Lp

namespace Lp
open PySem PySem.Spec PyProof.Rows L2
open Evl (Ex)
/-! ### in order -/
def srt (ns : List Int) : List Int := ns.mergeSort (fun a b => decide (a ≤ b))
theorem srt_perm (ns : List Int) : (srt ns).Perm ns := List.mergeSort_perm ns _
theorem srt_up (ns : List Int) : (srt ns).Pairwise (· ≤ ·) := by
  have h := List.pairwise_mergeSort (le := fun a b : Int => decide (a ≤ b)) (fun a b c h1 h2 => by
    have := of_decide_eq_true h1
    have := of_decide_eq_true h2
    exact decide_eq_true (by omega)) (fun a b => by
    rcases Int.le_total a b with h | h
    · simp [h]
    · simp [h]) ns
  exact h.imp fun h => of_decide_eq_true h
theorem srt_of {a ns : List Int} (hp : a.Perm ns) (ha : a.Pairwise (· ≤ ·)) : a = srt ns := PySem.W.ksm_same (hp.trans (srt_perm ns).symm) ha (srt_up ns)
/-! ### the gap by the sizes, the least first -/
def gapL : Int → List Int → Option Int
  | _, [] => none
  | r, s :: t => if s > r + 1 then some (r + 1) else gapL (r + s) t
def szs (links : Int) (ns : List Int) : List Int := (pcs links ns).map (·.2)
def gapO (links : Int) (ns : List Int) : Option Int := gapL 0 (srt (szs links ns))
def optV : Option Int → V
  | none => .non
  | some i => .int i
def optD : Option Int → PyData
  | none => .none
  | some i => .int i
theorem dpOpt {K : PySem.W.Frag} {H : Hp} (o : Option Int) : Dp K H (optV o) (optD o) := by
  cases o with
  | none => exact .non
  | some i => exact .int i
theorem shOpt (o : Option Int) : SeqAt.shaped (optD o) = true := by cases o <;> rfl
theorem eqvOpt (o : Option Int) : PyData.eqv (optD o) (optD o) = true := by
  cases o with
  | none => simp [optD, PyData.eqv]
  | some i => simp [optD, PyData.eqv]
/-- each is at most one more than those ahead together -/
def Ch : Int → List Int → Prop
  | _, [] => True
  | r, s :: t => s ≤ r + 1 ∧ Ch (r + s) t
theorem gapL_none : ∀ {r : Int} {l : List Int}, gapL r l = none ↔ Ch r l
  | r, [] => ⟨fun _ => trivial, fun _ => rfl⟩
  | r, s :: t => by
    unfold gapL Ch
    by_cases h : s > r + 1
    · rw [if_pos h]
      exact ⟨(fun z => nomatch z), fun z => absurd z.1 (by omega)⟩
    · rw [if_neg h, gapL_none]
      exact ⟨fun z => ⟨by omega, z⟩, fun z => z.2⟩
theorem Ch_app : ∀ {r : Int} {a b : List Int}, Ch r (a ++ b) ↔ Ch r a ∧ Ch (r + a.sum) b
  | r, [], b => by simp [Ch]
  | r, s :: a, b => by
    show (s ≤ r + 1 ∧ Ch (r + s) (a ++ b)) ↔ (s ≤ r + 1 ∧ Ch (r + s) a) ∧ Ch (r + (s :: a).sum) b
    rw [Ch_app, List.sum_cons, Int.add_assoc, and_assoc]
/-- the same, told of no order -/
def Cx0 (l : List Int) : Prop := ∀ s ∈ l, s ≤ 1 + (l.filter (fun y => decide (y < s))).sum
theorem sum_nonneg : ∀ {l : List Int}, (∀ x ∈ l, 0 ≤ x) → 0 ≤ l.sum
  | [], _ => Int.le_refl _
  | x :: r, h => by
    rw [List.sum_cons]
    have h1 := h x List.mem_cons_self
    have h2 := sum_nonneg fun y hy => h y (List.mem_cons_of_mem _ hy)
    omega
theorem filter_sum_le : ∀ {l : List Int} (p : Int → Bool), (∀ x ∈ l, 0 ≤ x) → (l.filter p).sum ≤ l.sum
  | [], _, _ => Int.le_refl _
  | x :: r, p, h => by
    have h1 := h x List.mem_cons_self
    have h2 := filter_sum_le p fun y hy => h y (List.mem_cons_of_mem _ hy)
    rw [List.filter_cons]
    split
    · rw [List.sum_cons, List.sum_cons]
      omega
    · rw [List.sum_cons]
      omega
theorem cx_of_ch {l : List Int} (h0 : ∀ x ∈ l, 0 ≤ x) (h : Ch 0 l) : Cx0 l := by
  have go : ∀ (post pre : List Int) (s : Int), l = pre ++ post → Ch pre.sum post → (∀ y ∈ pre, y < s) → s ∈ post → s ≤ 1 + (l.filter (fun y => decide (y < s))).sum := by
    intro post
    induction post with
    | nil => intro pre s _ _ _ hs; cases hs
    | cons x t ih =>
      intro pre s e hc hp hs
      by_cases hx : x < s
      · refine ih (pre ++ [x]) s (by rw [e, List.append_assoc]; rfl) ?_ ?_ ?_
        · rw [List.sum_append]
          simpa using hc.2
        · intro y hy
          rcases List.mem_append.mp hy with q | q
          · exact hp y q
          · rw [List.mem_singleton.mp q]
            exact hx
        · rcases List.mem_cons.mp hs with q | q
          · omega
          · exact q
      · have h1 := hc.1
        have e2 : pre.filter (fun y => decide (y < s)) = pre := List.filter_eq_self.mpr fun y hy => decide_eq_true (hp y hy)
        rw [e, List.filter_append, List.sum_append, e2]
        have h2 : 0 ≤ ((x :: t).filter (fun y => decide (y < s))).sum := sum_nonneg fun y hy => h0 y (by rw [e]; exact List.mem_append_right _ (List.mem_filter.mp hy).1)
        omega
  intro s hs
  exact go l [] s rfl h (fun _ z => nomatch z) hs
theorem ch_of_cx {l : List Int} (h0 : ∀ x ∈ l, 0 ≤ x) (hs : l.Pairwise (· ≤ ·)) (h : Cx0 l) : Ch 0 l := by
  have go : ∀ (post pre : List Int), l = pre ++ post → Ch pre.sum post := by
    intro post
    induction post with
    | nil => intro pre _; exact trivial
    | cons s t ih =>
      intro pre e
      refine ⟨?_, ?_⟩
      · have h1 := h s (by rw [e]; simp)
        rw [e, List.filter_append, List.sum_append] at h1
        have e2 : (s :: t).filter (fun y => decide (y < s)) = [] := List.filter_eq_nil_iff.mpr fun y hy => by
          rw [e] at hs
          have hs2 := (List.pairwise_append.mp hs).2.1
          have : s ≤ y := by
            rcases List.mem_cons.mp hy with q | q
            · omega
            · exact (List.pairwise_cons.mp hs2).1 y q
          simpa using this
        rw [e2] at h1
        have h2 := filter_sum_le (l := pre) (fun y => decide (y < s)) fun x hx => h0 x (by rw [e]; exact List.mem_append_left _ hx)
        simp at h1
        omega
      · have h3 := ih (pre ++ [s]) (by rw [e, List.append_assoc]; rfl)
        rw [List.sum_append] at h3
        simpa using h3
  exact go l [] rfl
theorem sum_perm {a b : List Int} (h : a.Perm b) : a.sum = b.sum := by
  induction h with
  | nil => rfl
  | cons x _ ih => rw [List.sum_cons, List.sum_cons, ih]
  | swap x y l =>
    simp only [List.sum_cons]
    omega
  | trans _ _ h1 h2 => exact h1.trans h2
theorem cx_perm {a b : List Int} (h : a.Perm b) (c : Cx0 a) : Cx0 b := fun s hs => by
  have h1 := c s (h.mem_iff.mpr hs)
  rwa [sum_perm (h.filter _)] at h1
/-- full where some order of the sizes goes up so -/
theorem full_of {l m : List Int} (h0 : ∀ x ∈ l, 0 ≤ x) (hp : l.Perm m) (h : Ch 0 l) : gapL 0 (srt m) = none := by
  have h1 := hp.trans (srt_perm m).symm
  exact gapL_none.mpr (ch_of_cx (fun x hx => h0 x (h1.mem_iff.mpr hx)) (srt_up m) (cx_perm h1 (cx_of_ch h0 h)))
/-! ### the sizes of a row's pieces -/
theorem pcFold_sum {links : Int} : ∀ (ns : List Int) (b : Int) (acc : List (Int × Int)), Rising links (b - 1) ns → (∀ p ∈ acc, 0 < p.2) → b ≤ links →
    ((pcEnd links (ns.foldl pcStep (b, acc))).map (·.2)).sum = (acc.map (·.2)).sum + (links - b) ∧ ∀ p ∈ pcEnd links (ns.foldl pcStep (b, acc)), 0 < p.2
  | [], b, acc, _, h0, hb => by
    show ((acc ++ (if b < links then [(b, links - b)] else [])).map (·.2)).sum = _ ∧ ∀ p ∈ acc ++ (if b < links then [(b, links - b)] else []), 0 < p.2
    by_cases h : b < links
    · rw [if_pos h, List.map_append, List.sum_append]
      refine ⟨by simp, fun p hp => ?_⟩
      rcases List.mem_append.mp hp with q | q
      · exact h0 p q
      · rw [List.mem_singleton.mp q]
        show 0 < links - b
        omega
    · rw [if_neg h, List.append_nil]
      exact ⟨by omega, h0⟩
  | l :: r, b, acc, hr, h0, hb => by
    rw [List.foldl_cons]
    have h1 := hr.1
    have h2 := hr.2.1
    have hr2 : Rising links (l + 1 - 1) r := by
      rw [show l + 1 - 1 = l by omega]
      exact hr.2.2
    have ih := pcFold_sum r (l + 1) (acc ++ ((if b < l then [(b, l - b)] else []) ++ [(l, 1)])) hr2 (fun p hp => by
      rcases List.mem_append.mp hp with q | q
      · exact h0 p q
      · rcases List.mem_append.mp q with q | q
        · by_cases h : b < l
          · rw [if_pos h] at q
            rw [List.mem_singleton.mp q]
            show 0 < l - b
            omega
          · rw [if_neg h] at q
            cases q
        · rw [List.mem_singleton.mp q]
          show (0 : Int) < 1
          omega) (by omega)
    refine ⟨?_, ih.2⟩
    rw [show pcStep (b, acc) l = (l + 1, acc ++ ((if b < l then [(b, l - b)] else []) ++ [(l, 1)])) from rfl, ih.1]
    simp only [List.map_append, List.sum_append]
    by_cases h : b < l
    · rw [if_pos h]
      simp
      omega
    · rw [if_neg h]
      simp
      omega
theorem szs_sum {links : Int} {ns : List Int} (h : Rising links (-1) ns) (hl : 1 ≤ links) : (szs links ns).sum = links := by
  have h1 := (pcFold_sum ns 0 [] (by rw [show (0 : Int) - 1 = -1 by omega]; exact h) (fun _ z => nomatch z) (by omega)).1
  unfold szs pcs
  rw [h1]
  simp
theorem szs_pos {links : Int} {ns : List Int} (h : Rising links (-1) ns) (hl : 1 ≤ links) : ∀ x ∈ szs links ns, 0 < x := by
  have h1 := (pcFold_sum ns 0 [] (by rw [show (0 : Int) - 1 = -1 by omega]; exact h) (fun _ z => nomatch z) (by omega)).2
  intro x hx
  obtain ⟨p, hp, rfl⟩ := List.mem_map.mp hx
  exact h1 p hp
theorem szs_len (links : Int) (ns : List Int) : (szs links ns).length ≤ 2 * ns.length + 1 := by
  unfold szs
  rw [List.length_map]
  exact pcs_len links ns
/-! ### the longest rows, as few openings as can be -/
def mostL (n : Nat) : Int := ((n : Int) + 1) * 2 ^ (n + 1) - 1
theorem pow_pos (k : Nat) : (1 : Int) ≤ 2 ^ k := by
  induction k with
  | zero => decide
  | succ k ih =>
    rw [Int.pow_succ]
    omega
theorem pow_ge (k : Nat) : (k : Int) ≤ 2 ^ k := by
  induction k with
  | zero => decide
  | succ k ih =>
    have := pow_pos k
    rw [Int.pow_succ]
    omega
theorem mostL_big : (1000000000000000000000000000000 : Int) < mostL 100 := by decide +kernel
/-- n is the least number whose longest row is no shorter -/
def FewestIs (links : Int) (n : Nat) : Prop := n ≤ 100 ∧ links ≤ mostL n ∧ ∀ j, j < n → mostL j < links
theorem FewestIs.one {links : Int} {n m : Nat} (a : FewestIs links n) (b : FewestIs links m) : n = m := by
  have h1 := a.2.1
  have h2 := b.2.1
  rcases Nat.lt_trichotomy n m with h | h | h
  · have := b.2.2 n h
    omega
  · exact h
  · have := a.2.2 m h
    omega
theorem FewestIs.le {links : Int} {n : Nat} (a : FewestIs links n) (h1 : 1 ≤ links) : (n : Int) ≤ links := by
  cases n with
  | zero => omega
  | succ n =>
    have h := a.2.2 n (Nat.lt_succ_self n)
    unfold mostL at h
    have h2 := pow_pos (n + 1)
    have h3 : ((n : Int) + 1) * 1 ≤ ((n : Int) + 1) * 2 ^ (n + 1) := Int.mul_le_mul_of_nonneg_left h2 (by omega)
    omega
def zOf (rest reach : Int) : Int := if rest < reach + 1 then rest else reach + 1
def ofGo : Nat → Int → Int → Int → List Int
  | 0, _, _, _ => []
  | k + 1, rest, reach, spot => (spot + zOf rest reach) :: ofGo k (rest - zOf rest reach) (reach + zOf rest reach) (spot + zOf rest reach + 1)
def ofor (links : Int) (n : Nat) : List Int := ofGo n (links - n) n 0
theorem ofGo_len : ∀ (k : Nat) (a b c : Int), (ofGo k a b c).length = k
  | 0, _, _, _ => rfl
  | k + 1, a, b, c => by
    show (ofGo k _ _ _).length + 1 = k + 1
    rw [ofGo_len k]
theorem zOf_b {rest reach : Int} (h : 0 ≤ rest) (h2 : 0 ≤ reach) : 0 ≤ zOf rest reach ∧ zOf rest reach ≤ rest ∧ zOf rest reach ≤ reach + 1 := by
  unfold zOf
  split <;> omega
theorem ofGo_rising {links : Int} : ∀ (k : Nat) (rest reach spot : Int), 0 ≤ rest → 0 ≤ reach → spot + rest + k = links → Rising links (spot - 1) (ofGo k rest reach spot)
  | 0, _, _, _, _, _, _ => trivial
  | k + 1, rest, reach, spot, h1, h2, h3 => by
    have hz := zOf_b h1 h2
    refine ⟨by omega, by omega, ?_⟩
    have ih := ofGo_rising (links := links) k (rest - zOf rest reach) (reach + zOf rest reach) (spot + zOf rest reach + 1) (by omega) (by omega) (by omega)
    rwa [show spot + zOf rest reach + 1 - 1 = spot + zOf rest reach by omega] at ih
def posL (z : Int) : List Int := if 0 < z then [z] else []
def ofM : Nat → Int → Int → List Int
  | 0, rest, _ => posL rest
  | k + 1, rest, reach => posL (zOf rest reach) ++ ofM k (rest - zOf rest reach) (reach + zOf rest reach)
theorem ofGo_szs {links : Int} : ∀ (k : Nat) (rest reach spot : Int) (acc : List (Int × Int)), 0 ≤ rest → 0 ≤ reach → spot + rest + k = links →
    ((pcEnd links ((ofGo k rest reach spot).foldl pcStep (spot, acc))).map (·.2)).Perm (acc.map (·.2) ++ (List.replicate k 1 ++ ofM k rest reach))
  | 0, rest, reach, spot, acc, h1, h2, h3 => by
    show ((acc ++ (if spot < links then [(spot, links - spot)] else [])).map (·.2)).Perm (acc.map (·.2) ++ ([] ++ posL rest))
    unfold posL
    by_cases h : spot < links
    · rw [if_pos h, if_pos (by omega), List.map_append]
      have e : links - spot = rest := by omega
      rw [e]
      exact List.Perm.refl _
    · rw [if_neg h, if_neg (by omega), List.append_nil]
      simp
  | k + 1, rest, reach, spot, acc, h1, h2, h3 => by
    have hz := zOf_b h1 h2
    have ih := ofGo_szs (links := links) k (rest - zOf rest reach) (reach + zOf rest reach) (spot + zOf rest reach + 1) (acc ++ ((if spot < spot + zOf rest reach then [(spot, spot + zOf rest reach - spot)] else []) ++ [(spot + zOf rest reach, 1)])) (by omega) (by omega) (by omega)
    refine ih.trans ?_
    rw [List.map_append, List.append_assoc]
    refine List.Perm.append_left _ ?_
    have e : (((if spot < spot + zOf rest reach then [(spot, spot + zOf rest reach - spot)] else []) ++ [(spot + zOf rest reach, (1 : Int))]).map (·.2)) = posL (zOf rest reach) ++ [1] := by
      unfold posL
      by_cases h : 0 < zOf rest reach
      · rw [if_pos (by omega), if_pos h]
        simp
        omega
      · rw [if_neg (by omega), if_neg h]
        rfl
    rw [e]
    show ((posL (zOf rest reach) ++ [1]) ++ (List.replicate k 1 ++ ofM k _ _)).Perm (List.replicate (k + 1) 1 ++ (posL (zOf rest reach) ++ ofM k _ _))
    generalize posL (zOf rest reach) = a
    generalize ofM k _ _ = c
    have h4 : List.replicate (k + 1) (1 : Int) = [1] ++ List.replicate k 1 := rfl
    rw [h4]
    have s1 : ((a ++ [1]) ++ (List.replicate k 1 ++ c)) = a ++ (([1] ++ List.replicate k 1) ++ c) := by simp
    have s2 : (([1] ++ List.replicate k (1 : Int)) ++ (a ++ c)) = (([1] ++ List.replicate k 1) ++ a) ++ c := by simp
    rw [s1, s2, ← List.append_assoc]
    exact List.Perm.append_right _ List.perm_append_comm
theorem ofM_nonneg : ∀ (k : Nat) (rest reach : Int), ∀ x ∈ ofM k rest reach, 0 ≤ x
  | 0, rest, reach, x, hx => by
    unfold ofM posL at hx
    split at hx
    · rw [List.mem_singleton.mp hx]
      omega
    · cases hx
  | k + 1, rest, reach, x, hx => by
    unfold ofM at hx
    rcases List.mem_append.mp hx with h | h
    · unfold posL at h
      split at h
      · rw [List.mem_singleton.mp h]
        omega
      · cases h
    · exact ofM_nonneg k _ _ x h
theorem Ch_pos {r z : Int} {l : List Int} (h0 : 0 ≤ z) (h1 : z ≤ r + 1) (h : Ch (r + z) l) : Ch r (posL z ++ l) := by
  unfold posL
  by_cases c : 0 < z
  · rw [if_pos c]
    exact ⟨h1, h⟩
  · rw [if_neg c]
    have e : z = 0 := by omega
    rw [e, Int.add_zero] at h
    exact h
theorem ofM_ch : ∀ (k : Nat) (rest reach : Int), 0 ≤ rest → 0 ≤ reach → rest ≤ (reach + 1) * (2 ^ (k + 1) - 1) → Ch reach (ofM k rest reach)
  | 0, rest, reach, h1, h2, h3 => by
    unfold ofM
    have h : Ch reach (posL rest ++ []) := Ch_pos h1 (by simp at h3; omega) trivial
    rwa [List.append_nil] at h
  | k + 1, rest, reach, h1, h2, h3 => by
    have hz := zOf_b h1 h2
    refine Ch_pos hz.1 hz.2.2 (ofM_ch k _ _ (by omega) (by omega) ?_)
    by_cases h : rest < reach + 1
    · have e : zOf rest reach = rest := by unfold zOf; rw [if_pos h]
      rw [e]
      have p := pow_pos (k + 1)
      have : 0 ≤ (reach + rest + 1) * (2 ^ (k + 1) - 1) := Int.mul_nonneg (by omega) (by omega)
      omega
    · have e : zOf rest reach = reach + 1 := by unfold zOf; rw [if_neg h]
      rw [e]
      have e1 : (2 : Int) ^ (k + 1 + 1) = 2 * 2 ^ (k + 1) := by rw [Int.pow_succ, Int.mul_comm]
      rw [e1] at h3
      generalize (2 : Int) ^ (k + 1) = y at h3 ⊢
      have e2 : (reach + (reach + 1) + 1) * (y - 1) = (reach + 1) * (2 * y - 1) - (reach + 1) := by
        have e3 : reach + (reach + 1) + 1 = 2 * (reach + 1) := by omega
        rw [e3]
        generalize reach + 1 = r
        rw [Int.mul_sub, Int.mul_sub, Int.mul_one, Int.mul_one]
        have e4 : 2 * r * y = r * (2 * y) := by rw [← Int.mul_assoc, Int.mul_comm 2 r]
        omega
      rw [e2]
      omega
theorem ones_ch : ∀ (n : Nat) (r : Int) (l : List Int), 0 ≤ r → Ch (r + n) l → Ch r (List.replicate n 1 ++ l)
  | 0, r, l, _, h => by simpa using h
  | n + 1, r, l, h0, h => by
    show (1 ≤ r + 1 ∧ Ch (r + 1) (List.replicate n 1 ++ l))
    refine ⟨by omega, ones_ch n (r + 1) l (by omega) ?_⟩
    have e : r + 1 + (n : Int) = r + ((n + 1 : Nat) : Int) := by omega
    rw [e]
    exact h
theorem ofor_good {links : Int} {n : Nat} (h1 : 1 ≤ links) (hf : FewestIs links n) : Rising links (-1) (ofor links n) ∧ (ofor links n).length = n ∧ gapO links (ofor links n) = none := by
  have hle := hf.le h1
  have hr : Rising links (-1) (ofor links n) := ofGo_rising n (links - n) n 0 (by omega) (by omega) (by omega)
  refine ⟨hr, ofGo_len _ _ _ _, ?_⟩
  have hp := ofGo_szs (links := links) n (links - n) n 0 [] (by omega) (by omega) (by omega)
  refine full_of (l := List.replicate n 1 ++ ofM n (links - n) n) (fun x hx => ?_) hp.symm (ones_ch n 0 _ (by omega) ?_)
  · rcases List.mem_append.mp hx with h | h
    · rw [(List.mem_replicate.mp h).2]
      omega
    · exact ofM_nonneg _ _ _ _ h
  · rw [Int.zero_add]
    refine ofM_ch n _ _ (by omega) (by omega) ?_
    have h2 := hf.2.1
    unfold mostL at h2
    rw [Int.mul_sub]
    omega
end Lp

namespace Lp
open PySem PySem.Spec PyProof.Rows L2
open Evl (Ex)
/-! ### set(xs) of a list of ints: a set that can be walked and sorted -/
/-- the set as its class makes it -/
def bareSet (w : World) : Obj := { cls := .type "set", dict := none, data := .set #[] 0 (.fresh 0 0 (!w.params.followText "set-order")) }
section
variable {P : Program} {w : World} {A : Around} {E : Value → Shared → Prop} {s : Shared}
/-- its filling, from a list that stands -/
theorem fill_list {a S : Addr} {its : Array Value} {n0 : Nat} {dd : Option Addr} {sl : Array (Option Value)} {ns : List Int} {R : Result → Shared → Prop} (hh : A.handled = none) (hS : s.heap.get? S = some (bareSet w)) (haS : a < S)
    (ha : s.heap.get? a = some { cls := .type "list", dict := dd, data := .seq its n0, slots := sl }) (hi : IntsAre its.toList ns) (hb : ns.length + 1 < scanBound)
    (hR : ∀ (h' : Heap) (tk c : Nat), SetR w h' S (fun j => decide (j ∈ ns)) c → c ≤ ns.length → (∀ b o, b ≠ S → s.heap.get? b = some o → h'.get? b = some o) → R (.ok (.ret .none)) { s with heap := h', toks := tk }) :
    codeAny (model P w) A (.call (.builtin "set.__init__") ⟨[.ref S, .ref a], []⟩) R s := by
  have hty : s.TypeIs (.ref S) "set" := ⟨_, hS, rfl⟩
  have hlist : s.heap.IsList a its := ⟨_, ha, rfl, n0, rfl⟩
  have hlen : its.size = ns.length := by
    have q := IntsAre.length hi
    rwa [Array.length_toList] at q
  refine codeAny_call_builtin PySem.F.called_set.init.plain PySem.F.entry_set_init (check_set_init_1 hty ?_)
  have k1 := PySem.F.sub_list_set
  have k2 := PySem.F.sub_list_frozenset
  have k3 : (Value.type "list" == Value.type "dict") = false := by decide
  unfold Builtin.«set.__init__» noKeywords Builtin.Frozenset.updateFrom
  generalize hPI : pyIter = PI
  wp_walk
  subst hPI
  refine wpAny_pyIter_list hlist (wpAny_bind (wpAny_runValue ?_))
  have nai : a ≠ s.heap.objs.size := Nat.ne_of_lt (Heap.lt_size ha)
  have nSi : S ≠ s.heap.objs.size := Nat.ne_of_lt (Heap.lt_size hS)
  have away : S ∉ [s.heap.objs.size, a] := by
    intro z
    rcases List.mem_cons.mp z with e | z
    · exact nSi e
    · exact absurd (List.mem_singleton.mp z) (Nat.ne_of_gt haS)
  have each : ∀ (i : Nat) (v : Value), its[i]? = some v → ∃ k t, ns[i]? = some k ∧ v = .int k t := fun i v hv => by
    have hlt : i < ns.length := by
      have := (Array.getElem?_eq_some_iff.mp hv).1
      omega
    obtain ⟨t, e⟩ := IntsAre.int_at hi i v (by rw [Array.getElem?_toList]; exact hv)
    refine ⟨_, t, List.getElem?_eq_getElem hlt, e.trans ?_⟩
    rw [List.getD_eq_getElem?_getD, List.getElem?_eq_getElem hlt]
    rfl
  refine set_update_ints ((Walks.list (by simp [hh]) s.heap.objs.size a nai its).toS) S away ns hlen hb each its.size 0 _ rfl (Nat.zero_le _) ⟨⟨_, Heap.get?_push_size _ rfl, rfl, rfl⟩, hlist.push _⟩ ⟨0, Nat.le_refl 0, setR_new_at (Heap.get?_push_of_some _ hS)⟩ fun s1 c mv hc hset => ?_
  obtain ⟨h1, g1, d1, t1, o1⟩ := s1
  obtain rfl : g1 = s.gens := mv.gens
  obtain rfl : d1 = s.drawn := mv.drawn
  obtain rfl : o1 = s.os := mv.os
  show wpAny _ _ _ _ _ _
  refine wpAny_pure ?_
  show wpAny _ _ (ret Value.none) _ _ _
  rw [hlen] at hc
  refine wpAny_pure (hR h1 t1 c hset hc fun b o nb e => ?_)
  refine mv.heap b o ?_ (Heap.get?_push_of_some _ e)
  intro z
  rcases List.mem_cons.mp z with q | z
  · exact nb q
  · exact absurd (List.mem_singleton.mp z) (Nat.ne_of_lt (Heap.lt_size e))
theorem set_of_list {a : Addr} {its : Array Value} {ns : List Int} {Q : Value → Shared → Prop} (hh : A.handled = none) (hl : s.heap.IsList a its) (hi : IntsAre its.toList ns) (hb : ns.length + 1 < scanBound)
    (hQ : ∀ (h' : Heap) (tk c : Nat), SetR w h' s.heap.objs.size (fun j => decide (j ∈ ns)) c → c ≤ ns.length → (∀ b o, s.heap.get? b = some o → h'.get? b = some o) → Q (.ref s.heap.objs.size) { s with heap := h', toks := tk }) :
    wpAny (model P w) A (call (.type "set") [.ref a]) Q E s := by
  obtain ⟨⟨cls, dd, data, sl⟩, ho, hc, n0, hd⟩ := hl
  simp only at hc hd
  subst hc hd
  obtain ⟨c, tl, k4⟩ := PySem.F.called_set.mro
  have k5 := PySem.F.called_set.made
  have k6 := PySem.F.called_set.sub
  refine wpAny_call (codeAny_of_tree ?_)
  show wpAny _ _ (callAny (.type "set") _) _ _ _
  refine wpAny_pure ⟨Code.quiet_builtin _ (by decide +kernel), codeAny_builtin PySem.F.entry_type_call ?_⟩
  rw [Around.under_plain (weight_type_call_type "set" [.ref a] []) rfl]
  have k7 := PySem.F.called_set.notType
  have k8 := PySem.F.called_set.canCreate
  have k9 := PySem.F.typeCall_set_1 (.ref a)
  repeat (any_goals (first | assumption | wp_step))
  refine codeAny_mono (code_set_led1 (.ref a) (E := E) (Q₁ := fun obj s1 => obj = .ref s.heap.objs.size ∧ s1 = { s with heap := s.heap.push (bareSet w) }) ⟨rfl, rfl⟩) fun r s1 hr => ?_
  match r, hr with
  | .error e, hr => exact hr
  | .ok .next, hr => exact hr.elim
  | .ok .brk, hr => exact hr.elim
  | .ok .cont, hr => exact hr.elim
  | .ok (.ret obj), hr =>
    obtain ⟨rfl, rfl⟩ := hr
    have hS : (s.heap.push (bareSet w)).get? s.heap.objs.size = some (bareSet w) := Heap.get?_push_size _ rfl
    have hT : Shared.TypeIs { s with heap := s.heap.push (bareSet w) } (.ref s.heap.objs.size) "set" := ⟨_, hS, rfl⟩
    have k10 := PySem.F.called_set.init.lookup
    have k11 := PySem.F.called_set.init.bind (.ref s.heap.objs.size)
    repeat (any_goals (first | assumption | wp_step))
    refine codeAny_mono (fill_list (s := { s with heap := s.heap.push (bareSet w) }) (ns := ns) (R := wants (fun r s2 => r = .none ∧ ∃ h' tk c, s2 = { s with heap := h', toks := tk } ∧ SetR w h' s.heap.objs.size (fun j => decide (j ∈ ns)) c ∧ c ≤ ns.length ∧
      (∀ b o, s.heap.get? b = some o → h'.get? b = some o)) E) (by simp [hh]) hS (Heap.lt_size ho) (Heap.get?_push_of_some _ ho) hi hb fun h' tk c hset hc hk => ⟨rfl, h', tk, c, rfl, hset, hc, fun b o e => hk b o (Nat.ne_of_lt (Heap.lt_size e)) (Heap.get?_push_of_some _ e)⟩) fun r2 s2 hr2 => ?_
    match r2, hr2 with
    | .error e, hr2 => exact hr2
    | .ok .next, hr2 => exact hr2.elim
    | .ok .brk, hr2 => exact hr2.elim
    | .ok .cont, hr2 => exact hr2.elim
    | .ok (.ret v2), hr2 =>
      obtain ⟨rfl, h', tk, c2, rfl, hset, hc, hk⟩ := hr2
      repeat (any_goals (first | assumption | wp_step))
      exact hQ _ _ _ hset hc hk
end
def rSetI (K : PySem.W.Frag) (w : World) : List V → Hp → VK → Prop := fun vs H Q => ∃ (a : Addr) (ns : List Int), vs = [.ref a] ∧ SqL K H a (ns.map V.int) ∧ ns.length ≤ 4000 ∧
  ∀ (p : Addr) (c : Nat), c ≤ ns.length → H p = none → Q (.ref p) (upd H p (SetO w p (fun j => decide (j ∈ ns)) c))
theorem cr_setI {X : Cx} (hc : X.calm = true) : CallR X (.type "set") (rSetI X.K X.w) := by
  intro pins s σ H xs us Q I r h
  obtain ⟨a, ns, rfl, hs, hn, q⟩ := h
  rw [Vals.ref1 r]
  obtain ⟨its, rv, pl, hz⟩ := I.list hs
  refine set_of_list (I.ok.hd hc) pl.isList (ns := ns) (by simpa using rv.ints) (by unfold scanBound; omega) fun h' tk c hset hc2 hk => ?_
  exact ⟨.ref s.heap.objs.size, _, I.laid (t' := tk) hk (Nat.le_refl _) (setO_new hset), rfl, q _ c hc2 (I.hok.fresh (Nat.le_refl _))⟩
/-! ### sorted(s), s such a set, of any number of members -/
theorem keys_map : ∀ {l : List (Int × Value)}, (∀ e ∈ l, GoodE e) → (l.map (·.2)).map SrtO.iv = l.map keyOf
  | [], _ => rfl
  | e :: r, h => by
    obtain ⟨k, tk, h1, _⟩ := h e List.mem_cons_self
    rw [List.map_cons, List.map_cons, List.map_cons, keys_map fun x hx => h x (List.mem_cons_of_mem _ hx)]
    unfold keyOf SrtO.iv
    rw [h1]
theorem set_sorted {P : Program} {w : World} {A : Around} {E : Value → Shared → Prop} {s : Shared} {a : Addr} {S : Int → Bool} {n : Nat} {Q : Value → Shared → Prop} (R : SetR w s.heap a S n) (hh : A.handled = none)
    (hQ : ∀ s' p (out : List Value) (c : Nat) (ns : List Int), (∀ b o, s.heap.get? b = some o → s'.heap.get? b = some o) → s'.gens = s.gens → s'.os = s.os → s.heap.objs.size ≤ p → s'.heap.get? p = some (seqObj "list" out.toArray c) → IntsAre out ns →
      ns.Pairwise (· ≤ ·) → ns.Nodup → (∀ k, k ∈ ns ↔ S k = true) → ns.length ≤ sizeLine → Q (.ref p) s') : wpAny (model P w) A (call (.builtin "sorted") [.ref a]) Q E s := by
  obtain ⟨o, es, ep, t, ho, hex, hd, g, nd, hm, hb, hf, hn, hr, hl⟩ := R
  refine Calls.call_function_entry kind_sorted plain_sorted entry_sorted (args_sorted1 _) ?_
  unfold Builtin.«sorted»
  refine wpAny_bind (m := checkCount "sorted" 1 1 _) (wpAny_pure ?_)
  refine wpAny_bind (collect_set (A := A.in1) hh ⟨o, ho, hex.1, hd⟩ hf hb hr hl fun s1 vs k1 hz g1 o1 pm => ?_)
  have hvl : vs.length ≤ sizeLine := by
    rw [pm.length_eq, List.length_map, Array.length_toList]
    exact Nat.le_of_lt (sz_small (by unfold scanBound at hb; omega))
  have each : ∀ v ∈ vs, ∃ i u, v = Value.int i u := fun v hv => by
    obtain ⟨e, he, q⟩ := List.mem_map.mp (pm.mem_iff.mp hv)
    obtain ⟨k, tk, h1, _⟩ := g e he
    exact ⟨k, tk, by rw [← q]; exact h1⟩
  have hI := SrtO.ints_iv each
  have pk : (vs.map SrtO.iv).Perm (es.toList.map keyOf) := by
    have q := pm.map SrtO.iv
    rwa [keys_map g] at q
  refine wpAny_bind (wpAny_newList ?_ hvl)
  have hoL : (s1.heap.push (seqObj "list" vs.toArray 0)).get? s1.heap.objs.size = some (seqObj "list" vs.toArray 0) := Heap.get?_push_size _ rfl
  refine wpAny_bind (wpAny_holding (wpAny_call_entry slot_list_sort ⟨_, hoL, rfl⟩ entry_list_sort (SrtO.list_sort_ord SrtO.swo_int hoL hvl (fun h2 => SrtO.ints_sortable hI h2) fun out h1 h2 => ⟨_, rfl, ?_⟩) (args_list_sort _)))
  obtain ⟨a1, a2, a3⟩ := SrtO.ints_out hI h1 h2
  obtain ⟨c, hc⟩ := sortedHeap_at (vs := vs) (out := out.toArray) hoL
  have pn := a2.trans pk
  refine wpAny_pure ⟨_, rfl, hQ _ s1.heap.objs.size out c (out.map SrtO.iv) (fun b u e => ?_) g1 o1 hz hc a1 a3 (pn.nodup_iff.mpr nd) (fun k => by rw [pn.mem_iff, ← hm k]) ?_⟩
  · have q := k1 b u e
    have hlt := Heap.lt_size q
    show (sortedHeap (s1.heap.push (seqObj "list" vs.toArray 0)) s1.heap.objs.size vs out.toArray).get? b = some u
    rw [sortedHeap_old (Nat.ne_of_lt hlt) (by rw [size_push']; exact Nat.lt_succ_of_lt hlt)]
    exact Heap.get?_push_of_some _ q
  · rw [List.length_map, h2.perm.length_eq]
    exact hvl
def rSortSet (w : World) : List V → Hp → VK → Prop := fun vs H Q => ∃ (a : Addr) (S : Int → Bool) (n : Nat), vs = [.ref a] ∧ H a = some (SetO w a S n) ∧
  ∀ (ns : List Int) (p : Addr), ns.Pairwise (· ≤ ·) → ns.Nodup → (∀ k : Int, k ∈ ns ↔ S k = true) → H p = none → Q (.ref p) (upd H p (.lst (ns.map V.int)))
theorem cr_sortSet {X : Cx} (hc : X.calm = true) : CallR X (.builtin "sorted") (rSortSet X.w) := by
  intro pins s σ H vs us Q I r h
  obtain ⟨a, S, n, rfl, ha, q⟩ := h
  rw [Vals.ref1 r]
  refine set_sorted (setO_get I ha) (I.ok.hd hc) fun s' p out c ns k g o hp hg hi up nd hm hl => ?_
  have hn : H p = none := I.hok.fresh hp
  obtain ⟨h1, g1, d1, t1, o1⟩ := s'
  obtain rfl : g1 = s.gens := g
  obtain rfl : o1 = s.os := o
  have J : Inv X pins σ (upd H p (.lst (ns.map V.int))) { s with heap := h1, gens := s.gens, drawn := d1, toks := t1 } :=
    I.call (ch := []) (Un.laid k hp hn) (I.hok.laid k hp ⟨by rw [List.length_map]; exact hl, out, c, vals_of_ints hi, hg⟩) I.bare (fun _ z => nomatch z)
  exact ⟨.ref p, _, J, rfl, q ns p up nd hm hn⟩
end Lp

namespace Lp
open PySem PySem.Spec PyProof.Rows L2
open Evl (Ex)
/-! ### a dict of ints: how often each number -/
def Tab (kvs : List (Key × V)) (f : Int → Int) : Prop := (kvs.map (·.1)).Nodup ∧ (∀ p ∈ kvs, ∃ t : Int, p.1 = Sum.inl t) ∧ ∀ t : Int, valV kvs (Sum.inl t) = if f t = 0 then none else some (.int (f t))
theorem key_mem {kvs : List (Key × V)} {k : Key} : k ∈ kvs.map (·.1) ↔ (valV kvs k).isSome = true := by
  rw [← valV_any, List.any_eq_true]
  constructor
  · intro h
    obtain ⟨p, hp, e⟩ := List.mem_map.mp h
    exact ⟨p, hp, decide_eq_true e⟩
  · rintro ⟨p, hp, e⟩
    exact List.mem_map.mpr ⟨p, hp, of_decide_eq_true e⟩
theorem Tab.key {kvs : List (Key × V)} {f : Int → Int} (h : Tab kvs f) {t : Int} : (Sum.inl t : Key) ∈ kvs.map (·.1) ↔ f t ≠ 0 := by
  rw [key_mem, h.2.2 t]
  by_cases e : f t = 0
  · rw [if_pos e]
    exact ⟨(fun z => nomatch z), fun z => absurd e z⟩
  · rw [if_neg e]
    exact ⟨fun _ => e, fun _ => rfl⟩
theorem putK_keys (kvs : List (Key × V)) (k : Key) (v : V) : (putK kvs k v).map (·.1) = if (valV kvs k).isSome = true then kvs.map (·.1) else kvs.map (·.1) ++ [k] := by
  unfold putK
  rw [valV_any]
  by_cases h : (valV kvs k).isSome = true
  · rw [if_pos h, if_pos h, List.map_map]
    refine List.map_congr_left fun p _ => ?_
    show (if p.1 = k then (p.1, v) else p).1 = p.1
    split <;> rfl
  · rw [if_neg h, if_neg h, List.map_append]
    rfl
theorem Tab.put {kvs : List (Key × V)} {f : Int → Int} (h : Tab kvs f) (t0 v : Int) (hv : v ≠ 0) : Tab (putK kvs (Sum.inl t0) (.int v)) (fun t => if t = t0 then v else f t) := by
  refine ⟨?_, ?_, fun t => ?_⟩
  · rw [putK_keys]
    split
    · exact h.1
    · rename_i hn
      refine List.nodup_append.mpr ⟨h.1, by simp, fun x hx y hy e => ?_⟩
      rw [List.mem_singleton.mp hy] at e
      exact hn (key_mem.mp (e ▸ hx))
  · intro p hp
    have hk : p.1 ∈ (putK kvs (Sum.inl t0) (.int v)).map (·.1) := List.mem_map.mpr ⟨p, hp, rfl⟩
    rw [putK_keys] at hk
    have old : ∀ k, k ∈ kvs.map (·.1) → ∃ t : Int, k = Sum.inl t := fun k hk => by
      obtain ⟨q, hq, e⟩ := List.mem_map.mp hk
      rw [← e]
      exact h.2.1 q hq
    split at hk
    · exact old _ hk
    · rcases List.mem_append.mp hk with z | z
      · exact old _ z
      · exact ⟨t0, List.mem_singleton.mp z⟩
  · rw [valV_put]
    by_cases e : t = t0
    · rw [if_pos (by rw [e]), e]
      show _ = if (if t0 = t0 then v else f t0) = 0 then none else some (V.int (if t0 = t0 then v else f t0))
      rw [if_pos rfl, if_neg hv]
    · rw [if_neg (fun z => e (Sum.inl.inj z)), h.2.2 t]
      show _ = if (if t = t0 then v else f t) = 0 then none else some (V.int (if t = t0 then v else f t))
      rw [if_neg e]
theorem Tab.congr {kvs : List (Key × V)} {f g : Int → Int} (h : Tab kvs f) (e : ∀ t, f t = g t) : Tab kvs g := by
  have q : f = g := funext e
  rwa [← q]
/-- for k in d, d locked -/
theorem for_keys {d : Addr} {od : Obj} {kvs : List (Key × V)} {g : TG} {tb : TS} {D : Ends} {σ : L2.St} {H : Hp} (Pv : Nat → L2.St → Hp → Prop) (h0 : Pv 0 σ H) (hl : ∀ i σ H, Pv i σ H → H d = some (.frz od (.dK kvs)))
    (hs : ∀ i k v σ H, kvs[i]? = some (k, v) → Pv i σ H → g (kV k) σ H fun σ2 H2 => tb { D with nx := Pv (i + 1), ct := Pv (i + 1), bk := D.nx } σ2 H2) (hd : ∀ σ H, Pv kvs.length σ H → D.nx σ H) :
    ∃ W : Nat → Nat → L2.St → Hp → Prop, (∃ m, W 0 m σ H) ∧ ∀ i m σ H, W i m σ H →
      ((Itk d od kvs).stop i H ∧ D.nx σ H) ∨ ((Itk d od kvs).go i H ∧ ∃ N : L2.St → Hp → Prop, (∀ σ' H', N σ' H' → ∃ m', m' < m ∧ W (i + 1) m' σ' H') ∧ ∀ x H', (Itk d od kvs).yld i H x H' → g x σ H' fun σ2 H2 => tb { D with nx := N, ct := N, bk := D.nx } σ2 H2) := by
  refine ⟨fun i m σ H => m = kvs.length - i ∧ i ≤ kvs.length ∧ Pv i σ H, ⟨_, rfl, Nat.zero_le _, h0⟩, fun i m σ H ⟨em, hi, p⟩ => ?_⟩
  by_cases h : i < kvs.length
  · refine .inr ⟨⟨hl i σ H p, h⟩, Pv (i + 1), fun σ' H' p' => ⟨kvs.length - (i + 1), by omega, rfl, h, p'⟩, fun x H' y => ?_⟩
    obtain ⟨rfl, k, v, hk, rfl⟩ := y
    exact hs i k v σ _ hk p
  · have e : i = kvs.length := by omega
    subst e
    exact .inl ⟨⟨hl _ σ H p, Nat.le_refl _⟩, hd σ H p⟩

/-! ### sums of some of the sizes, each as often as it comes -/
def cstep (f : Int → Int) (x : Int) : Int → Int := fun t => f t + f (t - x)
def one0 : Int → Int := fun t => if t = 0 then 1 else 0
def sumsF (l : List Int) : Int → Int := l.foldl cstep one0
theorem sumsF_snoc (l : List Int) (x t : Int) : sumsF (l ++ [x]) t = sumsF l t + sumsF l (t - x) := by
  unfold sumsF
  rw [List.foldl_append]
  rfl
theorem cfold_perm {a b : List Int} (h : a.Perm b) : ∀ f, a.foldl cstep f = b.foldl cstep f := by
  induction h with
  | nil => intro f; rfl
  | cons x _ ih => intro f; exact ih (cstep f x)
  | swap x y l =>
    intro f
    show l.foldl cstep (cstep (cstep f y) x) = l.foldl cstep (cstep (cstep f x) y)
    congr 1
    funext t
    show f t + f (t - y) + (f (t - x) + f (t - x - y)) = f t + f (t - x) + (f (t - y) + f (t - y - x))
    rw [show t - x - y = t - y - x by omega]
    omega
  | trans _ _ h1 h2 => intro f; exact (h1 f).trans (h2 f)
theorem sumsF_perm {a b : List Int} (h : a.Perm b) : sumsF a = sumsF b := cfold_perm h one0
theorem snoc_ind {P : List Int → Prop} (h0 : P []) (hs : ∀ l x, P l → P (l ++ [x])) : ∀ l, P l := by
  intro l
  have h : ∀ r : List Int, P r.reverse := by
    intro r
    induction r with
    | nil => exact h0
    | cons x r ih =>
      rw [List.reverse_cons]
      exact hs _ _ ih
  have := h l.reverse
  rwa [List.reverse_reverse] at this
theorem sumsF_nonneg : ∀ (l : List Int) (t : Int), 0 ≤ sumsF l t := by
  refine snoc_ind (fun t => ?_) (fun l x ih t => ?_)
  · show 0 ≤ if t = 0 then (1 : Int) else 0
    split <;> omega
  · rw [sumsF_snoc]
    have := ih t
    have := ih (t - x)
    omega
theorem sumsF_out : ∀ (l : List Int), (∀ x ∈ l, 0 ≤ x) → ∀ t : Int, t < 0 ∨ l.sum < t → sumsF l t = 0 := by
  refine snoc_ind (fun _ t ht => ?_) (fun l x ih h t ht => ?_)
  · show (if t = 0 then (1 : Int) else 0) = 0
    rw [if_neg]
    simp at ht
    omega
  · have hx := h x (by simp)
    have hl : ∀ y ∈ l, 0 ≤ y := fun y hy => h y (List.mem_append_left _ hy)
    rw [List.sum_append] at ht
    simp at ht
    rw [sumsF_snoc, ih hl t (by omega), ih hl (t - x) (by omega)]
    rfl
theorem sumsF_in {l : List Int} (h : ∀ x ∈ l, 0 ≤ x) {t : Int} (ht : sumsF l t ≠ 0) : 0 ≤ t ∧ t ≤ l.sum := by
  have h1 : ¬ (t < 0 ∨ l.sum < t) := fun z => ht (sumsF_out l h t z)
  omega
theorem ch_all : ∀ (l : List Int), (∀ x ∈ l, 0 ≤ x) → Ch 0 l → ∀ t : Int, 0 ≤ t → t ≤ l.sum → sumsF l t ≠ 0 := by
  refine snoc_ind (fun _ _ t h1 h2 => ?_) (fun l x ih h hc t h1 h2 => ?_)
  · have e : t = 0 := by simp at h2; omega
    rw [e]
    decide
  · have hx := h x (by simp)
    have hl : ∀ y ∈ l, 0 ≤ y := fun y hy => h y (List.mem_append_left _ hy)
    have h3 := Ch_app.mp hc
    have h4 : x ≤ l.sum + 1 := by have := h3.2.1; omega
    rw [List.sum_append] at h2
    simp at h2
    rw [sumsF_snoc]
    have n1 := sumsF_nonneg l t
    have n2 := sumsF_nonneg l (t - x)
    by_cases c : t ≤ l.sum
    · have := ih hl h3.1 t h1 c
      omega
    · have := ih hl h3.1 (t - x) (by omega) (by omega)
      omega
theorem sumsF_more {a : List Int} : ∀ (b : List Int) (t : Int), sumsF a t ≠ 0 → sumsF (a ++ b) t ≠ 0 := by
  refine snoc_ind (fun t h => by rwa [List.append_nil]) (fun b x ih t h => ?_)
  rw [← List.append_assoc, sumsF_snoc]
  have := ih t h
  have := sumsF_nonneg (a ++ b) t
  have := sumsF_nonneg (a ++ b) (t - x)
  omega
theorem sumsF_big {a : List Int} (ha : ∀ x ∈ a, 0 ≤ x) : ∀ (b : List Int) (t : Int), (∀ x ∈ b, t < x) → 0 ≤ t → sumsF (a ++ b) t = sumsF a t := by
  refine snoc_ind (fun t _ _ => by rw [List.append_nil]) (fun b x ih t h h0 => ?_)
  have hb : ∀ y ∈ b, t < y := fun y hy => h y (List.mem_append_left _ hy)
  have hx := h x (by simp)
  rw [← List.append_assoc, sumsF_snoc, ih t hb h0, sumsF_out (a ++ b) (fun y hy => ?_) (t - x) (by omega), Int.add_zero]
  rcases List.mem_append.mp hy with z | z
  · exact ha y z
  · have := hb y z
    omega
/-- the gap is the least number that is no sum -/
theorem gap_sums {l : List Int} (h0 : ∀ x ∈ l, 0 < x) (hs : l.Pairwise (· ≤ ·)) : (gapL 0 l = none → ∀ t : Int, 0 ≤ t → t ≤ l.sum → sumsF l t ≠ 0) ∧
    ∀ g, gapL 0 l = some g → 0 ≤ g ∧ g ≤ l.sum ∧ sumsF l g = 0 ∧ ∀ t : Int, 0 ≤ t → t < g → sumsF l t ≠ 0 := by
  have hn : ∀ x ∈ l, 0 ≤ x := fun x hx => Int.le_of_lt (h0 x hx)
  refine ⟨fun h => ch_all l hn (gapL_none.mp h), fun g hg => ?_⟩
  have go : ∀ (post pre : List Int), l = pre ++ post → Ch 0 pre → gapL pre.sum post = some g → ∃ a s b, l = a ++ s :: b ∧ Ch 0 a ∧ g = a.sum + 1 ∧ a.sum + 1 < s := by
    intro post
    induction post with
    | nil => intro pre _ _ h; cases h
    | cons s t ih =>
      intro pre e hc h
      unfold gapL at h
      by_cases c : s > pre.sum + 1
      · rw [if_pos c] at h
        exact ⟨pre, s, t, e, hc, (Option.some.inj h).symm, c⟩
      · rw [if_neg c] at h
        refine ih (pre ++ [s]) (by rw [e, List.append_assoc]; rfl) (Ch_app.mpr ⟨hc, by omega, trivial⟩) ?_
        rw [List.sum_append]
        simpa using h
  obtain ⟨a, s, b, e, hc, rfl, hlt⟩ := go l [] rfl trivial hg
  have ha : ∀ x ∈ a, 0 ≤ x := fun x hx => hn x (by rw [e]; exact List.mem_append_left _ hx)
  have hbig : ∀ x ∈ s :: b, a.sum + 1 < x := fun x hx => by
    rw [e] at hs
    have h2 := (List.pairwise_append.mp hs).2.1
    rcases List.mem_cons.mp hx with z | z
    · omega
    · have := (List.pairwise_cons.mp h2).1 x z
      omega
  have hsa := sum_nonneg ha
  refine ⟨by omega, ?_, ?_, fun t h1 h2 => ?_⟩
  · rw [e, List.sum_append, List.sum_cons]
    have : 0 ≤ b.sum := sum_nonneg fun x hx => hn x (by rw [e]; exact List.mem_append_right _ (List.mem_cons_of_mem _ hx))
    omega
  · rw [e, sumsF_big ha (s :: b) _ hbig (by omega), sumsF_out a ha _ (by omega)]
  · rw [e]
    exact sumsF_more _ _ (ch_all a ha hc t h1 (by omega))
end Lp

namespace Lp
open PySem PySem.Spec PyProof.Rows L2
open Evl (Ex)
/-! ### the numbers of the opened pieces, and of the others -/
def isOne (ps : List (Int × Int)) (ns : List Int) (i : Nat) : Bool := decide ((ps.getD i (0, 0)).1 ∈ ns)
def onesI (ps : List (Int × Int)) (ns : List Int) (k : Nat) : List Int := ((List.range k).filter (isOne ps ns)).map fun (i : Nat) => (i : Int)
def othersI (ps : List (Int × Int)) (ns : List Int) (k : Nat) : List Int := ((List.range k).filter fun i => !isOne ps ns i).map fun (i : Nat) => (i : Int)
theorem onesI_succ (ps : List (Int × Int)) (ns : List Int) (k : Nat) : onesI ps ns (k + 1) = if isOne ps ns k = true then onesI ps ns k ++ [(k : Int)] else onesI ps ns k := by
  unfold onesI
  rw [List.range_succ, List.filter_append, List.map_append, List.filter_cons]
  split <;> simp
theorem othersI_succ (ps : List (Int × Int)) (ns : List Int) (k : Nat) : othersI ps ns (k + 1) = if isOne ps ns k = true then othersI ps ns k else othersI ps ns k ++ [(k : Int)] := by
  unfold othersI
  rw [List.range_succ, List.filter_append, List.map_append, List.filter_cons]
  cases isOne ps ns k <;> simp
theorem ones_mem {ps : List (Int × Int)} {ns : List Int} {k : Nat} {n : Int} (h : n ∈ onesI ps ns k) : ∃ i : Nat, n = i ∧ i < k ∧ isOne ps ns i = true := by
  obtain ⟨i, hi, rfl⟩ := List.mem_map.mp h
  have := List.mem_filter.mp hi
  exact ⟨i, rfl, List.mem_range.mp this.1, this.2⟩
theorem others_mem {ps : List (Int × Int)} {ns : List Int} {k : Nat} {n : Int} (h : n ∈ othersI ps ns k) : ∃ i : Nat, n = i ∧ i < k ∧ isOne ps ns i = false := by
  obtain ⟨i, hi, rfl⟩ := List.mem_map.mp h
  have := List.mem_filter.mp hi
  exact ⟨i, rfl, List.mem_range.mp this.1, by simpa using this.2⟩
theorem range_up (p : Nat → Bool) (k : Nat) : (((List.range k).filter p).map fun (i : Nat) => (i : Int)).Pairwise (· < ·) := by
  rw [List.pairwise_map]
  refine List.Pairwise.sublist List.filter_sublist ?_
  exact List.pairwise_lt_range.imp fun h => by omega
/-! ### the choices -/
abbrev Choice := List Int × Int
def szAt (sz : List Int) (n : Int) : Int := sz.getD n.toNat 0
def chMore (sz : List Int) (cs : List Choice) (n : Int) : List Choice := cs.map fun c => (c.1 ++ [n], c.2 - szAt sz n)
def fitStep (sz : List Int) (cs : List Choice) (n : Int) : List Choice := cs ++ (chMore sz cs n).filter fun c => decide (0 ≤ c.2)
def fitAll (sz : List Int) (amount : Int) (others : List Int) : List Choice := others.foldl (fitStep sz) [([], amount)]
def fit (sz : List Int) (m : Nat) (amount : Int) (others : List Int) : List Choice := (fitAll sz amount others).filter fun c => decide (c.2 ≤ (m : Int))
theorem fitAll_len (sz : List Int) (amount : Int) : ∀ others : List Int, (fitAll sz amount others).length ≤ 2 ^ others.length := by
  refine snoc_ind (Nat.le_refl _) fun l x ih => ?_
  unfold fitAll at *
  rw [List.foldl_append]
  show (List.foldl (fitStep sz) [([], amount)] l ++ _).length ≤ _
  have h1 : ((chMore sz (List.foldl (fitStep sz) [([], amount)] l) x).filter fun c => decide (0 ≤ c.2)).length ≤ (List.foldl (fitStep sz) [([], amount)] l).length := by
    refine Nat.le_trans (List.length_filter_le _ _) ?_
    unfold chMore
    rw [List.length_map]
    exact Nat.le_refl _
  rw [List.length_append, List.length_append, List.length_singleton, Nat.pow_succ]
  omega
/-- what stands in a choice -/
theorem fitAll_good (sz : List Int) (amount : Int) (ha : 0 ≤ amount) : ∀ others : List Int, ∀ c ∈ fitAll sz amount others, c.1.Sublist others ∧ c.2 = amount - (c.1.map (szAt sz)).sum ∧ 0 ≤ c.2 := by
  refine snoc_ind (fun c hc => ?_) fun l x ih c hc => ?_
  · have e : c = ([], amount) := List.mem_singleton.mp hc
    rw [e]
    exact ⟨List.Sublist.refl _, by simp, ha⟩
  · unfold fitAll at hc ih
    rw [List.foldl_append] at hc
    rcases List.mem_append.mp hc with h | h
    · obtain ⟨h1, h2, h3⟩ := ih c h
      exact ⟨h1.trans (List.sublist_append_left _ _), h2, h3⟩
    · obtain ⟨h4, h5⟩ := List.mem_filter.mp h
      obtain ⟨d, hd, rfl⟩ := List.mem_map.mp h4
      obtain ⟨h1, h2, h3⟩ := ih d hd
      refine ⟨List.Sublist.append h1 (List.Sublist.refl _), ?_, of_decide_eq_true h5⟩
      show d.2 - szAt sz x = _
      rw [List.map_append, List.sum_append, h2]
      simp
      omega
/-! ### how many -/
def binom : Nat → Int → Int
  | 0, t => if t = 0 then 1 else 0
  | m + 1, t => binom m t + binom m (t - 1)
theorem binom_out : ∀ (m : Nat) (t : Int), t < 0 ∨ (m : Int) < t → binom m t = 0
  | 0, t, h => by
    unfold binom
    rw [if_neg (by omega)]
  | m + 1, t, h => by
    unfold binom
    rw [binom_out m t (by omega), binom_out m (t - 1) (by omega)]
    rfl
theorem binom_pos : ∀ (m : Nat) (t : Int), 0 ≤ t → t ≤ (m : Int) → 0 < binom m t
  | 0, t, h1, h2 => by
    unfold binom
    rw [if_pos (by omega)]
    decide
  | m + 1, t, h1, h2 => by
    unfold binom
    by_cases c : t ≤ (m : Int)
    · have h3 := binom_pos m t h1 c
      by_cases d : t = 0
      · rw [binom_out m (t - 1) (by omega)]
        omega
      · have := binom_pos m (t - 1) (by omega) (by omega)
        omega
    · rw [binom_out m t (by omega)]
      have := binom_pos m (t - 1) (by omega) (by omega)
      omega
theorem ones_binom (m : Nat) : sumsF (List.replicate m 1) = binom m := by
  induction m with
  | zero => rfl
  | succ m ih =>
    rw [List.replicate_succ']
    funext t
    rw [sumsF_snoc, ih]
    rfl
def wOf (f : Int → Int) (cs : List Choice) : Int := (cs.map fun c => f c.2).sum
theorem wOf_app (f : Int → Int) (a b : List Choice) : wOf f (a ++ b) = wOf f a + wOf f b := by
  unfold wOf
  rw [List.map_append, List.sum_append]
theorem wOf_filter {f : Int → Int} (p : Choice → Bool) : ∀ cs : List Choice, (∀ c ∈ cs, p c = false → f c.2 = 0) → wOf f (cs.filter p) = wOf f cs
  | [], _ => rfl
  | c :: r, h => by
    have ih := wOf_filter p r fun d hd => h d (List.mem_cons_of_mem _ hd)
    unfold wOf at *
    rw [List.filter_cons]
    cases hp : p c with
    | true =>
      rw [if_pos rfl, List.map_cons, List.map_cons, List.sum_cons, List.sum_cons, ih]
    | false =>
      rw [if_neg Bool.false_ne_true, List.map_cons, List.sum_cons, ih, h c List.mem_cons_self hp, Int.zero_add]
theorem wOf_more (f : Int → Int) (sz : List Int) (n : Int) : ∀ cs : List Choice, wOf f cs + wOf f (chMore sz cs n) = wOf (cstep f (szAt sz n)) cs
  | [] => rfl
  | c :: r => by
    have ih := wOf_more f sz n r
    unfold wOf chMore at *
    simp only [List.map_cons, List.sum_cons] at *
    have e : cstep f (szAt sz n) c.2 = f c.2 + f (c.2 - szAt sz n) := rfl
    rw [e]
    omega
def Low (f : Int → Int) : Prop := ∀ t : Int, t < 0 → f t = 0
theorem Low.step {f : Int → Int} (h : Low f) {x : Int} (hx : 0 ≤ x) : Low (cstep f x) := fun t ht => by
  show f t + f (t - x) = 0
  rw [h t ht, h (t - x) (by omega)]
  rfl
theorem wOf_fit {sz : List Int} {amount : Int} : ∀ (others : List Int), (∀ n ∈ others, 0 ≤ szAt sz n) → ∀ f, Low f → wOf f (fitAll sz amount others) = (others.map (szAt sz)).foldl cstep f amount := by
  refine snoc_ind (fun _ f _ => ?_) fun l x ih h f hf => ?_
  · unfold wOf fitAll
    simp
  · have hx := h x (by simp)
    have hl : ∀ n ∈ l, 0 ≤ szAt sz n := fun n hn => h n (List.mem_append_left _ hn)
    have e1 : fitAll sz amount (l ++ [x]) = fitStep sz (fitAll sz amount l) x := by
      unfold fitAll
      rw [List.foldl_append]
      rfl
    rw [e1]
    unfold fitStep
    rw [wOf_app, wOf_filter _ _ fun c _ hc => hf _ (by have := of_decide_eq_false hc; omega), wOf_more, ih hl _ (hf.step hx), List.map_append]
    have p : (szAt sz x :: l.map (szAt sz)).Perm (l.map (szAt sz) ++ [szAt sz x]) := (List.perm_append_comm (l₁ := [szAt sz x]) (l₂ := l.map (szAt sz)))
    exact congrFun (cfold_perm p f) amount
theorem fold_ones (m : Nat) (xs : List Int) : xs.foldl cstep (binom m) = sumsF (xs ++ List.replicate m 1) := by
  have p : (xs ++ List.replicate m (1 : Int)).Perm (List.replicate m 1 ++ xs) := List.perm_append_comm
  rw [sumsF_perm p]
  unfold sumsF
  rw [List.foldl_append]
  show _ = xs.foldl cstep (sumsF (List.replicate m 1))
  rw [ones_binom]
/-- the choices, each with how the single ones are picked, are as many as the sums -/
theorem fit_sums {sz : List Int} {m : Nat} {amount : Int} {others : List Int} (h : ∀ n ∈ others, 0 ≤ szAt sz n) (hp : sz.Perm (others.map (szAt sz) ++ List.replicate m 1)) :
    ((fit sz m amount others).map fun c => binom m c.2).sum = sumsF sz amount := by
  have h1 : Low (binom m) := fun t ht => binom_out m t (.inl ht)
  have h2 := wOf_fit (amount := amount) others h _ h1
  rw [fold_ones, ← sumsF_perm hp] at h2
  rw [← h2]
  exact wOf_filter (f := binom m) (fun c => decide (c.2 ≤ (m : Int))) _ fun c _ hc => binom_out m _ (.inr (by have := of_decide_eq_false hc; omega))
theorem fit_in {sz : List Int} {m : Nat} {amount : Int} {others : List Int} (ha : 0 ≤ amount) : ∀ c ∈ fit sz m amount others, c.1.Sublist others ∧ c.2 = amount - (c.1.map (szAt sz)).sum ∧ 0 ≤ c.2 ∧ c.2 ≤ (m : Int) := by
  intro c hc
  obtain ⟨h1, h2⟩ := List.mem_filter.mp hc
  obtain ⟨a, b, d⟩ := fitAll_good sz amount ha others c h1
  exact ⟨a, b, d, of_decide_eq_true h2⟩
theorem sum_pos {α : Type} {f : α → Int} : ∀ {l : List α}, (∀ x ∈ l, 0 < f x) → l ≠ [] → 0 < (l.map f).sum
  | [], _, h => absurd rfl h
  | x :: r, h, _ => by
    rw [List.map_cons, List.sum_cons]
    have h1 := h x List.mem_cons_self
    have h2 : 0 ≤ (r.map f).sum := sum_nonneg fun y hy => by
      obtain ⟨z, hz, rfl⟩ := List.mem_map.mp hy
      exact Int.le_of_lt (h z (List.mem_cons_of_mem _ hz))
    omega
theorem fit_nil {sz : List Int} {m : Nat} {amount : Int} {others : List Int} (ha : 0 ≤ amount) (h : ∀ n ∈ others, 0 ≤ szAt sz n) (hp : sz.Perm (others.map (szAt sz) ++ List.replicate m 1)) :
    fit sz m amount others = [] ↔ sumsF sz amount = 0 := by
  rw [← fit_sums h hp]
  constructor
  · intro e
    rw [e]
    rfl
  · intro e
    by_cases c : fit sz m amount others = []
    · exact c
    · have := sum_pos (f := fun c : Choice => binom m c.2) (fun c hc => binom_pos m _ (fit_in ha c hc).2.2.1 (fit_in ha c hc).2.2.2) c
      omega
/-! ### opened pieces are single links -/
theorem range_map_get (sz : List Int) : (List.range sz.length).map (fun (i : Nat) => szAt sz (i : Int)) = sz := by
  refine List.ext_getElem (by simp) fun i h1 h2 => ?_
  rw [List.getElem_map, List.getElem_range]
  unfold szAt
  rw [Int.toNat_natCast, List.getD_eq_getElem?_getD, List.getElem?_eq_getElem h2]
  rfl
theorem part_perm {α β : Type} (p : α → Bool) (f : α → β) : ∀ l : List α, (l.map f).Perm ((l.filter fun x => !p x).map f ++ (l.filter p).map f)
  | [] => .nil
  | x :: r => by
    have ih := part_perm p f r
    rw [List.map_cons, List.filter_cons, List.filter_cons]
    cases hp : p x with
    | true =>
      simp only [Bool.not_true, Bool.false_eq_true, if_false, if_true, List.map_cons]
      exact (List.Perm.cons _ ih).trans List.perm_middle.symm
    | false =>
      simp only [Bool.not_false, Bool.false_eq_true, if_false, if_true, List.map_cons, List.cons_append]
      exact List.Perm.cons _ ih
/-- a piece that begins at an opened link is that link -/
theorem pcFold_one {links : Int} (all : List Int) : ∀ (ns : List Int) (b : Int) (acc : List (Int × Int)), Rising links (b - 1) ns → (∀ x ∈ all, x < b ∨ x ∈ ns) → (∀ p ∈ acc, p.1 ∈ all → p.2 = 1) → (∀ x ∈ ns, x ∈ all) →
    ∀ p ∈ pcEnd links (ns.foldl pcStep (b, acc)), p.1 ∈ all → p.2 = 1
  | [], b, acc, _, h1, h2, _, p, hp, hm => by
    have hp2 : p ∈ acc ++ (if b < links then [(b, links - b)] else []) := hp
    rcases List.mem_append.mp hp2 with q | q
    · exact h2 p q hm
    · split at q
      · rw [List.mem_singleton.mp q] at hm
        rcases h1 _ hm with z | z
        · exact absurd z (Int.lt_irrefl _)
        · cases z
      · cases q
  | l :: r, b, acc, hr, h1, h2, h3, p, hp, hm => by
    have r1 := hr.1
    have hr2 : Rising links (l + 1 - 1) r := by
      rw [show l + 1 - 1 = l by omega]
      exact hr.2.2
    have up := (rising_up hr.2.2).2
    refine pcFold_one all r (l + 1) _ hr2 (fun x hx => ?_) (fun q hq hqm => ?_) (fun x hx => h3 x (List.mem_cons_of_mem _ hx)) p hp hm
    · rcases h1 x hx with z | z
      · left
        omega
      · rcases List.mem_cons.mp z with z | z
        · left
          omega
        · exact .inr z
    · rcases List.mem_append.mp hq with z | z
      · exact h2 q z hqm
      · rcases List.mem_append.mp z with z | z
        · by_cases c : b < l
          · rw [if_pos c] at z
            rw [List.mem_singleton.mp z] at hqm
            rcases h1 _ hqm with y | y
            · exact absurd y (Int.lt_irrefl _)
            · rcases List.mem_cons.mp y with y | y
              · have : b = l := y
                omega
              · have := (up _ y).1
                have : l < b := this
                omega
          · rw [if_neg c] at z
            cases z
        · rw [List.mem_singleton.mp z]
theorem pcs_one {links : Int} {os : List Int} (h : Rising links (-1) os) : ∀ p ∈ pcs links os, p.1 ∈ os → p.2 = 1 :=
  pcFold_one os os 0 [] (by rw [show (0 : Int) - 1 = -1 by omega]; exact h) (fun x hx => .inr hx) (fun _ z => nomatch z) fun x hx => hx
/-- the sizes, parted -/
theorem szs_part {links : Int} {os : List Int} (h : Rising links (-1) os) :
    (szs links os).Perm ((othersI (pcs links os) os (pcs links os).length).map (szAt (szs links os)) ++ List.replicate (onesI (pcs links os) os (pcs links os).length).length 1) := by
  have hl : (szs links os).length = (pcs links os).length := by
    unfold szs
    rw [List.length_map]
  have h1 := part_perm (isOne (pcs links os) os) (fun i => szAt (szs links os) ((i : Nat) : Int)) (List.range (pcs links os).length)
  have e0 : (List.range (pcs links os).length).map (fun i => szAt (szs links os) ((i : Nat) : Int)) = szs links os := by
    rw [← hl]
    exact range_map_get _
  rw [e0] at h1
  refine h1.trans ?_
  unfold othersI onesI
  rw [List.map_map]
  refine List.Perm.append_left _ ?_
  rw [List.length_map]
  have e : ((List.range (pcs links os).length).filter (isOne (pcs links os) os)).map (fun i => szAt (szs links os) ((i : Nat) : Int)) = List.replicate ((List.range (pcs links os).length).filter (isOne (pcs links os) os)).length 1 := by
    refine List.eq_replicate_iff.mpr ⟨by rw [List.length_map], fun b hb => ?_⟩
    obtain ⟨i, hi, rfl⟩ := List.mem_map.mp hb
    obtain ⟨hi1, hi2⟩ := List.mem_filter.mp hi
    have hlt := List.mem_range.mp hi1
    have hget : (pcs links os).getD i (0, 0) = (pcs links os)[i] := by
      rw [List.getD_eq_getElem?_getD, List.getElem?_eq_getElem hlt]
      rfl
    have hone := pcs_one h (pcs links os)[i] (List.getElem_mem hlt) (by
      have := of_decide_eq_true hi2
      rwa [hget] at this)
    unfold szAt szs
    rw [Int.toNat_natCast, List.getD_eq_getElem?_getD, List.getElem?_map, List.getElem?_eq_getElem hlt]
    exact hone
  rw [e]
theorem sum_ones : ∀ k : Nat, (List.replicate k (1 : Int)).sum = k
  | 0 => rfl
  | k + 1 => by
    rw [List.replicate_succ, List.sum_cons, sum_ones k]
    omega
/-! ### a payment -/
def PayOk (sz : List Int) (amount : Int) (ns : List Int) : Prop := ns.Pairwise (· < ·) ∧ (∀ n ∈ ns, 0 ≤ n ∧ n < (sz.length : Int)) ∧ (ns.map (szAt sz)).sum = amount
theorem lt_of_nodup {l : List Int} (h : l.Pairwise (· ≤ ·)) (d : l.Nodup) : l.Pairwise (· < ·) := by
  have := List.pairwise_and_iff.mpr ⟨h, d⟩
  exact this.imp fun ⟨a, b⟩ => by omega
theorem pay_good {links : Int} {os : List Int} (h : Rising links (-1) os) {amount : Int} (ha : 0 ≤ amount) {c : Choice}
    (hc : c ∈ fit (szs links os) (onesI (pcs links os) os (pcs links os).length).length amount (othersI (pcs links os) os (pcs links os).length)) {r : List Int}
    (hp : r.Perm (c.1 ++ (onesI (pcs links os) os (pcs links os).length).take c.2.toNat)) (hr : r.Pairwise (· ≤ ·)) : PayOk (szs links os) amount r := by
  obtain ⟨h1, h2, h3, h4⟩ := fit_in ha c hc
  have hl : (szs links os).length = (pcs links os).length := by
    unfold szs
    rw [List.length_map]
  generalize ho : onesI (pcs links os) os (pcs links os).length = ones at *
  generalize ht : othersI (pcs links os) os (pcs links os).length = others at *
  have m1 : ∀ n ∈ c.1, ∃ i : Nat, n = i ∧ i < (pcs links os).length ∧ isOne (pcs links os) os i = false := fun n hn => others_mem (by rw [ht]; exact h1.subset hn)
  have m2 : ∀ n ∈ ones.take c.2.toNat, ∃ i : Nat, n = i ∧ i < (pcs links os).length ∧ isOne (pcs links os) os i = true := fun n hn => ones_mem (by rw [ho]; exact List.mem_of_mem_take hn)
  have nd : (c.1 ++ ones.take c.2.toNat).Nodup := by
    refine List.nodup_append.mpr ⟨?_, ?_, fun x hx y hy e => ?_⟩
    · have : others.Pairwise (· < ·) := by rw [← ht]; exact range_up _ _
      exact (this.sublist h1).imp fun h => Int.ne_of_lt h
    · have : ones.Pairwise (· < ·) := by rw [← ho]; exact range_up _ _
      exact (this.sublist (List.take_sublist _ _)).imp fun h => Int.ne_of_lt h
    · obtain ⟨i, e1, _, h5⟩ := m1 x hx
      obtain ⟨j, e2, _, h6⟩ := m2 y hy
      have : i = j := by omega
      rw [this, h6] at h5
      cases h5
  refine ⟨lt_of_nodup hr (hp.nodup_iff.mpr nd), fun n hn => ?_, ?_⟩
  · rw [hl]
    rcases List.mem_append.mp (hp.mem_iff.mp hn) with z | z
    · obtain ⟨i, e, h5, _⟩ := m1 n z
      omega
    · obtain ⟨i, e, h5, _⟩ := m2 n z
      omega
  · rw [sum_perm (hp.map _), List.map_append, List.sum_append]
    have e : ((ones.take c.2.toNat).map (szAt (szs links os))) = List.replicate c.2.toNat 1 := by
      refine List.eq_replicate_iff.mpr ⟨by rw [List.length_map, List.length_take]; omega, fun b hb => ?_⟩
      obtain ⟨n, hn, rfl⟩ := List.mem_map.mp hb
      obtain ⟨i, e, hlt, h6⟩ := m2 n hn
      have hget : (pcs links os).getD i (0, 0) = (pcs links os)[i] := by
        rw [List.getD_eq_getElem?_getD, List.getElem?_eq_getElem hlt]
        rfl
      have hone := pcs_one h (pcs links os)[i] (List.getElem_mem hlt) (by
        have := of_decide_eq_true h6
        rwa [hget] at this)
      rw [e]
      unfold szAt szs
      rw [Int.toNat_natCast, List.getD_eq_getElem?_getD, List.getElem?_map, List.getElem?_eq_getElem hlt]
      exact hone
    rw [e, sum_ones]
    omega
/-! ### how some of so many are picked -/
theorem binom_next : ∀ (m : Nat) (t : Int), 0 ≤ t → binom m (t + 1) * (t + 1) = binom m t * ((m : Int) - t)
  | 0, t, h => by
    unfold binom
    rw [if_neg (by omega)]
    by_cases c : t = 0
    · rw [c]
      rfl
    · rw [if_neg c]
      simp
  | m + 1, t, h => by
    have h1 := binom_next m t h
    have h2 : binom m t * t = binom m (t - 1) * ((m : Int) - t + 1) := by
      by_cases c : t = 0
      · rw [c, binom_out m (0 - 1) (by omega)]
        simp
      · have := binom_next m (t - 1) (by omega)
        rw [show t - 1 + 1 = t by omega, show (m : Int) - (t - 1) = (m : Int) - t + 1 by omega] at this
        exact this
    show (binom m (t + 1) + binom m (t + 1 - 1)) * (t + 1) = (binom m t + binom m (t - 1)) * (((m + 1 : Nat) : Int) - t)
    rw [show t + 1 - 1 = t by omega, show ((m + 1 : Nat) : Int) - t = (m : Int) - t + 1 by omega, Int.add_mul, Int.add_mul, h1, ← h2]
    generalize binom m t = a
    have e1 : a * (t + 1) = a * t + a := by rw [Int.mul_add, Int.mul_one]
    have e2 : a * ((m : Int) - t + 1) = a * ((m : Int) - t) + a := by rw [Int.mul_add, Int.mul_one]
    omega
theorem binom_zero : ∀ m : Nat, binom m 0 = 1
  | 0 => rfl
  | m + 1 => by
    unfold binom
    rw [binom_zero m, binom_out m (0 - 1) (by omega)]
    rfl
theorem binom_div (m : Nat) (t : Int) (h : 0 ≤ t) : binom m t * ((m : Int) - t) / (t + 1) = binom m (t + 1) := by
  rw [← binom_next m t h]
  exact Int.mul_ediv_cancel _ (by omega)
/-- what payment_of hands back -/
def PayRes (links : Int) (ns : List Int) (amount : Int) (H : Hp) (Q : VK) : Prop := (sumsF (szs links ns) amount = 0 → ∀ H', Ex H H' → Q .non H') ∧
  (sumsF (szs links ns) amount ≠ 0 → ∀ r H' rs, H r = none → Ex H H' → Ints H' r rs → PayOk (szs links ns) amount rs → Q (.ref r) H')
/-- a choice at a heap -/
def RC (H : Hp) : V → Choice → Prop := fun v c => ∃ t l, v = .ref t ∧ H t = some (.tup [.ref l, .int c.2]) ∧ Ints H l c.1
theorem RC.ex {H H' : Hp} (e : Ex H H') {v : V} {c : Choice} (h : RC H v c) : RC H' v c := by
  obtain ⟨t, l, rfl, h1, h2⟩ := h
  exact ⟨t, l, rfl, e _ _ h1, h2.ex e⟩
theorem others_ok (links : Int) (ns : List Int) : ∀ n ∈ othersI (pcs links ns) ns (pcs links ns).length, 0 ≤ n ∧ n < ((pcs links ns).length : Int) := fun n hn => by
  obtain ⟨i, e, hi, _⟩ := others_mem hn
  omega
theorem others_len {links : Int} {ns : List Int} (h : ns.length ≤ 8) : (othersI (pcs links ns) ns (pcs links ns).length).length ≤ 17 := by
  have h1 := pcs_len links ns
  unfold othersI
  rw [List.length_map]
  have h2 := List.length_filter_le (fun i => !isOne (pcs links ns) ns i) (List.range (pcs links ns).length)
  rw [List.length_range] at h2
  omega
theorem others_sz {links : Int} {ns : List Int} (hri : Rising links (-1) ns) (hl : 1 ≤ links) : ∀ n ∈ othersI (pcs links ns) ns (pcs links ns).length, 0 ≤ szAt (szs links ns) n := fun n hn => by
  obtain ⟨i, e, hi, _⟩ := others_mem hn
  have hlen : (szs links ns).length = (pcs links ns).length := by
    unfold szs
    rw [List.length_map]
  rw [e]
  unfold szAt
  rw [Int.toNat_natCast, List.getD_eq_getElem?_getD, List.getElem?_eq_getElem (by omega)]
  exact Int.le_of_lt (szs_pos hri hl _ (List.getElem_mem (by omega)))
theorem rising_len : ∀ {links b : Int} {l : List Int}, Rising links b l → b < links → (l.length : Int) ≤ links - 1 - b
  | _, _, [], _, h => by simp; omega
  | links, b, x :: r, h, hb => by
    have h1 := rising_len h.2.2 h.2.1
    have h2 := h.1
    rw [List.length_cons]
    omega
theorem pay_len {sz : List Int} {amount : Int} {rs : List Int} (h : PayOk sz amount rs) : rs.length ≤ sz.length := by
  have h1 : Rising (sz.length : Int) (-1) rs := rising_lt h.1 fun x hx => by have := h.2.1 x hx; omega
  have := rising_len h1 (by omega)
  omega
theorem atI_sz {sz : List Int} {n : Int} (h0 : 0 ≤ n) (h1 : n < (sz.length : Int)) : atI (sz.map V.int) n = some (.int (szAt sz n)) := by
  obtain ⟨k, rfl⟩ : ∃ k : Nat, n = (k : Int) := ⟨n.toNat, by omega⟩
  rw [atI_int (by omega)]
  unfold szAt
  rw [Int.toNat_natCast, List.getD_eq_getElem?_getD, List.getElem?_eq_getElem (by omega)]
  rfl
end Lp

namespace Lp
open PySem PySem.Spec PyProof.Rows L2
open Evl (Ex)
/-- for i, x in enumerate(a list that stands still) -/
theorem for_enum {K : PySem.W.Frag} {a : Addr} {xs : List V} {g : TG} {tb : TS} {D : Ends} {σ : L2.St} {H : Hp} (Pv : Nat → L2.St → Hp → Prop) (h0 : Pv 0 σ H) (hl : ∀ i σ H, Pv i σ H → SqL K H a xs)
    (hs : ∀ i x t σ H, xs[i]? = some x → Pv i σ H → H t = none → g (.ref t) σ (upd H t (.tup [.int (i : Nat), x])) fun σ2 H2 => tb { D with nx := Pv (i + 1), ct := Pv (i + 1), bk := D.nx } σ2 H2) (hd : ∀ σ H, Pv xs.length σ H → D.nx σ H) :
    ∃ W : Nat → Nat → L2.St → Hp → Prop, (∃ m, W 0 m σ H) ∧ ∀ i m σ H, W i m σ H →
      ((Ite K a).stop i H ∧ D.nx σ H) ∨ ((Ite K a).go i H ∧ ∃ N : L2.St → Hp → Prop, (∀ σ' H', N σ' H' → ∃ m', m' < m ∧ W (i + 1) m' σ' H') ∧ ∀ x H', (Ite K a).yld i H x H' → g x σ H' fun σ2 H2 => tb { D with nx := N, ct := N, bk := D.nx } σ2 H2) := by
  refine ⟨fun i m σ H => m = xs.length - i ∧ i ≤ xs.length ∧ Pv i σ H, ⟨_, rfl, Nat.zero_le _, h0⟩, fun i m σ H ⟨em, hi, p⟩ => ?_⟩
  have q := hl i σ H p
  by_cases h : i < xs.length
  · refine .inr ⟨⟨xs, xs[i], q, List.getElem?_eq_getElem h⟩, Pv (i + 1), fun σ' H' p' => ⟨xs.length - (i + 1), by omega, rfl, h, p'⟩, fun v H' y => ?_⟩
    obtain ⟨t, x, rfl, nt, rfl, f⟩ := y
    exact hs i x t σ H (f xs q) p nt
  · have e : i = xs.length := by omega
    subst e
    exact .inl ⟨⟨xs, q, Nat.le_refl _⟩, hd σ H p⟩
/-- a comprehension over anything that stands still and has n turns -/
theorem lc_walk {γ : Type} {J : It} {n : Nat} {g : TG} {tt : TT} {te : TE} {vs : List Nat} {σ : L2.St} {H : Hp} {Dl : Addr} {Qd : Hp → Prop} {Stay : Hp → Prop} {R : Nat → V → Hp → Prop} {R' : Hp → V → γ → Prop} (hD : H Dl = none)
    (mono : ∀ H1 H2, Stay H1 → Ex H1 H2 → Stay H2) (h0 : Stay H) (go : ∀ i H1, i < n → Stay H1 → J.go i H1) (stop : ∀ H1, Stay H1 → J.stop n H1) (yld : ∀ i H1 x H2, i < n → Stay H1 → J.yld i H1 x H2 → Ex H1 H2 ∧ R i x H2) (hn : n < sizeLine)
    (mono' : ∀ H1 H2 v c, Ex H1 H2 → R' H1 v c → R' H2 v c) (p : Nat → Bool) (f : Nat → γ)
    (hs : ∀ i x H1 acc, i < n → R i x H1 → Ex H (del H1 Dl) → H1 Dl = some (.lst acc) → ∀ (Y : V → Hp → Prop) (Z : Hp → Prop), (p i = true → ∀ v H4, Ex H1 H4 → R' (del H4 Dl) v (f i) → Y v H4) → (p i = false → ∀ H3, Ex H1 H3 → Z H3) →
      g x (wipe σ vs) H1 fun σ2 H2 => wipe σ2 vs = wipe σ vs ∧ tt σ2 H2 fun b H3 => if b = true then te σ2 H3 Y else Z H3)
    (hd : ∀ H2 acc, H2 Dl = some (.lst acc) → Ex H (del H2 Dl) → Paired (R' (del H2 Dl)) acc (((List.range n).filter p).map f) → Qd H2) :
    ∃ W : Nat → Nat → Hp → Prop, (∃ m, W 0 m (upd H Dl (.lst []))) ∧ ∀ i m H, W i m H →
      (J.stop i H ∧ Qd H) ∨ (J.go i H ∧ ∃ Nx : Hp → Prop, (∀ H', Nx H' → ∃ m', m' < m ∧ W (i + 1) m' H') ∧ ∀ x H', J.yld i H x H' → g x (wipe σ vs) H' fun σ2 H2 => wipe σ2 vs = wipe σ vs ∧ tt σ2 H2 fun b H3 =>
        if b = true then te σ2 H3 fun y H4 => ∃ acc, H4 Dl = some (.lst acc) ∧ acc.length < sizeLine ∧ Nx (upd H4 Dl (.lst (acc ++ [y]))) else Nx H3) := by
  have hlen : ∀ i, (((List.range i).filter p).map f).length ≤ i := fun i => by
    rw [List.length_map]
    have := List.length_filter_le p (List.range i)
    rwa [List.length_range] at this
  refine ⟨fun i m H2 => m = n - i ∧ i ≤ n ∧ ∃ acc, H2 Dl = some (.lst acc) ∧ Ex H (del H2 Dl) ∧ Paired (R' (del H2 Dl)) acc (((List.range i).filter p).map f), ⟨_, rfl, Nat.zero_le _, [], upd_same, ?_, .nil⟩, fun i m H2 ⟨em, hi, acc, h1, h2, h3⟩ => ?_⟩
  · rw [del_upd]
    exact del_of (Evl.Ex.refl H) hD
  have hst : Stay H2 := mono _ _ h0 (h2.trans (del_le _ _))
  by_cases h : i < n
  · refine .inr ⟨go i H2 h hst, fun H3 => ∃ acc, H3 Dl = some (.lst acc) ∧ Ex H (del H3 Dl) ∧ Paired (R' (del H3 Dl)) acc (((List.range (i + 1)).filter p).map f), fun H3 hq => ⟨n - (i + 1), by omega, rfl, h, hq⟩, fun x H3 y => ?_⟩
    obtain ⟨e3, r⟩ := yld i H2 x H3 h hst y
    have ha : acc.length ≤ i := by
      rw [Paired.len h3]
      exact hlen i
    refine hs i x H3 acc h r (h2.trans (del_mono _ e3)) (e3 _ _ h1) _ _ (fun hp v H4 e4 r4 => ?_) (fun hp H4 e4 => ?_)
    · refine ⟨acc, e4 _ _ (e3 _ _ h1), by omega, acc ++ [v], upd_same, ?_, ?_⟩
      · rw [del_upd]
        exact h2.trans (del_mono _ (e3.trans e4))
      · rw [del_upd, List.range_succ, List.filter_append, List.map_append]
        refine Paired.cat (Paired.imp h3 fun _ _ => mono' _ _ _ _ (del_mono _ (e3.trans e4))) ?_
        rw [List.filter_cons, if_pos hp]
        exact .cons r4 .nil
    · refine ⟨acc, e4 _ _ (e3 _ _ h1), h2.trans (del_mono _ (e3.trans e4)), ?_⟩
      rw [List.range_succ, List.filter_append, List.map_append, List.filter_cons, if_neg (by rw [hp]; exact Bool.false_ne_true)]
      show Paired _ _ (_ ++ [])
      rw [List.append_nil]
      exact Paired.imp h3 fun _ _ => mono' _ _ _ _ (del_mono _ (e3.trans e4))
  · have e : i = n := by omega
    subst e
    exact .inl ⟨stop H2 hst, hd H2 acc h1 h2 h3⟩
/-- over a range, ints made -/
theorem lc_rangeI {n : Nat} {g : TG} {tt : TT} {te : TE} {vs : List Nat} {σ : L2.St} {H : Hp} {Dl : Addr} {Qd : Hp → Prop} (hD : H Dl = none) (hn : n < sizeLine) (p : Nat → Bool) (f : Nat → Int)
    (hs : ∀ i H1, i < n → Ex H H1 → ∀ (Y : V → Hp → Prop) (Z : Hp → Prop), (p i = true → ∀ H4, Ex H1 H4 → Y (.int (f i)) H4) → (p i = false → ∀ H3, Ex H1 H3 → Z H3) →
      g (.int (0 + (i : Int))) (wipe σ vs) H1 fun σ2 H2 => wipe σ2 vs = wipe σ vs ∧ tt σ2 H2 fun b H3 => if b = true then te σ2 H3 Y else Z H3)
    (hd : ∀ H2, Ints H2 Dl (((List.range n).filter p).map f) → Ex H H2 → Qd H2) :
    ∃ W : Nat → Nat → Hp → Prop, (∃ m, W 0 m (upd H Dl (.lst []))) ∧ ∀ i m H, W i m H →
      ((Itr 0 n).stop i H ∧ Qd H) ∨ ((Itr 0 n).go i H ∧ ∃ Nx : Hp → Prop, (∀ H', Nx H' → ∃ m', m' < m ∧ W (i + 1) m' H') ∧ ∀ x H', (Itr 0 n).yld i H x H' → g x (wipe σ vs) H' fun σ2 H2 => wipe σ2 vs = wipe σ vs ∧ tt σ2 H2 fun b H3 =>
        if b = true then te σ2 H3 fun y H4 => ∃ acc, H4 Dl = some (.lst acc) ∧ acc.length < sizeLine ∧ Nx (upd H4 Dl (.lst (acc ++ [y]))) else Nx H3) :=
  lc_walk (Stay := fun _ => True) (R := fun i x _ => x = .int (0 + (i : Int))) (R' := fun _ => IsI) hD (fun _ _ _ _ => trivial) trivial (fun _ _ h _ => h) (fun _ _ => Nat.le_refl _) (fun i H1 x H2 _ _ ⟨e1, e2⟩ => ⟨ex_refl' e1, e2⟩) hn (fun _ _ _ _ _ h => h) p f
    (fun i x H1 acc hi hx e _ Y Z h1 h2 => by rw [hx]; exact hs i H1 hi (e.trans (del_le _ _)) Y Z (fun hp H4 e4 => h1 hp _ H4 e4 rfl) h2)
    (fun H2 acc h1 h2 h3 => hd H2 (by show _ = _; rw [h1, isI_eq h3]) (h2.trans (del_le _ _)))
/-- over enumerate(list of ints), ints made -/
theorem lc_enumI {K : PySem.W.Frag} {a : Addr} {ys : List Int} {g : TG} {tt : TT} {te : TE} {vs : List Nat} {σ : L2.St} {H : Hp} {Dl : Addr} {Qd : Hp → Prop} (hD : H Dl = none) (hsrc : SqL K H a (ys.map V.int)) (hn : ys.length < sizeLine) (p : Nat → Bool) (f : Nat → Int)
    (hs : ∀ i y t H1, ys[i]? = some y → H1 t = some (.tup [.int (i : Nat), .int y]) → Ex H H1 → ∀ (Y : V → Hp → Prop) (Z : Hp → Prop), (p i = true → ∀ H4, Ex H1 H4 → Y (.int (f i)) H4) → (p i = false → ∀ H3, Ex H1 H3 → Z H3) →
      g (.ref t) (wipe σ vs) H1 fun σ2 H2 => wipe σ2 vs = wipe σ vs ∧ tt σ2 H2 fun b H3 => if b = true then te σ2 H3 Y else Z H3)
    (hd : ∀ H2, Ints H2 Dl (((List.range ys.length).filter p).map f) → Ex H H2 → Qd H2) :
    ∃ W : Nat → Nat → Hp → Prop, (∃ m, W 0 m (upd H Dl (.lst []))) ∧ ∀ i m H, W i m H →
      ((Ite K a).stop i H ∧ Qd H) ∨ ((Ite K a).go i H ∧ ∃ Nx : Hp → Prop, (∀ H', Nx H' → ∃ m', m' < m ∧ W (i + 1) m' H') ∧ ∀ x H', (Ite K a).yld i H x H' → g x (wipe σ vs) H' fun σ2 H2 => wipe σ2 vs = wipe σ vs ∧ tt σ2 H2 fun b H3 =>
        if b = true then te σ2 H3 fun y H4 => ∃ acc, H4 Dl = some (.lst acc) ∧ acc.length < sizeLine ∧ Nx (upd H4 Dl (.lst (acc ++ [y]))) else Nx H3) := by
  have at_ : ∀ i, i < ys.length → (ys.map V.int)[i]? = some (.int (ys.getD i 0)) := fun i hi => by
    rw [List.getElem?_map, List.getElem?_eq_getElem hi, List.getD_eq_getElem?_getD, List.getElem?_eq_getElem hi]
    rfl
  refine lc_walk (Stay := fun H1 => SqL K H1 a (ys.map V.int)) (R := fun i x H1 => ∃ t, x = .ref t ∧ H1 t = some (.tup [.int (i : Nat), .int (ys.getD i 0)])) (R' := fun _ => IsI) hD (fun _ _ h e => Evl.ex_l e h) hsrc (fun i H1 hi h => ⟨_, _, h, at_ i hi⟩)
    (fun H1 h => ⟨_, h, by rw [List.length_map]; exact Nat.le_refl _⟩) (fun i H1 x H2 hi h y => ?_) hn (fun _ _ _ _ _ h => h) p f (fun i x H1 acc hi hx e _ Y Z h1 h2 => ?_) (fun H2 acc h1 h2 h3 => hd H2 (by show _ = _; rw [h1, isI_eq h3]) (h2.trans (del_le _ _)))
  · obtain ⟨t, z, rfl, nt, rfl, f⟩ := y
    have e := (at_ i hi).symm.trans (f _ h)
    cases e
    exact ⟨Evl.Ex.new nt, t, rfl, upd_same⟩
  · obtain ⟨t, rfl, ht⟩ := hx
    refine hs i (ys.getD i 0) t H1 ?_ ht (e.trans (del_le _ _)) Y Z (fun hp H4 e4 => h1 hp _ H4 e4 rfl) h2
    rw [List.getD_eq_getElem?_getD, List.getElem?_eq_getElem hi]
    rfl
end Lp

namespace Lp
open PySem PySem.Spec PyProof.Rows L2 L2H HotX
open Evl (Ex)
/-! ### defs called where an exception is handled, told that exception -/
abbrev Pin := Addr × Obj
structure FnE (P : Program) (w : World) (K : PySem.W.Frag) (mg : Str → Option Value) (base : Heap) (CX : CXT) (k : Nat) (f : Addr) (fd : FuncData) (ps : List Str) (sp : Addr → Value → Option Addr → Sp) : Prop where
  len : ∀ a c d vs H Q E, sp a c d vs H Q E → vs.length = ps.length
  run : ∀ (A : Around) (fr : List Env) (s : Shared) (H : Hp) (args : Args) (us : List Value) (vs : List V) (Q : VK) (E : XK) (q : Pin) (c : Value) (d : Option Addr), RoomH k A → Hot1 A q → L2N.Zn c d q.2 → PinOk fr H s q → Env0 P w K mg base A fr s H →
    BindsTo s fd args (ps.zip us) → Vals vs us → sp q.1 c d vs H Q E → codeAny (model P w) A (.call (.ref f) args) (CR CX fr P w H s Q E) s
/-- such a def by its body -/
theorem fn_ofE {CX : CXT} {P : Program} {w : World} {K : PySem.W.Frag} {mg : Str → Option Value} {base : Heap} {k : Nat} {f : Addr} {nm qn : Str} {pr : Arguments} {bd : List Stmt} {sc : Scope} {v1 v2 v3 v4 cdv v5 oc : Value} {an od : Option Addr}
    {sl : Array (Option Value)} {N ps : List Str} {sp : Addr → Value → Option Addr → Sp} (hf : K.lookup f = some ⟨oc, od, .func (PySem.W.fnOf nm qn pr bd sc v1 v2 v3 v4 an cdv v5), sl⟩) (hcd : PySem.W.codeIn K cdv qn = true) (S : FnScope N ps sc)
    (len : ∀ a c d vs H Q E, sp a c d vs H Q E → vs.length = ps.length)
    (body : ∀ (A : Around) (fr : List Env) (s : Shared) (H : Hp) (vs : List V) (Q : VK) (E : XK) (q : Pin) (c : Value) (d : Option Addr), Hot1 A q → L2N.Zn c d q.2 → RoomH k (A.deeper (envOfC qn sc s.heap.objs.size f cdv)) → sp q.1 c d vs H Q E →
      ∃ t, PSs (cxH CX P w K mg base N qn sc f cdv A fr s H E q) bd t ∧ t { nx := fun _ H2 => Q .non H2, rt := Q } (L2.start N vs) H) :
    FnE P w K mg base CX (k + 1) f (PySem.W.fnOf nm qn pr bd sc v1 v2 v3 v4 an cdv v5) ps sp := by
  refine ⟨len, ?_⟩
  intro A fr s H args us vs Q E q c d room hot hzn pin en bind rv hq
  have eqlen := len _ _ _ vs H Q E hq
  have inK : K.In s.heap := en.mod.kin.keeps fun b o z => (en.bs b o z).1
  have nolim : s.heap.NoLimit := en.mod.nolimit.keeps fun b o z => (en.bs b o z).1
  have kinds : ∀ z ∈ ps.zip us, sc.names.lookup z.1 = some .local ∨ (sc.names.lookup z.1 = some .cell ∧ ((cellsFrom (s.heap.objs.size + 1) sc.names []).lookup z.1).isSome = true) := by
    intro z hz
    obtain ⟨n, v⟩ := z
    exact (S.par n (List.of_mem_zip hz).1).imp id fun c => ⟨c, PySem.W.cellsFrom_some _ _ _ (.inl c)⟩
  refine codeAny_call_function room.depth (inK _ _ hf) rfl S.co S.gen rfl (PySem.W.codeRec_of inK hcd) (bind _ _ _ _ ?_)
  refine wpAny_newFunctionEnv_cells S.kind kinds fun ev eev s2 x => ?_
  subst eev
  refine ⟨nolim.keeps x.toInCall.keep, codeAny_func ?_⟩
  obtain ⟨t, pt, tq⟩ := body A fr s H vs Q E q c d hot hzn (room.deeper _) hq
  have start : Inv (cxH CX P w K mg base N qn sc f cdv A fr s H E q) [] (L2.start N vs) H s2 := inv_startH S pin en eqlen rv x
  refine wpAny_mono (pt.run [] s2 (L2.start N vs) H _ start tq) (fun fl s3 hs => ?_) fun _ _ z => z
  cases fl with
  | ret u =>
    obtain ⟨v, τ, H3, J, rel, done⟩ := hs
    exact ⟨v, H3, J.os, J.bare, J.base, J.hok, rel, done⟩
  | next =>
    obtain ⟨τ, H3, J, done⟩ := hs
    exact ⟨.non, H3, J.os, J.bare, J.base, J.hok, rfl, done⟩
  | brk =>
    obtain ⟨_, _, _, z⟩ := hs
    exact z.elim
  | cont =>
    obtain ⟨_, _, _, z⟩ := hs
    exact z.elim
theorem Fun.okE {P : Program} {w : World} {K : PySem.W.Frag} {mg : Str → Option Value} {base : Heap} {x qn : Str} {st : Stmt} {f : Addr} {fd : FuncData} {N ps : List Str} {k : Nat} {sp : Addr → Value → Option Addr → Sp} (F : Fun K x qn st f fd) (S : FnScope N ps (defScope st))
    (len : ∀ a c d vs H Q E, sp a c d vs H Q E → vs.length = ps.length)
    (body : ∀ (cdv : Value) (A : Around) (fr : List Env) (s : Shared) (H : Hp) (vs : List V) (Q : VK) (E : XK) (q : Pin) (c : Value) (d : Option Addr), Hot1 A q → L2N.Zn c d q.2 → RoomH k (A.deeper (envOfC qn (defScope st) s.heap.objs.size f cdv)) → sp q.1 c d vs H Q E →
      ∃ t, PSs (cxH (L2N.CX P w) P w K mg base N qn (defScope st) f cdv A fr s H E q) (defBody st) t ∧ t { nx := fun _ H2 => Q .non H2, rt := Q } (L2.start N vs) H) : FnE P w K mg base (L2N.CX P w) (k + 1) f fd ps sp := by
  obtain ⟨oc, od, kV, doc, pm, an, cdv, ct, osl, rfl, hf, hcd⟩ := F.ex
  exact fn_ofE hf hcd S len fun A fr s H vs Q E q c d hot hzn room hq => body cdv A fr s H vs Q E q c d hot hzn room hq
/-- a def as before, its exceptions with no context -/
theorem Fun.okN {P : Program} {w : World} {K : PySem.W.Frag} {mg : Str → Option Value} {base : Heap} {x qn : Str} {st : Stmt} {f : Addr} {fd : FuncData} {N ps : List Str} {k : Nat} {sp : Sp} (F : Fun K x qn st f fd) (S : FnScope N ps (defScope st))
    (len : ∀ vs H Q E, sp vs H Q E → vs.length = ps.length)
    (body : ∀ (cdv : Value) (A : Around) (fr : List Env) (s : Shared) (H : Hp) (vs : List V) (Q : VK) (E : XK), Room k (A.deeper (envOfC qn (defScope st) s.heap.objs.size f cdv)) → sp vs H Q E →
      ∃ t, PSs (cxOf (L2N.CX P w) P w K mg base N qn (defScope st) f cdv A fr s H E) (defBody st) t ∧ t { nx := fun _ H2 => Q .non H2, rt := Q } (L2.start N vs) H) : FnOk P w K mg base (L2N.CX P w) (k + 1) f fd ps sp := by
  obtain ⟨oc, od, kV, doc, pm, an, cdv, ct, osl, rfl, hf, hcd⟩ := F.ex
  exact fn_of hf hcd S len fun A fr s H vs Q E room hq => body cdv A fr s H vs Q E room hq
section
variable {X : Cx} {k : Nat} {f : Addr} {fd : FuncData} {ps : List Str} {E : L2.St → XK} {x : Str} {np pos : Pos} {e : Expr} {es : List Expr} {t : TA}
/-- f(e, ..) in such a suite -/
theorem pe_callE {CX : CXT} {sp : Addr → Value → Option Addr → Sp} {a : Addr} {oe : Obj} {c : Value} {d : Option Addr} (F : FnE X.prog X.w X.K X.mg X.base CX k f fd ps sp) (hr : RoomH k X.A) (hot : Hot1 X.A (a, oe)) (hzn : L2N.Zn c d oe) (hq : (a, oe) ∈ X.pn) (hg : Gl X x) (hm : X.mg x = some (.ref f)) (hk : PySem.W.keepIn X.K (.ref f) = true) (hb : Binds X.K fd ps [])
    (hx : ∀ σ, PassesAt CX X σ (E σ)) (ha : PA X (e :: es) t) (hdb : (x == ("__debug__" : Str)) = false := by decide) (he : starEach (e :: es) X.env = (false, eval e X.env) :: starEach es X.env := by rfl) (hpl : (backTo pos (starEach es X.env)).any (·.1) = false := by rfl) :
    PE X (.Call (.Name x np) (e :: es) [] pos) (tCallS (sp a c d) E t) := by
  constructor
  intro pins s σ H Q I h
  refine wpAny_Call_Name_kw (ld_glob I hg hm ?_ hdb)
  refine PySem.W.callWith_K (h₀ := X.base) I.ok.mod.kin hk (thn (ha.run pos pins s σ H _ I h) ?_) he hpl
  rintro us s1 ⟨vs, H1, I1, rv, done⟩
  refine ⟨I1.kIn, ?_⟩
  have n1 : us.length = ps.length := rv.length.symm.trans (F.len _ _ _ _ _ _ _ done)
  have bnd := hb s1 us I1.kIn (by simpa using n1)
  rw [List.append_nil] at bnd
  have pf := I1.pin (a, oe) (List.mem_append_left _ hq)
  have pok : PinOk X.stack H1 s1 (a, oe) := by
    refine ⟨pf.1, pf.2.1, fun z => ?_, pf.2.2.2.2⟩
    rcases List.mem_cons.mp (I1.stkSub a z) with y | y
    · exact pf.2.2.1 y
    · exact pf.2.2.2.1 y
  refine wpAny_call (codeAny_mono (F.run X.A X.stack s1 H1 ⟨us, []⟩ us vs Q (E σ) (a, oe) c d hr hot hzn pok I1.env0 bnd rv done) fun r s2 hz => ?_)
  cases r with
  | error u => exact hx σ pins H1 s1 u s2 I1 hz
  | ok fl =>
    cases fl with
    | ret u => exact I1.after hz
    | next => exact hz.elim
    | brk => exact hz.elim
    | cont => exact hz.elim
/-- isinstance of the exception that stands in the context -/
theorem call_isH {a D : Addr} {oe : Obj} (C : ExcC X.K D) (hz : Zc (.ref D) none oe) (hf : ∃ vs, oe.data = .fields vs) (hm : (a, oe) ∈ X.pn) : CallR X (.builtin "isinstance") (rIsE X.K D a) := by
  intro pins s σ H xs us Q I rv hw
  obtain ⟨c, cv, b, rfl, only, ans, done⟩ := hw
  obtain ⟨u1, u2, rfl, r1, r2⟩ := vals2 rv
  cases r1
  have ecv := only _ r2
  subst ecv
  have there := (I.pin (a, oe) (List.mem_append_left _ hm)).1
  obtain ⟨fs, hfs⟩ := hf
  obtain ⟨oc, od, oda, osl⟩ := oe
  obtain ⟨z1, z2⟩ := hz
  dsimp only at z1 z2 hfs
  subst z1 z2 hfs
  exact PySem.W.kia_one (PySem.W.handS_kitx_exc C.hg C.hk C.hs C.hd C.ha C.hn C.ht C.hm) I.kIn (⟨there, rfl, rfl, trivial⟩ : PySem.W.InstAt s.heap a _ D none) ans (fun y => nomatch y) fun tk => ⟨.bl b, H, I.kept (t' := tk) fun _ _ y => y, rfl, done⟩
end
/-! ### a comprehension over a range, there -/
theorem inv_pn {X : Cx} {q pins : List Pin} {σ : L2.St} {H : Hp} {s : Shared} (I : Inv X pins σ H s) (h : ∀ p ∈ q ++ pins, s.heap.get? p.1 = some p.2 ∧ H p.1 = none ∧ p.1 ≠ X.env.locals ∧ p.1 ∉ X.fs ∧ ∀ v, p.2.data ≠ .cell v) : Inv { X with pn := q } pins σ H s := by
  obtain ⟨o, e1, e2, e3, e4, e5, e6, e7, _, e9, e10⟩ := I
  exact ⟨⟨o.mod, o.kind, o.glob, o.blt, o.above, o.inj, o.has, o.cab, o.hd, o.frames, o.stk, o.exf, o.bs, o.bsz, o.noex, o.exfs, o.funs, o.frf⟩, e1, e2, e3, e4, e5, e6, e7, h, e9, e10⟩
section
variable {X : Cx}
/-- the handled exception stands behind a block's start -/
theorem blk_pin {q : Pin} {s s2 : Shared} {G H : Hp} {τ : L2.St} {sc : Scope} {ce : Env} {fp : List Addr} (hq : s.heap.get? q.1 = some q.2) (nG : G q.1 = none) (nx : q.1 ∉ fp) (nfs : q.1 ∉ frs X.stack) (J : Inv (X.blk s G sc ce fp) [] τ H s2) :
    s2.heap.get? q.1 = some q.2 ∧ H q.1 = none := ⟨J.base.keep _ _ hq nG nfs nx, J.base.free _ _ hq nG nx⟩
theorem pe_lcH {elt tg a : Expr} {ifs : List Expr} {sc : Scope} {own : List (Str × Nat)} {pos np rp : Pos} {ta : TA} {g : TG} {tt : TT} {te : TE} {q : Pin} (hN : X.N.Nodup) (hot : Hot1 X.A q) (hq : q ∈ X.pn) (hgl : Gl X "range") (hm : X.mg "range" = none) (ha : PA X [a] ta)
    (ok : BlkOk X.N X.env.scope sc own)
    (bg : ∀ (s : Shared) (H : Hp) (C : Addr) (cl : List (Str × Addr)) (fp : List Addr), PG (X.blk s H sc (compEnvC sc cl C X.env) fp) tg g)
    (bt : ∀ (s : Shared) (H : Hp) (C : Addr) (cl : List (Str × Addr)) (fp : List Addr), PTs (X.blk s H sc (compEnvC sc cl C X.env) fp) ifs tt)
    (be : ∀ (s : Shared) (H : Hp) (C : Addr) (cl : List (Str × Addr)) (fp : List Addr), PE (X.blk s H sc (compEnvC sc cl C X.env) fp) elt te)
    (hst : starEach [a] X.env = [(false, eval a X.env)] := by rfl)
    (hs : ∀ x, foldedSetIterable (.Call (.Name "range" np) [a] [] rp) X.env x = pure x := by intro _; rfl) :
    PE X (.ListComp elt [⟨tg, .Call (.Name "range" np) [a] [] rp, ifs, 0⟩] sc pos) (tLc (iRng1 ta) g tt te (own.map (·.2))) := by
  constructor
  intro pq s0 τ G Qv J0 hw
  rw [eval_ListComp]
  have free : ∀ y ∈ sc.names, y.2 = .free → ∃ c, X.env.cells.lookup y.1 = some c := fun y hy e => J0.ok.has _ ((ok.free y hy e).elim .inl .inr)
  refine wpAny_comprehension_free (use := none) rfl hs (closure_ok free) ok.kind (fun y hy e => by rw [ok.uniq y hy, e]) (thn ((pi_range1H (tg := tg) hgl hm ha hst).run pq s0 τ G _ J0 hw) fun xv s1 hx => thn hx fun itv s2 h2 => ?_)
  obtain ⟨it, fp, tn, Jt, G2, rfl, J2, T, t2, f2, rd⟩ := h2
  refine wpAny_newObj_type (newEnv_comp ?_) (by show 0 ≤ sizeLine; decide)
  generalize hL : s2.heap.objs.size = L
  have nL : G2 L = none := J2.hok.fresh (Nat.le_of_eq hL)
  obtain ⟨W, ⟨m0, w0⟩, turn⟩ := rd L nL
  generalize h3 : ({ s2 with heap := s2.heap.push { cls := .type "list", data := .seq ([] : List Value).toArray } } : Shared) = s3
  have e3 : s3.heap = s2.heap.push { cls := .type "list", data := .seq ([] : List Value).toArray } := by rw [← h3]
  have J3 : Inv X pq τ (upd G2 L (.lst [])) s3 := by
    rw [← h3]
    refine J2.laid (t' := s2.toks) (fun b o z => Heap.get?_push_of_some _ z) (Nat.le_of_eq hL) ⟨Nat.zero_le _, [], 0, .nil, ?_⟩
    rw [← hL]
    exact Heap.get?_push_size _ rfl
  obtain ⟨p1, p2, p3, p4, p5⟩ := J3.pin q (List.mem_append_left _ hq)
  have below : ∀ b ∈ fp, b < s2.heap.objs.size := by
    intro b hb
    obtain ⟨o, z, _⟩ := T.obj _ _ t2 b hb
    exact Heap.lt_size z
  have f3 : ∀ b ∈ fp, FpOk X pq (upd G2 L (.lst [])) b ∧ b < s3.heap.objs.size := by
    intro b hb
    have lt := below b hb
    refine ⟨⟨?_, (f2 b hb).2⟩, ?_⟩
    · rw [upd_ne (by rw [← hL]; exact Nat.ne_of_lt lt)]
      exact (f2 b hb).1
    · rw [e3, Heap.size_push]
      exact Nat.lt_succ_of_lt lt
  have qfp : q.1 ∉ fp := fun hb => (f2 q.1 hb).2.2.2.2.2 q (List.mem_append_left _ hq) rfl
  have qst : q.1 ∉ frs X.stack := fun z => by
    rcases List.mem_cons.mp (J3.stkSub q.1 z) with y | y
    · exact p3 y
    · exact p4 y
  have qlt : q.1 < s3.heap.objs.size := Heap.lt_size p1
  have t3 : tn 0 s3.heap := T.keep _ _ _ t2 fun b _ o z => by
    rw [e3]
    exact Heap.get?_push_of_some _ z
  have J4 := block_start J3 ok hN f3
  have g1 := bg s3 (upd G2 L (.lst [])) s3.heap.objs.size (cellsFrom (s3.heap.objs.size + 1) sc.names (cloFrom X.env.cells sc.names [])) fp
  have g2 := bt s3 (upd G2 L (.lst [])) s3.heap.objs.size (cellsFrom (s3.heap.objs.size + 1) sc.names (cloFrom X.env.cells sc.names [])) fp
  have g3 := be s3 (upd G2 L (.lst [])) s3.heap.objs.size (cellsFrom (s3.heap.objs.size + 1) sc.names (cloFrom X.env.cells sc.names [])) fp
  have fpn : ∀ b ∈ fp, (upd G2 L (.lst [])) b = none := fun b hb => (f3 b hb).1.1
  generalize hce : compEnvC sc (cellsFrom (s3.heap.objs.size + 1) sc.names (cloFrom X.env.cells sc.names [])) s3.heap.objs.size X.env = ce at J4 g1 g2 g3
  have cel : ce.locals = s3.heap.objs.size := by rw [← hce]; rfl
  generalize hG3 : upd G2 L (.lst []) = G3 at J3 J4 g1 g2 g3 w0 fpn f3 p2
  generalize h4 : ({ s3 with heap := pushCells (s3.heap.push { cls := .type "dict", data := .dict #[] }) sc.names } : Shared) = s4 at J4
  have t4 : tn 0 s4.heap := T.keep _ _ _ t3 fun b _ o z => by
    rw [← h4]
    exact pushCells_keeps _ _ _ _ (Heap.get?_push_of_some _ z)
  -- the block with the exception in sight
  have inn : ∀ {τ2 : L2.St} {H2 : Hp} {s5 : Shared}, Inv (X.blk s3 G3 sc ce fp) [] τ2 H2 s5 → Inv { X.blk s3 G3 sc ce fp with pn := [q] } [] τ2 H2 s5 := by
    intro τ2 H2 s5 J
    refine inv_pn J fun p hp => ?_
    have ep : p = q := by simpa using hp
    rw [ep]
    obtain ⟨y1, y2⟩ := blk_pin p1 p2 qfp qst J
    refine ⟨y1, y2, ?_, qst, p5⟩
    show q.1 ≠ ce.locals
    rw [cel]
    exact Nat.ne_of_lt qlt
  have out : ∀ {τ2 : L2.St} {H2 : Hp} {s5 : Shared}, Inv { X.blk s3 G3 sc ce fp with pn := [q] } [] τ2 H2 s5 → Inv (X.blk s3 G3 sc ce fp) [] τ2 H2 s5 := by
    intro τ2 H2 s5 J
    exact inv_pn (X := { X.blk s3 G3 sc ce fp with pn := [q] }) (q := []) J fun p hp => absurd hp (by simp)
  have hotc : HotC { X.blk s3 G3 sc ce fp with pn := [q] } := ⟨q, hot, List.mem_singleton.mpr rfl⟩
  have foot : ∀ {τ2 : L2.St} {H2 : Hp} {s5 : Shared}, Inv (X.blk s3 G3 sc ce fp) [] τ2 H2 s5 → (∀ b ∈ fp, H2 b = none) → ∀ b ∈ fp, FpOk { X.blk s3 G3 sc ce fp with pn := [q] } [] H2 b := by
    intro τ2 H2 s5 J hn b hb
    refine ⟨hn b hb, (J.ok.exf b hb).1, J.ok.exfs b hb, .inl hb, fun x c z => (J.ok.exf b hb).2 x c z, fun p hp => ?_⟩
    have ep : p = q := by simpa using hp
    rw [ep]
    exact fun z => qfp (z ▸ hb)
  have loop : codeAny (model X.prog X.w) X.A (.compLoop (.ListComp elt [⟨tg, .Call (.Name "range" np) [a] [] rp, ifs, 0⟩] sc pos) 0 (.ref it) (.ref L) ce) (compPost (model X.prog X.w) X.A X.xe none (EP X pq τ Qv) (.ref L) s3.heap.objs.size) s4 := by
    refine compLoop_any (fun n s5 => ∃ i H5, Inv (X.blk s3 G3 sc ce fp) [] (wipe τ (own.map (·.2))) H5 s5 ∧ tn i s5.heap ∧ (∀ b ∈ fp, H5 b = none) ∧ W i n H5) ?_ m0 ⟨0, G3, J4, t4, fpn, w0⟩
    intro n s5 hI
    obtain ⟨i, H5, J5, t5, n5, w5⟩ := hI
    rcases turn i n H5 w5 with ⟨stop, fin⟩ | ⟨go, Nx, more, each⟩
    · refine thnF (T.done { X.blk s3 G3 sc ce fp with pn := [q] } rfl rfl rfl hotc i [] s5 _ H5 (fun _ _ => False) (inn J5) (foot J5 n5) t5 stop) fun r s6 hr => ?_
      obtain ⟨rfl, J6⟩ := hr
      have J6 := out J6
      have J7 : Inv X pq τ H5 s6 := J3.call' (ch := fp) J6.os J6.base J6.hok J6.bare fun b hb => by
        obtain ⟨_, y1, _, y2, y3, y4⟩ := (f3 b hb).1
        exact ⟨y2, y1, y3, y4⟩
      have nC : H5 s3.heap.objs.size = none := by
        have z : H5 ce.locals = none := J6.free
        rwa [cel] at z
      obtain ⟨m, hn, _⟩ := J6.loc
      have hn : s6.heap.Ns ce.locals m := hn
      rw [cel] at hn
      obtain ⟨k0, k1, _, k2, k3, k4⟩ := J3.fpOk (H' := H5) (Nat.le_refl _) nC
      exact ⟨m, hn, fun h8 sb => ⟨.ref L, H5, J7.turned (t' := s6.toks) (fun b o nb z => (sb.2 b nb).trans z) k0 k1 k2 k3 k4, rfl, fin⟩⟩
    · refine thnF (T.item { X.blk s3 G3 sc ce fp with pn := [q] } rfl rfl rfl hotc i [] s5 _ H5 (fun _ _ => False) (inn J5) (foot J5 n5) t5 go) fun r s6 hr => ?_
      obtain ⟨u, rfl, h6⟩ := hr
      refine thnF h6 fun _ s7 hy => ?_
      obtain ⟨x, H7, J7, r7, y7, t7, n7⟩ := hy
      have J7 := out J7
      have foot7 : ∀ b ∈ fp, FpOk (X.blk s3 G3 sc ce fp) [] H7 b := fun b hb => by
        obtain ⟨y1, y2, y3, y4, y5, _⟩ := foot J7 n7 b hb
        exact ⟨y1, y2, y3, y4, y5, fun p hp => absurd hp (by simp)⟩
      have J7p := J7.pinned foot7 (T.obj _ _ t7)
      refine thnF (g1.run _ s7 _ H7 x u _ J7p r7 (each x H7 y7)) fun _ s8 hz => ?_
      obtain ⟨τ8, H8, J8, same, more8⟩ := hz
      refine thnF (g2.run _ s8 τ8 H8 _ J8 more8) fun b s9 hz => ?_
      obtain ⟨H9, J9, more9⟩ := hz
      have back : ∀ {s10 : Shared} {H10 : Hp}, Inv (X.blk s3 G3 sc ce fp) ([] ++ pinsAt fp s7.heap) τ8 H10 s10 → Nx H10 → ∃ m, m < n ∧ ∃ i H5, Inv (X.blk s3 G3 sc ce fp) [] (wipe τ (own.map (·.2))) H5 s10 ∧ tn i s10.heap ∧ (∀ b ∈ fp, H5 b = none) ∧ W i m H5 := by
        intro s10 H10 J10 nx
        obtain ⟨m2, lt, w2⟩ := more H10 nx
        have held : ∀ b ∈ fp, ∀ o, s7.heap.get? b = some o → s10.heap.get? b = some o ∧ H10 b = none := by
          intro b hb o z
          have y := J10.pin (b, o) (List.mem_append_right _ (List.mem_append_right _ (mem_pinsAt hb z)))
          exact ⟨y.1, y.2.1⟩
        have len8 : (wipe τ (own.map (·.2))).length = τ8.length := by rw [← same, wipe_length]
        refine ⟨m2, lt, i + 1, H10, (J10.unpinned (pins := [])).weak len8 ?_, T.keep _ _ _ t7 fun b hb o z => (held b hb o z).1, ?_, w2⟩
        · intro j v z
          rw [← same] at z
          exact (wipe_some z).1
        · intro b hb
          obtain ⟨o, z, _⟩ := T.obj _ _ t7 b hb
          exact (held b hb o z).2
      cases b with
      | false =>
        simp only [Bool.false_eq_true, if_false] at more9 ⊢
        exact back J9 more9
      | true =>
        simp only [if_true] at more9 ⊢
        refine thnF (g3.run _ s9 τ8 H9 _ J9 more9) fun z s10 hz => ?_
        obtain ⟨yv, H10, J10, r10, acc, hacc, lacc, nx⟩ := hz
        exact app_ok (X := X.blk s3 G3 sc ce fp) J10 hacc lacc r10 fun s11 J11 => back J11 nx
  show codeAny _ _ (.compStart (.ListComp elt [⟨tg, .Call (.Name "range" np) [a] [] rp, ifs, 0⟩] sc pos) 0 (.ref it) (.ref L) _) (compPost (model X.prog X.w) X.A X.xe none (EP X pq τ Qv) (.ref L) s3.heap.objs.size) _
  subst h4
  subst hce
  exact codeAny_compStart_list loop (T.self X.A 0 _ _ _ t4 loop)
end
/-! ### the same words as before, for exceptions with no context -/
structure CalN (P : Program) (w : World) (K : PySem.W.Frag) (mg : Str → Option Value) (base : Heap) (k : Nat) (x : Str) (ps : List Str) (sp : Sp) where
  f : Addr
  fd : FuncData
  ok : FnOk P w K mg base (L2N.CX P w) k f fd ps sp
  gl : mg x = some (.ref f)
  kp : PySem.W.keepIn K (.ref f) = true
  bd : Binds K fd ps []
structure CalE (P : Program) (w : World) (K : PySem.W.Frag) (mg : Str → Option Value) (base : Heap) (k : Nat) (x : Str) (ps : List Str) (sp : Addr → Value → Option Addr → Sp) where
  f : Addr
  fd : FuncData
  ok : FnE P w K mg base (L2N.CX P w) k f fd ps sp
  gl : mg x = some (.ref f)
  kp : PySem.W.keepIn K (.ref f) = true
  bd : Binds K fd ps []
theorem passLN {X : Cx} : Passes (L2N.CX X.prog X.w) X E0 := fun _ _ _ _ _ _ _ h => by
  obtain ⟨_, _, _, _, _, _, _, _, _, _, _, _, z⟩ := h
  cases z
theorem passHN {X : Cx} : ∀ σ, PassesAt (L2N.CX X.prog X.w) X σ ((fun _ => E0) σ) := fun _ _ _ _ _ _ _ h => by
  obtain ⟨_, _, _, _, _, _, _, _, _, _, _, _, z⟩ := h
  cases z
theorem noCXN {P : Program} {w : World} {H : Hp} {s : Shared} {e : Value} {s' : Shared} (h : L2N.CX P w [] H s (fun _ _ _ => False) e s') : False := by
  obtain ⟨_, _, _, _, _, _, _, _, _, _, _, _, z⟩ := h
  exact z
theorem Exo.mkN {X : Cx} {x m : Str} (T : Exo X.K X.mg x) (hg : Gl X x) {j : Nat} {p p2 pos : Pos} (hdb : (x == ("__debug__" : Str)) = false := by decide) :
    L2N.PMk X (.Call (.Name x p) [.Constant (.str m) j p2] [] pos) (fun _ H Q => Q (.ref T.C) none H) :=
  L2N.pmk_own PySem.F.excBase_ValueError T.q T.gC T.kC (raises_own T.e1 T.e2) hg hdb
/-- the goal behind the head, exceptions with no context -/
theorem walkXN {l : PySem.W.OpenLaw} {n k : Nat} {q : Program} {loose : List Str} {XP : (Str → Option Value) → Heap → Prop} {YP : World → Heap → Prop} {d : DefRec} {K : Params → PySem.W.Frag} {sp : World → Sp} {x : Str}
    (hn : l.most = some n) (hz : n ≤ sizeLine) (hdf : d.params.defaults = []) (hr : Room k callerA) (hY : ∀ (w : World) (h : Heap), YP w h → (K w.params).In h)
    (F : ∀ (w : World) (mg : Str → Option Value) (fa : Addr) (h : Heap), (K w.params).In h → h.Ns mainGlobals mg → XP mg h → mg d.name = some (.ref fa) →
      ∃ fd : FuncData, (∀ (s : Shared) (u : Value), BindsTo s fd ⟨[u], []⟩ [(x, u)]) ∧
        ∀ base : Heap, (K w.params).In base → base.Ns mainGlobals mg → FnOk l.prog w (K w.params) mg base (L2N.CX l.prog w) k fa fd [x] (sp w))
    (hsp : ∀ (w : World) (H : Hp) (a : Addr) (ns : List Int), ns.length ≤ n → SqL (K w.params) H a (ns.map V.int) → sp w [.ref a] H (fun v _ => v = .bl true) fun _ _ _ => False) :
    PySem.W.WalkO q loose XP YP l.row.toRowW d [] (fun f vs => PySem.call f vs) :=
  Att.attach_call hn hdf fun w s0 s1 mg mb fa o pm cd doc a vs ns G Y _ _ _ hmg hobj hints hlen hg => by
    obtain ⟨fd, hb, hF⟩ := F w mg fa s1.heap (hY w _ Y) G.T.g G.X hmg
    exact law_call (CX := L2N.CX l.prog w) (hY w _ Y) G.T.g G.T.b G.T.builtins G.T.nolimit hg hobj hints (by omega) hr hF hb (fun H _ hS => hsp w H a ns hlen hS) fun H e s' => noCXN
/-- the catch is hot -/
theorem hot_suite {A : Around} {a : Addr} {oe : Obj} {c : Value} {d : Option Addr} (hz : L2N.Zn c d oe) (hf : ∃ vs, oe.data = .fields vs) : Hot1 (A.mark (some (.ref a))) (a, oe) := by
  obtain ⟨vs, e⟩ := hf
  exact ⟨rfl, vs, e, hz.2.2 vs e⟩
theorem roomH_mark {k : Nat} {A : Around} {h : Option Value} (r : RoomH k A) : RoomH k (A.mark h) := ⟨r.dp, r.un⟩
/-! ### the seven kinds of errors -/
/-- what the text says of the class D, the i-th of the seven -/
structure ErrOk (K : PySem.W.Frag) (C0 C1 C2 C3 C4 C5 C6 CP D : Addr) (i : Nat) : Prop where
  ec : ExcC K D
  lt : i < 7
  k0 : PySem.W.kitOne K (.ref D) (.ref C0) = some (decide (i = 0))
  k1 : PySem.W.kitOne K (.ref D) (.ref C1) = some (decide (i = 1))
  k2 : PySem.W.kitOne K (.ref D) (.ref C2) = some (decide (i = 2))
  k3 : PySem.W.kitOne K (.ref D) (.ref C3) = some (decide (i = 3))
  k4 : PySem.W.kitOne K (.ref D) (.ref C4) = some (decide (i = 4))
  k5 : PySem.W.kitOne K (.ref D) (.ref C5) = some (decide (i = 5))
  k6 : PySem.W.kitOne K (.ref D) (.ref C6) = some (decide (i = 6))
  kv : PySem.W.kitOne K (.ref D) (.type "ValueError") = some true
  px : PySem.W.exmOne K (.ref D) (.ref CP) = some true
/-- what _law_other says of it -/
def sp_law_other (K : PySem.W.Frag) (C0 C1 C2 C3 C4 C5 C6 CP : Addr) : Addr → Value → Option Addr → Sp := fun a c d vs H Q _ => ∃ (k : Int) (D : Addr) (i : Nat), vs = [.ref a, .int k] ∧ c = .ref D ∧ d = none ∧ ErrOk K C0 C1 C2 C3 C4 C5 C6 CP D i ∧
  ∀ H', Ex H H' → Q (.bl (!decide (k = (i : Int)))) H'
/-- over a range, values that need no heap made -/
theorem lc_rangeV {n : Nat} {g : TG} {tt : TT} {te : TE} {vs : List Nat} {σ : L2.St} {H : Hp} {Dl : Addr} {Qd : Hp → Prop} (hD : H Dl = none) (hn : n < sizeLine) (p : Nat → Bool) (f : Nat → V)
    (hs : ∀ i H1, i < n → Ex H H1 → ∀ (Y : V → Hp → Prop) (Z : Hp → Prop), (p i = true → ∀ H4, Ex H1 H4 → Y (f i) H4) → (p i = false → ∀ H3, Ex H1 H3 → Z H3) →
      g (.int (0 + (i : Int))) (wipe σ vs) H1 fun σ2 H2 => wipe σ2 vs = wipe σ vs ∧ tt σ2 H2 fun b H3 => if b = true then te σ2 H3 Y else Z H3)
    (hd : ∀ H2, H2 Dl = some (.lst (((List.range n).filter p).map f)) → Ex H H2 → Qd H2) :
    ∃ W : Nat → Nat → Hp → Prop, (∃ m, W 0 m (upd H Dl (.lst []))) ∧ ∀ i m H, W i m H →
      ((Itr 0 n).stop i H ∧ Qd H) ∨ ((Itr 0 n).go i H ∧ ∃ Nx : Hp → Prop, (∀ H', Nx H' → ∃ m', m' < m ∧ W (i + 1) m' H') ∧ ∀ x H', (Itr 0 n).yld i H x H' → g x (wipe σ vs) H' fun σ2 H2 => wipe σ2 vs = wipe σ vs ∧ tt σ2 H2 fun b H3 =>
        if b = true then te σ2 H3 fun y H4 => ∃ acc, H4 Dl = some (.lst acc) ∧ acc.length < sizeLine ∧ Nx (upd H4 Dl (.lst (acc ++ [y]))) else Nx H3) := by
  have same : ∀ {xs : List V} {ys : List V}, Paired (fun v w => v = w) xs ys → xs = ys := by
    intro xs ys h
    induction h with
    | nil => rfl
    | cons r _ ih => rw [r, ih]
  exact lc_walk (Stay := fun _ => True) (R := fun i x _ => x = .int (0 + (i : Int))) (R' := fun _ v w => v = w) hD (fun _ _ _ _ => trivial) trivial (fun _ _ h _ => h) (fun _ _ => Nat.le_refl _) (fun i H1 x H2 _ _ ⟨e1, e2⟩ => ⟨ex_refl' e1, e2⟩) hn (fun _ _ _ _ _ h => h) p f
    (fun i x H1 acc hi hx e _ Y Z h1 h2 => by rw [hx]; exact hs i H1 hi (e.trans (del_le _ _)) Y Z (fun hp H4 e4 => h1 hp _ H4 e4 rfl) h2)
    (fun H2 acc h1 h2 h3 => hd H2 (by rw [h1, same h3]) (h2.trans (del_le _ _)))
def bolsD (bs : List Bool) : PyData := .list (bs.map PyData.bool)
theorem dpAllBols {K : PySem.W.Frag} {H : Hp} : ∀ bs : List Bool, DpAll K H (bs.map V.bl) (bs.map PyData.bool)
  | [] => .nil
  | b :: r => .cons (.bl b) (dpAllBols r)
theorem layBols : ∀ bs : List Bool, PyData.canLayAll0 (bs.map PyData.bool) = true ∧ PyData.depthAll (bs.map PyData.bool) ≤ 1
  | [] => ⟨rfl, by simp [PyData.depthAll]⟩
  | b :: r => by
    have h := layBols r
    simp only [List.map_cons, PyData.canLayAll0, PyData.canLay0, PyData.depthAll, PyData.depth, h.1]
    exact ⟨rfl, by omega⟩
theorem shBols (bs : List Bool) : SeqAt.shaped (bolsD bs) = true := by
  have h := layBols bs
  unfold SeqAt.shaped bolsD
  rw [PyData.canLay0, h.1, Bool.true_and, PyData.depth]
  exact decide_eq_true (by omega)
theorem eqvBols : ∀ bs cs : List Bool, PyData.eqvAll (bs.map PyData.bool) (cs.map PyData.bool) = decide (bs = cs)
  | [], [] => by simp [PyData.eqvAll]
  | [], _ :: _ => by simp [PyData.eqvAll]
  | _ :: _, [] => by simp [PyData.eqvAll]
  | b :: r, c :: t => by
    have e : PyData.eqv (.bool b) (.bool c) = decide (b = c) := by
      cases b <;> cases c <;> simp [PyData.eqv]
    rw [List.map_cons, List.map_cons, PyData.eqvAll, e, eqvBols r t]
    by_cases h : b = c <;> by_cases h2 : r = t <;> simp [h, h2]
theorem eqvBolsD (bs cs : List Bool) : PyData.eqv (bolsD bs) (bolsD cs) = decide (bs = cs) := by
  unfold bolsD
  rw [PyData.eqv, eqvBols]
theorem marks_eq {i : Nat} (hi : i < 7) (k : Int) : decide ([decide (i = 0), decide (i = 1), decide (i = 2), decide (i = 3), decide (i = 4), decide (i = 5), decide (i = 6)] = (List.range 7).map fun (j : Nat) => decide (0 + (j : Int) = k)) = decide (k = (i : Int)) := by
  have e : ((List.range 7).map fun (j : Nat) => decide (0 + (j : Int) = k)) = [decide ((0 : Int) = k), decide ((1 : Int) = k), decide ((2 : Int) = k), decide ((3 : Int) = k), decide ((4 : Int) = k), decide ((5 : Int) = k), decide ((6 : Int) = k)] := rfl
  rw [e]
  by_cases h : k = (i : Int)
  · rw [decide_eq_true h, h]
    refine decide_eq_true ?_
    match i, hi with
    | 0, _ => rfl
    | 1, _ => rfl
    | 2, _ => rfl
    | 3, _ => rfl
    | 4, _ => rfl
    | 5, _ => rfl
    | 6, _ => rfl
  · rw [decide_eq_false h]
    refine decide_eq_false fun z => ?_
    simp only [List.cons.injEq] at z
    obtain ⟨z0, z1, z2, z3, z4, z5, z6, _⟩ := z
    match i, hi with
    | 0, _ => exact h (of_decide_eq_true z0.symm).symm
    | 1, _ => exact h (of_decide_eq_true z1.symm).symm
    | 2, _ => exact h (of_decide_eq_true z2.symm).symm
    | 3, _ => exact h (of_decide_eq_true z3.symm).symm
    | 4, _ => exact h (of_decide_eq_true z4.symm).symm
    | 5, _ => exact h (of_decide_eq_true z5.symm).symm
    | 6, _ => exact h (of_decide_eq_true z6.symm).symm
theorem kit_ref {K : PySem.W.Frag} {D C : Addr} {b : Bool} (hd : PySem.W.hasDictIn K C = true) (ht : PySem.W.typeIn K (.ref C) = some (.type "type")) (hs : PySem.W.subIn K (.ref D) (.ref C) = some b) (hb : (Value.ref D == Value.ref C) = true → b = true) :
    PySem.W.kitOne K (.ref D) (.ref C) = some b := by
  unfold PySem.W.kitOne
  by_cases e : (Value.ref D == Value.ref C) = true
  · rw [if_pos e, hb e]
  · rw [if_neg e]
    obtain ⟨cd, hc, _⟩ := PySem.W.any_some hd
    unfold PySem.W.kitCls
    dsimp only
    rw [if_pos (by rw [hc, ht]; rfl)]
    exact hs
theorem errOk_mk {K : PySem.W.Frag} {C0 C1 C2 C3 C4 C5 C6 CP D : Addr} {i : Nat} (ec : ExcC K D) (lt : i < 7)
    (d0 : PySem.W.hasDictIn K C0 = true) (t0 : PySem.W.typeIn K (.ref C0) = some (.type "type")) (s0 : PySem.W.subIn K (.ref D) (.ref C0) = some (decide (i = 0))) (b0 : (Value.ref D == Value.ref C0) = true → decide (i = 0) = true)
    (d1 : PySem.W.hasDictIn K C1 = true) (t1 : PySem.W.typeIn K (.ref C1) = some (.type "type")) (s1 : PySem.W.subIn K (.ref D) (.ref C1) = some (decide (i = 1))) (b1 : (Value.ref D == Value.ref C1) = true → decide (i = 1) = true)
    (d2 : PySem.W.hasDictIn K C2 = true) (t2 : PySem.W.typeIn K (.ref C2) = some (.type "type")) (s2 : PySem.W.subIn K (.ref D) (.ref C2) = some (decide (i = 2))) (b2 : (Value.ref D == Value.ref C2) = true → decide (i = 2) = true)
    (d3 : PySem.W.hasDictIn K C3 = true) (t3 : PySem.W.typeIn K (.ref C3) = some (.type "type")) (s3 : PySem.W.subIn K (.ref D) (.ref C3) = some (decide (i = 3))) (b3 : (Value.ref D == Value.ref C3) = true → decide (i = 3) = true)
    (d4 : PySem.W.hasDictIn K C4 = true) (t4 : PySem.W.typeIn K (.ref C4) = some (.type "type")) (s4 : PySem.W.subIn K (.ref D) (.ref C4) = some (decide (i = 4))) (b4 : (Value.ref D == Value.ref C4) = true → decide (i = 4) = true)
    (d5 : PySem.W.hasDictIn K C5 = true) (t5 : PySem.W.typeIn K (.ref C5) = some (.type "type")) (s5 : PySem.W.subIn K (.ref D) (.ref C5) = some (decide (i = 5))) (b5 : (Value.ref D == Value.ref C5) = true → decide (i = 5) = true)
    (d6 : PySem.W.hasDictIn K C6 = true) (t6 : PySem.W.typeIn K (.ref C6) = some (.type "type")) (s6 : PySem.W.subIn K (.ref D) (.ref C6) = some (decide (i = 6))) (b6 : (Value.ref D == Value.ref C6) = true → decide (i = 6) = true)
    (sv : PySem.W.subIn K (.ref D) (.type "ValueError") = some true) (dP : PySem.W.hasDictIn K CP = true) (tP : PySem.W.typeIn K (.ref CP) = some (.type "type")) (sP : PySem.W.subIn K (.ref D) (.ref CP) = some true) (eP : PySem.W.subIn K (.ref CP) (.type "BaseException") = some true) :
    ErrOk K C0 C1 C2 C3 C4 C5 C6 CP D i := by
  refine ⟨ec, lt, kit_ref d0 t0 s0 b0, kit_ref d1 t1 s1 b1, kit_ref d2 t2 s2 b2, kit_ref d3 t3 s3 b3, kit_ref d4 t4 s4 b4, kit_ref d5 t5 s5 b5, kit_ref d6 t6 s6 b6, ?_, PySem.W.exm_ref eP dP tP sP⟩
  unfold PySem.W.kitOne
  rw [if_neg (by intro z; cases (beq_iff_eq.mp z))]
  unfold PySem.W.kitCls
  dsimp only
  rw [if_pos (by decide +kernel)]
  exact sv
/-! ### a list walked there, never to its end -/
def Ithl (K : PySem.W.Frag) (a : Addr) : It := ⟨(Itl K a).go, (Itl K a).yld, fun _ _ => False⟩
theorem turn_listH {P : Program} {w : World} {K : PySem.W.Frag} {tg : Expr} (a it : Addr) : TurnH P w K tg (Ithl K a) [it] it (fun i h => h.IsListIter it a i) where
  mem := List.mem_singleton.mpr rfl
  obj := by
    intro i h st b hb
    rw [List.mem_singleton.mp hb]
    obtain ⟨o, ho, hc, hd⟩ := st
    exact ⟨o, ho, fun v z => by rw [hd] at z; cases z⟩
  keep := fun i h h2 st k => st.at fun o z => k it (List.mem_singleton.mpr rfl) o z
  item := by
    intro X hP hw hK hc i pins s σ H E I hf st hg
    subst hP hw hK
    obtain ⟨xs, x, hl, hx⟩ := hg
    obtain ⟨its, rv, pl, _⟩ := I.list hl
    obtain ⟨u, hu, ru⟩ := rv.get hx
    have f := hf it (List.mem_singleton.mpr rfl)
    refine wpAny_pyNext_list_item st pl.isList (x := u) (by simpa using hu) fun h2 st2 sb => ?_
    have J : Inv X pins σ H { s with heap := h2 } := I.turned (t' := s.toks) (fun b o nb z => (sb.2 b nb).trans z) f.1 f.2.1 f.2.2.2.1 f.2.2.2.2.1 f.2.2.2.2.2
    obtain ⟨o, ho, hc, hd⟩ := id st2
    refine ⟨u, rfl, go_of (s := { s with heap := h2 }) ho hc hd (by decide) ⟨x, H, J, ru, ⟨rfl, fun ys hy => ?_⟩, st2, fun b hb => (hf b hb).1⟩⟩
    rw [I.list_inj hy hl]
    exact hx
  done := by
    intro X hP hw hK hc i pins s σ H E I hf st hg
    exact (show False from hg).elim
  self := fun _ _ _ _ _ st h => wpAny_pyIter_listiter st h
def iListH (K : PySem.W.Frag) (te : TE) : TI := fun σ H R => te σ H fun x H1 => ∃ a, x = .ref a ∧ (∃ xs, SqL K H1 a xs) ∧ R (Ithl K a) H1
theorem pi_listH {X : Cx} (K : PySem.W.Frag) (hK : X.K = K) {tg e : Expr} {te : TE} (he : PE X e te) : PIH X tg e (iListH K te) := by
  subst hK
  constructor
  intro pins s σ H R I h
  refine thn (he.run pins s σ H _ I h) ?_
  rintro v s1 ⟨x, H1, I1, r1, a, rfl, ⟨xs, hq⟩, q⟩
  cases r1
  obtain ⟨its, rv, pl, _⟩ := I1.list hq
  refine wpAny_pyIter_list pl.isList ?_
  refine ⟨s1.heap.objs.size, [s1.heap.objs.size], _, Ithl X.K a, H1, rfl, I1.kept (t' := s1.toks) fun b o z => Heap.get?_push_of_some _ z, turn_listH a _, ⟨_, Heap.get?_push_size _ rfl, rfl, rfl⟩, fun b hb => ?_, q⟩
  rw [List.mem_singleton.mp hb]
  exact I1.fpOk (Nat.le_refl _) (I1.hok.fresh (Nat.le_refl _))
theorem for_listH {K : PySem.W.Frag} {a : Addr} {xs : List V} {g : TG} {tb : TS} {D : Ends} {σ : L2.St} {H : Hp} (Pv : Nat → L2.St → Hp → Prop) (h0 : Pv 0 σ H) (hl : ∀ i σ H, Pv i σ H → SqL K H a xs) (hlt : ∀ i σ H, Pv i σ H → i < xs.length)
    (hs : ∀ i x σ H, xs[i]? = some x → Pv i σ H → g x σ H fun σ2 H2 => tb { D with nx := Pv (i + 1), ct := Pv (i + 1), bk := D.nx } σ2 H2) :
    ∃ W : Nat → Nat → L2.St → Hp → Prop, (∃ m, W 0 m σ H) ∧ ∀ i m σ H, W i m σ H →
      ((Ithl K a).stop i H ∧ D.nx σ H) ∨ ((Ithl K a).go i H ∧ ∃ N : L2.St → Hp → Prop, (∀ σ' H', N σ' H' → ∃ m', m' < m ∧ W (i + 1) m' σ' H') ∧ ∀ v H', (Ithl K a).yld i H v H' → g v σ H' fun σ2 H2 => tb { D with nx := N, ct := N, bk := D.nx } σ2 H2) := by
  refine ⟨fun i m σ H => m = xs.length - i ∧ Pv i σ H, ⟨_, rfl, h0⟩, fun i m σ H ⟨em, p⟩ => ?_⟩
  have h := hlt i σ H p
  have q := hl i σ H p
  have hx := List.getElem?_eq_getElem h
  refine .inr ⟨⟨xs, xs[i], q, hx⟩, Pv (i + 1), fun σ' H' p' => ⟨xs.length - (i + 1), by omega, rfl, p'⟩, fun v H' y => ?_⟩
  obtain ⟨rfl, f⟩ := y
  exact hs i v σ _ (f xs q) p
end Lp

namespace Lp
open PySem PySem.Spec PyProof.Rows L2
open Evl (Ex)
/-! ### lists of lists of ints -/
def llD (l : List (List Int)) : PyData := .list (l.map intsD)
/-- a list of ints at v -/
def LI (H : Hp) : V → List Int → Prop := fun v ns => ∃ p, v = .ref p ∧ Ints H p ns
theorem LI.ex {H H' : Hp} (e : Ex H H') {v : V} {ns : List Int} (h : LI H v ns) : LI H' v ns := by
  obtain ⟨p, rfl, q⟩ := h
  exact ⟨p, rfl, q.ex e⟩
theorem dpAllLL {K : PySem.W.Frag} {H : Hp} : ∀ {xs : List V} {l : List (List Int)}, Paired (LI H) xs l → DpAll K H xs (l.map intsD)
  | _, _, .nil => .nil
  | _, _, .cons r t => .cons (by
      obtain ⟨p, rfl, h⟩ := r
      exact dpInts h) (dpAllLL t)
theorem layLL : ∀ l : List (List Int), PyData.canLayAll0 (l.map intsD) = true ∧ PyData.depthAll (l.map intsD) ≤ 3
  | [] => ⟨rfl, by simp [PyData.depthAll]⟩
  | p :: r => by
    have h := layLL r
    have h2 := layInts p
    simp only [List.map_cons, PyData.canLayAll0, PyData.canLay0, PyData.depthAll, PyData.depth, intsD, h.1, h2.1]
    exact ⟨rfl, by omega⟩
theorem shLL (l : List (List Int)) : SeqAt.shaped (llD l) = true := by
  have h := layLL l
  unfold SeqAt.shaped llD
  rw [PyData.canLay0, h.1, Bool.true_and, PyData.depth]
  exact decide_eq_true (by omega)
theorem eqvLLSame (l : List (List Int)) : PyData.eqv (llD l) (llD l) = true := SeqAt.eqv_refl _ (by unfold llD; rw [PyData.canLay0]; exact (layLL l).1)
theorem dpLL {K : PySem.W.Frag} {H : Hp} {p : Addr} {xs : List V} {l : List (List Int)} (h : H p = some (.lst xs)) (px : Paired (LI H) xs l) : Dp K H (.ref p) (llD l) := .lst (.inl (.inl h)) (dpAllLL px)
end Lp

namespace Lp
open PySem PySem.Spec PyProof.Rows L2
open Evl (Ex)
def topS (i : Nat) : Stmt := PySem.Challenge.pw_linkpay_k10_which_refusal.main.body.getD i (.Pass ⟨0, 0, 0, 0⟩)
abbrev s_asked_links : Stmt := topS 12
theorem sc_asked_links : FnScope ["links"] ["links"] (defScope s_asked_links) := ⟨rfl, rfl, rfl, by decide +kernel, rfl, by decide +kernel, by decide +kernel⟩
abbrev s_asked_row : Stmt := topS 13
theorem sc_asked_row : FnScope ["links", "opened", "before", "link"] ["links", "opened"] (defScope s_asked_row) := ⟨rfl, rfl, rfl, by decide +kernel, rfl, by decide +kernel, by decide +kernel⟩
abbrev s_pieces_of : Stmt := topS 14
theorem sc_pieces_of : FnScope ["links", "opened", "found", "begin", "link"] ["links", "opened"] (defScope s_pieces_of) := ⟨rfl, rfl, rfl, by decide +kernel, rfl, by decide +kernel, by decide +kernel⟩
abbrev s_gap_of : Stmt := topS 15
theorem sc_gap_of : FnScope ["links", "opened", "reach", "size", "piece"] ["links", "opened"] (defScope s_gap_of) := ⟨rfl, rfl, rfl, by decide +kernel, rfl, by decide +kernel, by decide +kernel⟩
abbrev s_asked_few : Stmt := topS 18
theorem sc_asked_few : FnScope ["links", "opened"] ["links", "opened"] (defScope s_asked_few) := ⟨rfl, rfl, rfl, by decide +kernel, rfl, by decide +kernel, by decide +kernel⟩
abbrev s_asked_amount : Stmt := topS 19
theorem sc_asked_amount : FnScope ["links", "opened", "amount"] ["links", "opened", "amount"] (defScope s_asked_amount) := ⟨rfl, rfl, rfl, by decide +kernel, rfl, by decide +kernel, by decide +kernel⟩
abbrev s_sorts : Stmt := topS 20
theorem sc_sorts : FnScope ["links", "opened", "every", "ones", "others", "number", "piece"] ["links", "opened"] (defScope s_sorts) := ⟨rfl, rfl, rfl, by decide +kernel, rfl, by decide +kernel, by decide +kernel⟩
abbrev s_fitting : Stmt := topS 21
theorem sc_fitting : FnScope ["every", "ones", "others", "amount", "choices", "number", "more", "some", "left", "choice"] ["every", "ones", "others", "amount"] (defScope s_fitting) := ⟨rfl, rfl, rfl, by decide +kernel, rfl, by decide +kernel, by decide +kernel⟩
abbrev s_payment_of : Stmt := topS 22
theorem sc_payment_of : FnScope ["links", "opened", "amount", "every", "ones", "others", "found"] ["links", "opened", "amount"] (defScope s_payment_of) := ⟨rfl, rfl, rfl, by decide +kernel, rfl, by decide +kernel, by decide +kernel⟩
abbrev s_payment : Stmt := topS 23
theorem sc_payment : FnScope ["links", "opened", "amount"] ["links", "opened", "amount"] (defScope s_payment) := ⟨rfl, rfl, rfl, by decide +kernel, rfl, by decide +kernel, by decide +kernel⟩
abbrev s_payable : Stmt := topS 24
theorem sc_payable : FnScope ["links", "opened", "amount"] ["links", "opened", "amount"] (defScope s_payable) := ⟨rfl, rfl, rfl, by decide +kernel, rfl, by decide +kernel, by decide +kernel⟩
abbrev s_picks : Stmt := topS 25
theorem sc_picks : FnScope ["many", "some", "found", "k"] ["many", "some"] (defScope s_picks) := ⟨rfl, rfl, rfl, by decide +kernel, rfl, by decide +kernel, by decide +kernel⟩
abbrev s_ways : Stmt := topS 26
theorem sc_ways : FnScope ["links", "opened", "amount", "every", "ones", "others", "choice"] ["links", "opened", "amount"] (defScope s_ways) := ⟨rfl, rfl, rfl, by decide +kernel, rfl, by decide +kernel, by decide +kernel⟩
abbrev s_step : Stmt := topS 28
theorem sc_step : FnScope ["links", "opened", "held", "every", "before", "number", "amount", "later", "given"] ["links", "opened", "held"] (defScope s_step) := ⟨rfl, rfl, rfl, by decide +kernel, rfl, by decide +kernel, by decide +kernel⟩
abbrev s_most_links : Stmt := topS 31
theorem sc_most_links : FnScope ["openings", "found", "k"] ["openings"] (defScope s_most_links) := ⟨rfl, rfl, rfl, by decide +kernel, rfl, by decide +kernel, by decide +kernel⟩
abbrev s_fewest : Stmt := topS 32
theorem sc_fewest : FnScope ["links", "openings"] ["links"] (defScope s_fewest) := ⟨rfl, rfl, rfl, by decide +kernel, rfl, by decide +kernel, by decide +kernel⟩
abbrev s_lists_of : Stmt := topS 33
theorem sc_lists_of : FnScope ["links", "openings", "found", "k", "longer", "some", "link"] ["links", "openings"] (defScope s_lists_of) := ⟨rfl, rfl, rfl, by decide +kernel, rfl, by decide +kernel, by decide +kernel⟩
abbrev s_all_full : Stmt := topS 34
theorem sc_all_full : FnScope ["links", "openings", "some"] ["links"] (defScope s_all_full) := ⟨rfl, rfl, rfl, by decide +kernel, rfl, by decide +kernel, by decide +kernel⟩
abbrev s_law_cell_at : Stmt := topS 36
theorem sc_law_cell_at : FnScope ["script", "k"] ["script", "k"] (defScope s_law_cell_at) := ⟨rfl, rfl, rfl, by decide +kernel, rfl, by decide +kernel, by decide +kernel⟩
abbrev s_law_next : Stmt := topS 37
theorem sc_law_next : FnScope ["seed"] ["seed"] (defScope s_law_next) := ⟨rfl, rfl, rfl, by decide +kernel, rfl, by decide +kernel, by decide +kernel⟩
abbrev s_law_row_by : Stmt := topS 38
theorem sc_law_row_by : FnScope ["script", "most", "links", "opened", "k", "cell", "link"] ["script", "most"] (defScope s_law_row_by) := ⟨rfl, rfl, rfl, by decide +kernel, rfl, by decide +kernel, by decide +kernel⟩
abbrev s_law_pieces : Stmt := topS 39
theorem sc_law_pieces : FnScope ["links", "opened", "found", "begin", "link"] ["links", "opened"] (defScope s_law_pieces) := ⟨rfl, rfl, rfl, by decide +kernel, rfl, by decide +kernel, by decide +kernel⟩
abbrev s_law_other : Stmt := topS 40
theorem sc_law_other : FnScope ["e", "wanted", "marks", "k"] ["e", "wanted"] (defScope s_law_other) := ⟨rfl, rfl, rfl, by decide +kernel, rfl, by decide +kernel, by decide +kernel⟩
abbrev s_law_called : Stmt := topS 41
theorem sc_law_called : FnScope ["which", "links", "opened", "amount", "held"] ["which", "links", "opened", "amount", "held"] (defScope s_law_called) := ⟨rfl, rfl, rfl, by decide +kernel, rfl, by decide +kernel, by decide +kernel⟩
abbrev s_law_told : Stmt := topS 42
theorem sc_law_told : FnScope ["which", "links", "opened", "amount", "held", "e", "wanted"] ["which", "links", "opened", "amount", "held"] (defScope s_law_told) := ⟨rfl, rfl, rfl, by decide +kernel, rfl, by decide +kernel, by decide +kernel⟩
abbrev s_law_held_by : Stmt := topS 43
theorem sc_law_held_by : FnScope ["script", "size", "held", "at", "way", "k"] ["script", "size"] (defScope s_law_held_by) := ⟨rfl, rfl, rfl, by decide +kernel, rfl, by decide +kernel, by decide +kernel⟩
abbrev s_law : Stmt := topS 44
theorem sc_law : FnScope ["script", "links", "opened", "size", "held", "amount", "which", "due", "rising", "handed", "found", "link", "number"] ["script"] (defScope s_law) := ⟨rfl, rfl, rfl, by decide +kernel, rfl, by decide +kernel, by decide +kernel⟩
def sp_law_next : Sp := fun vs H Q _ => ∃ n : Int, vs = [.int n] ∧ Q (.int (nxt n)) H
section
variable {P : Program} {w : World} {K : PySem.W.Frag} {mg : Str → Option Value} {base : Heap}
theorem ok_law_next {f : Addr} {fd : FuncData} (F : Fun K "_law_next" "_law_next" s_law_next f fd) (T : Bl mg) : FnOk P w K mg base (L2N.CX P w) 1 f fd ["seed"] (sp_law_next ) := by
  refine Fun.okN F sc_law_next (fun vs H Q E h => ?_) (fun cdv A outer s H vs Q E hr h => ?_)
  · obtain ⟨n, rfl, _⟩ := h
    rfl
  · obtain ⟨n, rfl, q⟩ := h
    have hu := hu_of hr
    refine ⟨_, (pss_one (ps_ret (pe_op op_mod (pe_op op_add (pe_op op_mul (pv 0) pe_int) pe_int) pe_int))), ?_⟩
    exact ⟨_, rfl, _, _, rfl, rfl, .inr ⟨by decide, by decide⟩, _, _, rfl, rfl, _, _, rfl, rfl, (by decide : (0 : Int) < 2147483647), q⟩
end
def sp_law_cell_at (K : PySem.W.Frag) : Sp := fun vs H Q _ => ∃ (a : Addr) (ns : List Int) (k : Int), vs = [.ref a, .int k] ∧ SqL K H a (ns.map V.int) ∧ 0 ≤ k ∧ Q (.int (cell ns k)) H
section
variable {P : Program} {w : World} {K : PySem.W.Frag} {mg : Str → Option Value} {base : Heap}
theorem ok_law_cell_at {f : Addr} {fd : FuncData} (F : Fun K "_law_cell_at" "_law_cell_at" s_law_cell_at f fd) (T : Bl mg) : FnOk P w K mg base (L2N.CX P w) 1 f fd ["script", "k"] (sp_law_cell_at K) := by
  refine Fun.okN F sc_law_cell_at (fun vs H Q E h => ?_) (fun cdv A outer s H vs Q E hr h => ?_)
  · obtain ⟨a, ns, k, rfl, _⟩ := h
    rfl
  · obtain ⟨a, ns, k, rfl, hS, hk, q⟩ := h
    have hu := hu_of hr
    refine ⟨_, (pss_cons (ps_if (pt_cmpR op_lt (pv 1) (pe_callB call_len_seq (by rfl) T.b_len (by decide +kernel) (pa_cons (pv 0) pa_nil)) (nomark _))
      (pss_one (ps_ret (pe_ix ix_list (pv 0) (pv 1) (fun _ _ => rfl)))) pss_nil)
      (pss_one (ps_ret pe_int))), ?_⟩
    refine ⟨_, rfl, _, rfl, a, _, rfl, .inl hS, _, _, rfl, rfl, _, rfl, ?_⟩
    rw [List.length_map]
    refine iteD (fun h => ?_) (fun h => ?_)
    · have hi : k.toNat < ns.length := by omega
      refine ⟨_, rfl, _, rfl, a, _, k, .int ns[k.toNat], rfl, rfl, hS, ?_, ?_⟩
      · refine at_of (j := k.toNat) (by omega) ?_
        rw [List.getElem?_map, List.getElem?_eq_getElem hi]
        rfl
      · unfold cell at q
        rw [List.getD_eq_getElem?_getD, List.getElem?_eq_getElem hi] at q
        exact q
    · unfold cell at q
      rw [List.getD_eq_getElem?_getD, List.getElem?_eq_none (by omega)] at q
      exact q
end
/-- a row of links, and opened ones -/
def sp_law_row_by (K : PySem.W.Frag) : Sp := fun vs H Q _ => ∃ (a : Addr) (ns : List Int) (most : Int), vs = [.ref a, .int most] ∧ SqL K H a (ns.map V.int) ∧ 0 ≤ most ∧ most ≤ 1000 ∧
  ∀ (t o : Addr) H' (links : Int) (os : List Int), H t = none → H o = none → t ≠ o → Ex H H' → H' t = some (.tup [.int links, .ref o]) → Ints H' o os → RowOk links → Rising links (-1) os → (os.length : Int) ≤ most → Q (.ref t) H'
section
variable {P : Program} {w : World} {K : PySem.W.Frag} {mg : Str → Option Value} {base : Heap}
theorem ok_law_row_by {f : Addr} {fd : FuncData} (F : Fun K "_law_row_by" "_law_row_by" s_law_row_by f fd) (T : Bl mg) (C_law_next : CalN P w K mg base 1 "_law_next" ["seed"] (sp_law_next )) (C_law_cell_at : CalN P w K mg base 1 "_law_cell_at" ["script", "k"] (sp_law_cell_at K)) : FnOk P w K mg base (L2N.CX P w) 2 f fd ["script", "most"] (sp_law_row_by K) := by
  refine Fun.okN F sc_law_row_by (fun vs H Q E h => ?_) (fun cdv A outer s H vs Q E hr h => ?_)
  · obtain ⟨a, ns, most, rfl, _⟩ := h
    rfl
  · obtain ⟨a, ns, most, rfl, hS, hm0, hm1, q⟩ := h
    have hu := hu_of hr
    refine ⟨_, (pss_cons (ps_set (i := 2) sc_law_row_by.nd rfl (.inl rfl) (pe_op op_add pe_int (pe_op op_mod (pe_call C_law_next.ok (hr.mono (by decide)) (by rfl) C_law_next.gl C_law_next.kp C_law_next.bd .nil (L2N.passes_call (L2N.takes_of rfl rfl rfl rfl) (fun _ _ _ _ h => h)) (pa_cons (pe_call C_law_cell_at.ok (hr.mono (by decide)) (by rfl) C_law_cell_at.gl C_law_cell_at.kp C_law_cell_at.bd .nil (L2N.passes_call (L2N.takes_of rfl rfl rfl rfl) (fun _ _ _ _ h => h)) (pa_cons (pv 0) (pa_cons pe_int pa_nil))) pa_nil)) pe_int)))
      (Evl.pss_cut (ps_if (pt_cmpR op_eq (pe_op op_mod (pe_call C_law_cell_at.ok (hr.mono (by decide)) (by rfl) C_law_cell_at.gl C_law_cell_at.kp C_law_cell_at.bd .nil (L2N.passes_call (L2N.takes_of rfl rfl rfl rfl) (fun _ _ _ _ h => h)) (pa_cons (pv 0) (pa_cons pe_int pa_nil))) pe_int) pe_int (nomark _))
      (pss_one (ps_set (i := 2) sc_law_row_by.nd rfl (.inl rfl) (pe_op op_add pe_int (pe_op op_mod (pe_call C_law_cell_at.ok (hr.mono (by decide)) (by rfl) C_law_cell_at.gl C_law_cell_at.kp C_law_cell_at.bd .nil (L2N.passes_call (L2N.takes_of rfl rfl rfl rfl) (fun _ _ _ _ h => h)) (pa_cons (pv 0) (pa_cons pe_int pa_nil))) (pe_op op_pow pe_int pe_int))))) pss_nil)
      (pss_cons (ps_set (i := 3) sc_law_row_by.nd rfl (.inl rfl) (pe_lst pa_nil))
      (pss_cons (ps_for (passes_of rfl) rfl (pi_range1 rfl T.b_range (pa_cons (pe_op op_mod (pe_call C_law_cell_at.ok (hr.mono (by decide)) (by rfl) C_law_cell_at.gl C_law_cell_at.kp C_law_cell_at.bd .nil (L2N.passes_call (L2N.takes_of rfl rfl rfl rfl) (fun _ _ _ _ h => h)) (pa_cons (pv 0) (pa_cons pe_int pa_nil))) (pe_op op_add (pv 1) pe_int)) pa_nil)) (pg_name (i := 4) sc_law_row_by.nd rfl (.inl rfl))
      (pss_cons (ps_set (i := 5) sc_law_row_by.nd rfl (.inl rfl) (pe_call C_law_cell_at.ok (hr.mono (by decide)) (by rfl) C_law_cell_at.gl C_law_cell_at.kp C_law_cell_at.bd .nil (L2N.passes_call (L2N.takes_of rfl rfl rfl rfl) (fun _ _ _ _ h => h)) (pa_cons (pv 0) (pa_cons (pe_op op_add pe_int (pv 4)) pa_nil))))
      (Evl.pss_cut (ps_if (PW.pt (pw_and (pt_cmpR op_eq (pe_op op_mod (pv 5) pe_int) pe_int (nomark _)) (pw_and1 (pt_cmpR op_gt (pe_callB call_len_seq (by rfl) T.b_len (by decide +kernel) (pa_cons (pv 3) pa_nil)) pe_int (nomark _)))))
      (pss_one (ps_set (i := 6) sc_law_row_by.nd rfl (.inl rfl) (pe_op op_add (pe_op op_add (pe_ix ix_list (pv 3) (pe_un un_neg pe_int) (fun _ _ => rfl)) pe_int) (pe_op op_mod (pe_op op_fdiv (pv 5) pe_int) pe_int)))) (pss_one (ps_set (i := 6) sc_law_row_by.nd rfl (.inl rfl) (pe_op op_mod (pe_op op_fdiv (pv 5) pe_int) (pv 2)))))
      (pss_one (ps_if (PW.pt (pw_and (pt_cmpR op_lt (pv 6) (pv 2) (nomark _)) (pw_and1 (pt_cmpR op_notIn_seq (pv 6) (pv 3) (by rfl)))))
      (pss_one (ps_expr (pe_bm PySem.F.plainAttrs_list PySem.F.slot_list_append PySem.F.type_list_append mt_append (pv 3) (pa_cons (pv 6) pa_nil)))) pss_nil)))))
      (pss_one (ps_ret (pe_tup (pa_cons (pv 2) (pa_cons (pe_callB cr_sortedI (by rfl) T.b_sorted (by decide +kernel) (pa_cons (pv 3) pa_nil)) pa_nil))))))))), ?_⟩
    refine ⟨_, rfl, a, ns, 0, rfl, hS, by decide, _, rfl, _, _, rfl, rfl, (by decide : (0 : Int) < 40), _, _, rfl, rfl, ?_⟩
    have ha40 : 0 ≤ nxt (cell ns 0) % 40 ∧ nxt (cell ns 0) % 40 < 40 := by omega
    refine ⟨fun σ2 H2 => H2 = H ∧ ∃ links, RowOk links ∧ σ2 = [some (.ref a), some (.int most), some (.int links), none, none, none, none], ?_, ?_⟩
    · refine ⟨_, rfl, a, ns, 1, rfl, hS, by decide, _, _, rfl, rfl, (by decide : (0 : Int) < 4), rfl, _, rfl, ?_⟩
      refine iteE (fun h => ?_) (fun h => ?_)
      · refine ⟨_, rfl, a, ns, 0, rfl, hS, by decide, _, _, rfl, rfl, ⟨by decide, by decide, by decide⟩, _, _, rfl, rfl, (by decide : (0 : Int) < 10 ^ (30 : Int).toNat), _, _, rfl, rfl, rfl, _, ?_, rfl⟩
        have e : (10 : Int) ^ (30 : Int).toNat = 1000000000000000000000000000000 := by decide
        unfold RowOk
        rw [e]
        omega
      · refine ⟨rfl, _, ?_, rfl⟩
        unfold RowOk
        omega
    · rintro σ2 H2 ⟨rfl, links, hr, rfl⟩
      refine ⟨Nat.zero_le _, fun o no => ?_⟩
      obtain ⟨e1, ho⟩ := nw no (.lst [])
      refine ⟨_, rfl, a, ns, 2, rfl, Evl.ex_l e1 hS, by decide, _, rfl, _, _, rfl, rfl, _, _, rfl, rfl, (by omega : (0 : Int) < most + 1), ?_⟩
      have hm : 0 ≤ cell ns 2 % (most + 1) ∧ cell ns 2 % (most + 1) < most + 1 := ⟨Int.emod_nonneg _ (by omega), Int.emod_lt_of_pos _ (by omega)⟩
      refine ⟨_, rfl, by omega, by omega, ?_⟩
      refine for_range (lo := 0) (fun i σ' H' => Ex H2 H' ∧ ∃ acc v4 v5 v6, σ' = [some (.ref a), some (.int most), some (.int links), some (.ref o), v4, v5, v6] ∧ Ints H' o acc ∧ acc.Nodup ∧ (∀ l ∈ acc, -1 < l ∧ l < links) ∧ acc.length ≤ i) ?_ ?_ ?_
      · exact ⟨e1, [], none, none, none, rfl, ho, List.nodup_nil, (fun _ h => nomatch h), Nat.zero_le _⟩
      · rintro i σ' H' hi ⟨e2, acc, v4, v5, v6, rfl, hacc, hnd, hb, hlen⟩
        refine ⟨_, rfl, _, rfl, _, _, rfl, rfl, a, ns, _, rfl, Evl.ex_l e2 hS, by omega, ?_⟩
        generalize cell ns (3 + (0 + (i : Int))) = c
        refine ⟨fun σ3 H3 => H3 = H' ∧ ∃ link : Int, -1 < link ∧ σ3 = [some (.ref a), some (.int most), some (.int links), some (.ref o), some (.int (0 + (i : Int))), some (.int c), some (.int link)], ?_, ?_⟩
        · have other : -1 < c / 3 % links := by
            have := Int.emod_nonneg (c / 3) (show links ≠ 0 by unfold RowOk at hr; omega)
            omega
          refine ⟨_, rfl, _, _, rfl, rfl, (by decide : (0 : Int) < 3), rfl, _, rfl, ?_⟩
          refine iteE (fun h => ?_) (fun h => ?_)
          · refine ⟨_, rfl, o, _, rfl, .inl hacc.sq, _, _, rfl, rfl, _, rfl, ?_⟩
            refine iteD (fun h2 => ?_) (fun h2 => ?_)
            · rcases List.eq_nil_or_concat acc with rfl | ⟨ini, la, rfl⟩
              · exact absurd h2 (by simp)
              · rw [List.concat_eq_append] at *
                have hla := hb la (by simp)
                refine ⟨_, rfl, _, rfl, o, _, _, .int la, rfl, rfl, hacc.sq, ?_, _, _, rfl, rfl, _, rfl, _, _, rfl, rfl, ⟨(by decide : (0 : Int) < 3), (by decide : (3 : Int) < 1073741824)⟩, _, _, rfl, rfl, (by decide : (0 : Int) < 4), _, _, rfl, rfl, rfl, _, ?_, rfl⟩
                · rw [List.map_append]
                  exact atI_last _ _
                · omega
            · exact ⟨_, rfl, _, _, rfl, rfl, ⟨(by decide : (0 : Int) < 3), (by decide : (3 : Int) < 1073741824)⟩, _, rfl, _, _, rfl, rfl, (by unfold RowOk at hr; omega : (0 : Int) < links), rfl, _, other, rfl⟩
          · exact iteF ⟨_, rfl, _, _, rfl, rfl, ⟨(by decide : (0 : Int) < 3), (by decide : (3 : Int) < 1073741824)⟩, _, rfl, _, _, rfl, rfl, (by unfold RowOk at hr; omega : (0 : Int) < links), rfl, _, other, rfl⟩
        · rintro σ3 H3 ⟨rfl, link, hl0, rfl⟩
          refine ⟨_, rfl, _, rfl, _, _, rfl, rfl, _, rfl, ?_⟩
          have stay : Ex H2 H3 ∧ ∃ acc v4 v5 v6, [some (V.ref a), some (V.int most), some (V.int links), some (V.ref o), some (V.int (0 + (i : Int))), some (V.int c), some (V.int link)] = [some (V.ref a), some (V.int most), some (V.int links), some (V.ref o), v4, v5, v6] ∧ Ints H3 o acc ∧ acc.Nodup ∧ (∀ l ∈ acc, -1 < l ∧ l < links) ∧ acc.length ≤ i + 1 :=
            ⟨e2, acc, _, _, _, rfl, hacc, hnd, hb, by omega⟩
          refine iteD (fun h1 => ?_) (fun h1 => iteF stay)
          refine ⟨_, rfl, _, rfl, o, _, rfl, .inl hacc.sq, rfl, flatInts _, (!decide (link ∈ acc)), congrArg V.bl (by rw [← inV_int]; rfl), ?_⟩
          refine iteN (fun h2 => stay) (fun h2 => ?_)
          refine ⟨_, rfl, .inl ⟨rfl, _, hacc.sq⟩, _, rfl, o, _, _, rfl, rfl, hacc, sz_small (by rw [List.length_map]; omega), ?_⟩
          refine ⟨e2.mut no, acc ++ [link], _, _, _, rfl, ?_, ?_, ?_, ?_⟩
          · show upd _ _ _ _ = _
            rw [upd_same, List.map_append]
            rfl
          · refine List.nodup_append.mpr ⟨hnd, by simp, fun x hx y hy e => ?_⟩
            rw [List.mem_singleton.mp hy] at e
            exact h2 (e ▸ hx)
          · intro l hl
            rcases List.mem_append.mp hl with h | h
            · exact hb l h
            · rw [List.mem_singleton.mp h]
              exact ⟨hl0, h1⟩
          · rw [List.length_append]
            simp
            omega
      · rintro σ' H' ⟨e2, acc, v4, v5, v6, rfl, hacc, hnd, hb, hlen⟩
        refine ⟨_, rfl, _, rfl, o, acc, rfl, hacc.sq, fun os p2 perm sorted np2 => ⟨le2, fun t nt => ?_⟩⟩
        obtain ⟨e3, hp2⟩ := nw np2 (.lst (os.map V.int))
        obtain ⟨e4, ht⟩ := nw nt (.tup [.int links, .ref p2])
        refine q t p2 _ links os (Evl.fresh_back (e2.trans e3) nt) (Evl.fresh_back e2 np2) (Ne.symm (ne_of_none hp2 nt)) ((e2.trans e3).trans e4) ht (e4 _ _ hp2) hr ?_ ?_
        · exact rising_of sorted (perm.nodup_iff.mpr hnd) fun l hl => hb l (perm.mem_iff.mp hl)
        · rw [perm.length_eq]
          omega
end
def lpStep (links : Int) (s : Int × List (Int × Int)) (l : Int) : Int × List (Int × Int) := (l + 1, s.2 ++ ((if s.1 < l then [(s.1, l - s.1)] else []) ++ (if l < links then [(l, 1)] else [])))
theorem lpFold_same {links : Int} : ∀ (ns : List Int) (b : Int) (s : Int × List (Int × Int)), Rising links b ns → ns.foldl (lpStep links) s = ns.foldl pcStep s
  | [], _, _, _ => rfl
  | l :: r, b, s, h => by
    rw [List.foldl_cons, List.foldl_cons]
    have e : lpStep links s l = pcStep s l := by
      unfold lpStep pcStep
      rw [if_pos h.2.1]
    rw [e]
    exact lpFold_same r l _ h.2.2
theorem lpAll {links : Int} {ns : List Int} (h : Rising links (-1) ns) : ((ns ++ [links]).foldl (lpStep links) (0, [])).2 = pcs links ns := by
  rw [List.foldl_append, lpFold_same ns _ _ h]
  unfold pcs pcEnd
  show _ ++ (_ ++ (if links < links then _ else _)) = _
  rw [if_neg (Int.lt_irrefl _), List.append_nil]
theorem lpFold_len (links : Int) : ∀ (ns : List Int) (s : Int × List (Int × Int)), (ns.foldl (lpStep links) s).2.length ≤ s.2.length + 2 * ns.length
  | [], s => by simp
  | l :: r, s => by
    have h := lpFold_len links r (lpStep links s l)
    have h2 : (lpStep links s l).2.length ≤ s.2.length + 2 := by
      show (s.2 ++ ((if s.1 < l then [(s.1, l - s.1)] else []) ++ (if l < links then [(l, 1)] else []))).length ≤ _
      split <;> split <;> simp
    rw [List.foldl_cons, List.length_cons]
    omega
def sp_law_pieces : Sp := fun vs H Q _ => ∃ (links : Int) (p : Addr) (ns : List Int), vs = [.int links, .ref p] ∧ Ints H p ns ∧ ns.length ≤ 1000 ∧ Rising links (-1) ns ∧
  ∀ o H', H o = none → Ex H H' → Prs H' o (pcs links ns) → Q (.ref o) H'
section
variable {P : Program} {w : World} {K : PySem.W.Frag} {mg : Str → Option Value} {base : Heap}
theorem ok_law_pieces {f : Addr} {fd : FuncData} (F : Fun K "_law_pieces" "_law_pieces" s_law_pieces f fd) (T : Bl mg) : FnOk P w K mg base (L2N.CX P w) 1 f fd ["links", "opened"] (sp_law_pieces ) := by
  refine Fun.okN F sc_law_pieces (fun vs H Q E h => ?_) (fun cdv A outer s H vs Q E hr h => ?_)
  · obtain ⟨links, p, ns, rfl, _⟩ := h
    rfl
  · obtain ⟨links, p, ns, rfl, hp, hn, hri, q⟩ := h
    have hu := hu_of hr
    refine ⟨_, (pss_cons (ps_set (i := 2) sc_law_pieces.nd rfl (.inl rfl) (pe_lst pa_nil))
      (pss_cons (ps_set (i := 3) sc_law_pieces.nd rfl (.inl rfl) pe_int)
      (pss_cons (ps_for (passes_of rfl) rfl (pi_list (pe_op op_cat (pv 1) (pe_lst (pa_cons (pv 0) pa_nil)))) (pg_name (i := 4) sc_law_pieces.nd rfl (.inl rfl))
      (Evl.pss_cut (ps_if (pt_cmpR op_gt (pv 4) (pv 3) (nomark _))
      (pss_one (ps_expr (pe_bm PySem.F.plainAttrs_list PySem.F.slot_list_append PySem.F.type_list_append mt_append (pv 2) (pa_cons (pe_tup (pa_cons (pv 3) (pa_cons (pe_op op_sub (pv 4) (pv 3)) pa_nil))) pa_nil)))) pss_nil)
      (Evl.pss_cut (ps_if (pt_cmpR op_lt (pv 4) (pv 0) (nomark _))
      (pss_one (ps_expr (pe_bm PySem.F.plainAttrs_list PySem.F.slot_list_append PySem.F.type_list_append mt_append (pv 2) (pa_cons (pe_tup (pa_cons (pv 4) (pa_cons pe_int pa_nil))) pa_nil)))) pss_nil)
      (pss_one (ps_set (i := 3) sc_law_pieces.nd rfl (.inl rfl) (pe_op op_add (pv 4) pe_int))))))
      (pss_one (ps_ret (pv 2)))))), ?_⟩
    refine ⟨Nat.zero_le _, fun o no => ?_⟩
    obtain ⟨e1, ho⟩ := nw no (.lst [])
    refine ⟨_, rfl, _, rfl, le1, fun t nt => ?_⟩
    obtain ⟨e2, ht⟩ := nw nt (.lst [.int links])
    refine ⟨p, t, _, _, rfl, rfl, e2 _ _ (e1 _ _ hp), ht, by rw [List.length_map]; exact Nat.le_of_lt (sz_small (by show ns.length + 1 ≤ _; omega)), fun u nu => ?_⟩
    obtain ⟨e3, hu2⟩ := nw nu (.lst (ns.map V.int ++ [.int links]))
    have e13 := (e1.trans e2).trans e3
    have hou : Ints (upd (upd (upd H o (.lst [])) t (.lst [.int links])) u (.lst (ns.map V.int ++ [.int links]))) u (ns ++ [links]) := by
      show _ = _
      rw [hu2, List.map_append]
      rfl
    refine ⟨u, rfl, ⟨_, hou.sq⟩, ?_⟩
    have huo : u ≠ o := Ne.symm (ne_of_none (e2 _ _ ho) nu)
    refine for_pre (isI (ns ++ [links])) (fun pre σ' H' => Ex H H' ∧ Ints H' u (ns ++ [links]) ∧ Prs H' o (pre.foldl (lpStep links) (0, [])).2 ∧ ∃ v, σ' = [some (.int links), some (.ref p), some (.ref o), some (.int (pre.foldl (lpStep links) (0, [])).1), v]) ?_ (fun pre σ' H' ⟨_, a, _, _⟩ => a.sq) ?_ ?_
    · exact ⟨e13, hou, ⟨[], e3 _ _ (e2 _ _ ho), .nil⟩, none, rfl⟩
    · rintro pre y post x σ' H' e rfl ⟨ex, hiu, ⟨xs, hx, px⟩, v, rfl⟩
      have hlen : xs.length ≤ 2 * ns.length + 2 := by
        have h1 := lpFold_len links pre (0, [])
        rw [Paired.len px]
        have h2 : pre.length ≤ ns.length + 1 := by
          have := congrArg List.length e
          simp at this
          omega
        simp at h1
        omega
      have ef : (pre ++ [y]).foldl (lpStep links) (0, []) = lpStep links (pre.foldl (lpStep links) (0, [])) y := by rw [List.foldl_append]; rfl
      generalize hs : pre.foldl (lpStep links) (0, []) = s at *
      obtain ⟨b, acc⟩ := s
      refine ⟨fun σ2 H2 => σ2 = [some (.int links), some (.ref p), some (.ref o), some (.int b), some (.int y)] ∧ Ex H H2 ∧ Ints H2 u (ns ++ [links]) ∧ Prs H2 o (acc ++ (if b < y then [(b, y - b)] else [])), ?_, ?_⟩
      · refine ⟨_, rfl, _, rfl, _, _, rfl, rfl, _, rfl, ?_⟩
        refine iteD (fun hb => ?_) (fun hb => ?_)
        · refine ⟨_, rfl, .inl ⟨rfl, _, .inl (.inl hx)⟩, _, rfl, _, rfl, _, rfl, _, _, rfl, rfl, le2, fun t nt => ?_⟩
          obtain ⟨e2, ht⟩ := nw nt (.tup [.int b, .int (y - b)])
          refine ⟨o, xs, _, rfl, rfl, e2 _ _ hx, sz_small (by omega), ?_⟩
          refine ⟨rfl, (ex.trans e2).mut no, (upd_ne huo).trans (e2 _ _ hiu), ?_⟩
          rw [if_pos hb]
          exact ⟨_, upd_same, Paired.cat (Paired.imp px fun _ _ h => RP.mut (e2 _ _ hx) (RP.ex e2 h)) (.cons (RP.mut (e2 _ _ hx) ⟨t, rfl, ht⟩) .nil)⟩
        · refine ⟨rfl, ex, hiu, ?_⟩
          rw [if_neg hb, List.append_nil]
          exact ⟨xs, hx, px⟩
      · rintro σ2 H2 ⟨rfl, e2, hiu2, xs2, hx2, px2⟩
        have hl2 : xs2.length ≤ 2 * ns.length + 3 := by
          rw [Paired.len px2, List.length_append, ← Paired.len px]
          split <;> simp <;> omega
        refine ⟨fun σ3 H3 => σ3 = [some (.int links), some (.ref p), some (.ref o), some (.int b), some (.int y)] ∧ Ex H H3 ∧ Ints H3 u (ns ++ [links]) ∧ Prs H3 o (acc ++ ((if b < y then [(b, y - b)] else []) ++ (if y < links then [(y, 1)] else []))), ?_, ?_⟩
        · refine ⟨_, rfl, _, rfl, _, _, rfl, rfl, _, rfl, ?_⟩
          refine iteD (fun hb => ?_) (fun hb => ?_)
          · refine ⟨_, rfl, .inl ⟨rfl, _, .inl (.inl hx2)⟩, _, rfl, le2, fun t nt => ?_⟩
            obtain ⟨e3, ht⟩ := nw nt (.tup [.int y, .int 1])
            refine ⟨o, xs2, _, rfl, rfl, e3 _ _ hx2, sz_small (by omega), ?_⟩
            refine ⟨rfl, (e2.trans e3).mut no, (upd_ne huo).trans (e3 _ _ hiu2), ?_⟩
            rw [if_pos hb, ← List.append_assoc]
            exact ⟨_, upd_same, Paired.cat (Paired.imp px2 fun _ _ h => RP.mut (e3 _ _ hx2) (RP.ex e3 h)) (.cons (RP.mut (e3 _ _ hx2) ⟨t, rfl, ht⟩) .nil)⟩
          · refine ⟨rfl, e2, hiu2, ?_⟩
            rw [if_neg hb, List.append_nil]
            exact ⟨xs2, hx2, px2⟩
        · rintro σ3 H3 ⟨rfl, e3, hiu3, h3⟩
          refine ⟨_, rfl, _, _, rfl, rfl, ?_⟩
          rw [ef]
          exact ⟨e3, hiu3, h3, some (.int y), rfl⟩
    · rintro σ' H' ⟨ex, hiu, hpr, v, rfl⟩
      rw [lpAll hri] at hpr
      exact ⟨_, rfl, q o H' no ex hpr⟩
end
/-- some list -/
def sp_law_held_by (K : PySem.W.Frag) : Sp := fun vs H Q _ => ∃ (a : Addr) (ns : List Int) (size : Int), vs = [.ref a, .int size] ∧ SqL K H a (ns.map V.int) ∧ 0 ≤ size ∧ size ≤ 100 ∧
  ∀ o H' ms, H o = none → Ex H H' → Ints H' o ms → ms.length ≤ 300 → Q (.ref o) H'
theorem at3v {a b c k : Int} (h0 : 0 ≤ k) (h1 : k < 3) : ∃ v : Int, atI [V.int a, V.int b, V.int c] k = some (V.int v) := by
  have e : k = 0 ∨ k = 1 ∨ k = 2 := by omega
  rcases e with e | e | e
  · exact ⟨a, by rw [e]; rfl⟩
  · exact ⟨b, by rw [e]; rfl⟩
  · exact ⟨c, by rw [e]; rfl⟩
theorem cut_ints (ns : List Int) (lo hi : Option Int) : ∃ ms : List Int, cutV (ns.map V.int) lo hi = ms.map V.int ∧ ms.length ≤ ns.length := by
  refine ⟨(ns.drop (HT.sIx (ns.map V.int).length 0 lo)).take (HT.sIx (ns.map V.int).length (ns.map V.int).length hi - HT.sIx (ns.map V.int).length 0 lo), ?_, ?_⟩
  · unfold cutV
    rw [List.map_take, List.map_drop]
  · rw [List.length_take, List.length_drop]
    omega
section
variable {P : Program} {w : World} {K : PySem.W.Frag} {mg : Str → Option Value} {base : Heap}
theorem ok_law_held_by {f : Addr} {fd : FuncData} (F : Fun K "_law_held_by" "_law_held_by" s_law_held_by f fd) (T : Bl mg) (C_law_next : CalN P w K mg base 1 "_law_next" ["seed"] (sp_law_next )) (C_law_cell_at : CalN P w K mg base 1 "_law_cell_at" ["script", "k"] (sp_law_cell_at K)) : FnOk P w K mg base (L2N.CX P w) 2 f fd ["script", "size"] (sp_law_held_by K) := by
  refine Fun.okN F sc_law_held_by (fun vs H Q E h => ?_) (fun cdv A outer s H vs Q E hr h => ?_)
  · obtain ⟨a, ns, size, rfl, _⟩ := h
    rfl
  · obtain ⟨a, ns, size, rfl, hS, hs0, hs1, q⟩ := h
    have hu := hu_of hr
    refine ⟨_, (pss_cons (ps_setLc (i := 2) (own := [("k", 5)]) rfl sc_law_held_by.nd rfl rfl (sw_true rfl rfl rfl (by decide +kernel)) (pi_range1 rfl T.b_range (pa_cons (pv 1) pa_nil)) (blkOk_by (N := ["script", "size", "held", "at", "way", "k"]) (sc := defScope s_law_held_by) (by decide +kernel)) (fun _ _ _ _ _ => (pg_name (i := 5) sc_law_held_by.nd rfl (.inl rfl))) (fun _ _ _ _ _ => (pts_one (pt_cmpR op_eq (pe_op op_mod (pe_op op_fdiv (pe_call C_law_next.ok (hr.mono (by decide)) (by rfl) C_law_next.gl C_law_next.kp C_law_next.bd .nil passLN (pa_cons (pe_op op_add (pe_call C_law_cell_at.ok (hr.mono (by decide)) (by rfl) C_law_cell_at.gl C_law_cell_at.kp C_law_cell_at.bd .nil passLN (pa_cons (pv 0) (pa_cons pe_int pa_nil))) (pe_op op_mul pe_int (pv 5))) pa_nil)) pe_int) pe_int) pe_int (nomark _)))) (fun _ _ _ _ _ => (pv 5)))
      (pss_cons (ps_set (i := 3) sc_law_held_by.nd rfl (.inl rfl) (pe_op op_mod (pe_call C_law_cell_at.ok (hr.mono (by decide)) (by rfl) C_law_cell_at.gl C_law_cell_at.kp C_law_cell_at.bd .nil (L2N.passes_call (L2N.takes_of rfl rfl rfl rfl) (fun _ _ _ _ h => h)) (pa_cons (pv 0) (pa_cons pe_int pa_nil))) (pe_op op_add (pe_callB call_len_seq (by rfl) T.b_len (by decide +kernel) (pa_cons (pv 2) pa_nil)) pe_int)))
      (pss_cons (ps_set (i := 4) sc_law_held_by.nd rfl (.inl rfl) (pe_op op_mod (pe_call C_law_cell_at.ok (hr.mono (by decide)) (by rfl) C_law_cell_at.gl C_law_cell_at.kp C_law_cell_at.bd .nil (L2N.passes_call (L2N.takes_of rfl rfl rfl rfl) (fun _ _ _ _ h => h)) (pa_cons (pv 0) (pa_cons pe_int pa_nil))) pe_int))
      (pss_cons (ps_if (pt_cmpR op_eq (pv 4) pe_int (nomark _))
      (pss_one (ps_ret (pe_op op_cat (pe_op op_cat (pe_slice sl_list (pv 2) po_none (po_some (pv 3))) (pe_lst (pa_cons (pe_ix ix_list (pe_lst (pa_cons (pe_un un_neg pe_int) (pa_cons (pv 1) (pa_cons (pe_op op_pow pe_int pe_int) pa_nil)))) (pe_op op_mod (pe_call C_law_cell_at.ok (hr.mono (by decide)) (by rfl) C_law_cell_at.gl C_law_cell_at.kp C_law_cell_at.bd .nil (L2N.passes_call (L2N.takes_of rfl rfl rfl rfl) (fun _ _ _ _ h => h)) (pa_cons (pv 0) (pa_cons pe_int pa_nil))) pe_int) (fun _ _ => rfl)) pa_nil))) (pe_slice sl_list (pv 2) (po_some (pv 3)) po_none)))) pss_nil)
      (Evl.pss_cut (ps_if (PW.pt (pw_and (pt_cmpR op_eq (pv 4) pe_int (nomark _)) (pw_and1 (pt_cmpR op_lt (pv 3) (pe_callB call_len_seq (by rfl) T.b_len (by decide +kernel) (pa_cons (pv 2) pa_nil)) (nomark _)))))
      (pss_one (ps_ret (pe_op op_cat (pe_op op_cat (pe_slice sl_list (pv 2) po_none (po_some (pv 3))) (pe_lst (pa_cons (pe_ix ix_list (pv 2) (pv 3) (fun _ _ => rfl)) pa_nil))) (pe_slice sl_list (pv 2) (po_some (pv 3)) po_none)))) pss_nil)
      (pss_cons (ps_if (pt_cmpR op_eq (pv 4) pe_int (nomark _))
      (pss_one (ps_ret (pe_revL (pv 2)))) pss_nil)
      (pss_one (ps_ret (pv 2))))))))), ?_⟩
    refine ⟨_, rfl, _, rfl, by omega, by omega, fun D nD => lc_rangeI nD (sz_small (by omega)) (fun (k : Nat) => decide (nxt (cell ns 21 + 7 * (0 + (k : Int))) / 8 % 2 = 1)) (fun (k : Nat) => 0 + (k : Int)) ?_ ?_⟩
    · intro i H7 hi e7 Y Z hY hZ
      refine ⟨rfl, _, rfl, a, ns, 21, rfl, Evl.ex_l e7 hS, by decide, _, rfl, _, _, rfl, rfl, .inl ⟨by decide, by decide⟩, _, _, rfl, rfl, _, rfl, _, _, rfl, rfl, ⟨by decide, by decide⟩, _, _, rfl, rfl, (by decide : (0 : Int) < 2), rfl, _, rfl, ?_⟩
      exact iteE (fun h => ⟨_, rfl, hY (decide_eq_true h) _ (Evl.Ex.refl _)⟩) (fun h => hZ (decide_eq_false h) _ (Evl.Ex.refl _))
    intro H1 hD e1
    obtain ⟨hs, hp1, hn⟩ : ∃ hs : List Int, Ints H1 D hs ∧ hs.length ≤ 100 := by
      refine ⟨_, hD, ?_⟩
      rw [List.length_map]
      have := List.length_filter_le (fun (k : Nat) => decide (nxt (cell ns 21 + 7 * (0 + (k : Int))) / 8 % 2 = 1)) (List.range size.toNat)
      rw [List.length_range] at this
      omega
    clear hD
    have hS1 := Evl.ex_l e1 hS
    have hlm : (((hs.map V.int).length : Nat) : Int) = (hs.length : Int) := by rw [List.length_map]
    obtain ⟨A, hA, hA2⟩ : ∃ A : Nat, cell ns 22 % (((hs.map V.int).length : Int) + 1) = (A : Int) ∧ A ≤ hs.length := by
      rw [hlm]
      have h1 := Int.emod_nonneg (cell ns 22) (show (hs.length : Int) + 1 ≠ 0 by omega)
      have h2 := Int.emod_lt_of_pos (cell ns 22) (show (0 : Int) < (hs.length : Int) + 1 by omega)
      exact ⟨(cell ns 22 % ((hs.length : Int) + 1)).toNat, by omega, by omega⟩
    have join : ∀ (xs ys zs : List Int), (xs ++ ys ++ zs).map V.int = xs.map V.int ++ ys.map V.int ++ zs.map V.int := fun xs ys zs => by rw [List.map_append, List.map_append]
    refine ⟨_, rfl, a, ns, 22, rfl, hS1, by decide, _, rfl, D, _, rfl, .inl hp1.sq, _, _, rfl, rfl, _, _, rfl, rfl, (by omega), ?_⟩
    dsimp only
    rw [hA]
    refine ⟨_, rfl, a, ns, 23, rfl, hS1, by decide, _, _, rfl, rfl, (by decide : (0 : Int) < 6), ?_⟩
    refine ⟨_, rfl, rfl, _, rfl, ?_⟩
    refine iteE (fun h => ?_) (fun h => ?_)
    · obtain ⟨m1, c1, b1⟩ := cut_ints hs none (some (A : Int))
      obtain ⟨m2, c2, b2⟩ := cut_ints hs (some (A : Int)) none
      obtain ⟨v, hv⟩ := at3v (a := -1) (b := size) (c := 10 ^ (30 : Int).toNat) (k := cell ns 24 % 3) (by omega) (by omega)
      refine ⟨_, rfl, _, rfl, _, rfl, D, _, rfl, hp1.sq, fun s1 n1 => ?_⟩
      rw [c1]
      obtain ⟨e2, h2⟩ := nw n1 (.lst (m1.map V.int))
      refine ⟨_, rfl, _, rfl, _, _, rfl, rfl, ⟨by decide, by decide, by decide⟩, (by show 3 ≤ sizeLine; decide), fun l nl => ?_⟩
      obtain ⟨e3, hl⟩ := nw nl (.lst [.int (-1), .int size, .int (10 ^ (30 : Int).toNat)])
      refine ⟨_, rfl, a, ns, 24, rfl, Evl.ex_l (e2.trans e3) hS1, by decide, _, _, rfl, rfl, (by decide : (0 : Int) < 3), l, _, _, .int v, rfl, rfl, .inl (.inl hl), hv, le1, fun s2 n2 => ?_⟩
      obtain ⟨e4, h4⟩ := nw n2 (.lst [.int v])
      refine ⟨s1, s2, _, _, rfl, rfl, e4 _ _ (e3 _ _ h2), h4, Nat.le_of_lt (sz_small (by rw [List.length_map]; show m1.length + 1 ≤ _; omega)), fun s3 n3 => ?_⟩
      obtain ⟨e5, h5⟩ := nw n3 (.lst (m1.map V.int ++ [.int v]))
      have e25 := ((e2.trans e3).trans e4).trans e5
      refine ⟨_, rfl, _, rfl, _, rfl, D, _, rfl, (hp1.ex e25).sq, fun s4 n4 => ?_⟩
      rw [c2]
      obtain ⟨e6, h6⟩ := nw n4 (.lst (m2.map V.int))
      refine ⟨s3, s4, _, _, rfl, rfl, e6 _ _ h5, h6, Nat.le_of_lt (sz_small (by rw [List.length_append, List.length_map, List.length_map]; show m1.length + 1 + m2.length ≤ _; omega)), fun s5 n5 => ?_⟩
      obtain ⟨e7, h7⟩ := nw n5 (.lst (m1.map V.int ++ [.int v] ++ m2.map V.int))
      have ex := (e1.trans e25).trans e6
      refine q s5 _ (m1 ++ [v] ++ m2) (Evl.fresh_back ex n5) (ex.trans e7) ?_ (by rw [List.length_append, List.length_append, List.length_singleton]; omega)
      show _ = _
      rw [h7, join]
      rfl
    refine ⟨fun σ2 H2 => H2 = H1 ∧ σ2 = [some (.ref a), some (.int size), some (.ref D), some (.int (A : Int)), some (.int (cell ns 23 % 6)), none], ?_, ?_⟩
    · refine ⟨_, rfl, rfl, _, rfl, ?_⟩
      refine iteE (fun h => ?_) (fun h => ⟨rfl, rfl⟩)
      refine ⟨_, rfl, _, rfl, D, _, rfl, .inl hp1.sq, _, _, rfl, rfl, _, rfl, ?_⟩
      refine iteD (fun h2 => ?_) (fun h2 => ⟨rfl, rfl⟩)
      have hA3 : A < hs.length := by omega
      have hat : atI (hs.map V.int) (A : Int) = some (.int hs[A]) := atI_int hA3
      generalize hs[A] = v at hat
      obtain ⟨m1, c1, b1⟩ := cut_ints hs none (some (A : Int))
      obtain ⟨m2, c2, b2⟩ := cut_ints hs (some (A : Int)) none
      refine ⟨_, rfl, _, rfl, _, rfl, D, _, rfl, hp1.sq, fun s1 n1 => ?_⟩
      rw [c1]
      obtain ⟨e2, h2⟩ := nw n1 (.lst (m1.map V.int))
      refine ⟨_, rfl, _, rfl, D, _, _, .int v, rfl, rfl, (hp1.ex e2).sq, hat, le1, fun s2 n2 => ?_⟩
      obtain ⟨e4, h4⟩ := nw n2 (.lst [.int v])
      refine ⟨s1, s2, _, _, rfl, rfl, e4 _ _ h2, h4, Nat.le_of_lt (sz_small (by rw [List.length_map]; show m1.length + 1 ≤ _; omega)), fun s3 n3 => ?_⟩
      obtain ⟨e5, h5⟩ := nw n3 (.lst (m1.map V.int ++ [.int v]))
      have e25 := (e2.trans e4).trans e5
      refine ⟨_, rfl, _, rfl, _, rfl, D, _, rfl, (hp1.ex e25).sq, fun s4 n4 => ?_⟩
      rw [c2]
      obtain ⟨e6, h6⟩ := nw n4 (.lst (m2.map V.int))
      refine ⟨s3, s4, _, _, rfl, rfl, e6 _ _ h5, h6, Nat.le_of_lt (sz_small (by rw [List.length_append, List.length_map, List.length_map]; show m1.length + 1 + m2.length ≤ _; omega)), fun s5 n5 => ?_⟩
      obtain ⟨e7, h7⟩ := nw n5 (.lst (m1.map V.int ++ [.int v] ++ m2.map V.int))
      have ex := (e1.trans e25).trans e6
      refine q s5 _ (m1 ++ [v] ++ m2) (Evl.fresh_back ex n5) (ex.trans e7) ?_ (by rw [List.length_append, List.length_append, List.length_singleton]; omega)
      show _ = _
      rw [h7, join]
      rfl
    rintro σ2 H2 ⟨rfl, rfl⟩
    refine ⟨_, rfl, rfl, _, rfl, ?_⟩
    refine iteE (fun h => ?_) (fun h => ?_)
    · refine ⟨_, rfl, D, _, rfl, hp1.sq, fun s1 n1 => ?_⟩
      rw [← List.map_reverse]
      obtain ⟨e2, h2⟩ := nw n1 (.lst (hs.reverse.map V.int))
      exact q s1 _ hs.reverse (Evl.fresh_back e1 n1) (e1.trans e2) h2 (by rw [List.length_reverse]; omega)
    · exact ⟨_, rfl, q D _ hs nD e1 hp1 (by omega)⟩
end
/-- refuses what is no row -/
def sp_asked_links (C : Addr) : Sp := fun vs H Q E => ∃ links : Int, vs = [.int links] ∧ (1 ≤ links ∧ links ≤ 1000000000000000000000000000000 → Q .non H) ∧
  (¬ (1 ≤ links ∧ links ≤ 1000000000000000000000000000000) → E (.ref C) none H)
section
variable {P : Program} {w : World} {K : PySem.W.Frag} {mg : Str → Option Value} {base : Heap}
theorem ok_asked_links {f : Addr} {fd : FuncData} (F : Fun K "asked_links" "asked_links" s_asked_links f fd) (T : Bl mg) (X_NoRow : Exo K mg "NoRow") {tMOST_LINKS : Tok} (hMOST_LINKS : mg "MOST_LINKS" = some (.int 1000000000000000000000000000000 tMOST_LINKS)) : FnOk P w K mg base (L2N.CX P w) 1 f fd ["links"] (sp_asked_links X_NoRow.C) := by
  refine Fun.okN F sc_asked_links (fun vs H Q E h => ?_) (fun cdv A outer s H vs Q E hr h => ?_)
  · obtain ⟨links, rfl, _⟩ := h
    rfl
  · obtain ⟨links, rfl, q, e⟩ := h
    have hu := hu_of hr
    refine ⟨_, (pss_one (ps_if (pt_not (pt_chain op_le op_le pe_int (pv 0) (pe_glob (v := .int 1000000000000000000000000000000) rfl hMOST_LINKS ⟨_, rfl⟩)))
      (pss_one (L2N.ps_raise rfl (L2N.takes_of rfl rfl rfl rfl) (X_NoRow.mkN (by rfl)))) pss_nil)), ?_⟩
    refine ⟨_, rfl, _, _, rfl, rfl, _, rfl, ?_⟩
    refine iteD (fun e1 => ?_) (fun e1 => ?_)
    · refine ⟨_, _, rfl, rfl, _, rfl, ?_⟩
      refine iteN (fun e2 => ?_) (fun e2 => ?_)
      · exact q ⟨e1, e2⟩
      · exact e (fun z => e2 z.2)
    · exact ⟨_, rfl, iteT (e (fun z => e1 z.1))⟩
end
/-- refuses what is no row with opened links -/
def sp_asked_row (CR CO : Addr) : Sp := fun vs H Q E => ∃ (links : Int) (p : Addr) (ns : List Int), vs = [.int links, .ref p] ∧ Ints H p ns ∧
  (RowOk links → OpenOk links ns → Q .non H) ∧ (¬ RowOk links → E (.ref CR) none H) ∧ (RowOk links → ¬ OpenOk links ns → E (.ref CO) none H)
section
variable {P : Program} {w : World} {K : PySem.W.Frag} {mg : Str → Option Value} {base : Heap}
theorem ok_asked_row {f : Addr} {fd : FuncData} (F : Fun K "asked_row" "asked_row" s_asked_row f fd) (T : Bl mg) (X_NoRow : Exo K mg "NoRow") (X_NoOpened : Exo K mg "NoOpened") {tMOST_OPENED : Tok} (hMOST_OPENED : mg "MOST_OPENED" = some (.int 100 tMOST_OPENED)) (C_asked_links : CalN P w K mg base 1 "asked_links" ["links"] (sp_asked_links X_NoRow.C)) : FnOk P w K mg base (L2N.CX P w) 2 f fd ["links", "opened"] (sp_asked_row X_NoRow.C X_NoOpened.C) := by
  refine Fun.okN F sc_asked_row (fun vs H Q E h => ?_) (fun cdv A outer s H vs Q E hr h => ?_)
  · obtain ⟨links, p, ns, rfl, _⟩ := h
    rfl
  · obtain ⟨links, p, ns, rfl, hp, q, e1, e2⟩ := h
    have hu := hu_of hr
    refine ⟨_, (pss_cons (ps_expr (pe_call C_asked_links.ok (hr.mono (by decide)) (by rfl) C_asked_links.gl C_asked_links.kp C_asked_links.bd .nil (L2N.passes_call (L2N.takes_of rfl rfl rfl rfl) (fun _ _ _ _ h => h)) (pa_cons (pv 0) pa_nil)))
      (pss_cons (ps_if (pt_cmpR op_gt (pe_callB call_len_seq (by rfl) T.b_len (by decide +kernel) (pa_cons (pv 1) pa_nil)) (pe_glob (v := .int 100) rfl hMOST_OPENED ⟨_, rfl⟩) (nomark _))
      (pss_one (L2N.ps_raise rfl (L2N.takes_of rfl rfl rfl rfl) (X_NoOpened.mkN (by rfl)))) pss_nil)
      (pss_cons (ps_set (i := 2) sc_asked_row.nd rfl (.inl rfl) (pe_un un_neg pe_int))
      (pss_one (ps_for (passes_of rfl) rfl (pi_list (pv 1)) (pg_name (i := 3) sc_asked_row.nd rfl (.inl rfl))
      (pss_cons (ps_if (pt_not (pt_chain op_lt op_lt (pv 2) (pv 3) (pv 0)))
      (pss_one (L2N.ps_raise rfl (L2N.takes_of rfl rfl rfl rfl) (X_NoOpened.mkN (by rfl)))) pss_nil)
      (pss_one (ps_set (i := 2) sc_asked_row.nd rfl (.inl rfl) (pv 3))))))))), ?_⟩
    refine ⟨_, rfl, links, rfl, fun hl => ?_, fun hl => e1 hl⟩
    refine ⟨_, rfl, p, _, rfl, .inl hp.sq, _, _, rfl, rfl, _, rfl, ?_⟩
    rw [List.length_map]
    refine iteD (fun h1 => e2 hl (fun z => ?_)) (fun h1 => ?_)
    · have := z.1
      omega
    · refine ⟨_, rfl, _, rfl, p, rfl, ⟨_, hp.sq⟩, ?_⟩
      refine for_pre (isI ns) (fun pre σ' H' => H' = H ∧ Rising links (-1) pre ∧ ∃ v, σ' = [some (.int links), some (.ref p), some (.int (lastOr (-1) pre)), v]) ⟨rfl, trivial, none, rfl⟩ (fun pre σ' H' ⟨a, _, _⟩ => (hp.ex (ex_refl' a)).sq) ?_ ?_
      · rintro pre y post x σ' H' e rfl ⟨rfl, hr2, v, rfl⟩
        have hall : Rising links (-1) ns ↔ Rising links (-1) pre ∧ lastOr (-1) pre < y ∧ y < links ∧ Rising links y post := by
          rw [e]
          exact rising_snoc
        refine ⟨_, rfl, _, rfl, _, _, rfl, rfl, _, rfl, ?_⟩
        refine iteD (fun h2 => ?_) (fun h2 => ?_)
        · refine ⟨_, rfl, _, _, rfl, rfl, _, rfl, ?_⟩
          refine iteN (fun h3 => ?_) (fun h3 => ?_)
          · refine ⟨_, rfl, rfl, ?_, some (.int y), ?_⟩
            · rw [rising_snoc]
              exact ⟨hr2, h2, h3, trivial⟩
            · rw [lastOr_snoc]
              rfl
          · exact e2 hl fun z => h3 (hall.mp z.2).2.2.1
        · exact ⟨_, rfl, iteT (e2 hl fun z => h2 (hall.mp z.2).2.1)⟩
      · rintro σ' H' ⟨rfl, hr2, v, rfl⟩
        exact q hl ⟨by omega, hr2⟩
end
def sp_asked_few (CR CO CT : Addr) : Sp := fun vs H Q E => ∃ (links : Int) (p : Addr) (ns : List Int), vs = [.int links, .ref p] ∧ Ints H p ns ∧ RowE CR CO links ns H E (Few CT ns H E (Q .non H))
section
variable {P : Program} {w : World} {K : PySem.W.Frag} {mg : Str → Option Value} {base : Heap}
theorem ok_asked_few {f : Addr} {fd : FuncData} (F : Fun K "asked_few" "asked_few" s_asked_few f fd) (T : Bl mg) (X_NoRow : Exo K mg "NoRow") (X_NoOpened : Exo K mg "NoOpened") (X_TooMany : Exo K mg "TooMany") {tMOST_TRIED : Tok} (hMOST_TRIED : mg "MOST_TRIED" = some (.int 8 tMOST_TRIED)) (C_asked_row : CalN P w K mg base 2 "asked_row" ["links", "opened"] (sp_asked_row X_NoRow.C X_NoOpened.C)) : FnOk P w K mg base (L2N.CX P w) 3 f fd ["links", "opened"] (sp_asked_few X_NoRow.C X_NoOpened.C X_TooMany.C) := by
  refine Fun.okN F sc_asked_few (fun vs H Q E h => ?_) (fun cdv A outer s H vs Q E hr h => ?_)
  · obtain ⟨links, p, ns, rfl, _⟩ := h
    rfl
  · obtain ⟨links, p, ns, rfl, hp, q, e1, e2⟩ := h
    have hu := hu_of hr
    refine ⟨_, (pss_cons (ps_expr (pe_call C_asked_row.ok (hr.mono (by decide)) (by rfl) C_asked_row.gl C_asked_row.kp C_asked_row.bd .nil (L2N.passes_call (L2N.takes_of rfl rfl rfl rfl) (fun _ _ _ _ h => h)) (pa_cons (pv 0) (pa_cons (pv 1) pa_nil))))
      (pss_one (ps_if (pt_cmpR op_gt (pe_callB call_len_seq (by rfl) T.b_len (by decide +kernel) (pa_cons (pv 1) pa_nil)) (pe_glob (v := .int 8) rfl hMOST_TRIED ⟨_, rfl⟩) (nomark _))
      (pss_one (L2N.ps_raise rfl (L2N.takes_of rfl rfl rfl rfl) (X_TooMany.mkN (by rfl)))) pss_nil))), ?_⟩
    refine ⟨_, rfl, _, rfl, links, p, ns, rfl, hp, fun h1 h2 => ?_, e1, e2⟩
    obtain ⟨k1, k2⟩ := q h1 h2
    refine ⟨_, rfl, p, _, rfl, .inl hp.sq, _, _, rfl, rfl, _, rfl, ?_⟩
    rw [List.length_map]
    exact iteD (fun h => k2 (by omega)) (fun h => k1 (by omega))
end
def sp_asked_amount (CR CO CT CA : Addr) : Sp := fun vs H Q E => ∃ (links : Int) (p : Addr) (ns : List Int) (amount : Int), vs = [.int links, .ref p, .int amount] ∧ Ints H p ns ∧ RowE CR CO links ns H E (Few CT ns H E (Amt CA links amount H E (Q .non H)))
section
variable {P : Program} {w : World} {K : PySem.W.Frag} {mg : Str → Option Value} {base : Heap}
theorem ok_asked_amount {f : Addr} {fd : FuncData} (F : Fun K "asked_amount" "asked_amount" s_asked_amount f fd) (T : Bl mg) (X_NoRow : Exo K mg "NoRow") (X_NoOpened : Exo K mg "NoOpened") (X_TooMany : Exo K mg "TooMany") (X_NoAmount : Exo K mg "NoAmount") (C_asked_few : CalN P w K mg base 3 "asked_few" ["links", "opened"] (sp_asked_few X_NoRow.C X_NoOpened.C X_TooMany.C)) : FnOk P w K mg base (L2N.CX P w) 4 f fd ["links", "opened", "amount"] (sp_asked_amount X_NoRow.C X_NoOpened.C X_TooMany.C X_NoAmount.C) := by
  refine Fun.okN F sc_asked_amount (fun vs H Q E h => ?_) (fun cdv A outer s H vs Q E hr h => ?_)
  · obtain ⟨links, p, ns, amount, rfl, _⟩ := h
    rfl
  · obtain ⟨links, p, ns, amount, rfl, hp, q, e1, e2⟩ := h
    have hu := hu_of hr
    refine ⟨_, (pss_cons (ps_expr (pe_call C_asked_few.ok (hr.mono (by decide)) (by rfl) C_asked_few.gl C_asked_few.kp C_asked_few.bd .nil (L2N.passes_call (L2N.takes_of rfl rfl rfl rfl) (fun _ _ _ _ h => h)) (pa_cons (pv 0) (pa_cons (pv 1) pa_nil))))
      (pss_one (ps_if (pt_not (pt_chain op_le op_le pe_int (pv 2) (pv 0)))
      (pss_one (L2N.ps_raise rfl (L2N.takes_of rfl rfl rfl rfl) (X_NoAmount.mkN (by rfl)))) pss_nil))), ?_⟩
    refine ⟨_, rfl, _, rfl, links, p, ns, rfl, hp, fun h1 h2 => ⟨fun h3 => ?_, (q h1 h2).2⟩, e1, e2⟩
    obtain ⟨k1, k2⟩ := (q h1 h2).1 h3
    refine ⟨_, rfl, _, _, rfl, rfl, _, rfl, ?_⟩
    refine iteD (fun h4 => ?_) (fun h4 => ?_)
    · refine ⟨_, rfl, _, _, rfl, rfl, _, rfl, ?_⟩
      exact iteN (fun h5 => k1 ⟨h4, h5⟩) (fun h5 => k2 fun z => h5 z.2)
    · exact ⟨_, rfl, iteT (k2 fun z => h4 z.1)⟩
end
def sp_pieces_of : Sp := fun vs H Q _ => ∃ (links : Int) (p : Addr) (ns : List Int), vs = [.int links, .ref p] ∧ Ints H p ns ∧ ns.length ≤ 1000 ∧
  ∀ o H', H o = none → Ex H H' → Prs H' o (pcs links ns) → Q (.ref o) H'
section
variable {P : Program} {w : World} {K : PySem.W.Frag} {mg : Str → Option Value} {base : Heap}
theorem ok_pieces_of {f : Addr} {fd : FuncData} (F : Fun K "pieces_of" "pieces_of" s_pieces_of f fd) (T : Bl mg) : FnOk P w K mg base (L2N.CX P w) 1 f fd ["links", "opened"] (sp_pieces_of ) := by
  refine Fun.okN F sc_pieces_of (fun vs H Q E h => ?_) (fun cdv A outer s H vs Q E hr h => ?_)
  · obtain ⟨links, p, ns, rfl, _⟩ := h
    rfl
  · obtain ⟨links, p, ns, rfl, hp, hn, q⟩ := h
    have hu := hu_of hr
    refine ⟨_, (pss_cons (ps_set (i := 2) sc_pieces_of.nd rfl (.inl rfl) (pe_lst pa_nil))
      (pss_cons (ps_set (i := 3) sc_pieces_of.nd rfl (.inl rfl) pe_int)
      (pss_cons (ps_for (passes_of rfl) rfl (pi_list (pv 1)) (pg_name (i := 4) sc_pieces_of.nd rfl (.inl rfl))
      (Evl.pss_cut (ps_if (pt_cmpR op_gt (pv 4) (pv 3) (nomark _))
      (pss_one (ps_expr (pe_bm PySem.F.plainAttrs_list PySem.F.slot_list_append PySem.F.type_list_append mt_append (pv 2) (pa_cons (pe_tup (pa_cons (pv 3) (pa_cons (pe_op op_sub (pv 4) (pv 3)) pa_nil))) pa_nil)))) pss_nil)
      (pss_cons (ps_expr (pe_bm PySem.F.plainAttrs_list PySem.F.slot_list_append PySem.F.type_list_append mt_append (pv 2) (pa_cons (pe_tup (pa_cons (pv 4) (pa_cons pe_int pa_nil))) pa_nil)))
      (pss_one (ps_set (i := 3) sc_pieces_of.nd rfl (.inl rfl) (pe_op op_add (pv 4) pe_int))))))
      (Evl.pss_cut (ps_if (pt_cmpR op_gt (pv 0) (pv 3) (nomark _))
      (pss_one (ps_expr (pe_bm PySem.F.plainAttrs_list PySem.F.slot_list_append PySem.F.type_list_append mt_append (pv 2) (pa_cons (pe_tup (pa_cons (pv 3) (pa_cons (pe_op op_sub (pv 0) (pv 3)) pa_nil))) pa_nil)))) pss_nil)
      (pss_one (ps_ret (pv 2))))))), ?_⟩
    refine ⟨Nat.zero_le _, fun o no => ?_⟩
    have hpo : p ≠ o := ne_of_none hp no
    refine ⟨_, rfl, p, rfl, ⟨_, (hp.ex (Evl.Ex.new no)).sq⟩, ?_⟩
    refine for_pre (isI ns) (fun pre σ' H' => Ex H H' ∧ Prs H' o (pre.foldl pcStep (0, [])).2 ∧ ∃ v, σ' = [some (.int links), some (.ref p), some (.ref o), some (.int (pre.foldl pcStep (0, [])).1), v]) ?_ (fun pre σ' H' ⟨a, _, _⟩ => (hp.ex a).sq) ?_ ?_
    · exact ⟨Evl.Ex.new no, ⟨[], upd_same, .nil⟩, none, rfl⟩
    · rintro pre y post x σ' H' e rfl ⟨ex, ⟨xs, hx, px⟩, v, rfl⟩
      have hlen : xs.length ≤ 2 * ns.length := by
        have h1 := pcFold_len pre (0, [])
        rw [Paired.len px]
        have h2 : pre.length ≤ ns.length := by
          rw [e]
          simp
        simp at h1
        omega
      have ef : (pre ++ [y]).foldl pcStep (0, []) = pcStep (pre.foldl pcStep (0, [])) y := by rw [List.foldl_append]; rfl
      generalize hs : pre.foldl pcStep (0, []) = s at *
      obtain ⟨b, acc⟩ := s
      refine ⟨fun σ2 H2 => σ2 = [some (.int links), some (.ref p), some (.ref o), some (.int b), some (.int y)] ∧ Ex H H2 ∧ Prs H2 o (acc ++ (if b < y then [(b, y - b)] else [])), ?_, ?_⟩
      · refine ⟨_, rfl, _, rfl, _, _, rfl, rfl, _, rfl, ?_⟩
        refine iteD (fun hb => ?_) (fun hb => ?_)
        · refine ⟨_, rfl, .inl ⟨rfl, _, .inl (.inl hx)⟩, _, rfl, _, rfl, _, rfl, _, _, rfl, rfl, le2, fun t nt => ?_⟩
          obtain ⟨e2, ht⟩ := nw nt (.tup [.int b, .int (y - b)])
          refine ⟨o, xs, _, rfl, rfl, e2 _ _ hx, sz_small (by omega), ?_⟩
          refine ⟨rfl, (ex.trans e2).mut no, ?_⟩
          rw [if_pos hb]
          exact ⟨_, upd_same, Paired.cat (Paired.imp px fun _ _ h => RP.mut (e2 _ _ hx) (RP.ex e2 h)) (.cons (RP.mut (e2 _ _ hx) ⟨t, rfl, ht⟩) .nil)⟩
        · refine ⟨rfl, ex, ?_⟩
          rw [if_neg hb, List.append_nil]
          exact ⟨xs, hx, px⟩
      · rintro σ2 H2 ⟨rfl, e2, xs2, hx2, px2⟩
        refine ⟨_, rfl, .inl ⟨rfl, _, .inl (.inl hx2)⟩, _, rfl, le2, fun t nt => ?_⟩
        obtain ⟨e3, ht⟩ := nw nt (.tup [.int y, .int 1])
        have hl2 : xs2.length ≤ 2 * ns.length + 1 := by
          rw [Paired.len px2, List.length_append, ← Paired.len px]
          split <;> simp <;> omega
        refine ⟨o, xs2, _, rfl, rfl, e3 _ _ hx2, sz_small (by omega), ?_⟩
        refine ⟨_, rfl, _, _, rfl, rfl, ?_⟩
        rw [ef]
        refine ⟨(e2.trans e3).mut no, ⟨_, upd_same, ?_⟩, some (.int y), rfl⟩
        show Paired _ _ (acc ++ ((if b < y then [(b, y - b)] else []) ++ [(y, 1)]))
        rw [← List.append_assoc]
        exact Paired.cat (Paired.imp px2 fun _ _ h => RP.mut (e3 _ _ hx2) (RP.ex e3 h)) (.cons (RP.mut (e3 _ _ hx2) ⟨t, rfl, ht⟩) .nil)
    · rintro σ' H' ⟨ex, ⟨xs, hx, px⟩, v, rfl⟩
      have hlen : xs.length ≤ 2 * ns.length := by
        have h1 := pcFold_len ns (0, [])
        rw [Paired.len px]
        simp at h1
        omega
      have hq : ∀ H2, Ex H H2 → Prs H2 o (pcEnd links (ns.foldl pcStep (0, []))) → Q (.ref o) H2 := fun H2 e2 h2 => q o H2 no e2 h2
      generalize hs : ns.foldl pcStep (0, []) = s at *
      obtain ⟨b, acc⟩ := s
      refine ⟨fun σ2 H2 => σ2 = [some (.int links), some (.ref p), some (.ref o), some (.int b), v] ∧ Ex H H2 ∧ Prs H2 o (pcEnd links (b, acc)), ?_, ?_⟩
      · refine ⟨_, rfl, _, rfl, _, _, rfl, rfl, _, rfl, ?_⟩
        refine iteD (fun hb => ?_) (fun hb => ?_)
        · refine ⟨_, rfl, .inl ⟨rfl, _, .inl (.inl hx)⟩, _, rfl, _, rfl, _, rfl, _, _, rfl, rfl, le2, fun t nt => ?_⟩
          obtain ⟨e2, ht⟩ := nw nt (.tup [.int b, .int (links - b)])
          refine ⟨o, xs, _, rfl, rfl, e2 _ _ hx, sz_small (by omega), ?_⟩
          refine ⟨rfl, (ex.trans e2).mut no, ?_⟩
          unfold pcEnd
          rw [if_pos hb]
          exact ⟨_, upd_same, Paired.cat (Paired.imp px fun _ _ h => RP.mut (e2 _ _ hx) (RP.ex e2 h)) (.cons (RP.mut (e2 _ _ hx) ⟨t, rfl, ht⟩) .nil)⟩
        · refine ⟨rfl, ex, ?_⟩
          unfold pcEnd
          rw [if_neg hb, List.append_nil]
          exact ⟨xs, hx, px⟩
      · rintro σ2 H2 ⟨rfl, e2, h2⟩
        exact ⟨_, rfl, hq H2 e2 h2⟩
end
def sp_sorts : Sp := fun vs H Q _ => ∃ (links : Int) (p : Addr) (ns : List Int), vs = [.int links, .ref p] ∧ Ints H p ns ∧ ns.length ≤ 1000 ∧
  ∀ t e o1 o2 H', H t = none → H e = none → H o1 = none → H o2 = none → Ex H H' → H' t = some (.tup [.ref e, .ref o1, .ref o2]) → Prs H' e (pcs links ns) →
    Ints H' o1 (onesI (pcs links ns) ns (pcs links ns).length) → Ints H' o2 (othersI (pcs links ns) ns (pcs links ns).length) → Q (.ref t) H'
section
variable {P : Program} {w : World} {K : PySem.W.Frag} {mg : Str → Option Value} {base : Heap}
theorem ok_sorts {f : Addr} {fd : FuncData} (F : Fun K "sorts" "sorts" s_sorts f fd) (T : Bl mg) (C_pieces_of : CalN P w K mg base 1 "pieces_of" ["links", "opened"] (sp_pieces_of )) : FnOk P w K mg base (L2N.CX P w) 2 f fd ["links", "opened"] (sp_sorts ) := by
  refine Fun.okN F sc_sorts (fun vs H Q E h => ?_) (fun cdv A outer s H vs Q E hr h => ?_)
  · obtain ⟨links, p, ns, rfl, _⟩ := h
    rfl
  · obtain ⟨links, p, ns, rfl, hp, hn, q⟩ := h
    have hu := hu_of hr
    refine ⟨_, (pss_cons (ps_set (i := 2) sc_sorts.nd rfl (.inl rfl) (pe_call C_pieces_of.ok (hr.mono (by decide)) (by rfl) C_pieces_of.gl C_pieces_of.kp C_pieces_of.bd .nil (L2N.passes_call (L2N.takes_of rfl rfl rfl rfl) (fun _ _ _ _ h => h)) (pa_cons (pv 0) (pa_cons (pv 1) pa_nil))))
      (pss_cons (ps_set (i := 3) sc_sorts.nd rfl (.inl rfl) (pe_lst pa_nil))
      (pss_cons (ps_set (i := 4) sc_sorts.nd rfl (.inl rfl) (pe_lst pa_nil))
      (pss_cons (ps_for (passes_of rfl) rfl (pi_enum (by rfl) T.b_enumerate (pa_cons (pv 2) pa_nil)) (pg_tup rfl (pgs_cons (pg_name (i := 5) sc_sorts.nd rfl (.inl rfl)) (pgs_cons (pg_name (i := 6) sc_sorts.nd rfl (.inl rfl)) pgs_nil)))
      (pss_one (ps_if (pt_cmpR op_in_seq (pe_ix ix_tup (pv 6) pe_int (fun _ _ => rfl)) (pv 1) (by rfl))
      (pss_one (ps_expr (pe_bm PySem.F.plainAttrs_list PySem.F.slot_list_append PySem.F.type_list_append mt_append (pv 3) (pa_cons (pv 5) pa_nil)))) (pss_one (ps_expr (pe_bm PySem.F.plainAttrs_list PySem.F.slot_list_append PySem.F.type_list_append mt_append (pv 4) (pa_cons (pv 5) pa_nil)))))))
      (pss_one (ps_ret (pe_tup (pa_cons (pv 2) (pa_cons (pv 3) (pa_cons (pv 4) pa_nil)))))))))), ?_⟩
    refine ⟨_, rfl, _, rfl, links, p, ns, rfl, hp, hn, fun e H1 ne e1 he => ?_⟩
    have hxl := pcs_len links ns
    refine ⟨Nat.zero_le _, fun o1 no1 => ?_⟩
    obtain ⟨e2, h2⟩ := nw no1 (.lst [])
    refine ⟨Nat.zero_le _, fun o2 no2 => ?_⟩
    obtain ⟨e3, h3⟩ := nw no2 (.lst [])
    have n1 : H o1 = none := Evl.fresh_back e1 no1
    have n2 : H o2 = none := Evl.fresh_back (e1.trans e2) no2
    have h12 : o1 ≠ o2 := ne_of_none h2 no2
    obtain ⟨xs, hx, px⟩ := he.ex (e2.trans e3)
    have hlx := Paired.len px
    have o1e : e ≠ o1 := by
      obtain ⟨ys, hy, _⟩ := he
      exact ne_of_none hy no1
    have o2e : e ≠ o2 := by
      obtain ⟨ys, hy, _⟩ := he.ex e2
      exact ne_of_none hy no2
    refine ⟨_, rfl, e, xs, rfl, .inl (.inl hx), ?_⟩
    refine for_enum (fun i σ' H' => Ex H H' ∧ (H' e = some (.lst xs) ∧ Paired (RP H') xs (pcs links ns)) ∧ Ints H' o1 (onesI (pcs links ns) ns i) ∧ Ints H' o2 (othersI (pcs links ns) ns i) ∧ ∃ v5 v6, σ' = [some (.int links), some (.ref p), some (.ref e), some (.ref o1), some (.ref o2), v5, v6]) ?_ (fun i σ' H' ⟨_, ⟨a, _⟩, _⟩ => .inl (.inl a)) ?_ ?_
    · exact ⟨(e1.trans e2).trans e3, ⟨hx, px⟩, e3 _ _ h2, h3, none, none, rfl⟩
    · rintro i x t σ' H' hi ⟨ex, ⟨hxe, pxe⟩, ho1, ho2, v5, v6, rfl⟩ nt
      obtain ⟨e4, ht⟩ := nw nt (.tup [.int (i : Nat), x])
      obtain ⟨pr, hpr, pa, rfl, hpa⟩ := Paired.at pxe hi
      have hil := (List.getElem?_eq_some_iff.mp hpr).1
      have hone : isOne (pcs links ns) ns i = decide (pr.1 ∈ ns) := by
        unfold isOne
        rw [List.getD_eq_getElem?_getD, hpr]
        rfl
      have l1 : (onesI (pcs links ns) ns i).length ≤ i := by
        unfold onesI
        rw [List.length_map]
        have := List.length_filter_le (isOne (pcs links ns) ns) (List.range i)
        rwa [List.length_range] at this
      have l2 : (othersI (pcs links ns) ns i).length ≤ i := by
        unfold othersI
        rw [List.length_map]
        have := List.length_filter_le (fun i => !isOne (pcs links ns) ns i) (List.range i)
        rwa [List.length_range] at this
      refine ⟨t, _, rfl, .inl (.inl ht), rfl, _, _, rfl, _, _, rfl, rfl, ?_⟩
      have hp4 := hp.ex (ex.trans e4)
      have ho14 := ho1.ex e4
      have ho24 := ho2.ex e4
      refine ⟨_, rfl, pa, _, 0, _, rfl, rfl, .inl (.inl (e4 _ _ hpa)), rfl, _, rfl, p, _, rfl, .inl hp4.sq, rfl, flatInts _, decide (pr.1 ∈ ns), congrArg V.bl (by rw [← inV_int]; rfl), ?_⟩
      refine iteD (fun h => ?_) (fun h => ?_)
      · refine ⟨_, rfl, .inl ⟨rfl, _, ho14.sq⟩, _, rfl, o1, _, _, rfl, rfl, ho14, sz_small (by rw [List.length_map]; omega), ?_⟩
        refine ⟨(ex.trans e4).mut n1, ⟨(upd_ne o1e).trans (e4 _ _ hxe), Paired.imp pxe fun _ _ h => RP.mut ho14 (RP.ex e4 h)⟩, ?_, ?_, _, _, rfl⟩
        · rw [onesI_succ, hone, if_pos (decide_eq_true h)]
          show upd _ _ _ _ = _
          rw [upd_same, List.map_append]
          rfl
        · rw [othersI_succ, hone, if_pos (decide_eq_true h)]
          exact (upd_ne h12.symm).trans ho24
      · refine ⟨_, rfl, .inl ⟨rfl, _, ho24.sq⟩, _, rfl, o2, _, _, rfl, rfl, ho24, sz_small (by rw [List.length_map]; omega), ?_⟩
        refine ⟨(ex.trans e4).mut n2, ⟨(upd_ne o2e).trans (e4 _ _ hxe), Paired.imp pxe fun _ _ h => RP.mut ho24 (RP.ex e4 h)⟩, ?_, ?_, _, _, rfl⟩
        · rw [onesI_succ, hone, if_neg (by rw [decide_eq_false h]; exact Bool.false_ne_true)]
          exact (upd_ne h12).trans ho14
        · rw [othersI_succ, hone, if_neg (by rw [decide_eq_false h]; exact Bool.false_ne_true)]
          show upd _ _ _ _ = _
          rw [upd_same, List.map_append]
          rfl
    · rintro σ' H' ⟨ex, ⟨hxe, pxe⟩, ho1, ho2, v5, v6, rfl⟩
      rw [hlx] at ho1 ho2
      refine ⟨_, rfl, _, rfl, _, rfl, le3, fun t nt => ?_⟩
      obtain ⟨e4, ht⟩ := nw nt (.tup [.ref e, .ref o1, .ref o2])
      exact q t e o1 o2 _ (Evl.fresh_back ex nt) ne n1 n2 (ex.trans e4) ht (Prs.ex ⟨xs, hxe, pxe⟩ e4) (ho1.ex e4) (ho2.ex e4)
end
def sp_fitting : Sp := fun vs H Q _ => ∃ (e o1 o2 : Addr) (amount : Int) (ps : List (Int × Int)) (ones others : List Int), vs = [.ref e, .ref o1, .ref o2, .int amount] ∧ Prs H e ps ∧ Ints H o1 ones ∧ Ints H o2 others ∧
  (∀ n ∈ others, 0 ≤ n ∧ n < (ps.length : Int)) ∧ others.length ≤ 17 ∧
  ∀ r H' xs, H r = none → Ex H H' → H' r = some (.lst xs) → Paired (RC H') xs (fit (ps.map (·.2)) ones.length amount others) → Q (.ref r) H'
section
variable {P : Program} {w : World} {K : PySem.W.Frag} {mg : Str → Option Value} {base : Heap}
theorem ok_fitting {f : Addr} {fd : FuncData} (F : Fun K "fitting" "fitting" s_fitting f fd) (T : Bl mg) : FnOk P w K mg base (L2N.CX P w) 1 f fd ["every", "ones", "others", "amount"] (sp_fitting ) := by
  refine Fun.okN F sc_fitting (fun vs H Q E h => ?_) (fun cdv A outer s H vs Q E hr h => ?_)
  · obtain ⟨e, o1, o2, amount, ps, ones, others, rfl, _⟩ := h
    rfl
  · obtain ⟨e, o1, o2, amount, ps, ones, others, rfl, he, ho1, ho2, hot, hol, q⟩ := h
    have hu := hu_of hr
    refine ⟨_, (pss_cons (ps_set (i := 4) sc_fitting.nd rfl (.inl rfl) (pe_lst (pa_cons (pe_tup (pa_cons (pe_lst pa_nil) (pa_cons (pv 3) pa_nil))) pa_nil)))
      (pss_cons (ps_for (passes_of rfl) rfl (pi_list (pv 2)) (pg_name (i := 5) sc_fitting.nd rfl (.inr rfl))
      (pss_cons (ps_setLc (i := 6) (own := [("some", 7), ("left", 8)]) rfl sc_fitting.nd rfl rfl (sw_true rfl rfl rfl (by decide +kernel)) (pi_list (pv 4)) (blkOk_by (N := ["every", "ones", "others", "amount", "choices", "number", "more", "some", "left", "choice"]) (sc := defScope s_fitting) (by decide +kernel)) (fun _ _ _ _ _ => (pg_tupK (n := 2) K rfl rfl (pgs_cons (pg_name (i := 7) sc_fitting.nd rfl (.inl rfl)) (pgs_cons (pg_name (i := 8) sc_fitting.nd rfl (.inl rfl)) pgs_nil)))) (fun _ _ _ _ _ => pts_nil) (fun _ _ _ _ _ => (pe_tup (pa_cons (pe_op op_cat (pv 7) (pe_lst (pa_cons (pv 5) pa_nil))) (pa_cons (pe_op op_sub (pv 8) (pe_ix (ix_tupK K rfl) (pe_ix (ix_listK K rfl) (pv 0) (pv 5) (fun _ _ => rfl)) pe_int (fun _ _ => rfl))) pa_nil)))))
      (pss_one (ps_set (i := 4) sc_fitting.nd rfl (.inl rfl) (pe_op op_cat (pv 4) (pe_lc (own := [("choice", 9)]) rfl sc_fitting.nd (pi_list (pv 6)) (blkOk_by (N := ["every", "ones", "others", "amount", "choices", "number", "more", "some", "left", "choice"]) (sc := defScope s_fitting) (by decide +kernel)) (fun _ _ _ _ _ => (pg_name (i := 9) sc_fitting.nd rfl (.inl rfl))) (fun _ _ _ _ _ => (pts_one (pt_cmpR op_ge (pe_ix (ix_tupK K rfl) (pv 9) pe_int (fun _ _ => rfl)) pe_int (nomark _)))) (fun _ _ _ _ _ => (pv 9))))))))
      (pss_one (ps_ret (pe_lc (own := [("choice", 9)]) rfl sc_fitting.nd (pi_list (pv 4)) (blkOk_by (N := ["every", "ones", "others", "amount", "choices", "number", "more", "some", "left", "choice"]) (sc := defScope s_fitting) (by decide +kernel)) (fun _ _ _ _ _ => (pg_name (i := 9) sc_fitting.nd rfl (.inl rfl))) (fun _ _ _ _ _ => (pts_one (pt_cmpR op_le (pe_ix (ix_tupK K rfl) (pv 9) pe_int (fun _ _ => rfl)) (pe_callB (call_len_seqK K rfl) (by rfl) T.b_len (by decide +kernel) (pa_cons (pv 1) pa_nil)) (nomark _)))) (fun _ _ _ _ _ => (pv 9))))))), ?_⟩
    obtain ⟨ys, hy, py⟩ := he
    refine ⟨Nat.zero_le _, fun b nb => ?_⟩
    obtain ⟨e1, hb⟩ := nw nb (.lst [])
    refine ⟨_, rfl, le2, fun t nt => ?_⟩
    obtain ⟨e2, ht⟩ := nw nt (.tup [.ref b, .int amount])
    refine ⟨le1, fun c nc => ?_⟩
    obtain ⟨e3, hc⟩ := nw nc (.lst [.ref t])
    have e13 := (e1.trans e2).trans e3
    refine ⟨_, rfl, o2, rfl, ⟨_, (ho2.ex e13).sq⟩, ?_⟩
    refine for_pre (isI others) (fun pre σ' H' => Ex H H' ∧ ∃ cc xs v5 v6 v7 v8 v9, σ' = [some (.ref e), some (.ref o1), some (.ref o2), some (.int amount), some (.ref cc), v5, v6, v7, v8, v9] ∧ H' cc = some (.lst xs) ∧ Paired (RC H') xs (fitAll (ps.map (·.2)) amount pre)) ?_ (fun pre σ' H' ⟨a, _⟩ => (ho2.ex a).sq) ?_ ?_
    · exact ⟨e13, c, _, none, none, none, none, none, rfl, hc, .cons ⟨t, b, rfl, e3 _ _ ht, e3 _ _ (e2 _ _ hb)⟩ .nil⟩
    · rintro pre n post x σ' H' eo rfl ⟨ex, cc, xs, v5, v6, v7, v8, v9, rfl, hcc, pxs⟩
      have hn := hot n (by rw [eo]; simp)
      obtain ⟨k, rfl⟩ : ∃ k : Nat, n = (k : Int) := ⟨n.toNat, by omega⟩
      have hk : k < ps.length := by omega
      have hpl : pre.length ≤ 16 := by
        have := congrArg List.length eo
        rw [List.length_append, List.length_cons] at this
        omega
      have hxl : xs.length ≤ 65536 := by
        rw [Paired.len pxs]
        exact Nat.le_trans (fitAll_len _ _ _) (Nat.pow_le_pow_right (by decide) hpl)
      obtain ⟨pv0, hpv, pa, rfl, hpa⟩ : ∃ v, ys[k]? = some v ∧ ∃ a, v = .ref a ∧ H a = some (.tup [.int ps[k].1, .int ps[k].2]) := by
        have hky : k < ys.length := by rw [Paired.len py]; exact hk
        obtain ⟨y, hy1, hy2⟩ := Paired.at py (List.getElem?_eq_getElem hky)
        rw [List.getElem?_eq_getElem hk] at hy1
        cases hy1
        exact ⟨_, List.getElem?_eq_getElem hky, hy2⟩
      have hsz : szAt (ps.map (·.2)) (k : Int) = ps[k].2 := by
        unfold szAt
        rw [Int.toNat_natCast, List.getD_eq_getElem?_getD, List.getElem?_map, List.getElem?_eq_getElem hk]
        rfl
      have cslen : ∀ c ∈ fitAll (ps.map (·.2)) amount pre, c.1.length ≤ 16 := fun c hc => by
        refine Nat.le_trans ?_ hpl
        have gen : ∀ l : List Int, ∀ c ∈ fitAll (ps.map (·.2)) amount l, c.1.length ≤ l.length := by
          refine snoc_ind (fun c hc => ?_) fun l x ih c hc => ?_
          · rw [List.mem_singleton.mp hc]
            exact Nat.le_refl _
          · unfold fitAll at hc ih
            rw [List.foldl_append] at hc
            rw [List.length_append, List.length_singleton]
            rcases List.mem_append.mp hc with h | h
            · exact Nat.le_succ_of_le (ih c h)
            · obtain ⟨d, hd, rfl⟩ := List.mem_map.mp (List.mem_filter.mp h).1
              have := ih d hd
              show (d.1 ++ [x]).length ≤ _
              rw [List.length_append, List.length_singleton]
              omega
        exact gen pre c hc
      -- the choices with one more
      refine ⟨_, rfl, cc, rfl, ⟨xs, .inl (.inl hcc)⟩, fun D1 nD1 => lc_pre (R' := RC) nD1 pxs (.inl (.inl hcc)) (sz_small (by omega)) (fun H1 H2 v c e h => RC.ex e h) (fun _ => true) (fun c => (c.1 ++ [(k : Int)], c.2 - szAt (ps.map (·.2)) (k : Int))) ?_ ?_⟩
      · rintro c x H1 acc hc ⟨t1, l1, rfl, ht1, hl1⟩ e4 hD Y Z hY hZ
        have e5 : Ex H' H1 := e4.trans (del_le _ _)
        have hl := cslen c hc
        refine ⟨t1, _, rfl, .inl (.inl (e5 _ _ ht1)), rfl, _, _, rfl, _, _, rfl, rfl, rfl, ?_⟩
        refine ⟨_, rfl, _, rfl, le1, fun u nu => ?_⟩
        obtain ⟨e6, hu6⟩ := nw nu (.lst [.int (k : Int)])
        refine ⟨l1, u, _, _, rfl, rfl, e6 _ _ (e5 _ _ hl1), hu6, ?_, fun z nz => ?_⟩
        · rw [List.length_map]
          exact Nat.le_of_lt (sz_small (by show c.1.length + 1 ≤ _; omega))
        obtain ⟨e7, hz7⟩ := nw nz (.lst (c.1.map V.int ++ [.int (k : Int)]))
        have e57 := ((ex.trans e5).trans e6).trans e7
        refine ⟨_, rfl, _, rfl, _, rfl, e, _, _, .ref pa, rfl, rfl, .inl (.inl (e57 _ _ hy)), atI_nat hpv, pa, _, 1, _, rfl, rfl, .inl (.inl (e57 _ _ hpa)), rfl, _, _, rfl, rfl, le2, fun t2 nt2 => ?_⟩
        obtain ⟨e8, ht8⟩ := nw nt2 (.tup [.ref z, .int (c.2 - ps[k].2)])
        refine hY rfl _ _ ((e6.trans e7).trans e8) ⟨t2, z, rfl, ?_, ?_⟩
        · rw [del_ne (Ne.symm (ne_of_none (e7 _ _ (e6 _ _ hD)) nt2)), hsz]
          exact ht8
        · show del _ _ _ = _
          rw [del_ne (Ne.symm (ne_of_none (e6 _ _ hD) nz)), List.map_append]
          exact e8 _ _ hz7
      · intro H2 acc hD1 e4 pacc
        rw [List.filter_eq_self.mpr (fun _ _ => rfl)] at pacc
        have pacc2 : Paired (RC H2) acc (chMore (ps.map (·.2)) (fitAll (ps.map (·.2)) amount pre) (k : Int)) := Paired.imp pacc fun _ _ => RC.ex (del_le _ _)
        have e5 : Ex H' H2 := e4.trans (del_le _ _)
        have hal : acc.length ≤ 65536 := by
          rw [Paired.len pacc, List.length_map, ← Paired.len pxs]
          exact hxl
        -- choices + those that fit
        refine ⟨_, rfl, _, rfl, D1, rfl, ⟨acc, .inl (.inl hD1)⟩, fun D2 nD2 => lc_pre (R' := RC) nD2 pacc2 (.inl (.inl hD1)) (sz_small (by omega)) (fun H1 H2 v c e h => RC.ex e h) (fun c => decide (0 ≤ c.2)) (fun c => c) ?_ ?_⟩
        · rintro c x H3 acc3 hc ⟨t1, l1, rfl, ht1, hl1⟩ e6 hD Y Z hY hZ
          have e7 : Ex H2 H3 := e6.trans (del_le _ _)
          refine ⟨rfl, _, rfl, t1, _, 1, _, rfl, rfl, .inl (.inl (e7 _ _ ht1)), rfl, _, _, rfl, rfl, _, rfl, ?_⟩
          refine iteD (fun h => ?_) (fun h => hZ (decide_eq_false h) _ (Evl.Ex.refl _))
          exact ⟨_, rfl, hY (decide_eq_true h) _ _ (Evl.Ex.refl _) (RC.ex e6 ⟨t1, l1, rfl, ht1, hl1⟩)⟩
        · intro H3 acc3 hD2 e6 pacc3
          have e7 : Ex H2 H3 := e6.trans (del_le _ _)
          refine ⟨cc, D2, _, _, rfl, rfl, e7 _ _ (e5 _ _ hcc), hD2, ?_, fun w nw2 => ?_⟩
          · have : acc3.length ≤ 65536 := by
              rw [Paired.len pacc3, List.length_map]
              refine Nat.le_trans (List.length_filter_le _ _) ?_
              rw [← Paired.len pacc2]
              exact hal
            exact Nat.le_of_lt (sz_big (by omega))
          obtain ⟨e8, hw8⟩ := nw nw2 (.lst (xs ++ acc3))
          refine ⟨((ex.trans e5).trans e7).trans e8, w, _, _, _, _, _, _, rfl, hw8, ?_⟩
          have ef : fitAll (ps.map (·.2)) amount (pre ++ [(k : Int)]) = fitAll (ps.map (·.2)) amount pre ++ (chMore (ps.map (·.2)) (fitAll (ps.map (·.2)) amount pre) (k : Int)).filter fun c => decide (0 ≤ c.2) := by
            unfold fitAll
            rw [List.foldl_append]
            rfl
          rw [ef]
          rw [List.map_id'] at pacc3
          exact Paired.cat (Paired.imp pxs fun _ _ => RC.ex ((e5.trans e7).trans e8)) (Paired.imp pacc3 fun _ _ => RC.ex ((del_le _ _).trans e8))
    · rintro σ' H' ⟨ex, cc, xs, v5, v6, v7, v8, v9, rfl, hcc, pxs⟩
      have hxl : xs.length ≤ 131072 := by
        rw [Paired.len pxs]
        exact Nat.le_trans (fitAll_len _ _ _) (Nat.pow_le_pow_right (by decide) hol)
      refine ⟨_, rfl, cc, rfl, ⟨xs, .inl (.inl hcc)⟩, fun D nD => lc_pre (R' := RC) nD pxs (.inl (.inl hcc)) (sz_big (by omega)) (fun H1 H2 v c e h => RC.ex e h) (fun c => decide (c.2 ≤ (ones.length : Int))) (fun c => c) ?_ ?_⟩
      · rintro c x H3 acc3 hc ⟨t1, l1, rfl, ht1, hl1⟩ e6 hD Y Z hY hZ
        have e7 : Ex H' H3 := e6.trans (del_le _ _)
        refine ⟨rfl, _, rfl, t1, _, 1, _, rfl, rfl, .inl (.inl (e7 _ _ ht1)), rfl, _, rfl, o1, _, rfl, .inl (ho1.ex (ex.trans e7)).sq, _, _, rfl, rfl, _, rfl, ?_⟩
        rw [List.length_map]
        refine iteD (fun h => ?_) (fun h => hZ (decide_eq_false h) _ (Evl.Ex.refl _))
        exact ⟨_, rfl, hY (decide_eq_true h) _ _ (Evl.Ex.refl _) (RC.ex e6 ⟨t1, l1, rfl, ht1, hl1⟩)⟩
      · intro H2 acc hD e4 pacc
        rw [List.map_id'] at pacc
        exact q D H2 acc (Evl.fresh_back ex nD) (ex.trans (e4.trans (del_le _ _))) hD (Paired.imp pacc fun _ _ => RC.ex (del_le _ _))
end
def sp_payment_of : Sp := fun vs H Q _ => ∃ (links : Int) (p : Addr) (ns : List Int) (amount : Int), vs = [.int links, .ref p, .int amount] ∧ Ints H p ns ∧ Rising links (-1) ns ∧ 1 ≤ links ∧ ns.length ≤ 8 ∧ 0 ≤ amount ∧ PayRes links ns amount H Q
section
variable {P : Program} {w : World} {K : PySem.W.Frag} {mg : Str → Option Value} {base : Heap}
theorem ok_payment_of {f : Addr} {fd : FuncData} (F : Fun K "payment_of" "payment_of" s_payment_of f fd) (T : Bl mg) (C_sorts : CalN P w K mg base 2 "sorts" ["links", "opened"] (sp_sorts )) (C_fitting : CalN P w K mg base 1 "fitting" ["every", "ones", "others", "amount"] (sp_fitting )) : FnOk P w K mg base (L2N.CX P w) 3 f fd ["links", "opened", "amount"] (sp_payment_of ) := by
  refine Fun.okN F sc_payment_of (fun vs H Q E h => ?_) (fun cdv A outer s H vs Q E hr h => ?_)
  · obtain ⟨links, p, ns, amount, rfl, _⟩ := h
    rfl
  · obtain ⟨links, p, ns, amount, rfl, hp, hri, hl1, hn, ha, q1, q2⟩ := h
    have hu := hu_of hr
    refine ⟨_, (pss_cons (ps_asg (pe_call C_sorts.ok (hr.mono (by decide)) (by rfl) C_sorts.gl C_sorts.kp C_sorts.bd .nil (L2N.passes_call (L2N.takes_of rfl rfl rfl rfl) (fun _ _ _ _ h => h)) (pa_cons (pv 0) (pa_cons (pv 1) pa_nil))) (pg_tup rfl (pgs_cons (pg_name (i := 3) sc_payment_of.nd rfl (.inl rfl)) (pgs_cons (pg_name (i := 4) sc_payment_of.nd rfl (.inl rfl)) (pgs_cons (pg_name (i := 5) sc_payment_of.nd rfl (.inl rfl)) pgs_nil)))))
      (pss_cons (ps_set (i := 6) sc_payment_of.nd rfl (.inl rfl) (pe_call C_fitting.ok (hr.mono (by decide)) (by rfl) C_fitting.gl C_fitting.kp C_fitting.bd .nil (L2N.passes_call (L2N.takes_of rfl rfl rfl rfl) (fun _ _ _ _ h => h)) (pa_cons (pv 3) (pa_cons (pv 4) (pa_cons (pv 5) (pa_cons (pv 2) pa_nil))))))
      (pss_cons (ps_if (pt_cmpR op_eq (pe_callB call_len_seq (by rfl) T.b_len (by decide +kernel) (pa_cons (pv 6) pa_nil)) pe_int (nomark _))
      (pss_one (ps_ret pe_non)) pss_nil)
      (pss_one (ps_ret (pe_callB cr_sortedI (by rfl) T.b_sorted (by decide +kernel) (pa_cons (pe_op op_cat (pe_ix ix_tup (pe_ix ix_list (pv 6) pe_int (fun _ _ => rfl)) pe_int (fun _ _ => rfl)) (pe_slice sl_list (pv 4) po_none (po_some (pe_ix ix_tup (pe_ix ix_list (pv 6) pe_int (fun _ _ => rfl)) pe_int (fun _ _ => rfl))))) pa_nil))))))), ?_⟩
    refine ⟨_, rfl, _, rfl, links, p, ns, rfl, hp, by omega, fun t e o1 o2 H1 nt ne n1 n2 e1 ht he h1 h2 => ?_⟩
    refine ⟨t, _, rfl, .inl (.inl ht), rfl, _, _, rfl, _, _, rfl, _, _, rfl, rfl, ?_⟩
    have hoth := others_ok links ns
    have hol := others_len (links := links) hn
    have hszs : (pcs links ns).map (·.2) = szs links ns := rfl
    have hlen : (pcs links ns).length = (szs links ns).length := by rw [← hszs, List.length_map]
    refine ⟨_, rfl, _, rfl, _, rfl, _, rfl, e, o1, o2, amount, _, _, _, rfl, he, h1, h2, hoth, hol, fun r H2 xs nr e2 hr2 px => ?_⟩
    rw [hszs] at px
    have hnil : fit (szs links ns) (onesI (pcs links ns) ns (pcs links ns).length).length amount (othersI (pcs links ns) ns (pcs links ns).length) = [] ↔ sumsF (szs links ns) amount = 0 := fit_nil ha (others_sz hri hl1) (szs_part hri)
    refine ⟨_, rfl, r, _, rfl, .inl (.inl (.inl hr2)), rfl, _, rfl, ?_⟩
    refine iteE (fun h => ?_) (fun h => ?_)
    · have hx : xs = [] := List.eq_nil_of_length_eq_zero (by omega)
      have hl := Paired.len px
      rw [hx] at hl
      exact q1 (hnil.mp (List.eq_nil_of_length_eq_zero hl.symm)) H2 (e1.trans e2)
    · obtain ⟨x0, xr, hx⟩ : ∃ x0 xr, xs = x0 :: xr := by
        cases xs with
        | nil => exact absurd rfl h
        | cons a b => exact ⟨a, b, rfl⟩
      obtain ⟨c, hc, t1, l1, rfl, ht1, hl1'⟩ := Paired.at (i := 0) px (by rw [hx]; rfl)
      have hcm := List.mem_of_getElem? hc
      have hin := fit_in ha c hcm
      have hat : atI xs 0 = some (.ref t1) := by rw [hx]; exact atI_nat (j := 0) rfl
      have hne : sumsF (szs links ns) amount ≠ 0 := fun z => by
        have := hnil.mpr z
        rw [this] at hcm
        cases hcm
      have hcl : c.1.length ≤ 17 := Nat.le_trans hin.1.length_le hol
      have hon : (onesI (pcs links ns) ns (pcs links ns).length).length ≤ 17 := by
        unfold onesI
        rw [List.length_map]
        have h2 := List.length_filter_le (isOne (pcs links ns) ns) (List.range (pcs links ns).length)
        rw [List.length_range] at h2
        have := pcs_len links ns
        omega
      obtain ⟨k, hk⟩ : ∃ k : Nat, c.2 = (k : Int) := ⟨c.2.toNat, by omega⟩
      have hkk : c.2.toNat = k := by omega
      have hgood := fun (sr : List Int) => pay_good hri ha hcm (r := sr)
      rw [hkk] at hgood
      rw [hk] at ht1
      generalize onesI (pcs links ns) ns (pcs links ns).length = ones at *
      refine ⟨_, rfl, r, _, 0, _, rfl, rfl, .inl (.inl hr2), hat, t1, _, 0, _, rfl, rfl, .inl (.inl ht1), rfl, ?_⟩
      refine ⟨_, rfl, _, rfl, r, _, 0, _, rfl, rfl, .inl (.inl hr2), hat, t1, _, 1, _, rfl, rfl, .inl (.inl ht1), rfl, _, rfl, o1, _, rfl, (h1.ex e2).sq, fun l nl => ?_⟩
      rw [cut_take, ← List.map_take]
      obtain ⟨e3, hl3⟩ := nw nl (.lst ((ones.take k).map V.int))
      refine ⟨l1, l, _, _, rfl, rfl, e3 _ _ hl1', hl3, ?_, fun z nz => ?_⟩
      · rw [List.length_map, List.length_map, List.length_take]
        exact Nat.le_of_lt (sz_small (by omega))
      rw [← List.map_append]
      obtain ⟨e4, hz⟩ := nw nz (.lst ((c.1 ++ ones.take k).map V.int))
      refine ⟨z, _, rfl, Ints.sq hz, fun sr p2 perm up np2 => ?_⟩
      obtain ⟨e5, hp2⟩ := nw np2 (.lst (sr.map V.int))
      have ex := ((e1.trans e2).trans e3).trans e4
      exact q2 hne p2 _ sr (Evl.fresh_back ex np2) (ex.trans e5) hp2 (hgood sr perm up)
end
def sp_payment (CR CO CT CA : Addr) : Sp := fun vs H Q E => ∃ (links : Int) (p : Addr) (ns : List Int) (amount : Int), vs = [.int links, .ref p, .int amount] ∧ Ints H p ns ∧ RowE CR CO links ns H E (Few CT ns H E (Amt CA links amount H E (PayRes links ns amount H Q)))
section
variable {P : Program} {w : World} {K : PySem.W.Frag} {mg : Str → Option Value} {base : Heap}
theorem ok_payment {f : Addr} {fd : FuncData} (F : Fun K "payment" "payment" s_payment f fd) (T : Bl mg) (X_NoRow : Exo K mg "NoRow") (X_NoOpened : Exo K mg "NoOpened") (X_TooMany : Exo K mg "TooMany") (X_NoAmount : Exo K mg "NoAmount") (C_asked_amount : CalN P w K mg base 4 "asked_amount" ["links", "opened", "amount"] (sp_asked_amount X_NoRow.C X_NoOpened.C X_TooMany.C X_NoAmount.C)) (C_payment_of : CalN P w K mg base 3 "payment_of" ["links", "opened", "amount"] (sp_payment_of )) : FnOk P w K mg base (L2N.CX P w) 5 f fd ["links", "opened", "amount"] (sp_payment X_NoRow.C X_NoOpened.C X_TooMany.C X_NoAmount.C) := by
  refine Fun.okN F sc_payment (fun vs H Q E h => ?_) (fun cdv A outer s H vs Q E hr h => ?_)
  · obtain ⟨links, p, ns, amount, rfl, _⟩ := h
    rfl
  · obtain ⟨links, p, ns, amount, rfl, hp, q, e1, e2⟩ := h
    have hu := hu_of hr
    refine ⟨_, (pss_cons (ps_expr (pe_call C_asked_amount.ok (hr.mono (by decide)) (by rfl) C_asked_amount.gl C_asked_amount.kp C_asked_amount.bd .nil (L2N.passes_call (L2N.takes_of rfl rfl rfl rfl) (fun _ _ _ _ h => h)) (pa_cons (pv 0) (pa_cons (pv 1) (pa_cons (pv 2) pa_nil)))))
      (pss_one (ps_ret (pe_call C_payment_of.ok (hr.mono (by decide)) (by rfl) C_payment_of.gl C_payment_of.kp C_payment_of.bd .nil (L2N.passes_call (L2N.takes_of rfl rfl rfl rfl) (fun _ _ _ _ h => h)) (pa_cons (pv 0) (pa_cons (pv 1) (pa_cons (pv 2) pa_nil))))))), ?_⟩
    refine ⟨_, rfl, _, rfl, _, rfl, links, p, ns, amount, rfl, hp, fun h1 h2 => ⟨fun h3 => ⟨fun h4 => ?_, ((q h1 h2).1 h3).2⟩, (q h1 h2).2⟩, e1, e2⟩
    exact ⟨_, rfl, _, rfl, _, rfl, links, p, ns, amount, rfl, hp, h2.2, h1.1, h3, h4.1, ((q h1 h2).1 h3).1 h4⟩
end
def sp_payable (CR CO CT CA : Addr) : Sp := fun vs H Q E => ∃ (links : Int) (p : Addr) (ns : List Int) (amount : Int), vs = [.int links, .ref p, .int amount] ∧ Ints H p ns ∧ RowE CR CO links ns H E (Few CT ns H E (Amt CA links amount H E (∀ H', Ex H H' → Q (.bl (decide (sumsF (szs links ns) amount ≠ 0))) H')))
section
variable {P : Program} {w : World} {K : PySem.W.Frag} {mg : Str → Option Value} {base : Heap}
theorem ok_payable {f : Addr} {fd : FuncData} (F : Fun K "payable" "payable" s_payable f fd) (T : Bl mg) (X_NoRow : Exo K mg "NoRow") (X_NoOpened : Exo K mg "NoOpened") (X_TooMany : Exo K mg "TooMany") (X_NoAmount : Exo K mg "NoAmount") (C_payment : CalN P w K mg base 5 "payment" ["links", "opened", "amount"] (sp_payment X_NoRow.C X_NoOpened.C X_TooMany.C X_NoAmount.C)) : FnOk P w K mg base (L2N.CX P w) 6 f fd ["links", "opened", "amount"] (sp_payable X_NoRow.C X_NoOpened.C X_TooMany.C X_NoAmount.C) := by
  refine Fun.okN F sc_payable (fun vs H Q E h => ?_) (fun cdv A outer s H vs Q E hr h => ?_)
  · obtain ⟨links, p, ns, amount, rfl, _⟩ := h
    rfl
  · obtain ⟨links, p, ns, amount, rfl, hp, q, e1, e2⟩ := h
    have hu := hu_of hr
    refine ⟨_, (pss_one (ps_ret (pe_cmpR op_notN (pe_call C_payment.ok (hr.mono (by decide)) (by rfl) C_payment.gl C_payment.kp C_payment.bd .nil (L2N.passes_call (L2N.takes_of rfl rfl rfl rfl) (fun _ _ _ _ h => h)) (pa_cons (pv 0) (pa_cons (pv 1) (pa_cons (pv 2) pa_nil)))) pe_non (nomark _)))), ?_⟩
    refine ⟨_, rfl, _, rfl, _, rfl, links, p, ns, amount, rfl, hp, fun h1 h2 => ⟨fun h3 => ⟨fun h4 => ?_, ((q h1 h2).1 h3).2⟩, (q h1 h2).2⟩, e1, e2⟩
    have q1 := ((q h1 h2).1 h3).1 h4
    refine ⟨fun hz H' ex => ?_, fun hz r H' rs nr ex _ _ => ?_⟩
    · have q2 := q1 H' ex
      rw [decide_eq_false (fun z => z hz)] at q2
      refine ⟨rfl, ?_⟩
      rw [decide_eq_true rfl]
      exact q2
    · have q2 := q1 H' ex
      rw [decide_eq_true hz] at q2
      refine ⟨rfl, ?_⟩
      rw [decide_eq_false (fun z => nomatch z)]
      exact q2
end
def sp_picks : Sp := fun vs H Q _ => ∃ (m : Nat) (t : Int), vs = [.int (m : Int), .int t] ∧ m ≤ 10000 ∧ 0 ≤ t ∧ t ≤ (m : Int) ∧ Q (.int (binom m t)) H
section
variable {P : Program} {w : World} {K : PySem.W.Frag} {mg : Str → Option Value} {base : Heap}
theorem ok_picks {f : Addr} {fd : FuncData} (F : Fun K "picks" "picks" s_picks f fd) (T : Bl mg) : FnOk P w K mg base (L2N.CX P w) 1 f fd ["many", "some"] (sp_picks ) := by
  refine Fun.okN F sc_picks (fun vs H Q E h => ?_) (fun cdv A outer s H vs Q E hr h => ?_)
  · obtain ⟨m, t, rfl, _⟩ := h
    rfl
  · obtain ⟨m, t, rfl, hm, h0, h1, q⟩ := h
    have hu := hu_of hr
    refine ⟨_, (pss_cons (ps_set (i := 2) sc_picks.nd rfl (.inl rfl) pe_int)
      (pss_cons (ps_for (passes_of rfl) rfl (pi_range1 rfl T.b_range (pa_cons (pv 1) pa_nil)) (pg_name (i := 3) sc_picks.nd rfl (.inl rfl))
      (pss_one (ps_set (i := 2) sc_picks.nd rfl (.inl rfl) (pe_op op_fdiv (pe_op op_mul (pv 2) (pe_op op_sub (pv 0) (pv 3))) (pe_op op_add (pv 3) pe_int)))))
      (pss_one (ps_ret (pv 2))))), ?_⟩
    refine ⟨_, rfl, _, rfl, by omega, by omega, ?_⟩
    refine for_range (lo := 0) (fun i σ' H' => H' = H ∧ ∃ v, σ' = [some (.int (m : Int)), some (.int t), some (.int (binom m (i : Int))), v]) ⟨rfl, none, by rw [show ((0 : Nat) : Int) = 0 from rfl, binom_zero]; rfl⟩ ?_ ?_
    · rintro i σ' H' hi ⟨rfl, v, rfl⟩
      have hi2 : (i : Int) < t := by omega
      refine ⟨_, rfl, _, rfl, _, rfl, _, _, rfl, rfl, _, _, rfl, rfl, .inr ⟨?_, ?_⟩, _, rfl, _, _, rfl, rfl, _, _, rfl, rfl, ⟨?_, ?_⟩, rfl, some (.int (0 + (i : Int))), ?_⟩
      · show -(2 ^ 64) < (m : Int) - (0 + (i : Int))
        omega
      · show (m : Int) - (0 + (i : Int)) < 2 ^ 64
        omega
      · show (0 : Int) < 0 + (i : Int) + 1
        omega
      · show (0 : Int) + (i : Int) + 1 < 1073741824
        omega
      · have e := binom_div m (i : Int) (by omega)
        rw [show (((i + 1 : Nat)) : Int) = (i : Int) + 1 by omega, ← e]
        dsimp only [List.set]
        rw [Int.zero_add]
    · rintro σ' H' ⟨rfl, v, rfl⟩
      rw [Int.toNat_of_nonneg h0]
      exact ⟨_, rfl, q⟩
end
def sp_ways (CR CO CT CA : Addr) : Sp := fun vs H Q E => ∃ (links : Int) (p : Addr) (ns : List Int) (amount : Int), vs = [.int links, .ref p, .int amount] ∧ Ints H p ns ∧ RowE CR CO links ns H E (Few CT ns H E (Amt CA links amount H E (∀ H', Ex H H' → Q (.int (sumsF (szs links ns) amount)) H')))
section
variable {P : Program} {w : World} {K : PySem.W.Frag} {mg : Str → Option Value} {base : Heap}
theorem ok_ways {f : Addr} {fd : FuncData} (F : Fun K "ways" "ways" s_ways f fd) (T : Bl mg) (X_NoRow : Exo K mg "NoRow") (X_NoOpened : Exo K mg "NoOpened") (X_TooMany : Exo K mg "TooMany") (X_NoAmount : Exo K mg "NoAmount") (C_asked_amount : CalN P w K mg base 4 "asked_amount" ["links", "opened", "amount"] (sp_asked_amount X_NoRow.C X_NoOpened.C X_TooMany.C X_NoAmount.C)) (C_sorts : CalN P w K mg base 2 "sorts" ["links", "opened"] (sp_sorts )) (C_fitting : CalN P w K mg base 1 "fitting" ["every", "ones", "others", "amount"] (sp_fitting )) (C_picks : CalN P w K mg base 1 "picks" ["many", "some"] (sp_picks )) : FnOk P w K mg base (L2N.CX P w) 5 f fd ["links", "opened", "amount"] (sp_ways X_NoRow.C X_NoOpened.C X_TooMany.C X_NoAmount.C) := by
  refine Fun.okN F sc_ways (fun vs H Q E h => ?_) (fun cdv A outer s H vs Q E hr h => ?_)
  · obtain ⟨links, p, ns, amount, rfl, _⟩ := h
    rfl
  · obtain ⟨links, p, ns, amount, rfl, hp, q, e1, e2⟩ := h
    have hu := hu_of hr
    refine ⟨_, (pss_cons (ps_expr (pe_call C_asked_amount.ok (hr.mono (by decide)) (by rfl) C_asked_amount.gl C_asked_amount.kp C_asked_amount.bd .nil (L2N.passes_call (L2N.takes_of rfl rfl rfl rfl) (fun _ _ _ _ h => h)) (pa_cons (pv 0) (pa_cons (pv 1) (pa_cons (pv 2) pa_nil)))))
      (pss_cons (ps_asg (pe_call C_sorts.ok (hr.mono (by decide)) (by rfl) C_sorts.gl C_sorts.kp C_sorts.bd .nil (L2N.passes_call (L2N.takes_of rfl rfl rfl rfl) (fun _ _ _ _ h => h)) (pa_cons (pv 0) (pa_cons (pv 1) pa_nil))) (pg_tup rfl (pgs_cons (pg_name (i := 3) sc_ways.nd rfl (.inl rfl)) (pgs_cons (pg_name (i := 4) sc_ways.nd rfl (.inr rfl)) (pgs_cons (pg_name (i := 5) sc_ways.nd rfl (.inl rfl)) pgs_nil)))))
      (pss_one (ps_ret (pe_callB (cr_sum rfl) (by rfl) T.b_sum (by decide +kernel) (pa_cons (pe_lc (own := [("choice", 6)]) rfl sc_ways.nd (pi_list (pe_call C_fitting.ok (hr.mono (by decide)) (by rfl) C_fitting.gl C_fitting.kp C_fitting.bd .nil (L2N.passes_call (L2N.takes_of rfl rfl rfl rfl) (fun _ _ _ _ h => h)) (pa_cons (pv 3) (pa_cons (pv 4) (pa_cons (pv 5) (pa_cons (pv 2) pa_nil)))))) (blkOk_by (N := ["links", "opened", "amount", "every", "ones", "others", "choice"]) (sc := defScope s_ways) (by decide +kernel)) (fun _ _ _ _ _ => (pg_name (i := 6) sc_ways.nd rfl (.inl rfl))) (fun _ _ _ _ _ => pts_nil) (fun _ _ _ _ _ => (pe_call C_picks.ok (hr.mono (by decide)) (by rfl) C_picks.gl C_picks.kp C_picks.bd .nil passLN (pa_cons (pe_callB (call_len_seqK K rfl) (by rfl) T.b_len (by decide +kernel) (pa_cons (pv 4) pa_nil)) (pa_cons (pe_ix (ix_tupK K rfl) (pv 6) pe_int (fun _ _ => rfl)) pa_nil))))) pa_nil)))))), ?_⟩
    refine ⟨_, rfl, _, rfl, _, rfl, links, p, ns, amount, rfl, hp, fun h1 h2 => ⟨fun h3 => ⟨fun h4 => ?_, ((q h1 h2).1 h3).2⟩, (q h1 h2).2⟩, e1, e2⟩
    have q1 := ((q h1 h2).1 h3).1 h4
    clear q e1 e2
    have hri := h2.2
    have hl1 := h1.1
    have ha := h4.1
    refine ⟨_, rfl, _, rfl, links, p, ns, rfl, hp, by omega, fun t e o1 o2 H1 nt ne n1 n2 e1 ht he ho1 ho2 => ?_⟩
    refine ⟨t, _, rfl, .inl (.inl ht), rfl, _, _, rfl, _, _, rfl, _, _, rfl, rfl, ?_⟩
    have hszs : (pcs links ns).map (·.2) = szs links ns := rfl
    refine ⟨_, rfl, _, rfl, _, rfl, _, rfl, e, o1, o2, amount, _, _, _, rfl, he, ho1, ho2, others_ok links ns, others_len h3, fun r H2 xs nr e2 hr2 px => ?_⟩
    rw [hszs] at px
    have hfs : ((fit (szs links ns) (onesI (pcs links ns) ns (pcs links ns).length).length amount (othersI (pcs links ns) ns (pcs links ns).length)).map fun c => binom (onesI (pcs links ns) ns (pcs links ns).length).length c.2).sum = sumsF (szs links ns) amount := fit_sums (others_sz hri hl1) (szs_part hri)
    have hfin := fit_in (sz := szs links ns) (m := (onesI (pcs links ns) ns (pcs links ns).length).length) (others := othersI (pcs links ns) ns (pcs links ns).length) ha
    have hon : (onesI (pcs links ns) ns (pcs links ns).length).length ≤ 17 := by
      unfold onesI
      rw [List.length_map]
      have h2 := List.length_filter_le (isOne (pcs links ns) ns) (List.range (pcs links ns).length)
      rw [List.length_range] at h2
      have := pcs_len links ns
      omega
    have hxl : xs.length ≤ 131072 := by
      rw [Paired.len px]
      unfold fit
      exact Nat.le_trans (List.length_filter_le _ _) (Nat.le_trans (fitAll_len _ _ _) (Nat.pow_le_pow_right (by decide) (others_len h3)))
    have ho12 := ho1.ex e2
    generalize onesI (pcs links ns) ns (pcs links ns).length = ones at *
    refine ⟨r, rfl, ⟨xs, .inl (.inl hr2)⟩, fun D nD => lc_int nD px (.inl (.inl hr2)) (sz_big (by omega)) (fun _ => true) (fun c => binom ones.length c.2) ?_ ?_⟩
    · rintro c x H3 hc ⟨t1, l1, rfl, ht1, hl1'⟩ e3 Y Z hY hZ
      obtain ⟨_, _, f3, f4⟩ := hfin c hc
      refine ⟨rfl, _, rfl, o1, _, rfl, .inl (ho12.ex e3).sq, _, rfl, t1, _, 1, _, rfl, rfl, .inl (.inl (e3 _ _ ht1)), rfl, ones.length, c.2, by rw [List.length_map]; rfl, by omega, f3, f4, hY rfl _ (Evl.Ex.refl _)⟩
    · intro H3 hD e3
      rw [List.filter_eq_self.mpr (fun _ _ => rfl)] at hD
      refine ⟨D, _, rfl, hD.sq, ?_⟩
      rw [hfs]
      exact q1 _ ((e1.trans e2).trans e3)
end
/-- what is given and what is taken back, for one link more -/
def StepRes (CA CP : Addr) (links : Int) (ns hs : List Int) (H : Hp) (Q : VK) (E : XK) : Prop := (¬ Rising ((pcs links ns).length : Int) (-1) hs → ∀ H', Ex H H' → E (.ref CA) none H') ∧
  (Rising ((pcs links ns).length : Int) (-1) hs → sumsF (szs links ns) ((hs.map (szAt (szs links ns))).sum + 1) = 0 → ∀ H', Ex H H' → E (.ref CP) none H') ∧
  (Rising ((pcs links ns).length : Int) (-1) hs → sumsF (szs links ns) ((hs.map (szAt (szs links ns))).sum + 1) ≠ 0 → ∀ t g b H' rs, H t = none → H g = none → H b = none → g ≠ b → Ex H H' → H' t = some (.tup [.ref g, .ref b]) → PayOk (szs links ns) ((hs.map (szAt (szs links ns))).sum + 1) rs →
    Ints H' g (rs.filter fun x => !decide (x ∈ hs)) → Ints H' b (hs.filter fun x => !decide (x ∈ rs)) → Q (.ref t) H')
def sp_step (CR CO CT CA CP : Addr) : Sp := fun vs H Q E => ∃ (links : Int) (p : Addr) (ns : List Int) (r : Addr) (hs : List Int), vs = [.int links, .ref p, .ref r] ∧ Ints H p ns ∧ Ints H r hs ∧ RowE CR CO links ns H E (Few CT ns H E (StepRes CA CP links ns hs H Q E))
section
variable {P : Program} {w : World} {K : PySem.W.Frag} {mg : Str → Option Value} {base : Heap}
theorem ok_step {f : Addr} {fd : FuncData} (F : Fun K "step" "step" s_step f fd) (T : Bl mg) (X_NoRow : Exo K mg "NoRow") (X_NoOpened : Exo K mg "NoOpened") (X_TooMany : Exo K mg "TooMany") (X_NoAmount : Exo K mg "NoAmount") (X_NoPayment : Exo K mg "NoPayment") (C_asked_few : CalN P w K mg base 3 "asked_few" ["links", "opened"] (sp_asked_few X_NoRow.C X_NoOpened.C X_TooMany.C)) (C_pieces_of : CalN P w K mg base 1 "pieces_of" ["links", "opened"] (sp_pieces_of )) (C_payment_of : CalN P w K mg base 3 "payment_of" ["links", "opened", "amount"] (sp_payment_of )) : FnOk P w K mg base (L2N.CX P w) 4 f fd ["links", "opened", "held"] (sp_step X_NoRow.C X_NoOpened.C X_TooMany.C X_NoAmount.C X_NoPayment.C) := by
  refine Fun.okN F sc_step (fun vs H Q E h => ?_) (fun cdv A outer s H vs Q E hr h => ?_)
  · obtain ⟨links, p, ns, r, hs, rfl, _⟩ := h
    rfl
  · obtain ⟨links, p, ns, r, hs, rfl, hp, hh, q, e1, e2⟩ := h
    have hu := hu_of hr
    refine ⟨_, (pss_cons (ps_expr (pe_call C_asked_few.ok (hr.mono (by decide)) (by rfl) C_asked_few.gl C_asked_few.kp C_asked_few.bd .nil (L2N.passes_call (L2N.takes_of rfl rfl rfl rfl) (fun _ _ _ _ h => h)) (pa_cons (pv 0) (pa_cons (pv 1) pa_nil))))
      (pss_cons (ps_set (i := 3) sc_step.nd rfl (.inr rfl) (pe_call C_pieces_of.ok (hr.mono (by decide)) (by rfl) C_pieces_of.gl C_pieces_of.kp C_pieces_of.bd .nil (L2N.passes_call (L2N.takes_of rfl rfl rfl rfl) (fun _ _ _ _ h => h)) (pa_cons (pv 0) (pa_cons (pv 1) pa_nil))))
      (pss_cons (ps_set (i := 4) sc_step.nd rfl (.inl rfl) (pe_un un_neg pe_int))
      (pss_cons (ps_for (passes_of rfl) rfl (pi_list (pv 2)) (pg_name (i := 5) sc_step.nd rfl (.inl rfl))
      (pss_cons (ps_if (pt_not (pt_chain op_lt op_lt (pv 4) (pv 5) (pe_callB call_len_seq (by rfl) T.b_len (by decide +kernel) (pa_cons (pv 3) pa_nil))))
      (pss_one (L2N.ps_raise rfl (L2N.takes_of rfl rfl rfl rfl) (X_NoAmount.mkN (by rfl)))) pss_nil)
      (pss_one (ps_set (i := 4) sc_step.nd rfl (.inl rfl) (pv 5)))))
      (pss_cons (ps_set (i := 6) sc_step.nd rfl (.inl rfl) (pe_op op_add (pe_callB (cr_sum rfl) (by rfl) T.b_sum (by decide +kernel) (pa_cons (pe_lc (own := [("number", 5)]) rfl sc_step.nd (pi_list (pv 2)) (blkOk_by (N := ["links", "opened", "held", "every", "before", "number", "amount", "later", "given"]) (sc := defScope s_step) (by decide +kernel)) (fun _ _ _ _ _ => (pg_name (i := 5) sc_step.nd rfl (.inl rfl))) (fun _ _ _ _ _ => pts_nil) (fun _ _ _ _ _ => (pe_ix (ix_tupK K rfl) (pe_ix (ix_listK K rfl) (pv 3) (pv 5) (fun _ _ => rfl)) pe_int (fun _ _ => rfl)))) pa_nil)) pe_int))
      (pss_cons (ps_set (i := 7) sc_step.nd rfl (.inr rfl) (pe_call C_payment_of.ok (hr.mono (by decide)) (by rfl) C_payment_of.gl C_payment_of.kp C_payment_of.bd .nil (L2N.passes_call (L2N.takes_of rfl rfl rfl rfl) (fun _ _ _ _ h => h)) (pa_cons (pv 0) (pa_cons (pv 1) (pa_cons (pv 6) pa_nil)))))
      (pss_cons (ps_if (pt_cmpR op_isN (pv 7) pe_non (nomark _))
      (pss_one (L2N.ps_raise rfl (L2N.takes_of rfl rfl rfl rfl) (X_NoPayment.mkN (by rfl)))) pss_nil)
      (pss_cons (ps_setLc (i := 8) (own := [("number", 5)]) rfl sc_step.nd rfl rfl (sw_true rfl rfl rfl (by decide +kernel)) (pi_list (pv 7)) (blkOk_by (N := ["links", "opened", "held", "every", "before", "number", "amount", "later", "given"]) (sc := defScope s_step) (by decide +kernel)) (fun _ _ _ _ _ => (pg_name (i := 5) sc_step.nd rfl (.inl rfl))) (fun _ _ _ _ _ => (pts_one (pt_cmpR (op_notIn_seqK K rfl) (pv 5) (pv 2) (by rfl)))) (fun _ _ _ _ _ => (pv 5)))
      (pss_one (ps_ret (pe_tup (pa_cons (pv 8) (pa_cons (pe_lc (own := [("number", 5)]) rfl sc_step.nd (pi_list (pv 2)) (blkOk_by (N := ["links", "opened", "held", "every", "before", "number", "amount", "later", "given"]) (sc := defScope s_step) (by decide +kernel)) (fun _ _ _ _ _ => (pg_name (i := 5) sc_step.nd rfl (.inl rfl))) (fun _ _ _ _ _ => (pts_one (pt_cmpR (op_notIn_seqK K rfl) (pv 5) (pv 7) (by rfl)))) (fun _ _ _ _ _ => (pv 5))) pa_nil))))))))))))), ?_⟩
    refine ⟨_, rfl, _, rfl, links, p, ns, rfl, hp, fun h1 h2 => ⟨fun h3 => ?_, (q h1 h2).2⟩, e1, e2⟩
    obtain ⟨k1, k2, k3⟩ := (q h1 h2).1 h3
    clear q e1 e2
    have hri := h2.2
    have hl1 := h1.1
    refine ⟨_, rfl, _, rfl, links, p, ns, rfl, hp, by omega, fun e H1 ne e1 he => ?_⟩
    obtain ⟨xs, hx, px⟩ := he
    have hlx := Paired.len px
    refine ⟨_, rfl, _, rfl, r, rfl, ⟨_, (hh.ex e1).sq⟩, ?_⟩
    refine for_pre (isI hs) (fun pre σ' H' => H' = H1 ∧ Rising ((pcs links ns).length : Int) (-1) pre ∧ ∃ v5 v6 v7 v8, σ' = [some (.int links), some (.ref p), some (.ref r), some (.ref e), some (.int (lastOr (-1) pre)), v5, v6, v7, v8]) ⟨rfl, trivial, none, none, none, none, rfl⟩ (fun pre σ' H' ⟨z, _⟩ => (hh.ex (e1.trans (ex_refl' z))).sq) ?_ ?_
    · rintro pre y post x σ' H' ey rfl ⟨rfl, hr2, v5, v6, v7, v8, rfl⟩
      have hall : Rising ((pcs links ns).length : Int) (-1) hs ↔ Rising ((pcs links ns).length : Int) (-1) pre ∧ lastOr (-1) pre < y ∧ y < ((pcs links ns).length : Int) ∧ Rising ((pcs links ns).length : Int) y post := by
        rw [ey]
        exact rising_snoc
      refine ⟨_, rfl, _, rfl, _, _, rfl, rfl, _, rfl, ?_⟩
      refine iteD (fun h4 => ?_) (fun h4 => ?_)
      · refine ⟨_, rfl, e, _, rfl, .inl (.inl (.inl hx)), _, _, rfl, rfl, _, rfl, ?_⟩
        rw [hlx]
        refine iteN (fun h5 => ?_) (fun h5 => k1 (fun z => h5 (hall.mp z).2.2.1) _ e1)
        refine ⟨_, rfl, rfl, ?_, some (.int y), v6, v7, v8, ?_⟩
        · rw [rising_snoc]
          exact ⟨hr2, h4, h5, trivial⟩
        · rw [lastOr_snoc]
          rfl
      · exact ⟨_, rfl, iteT (k1 (fun z => h4 (hall.mp z).2.1) _ e1)⟩
    · rintro σ' H' ⟨rfl, hr2, v5, v6, v7, v8, rfl⟩
      have hup := rising_up hr2
      have hll := rising_len hr2 (by omega)
      have hpl := pcs_len links ns
      refine ⟨_, rfl, r, rfl, ⟨_, (hh.ex e1).sq⟩, fun D nD => lc_int nD (isI hs) (hh.ex e1).sq (sz_small (by rw [List.length_map]; omega)) (fun _ => true) (szAt (szs links ns)) ?_ ?_⟩
      · rintro y x H2 hy rfl e3 Y Z hY hZ
        have hy2 := hup.2 y hy
        obtain ⟨k, rfl⟩ : ∃ k : Nat, y = (k : Int) := ⟨y.toNat, by omega⟩
        have hk : k < (pcs links ns).length := by omega
        obtain ⟨pv0, hpv, pa, rfl, hpa⟩ : ∃ v, xs[k]? = some v ∧ ∃ a, v = .ref a ∧ H' a = some (.tup [.int (pcs links ns)[k].1, .int (pcs links ns)[k].2]) := by
          have hky : k < xs.length := by rw [hlx]; exact hk
          obtain ⟨y, hy1, hy2⟩ := Paired.at px (List.getElem?_eq_getElem hky)
          rw [List.getElem?_eq_getElem hk] at hy1
          cases hy1
          exact ⟨_, List.getElem?_eq_getElem hky, hy2⟩
        have hsz : szAt (szs links ns) (k : Int) = (pcs links ns)[k].2 := by
          unfold szAt szs
          rw [Int.toNat_natCast, List.getD_eq_getElem?_getD, List.getElem?_map, List.getElem?_eq_getElem hk]
          rfl
        have hY2 := hY rfl H2 (Evl.Ex.refl _)
        rw [hsz] at hY2
        exact ⟨rfl, _, rfl, _, rfl, e, _, _, .ref pa, rfl, rfl, .inl (.inl (e3 _ _ hx)), atI_nat hpv, pa, _, 1, _, rfl, rfl, .inl (.inl (e3 _ _ hpa)), rfl, hY2⟩
      · intro H2 hD e3
        rw [List.filter_eq_self.mpr (fun _ _ => rfl)] at hD
        have hnn : 0 ≤ (hs.map (szAt (szs links ns))).sum := by
          refine sum_nonneg fun x hx => ?_
          obtain ⟨y, hy, rfl⟩ := List.mem_map.mp hx
          have hy2 := hup.2 y hy
          unfold szAt
          rw [List.getD_eq_getElem?_getD]
          have hlen : (szs links ns).length = (pcs links ns).length := by
            unfold szs
            rw [List.length_map]
          have hk : y.toNat < (szs links ns).length := by omega
          rw [List.getElem?_eq_getElem hk]
          exact Int.le_of_lt (szs_pos hri hl1 _ (List.getElem_mem hk))
        have e13 := e1.trans e3
        refine ⟨D, _, rfl, hD.sq, _, _, rfl, rfl, ?_⟩
        refine ⟨_, rfl, _, rfl, _, rfl, links, p, ns, _, rfl, hp.ex e13, hri, hl1, h3, Int.le_add_one hnn, fun hz H4 e4 => ?_, fun hz rr H4 rs nr e4 hrs hpay => ?_⟩
        · refine ⟨_, rfl, rfl, _, rfl, ?_⟩
          exact iteD (fun _ => k2 hr2 hz _ (e13.trans e4)) (fun z => absurd rfl z)
        · refine ⟨_, rfl, rfl, _, rfl, ?_⟩
          refine iteD (fun z => (nomatch z)) (fun _ => ?_)
          have e14 := e13.trans e4
          have hh4 := hh.ex e14
          have hrl := pay_len hpay
          have hxl := szs_len links ns
          refine ⟨_, rfl, rr, rfl, ⟨_, hrs.sq⟩, fun G nG => lc_int nG (isI rs) hrs.sq (sz_small (by rw [List.length_map]; omega)) (fun x => !decide (x ∈ hs)) (fun x => x) ?_ ?_⟩
          · rintro y x H5 hy rfl e5 Y Z hY hZ
            refine ⟨rfl, _, rfl, _, rfl, r, _, rfl, .inl (hh4.ex e5).sq, rfl, flatInts _, !decide (y ∈ hs), congrArg V.bl (by rw [← inV_int]; rfl), ?_⟩
            exact iteB _ (fun h => ⟨_, rfl, hY h _ (Evl.Ex.refl _)⟩) (fun h => hZ h _ (Evl.Ex.refl _))
          · intro H5 hG e5
            rw [List.map_id'] at hG
            have hh5 := hh4.ex e5
            refine ⟨_, rfl, _, rfl, r, rfl, ⟨_, hh5.sq⟩, fun B nB => lc_int nB (isI hs) hh5.sq (sz_small (by rw [List.length_map]; omega)) (fun x => !decide (x ∈ rs)) (fun x => x) ?_ ?_⟩
            · rintro y x H6 hy rfl e6 Y Z hY hZ
              refine ⟨rfl, _, rfl, _, rfl, rr, _, rfl, .inl (hrs.ex (e5.trans e6)).sq, rfl, flatInts _, !decide (y ∈ rs), congrArg V.bl (by rw [← inV_int]; rfl), ?_⟩
              exact iteB _ (fun h => ⟨_, rfl, hY h _ (Evl.Ex.refl _)⟩) (fun h => hZ h _ (Evl.Ex.refl _))
            · intro H6 hB e6
              rw [List.map_id'] at hB
              refine ⟨le2, fun t nt => ?_⟩
              obtain ⟨e7, ht⟩ := nw nt (.tup [.ref G, .ref B])
              have e15 := e14.trans e5
              have e16 := e15.trans e6
              exact k3 hr2 hz t G B _ rs (Evl.fresh_back e16 nt) (Evl.fresh_back e14 nG) (Evl.fresh_back e15 nB) (ne_of_none hG nB) (e16.trans e7) ht hpay ((Ints.ex hG e6).ex e7) (Ints.ex hB e7)
end
def sp_most_links : Sp := fun vs H Q _ => ∃ n : Nat, vs = [.int (n : Int)] ∧ n ≤ 1000 ∧ Q (.int (mostL n)) H
section
variable {P : Program} {w : World} {K : PySem.W.Frag} {mg : Str → Option Value} {base : Heap}
theorem ok_most_links {f : Addr} {fd : FuncData} (F : Fun K "most_links" "most_links" s_most_links f fd) (T : Bl mg) : FnOk P w K mg base (L2N.CX P w) 1 f fd ["openings"] (sp_most_links ) := by
  refine Fun.okN F sc_most_links (fun vs H Q E h => ?_) (fun cdv A outer s H vs Q E hr h => ?_)
  · obtain ⟨n, rfl, _⟩ := h
    rfl
  · obtain ⟨n, rfl, hn, q⟩ := h
    have hu := hu_of hr
    refine ⟨_, (pss_cons (ps_set (i := 1) sc_most_links.nd rfl (.inl rfl) (pe_op op_mul pe_int (pe_op op_add (pv 0) pe_int)))
      (pss_cons (ps_for (passes_of rfl) rfl (pi_range1 rfl T.b_range (pa_cons (pv 0) pa_nil)) (pg_name (i := 2) sc_most_links.nd rfl (.inl rfl))
      (pss_one (ps_set (i := 1) sc_most_links.nd rfl (.inl rfl) (pe_op op_mul (pv 1) pe_int))))
      (pss_one (ps_ret (pe_op op_sub (pv 1) pe_int))))), ?_⟩
    refine ⟨_, rfl, _, _, rfl, rfl, _, _, rfl, rfl, .inl ⟨by decide, by decide⟩, ?_⟩
    refine ⟨_, rfl, _, rfl, by omega, by omega, ?_⟩
    refine for_range (lo := 0) (fun i σ' H' => H' = H ∧ ∃ v, σ' = [some (.int (n : Int)), some (.int (2 * ((n : Int) + 1) * 2 ^ i)), v]) ⟨rfl, none, by simp; rfl⟩ ?_ ?_
    · rintro i σ' H' hi ⟨rfl, v, rfl⟩
      refine ⟨_, rfl, _, _, rfl, rfl, .inr ⟨by decide, by decide⟩, rfl, some (.int (0 + (i : Int))), ?_⟩
      rw [Int.pow_succ, ← Int.mul_assoc]
      rfl
    · rintro σ' H' ⟨rfl, v, rfl⟩
      refine ⟨_, rfl, _, _, rfl, rfl, ?_⟩
      have e : 2 * ((n : Int) + 1) * 2 ^ ((n : Int).toNat) - 1 = mostL n := by
        unfold mostL
        rw [Int.toNat_natCast, Int.pow_succ, Int.mul_comm 2, Int.mul_assoc, Int.mul_comm 2]
      rw [← e] at q
      exact q
end
def sp_fewest (CR : Addr) : Sp := fun vs H Q E => ∃ links : Int, vs = [.int links] ∧ (RowOk links → ∀ n : Nat, FewestIs links n → Q (.int (n : Int)) H) ∧ (¬ RowOk links → E (.ref CR) none H)
section
variable {P : Program} {w : World} {K : PySem.W.Frag} {mg : Str → Option Value} {base : Heap}
theorem ok_fewest {f : Addr} {fd : FuncData} (F : Fun K "fewest" "fewest" s_fewest f fd) (T : Bl mg) (X_NoRow : Exo K mg "NoRow") (C_asked_links : CalN P w K mg base 1 "asked_links" ["links"] (sp_asked_links X_NoRow.C)) (C_most_links : CalN P w K mg base 1 "most_links" ["openings"] (sp_most_links )) : FnOk P w K mg base (L2N.CX P w) 2 f fd ["links"] (sp_fewest X_NoRow.C) := by
  refine Fun.okN F sc_fewest (fun vs H Q E h => ?_) (fun cdv A outer s H vs Q E hr h => ?_)
  · obtain ⟨links, rfl, _⟩ := h
    rfl
  · obtain ⟨links, rfl, q, e⟩ := h
    have hu := hu_of hr
    refine ⟨_, (pss_cons (ps_expr (pe_call C_asked_links.ok (hr.mono (by decide)) (by rfl) C_asked_links.gl C_asked_links.kp C_asked_links.bd .nil (L2N.passes_call (L2N.takes_of rfl rfl rfl rfl) (fun _ _ _ _ h => h)) (pa_cons (pv 0) pa_nil)))
      (pss_cons (ps_set (i := 1) sc_fewest.nd rfl (.inl rfl) pe_int)
      (pss_cons (ps_while (passes_of rfl) (pt_cmpR op_lt (pe_call C_most_links.ok (hr.mono (by decide)) (by rfl) C_most_links.gl C_most_links.kp C_most_links.bd .nil (L2N.passes_call (L2N.takes_of rfl rfl rfl rfl) (fun _ _ _ _ h => h)) (pa_cons (pv 1) pa_nil)) (pv 0) (nomark _))
      (pss_one (ps_set (i := 1) sc_fewest.nd rfl (.inl rfl) (pe_op op_add (pv 1) pe_int))))
      (pss_one (ps_ret (pv 1)))))), ?_⟩
    refine ⟨_, rfl, links, rfl, fun hr => ?_, e⟩
    refine ⟨fun m σ' H' => H' = H ∧ ∃ n : Nat, m = 200 - n ∧ n ≤ 100 ∧ σ' = [some (.int links), some (.int (n : Int))] ∧ ∀ j, j < n → mostL j < links, ⟨200, rfl, 0, rfl, by omega, rfl, fun j h => absurd h (Nat.not_lt_zero _)⟩, ?_⟩
    rintro m σ' H' ⟨rfl, n, rfl, hn, rfl, hj⟩
    refine ⟨_, rfl, n, rfl, by omega, _, rfl, _, _, rfl, rfl, _, rfl, ?_⟩
    refine iteD (fun h => ?_) (fun h => ?_)
    · have hn2 : n < 100 := by
        rcases Nat.lt_or_ge n 100 with z | z
        · exact z
        · have e2 : n = 100 := by omega
          rw [e2] at h
          have := mostL_big
          have := hr.2
          omega
      refine ⟨fun σ2 H2 => H2 = H' ∧ σ2 = [some (.int links), some (.int ((n : Int) + 1))], ?_, ?_⟩
      · rintro σ2 H2 ⟨rfl, rfl⟩
        refine ⟨200 - (n + 1), by omega, rfl, n + 1, rfl, by omega, rfl, fun j hj2 => ?_⟩
        rcases Nat.lt_or_ge j n with z | z
        · exact hj j z
        · have e2 : j = n := by omega
          rw [e2]
          exact h
      · exact ⟨_, rfl, _, _, rfl, rfl, rfl, rfl⟩
    · exact ⟨_, rfl, q hr n ⟨hn, by omega, hj⟩⟩
end
def sp_gap_of : Sp := fun vs H Q _ => ∃ (links : Int) (p : Addr) (ns : List Int), vs = [.int links, .ref p] ∧ Ints H p ns ∧ ns.length ≤ 1000 ∧ ∀ H', Ex H H' → Q (optV (gapO links ns)) H'
section
variable {P : Program} {w : World} {K : PySem.W.Frag} {mg : Str → Option Value} {base : Heap}
theorem ok_gap_of {f : Addr} {fd : FuncData} (F : Fun K "gap_of" "gap_of" s_gap_of f fd) (T : Bl mg) (C_pieces_of : CalN P w K mg base 1 "pieces_of" ["links", "opened"] (sp_pieces_of )) : FnOk P w K mg base (L2N.CX P w) 2 f fd ["links", "opened"] (sp_gap_of ) := by
  refine Fun.okN F sc_gap_of (fun vs H Q E h => ?_) (fun cdv A outer s H vs Q E hr h => ?_)
  · obtain ⟨links, p, ns, rfl, _⟩ := h
    rfl
  · obtain ⟨links, p, ns, rfl, hp, hn, q⟩ := h
    have hu := hu_of hr
    refine ⟨_, (pss_cons (ps_set (i := 2) sc_gap_of.nd rfl (.inl rfl) pe_int)
      (pss_cons (ps_for (passes_of rfl) rfl (pi_list (pe_callB cr_sortedI (by rfl) T.b_sorted (by decide +kernel) (pa_cons (pe_lc (own := [("piece", 4)]) rfl sc_gap_of.nd (pi_list (pe_call C_pieces_of.ok (hr.mono (by decide)) (by rfl) C_pieces_of.gl C_pieces_of.kp C_pieces_of.bd .nil (L2N.passes_call (L2N.takes_of rfl rfl rfl rfl) (fun _ _ _ _ h => h)) (pa_cons (pv 0) (pa_cons (pv 1) pa_nil)))) (blkOk_by (N := ["links", "opened", "reach", "size", "piece"]) (sc := defScope s_gap_of) (by decide +kernel)) (fun _ _ _ _ _ => (pg_name (i := 4) sc_gap_of.nd rfl (.inl rfl))) (fun _ _ _ _ _ => pts_nil) (fun _ _ _ _ _ => (pe_ix (ix_tupK K rfl) (pv 4) pe_int (fun _ _ => rfl)))) pa_nil))) (pg_name (i := 3) sc_gap_of.nd rfl (.inl rfl))
      (pss_cons (ps_if (pt_cmpR op_gt (pv 3) (pe_op op_add (pv 2) pe_int) (nomark _))
      (pss_one (ps_ret (pe_op op_add (pv 2) pe_int))) pss_nil)
      (pss_one (ps_set (i := 2) sc_gap_of.nd rfl (.inl rfl) (pe_op op_add (pv 2) (pv 3))))))
      (pss_one (ps_ret pe_non)))), ?_⟩
    refine ⟨_, rfl, _, rfl, links, p, ns, rfl, hp, hn, fun o H1 no e1 hpr => ?_⟩
    obtain ⟨xs, hx, px⟩ := hpr
    have hxl := pcs_len links ns
    refine ⟨o, rfl, ⟨xs, .inl (.inl hx)⟩, fun D nD => lc_int nD px (.inl (.inl hx)) (sz_small (by rw [Paired.len px]; omega)) (fun _ => true) (·.2) ?_ ?_⟩
    · rintro y x H2 hy ⟨pa, rfl, hpa⟩ e2 Y Z hY hZ
      exact ⟨rfl, _, rfl, pa, _, 1, _, rfl, rfl, .inl (.inl (e2 _ _ hpa)), rfl, hY rfl _ (Evl.Ex.refl _)⟩
    · intro H2 hD e2
      rw [List.filter_eq_self.mpr (fun _ _ => rfl)] at hD
      refine ⟨D, szs links ns, rfl, hD.sq, fun sr p2 perm up np2 => ?_⟩
      obtain rfl := srt_of perm up
      obtain ⟨e3, h3⟩ := nw np2 (.lst ((srt (szs links ns)).map V.int))
      refine ⟨p2, rfl, ⟨_, .inl (.inl h3)⟩, ?_⟩
      refine for_pre (isI (srt (szs links ns))) (fun pre σ' H' => H' = upd H2 p2 (.lst ((srt (szs links ns)).map V.int)) ∧ (∀ post, srt (szs links ns) = pre ++ post → gapO links ns = gapL pre.sum post) ∧ ∃ v v2, σ' = [some (.int links), some (.ref p), some (.int pre.sum), v, v2]) ⟨rfl, fun post e => by rw [List.nil_append] at e; unfold gapO; rw [← e]; rfl, none, none, rfl⟩ (fun pre σ' H' ⟨z, _⟩ => .inl (.inl (z ▸ h3))) ?_ ?_
      · rintro pre y post x σ' H' e rfl ⟨rfl, hg, v, v2, rfl⟩
        have hg2 := hg _ e
        refine ⟨_, rfl, _, rfl, _, _, rfl, rfl, _, _, rfl, rfl, _, rfl, ?_⟩
        refine iteD (fun h => ?_) (fun h => ?_)
        · refine ⟨_, rfl, _, _, rfl, rfl, ?_⟩
          unfold gapL at hg2
          rw [if_pos (by omega)] at hg2
          rw [hg2] at q
          exact q _ ((e1.trans e2).trans e3)
        · refine ⟨_, rfl, _, rfl, _, _, rfl, rfl, rfl, fun post2 e4 => ?_, some (.int y), v2, ?_⟩
          · rw [e, List.append_assoc] at e4
            have e5 : y :: post = [y] ++ post2 := List.append_cancel_left e4
            have e6 : post = post2 := by simpa using e5
            unfold gapL at hg2
            rw [if_neg (by omega)] at hg2
            rw [hg2, e6, List.sum_append]
            simp
          · rw [List.sum_append]
            simp
      · rintro σ' H' ⟨rfl, hg, v, v2, rfl⟩
        have hg2 := hg [] (by simp)
        rw [hg2] at q
        exact q _ ((e1.trans e2).trans e3)
end
/-- not reached here -/
def sp_lists_of : Sp := fun vs _ _ _ => ∃ a b : Int, vs = [.int a, .int b] ∧ False
section
variable {P : Program} {w : World} {K : PySem.W.Frag} {mg : Str → Option Value} {base : Heap}
theorem ok_lists_of {f : Addr} {fd : FuncData} (F : Fun K "lists_of" "lists_of" s_lists_of f fd) (T : Bl mg) : FnOk P w K mg base (L2N.CX P w) 1 f fd ["links", "openings"] (sp_lists_of ) := by
  refine Fun.okN F sc_lists_of (fun vs H Q E h => ?_) (fun cdv A outer s H vs Q E hr h => ?_)
  · obtain ⟨a, b, rfl, _⟩ := h
    rfl
  · obtain ⟨a, b, rfl, z⟩ := h
    have hu := hu_of hr
    refine ⟨_, (pss_cons (ps_set (i := 2) sc_lists_of.nd rfl (.inl rfl) (pe_lst (pa_cons (pe_lst pa_nil) pa_nil)))
      (pss_cons (ps_for (passes_of rfl) rfl (pi_range1 rfl T.b_range (pa_cons (pv 1) pa_nil)) (pg_name (i := 3) sc_lists_of.nd rfl (.inl rfl))
      (pss_cons (ps_set (i := 4) sc_lists_of.nd rfl (.inl rfl) (pe_lst pa_nil))
      (pss_cons (ps_for (passes_of rfl) rfl (pi_list (pv 2)) (pg_name (i := 5) sc_lists_of.nd rfl (.inr rfl))
      (pss_one (ps_expr (pe_bm PySem.F.plainAttrs_list PySem.F.slot_list_extend PySem.F.type_list_extend mt_extend (pv 4) (pa_cons (pe_lc (own := [("link", 6)]) rfl sc_lists_of.nd (pi_range2 rfl T.b_range (pa_cons (pe_op op_add (pe_callB (cr_max rfl) (by rfl) T.b_max (by decide +kernel) (pa_cons (pe_op op_cat (pv 5) (pe_lst (pa_cons (pe_un un_neg pe_int) pa_nil))) pa_nil)) pe_int) (pa_cons (pv 0) pa_nil))) (blkOk_by (N := ["links", "openings", "found", "k", "longer", "some", "link"]) (sc := defScope s_lists_of) (by decide +kernel)) (fun _ _ _ _ _ => (pg_name (i := 6) sc_lists_of.nd rfl (.inl rfl))) (fun _ _ _ _ _ => pts_nil) (fun _ _ _ _ _ => (pe_op op_cat (pv 5) (pe_lst (pa_cons (pv 6) pa_nil))))) pa_nil)))))
      (pss_one (ps_set (i := 2) sc_lists_of.nd rfl (.inl rfl) (pv 4))))))
      (pss_one (ps_ret (pv 2))))), ?_⟩
    exact z.elim
end
def sp_all_full (CR CC : Addr) : Sp := fun vs H Q E => ∃ links : Int, vs = [.int links] ∧ ¬ (RowOk links ∧ links ≤ 23) ∧ (¬ RowOk links → E (.ref CR) none H) ∧ (RowOk links → E (.ref CC) none H)
section
variable {P : Program} {w : World} {K : PySem.W.Frag} {mg : Str → Option Value} {base : Heap}
theorem ok_all_full {f : Addr} {fd : FuncData} (F : Fun K "all_full" "all_full" s_all_full f fd) (T : Bl mg) (X_NoRow : Exo K mg "NoRow") (X_NoCount : Exo K mg "NoCount") {tMOST_LISTED : Tok} (hMOST_LISTED : mg "MOST_LISTED" = some (.int 23 tMOST_LISTED)) (C_fewest : CalN P w K mg base 2 "fewest" ["links"] (sp_fewest X_NoRow.C)) (C_gap_of : CalN P w K mg base 2 "gap_of" ["links", "opened"] (sp_gap_of )) (C_lists_of : CalN P w K mg base 1 "lists_of" ["links", "openings"] (sp_lists_of )) : FnOk P w K mg base (L2N.CX P w) 3 f fd ["links"] (sp_all_full X_NoRow.C X_NoCount.C) := by
  refine Fun.okN F sc_all_full (fun vs H Q E h => ?_) (fun cdv A outer s H vs Q E hr h => ?_)
  · obtain ⟨links, rfl, _⟩ := h
    rfl
  · obtain ⟨links, rfl, hno, e1, e2⟩ := h
    have hu := hu_of hr
    refine ⟨_, (pss_cons (ps_set (i := 1) sc_all_full.nd rfl (.inl rfl) (pe_call C_fewest.ok (hr.mono (by decide)) (by rfl) C_fewest.gl C_fewest.kp C_fewest.bd .nil (L2N.passes_call (L2N.takes_of rfl rfl rfl rfl) (fun _ _ _ _ h => h)) (pa_cons (pv 0) pa_nil)))
      (pss_cons (ps_if (pt_cmpR op_gt (pv 0) (pe_glob (v := .int 23) rfl hMOST_LISTED ⟨_, rfl⟩) (nomark _))
      (pss_one (L2N.ps_raise rfl (L2N.takes_of rfl rfl rfl rfl) (X_NoCount.mkN (by rfl)))) pss_nil)
      (pss_one (ps_ret (pe_lc (own := [("some", 2)]) rfl sc_all_full.nd (pi_list (pe_call C_lists_of.ok (hr.mono (by decide)) (by rfl) C_lists_of.gl C_lists_of.kp C_lists_of.bd .nil (L2N.passes_call (L2N.takes_of rfl rfl rfl rfl) (fun _ _ _ _ h => h)) (pa_cons (pv 0) (pa_cons (pv 1) pa_nil)))) (blkOk_by (N := ["links", "openings", "some"]) (sc := defScope s_all_full) (by decide +kernel)) (fun _ _ _ _ _ => (pg_name (i := 2) sc_all_full.nd rfl (.inl rfl))) (fun _ _ _ _ _ => (pts_one (pt_cmpR op_isN (pe_call C_gap_of.ok (hr.mono (by decide)) (by rfl) C_gap_of.gl C_gap_of.kp C_gap_of.bd .nil passLN (pa_cons (pv 0) (pa_cons (pv 2) pa_nil))) pe_non (nomark _)))) (fun _ _ _ _ _ => (pv 2))))))), ?_⟩
    refine ⟨_, rfl, links, rfl, fun hr n _ => ?_, e1⟩
    refine ⟨_, rfl, _, _, rfl, rfl, _, rfl, ?_⟩
    exact iteD (fun _ => e2 hr) (fun h => absurd ⟨hr, by omega⟩ hno)
end
def sp_law_called (CR CO CT CA CP CC : Addr) : Sp := fun vs H Q E => ∃ (wh links : Int) (p : Addr) (ns : List Int) (amount : Int) (r : Addr) (hs : List Int), vs = [.int wh, .int links, .ref p, .int amount, .ref r] ∧ Ints H p ns ∧ Ints H r hs ∧ 0 ≤ wh ∧ wh < 5 ∧ 1 ≤ links ∧ links ≤ 40 ∧ OpenOk links ns ∧
  ∀ H', Ex H H' → (wh = 4 → E (.ref CC) none H') ∧ (wh ≠ 4 → ¬ ns.length ≤ 8 → E (.ref CT) none H') ∧ (wh < 3 → ns.length ≤ 8 → ¬ (0 ≤ amount ∧ amount ≤ links) → E (.ref CA) none H') ∧ (wh < 3 → ns.length ≤ 8 → 0 ≤ amount ∧ amount ≤ links → Q .non H') ∧
    (wh = 3 → ns.length ≤ 8 → ¬ Rising ((pcs links ns).length : Int) (-1) hs → E (.ref CA) none H') ∧ (wh = 3 → ns.length ≤ 8 → Rising ((pcs links ns).length : Int) (-1) hs → Q .non H' ∧ E (.ref CP) none H')
section
variable {P : Program} {w : World} {K : PySem.W.Frag} {mg : Str → Option Value} {base : Heap}
theorem ok_law_called {f : Addr} {fd : FuncData} (F : Fun K "_law_called" "_law_called" s_law_called f fd) (T : Bl mg) (X_NoRow : Exo K mg "NoRow") (X_NoOpened : Exo K mg "NoOpened") (X_TooMany : Exo K mg "TooMany") (X_NoAmount : Exo K mg "NoAmount") (X_NoPayment : Exo K mg "NoPayment") (X_NoCount : Exo K mg "NoCount") (C_payable : CalN P w K mg base 6 "payable" ["links", "opened", "amount"] (sp_payable X_NoRow.C X_NoOpened.C X_TooMany.C X_NoAmount.C)) (C_payment : CalN P w K mg base 5 "payment" ["links", "opened", "amount"] (sp_payment X_NoRow.C X_NoOpened.C X_TooMany.C X_NoAmount.C)) (C_ways : CalN P w K mg base 5 "ways" ["links", "opened", "amount"] (sp_ways X_NoRow.C X_NoOpened.C X_TooMany.C X_NoAmount.C)) (C_step : CalN P w K mg base 4 "step" ["links", "opened", "held"] (sp_step X_NoRow.C X_NoOpened.C X_TooMany.C X_NoAmount.C X_NoPayment.C)) (C_all_full : CalN P w K mg base 3 "all_full" ["links"] (sp_all_full X_NoRow.C X_NoCount.C)) : FnOk P w K mg base (L2N.CX P w) 7 f fd ["which", "links", "opened", "amount", "held"] (sp_law_called X_NoRow.C X_NoOpened.C X_TooMany.C X_NoAmount.C X_NoPayment.C X_NoCount.C) := by
  refine Fun.okN F sc_law_called (fun vs H Q E h => ?_) (fun cdv A outer s H vs Q E hr h => ?_)
  · obtain ⟨wh, links, p, ns, amount, r, hs, rfl, _⟩ := h
    rfl
  · obtain ⟨wh, links, p, ns, amount, r, hs, rfl, hp, hh, hw0, hw5, hl1, hl2, hok, q⟩ := h
    have hu := hu_of hr
    refine ⟨_, (Evl.pss_cut (ps_if (pt_cmpR op_eq (pv 0) pe_int (nomark _))
      (pss_one (ps_expr (pe_call C_payable.ok (hr.mono (by decide)) (by rfl) C_payable.gl C_payable.kp C_payable.bd .nil (L2N.passes_call (L2N.takes_of rfl rfl rfl rfl) (fun _ _ _ _ h => h)) (pa_cons (pv 1) (pa_cons (pv 2) (pa_cons (pv 3) pa_nil)))))) pss_nil)
      (Evl.pss_cut (ps_if (pt_cmpR op_eq (pv 0) pe_int (nomark _))
      (pss_one (ps_expr (pe_call C_payment.ok (hr.mono (by decide)) (by rfl) C_payment.gl C_payment.kp C_payment.bd .nil (L2N.passes_call (L2N.takes_of rfl rfl rfl rfl) (fun _ _ _ _ h => h)) (pa_cons (pv 1) (pa_cons (pv 2) (pa_cons (pv 3) pa_nil)))))) pss_nil)
      (Evl.pss_cut (ps_if (pt_cmpR op_eq (pv 0) pe_int (nomark _))
      (pss_one (ps_expr (pe_call C_ways.ok (hr.mono (by decide)) (by rfl) C_ways.gl C_ways.kp C_ways.bd .nil (L2N.passes_call (L2N.takes_of rfl rfl rfl rfl) (fun _ _ _ _ h => h)) (pa_cons (pv 1) (pa_cons (pv 2) (pa_cons (pv 3) pa_nil)))))) pss_nil)
      (Evl.pss_cut (ps_if (pt_cmpR op_eq (pv 0) pe_int (nomark _))
      (pss_one (ps_expr (pe_call C_step.ok (hr.mono (by decide)) (by rfl) C_step.gl C_step.kp C_step.bd .nil (L2N.passes_call (L2N.takes_of rfl rfl rfl rfl) (fun _ _ _ _ h => h)) (pa_cons (pv 1) (pa_cons (pv 2) (pa_cons (pv 4) pa_nil)))))) pss_nil)
      (pss_one (ps_if (pt_cmpR op_eq (pv 0) pe_int (nomark _))
      (pss_one (ps_expr (pe_call C_all_full.ok (hr.mono (by decide)) (by rfl) C_all_full.gl C_all_full.kp C_all_full.bd .nil (L2N.passes_call (L2N.takes_of rfl rfl rfl rfl) (fun _ _ _ _ h => h)) (pa_cons (pe_op op_add pe_int (pv 1)) pa_nil)))) pss_nil)))))), ?_⟩
    have hr1 : RowOk links := ⟨hl1, by omega⟩
    have mid : ∀ (k : Int) (H2 : Hp), Ex H H2 → wh ≤ k → ns.length ≤ 8 → (wh < 3 → 0 ≤ amount ∧ amount ≤ links) → (wh = 3 → Rising ((pcs links ns).length : Int) (-1) hs) → k < 4 → ∀ H', Ex H2 H' → Q .non H' := by
      intro k H2 e2 hk h8 h3 h4 hk4 H' e'
      rcases Int.lt_or_le wh 3 with z | z
      · exact (q H' (e2.trans e')).2.2.2.1 z h8 (h3 z)
      · have z2 : wh = 3 := by omega
        exact ((q H' (e2.trans e')).2.2.2.2.2 z2 h8 (h4 z2)).1
    have pay : ∀ {k : Prop} (H1 : Hp), Ex H H1 → wh < 3 → (ns.length ≤ 8 → 0 ≤ amount ∧ amount ≤ links → k) → RowE X_NoRow.C X_NoOpened.C links ns H1 E (Few X_TooMany.C ns H1 E (Amt X_NoAmount.C links amount H1 E k)) := fun H1 ex hw k =>
      ⟨fun _ _ => ⟨fun h3 => ⟨fun h4 => k h3 h4, fun h4 => (q H1 ex).2.2.1 hw h3 h4⟩, fun h3 => (q H1 ex).2.1 (by omega) h3⟩, fun z => absurd hr1 z, fun _ z => absurd hok z⟩
    refine ⟨fun σ2 H2 => (Ex H H2 ∧ (wh ≤ 0 → ∀ H', Ex H2 H' → Q .non H')) ∧ σ2 = [some (.int wh), some (.int links), some (.ref p), some (.int amount), some (.ref r)], ?_, ?_⟩
    · refine ⟨_, rfl, rfl, _, rfl, ?_⟩
      refine iteE (fun h => ?_) (fun h => ⟨⟨Evl.Ex.refl _, fun z => absurd z (by omega)⟩, rfl⟩)
      exact ⟨_, rfl, _, rfl, _, rfl, links, p, ns, amount, rfl, hp, pay _ (Evl.Ex.refl _) (by omega) fun h8 ham H1 e1 => ⟨⟨e1, fun _ => mid 0 H1 e1 (by omega) h8 (fun _ => ham) (fun z => absurd z (by omega)) (by decide)⟩, rfl⟩⟩
    rintro σ2 H2 ⟨⟨e2, n2⟩, rfl⟩
    refine ⟨fun σ2 H3 => (Ex H H3 ∧ (wh ≤ 1 → ∀ H', Ex H3 H' → Q .non H')) ∧ σ2 = [some (.int wh), some (.int links), some (.ref p), some (.int amount), some (.ref r)], ?_, ?_⟩
    · refine ⟨_, rfl, rfl, _, rfl, ?_⟩
      refine iteE (fun h => ?_) (fun h => ⟨⟨e2, fun z => n2 (by omega)⟩, rfl⟩)
      refine ⟨_, rfl, _, rfl, _, rfl, links, p, ns, amount, rfl, hp.ex e2, pay _ e2 (by omega) fun h8 ham => ⟨fun _ H1 e1 => ⟨⟨e2.trans e1, fun _ => mid 1 H1 (e2.trans e1) (by omega) h8 (fun _ => ham) (fun z => absurd z (by omega)) (by decide)⟩, rfl⟩, fun _ _ H1 _ _ e1 _ _ => ⟨⟨e2.trans e1, fun _ => mid 1 H1 (e2.trans e1) (by omega) h8 (fun _ => ham) (fun z => absurd z (by omega)) (by decide)⟩, rfl⟩⟩⟩
    rintro σ2 H3 ⟨⟨e3, n3⟩, rfl⟩
    refine ⟨fun σ2 H4 => (Ex H H4 ∧ (wh ≤ 2 → ∀ H', Ex H4 H' → Q .non H')) ∧ σ2 = [some (.int wh), some (.int links), some (.ref p), some (.int amount), some (.ref r)], ?_, ?_⟩
    · refine ⟨_, rfl, rfl, _, rfl, ?_⟩
      refine iteE (fun h => ?_) (fun h => ⟨⟨e3, fun z => n3 (by omega)⟩, rfl⟩)
      exact ⟨_, rfl, _, rfl, _, rfl, links, p, ns, amount, rfl, hp.ex e3, pay _ e3 (by omega) fun h8 ham H1 e1 => ⟨⟨e3.trans e1, fun _ => mid 2 H1 (e3.trans e1) (by omega) h8 (fun _ => ham) (fun z => absurd z (by omega)) (by decide)⟩, rfl⟩⟩
    rintro σ2 H4 ⟨⟨e4, n4⟩, rfl⟩
    refine ⟨fun σ2 H5 => (Ex H H5 ∧ (wh ≤ 3 → ∀ H', Ex H5 H' → Q .non H')) ∧ σ2 = [some (.int wh), some (.int links), some (.ref p), some (.int amount), some (.ref r)], ?_, ?_⟩
    · refine ⟨_, rfl, rfl, _, rfl, ?_⟩
      refine iteE (fun h => ?_) (fun h => ⟨⟨e4, fun z => n4 (by omega)⟩, rfl⟩)
      refine ⟨_, rfl, _, rfl, _, rfl, links, p, ns, r, hs, rfl, hp.ex e4, hh.ex e4, fun _ _ => ⟨fun h8 => ⟨fun h9 H1 e1 => (q H1 (e4.trans e1)).2.2.2.2.1 h h8 h9, fun h9 _ H1 e1 => ((q H1 (e4.trans e1)).2.2.2.2.2 h h8 h9).2, fun h9 _ t g b H1 rs _ _ _ _ e1 _ _ _ _ => ⟨⟨e4.trans e1, fun _ => mid 3 H1 (e4.trans e1) (by omega) h8 (fun z => absurd z (by omega)) (fun _ => h9) (by decide)⟩, rfl⟩⟩, fun h8 => (q _ e4).2.1 (by omega) h8⟩, fun z => absurd hr1 z, fun _ z => absurd hok z⟩
    rintro σ2 H5 ⟨⟨e5, n5⟩, rfl⟩
    refine ⟨_, rfl, rfl, _, rfl, ?_⟩
    refine iteE (fun h => ?_) (fun h => n5 (by omega) _ (Evl.Ex.refl _))
    refine ⟨_, rfl, _, _, rfl, rfl, 23 + links, rfl, fun z => absurd z.2 (by omega), fun z => absurd ?_ z, fun _ => (q _ e5).1 h⟩
    exact ⟨by omega, by omega⟩
end
/-! what kind of error it is -/
section
variable {P : Program} {w : World} {K : PySem.W.Frag} {mg : Str → Option Value} {base : Heap}
theorem ok_law_other {f : Addr} {fd : FuncData} (F : Fun K "_law_other" "_law_other" s_law_other f fd) (T : Bl mg) (X_NoRow : Exo K mg "NoRow") (X_NoOpened : Exo K mg "NoOpened") (X_TooMany : Exo K mg "TooMany") (X_NoAmount : Exo K mg "NoAmount") (X_NoPayment : Exo K mg "NoPayment") (X_NoCount : Exo K mg "NoCount") (X_NoNote : Exo K mg "NoNote") (X_PayError : Exo K mg "PayError") : FnE P w K mg base (L2N.CX P w) 1 f fd ["e", "wanted"] (sp_law_other K X_NoRow.C X_NoOpened.C X_TooMany.C X_NoAmount.C X_NoPayment.C X_NoCount.C X_NoNote.C X_PayError.C) := by
  refine Fun.okE F sc_law_other (fun a c d vs H Q E h => ?_) (fun cdv A fr s H vs Q E q c d hot hz room h => ?_)
  · obtain ⟨k, D, i, rfl, _⟩ := h
    rfl
  · obtain ⟨k, D, i, rfl, rfl, rfl, er, fin⟩ := h
    have hf : ∃ vs, q.2.data = .fields vs := by
      obtain ⟨_, vs, e, _⟩ := hot
      exact ⟨vs, e⟩
    have hun : (A.deeper (envOfC "_law_other" (defScope s_law_other) s.heap.objs.size f cdv)).units + 64 < cLine := by
      have := room.un
      omega
    have hm : q ∈ [q] := List.mem_singleton.mpr rfl
    refine ⟨_, (pss_cons (ps_set (i := 2) sc_law_other.nd rfl (.inl rfl) (pe_lst (pa_cons (pe_callB (call_isH (a := q.1) (oe := q.2) er.ec hz.zc hf hm) (by rfl) T.b_isinstance (by decide +kernel) (pa_cons (pv 0) (pa_cons (pe_glob (v := .ref X_NoRow.C) (by rfl) X_NoRow.gC rfl) pa_nil))) (pa_cons (pe_callB (call_isH (a := q.1) (oe := q.2) er.ec hz.zc hf hm) (by rfl) T.b_isinstance (by decide +kernel) (pa_cons (pv 0) (pa_cons (pe_glob (v := .ref X_NoOpened.C) (by rfl) X_NoOpened.gC rfl) pa_nil))) (pa_cons (pe_callB (call_isH (a := q.1) (oe := q.2) er.ec hz.zc hf hm) (by rfl) T.b_isinstance (by decide +kernel) (pa_cons (pv 0) (pa_cons (pe_glob (v := .ref X_TooMany.C) (by rfl) X_TooMany.gC rfl) pa_nil))) (pa_cons (pe_callB (call_isH (a := q.1) (oe := q.2) er.ec hz.zc hf hm) (by rfl) T.b_isinstance (by decide +kernel) (pa_cons (pv 0) (pa_cons (pe_glob (v := .ref X_NoAmount.C) (by rfl) X_NoAmount.gC rfl) pa_nil))) pa_nil))))))
      (pss_cons (ps_set (i := 2) sc_law_other.nd rfl (.inl rfl) (pe_op op_cat (pv 2) (pe_lst (pa_cons (pe_callB (call_isH (a := q.1) (oe := q.2) er.ec hz.zc hf hm) (by rfl) T.b_isinstance (by decide +kernel) (pa_cons (pv 0) (pa_cons (pe_glob (v := .ref X_NoPayment.C) (by rfl) X_NoPayment.gC rfl) pa_nil))) (pa_cons (pe_callB (call_isH (a := q.1) (oe := q.2) er.ec hz.zc hf hm) (by rfl) T.b_isinstance (by decide +kernel) (pa_cons (pv 0) (pa_cons (pe_glob (v := .ref X_NoCount.C) (by rfl) X_NoCount.gC rfl) pa_nil))) (pa_cons (pe_callB (call_isH (a := q.1) (oe := q.2) er.ec hz.zc hf hm) (by rfl) T.b_isinstance (by decide +kernel) (pa_cons (pv 0) (pa_cons (pe_glob (v := .ref X_NoNote.C) (by rfl) X_NoNote.gC rfl) pa_nil))) pa_nil))))))
      (pss_one (ps_ret (pe_or (pe_cmpR (op_neD hun) (pv 2) (pe_lcH (own := [("k", 3)]) (q := q) sc_law_other.nd hot hm (by rfl) T.b_range (pa_cons pe_int pa_nil) (blkOk_by (N := ["e", "wanted", "marks", "k"]) (sc := defScope s_law_other) (by decide +kernel)) (fun _ _ _ _ _ => (pg_name (i := 3) sc_law_other.nd rfl (.inl rfl))) (fun _ _ _ _ _ => pts_nil) (fun _ _ _ _ _ => (pe_cmpR op_eq (pv 3) (pv 1) (nomark _)))) (nomark _)) (pe_one (pe_not (pe_callB (call_isH (a := q.1) (oe := q.2) er.ec hz.zc hf hm) (by rfl) T.b_isinstance (by decide +kernel) (pa_cons (pv 0) (pa_cons (pe_bltn (v := .ty "ValueError") (by rfl) T.b_ValueError (by decide +kernel) rfl) pa_nil)))))))))), ?_⟩
    refine ⟨_, rfl, _, _, _, rfl, fun _ z => z, er.k0, _, rfl, _, _, _, rfl, fun _ z => z, er.k1, _, rfl, _, _, _, rfl, fun _ z => z, er.k2, _, rfl, _, _, _, rfl, fun _ z => z, er.k3, (by show 4 ≤ sizeLine; decide), fun p np => ?_⟩
    obtain ⟨e1, h1⟩ := nw np (.lst [.bl (decide (i = 0)), .bl (decide (i = 1)), .bl (decide (i = 2)), .bl (decide (i = 3))])
    refine ⟨_, rfl, _, rfl, _, _, _, rfl, fun _ z => z, er.k4, _, rfl, _, _, _, rfl, fun _ z => z, er.k5, _, rfl, _, _, _, rfl, fun _ z => z, er.k6, (by show 3 ≤ sizeLine; decide), fun p2 np2 => ?_⟩
    obtain ⟨e2, h2⟩ := nw np2 (.lst [.bl (decide (i = 4)), .bl (decide (i = 5)), .bl (decide (i = 6))])
    refine ⟨p, p2, _, _, rfl, rfl, e2 _ _ h1, h2, (by show 7 ≤ sizeLine; decide), fun m nm => ?_⟩
    obtain ⟨e3, h3⟩ := nw nm (.lst ([decide (i = 0), decide (i = 1), decide (i = 2), decide (i = 3), decide (i = 4), decide (i = 5), decide (i = 6)].map V.bl))
    refine ⟨_, rfl, 7, rfl, by decide, by decide, fun D2 nD => lc_rangeV nD (by decide) (fun _ => true) (fun j => .bl (decide (0 + (j : Int) = k))) ?_ ?_⟩
    · intro j H4 hj e4 Y Z hY hZ
      have hj2 : (fun (x : V) => decide (x = .int k)) (.int (0 + (j : Int))) = decide (0 + (j : Int) = k) := by
        by_cases c : 0 + (j : Int) = k
        · simp [c]
        · simp [c]
      refine ⟨rfl, _, rfl, _, rfl, rfl, ?_⟩
      have := hY rfl H4 (Evl.Ex.refl _)
      rw [← hj2] at this
      exact this
    · intro H4 hD e4
      have e14 := ((e1.trans e2).trans e3).trans e4
      have hD2 : H4 D2 = some (.lst (((List.range 7).map fun (j : Nat) => decide (0 + (j : Int) = k)).map V.bl)) := hD
      refine ⟨bolsD [decide (i = 0), decide (i = 1), decide (i = 2), decide (i = 3), decide (i = 4), decide (i = 5), decide (i = 6)], bolsD ((List.range 7).map fun (j : Nat) => decide (0 + (j : Int) = k)), .lst (.inl (.inl (e4 _ _ h3))) (dpAllBols _), .lst (.inl (.inl hD2)) (dpAllBols _), shBols _, shBols _, ?_⟩
      rw [eqvBolsD, marks_eq er.lt]
      refine ⟨_, rfl, iteB _ (fun z => ?_) (fun z => ?_)⟩
      · rw [← z]
        exact fin _ e14
      · refine ⟨_, rfl, _, _, _, rfl, fun _ y => y, er.kv, _, rfl, ?_⟩
        have := fin _ e14
        rw [z] at this
        exact this
end
def TellK (links : Int) (ns : List Int) (amount : Int) (hs : List Int) (wh fd : Int) : Prop := (wh = 4 → fd = 5) ∧ (wh ≠ 4 → ¬ ns.length ≤ 8 → fd = 2) ∧ (wh < 3 → ns.length ≤ 8 → ¬ (0 ≤ amount ∧ amount ≤ links) → fd = 3) ∧ (wh < 3 → ns.length ≤ 8 → 0 ≤ amount ∧ amount ≤ links → fd = 0) ∧
  (wh = 3 → ns.length ≤ 8 → ¬ Rising ((pcs links ns).length : Int) (-1) hs → fd = 3) ∧ (wh = 3 → ns.length ≤ 8 → Rising ((pcs links ns).length : Int) (-1) hs → fd = 0 ∨ fd = 4)
def sp_law_told : Sp := fun vs H Q _ => ∃ (wh links : Int) (p : Addr) (ns : List Int) (amount : Int) (r : Addr) (hs : List Int), vs = [.int wh, .int links, .ref p, .int amount, .ref r] ∧ Ints H p ns ∧ Ints H r hs ∧ 0 ≤ wh ∧ wh < 5 ∧ 1 ≤ links ∧ links ≤ 40 ∧ OpenOk links ns ∧
  ∀ fd H', Ex H H' → TellK links ns amount hs wh fd → Q (.int fd) H'
section
variable {P : Program} {w : World} {K : PySem.W.Frag} {mg : Str → Option Value} {base : Heap}
theorem ok_law_told {f : Addr} {fd : FuncData} (F : Fun K "_law_told" "_law_told" s_law_told f fd) (T : Bl mg) (X_PayError : Exo K mg "PayError") (X_NoRow : Exo K mg "NoRow") (X_NoOpened : Exo K mg "NoOpened") (X_TooMany : Exo K mg "TooMany") (X_NoAmount : Exo K mg "NoAmount") (X_NoPayment : Exo K mg "NoPayment") (X_NoCount : Exo K mg "NoCount") (X_NoNote : Exo K mg "NoNote") (R_TooMany : ErrOk K X_NoRow.C X_NoOpened.C X_TooMany.C X_NoAmount.C X_NoPayment.C X_NoCount.C X_NoNote.C X_PayError.C X_TooMany.C 2) (R_NoAmount : ErrOk K X_NoRow.C X_NoOpened.C X_TooMany.C X_NoAmount.C X_NoPayment.C X_NoCount.C X_NoNote.C X_PayError.C X_NoAmount.C 3) (R_NoPayment : ErrOk K X_NoRow.C X_NoOpened.C X_TooMany.C X_NoAmount.C X_NoPayment.C X_NoCount.C X_NoNote.C X_PayError.C X_NoPayment.C 4) (R_NoCount : ErrOk K X_NoRow.C X_NoOpened.C X_TooMany.C X_NoAmount.C X_NoPayment.C X_NoCount.C X_NoNote.C X_PayError.C X_NoCount.C 5) (C_law_called : CalN P w K mg base 7 "_law_called" ["which", "links", "opened", "amount", "held"] (sp_law_called X_NoRow.C X_NoOpened.C X_TooMany.C X_NoAmount.C X_NoPayment.C X_NoCount.C)) (C_law_other : CalE P w K mg base 1 "_law_other" ["e", "wanted"] (sp_law_other K X_NoRow.C X_NoOpened.C X_TooMany.C X_NoAmount.C X_NoPayment.C X_NoCount.C X_NoNote.C X_PayError.C)) : FnOk P w K mg base (L2N.CX P w) 8 f fd ["which", "links", "opened", "amount", "held"] (sp_law_told ) := by
  refine Fun.okN F sc_law_told (fun vs H Q E h => ?_) (fun cdv A outer s H vs Q E hr h => ?_)
  · obtain ⟨wh, links, p, ns, amount, r, hs, rfl, _⟩ := h
    rfl
  · obtain ⟨wh, links, p, ns, amount, r, hs, rfl, hp, hh, hw0, hw5, hl1, hl2, hok, q⟩ := h
    have hu := hu_of hr
    refine ⟨_, (pss_cons (L2N.ps_try_as (i := 5) rfl rfl sc_law_told.nd rfl rfl ⟨rfl, by decide, .inl X_PayError.gC⟩ (L2N.takes_of rfl rfl rfl rfl)
      (fun W pn xe tk own => (pss_one (ps_expr (pe_callS C_law_called.ok (hr.mono (by decide)) (by rfl) C_law_called.gl C_law_called.kp C_law_called.bd (fun σ => L2N.passAt tk σ) (pa_cons (pv 0) (pa_cons (pv 1) (pa_cons (pv 2) (pa_cons (pv 3) (pa_cons (pv 4) pa_nil)))))))))
      (fun a oe cls d pn hz hf => (pss_cons (L2H.ps_forH PassesOwn.never ⟨_, hot_suite hz hf, List.mem_cons_self⟩ (pi_listH K rfl (pe_lst (pa_cons pe_int (pa_cons pe_int (pa_cons pe_int (pa_cons pe_int pa_nil)))))) (pg_name (i := 6) sc_law_told.nd rfl (.inl rfl))
      (pss_one (ps_if (pt_not (pt_val (pe_callE (a := a) (oe := oe) (c := cls) (d := d) C_law_other.ok (roomH_mark (L2H.roomH_of (hr.mono (by decide)))) (hot_suite hz hf) hz List.mem_cons_self (by rfl) C_law_other.gl C_law_other.kp C_law_other.bd passHN (pa_cons (pv 5) (pa_cons (pv 6) pa_nil)))))
      (pss_one (ps_ret (pv 6))) pss_nil)))
      (pss_one (ps_ret pe_int)))))
      (pss_one (ps_ret pe_int))), ?_⟩
    refine ⟨_, rfl, _, rfl, _, rfl, _, rfl, _, rfl, wh, links, p, ns, amount, r, hs, rfl, hp, hh, hw0, hw5, hl1, hl2, hok, fun H1 e1 => ⟨fun h4 => ⟨true, R_NoCount.px, fun _ a na => ?_, fun z => nomatch z⟩, fun h4 h8 => ⟨true, R_TooMany.px, fun _ a na => ?_, fun z => nomatch z⟩, fun h3 h8 ha => ⟨true, R_NoAmount.px, fun _ a na => ?_, fun z => nomatch z⟩, fun h3 h8 ha => q 0 H1 e1 ?_, fun h3 h8 hr => ⟨true, R_NoAmount.px, fun _ a na => ?_, fun z => nomatch z⟩, fun h3 h8 hr => ⟨q 0 H1 e1 ?_, true, R_NoPayment.px, fun _ a na => ?_, fun z => nomatch z⟩⟩⟩
    · refine ⟨(by show 4 ≤ sizeLine; decide), fun l nl => ?_⟩
      obtain ⟨e2, hl⟩ := nw nl (.lst [.int 2, .int 3, .int 4, .int 5])
      refine ⟨l, rfl, ⟨_, .inl (.inl hl)⟩, ?_⟩
      refine for_listH (xs := [.int 2, .int 3, .int 4, .int 5]) (fun j σ' H' => Ex (upd H1 l (.lst [.int 2, .int 3, .int 4, .int 5])) H' ∧ j ≤ 3 ∧ ∃ v, σ' = [some (.int wh), some (.int links), some (.ref p), some (.int amount), some (.ref r), some (.ref a), v]) ⟨Evl.Ex.refl _, by decide, none, rfl⟩ (fun j σ' H' ⟨e, _⟩ => .inl (.inl (e _ _ hl))) (fun j σ' H' ⟨_, z, _⟩ => by show j < 4; omega) ?_
      rintro j x σ' H' hx ⟨e3, hj, v, rfl⟩
      have hx2 : x = .int (2 + (j : Int)) := by
        have hj4 : j = 0 ∨ j = 1 ∨ j = 2 ∨ j = 3 := by omega
        rcases hj4 with rfl | rfl | rfl | rfl
        · exact (Option.some.inj hx).symm
        · exact (Option.some.inj hx).symm
        · exact (Option.some.inj hx).symm
        · exact (Option.some.inj hx).symm
      subst hx2
      refine ⟨_, rfl, _, rfl, 2 + (j : Int), _, 5, rfl, rfl, rfl, R_NoCount, fun H4 e4 => ⟨_, rfl, ?_⟩⟩
      by_cases c : (2 : Int) + (j : Int) = ((5 : Nat) : Int)
      · rw [decide_eq_true c]
        refine iteT ⟨_, rfl, ?_⟩
        rw [c]
        exact q 5 _ (((e1.trans e2).trans e3).trans e4) ⟨fun _ => rfl, fun z => absurd h4 z, fun z => absurd z (by omega), fun z => absurd z (by omega), fun z => absurd z (by omega), fun z => absurd z (by omega)⟩
      · rw [decide_eq_false c]
        exact iteF ⟨e3.trans e4, by omega, _, rfl⟩
    · refine ⟨(by show 4 ≤ sizeLine; decide), fun l nl => ?_⟩
      obtain ⟨e2, hl⟩ := nw nl (.lst [.int 2, .int 3, .int 4, .int 5])
      refine ⟨l, rfl, ⟨_, .inl (.inl hl)⟩, ?_⟩
      refine for_listH (xs := [.int 2, .int 3, .int 4, .int 5]) (fun j σ' H' => Ex (upd H1 l (.lst [.int 2, .int 3, .int 4, .int 5])) H' ∧ j ≤ 0 ∧ ∃ v, σ' = [some (.int wh), some (.int links), some (.ref p), some (.int amount), some (.ref r), some (.ref a), v]) ⟨Evl.Ex.refl _, by decide, none, rfl⟩ (fun j σ' H' ⟨e, _⟩ => .inl (.inl (e _ _ hl))) (fun j σ' H' ⟨_, z, _⟩ => by show j < 4; omega) ?_
      rintro j x σ' H' hx ⟨e3, hj, v, rfl⟩
      have hx2 : x = .int (2 + (j : Int)) := by
        have hj4 : j = 0 ∨ j = 1 ∨ j = 2 ∨ j = 3 := by omega
        rcases hj4 with rfl | rfl | rfl | rfl
        · exact (Option.some.inj hx).symm
        · exact (Option.some.inj hx).symm
        · exact (Option.some.inj hx).symm
        · exact (Option.some.inj hx).symm
      subst hx2
      refine ⟨_, rfl, _, rfl, 2 + (j : Int), _, 2, rfl, rfl, rfl, R_TooMany, fun H4 e4 => ⟨_, rfl, ?_⟩⟩
      by_cases c : (2 : Int) + (j : Int) = ((2 : Nat) : Int)
      · rw [decide_eq_true c]
        refine iteT ⟨_, rfl, ?_⟩
        rw [c]
        exact q 2 _ (((e1.trans e2).trans e3).trans e4) ⟨fun z => absurd z h4, fun _ _ => rfl, fun _ z => absurd z h8, fun _ z => absurd z h8, fun _ z => absurd z h8, fun _ z => absurd z h8⟩
      · rw [decide_eq_false c]
        exact iteF ⟨e3.trans e4, by omega, _, rfl⟩
    · refine ⟨(by show 4 ≤ sizeLine; decide), fun l nl => ?_⟩
      obtain ⟨e2, hl⟩ := nw nl (.lst [.int 2, .int 3, .int 4, .int 5])
      refine ⟨l, rfl, ⟨_, .inl (.inl hl)⟩, ?_⟩
      refine for_listH (xs := [.int 2, .int 3, .int 4, .int 5]) (fun j σ' H' => Ex (upd H1 l (.lst [.int 2, .int 3, .int 4, .int 5])) H' ∧ j ≤ 1 ∧ ∃ v, σ' = [some (.int wh), some (.int links), some (.ref p), some (.int amount), some (.ref r), some (.ref a), v]) ⟨Evl.Ex.refl _, by decide, none, rfl⟩ (fun j σ' H' ⟨e, _⟩ => .inl (.inl (e _ _ hl))) (fun j σ' H' ⟨_, z, _⟩ => by show j < 4; omega) ?_
      rintro j x σ' H' hx ⟨e3, hj, v, rfl⟩
      have hx2 : x = .int (2 + (j : Int)) := by
        have hj4 : j = 0 ∨ j = 1 ∨ j = 2 ∨ j = 3 := by omega
        rcases hj4 with rfl | rfl | rfl | rfl
        · exact (Option.some.inj hx).symm
        · exact (Option.some.inj hx).symm
        · exact (Option.some.inj hx).symm
        · exact (Option.some.inj hx).symm
      subst hx2
      refine ⟨_, rfl, _, rfl, 2 + (j : Int), _, 3, rfl, rfl, rfl, R_NoAmount, fun H4 e4 => ⟨_, rfl, ?_⟩⟩
      by_cases c : (2 : Int) + (j : Int) = ((3 : Nat) : Int)
      · rw [decide_eq_true c]
        refine iteT ⟨_, rfl, ?_⟩
        rw [c]
        exact q 3 _ (((e1.trans e2).trans e3).trans e4) ⟨fun z => absurd z (by omega), fun _ z => absurd h8 z, fun _ _ _ => rfl, fun _ _ z => absurd z ha, fun z => absurd z (by omega), fun z => absurd z (by omega)⟩
      · rw [decide_eq_false c]
        exact iteF ⟨e3.trans e4, by omega, _, rfl⟩
    · exact ⟨fun z => absurd z (by omega), fun _ z => absurd h8 z, fun _ _ z => absurd ha z, fun _ _ _ => rfl, fun z => absurd z (by omega), fun z => absurd z (by omega)⟩
    · refine ⟨(by show 4 ≤ sizeLine; decide), fun l nl => ?_⟩
      obtain ⟨e2, hl⟩ := nw nl (.lst [.int 2, .int 3, .int 4, .int 5])
      refine ⟨l, rfl, ⟨_, .inl (.inl hl)⟩, ?_⟩
      refine for_listH (xs := [.int 2, .int 3, .int 4, .int 5]) (fun j σ' H' => Ex (upd H1 l (.lst [.int 2, .int 3, .int 4, .int 5])) H' ∧ j ≤ 1 ∧ ∃ v, σ' = [some (.int wh), some (.int links), some (.ref p), some (.int amount), some (.ref r), some (.ref a), v]) ⟨Evl.Ex.refl _, by decide, none, rfl⟩ (fun j σ' H' ⟨e, _⟩ => .inl (.inl (e _ _ hl))) (fun j σ' H' ⟨_, z, _⟩ => by show j < 4; omega) ?_
      rintro j x σ' H' hx ⟨e3, hj, v, rfl⟩
      have hx2 : x = .int (2 + (j : Int)) := by
        have hj4 : j = 0 ∨ j = 1 ∨ j = 2 ∨ j = 3 := by omega
        rcases hj4 with rfl | rfl | rfl | rfl
        · exact (Option.some.inj hx).symm
        · exact (Option.some.inj hx).symm
        · exact (Option.some.inj hx).symm
        · exact (Option.some.inj hx).symm
      subst hx2
      refine ⟨_, rfl, _, rfl, 2 + (j : Int), _, 3, rfl, rfl, rfl, R_NoAmount, fun H4 e4 => ⟨_, rfl, ?_⟩⟩
      by_cases c : (2 : Int) + (j : Int) = ((3 : Nat) : Int)
      · rw [decide_eq_true c]
        refine iteT ⟨_, rfl, ?_⟩
        rw [c]
        exact q 3 _ (((e1.trans e2).trans e3).trans e4) ⟨fun z => absurd z (by omega), fun _ z => absurd h8 z, fun z => absurd z (by omega), fun z => absurd z (by omega), fun _ _ _ => rfl, fun _ _ z => absurd z hr⟩
      · rw [decide_eq_false c]
        exact iteF ⟨e3.trans e4, by omega, _, rfl⟩
    · exact ⟨fun z => absurd z (by omega), fun _ z => absurd h8 z, fun z => absurd z (by omega), fun z => absurd z (by omega), fun _ _ z => absurd hr z, fun _ _ _ => .inl rfl⟩
    · refine ⟨(by show 4 ≤ sizeLine; decide), fun l nl => ?_⟩
      obtain ⟨e2, hl⟩ := nw nl (.lst [.int 2, .int 3, .int 4, .int 5])
      refine ⟨l, rfl, ⟨_, .inl (.inl hl)⟩, ?_⟩
      refine for_listH (xs := [.int 2, .int 3, .int 4, .int 5]) (fun j σ' H' => Ex (upd H1 l (.lst [.int 2, .int 3, .int 4, .int 5])) H' ∧ j ≤ 2 ∧ ∃ v, σ' = [some (.int wh), some (.int links), some (.ref p), some (.int amount), some (.ref r), some (.ref a), v]) ⟨Evl.Ex.refl _, by decide, none, rfl⟩ (fun j σ' H' ⟨e, _⟩ => .inl (.inl (e _ _ hl))) (fun j σ' H' ⟨_, z, _⟩ => by show j < 4; omega) ?_
      rintro j x σ' H' hx ⟨e3, hj, v, rfl⟩
      have hx2 : x = .int (2 + (j : Int)) := by
        have hj4 : j = 0 ∨ j = 1 ∨ j = 2 ∨ j = 3 := by omega
        rcases hj4 with rfl | rfl | rfl | rfl
        · exact (Option.some.inj hx).symm
        · exact (Option.some.inj hx).symm
        · exact (Option.some.inj hx).symm
        · exact (Option.some.inj hx).symm
      subst hx2
      refine ⟨_, rfl, _, rfl, 2 + (j : Int), _, 4, rfl, rfl, rfl, R_NoPayment, fun H4 e4 => ⟨_, rfl, ?_⟩⟩
      by_cases c : (2 : Int) + (j : Int) = ((4 : Nat) : Int)
      · rw [decide_eq_true c]
        refine iteT ⟨_, rfl, ?_⟩
        rw [c]
        exact q 4 _ (((e1.trans e2).trans e3).trans e4) ⟨fun z => absurd z (by omega), fun _ z => absurd h8 z, fun z => absurd z (by omega), fun z => absurd z (by omega), fun _ _ z => absurd hr z, fun _ _ _ => .inr rfl⟩
      · rw [decide_eq_false c]
        exact iteF ⟨e3.trans e4, by omega, _, rfl⟩
end
def DueK (links : Int) (ns : List Int) (amount : Int) (hs : List Int) (wh due : Int) : Prop := (wh = 4 → due = 5) ∧ (wh ≠ 4 → ¬ ns.length ≤ 8 → due = 2) ∧ (wh < 3 → ns.length ≤ 8 → ¬ (0 ≤ amount ∧ amount ≤ links) → due = 3) ∧ (wh < 3 → ns.length ≤ 8 → 0 ≤ amount ∧ amount ≤ links → due = 0) ∧
  (wh = 3 → ns.length ≤ 8 → ¬ Rising ((pcs links ns).length : Int) (-1) hs → due = 3) ∧ (wh = 3 → ns.length ≤ 8 → Rising ((pcs links ns).length : Int) (-1) hs → due = 0)
def sp_law (K : PySem.W.Frag) : Sp := fun vs H Q _ => ∃ (a : Addr) (ns : List Int), vs = [.ref a] ∧ SqL K H a (ns.map V.int) ∧ ∀ H', Q (.bl true) H'
theorem at2v {a b k : Int} (h0 : 0 ≤ k) (h1 : k < 2) : ∃ v : Int, atI [V.int a, V.int b] k = some (V.int v) := by
  have e : k = 0 ∨ k = 1 := by omega
  rcases e with e | e
  · exact ⟨a, by rw [e]; rfl⟩
  · exact ⟨b, by rw [e]; rfl⟩
theorem rising_filter {links l2 : Int} : ∀ {b : Int} {os : List Int}, Rising links b os → Rising l2 b (os.filter fun x => decide (x < l2))
  | _, [], _ => trivial
  | b, l :: r, h => by
    rw [List.filter_cons]
    by_cases c : l < l2
    · rw [if_pos (decide_eq_true c)]
      exact ⟨h.1, c, rising_filter h.2.2⟩
    · rw [if_neg (by rw [decide_eq_false c]; exact Bool.false_ne_true)]
      have e : r.filter (fun x => decide (x < l2)) = [] := by
        refine List.filter_eq_nil_iff.mpr fun x hx => ?_
        have := (rising_up h.2.2).2 x hx
        rw [decide_eq_false (by omega)]
        exact Bool.false_ne_true
      rw [e]
      trivial
theorem tell_due {links : Int} {ns : List Int} {amount : Int} {hs : List Int} {wh due fd : Int} (h0 : wh < 5) (d : DueK links ns amount hs wh due) (t : TellK links ns amount hs wh fd) : fd = due ∨ (wh = 3 ∧ due = 0 ∧ fd = 4) := by
  obtain ⟨d1, d2, d3, d4, d5, d6⟩ := d
  obtain ⟨t1, t2, t3, t4, t5, t6⟩ := t
  by_cases h4 : wh = 4
  · rw [d1 h4, t1 h4]
    exact .inl rfl
  · by_cases h8 : ns.length ≤ 8
    · by_cases h3 : wh = 3
      · by_cases hr : Rising ((pcs links ns).length : Int) (-1) hs
        · have := d6 h3 h8 hr
          rcases t6 h3 h8 hr with z | z
          · left
            omega
          · right
            exact ⟨h3, this, z⟩
        · rw [d5 h3 h8 hr, t5 h3 h8 hr]
          exact .inl rfl
      · have h5 : wh < 3 := by omega
        by_cases ha : 0 ≤ amount ∧ amount ≤ links
        · rw [d4 h5 h8 ha, t4 h5 h8 ha]
          exact .inl rfl
        · rw [d3 h5 h8 ha, t3 h5 h8 ha]
          exact .inl rfl
    · rw [d2 h4 h8, t2 h4 h8]
      exact .inl rfl
section
variable {P : Program} {w : World} {K : PySem.W.Frag} {mg : Str → Option Value} {base : Heap}
theorem ok_law {f : Addr} {fd : FuncData} (F : Fun K "law" "law" s_law f fd) (T : Bl mg) (C_law_row_by : CalN P w K mg base 2 "_law_row_by" ["script", "most"] (sp_law_row_by K)) (C_law_pieces : CalN P w K mg base 1 "_law_pieces" ["links", "opened"] (sp_law_pieces )) (C_law_held_by : CalN P w K mg base 2 "_law_held_by" ["script", "size"] (sp_law_held_by K)) (C_law_cell_at : CalN P w K mg base 1 "_law_cell_at" ["script", "k"] (sp_law_cell_at K)) (C_law_told : CalN P w K mg base 8 "_law_told" ["which", "links", "opened", "amount", "held"] (sp_law_told )) : FnOk P w K mg base (L2N.CX P w) 9 f fd ["script"] (sp_law K) := by
  refine Fun.okN F sc_law (fun vs H Q E h => ?_) (fun cdv A outer s H vs Q E hr h => ?_)
  · obtain ⟨a, ns, rfl, _⟩ := h
    rfl
  · obtain ⟨a, ns, rfl, hS, q⟩ := h
    have hu := hu_of hr
    refine ⟨_, (pss_cons (ps_asg (pe_call C_law_row_by.ok (hr.mono (by decide)) (by rfl) C_law_row_by.gl C_law_row_by.kp C_law_row_by.bd .nil (L2N.passes_call (L2N.takes_of rfl rfl rfl rfl) (fun _ _ _ _ h => h)) (pa_cons (pv 0) (pa_cons pe_int pa_nil))) (pg_tup rfl (pgs_cons (pg_name (i := 1) sc_law.nd rfl (.inr rfl)) (pgs_cons (pg_name (i := 2) sc_law.nd rfl (.inl rfl)) pgs_nil))))
      (Evl.pss_cut (ps_if (pt_cmpR op_gt (pv 1) pe_int (nomark _))
      (pss_cons (ps_set (i := 1) sc_law.nd rfl (.inr rfl) (pe_op op_add pe_int (pe_op op_mod (pv 1) pe_int)))
      (pss_one (ps_setLc (i := 2) (own := [("link", 11)]) rfl sc_law.nd rfl rfl (sw_true rfl rfl rfl (by decide +kernel)) (pi_list (pv 2)) (blkOk_by (N := ["script", "links", "opened", "size", "held", "amount", "which", "due", "rising", "handed", "found", "link", "number"]) (sc := defScope s_law) (by decide +kernel)) (fun _ _ _ _ _ => (pg_name (i := 11) sc_law.nd rfl (.inl rfl))) (fun _ _ _ _ _ => (pts_one (pt_cmpR op_lt (pv 11) (pv 1) (nomark _)))) (fun _ _ _ _ _ => (pv 11))))) pss_nil)
      (pss_cons (ps_set (i := 3) sc_law.nd rfl (.inr rfl) (pe_callB call_len_seq (by rfl) T.b_len (by decide +kernel) (pa_cons (pe_call C_law_pieces.ok (hr.mono (by decide)) (by rfl) C_law_pieces.gl C_law_pieces.kp C_law_pieces.bd .nil (L2N.passes_call (L2N.takes_of rfl rfl rfl rfl) (fun _ _ _ _ h => h)) (pa_cons (pv 1) (pa_cons (pv 2) pa_nil))) pa_nil)))
      (pss_cons (ps_set (i := 4) sc_law.nd rfl (.inl rfl) (pe_call C_law_held_by.ok (hr.mono (by decide)) (by rfl) C_law_held_by.gl C_law_held_by.kp C_law_held_by.bd .nil (L2N.passes_call (L2N.takes_of rfl rfl rfl rfl) (fun _ _ _ _ h => h)) (pa_cons (pv 0) (pa_cons (pv 3) pa_nil))))
      (pss_cons (ps_set (i := 5) sc_law.nd rfl (.inl rfl) (pe_op op_sub (pe_op op_mod (pe_call C_law_cell_at.ok (hr.mono (by decide)) (by rfl) C_law_cell_at.gl C_law_cell_at.kp C_law_cell_at.bd .nil (L2N.passes_call (L2N.takes_of rfl rfl rfl rfl) (fun _ _ _ _ h => h)) (pa_cons (pv 0) (pa_cons pe_int pa_nil))) (pe_op op_add (pv 1) pe_int)) pe_int))
      (Evl.pss_cut (ps_if (pt_cmpR op_eq (pe_op op_mod (pe_call C_law_cell_at.ok (hr.mono (by decide)) (by rfl) C_law_cell_at.gl C_law_cell_at.kp C_law_cell_at.bd .nil (L2N.passes_call (L2N.takes_of rfl rfl rfl rfl) (fun _ _ _ _ h => h)) (pa_cons (pv 0) (pa_cons pe_int pa_nil))) pe_int) pe_int (nomark _))
      (pss_one (ps_set (i := 5) sc_law.nd rfl (.inl rfl) (pe_ix ix_list (pe_lst (pa_cons (pe_op op_sub (pe_un un_neg pe_int) (pe_op op_pow pe_int pe_int)) (pa_cons (pe_op op_add (pv 1) (pe_op op_pow pe_int pe_int)) pa_nil))) (pe_op op_mod (pe_call C_law_cell_at.ok (hr.mono (by decide)) (by rfl) C_law_cell_at.gl C_law_cell_at.kp C_law_cell_at.bd .nil (L2N.passes_call (L2N.takes_of rfl rfl rfl rfl) (fun _ _ _ _ h => h)) (pa_cons (pv 0) (pa_cons pe_int pa_nil))) pe_int) (fun _ _ => rfl)))) pss_nil)
      (pss_cons (ps_set (i := 6) sc_law.nd rfl (.inl rfl) (pe_op op_mod (pe_call C_law_cell_at.ok (hr.mono (by decide)) (by rfl) C_law_cell_at.gl C_law_cell_at.kp C_law_cell_at.bd .nil (L2N.passes_call (L2N.takes_of rfl rfl rfl rfl) (fun _ _ _ _ h => h)) (pa_cons (pv 0) (pa_cons pe_int pa_nil))) pe_int))
      (pss_cons (ps_set (i := 7) sc_law.nd rfl (.inl rfl) pe_int)
      (Evl.pss_cut (ps_if (PW.pt (pw_and (pt_cmpR op_lt (pv 6) pe_int (nomark _)) (pw_and1 (pt_not (pt_chain op_le op_le pe_int (pv 5) (pv 1))))))
      (pss_one (ps_set (i := 7) sc_law.nd rfl (.inl rfl) pe_int)) pss_nil)
      (Evl.pss_cut (ps_if (pt_cmpR op_eq (pv 6) pe_int (nomark _))
      (pss_cons (ps_set (i := 8) sc_law.nd rfl (.inl rfl) (pe_and (pe_cmpR (op_eqD hr.units) (pv 4) (pe_callB (cr_sortSet rfl) (by rfl) T.b_sorted (by decide +kernel) (pa_cons (pe_callTy (cr_setI rfl) (by rfl) T.b_set (by decide +kernel) (pa_cons (pv 4) pa_nil)) pa_nil)) (nomark _)) (pe_one (pe_cmpR op_eq (pe_callB call_len_seq (by rfl) T.b_len (by decide +kernel) (pa_cons (pe_lc (own := [("number", 12)]) rfl sc_law.nd (pi_list (pv 4)) (blkOk_by (N := ["script", "links", "opened", "size", "held", "amount", "which", "due", "rising", "handed", "found", "link", "number"]) (sc := defScope s_law) (by decide +kernel)) (fun _ _ _ _ _ => (pg_name (i := 12) sc_law.nd rfl (.inl rfl))) (fun _ _ _ _ _ => (pts_one (pt_not (pt_chain op_le op_lt pe_int (pv 12) (pv 3))))) (fun _ _ _ _ _ => (pv 12))) pa_nil)) pe_int (nomark _)))))
      (pss_one (ps_set (i := 7) sc_law.nd rfl (.inl rfl) (pe_op op_sub pe_int (pe_op op_mul pe_int (pe_callTy call_int1 (by rfl) T.b_int (by decide +kernel) (pa_cons (pv 8) pa_nil))))))) pss_nil)
      (Evl.pss_cut (ps_if (pt_cmpR op_eq (pv 6) pe_int (nomark _))
      (pss_one (ps_set (i := 7) sc_law.nd rfl (.inl rfl) pe_int)) (pss_one (ps_if (pt_cmpR op_gt (pe_callB call_len_seq (by rfl) T.b_len (by decide +kernel) (pa_cons (pv 2) pa_nil)) pe_int (nomark _))
      (pss_one (ps_set (i := 7) sc_law.nd rfl (.inl rfl) pe_int)) pss_nil)))
      (pss_cons (ps_set (i := 9) sc_law.nd rfl (.inl rfl) (pe_lst (pa_cons (pe_callTy call_list_of (by rfl) T.b_list (by decide +kernel) (pa_cons (pv 2) pa_nil)) (pa_cons (pe_callTy call_list_of (by rfl) T.b_list (by decide +kernel) (pa_cons (pv 4) pa_nil)) pa_nil))))
      (pss_cons (ps_set (i := 10) sc_law.nd rfl (.inl rfl) (pe_call C_law_told.ok (hr.mono (by decide)) (by rfl) C_law_told.gl C_law_told.kp C_law_told.bd .nil (L2N.passes_call (L2N.takes_of rfl rfl rfl rfl) (fun _ _ _ _ h => h)) (pa_cons (pv 6) (pa_cons (pv 1) (pa_cons (pe_ix ix_list (pv 9) pe_int (fun _ _ => rfl)) (pa_cons (pv 5) (pa_cons (pe_ix ix_list (pv 9) pe_int (fun _ _ => rfl)) pa_nil)))))))
      (pss_cons (ps_if (pt_cmpR (op_neD hr.units) (pv 9) (pe_lst (pa_cons (pv 2) (pa_cons (pv 4) pa_nil))) (nomark _))
      (pss_one (ps_ret pe_bl)) pss_nil)
      (pss_one (ps_ret (pe_or (pe_cmpR op_eq (pv 10) (pv 7) (nomark _)) (pe_one (pe_and (pe_cmpR op_eq (pv 6) pe_int (nomark _)) (pe_and (pe_cmpR op_eq (pv 7) pe_int (nomark _)) (pe_one (pe_cmpR op_eq (pv 10) pe_int (nomark _))))))))))))))))))))))), ?_⟩
    refine ⟨_, rfl, a, ns, 12, rfl, hS, by decide, by decide, fun t op H1 links0 os0 nt nop hto e1 ht hop hr0 hri0 hlen0 => ?_⟩
    refine ⟨t, _, rfl, .inl (.inl ht), rfl, _, _, rfl, _, _, rfl, rfl, ?_⟩
    refine ⟨fun σ2 H2 => Ex H H2 ∧ ∃ links oq os, 1 ≤ links ∧ links ≤ 40 ∧ Ints H2 oq os ∧ Rising links (-1) os ∧ os.length ≤ 12 ∧ σ2 = [some (.ref a), some (.int links), some (.ref oq), none, none, none, none, none, none, none, none, none, none], ?_, ?_⟩
    · refine ⟨_, rfl, _, _, rfl, rfl, _, rfl, ?_⟩
      refine iteD (fun h => ?_) (fun h => ?_)
      · refine ⟨_, rfl, _, _, rfl, rfl, (by decide : (0 : Int) < 40), _, _, rfl, rfl, ?_⟩
        refine ⟨_, rfl, op, rfl, ⟨_, hop.sq⟩, fun D nD => lc_int nD (isI os0) hop.sq (sz_small (by rw [List.length_map]; omega)) (fun x => decide (x < 1 + links0 % 40)) (fun x => x) ?_ ?_⟩
        · rintro y x H2 hy rfl e2 Y Z hY hZ
          refine ⟨rfl, _, rfl, _, rfl, _, _, rfl, rfl, _, rfl, ?_⟩
          exact iteD (fun h => ⟨_, rfl, hY (decide_eq_true h) _ (Evl.Ex.refl _)⟩) (fun h => hZ (decide_eq_false h) _ (Evl.Ex.refl _))
        · intro H2 hD e2
          rw [List.map_id'] at hD
          refine ⟨e1.trans e2, _, D, _, by omega, by omega, hD, rising_filter hri0, ?_, rfl⟩
          have := List.length_filter_le (fun x => decide (x < 1 + links0 % 40)) os0
          omega
      · exact ⟨e1, _, op, os0, hr0.1, by omega, hop, hri0, by omega, rfl⟩
    rintro σ2 H2 ⟨ex2, links, oq, os, hl1, hl2, hoq, hri, hlen, rfl⟩
    have hok : OpenOk links os := ⟨by omega, hri⟩
    have hxl := pcs_len links os
    refine ⟨_, rfl, _, rfl, links, oq, os, rfl, hoq, by omega, hri, fun du H4 ndu e4 hdu => ?_⟩
    obtain ⟨xs, hx, px⟩ := hdu
    have hlx := Paired.len px
    refine ⟨du, _, rfl, .inl (.inl (.inl hx)), ?_⟩
    rw [hlx]
    have ex4 := ex2.trans e4
    refine ⟨_, rfl, _, rfl, a, ns, _, rfl, Evl.ex_l ex4 hS, by omega, by omega, fun hd H5 hs nhd e5 hhs hln => ?_⟩
    have ex5 := ex4.trans e5
    have hoq5 := hoq.ex (e4.trans e5)
    refine ⟨_, rfl, a, ns, 25, rfl, Evl.ex_l ex5 hS, by decide, _, rfl, _, _, rfl, rfl, _, _, rfl, rfl, (by omega), _, _, rfl, rfl, ?_⟩
    refine ⟨fun σ2 H6 => Ex H5 H6 ∧ ∃ amount : Int, σ2 = [some (.ref a), some (.int links), some (.ref oq), some (.int ((pcs links os).length : Nat)), some (.ref hd), some (.int amount), none, none, none, none, none, none, none], ?_, ?_⟩
    · refine ⟨_, rfl, a, ns, 26, rfl, Evl.ex_l ex5 hS, by decide, _, _, rfl, rfl, (by decide : (0 : Int) < 5), rfl, _, rfl, ?_⟩
      refine iteE (fun h => ?_) (fun h => ⟨Evl.Ex.refl _, _, rfl⟩)
      obtain ⟨v, hv⟩ := at2v (a := -1 - 10 ^ (30 : Int).toNat) (b := links + 10 ^ (30 : Int).toNat) (k := cell ns 25 % 2) (by omega) (by omega)
      refine ⟨_, rfl, _, _, rfl, rfl, ⟨by decide, by decide, by decide⟩, _, _, rfl, rfl, _, rfl, _, _, rfl, rfl, ⟨by decide, by decide, by decide⟩, _, _, rfl, rfl, le2, fun l nl => ?_⟩
      obtain ⟨e6, hl⟩ := nw nl (.lst [.int (-1 - 10 ^ (30 : Int).toNat), .int (links + 10 ^ (30 : Int).toNat)])
      exact ⟨_, rfl, a, ns, 25, rfl, Evl.ex_l (ex5.trans e6) hS, by decide, _, _, rfl, rfl, (by decide : (0 : Int) < 2), l, _, _, .int v, rfl, rfl, .inl (.inl hl), hv, e6, v, rfl⟩
    rintro σ2 H6 ⟨e6, amount, rfl⟩
    have ex6 := ex5.trans e6
    have hoq6 := hoq5.ex e6
    have hhs6 := hhs.ex e6
    have hwh : 0 ≤ cell ns 27 % 5 ∧ cell ns 27 % 5 < 5 := by omega
    refine ⟨_, rfl, a, ns, 27, rfl, Evl.ex_l ex6 hS, by decide, _, _, rfl, rfl, (by decide : (0 : Int) < 5), ?_⟩
    dsimp only
    generalize cell ns 27 % 5 = wh at hwh
    refine ⟨fun σ2 H7 => H7 = H6 ∧ ∃ due : Int, (wh < 3 → ¬ (0 ≤ amount ∧ amount ≤ links) → due = 3) ∧ (wh < 3 → 0 ≤ amount ∧ amount ≤ links → due = 0) ∧ σ2 = [some (.ref a), some (.int links), some (.ref oq), some (.int ((pcs links os).length : Nat)), some (.ref hd), some (.int amount), some (.int wh), some (.int due), none, none, none, none, none], ?_, ?_⟩
    · refine ⟨_, rfl, _, _, rfl, rfl, _, rfl, ?_⟩
      refine iteD (fun h => ?_) (fun h => ⟨rfl, 0, fun z => absurd z h, fun z => absurd z h, rfl⟩)
      refine ⟨_, rfl, _, _, rfl, rfl, _, rfl, ?_⟩
      refine iteD (fun h2 => ?_) (fun h2 => ⟨_, rfl, iteT ⟨rfl, 3, fun _ _ => rfl, fun _ z => absurd z.1 h2, rfl⟩⟩)
      refine ⟨_, rfl, _, _, rfl, rfl, _, rfl, ?_⟩
      exact iteN (fun h3 => ⟨rfl, 0, fun _ z => absurd ⟨h2, h3⟩ z, fun _ _ => rfl, rfl⟩) (fun h3 => ⟨rfl, 3, fun _ _ => rfl, fun _ z => absurd z.2 h3, rfl⟩)
    rintro σ2 H7 ⟨rfl, due1, d1, d2, rfl⟩
    refine ⟨fun σ2 H8 => Ex H7 H8 ∧ ∃ (due : Int) (v8 : Option V), (wh < 3 → ¬ (0 ≤ amount ∧ amount ≤ links) → due = 3) ∧ (wh < 3 → 0 ≤ amount ∧ amount ≤ links → due = 0) ∧ (wh = 3 → ¬ Rising ((pcs links os).length : Int) (-1) hs → due = 3) ∧ (wh = 3 → Rising ((pcs links os).length : Int) (-1) hs → due = 0) ∧ σ2 = [some (.ref a), some (.int links), some (.ref oq), some (.int ((pcs links os).length : Nat)), some (.ref hd), some (.int amount), some (.int wh), some (.int due), v8, none, none, none, none], ?_, ?_⟩
    · refine ⟨_, rfl, rfl, _, rfl, ?_⟩
      refine iteE (fun h => ?_) (fun h => ⟨Evl.Ex.refl _, due1, none, d1, d2, fun z => absurd z h, fun z => absurd z h, rfl⟩)
      refine ⟨_, rfl, _, rfl, hd, hs, rfl, hhs6.sq, by omega, fun sp c hc nsp => ?_⟩
      obtain ⟨e8, hsp⟩ := nw nsp (SetO w sp (fun j => decide (j ∈ hs)) c)
      refine ⟨sp, _, c, rfl, hsp, fun ms2 p2 up nd mem np2 => ?_⟩
      obtain ⟨e9, hp2⟩ := nw np2 (.lst (ms2.map V.int))
      have hhs9 := (hhs6.ex e8).ex e9
      refine ⟨intsD hs, intsD ms2, dpInts hhs9, dpInts hp2, shInts _, shInts _, _, rfl, ?_⟩
      rw [eqvIntsD]
      refine iteD (fun heq => ?_) (fun hne => ?_)
      · refine ⟨_, rfl, hd, rfl, ⟨_, hhs9.sq⟩, fun D2 nD2 => lc_int nD2 (isI hs) hhs9.sq (sz_small (by rw [List.length_map]; omega)) (fun x => decide (¬ (0 ≤ x ∧ x < ((pcs links os).length : Int)))) (fun x => x) ?_ ?_⟩
        · rintro y x H10 hy rfl e10 Y Z hY hZ
          refine ⟨rfl, _, rfl, _, _, rfl, rfl, _, rfl, ?_⟩
          refine iteD (fun h1 => ?_) (fun h1 => ⟨_, rfl, iteT ⟨_, rfl, hY (decide_eq_true (fun z => h1 z.1)) _ (Evl.Ex.refl _)⟩⟩)
          refine ⟨_, rfl, _, _, rfl, rfl, _, rfl, ?_⟩
          exact iteN (fun h2 => hZ (decide_eq_false (fun z => z ⟨h1, h2⟩)) _ (Evl.Ex.refl _)) (fun h2 => ⟨_, rfl, hY (decide_eq_true (fun z => h2 z.2)) _ (Evl.Ex.refl _)⟩)
        · intro H10 hD2 e10
          rw [List.map_id'] at hD2
          refine ⟨D2, _, rfl, .inl hD2.sq, rfl, ?_⟩
          rw [List.length_map]
          have exx := (e8.trans e9).trans e10
          by_cases hall : ∀ x ∈ hs, 0 ≤ x ∧ x < ((pcs links os).length : Int)
          · have hnil : hs.filter (fun x => decide (¬ (0 ≤ x ∧ x < ((pcs links os).length : Int)))) = [] := List.filter_eq_nil_iff.mpr fun x hx => by
              rw [decide_eq_false (fun z => z (hall x hx))]
              exact Bool.false_ne_true
            have hR : Rising ((pcs links os).length : Int) (-1) hs := by
              rw [heq] at hall ⊢
              exact rising_of up nd fun x hx => by
                have := hall x hx
                omega
            rw [hnil, show ((([] : List Int).length : Nat) : Int) = 0 from rfl, decide_eq_true rfl]
            exact ⟨_, rfl, .inr ⟨_, rfl, _, _, rfl, rfl, .inl ⟨by decide, by decide⟩, _, _, rfl, rfl, exx, 0, _, fun z => absurd z (by omega), fun z => absurd z (by omega), fun _ z => absurd hR z, fun _ _ => rfl, rfl⟩⟩
          · have hne2 : (hs.filter (fun x => decide (¬ (0 ≤ x ∧ x < ((pcs links os).length : Int))))).length ≠ 0 := fun z => hall fun x hx => by
              have hn := List.eq_nil_of_length_eq_zero z
              have := List.filter_eq_nil_iff.mp hn x hx
              simpa using this
            rw [decide_eq_false (fun z => hne2 (by have := V.int.inj z; omega))]
            exact ⟨_, rfl, .inr ⟨_, rfl, _, _, rfl, rfl, .inl ⟨by decide, by decide⟩, _, _, rfl, rfl, exx, 3, _, fun z => absurd z (by omega), fun z => absurd z (by omega), fun _ _ => rfl, fun _ z => absurd (fun x hx => by have := (rising_up z).2 x hx; omega) hall, rfl⟩⟩
      · exact ⟨_, rfl, .inr ⟨_, rfl, _, _, rfl, rfl, .inl ⟨by decide, by decide⟩, _, _, rfl, rfl, e8.trans e9, 3, _, fun z => absurd z (by omega), fun z => absurd z (by omega), fun _ _ => rfl, fun _ z => absurd (sset_eq (rising_up z).1 up nd mem).symm hne, rfl⟩⟩
    rintro σ2 H8 ⟨e8, due2, v8, d1, d2, d3, d4, rfl⟩
    have hoq8 := hoq6.ex e8
    have hhs8 := hhs6.ex e8
    refine ⟨fun σ2 H9 => H9 = H8 ∧ ∃ due : Int, DueK links os amount hs wh due ∧ σ2 = [some (.ref a), some (.int links), some (.ref oq), some (.int ((pcs links os).length : Nat)), some (.ref hd), some (.int amount), some (.int wh), some (.int due), v8, none, none, none, none], ?_, ?_⟩
    · refine ⟨_, rfl, rfl, _, rfl, ?_⟩
      refine iteE (fun h => ⟨rfl, 5, ⟨fun _ => rfl, fun z => absurd h z, fun z => absurd z (by omega), fun z => absurd z (by omega), fun z => absurd z (by omega), fun z => absurd z (by omega)⟩, rfl⟩) (fun h => ?_)
      refine ⟨_, rfl, oq, _, rfl, .inl hoq8.sq, _, _, rfl, rfl, _, rfl, ?_⟩
      rw [List.length_map]
      refine iteD (fun h8 => ⟨rfl, 2, ⟨fun z => absurd z h, fun _ _ => rfl, fun _ z => absurd z (by omega), fun _ z => absurd z (by omega), fun _ z => absurd z (by omega), fun _ z => absurd z (by omega)⟩, rfl⟩) (fun h8 => ⟨rfl, due2, ⟨fun z => absurd z h, fun _ z => absurd (by omega) z, fun z1 _ z3 => d1 z1 z3, fun z1 _ z3 => d2 z1 z3, fun z1 _ z3 => d3 z1 z3, fun z1 _ z3 => d4 z1 z3⟩, rfl⟩)
    rintro σ2 H9 ⟨rfl, due, hdue, rfl⟩
    refine ⟨_, rfl, oq, _, rfl, .inl hoq8.sq, fun l1 nl1 => ?_⟩
    obtain ⟨e9, h9⟩ := nw nl1 (.lst (os.map V.int))
    have h9 : Ints _ l1 os := h9
    refine ⟨_, rfl, hd, _, rfl, .inl (hhs8.ex e9).sq, fun l2 nl2 => ?_⟩
    obtain ⟨e10, h10⟩ := nw nl2 (.lst (hs.map V.int))
    have h10 : Ints _ l2 hs := h10
    refine ⟨le2, fun hh nhh => ?_⟩
    obtain ⟨e11, h11⟩ := nw nhh (.lst [.ref l1, .ref l2])
    refine ⟨_, rfl, _, rfl, _, rfl, hh, _, 0, .ref l1, rfl, rfl, .inl (.inl h11), rfl, _, rfl, _, rfl, hh, _, 1, .ref l2, rfl, rfl, .inl (.inl h11), rfl, wh, links, l1, os, amount, l2, hs, rfl, (h9.ex e10).ex e11, h10.ex e11, hwh.1, hwh.2, hl1, hl2, hok, fun fd H12 e12 tell => ?_⟩
    have hnest : Paired (LI H12) [.ref l1, .ref l2] [os, hs] := .cons ⟨l1, rfl, ((h9.ex e10).ex e11).ex e12⟩ (.cons ⟨l2, rfl, (h10.ex e11).ex e12⟩ .nil)
    refine ⟨_, rfl, _, rfl, _, rfl, le2, fun z nz => ?_⟩
    obtain ⟨e13, h13⟩ := nw nz (.lst [.ref oq, .ref hd])
    have e911 := ((e9.trans e10).trans e11).trans e12
    have hnest2 : Paired (LI (upd H12 z (.lst [.ref oq, .ref hd]))) [.ref oq, .ref hd] [os, hs] := .cons ⟨oq, rfl, (hoq8.ex e911).ex e13⟩ (.cons ⟨hd, rfl, (hhs8.ex e911).ex e13⟩ .nil)
    refine ⟨llD [os, hs], llD [os, hs], dpLL (e13 _ _ (e12 _ _ h11)) (Paired.imp hnest fun _ _ => LI.ex e13), dpLL h13 hnest2, shLL _, shLL _, false, congrArg V.bl (by rw [eqvLLSame] <;> rfl), iteF ?_⟩
    refine ⟨_, rfl, _, rfl, rfl, _, rfl, ?_⟩
    refine iteE (fun h => q _) (fun h => ?_)
    rcases tell_due hwh.2 hdue tell with y | ⟨y1, y2, y3⟩
    · exact absurd y h
    · rw [y1, y2, y3]
      refine ⟨_, rfl, rfl, _, rfl, iteT ?_⟩
      refine ⟨_, rfl, rfl, _, rfl, iteT ?_⟩
      exact ⟨_, rfl, rfl, q _⟩
end
theorem all_mk {l : PySem.W.OpenLaw} {w : World} {K : PySem.W.Frag} {h : Heap} {mg : Str → Option Value} {fa f0 f1 f2 f3 f4 f5 f6 f7 f8 f9 f10 f11 f12 f13 f14 f15 f16 f17 f18 f19 f20 f21 f22 f23 f24 f25 f26 CNoRow CNoOpened CTooMany CNoAmount CNoPayment CNoCount CNoNote CPayError : Addr} (X : K.In h) (G : h.Ns mainGlobals mg) (hfa : mg "law" = some (.ref fa))
    {od0 an0 : Option Addr} {sl0 : Array (Option Value)} {oc0 kV0 dc0 pm0 cd0 ct0 : Value}
    (a0 : PySem.W.nsIn K mainGlobals "_law_next" = some (some (.ref f0))) (l0 : K.lookup f0 = some ⟨oc0, od0, .func (PySem.W.fnOf "_law_next" "_law_next" (defArgs s_law_next) (defBody s_law_next) (defScope s_law_next) .none kV0 dc0 pm0 an0 cd0 ct0), sl0⟩) (c0 : PySem.W.codeIn K cd0 "_law_next" = true) (k0 : PySem.W.keepIn K (.ref f0) = true)
    {od1 an1 : Option Addr} {sl1 : Array (Option Value)} {oc1 kV1 dc1 pm1 cd1 ct1 : Value}
    (a1 : PySem.W.nsIn K mainGlobals "_law_cell_at" = some (some (.ref f1))) (l1 : K.lookup f1 = some ⟨oc1, od1, .func (PySem.W.fnOf "_law_cell_at" "_law_cell_at" (defArgs s_law_cell_at) (defBody s_law_cell_at) (defScope s_law_cell_at) .none kV1 dc1 pm1 an1 cd1 ct1), sl1⟩) (c1 : PySem.W.codeIn K cd1 "_law_cell_at" = true) (k1 : PySem.W.keepIn K (.ref f1) = true)
    {od2 an2 : Option Addr} {sl2 : Array (Option Value)} {oc2 kV2 dc2 pm2 cd2 ct2 : Value}
    (a2 : PySem.W.nsIn K mainGlobals "_law_row_by" = some (some (.ref f2))) (l2 : K.lookup f2 = some ⟨oc2, od2, .func (PySem.W.fnOf "_law_row_by" "_law_row_by" (defArgs s_law_row_by) (defBody s_law_row_by) (defScope s_law_row_by) .none kV2 dc2 pm2 an2 cd2 ct2), sl2⟩) (c2 : PySem.W.codeIn K cd2 "_law_row_by" = true) (k2 : PySem.W.keepIn K (.ref f2) = true)
    {od3 an3 : Option Addr} {sl3 : Array (Option Value)} {oc3 kV3 dc3 pm3 cd3 ct3 : Value}
    (a3 : PySem.W.nsIn K mainGlobals "_law_pieces" = some (some (.ref f3))) (l3 : K.lookup f3 = some ⟨oc3, od3, .func (PySem.W.fnOf "_law_pieces" "_law_pieces" (defArgs s_law_pieces) (defBody s_law_pieces) (defScope s_law_pieces) .none kV3 dc3 pm3 an3 cd3 ct3), sl3⟩) (c3 : PySem.W.codeIn K cd3 "_law_pieces" = true) (k3 : PySem.W.keepIn K (.ref f3) = true)
    {od4 an4 : Option Addr} {sl4 : Array (Option Value)} {oc4 kV4 dc4 pm4 cd4 ct4 : Value}
    (a4 : PySem.W.nsIn K mainGlobals "_law_held_by" = some (some (.ref f4))) (l4 : K.lookup f4 = some ⟨oc4, od4, .func (PySem.W.fnOf "_law_held_by" "_law_held_by" (defArgs s_law_held_by) (defBody s_law_held_by) (defScope s_law_held_by) .none kV4 dc4 pm4 an4 cd4 ct4), sl4⟩) (c4 : PySem.W.codeIn K cd4 "_law_held_by" = true) (k4 : PySem.W.keepIn K (.ref f4) = true)
    {od5 an5 : Option Addr} {sl5 : Array (Option Value)} {oc5 kV5 dc5 pm5 cd5 ct5 : Value}
    (a5 : PySem.W.nsIn K mainGlobals "asked_links" = some (some (.ref f5))) (l5 : K.lookup f5 = some ⟨oc5, od5, .func (PySem.W.fnOf "asked_links" "asked_links" (defArgs s_asked_links) (defBody s_asked_links) (defScope s_asked_links) .none kV5 dc5 pm5 an5 cd5 ct5), sl5⟩) (c5 : PySem.W.codeIn K cd5 "asked_links" = true) (k5 : PySem.W.keepIn K (.ref f5) = true)
    {od6 an6 : Option Addr} {sl6 : Array (Option Value)} {oc6 kV6 dc6 pm6 cd6 ct6 : Value}
    (a6 : PySem.W.nsIn K mainGlobals "asked_row" = some (some (.ref f6))) (l6 : K.lookup f6 = some ⟨oc6, od6, .func (PySem.W.fnOf "asked_row" "asked_row" (defArgs s_asked_row) (defBody s_asked_row) (defScope s_asked_row) .none kV6 dc6 pm6 an6 cd6 ct6), sl6⟩) (c6 : PySem.W.codeIn K cd6 "asked_row" = true) (k6 : PySem.W.keepIn K (.ref f6) = true)
    {od7 an7 : Option Addr} {sl7 : Array (Option Value)} {oc7 kV7 dc7 pm7 cd7 ct7 : Value}
    (a7 : PySem.W.nsIn K mainGlobals "asked_few" = some (some (.ref f7))) (l7 : K.lookup f7 = some ⟨oc7, od7, .func (PySem.W.fnOf "asked_few" "asked_few" (defArgs s_asked_few) (defBody s_asked_few) (defScope s_asked_few) .none kV7 dc7 pm7 an7 cd7 ct7), sl7⟩) (c7 : PySem.W.codeIn K cd7 "asked_few" = true) (k7 : PySem.W.keepIn K (.ref f7) = true)
    {od8 an8 : Option Addr} {sl8 : Array (Option Value)} {oc8 kV8 dc8 pm8 cd8 ct8 : Value}
    (a8 : PySem.W.nsIn K mainGlobals "asked_amount" = some (some (.ref f8))) (l8 : K.lookup f8 = some ⟨oc8, od8, .func (PySem.W.fnOf "asked_amount" "asked_amount" (defArgs s_asked_amount) (defBody s_asked_amount) (defScope s_asked_amount) .none kV8 dc8 pm8 an8 cd8 ct8), sl8⟩) (c8 : PySem.W.codeIn K cd8 "asked_amount" = true) (k8 : PySem.W.keepIn K (.ref f8) = true)
    {od9 an9 : Option Addr} {sl9 : Array (Option Value)} {oc9 kV9 dc9 pm9 cd9 ct9 : Value}
    (a9 : PySem.W.nsIn K mainGlobals "pieces_of" = some (some (.ref f9))) (l9 : K.lookup f9 = some ⟨oc9, od9, .func (PySem.W.fnOf "pieces_of" "pieces_of" (defArgs s_pieces_of) (defBody s_pieces_of) (defScope s_pieces_of) .none kV9 dc9 pm9 an9 cd9 ct9), sl9⟩) (c9 : PySem.W.codeIn K cd9 "pieces_of" = true) (k9 : PySem.W.keepIn K (.ref f9) = true)
    {od10 an10 : Option Addr} {sl10 : Array (Option Value)} {oc10 kV10 dc10 pm10 cd10 ct10 : Value}
    (a10 : PySem.W.nsIn K mainGlobals "sorts" = some (some (.ref f10))) (l10 : K.lookup f10 = some ⟨oc10, od10, .func (PySem.W.fnOf "sorts" "sorts" (defArgs s_sorts) (defBody s_sorts) (defScope s_sorts) .none kV10 dc10 pm10 an10 cd10 ct10), sl10⟩) (c10 : PySem.W.codeIn K cd10 "sorts" = true) (k10 : PySem.W.keepIn K (.ref f10) = true)
    {od11 an11 : Option Addr} {sl11 : Array (Option Value)} {oc11 kV11 dc11 pm11 cd11 ct11 : Value}
    (a11 : PySem.W.nsIn K mainGlobals "fitting" = some (some (.ref f11))) (l11 : K.lookup f11 = some ⟨oc11, od11, .func (PySem.W.fnOf "fitting" "fitting" (defArgs s_fitting) (defBody s_fitting) (defScope s_fitting) .none kV11 dc11 pm11 an11 cd11 ct11), sl11⟩) (c11 : PySem.W.codeIn K cd11 "fitting" = true) (k11 : PySem.W.keepIn K (.ref f11) = true)
    {od12 an12 : Option Addr} {sl12 : Array (Option Value)} {oc12 kV12 dc12 pm12 cd12 ct12 : Value}
    (a12 : PySem.W.nsIn K mainGlobals "payment_of" = some (some (.ref f12))) (l12 : K.lookup f12 = some ⟨oc12, od12, .func (PySem.W.fnOf "payment_of" "payment_of" (defArgs s_payment_of) (defBody s_payment_of) (defScope s_payment_of) .none kV12 dc12 pm12 an12 cd12 ct12), sl12⟩) (c12 : PySem.W.codeIn K cd12 "payment_of" = true) (k12 : PySem.W.keepIn K (.ref f12) = true)
    {od13 an13 : Option Addr} {sl13 : Array (Option Value)} {oc13 kV13 dc13 pm13 cd13 ct13 : Value}
    (a13 : PySem.W.nsIn K mainGlobals "payment" = some (some (.ref f13))) (l13 : K.lookup f13 = some ⟨oc13, od13, .func (PySem.W.fnOf "payment" "payment" (defArgs s_payment) (defBody s_payment) (defScope s_payment) .none kV13 dc13 pm13 an13 cd13 ct13), sl13⟩) (c13 : PySem.W.codeIn K cd13 "payment" = true) (k13 : PySem.W.keepIn K (.ref f13) = true)
    {od14 an14 : Option Addr} {sl14 : Array (Option Value)} {oc14 kV14 dc14 pm14 cd14 ct14 : Value}
    (a14 : PySem.W.nsIn K mainGlobals "payable" = some (some (.ref f14))) (l14 : K.lookup f14 = some ⟨oc14, od14, .func (PySem.W.fnOf "payable" "payable" (defArgs s_payable) (defBody s_payable) (defScope s_payable) .none kV14 dc14 pm14 an14 cd14 ct14), sl14⟩) (c14 : PySem.W.codeIn K cd14 "payable" = true) (k14 : PySem.W.keepIn K (.ref f14) = true)
    {od15 an15 : Option Addr} {sl15 : Array (Option Value)} {oc15 kV15 dc15 pm15 cd15 ct15 : Value}
    (a15 : PySem.W.nsIn K mainGlobals "picks" = some (some (.ref f15))) (l15 : K.lookup f15 = some ⟨oc15, od15, .func (PySem.W.fnOf "picks" "picks" (defArgs s_picks) (defBody s_picks) (defScope s_picks) .none kV15 dc15 pm15 an15 cd15 ct15), sl15⟩) (c15 : PySem.W.codeIn K cd15 "picks" = true) (k15 : PySem.W.keepIn K (.ref f15) = true)
    {od16 an16 : Option Addr} {sl16 : Array (Option Value)} {oc16 kV16 dc16 pm16 cd16 ct16 : Value}
    (a16 : PySem.W.nsIn K mainGlobals "ways" = some (some (.ref f16))) (l16 : K.lookup f16 = some ⟨oc16, od16, .func (PySem.W.fnOf "ways" "ways" (defArgs s_ways) (defBody s_ways) (defScope s_ways) .none kV16 dc16 pm16 an16 cd16 ct16), sl16⟩) (c16 : PySem.W.codeIn K cd16 "ways" = true) (k16 : PySem.W.keepIn K (.ref f16) = true)
    {od17 an17 : Option Addr} {sl17 : Array (Option Value)} {oc17 kV17 dc17 pm17 cd17 ct17 : Value}
    (a17 : PySem.W.nsIn K mainGlobals "step" = some (some (.ref f17))) (l17 : K.lookup f17 = some ⟨oc17, od17, .func (PySem.W.fnOf "step" "step" (defArgs s_step) (defBody s_step) (defScope s_step) .none kV17 dc17 pm17 an17 cd17 ct17), sl17⟩) (c17 : PySem.W.codeIn K cd17 "step" = true) (k17 : PySem.W.keepIn K (.ref f17) = true)
    {od18 an18 : Option Addr} {sl18 : Array (Option Value)} {oc18 kV18 dc18 pm18 cd18 ct18 : Value}
    (a18 : PySem.W.nsIn K mainGlobals "most_links" = some (some (.ref f18))) (l18 : K.lookup f18 = some ⟨oc18, od18, .func (PySem.W.fnOf "most_links" "most_links" (defArgs s_most_links) (defBody s_most_links) (defScope s_most_links) .none kV18 dc18 pm18 an18 cd18 ct18), sl18⟩) (c18 : PySem.W.codeIn K cd18 "most_links" = true) (k18 : PySem.W.keepIn K (.ref f18) = true)
    {od19 an19 : Option Addr} {sl19 : Array (Option Value)} {oc19 kV19 dc19 pm19 cd19 ct19 : Value}
    (a19 : PySem.W.nsIn K mainGlobals "fewest" = some (some (.ref f19))) (l19 : K.lookup f19 = some ⟨oc19, od19, .func (PySem.W.fnOf "fewest" "fewest" (defArgs s_fewest) (defBody s_fewest) (defScope s_fewest) .none kV19 dc19 pm19 an19 cd19 ct19), sl19⟩) (c19 : PySem.W.codeIn K cd19 "fewest" = true) (k19 : PySem.W.keepIn K (.ref f19) = true)
    {od20 an20 : Option Addr} {sl20 : Array (Option Value)} {oc20 kV20 dc20 pm20 cd20 ct20 : Value}
    (a20 : PySem.W.nsIn K mainGlobals "gap_of" = some (some (.ref f20))) (l20 : K.lookup f20 = some ⟨oc20, od20, .func (PySem.W.fnOf "gap_of" "gap_of" (defArgs s_gap_of) (defBody s_gap_of) (defScope s_gap_of) .none kV20 dc20 pm20 an20 cd20 ct20), sl20⟩) (c20 : PySem.W.codeIn K cd20 "gap_of" = true) (k20 : PySem.W.keepIn K (.ref f20) = true)
    {od21 an21 : Option Addr} {sl21 : Array (Option Value)} {oc21 kV21 dc21 pm21 cd21 ct21 : Value}
    (a21 : PySem.W.nsIn K mainGlobals "lists_of" = some (some (.ref f21))) (l21 : K.lookup f21 = some ⟨oc21, od21, .func (PySem.W.fnOf "lists_of" "lists_of" (defArgs s_lists_of) (defBody s_lists_of) (defScope s_lists_of) .none kV21 dc21 pm21 an21 cd21 ct21), sl21⟩) (c21 : PySem.W.codeIn K cd21 "lists_of" = true) (k21 : PySem.W.keepIn K (.ref f21) = true)
    {od22 an22 : Option Addr} {sl22 : Array (Option Value)} {oc22 kV22 dc22 pm22 cd22 ct22 : Value}
    (a22 : PySem.W.nsIn K mainGlobals "all_full" = some (some (.ref f22))) (l22 : K.lookup f22 = some ⟨oc22, od22, .func (PySem.W.fnOf "all_full" "all_full" (defArgs s_all_full) (defBody s_all_full) (defScope s_all_full) .none kV22 dc22 pm22 an22 cd22 ct22), sl22⟩) (c22 : PySem.W.codeIn K cd22 "all_full" = true) (k22 : PySem.W.keepIn K (.ref f22) = true)
    {od23 an23 : Option Addr} {sl23 : Array (Option Value)} {oc23 kV23 dc23 pm23 cd23 ct23 : Value}
    (a23 : PySem.W.nsIn K mainGlobals "_law_called" = some (some (.ref f23))) (l23 : K.lookup f23 = some ⟨oc23, od23, .func (PySem.W.fnOf "_law_called" "_law_called" (defArgs s_law_called) (defBody s_law_called) (defScope s_law_called) .none kV23 dc23 pm23 an23 cd23 ct23), sl23⟩) (c23 : PySem.W.codeIn K cd23 "_law_called" = true) (k23 : PySem.W.keepIn K (.ref f23) = true)
    {od24 an24 : Option Addr} {sl24 : Array (Option Value)} {oc24 kV24 dc24 pm24 cd24 ct24 : Value}
    (a24 : PySem.W.nsIn K mainGlobals "_law_other" = some (some (.ref f24))) (l24 : K.lookup f24 = some ⟨oc24, od24, .func (PySem.W.fnOf "_law_other" "_law_other" (defArgs s_law_other) (defBody s_law_other) (defScope s_law_other) .none kV24 dc24 pm24 an24 cd24 ct24), sl24⟩) (c24 : PySem.W.codeIn K cd24 "_law_other" = true) (k24 : PySem.W.keepIn K (.ref f24) = true)
    {od25 an25 : Option Addr} {sl25 : Array (Option Value)} {oc25 kV25 dc25 pm25 cd25 ct25 : Value}
    (a25 : PySem.W.nsIn K mainGlobals "_law_told" = some (some (.ref f25))) (l25 : K.lookup f25 = some ⟨oc25, od25, .func (PySem.W.fnOf "_law_told" "_law_told" (defArgs s_law_told) (defBody s_law_told) (defScope s_law_told) .none kV25 dc25 pm25 an25 cd25 ct25), sl25⟩) (c25 : PySem.W.codeIn K cd25 "_law_told" = true) (k25 : PySem.W.keepIn K (.ref f25) = true)
    {od26 an26 : Option Addr} {sl26 : Array (Option Value)} {oc26 kV26 dc26 pm26 cd26 ct26 : Value}
    (a26 : PySem.W.nsIn K mainGlobals "law" = some (some (.ref f26))) (l26 : K.lookup f26 = some ⟨oc26, od26, .func (PySem.W.fnOf "law" "law" (defArgs s_law) (defBody s_law) (defScope s_law) .none kV26 dc26 pm26 an26 cd26 ct26), sl26⟩) (c26 : PySem.W.codeIn K cd26 "law" = true) (k26 : PySem.W.keepIn K (.ref f26) = true)
    (z_len : PySem.W.nsIn K mainGlobals "len" = some none)    (z_range : PySem.W.nsIn K mainGlobals "range" = some none)    (z_sorted : PySem.W.nsIn K mainGlobals "sorted" = some none)    (z_isinstance : PySem.W.nsIn K mainGlobals "isinstance" = some none)    (z_int : PySem.W.nsIn K mainGlobals "int" = some none)    (z_bool : PySem.W.nsIn K mainGlobals "bool" = some none)    (z_list : PySem.W.nsIn K mainGlobals "list" = some none)    (z_tuple : PySem.W.nsIn K mainGlobals "tuple" = some none)    (z_str : PySem.W.nsIn K mainGlobals "str" = some none)    (z_set : PySem.W.nsIn K mainGlobals "set" = some none)    (z_dict : PySem.W.nsIn K mainGlobals "dict" = some none)    (z_enumerate : PySem.W.nsIn K mainGlobals "enumerate" = some none)    (z_zip : PySem.W.nsIn K mainGlobals "zip" = some none)    (z_sum : PySem.W.nsIn K mainGlobals "sum" = some none)    (z_min : PySem.W.nsIn K mainGlobals "min" = some none)    (z_max : PySem.W.nsIn K mainGlobals "max" = some none)    (z_ValueError : PySem.W.nsIn K mainGlobals "ValueError" = some none)
    (xa_NoRow : PySem.W.nsIn K mainGlobals "NoRow" = some (some (.ref CNoRow))) (xx_NoRow : PySem.W.excIn K CNoRow [.type "ValueError", .type "Exception", .type "BaseException", .type "object"] "ValueError.__new__" = true) (xk_NoRow : PySem.W.keepIn K (.ref CNoRow) = true) (xe_NoRow : PySem.W.subIn K (.ref CNoRow) (.type "BaseException") = some true) (xt_NoRow : PySem.W.typeIn K (.ref CNoRow) = some (.type "type"))
    (xa_NoOpened : PySem.W.nsIn K mainGlobals "NoOpened" = some (some (.ref CNoOpened))) (xx_NoOpened : PySem.W.excIn K CNoOpened [.type "ValueError", .type "Exception", .type "BaseException", .type "object"] "ValueError.__new__" = true) (xk_NoOpened : PySem.W.keepIn K (.ref CNoOpened) = true) (xe_NoOpened : PySem.W.subIn K (.ref CNoOpened) (.type "BaseException") = some true) (xt_NoOpened : PySem.W.typeIn K (.ref CNoOpened) = some (.type "type"))
    (xa_TooMany : PySem.W.nsIn K mainGlobals "TooMany" = some (some (.ref CTooMany))) (xx_TooMany : PySem.W.excIn K CTooMany [.type "ValueError", .type "Exception", .type "BaseException", .type "object"] "ValueError.__new__" = true) (xk_TooMany : PySem.W.keepIn K (.ref CTooMany) = true) (xe_TooMany : PySem.W.subIn K (.ref CTooMany) (.type "BaseException") = some true) (xt_TooMany : PySem.W.typeIn K (.ref CTooMany) = some (.type "type"))
    (xa_NoAmount : PySem.W.nsIn K mainGlobals "NoAmount" = some (some (.ref CNoAmount))) (xx_NoAmount : PySem.W.excIn K CNoAmount [.type "ValueError", .type "Exception", .type "BaseException", .type "object"] "ValueError.__new__" = true) (xk_NoAmount : PySem.W.keepIn K (.ref CNoAmount) = true) (xe_NoAmount : PySem.W.subIn K (.ref CNoAmount) (.type "BaseException") = some true) (xt_NoAmount : PySem.W.typeIn K (.ref CNoAmount) = some (.type "type"))
    (xa_NoPayment : PySem.W.nsIn K mainGlobals "NoPayment" = some (some (.ref CNoPayment))) (xx_NoPayment : PySem.W.excIn K CNoPayment [.type "ValueError", .type "Exception", .type "BaseException", .type "object"] "ValueError.__new__" = true) (xk_NoPayment : PySem.W.keepIn K (.ref CNoPayment) = true) (xe_NoPayment : PySem.W.subIn K (.ref CNoPayment) (.type "BaseException") = some true) (xt_NoPayment : PySem.W.typeIn K (.ref CNoPayment) = some (.type "type"))
    (xa_NoCount : PySem.W.nsIn K mainGlobals "NoCount" = some (some (.ref CNoCount))) (xx_NoCount : PySem.W.excIn K CNoCount [.type "ValueError", .type "Exception", .type "BaseException", .type "object"] "ValueError.__new__" = true) (xk_NoCount : PySem.W.keepIn K (.ref CNoCount) = true) (xe_NoCount : PySem.W.subIn K (.ref CNoCount) (.type "BaseException") = some true) (xt_NoCount : PySem.W.typeIn K (.ref CNoCount) = some (.type "type"))
    (xa_NoNote : PySem.W.nsIn K mainGlobals "NoNote" = some (some (.ref CNoNote))) (xx_NoNote : PySem.W.excIn K CNoNote [.type "ValueError", .type "Exception", .type "BaseException", .type "object"] "ValueError.__new__" = true) (xk_NoNote : PySem.W.keepIn K (.ref CNoNote) = true) (xe_NoNote : PySem.W.subIn K (.ref CNoNote) (.type "BaseException") = some true) (xt_NoNote : PySem.W.typeIn K (.ref CNoNote) = some (.type "type"))
    (xa_PayError : PySem.W.nsIn K mainGlobals "PayError" = some (some (.ref CPayError))) (xx_PayError : PySem.W.excIn K CPayError [.type "ValueError", .type "Exception", .type "BaseException", .type "object"] "ValueError.__new__" = true) (xk_PayError : PySem.W.keepIn K (.ref CPayError) = true) (xe_PayError : PySem.W.subIn K (.ref CPayError) (.type "BaseException") = some true) (xt_PayError : PySem.W.typeIn K (.ref CPayError) = some (.type "type"))
    {tMOST_LINKS : Tok} (m_MOST_LINKS : mg "MOST_LINKS" = some (.int 1000000000000000000000000000000 tMOST_LINKS))
    {tMOST_OPENED : Tok} (m_MOST_OPENED : PySem.W.nsIn K mainGlobals "MOST_OPENED" = some (some (.int 100 tMOST_OPENED)))
    {tMOST_TRIED : Tok} (m_MOST_TRIED : PySem.W.nsIn K mainGlobals "MOST_TRIED" = some (some (.int 8 tMOST_TRIED)))
    {tMOST_LISTED : Tok} (m_MOST_LISTED : PySem.W.nsIn K mainGlobals "MOST_LISTED" = some (some (.int 23 tMOST_LISTED)))
    (er_TooMany : ErrOk K CNoRow CNoOpened CTooMany CNoAmount CNoPayment CNoCount CNoNote CPayError CTooMany 2)
    (er_NoAmount : ErrOk K CNoRow CNoOpened CTooMany CNoAmount CNoPayment CNoCount CNoNote CPayError CNoAmount 3)
    (er_NoPayment : ErrOk K CNoRow CNoOpened CTooMany CNoAmount CNoPayment CNoCount CNoNote CPayError CNoPayment 4)
    (er_NoCount : ErrOk K CNoRow CNoOpened CTooMany CNoAmount CNoPayment CNoCount CNoNote CPayError CNoCount 5)
    : ∃ fd : FuncData, (∀ (s : Shared) (v : Value), BindsTo s fd ⟨[v], []⟩ [("script", v)]) ∧ ∀ base : Heap, K.In base → base.Ns mainGlobals mg → FnOk l.prog w K mg base (L2N.CX l.prog w) 9 fa fd ["script"] (sp_law K) := by
  have e := hfa.symm.trans (PySem.W.mg_of X G a26)
  cases e
  have T : Bl mg := ⟨PySem.W.mg_none_of X G z_len, PySem.W.mg_none_of X G z_range, PySem.W.mg_none_of X G z_sorted, PySem.W.mg_none_of X G z_isinstance, PySem.W.mg_none_of X G z_int, PySem.W.mg_none_of X G z_bool, PySem.W.mg_none_of X G z_list, PySem.W.mg_none_of X G z_tuple, PySem.W.mg_none_of X G z_str, PySem.W.mg_none_of X G z_set, PySem.W.mg_none_of X G z_dict, PySem.W.mg_none_of X G z_enumerate, PySem.W.mg_none_of X G z_zip, PySem.W.mg_none_of X G z_sum, PySem.W.mg_none_of X G z_min, PySem.W.mg_none_of X G z_max, PySem.W.mg_none_of X G z_ValueError⟩
  let X_NoRow : Exo K mg "NoRow" := ⟨CNoRow, xx_NoRow, PySem.W.mg_of X G xa_NoRow, xk_NoRow, xe_NoRow, xt_NoRow⟩
  let X_NoOpened : Exo K mg "NoOpened" := ⟨CNoOpened, xx_NoOpened, PySem.W.mg_of X G xa_NoOpened, xk_NoOpened, xe_NoOpened, xt_NoOpened⟩
  let X_TooMany : Exo K mg "TooMany" := ⟨CTooMany, xx_TooMany, PySem.W.mg_of X G xa_TooMany, xk_TooMany, xe_TooMany, xt_TooMany⟩
  let X_NoAmount : Exo K mg "NoAmount" := ⟨CNoAmount, xx_NoAmount, PySem.W.mg_of X G xa_NoAmount, xk_NoAmount, xe_NoAmount, xt_NoAmount⟩
  let X_NoPayment : Exo K mg "NoPayment" := ⟨CNoPayment, xx_NoPayment, PySem.W.mg_of X G xa_NoPayment, xk_NoPayment, xe_NoPayment, xt_NoPayment⟩
  let X_NoCount : Exo K mg "NoCount" := ⟨CNoCount, xx_NoCount, PySem.W.mg_of X G xa_NoCount, xk_NoCount, xe_NoCount, xt_NoCount⟩
  let X_NoNote : Exo K mg "NoNote" := ⟨CNoNote, xx_NoNote, PySem.W.mg_of X G xa_NoNote, xk_NoNote, xe_NoNote, xt_NoNote⟩
  let X_PayError : Exo K mg "PayError" := ⟨CPayError, xx_PayError, PySem.W.mg_of X G xa_PayError, xk_PayError, xe_PayError, xt_PayError⟩
  have hMOST_LINKS := m_MOST_LINKS
  have hMOST_OPENED := PySem.W.mg_of X G m_MOST_OPENED
  have hMOST_TRIED := PySem.W.mg_of X G m_MOST_TRIED
  have hMOST_LISTED := PySem.W.mg_of X G m_MOST_LISTED
  have R_TooMany := er_TooMany
  have R_NoAmount := er_NoAmount
  have R_NoPayment := er_NoPayment
  have R_NoCount := er_NoCount
  have F0 := fun_mk (st := s_law_next) l0 c0 k0
  have b0 := F0.binds (ps := ["seed"]) fun _ _ _ _ _ _ us hl => match us, hl with | [_], _ => rfl
  have F1 := fun_mk (st := s_law_cell_at) l1 c1 k1
  have b1 := F1.binds (ps := ["script", "k"]) fun _ _ _ _ _ _ us hl => match us, hl with | [_, _], _ => rfl
  have F2 := fun_mk (st := s_law_row_by) l2 c2 k2
  have b2 := F2.binds (ps := ["script", "most"]) fun _ _ _ _ _ _ us hl => match us, hl with | [_, _], _ => rfl
  have F3 := fun_mk (st := s_law_pieces) l3 c3 k3
  have b3 := F3.binds (ps := ["links", "opened"]) fun _ _ _ _ _ _ us hl => match us, hl with | [_, _], _ => rfl
  have F4 := fun_mk (st := s_law_held_by) l4 c4 k4
  have b4 := F4.binds (ps := ["script", "size"]) fun _ _ _ _ _ _ us hl => match us, hl with | [_, _], _ => rfl
  have F5 := fun_mk (st := s_asked_links) l5 c5 k5
  have b5 := F5.binds (ps := ["links"]) fun _ _ _ _ _ _ us hl => match us, hl with | [_], _ => rfl
  have F6 := fun_mk (st := s_asked_row) l6 c6 k6
  have b6 := F6.binds (ps := ["links", "opened"]) fun _ _ _ _ _ _ us hl => match us, hl with | [_, _], _ => rfl
  have F7 := fun_mk (st := s_asked_few) l7 c7 k7
  have b7 := F7.binds (ps := ["links", "opened"]) fun _ _ _ _ _ _ us hl => match us, hl with | [_, _], _ => rfl
  have F8 := fun_mk (st := s_asked_amount) l8 c8 k8
  have b8 := F8.binds (ps := ["links", "opened", "amount"]) fun _ _ _ _ _ _ us hl => match us, hl with | [_, _, _], _ => rfl
  have F9 := fun_mk (st := s_pieces_of) l9 c9 k9
  have b9 := F9.binds (ps := ["links", "opened"]) fun _ _ _ _ _ _ us hl => match us, hl with | [_, _], _ => rfl
  have F10 := fun_mk (st := s_sorts) l10 c10 k10
  have b10 := F10.binds (ps := ["links", "opened"]) fun _ _ _ _ _ _ us hl => match us, hl with | [_, _], _ => rfl
  have F11 := fun_mk (st := s_fitting) l11 c11 k11
  have b11 := F11.binds (ps := ["every", "ones", "others", "amount"]) fun _ _ _ _ _ _ us hl => match us, hl with | [_, _, _, _], _ => rfl
  have F12 := fun_mk (st := s_payment_of) l12 c12 k12
  have b12 := F12.binds (ps := ["links", "opened", "amount"]) fun _ _ _ _ _ _ us hl => match us, hl with | [_, _, _], _ => rfl
  have F13 := fun_mk (st := s_payment) l13 c13 k13
  have b13 := F13.binds (ps := ["links", "opened", "amount"]) fun _ _ _ _ _ _ us hl => match us, hl with | [_, _, _], _ => rfl
  have F14 := fun_mk (st := s_payable) l14 c14 k14
  have b14 := F14.binds (ps := ["links", "opened", "amount"]) fun _ _ _ _ _ _ us hl => match us, hl with | [_, _, _], _ => rfl
  have F15 := fun_mk (st := s_picks) l15 c15 k15
  have b15 := F15.binds (ps := ["many", "some"]) fun _ _ _ _ _ _ us hl => match us, hl with | [_, _], _ => rfl
  have F16 := fun_mk (st := s_ways) l16 c16 k16
  have b16 := F16.binds (ps := ["links", "opened", "amount"]) fun _ _ _ _ _ _ us hl => match us, hl with | [_, _, _], _ => rfl
  have F17 := fun_mk (st := s_step) l17 c17 k17
  have b17 := F17.binds (ps := ["links", "opened", "held"]) fun _ _ _ _ _ _ us hl => match us, hl with | [_, _, _], _ => rfl
  have F18 := fun_mk (st := s_most_links) l18 c18 k18
  have b18 := F18.binds (ps := ["openings"]) fun _ _ _ _ _ _ us hl => match us, hl with | [_], _ => rfl
  have F19 := fun_mk (st := s_fewest) l19 c19 k19
  have b19 := F19.binds (ps := ["links"]) fun _ _ _ _ _ _ us hl => match us, hl with | [_], _ => rfl
  have F20 := fun_mk (st := s_gap_of) l20 c20 k20
  have b20 := F20.binds (ps := ["links", "opened"]) fun _ _ _ _ _ _ us hl => match us, hl with | [_, _], _ => rfl
  have F21 := fun_mk (st := s_lists_of) l21 c21 k21
  have b21 := F21.binds (ps := ["links", "openings"]) fun _ _ _ _ _ _ us hl => match us, hl with | [_, _], _ => rfl
  have F22 := fun_mk (st := s_all_full) l22 c22 k22
  have b22 := F22.binds (ps := ["links"]) fun _ _ _ _ _ _ us hl => match us, hl with | [_], _ => rfl
  have F23 := fun_mk (st := s_law_called) l23 c23 k23
  have b23 := F23.binds (ps := ["which", "links", "opened", "amount", "held"]) fun _ _ _ _ _ _ us hl => match us, hl with | [_, _, _, _, _], _ => rfl
  have F24 := fun_mk (st := s_law_other) l24 c24 k24
  have b24 := F24.binds (ps := ["e", "wanted"]) fun _ _ _ _ _ _ us hl => match us, hl with | [_, _], _ => rfl
  have F25 := fun_mk (st := s_law_told) l25 c25 k25
  have b25 := F25.binds (ps := ["which", "links", "opened", "amount", "held"]) fun _ _ _ _ _ _ us hl => match us, hl with | [_, _, _, _, _], _ => rfl
  have F26 := fun_mk (st := s_law) l26 c26 k26
  refine ⟨PySem.W.fnOf "law" "law" (defArgs s_law) (defBody s_law) (defScope s_law) .none kV26 dc26 pm26 an26 cd26 ct26, fun s v => .of_eq rfl, fun base _ _ => ?_⟩
  let C_law_next : CalN l.prog w K mg base 1 "_law_next" ["seed"] (sp_law_next ) := ⟨f0, _, ok_law_next F0 T, PySem.W.mg_of X G a0, k0, b0⟩
  let C_law_cell_at : CalN l.prog w K mg base 1 "_law_cell_at" ["script", "k"] (sp_law_cell_at K) := ⟨f1, _, ok_law_cell_at F1 T, PySem.W.mg_of X G a1, k1, b1⟩
  let C_law_row_by : CalN l.prog w K mg base 2 "_law_row_by" ["script", "most"] (sp_law_row_by K) := ⟨f2, _, ok_law_row_by F2 T C_law_next C_law_cell_at, PySem.W.mg_of X G a2, k2, b2⟩
  let C_law_pieces : CalN l.prog w K mg base 1 "_law_pieces" ["links", "opened"] (sp_law_pieces ) := ⟨f3, _, ok_law_pieces F3 T, PySem.W.mg_of X G a3, k3, b3⟩
  let C_law_held_by : CalN l.prog w K mg base 2 "_law_held_by" ["script", "size"] (sp_law_held_by K) := ⟨f4, _, ok_law_held_by F4 T C_law_next C_law_cell_at, PySem.W.mg_of X G a4, k4, b4⟩
  let C_asked_links : CalN l.prog w K mg base 1 "asked_links" ["links"] (sp_asked_links X_NoRow.C) := ⟨f5, _, ok_asked_links F5 T X_NoRow hMOST_LINKS, PySem.W.mg_of X G a5, k5, b5⟩
  let C_asked_row : CalN l.prog w K mg base 2 "asked_row" ["links", "opened"] (sp_asked_row X_NoRow.C X_NoOpened.C) := ⟨f6, _, ok_asked_row F6 T X_NoRow X_NoOpened hMOST_OPENED C_asked_links, PySem.W.mg_of X G a6, k6, b6⟩
  let C_asked_few : CalN l.prog w K mg base 3 "asked_few" ["links", "opened"] (sp_asked_few X_NoRow.C X_NoOpened.C X_TooMany.C) := ⟨f7, _, ok_asked_few F7 T X_NoRow X_NoOpened X_TooMany hMOST_TRIED C_asked_row, PySem.W.mg_of X G a7, k7, b7⟩
  let C_asked_amount : CalN l.prog w K mg base 4 "asked_amount" ["links", "opened", "amount"] (sp_asked_amount X_NoRow.C X_NoOpened.C X_TooMany.C X_NoAmount.C) := ⟨f8, _, ok_asked_amount F8 T X_NoRow X_NoOpened X_TooMany X_NoAmount C_asked_few, PySem.W.mg_of X G a8, k8, b8⟩
  let C_pieces_of : CalN l.prog w K mg base 1 "pieces_of" ["links", "opened"] (sp_pieces_of ) := ⟨f9, _, ok_pieces_of F9 T, PySem.W.mg_of X G a9, k9, b9⟩
  let C_sorts : CalN l.prog w K mg base 2 "sorts" ["links", "opened"] (sp_sorts ) := ⟨f10, _, ok_sorts F10 T C_pieces_of, PySem.W.mg_of X G a10, k10, b10⟩
  let C_fitting : CalN l.prog w K mg base 1 "fitting" ["every", "ones", "others", "amount"] (sp_fitting ) := ⟨f11, _, ok_fitting F11 T, PySem.W.mg_of X G a11, k11, b11⟩
  let C_payment_of : CalN l.prog w K mg base 3 "payment_of" ["links", "opened", "amount"] (sp_payment_of ) := ⟨f12, _, ok_payment_of F12 T C_sorts C_fitting, PySem.W.mg_of X G a12, k12, b12⟩
  let C_payment : CalN l.prog w K mg base 5 "payment" ["links", "opened", "amount"] (sp_payment X_NoRow.C X_NoOpened.C X_TooMany.C X_NoAmount.C) := ⟨f13, _, ok_payment F13 T X_NoRow X_NoOpened X_TooMany X_NoAmount C_asked_amount C_payment_of, PySem.W.mg_of X G a13, k13, b13⟩
  let C_payable : CalN l.prog w K mg base 6 "payable" ["links", "opened", "amount"] (sp_payable X_NoRow.C X_NoOpened.C X_TooMany.C X_NoAmount.C) := ⟨f14, _, ok_payable F14 T X_NoRow X_NoOpened X_TooMany X_NoAmount C_payment, PySem.W.mg_of X G a14, k14, b14⟩
  let C_picks : CalN l.prog w K mg base 1 "picks" ["many", "some"] (sp_picks ) := ⟨f15, _, ok_picks F15 T, PySem.W.mg_of X G a15, k15, b15⟩
  let C_ways : CalN l.prog w K mg base 5 "ways" ["links", "opened", "amount"] (sp_ways X_NoRow.C X_NoOpened.C X_TooMany.C X_NoAmount.C) := ⟨f16, _, ok_ways F16 T X_NoRow X_NoOpened X_TooMany X_NoAmount C_asked_amount C_sorts C_fitting C_picks, PySem.W.mg_of X G a16, k16, b16⟩
  let C_step : CalN l.prog w K mg base 4 "step" ["links", "opened", "held"] (sp_step X_NoRow.C X_NoOpened.C X_TooMany.C X_NoAmount.C X_NoPayment.C) := ⟨f17, _, ok_step F17 T X_NoRow X_NoOpened X_TooMany X_NoAmount X_NoPayment C_asked_few C_pieces_of C_payment_of, PySem.W.mg_of X G a17, k17, b17⟩
  let C_most_links : CalN l.prog w K mg base 1 "most_links" ["openings"] (sp_most_links ) := ⟨f18, _, ok_most_links F18 T, PySem.W.mg_of X G a18, k18, b18⟩
  let C_fewest : CalN l.prog w K mg base 2 "fewest" ["links"] (sp_fewest X_NoRow.C) := ⟨f19, _, ok_fewest F19 T X_NoRow C_asked_links C_most_links, PySem.W.mg_of X G a19, k19, b19⟩
  let C_gap_of : CalN l.prog w K mg base 2 "gap_of" ["links", "opened"] (sp_gap_of ) := ⟨f20, _, ok_gap_of F20 T C_pieces_of, PySem.W.mg_of X G a20, k20, b20⟩
  let C_lists_of : CalN l.prog w K mg base 1 "lists_of" ["links", "openings"] (sp_lists_of ) := ⟨f21, _, ok_lists_of F21 T, PySem.W.mg_of X G a21, k21, b21⟩
  let C_all_full : CalN l.prog w K mg base 3 "all_full" ["links"] (sp_all_full X_NoRow.C X_NoCount.C) := ⟨f22, _, ok_all_full F22 T X_NoRow X_NoCount hMOST_LISTED C_fewest C_gap_of C_lists_of, PySem.W.mg_of X G a22, k22, b22⟩
  let C_law_called : CalN l.prog w K mg base 7 "_law_called" ["which", "links", "opened", "amount", "held"] (sp_law_called X_NoRow.C X_NoOpened.C X_TooMany.C X_NoAmount.C X_NoPayment.C X_NoCount.C) := ⟨f23, _, ok_law_called F23 T X_NoRow X_NoOpened X_TooMany X_NoAmount X_NoPayment X_NoCount C_payable C_payment C_ways C_step C_all_full, PySem.W.mg_of X G a23, k23, b23⟩
  let C_law_other : CalE l.prog w K mg base 1 "_law_other" ["e", "wanted"] (sp_law_other K X_NoRow.C X_NoOpened.C X_TooMany.C X_NoAmount.C X_NoPayment.C X_NoCount.C X_NoNote.C X_PayError.C) := ⟨f24, _, ok_law_other F24 T X_NoRow X_NoOpened X_TooMany X_NoAmount X_NoPayment X_NoCount X_NoNote X_PayError, PySem.W.mg_of X G a24, k24, b24⟩
  let C_law_told : CalN l.prog w K mg base 8 "_law_told" ["which", "links", "opened", "amount", "held"] (sp_law_told ) := ⟨f25, _, ok_law_told F25 T X_PayError X_NoRow X_NoOpened X_TooMany X_NoAmount X_NoPayment X_NoCount X_NoNote R_TooMany R_NoAmount R_NoPayment R_NoCount C_law_called C_law_other, PySem.W.mg_of X G a25, k25, b25⟩
  exact ok_law F26 T C_law_row_by C_law_pieces C_law_held_by C_law_cell_at C_law_told
end Lp
open PySem PySem.W PyProof.Rows
set_option maxRecDepth 100000 in
set_option maxHeartbeats 0 in
theorem PySem.Challenge.cw_linkpay_k10_which_refusal_holds : PySem.Challenge.rw_linkpay_k10_which_refusal.Holds := by
  w_on; o_law; k_head; (case hw => w_witness2)
  k_fill
  refine Lp.walkXN (l := PySem.Challenge.rw_linkpay_k10_which_refusal) (n := 63) (k := 9) (x := "script") (sp := fun w => Lp.sp_law _) rfl (by decide) rfl ⟨rfl, by decide, by decide⟩ (fun w h Y => PySem.W.kIn_of Y) ?F (fun _ _ a ns hl hS => ⟨a, ns, rfl, hS, fun _ => rfl⟩)
  case F =>
    intro w mg fa h KX G XX hmg
    obtain ⟨tML, hML⟩ := Lp.loose_int XX.2 (n := "MOST_LINKS") (i := 1000000000000000000000000000000) (by simp)
    refine' Lp.all_mk KX G hmg ?a0 ?l0 ?c0 ?k0 ?a1 ?l1 ?c1 ?k1 ?a2 ?l2 ?c2 ?k2 ?a3 ?l3 ?c3 ?k3 ?a4 ?l4 ?c4 ?k4 ?a5 ?l5 ?c5 ?k5 ?a6 ?l6 ?c6 ?k6 ?a7 ?l7 ?c7 ?k7 ?a8 ?l8 ?c8 ?k8 ?a9 ?l9 ?c9 ?k9 ?a10 ?l10 ?c10 ?k10 ?a11 ?l11 ?c11 ?k11 ?a12 ?l12 ?c12 ?k12 ?a13 ?l13 ?c13 ?k13 ?a14 ?l14 ?c14 ?k14 ?a15 ?l15 ?c15 ?k15 ?a16 ?l16 ?c16 ?k16 ?a17 ?l17 ?c17 ?k17 ?a18 ?l18 ?c18 ?k18 ?a19 ?l19 ?c19 ?k19 ?a20 ?l20 ?c20 ?k20 ?a21 ?l21 ?c21 ?k21 ?a22 ?l22 ?c22 ?k22 ?a23 ?l23 ?c23 ?k23 ?a24 ?l24 ?c24 ?k24 ?a25 ?l25 ?c25 ?k25 ?a26 ?l26 ?c26 ?k26 ?z_len ?z_range ?z_sorted ?z_isinstance ?z_int ?z_bool ?z_list ?z_tuple ?z_str ?z_set ?z_dict ?z_enumerate ?z_zip ?z_sum ?z_min ?z_max ?z_ValueError ?xa_NoRow ?xx_NoRow ?xk_NoRow ?xe_NoRow ?xt_NoRow ?xa_NoOpened ?xx_NoOpened ?xk_NoOpened ?xe_NoOpened ?xt_NoOpened ?xa_TooMany ?xx_TooMany ?xk_TooMany ?xe_TooMany ?xt_TooMany ?xa_NoAmount ?xx_NoAmount ?xk_NoAmount ?xe_NoAmount ?xt_NoAmount ?xa_NoPayment ?xx_NoPayment ?xk_NoPayment ?xe_NoPayment ?xt_NoPayment ?xa_NoCount ?xx_NoCount ?xk_NoCount ?xe_NoCount ?xt_NoCount ?xa_NoNote ?xx_NoNote ?xk_NoNote ?xe_NoNote ?xt_NoNote ?xa_PayError ?xx_PayError ?xk_PayError ?xe_PayError ?xt_PayError hML ?m_MOST_OPENED ?m_MOST_TRIED ?m_MOST_LISTED ?er_TooMany ?er_NoAmount ?er_NoPayment ?er_NoCount
    (case a0 => k_is)
    (case l0 => k_is)
    (case c0 => k_is)
    (case k0 => k_is)
    (case a1 => k_is)
    (case l1 => k_is)
    (case c1 => k_is)
    (case k1 => k_is)
    (case a2 => k_is)
    (case l2 => k_is)
    (case c2 => k_is)
    (case k2 => k_is)
    (case a3 => k_is)
    (case l3 => k_is)
    (case c3 => k_is)
    (case k3 => k_is)
    (case a4 => k_is)
    (case l4 => k_is)
    (case c4 => k_is)
    (case k4 => k_is)
    (case a5 => k_is)
    (case l5 => k_is)
    (case c5 => k_is)
    (case k5 => k_is)
    (case a6 => k_is)
    (case l6 => k_is)
    (case c6 => k_is)
    (case k6 => k_is)
    (case a7 => k_is)
    (case l7 => k_is)
    (case c7 => k_is)
    (case k7 => k_is)
    (case a8 => k_is)
    (case l8 => k_is)
    (case c8 => k_is)
    (case k8 => k_is)
    (case a9 => k_is)
    (case l9 => k_is)
    (case c9 => k_is)
    (case k9 => k_is)
    (case a10 => k_is)
    (case l10 => k_is)
    (case c10 => k_is)
    (case k10 => k_is)
    (case a11 => k_is)
    (case l11 => k_is)
    (case c11 => k_is)
    (case k11 => k_is)
    (case a12 => k_is)
    (case l12 => k_is)
    (case c12 => k_is)
    (case k12 => k_is)
    (case a13 => k_is)
    (case l13 => k_is)
    (case c13 => k_is)
    (case k13 => k_is)
    (case a14 => k_is)
    (case l14 => k_is)
    (case c14 => k_is)
    (case k14 => k_is)
    (case a15 => k_is)
    (case l15 => k_is)
    (case c15 => k_is)
    (case k15 => k_is)
    (case a16 => k_is)
    (case l16 => k_is)
    (case c16 => k_is)
    (case k16 => k_is)
    (case a17 => k_is)
    (case l17 => k_is)
    (case c17 => k_is)
    (case k17 => k_is)
    (case a18 => k_is)
    (case l18 => k_is)
    (case c18 => k_is)
    (case k18 => k_is)
    (case a19 => k_is)
    (case l19 => k_is)
    (case c19 => k_is)
    (case k19 => k_is)
    (case a20 => k_is)
    (case l20 => k_is)
    (case c20 => k_is)
    (case k20 => k_is)
    (case a21 => k_is)
    (case l21 => k_is)
    (case c21 => k_is)
    (case k21 => k_is)
    (case a22 => k_is)
    (case l22 => k_is)
    (case c22 => k_is)
    (case k22 => k_is)
    (case a23 => k_is)
    (case l23 => k_is)
    (case c23 => k_is)
    (case k23 => k_is)
    (case a24 => k_is)
    (case l24 => k_is)
    (case c24 => k_is)
    (case k24 => k_is)
    (case a25 => k_is)
    (case l25 => k_is)
    (case c25 => k_is)
    (case k25 => k_is)
    (case a26 => k_is)
    (case l26 => k_is)
    (case c26 => k_is)
    (case k26 => k_is)
    (case z_len => k_is)
    (case z_range => k_is)
    (case z_sorted => k_is)
    (case z_isinstance => k_is)
    (case z_int => k_is)
    (case z_bool => k_is)
    (case z_list => k_is)
    (case z_tuple => k_is)
    (case z_str => k_is)
    (case z_set => k_is)
    (case z_dict => k_is)
    (case z_enumerate => k_is)
    (case z_zip => k_is)
    (case z_sum => k_is)
    (case z_min => k_is)
    (case z_max => k_is)
    (case z_ValueError => k_is)
    (case xa_NoRow => k_is)
    (case xx_NoRow => k_exc)
    (case xk_NoRow => k_is)
    (case xe_NoRow => k_is)
    (case xt_NoRow => k_is)
    (case xa_NoOpened => k_is)
    (case xx_NoOpened => k_exc)
    (case xk_NoOpened => k_is)
    (case xe_NoOpened => k_is)
    (case xt_NoOpened => k_is)
    (case xa_TooMany => k_is)
    (case xx_TooMany => k_exc)
    (case xk_TooMany => k_is)
    (case xe_TooMany => k_is)
    (case xt_TooMany => k_is)
    (case xa_NoAmount => k_is)
    (case xx_NoAmount => k_exc)
    (case xk_NoAmount => k_is)
    (case xe_NoAmount => k_is)
    (case xt_NoAmount => k_is)
    (case xa_NoPayment => k_is)
    (case xx_NoPayment => k_exc)
    (case xk_NoPayment => k_is)
    (case xe_NoPayment => k_is)
    (case xt_NoPayment => k_is)
    (case xa_NoCount => k_is)
    (case xx_NoCount => k_exc)
    (case xk_NoCount => k_is)
    (case xe_NoCount => k_is)
    (case xt_NoCount => k_is)
    (case xa_NoNote => k_is)
    (case xx_NoNote => k_exc)
    (case xk_NoNote => k_is)
    (case xe_NoNote => k_is)
    (case xt_NoNote => k_is)
    (case xa_PayError => k_is)
    (case xx_PayError => k_exc)
    (case xk_PayError => k_is)
    (case xe_PayError => k_is)
    (case xt_PayError => k_is)
    (case m_MOST_OPENED => k_is)
    (case m_MOST_TRIED => k_is)
    (case m_MOST_LISTED => k_is)
    (case er_TooMany => refine' Lp.errOk_mk ⟨?_, ?_, ?_, ?_, ?_, ?_, ?_, ?_⟩ (by decide) ?_ ?_ ?_ ?_ ?_ ?_ ?_ ?_ ?_ ?_ ?_ ?_ ?_ ?_ ?_ ?_ ?_ ?_ ?_ ?_ ?_ ?_ ?_ ?_ ?_ ?_ ?_ ?_ ?_ ?_ ?_ ?_ ?_ <;> first | k_is | decide)
    (case er_NoAmount => refine' Lp.errOk_mk ⟨?_, ?_, ?_, ?_, ?_, ?_, ?_, ?_⟩ (by decide) ?_ ?_ ?_ ?_ ?_ ?_ ?_ ?_ ?_ ?_ ?_ ?_ ?_ ?_ ?_ ?_ ?_ ?_ ?_ ?_ ?_ ?_ ?_ ?_ ?_ ?_ ?_ ?_ ?_ ?_ ?_ ?_ ?_ <;> first | k_is | decide)
    (case er_NoPayment => refine' Lp.errOk_mk ⟨?_, ?_, ?_, ?_, ?_, ?_, ?_, ?_⟩ (by decide) ?_ ?_ ?_ ?_ ?_ ?_ ?_ ?_ ?_ ?_ ?_ ?_ ?_ ?_ ?_ ?_ ?_ ?_ ?_ ?_ ?_ ?_ ?_ ?_ ?_ ?_ ?_ ?_ ?_ ?_ ?_ ?_ ?_ <;> first | k_is | decide)
    (case er_NoCount => refine' Lp.errOk_mk ⟨?_, ?_, ?_, ?_, ?_, ?_, ?_, ?_⟩ (by decide) ?_ ?_ ?_ ?_ ?_ ?_ ?_ ?_ ?_ ?_ ?_ ?_ ?_ ?_ ?_ ?_ ?_ ?_ ?_ ?_ ?_ ?_ ?_ ?_ ?_ ?_ ?_ ?_ ?_ ?_ ?_ ?_ ?_ <;> first | k_is | decide)
