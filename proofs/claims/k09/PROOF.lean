import PyProof.Rows.All
import Wide.All
import OpenK.AllK
import Wide.FinOn
import HandS.ForMost
import HandS.ForExc
import HandS.Evl
import HandS.IsInst
import HandS.SortInts
import HandS.More
import HandS.Steps
import HandS.Strs
import HandS.SetFor
import HandS.Zip
import HandS.Style
import HandS.Conv
import PySem.Challenge.RW_linkpay_k09_whole_none_fewer
set_option Elab.async false
set_option linter.all false
set_option maxRecDepth 100000
set_option maxHeartbeats 4000000
namespace Lp
open PySem PySem.Spec PyProof.Rows L2
open Evl (Ex)
/-! ### defs, classes, built-in names -/
structure Cal (P : Program) (w : World) (K : PySem.W.Frag) (mg : Str → Option Value) (base : Heap) (k : Nat) (x : Str) (ps : List Str) (sp : Sp) where
  f : Addr
  fd : FuncData
  ok : FnOk P w K mg base (L2.CX P w) k f fd ps sp
  gl : mg x = some (.ref f)
  kp : PySem.W.keepIn K (.ref f) = true
  bd : Binds K fd ps []
structure Bl (mg : Str → Option Value) : Prop where
  b_len : mg "len" = none
  b_range : mg "range" = none
  b_sorted : mg "sorted" = none
  b_isinstance : mg "isinstance" = none
  b_int : mg "int" = none
  b_bool : mg "bool" = none
  b_list : mg "list" = none
  b_tuple : mg "tuple" = none
  b_str : mg "str" = none
  b_set : mg "set" = none
  b_dict : mg "dict" = none
  b_enumerate : mg "enumerate" = none
  b_zip : mg "zip" = none
  b_sum : mg "sum" = none
  b_min : mg "min" = none
  b_max : mg "max" = none
  b_ValueError : mg "ValueError" = none
/-- an own class of errors, without a body -/
structure Exo (K : PySem.W.Frag) (mg : Str → Option Value) (x : Str) where
  C : Addr
  q : PySem.W.excIn K C [.type "ValueError", .type "Exception", .type "BaseException", .type "object"] "ValueError.__new__" = true
  gC : mg x = some (.ref C)
  kC : PySem.W.keepIn K (.ref C) = true
  e1 : PySem.W.subIn K (.ref C) (.type "BaseException") = some true
  e2 : PySem.W.typeIn K (.ref C) = some (.type "type")
theorem Exo.mk' {X : Cx} {x m : Str} (T : Exo X.K X.mg x) (hg : Gl X x) {j : Nat} {p p2 pos : Pos} (hdb : (x == ("__debug__" : Str)) = false := by decide) :
    PMk X (.Call (.Name x p) [.Constant (.str m) j p2] [] pos) (fun _ H Q => Q (.ref T.C) none H) :=
  pmk_own PySem.F.excBase_ValueError T.q T.gC T.kC (raises_own T.e1 T.e2) hg hdb

theorem noCX {P : Program} {w : World} {H : Hp} {s : Shared} {e : Value} {s' : Shared} (h : L2.CX P w [] H s (fun _ _ _ => False) e s') : False := by
  obtain ⟨_, _, _, _, _, _, _, _, _, _, _, _, z⟩ := h
  exact z.elim
/-- the goal behind the head, where the law's promise may use what the head says of the loose names -/
theorem walkX {l : PySem.W.OpenLaw} {n k : Nat} {q : Program} {loose : List Str} {XP : (Str → Option Value) → Heap → Prop} {YP : World → Heap → Prop} {d : DefRec} {K : Params → PySem.W.Frag} {sp : World → Sp} {x : Str}
    (hn : l.most = some n) (hz : n ≤ sizeLine) (hdf : d.params.defaults = []) (hr : Room k callerA) (hY : ∀ (w : World) (h : Heap), YP w h → (K w.params).In h)
    (F : ∀ (w : World) (mg : Str → Option Value) (fa : Addr) (h : Heap), (K w.params).In h → h.Ns mainGlobals mg → XP mg h → mg d.name = some (.ref fa) →
      ∃ fd : FuncData, (∀ (s : Shared) (u : Value), BindsTo s fd ⟨[u], []⟩ [(x, u)]) ∧
        ∀ base : Heap, (K w.params).In base → base.Ns mainGlobals mg → FnOk l.prog w (K w.params) mg base (L2.CX l.prog w) k fa fd [x] (sp w))
    (hsp : ∀ (w : World) (H : Hp) (a : Addr) (ns : List Int), ns.length ≤ n → SqL (K w.params) H a (ns.map V.int) → sp w [.ref a] H (fun v _ => v = .bl true) fun _ _ _ => False) :
    PySem.W.WalkO q loose XP YP l.row.toRowW d [] (fun f vs => PySem.call f vs) :=
  Att.attach_call hn hdf fun w s0 s1 mg mb fa o pm cd doc a vs ns G Y _ _ _ hmg hobj hints hlen hg => by
    obtain ⟨fd, hb, hF⟩ := F w mg fa s1.heap (hY w _ Y) G.T.g G.X hmg
    exact law_call (CX := L2.CX l.prog w) (hY w _ Y) G.T.g G.T.b G.T.builtins G.T.nolimit hg hobj hints (by omega) hr hF hb (fun H _ hS => hsp w H a ns hlen hS) fun H e s' => noCX
theorem loose_int {lv : List (Str × PySem.W.WData)} {mg : Str → Option Value} {h : Heap} (x : PySem.W.LooseAre lv mg h) {n : Str} {i : Int} (hm : (n, PySem.W.WData.int i) ∈ lv) : ∃ t, mg n = some (.int i t) := by
  obtain ⟨v, hv, r⟩ := x.val _ hm
  cases r
  exact ⟨_, hv⟩
/-! ### heaps -/
def Ints (H : Hp) (p : Addr) (ns : List Int) : Prop := H p = some (.lst (ns.map V.int))
theorem Ints.ex {H H' : Hp} {p : Addr} {ns : List Int} (h : Ints H p ns) (e : Ex H H') : Ints H' p ns := e _ _ h
theorem Ints.sq {K : PySem.W.Frag} {H : Hp} {p : Addr} {ns : List Int} (h : Ints H p ns) : SqL K H p (ns.map V.int) := .inl (.inl h)
/-- without the object at D -/
def del (H : Hp) (D : Addr) : Hp := fun b => if b = D then none else H b
theorem del_same {H : Hp} {D : Addr} : del H D D = none := if_pos rfl
theorem del_ne {H : Hp} {D b : Addr} (h : b ≠ D) : del H D b = H b := if_neg h
theorem del_le (H : Hp) (D : Addr) : Ex (del H D) H := fun a o h => by
  by_cases e : a = D
  · rw [e, del_same] at h
    cases h
  · rwa [del_ne e] at h
theorem del_upd (H : Hp) (D : Addr) (o : HO) : del (upd H D o) D = del H D := by
  funext b
  by_cases e : b = D
  · rw [e, del_same, del_same]
  · rw [del_ne e, del_ne e, upd_ne e]
theorem del_mono {H H' : Hp} (D : Addr) (e : Ex H H') : Ex (del H D) (del H' D) := fun a o h => by
  by_cases q : a = D
  · rw [q, del_same] at h
    cases h
  · rw [del_ne q] at h ⊢
    exact e _ _ h
theorem del_of {F H : Hp} {D : Addr} (e : Ex F H) (n : F D = none) : Ex F (del H D) := fun a o h => by
  rw [del_ne (ne_of_none h n)]
  exact e _ _ h
/-- a new object: told of some heap that holds it -/
theorem newO {H : Hp} {o : HO} {Q : V → Hp → Prop} (h : ∀ p H1, H p = none → Ex H H1 → H1 p = some o → H1 = upd H p o → Q (.ref p) H1) : ∀ p, H p = none → Q (.ref p) (upd H p o) :=
  fun p hp => h p _ hp (Evl.Ex.new hp) upd_same rfl

theorem nw {H : Hp} {p : Addr} (h : H p = none) (o : HO) : Ex H (upd H p o) ∧ upd H p o p = some o := ⟨Evl.Ex.new h, upd_same⟩

/-! ### related lists -/
theorem Paired.at {α β : Type} {F : α → β → Prop} : ∀ {l1 : List α} {l2 : List β} {i : Nat} {a : α}, Paired F l1 l2 → l1[i]? = some a → ∃ b, l2[i]? = some b ∧ F a b
  | _, _, _, _, .nil, e => by simp at e
  | _, _, 0, _, .cons r _, e => by
    simp at e
    subst e
    exact ⟨_, rfl, r⟩
  | _, _, i + 1, a, .cons _ t, e => by
    obtain ⟨b, h1, h2⟩ := Paired.at (i := i) (a := a) t (by simpa using e)
    exact ⟨b, by simpa using h1, h2⟩
theorem Paired.len {α β : Type} {F : α → β → Prop} : ∀ {l1 : List α} {l2 : List β}, Paired F l1 l2 → l1.length = l2.length
  | _, _, .nil => rfl
  | _, _, .cons _ t => by simp [Paired.len t]
theorem Paired.imp {α β : Type} {F G : α → β → Prop} : ∀ {l1 : List α} {l2 : List β}, Paired F l1 l2 → (∀ a b, F a b → G a b) → Paired G l1 l2
  | _, _, .nil, _ => .nil
  | _, _, .cons r t, h => .cons (h _ _ r) (Paired.imp t h)
theorem Paired.cat {α β : Type} {F : α → β → Prop} : ∀ {l1 l3 : List α} {l2 l4 : List β}, Paired F l1 l2 → Paired F l3 l4 → Paired F (l1 ++ l3) (l2 ++ l4)
  | _, _, _, _, .nil, s => s
  | _, _, _, _, .cons r t, s => .cons r (Paired.cat t s)
theorem Paired.ofMap {α β : Type} {F : α → β → Prop} {f : β → α} (h : ∀ b, F (f b) b) : ∀ l : List β, Paired F (l.map f) l
  | [] => .nil
  | b :: r => .cons (h b) (Paired.ofMap h r)
def IsI : V → Int → Prop := fun v n => v = .int n
theorem isI : ∀ l : List Int, Paired IsI (l.map V.int) l
  | [] => .nil
  | n :: r => .cons (show IsI (V.int n) n from rfl) (isI r)
theorem isI_eq : ∀ {xs : List V} {l : List Int}, Paired IsI xs l → xs = l.map V.int
  | _, _, .nil => rfl
  | _, _, .cons r t => by rw [isI_eq t, show _ = _ from r]; rfl
/-- a pair of ints -/
def RP (H : Hp) : V → Int × Int → Prop := fun v p => ∃ a, v = .ref a ∧ H a = some (.tup [.int p.1, .int p.2])
theorem RP.ex {H H' : Hp} (e : Ex H H') {v : V} {p : Int × Int} (h : RP H v p) : RP H' v p := by
  obtain ⟨a, rfl, q⟩ := h
  exact ⟨a, rfl, e _ _ q⟩
theorem RP.mut {H : Hp} {q : Addr} {xs ys : List V} (hq : H q = some (.lst xs)) {v : V} {p : Int × Int} (h : RP H v p) : RP (upd H q (.lst ys)) v p := by
  obtain ⟨a, rfl, z⟩ := h
  refine ⟨a, rfl, ?_⟩
  rw [upd_ne (ne_of z hq (by intro z; cases z))]
  exact z
/-- a list of pairs -/
def Prs (H : Hp) (p : Addr) (ps : List (Int × Int)) : Prop := ∃ xs, H p = some (.lst xs) ∧ Paired (RP H) xs ps
theorem Prs.ex {H H' : Hp} {p : Addr} {ps : List (Int × Int)} (h : Prs H p ps) (e : Ex H H') : Prs H' p ps := by
  obtain ⟨xs, h1, h2⟩ := h
  exact ⟨xs, e _ _ h1, Paired.imp h2 fun _ _ => RP.ex e⟩
theorem take_snoc {α : Type} {l : List α} {i : Nat} {x : α} (h : l[i]? = some x) : l.take (i + 1) = l.take i ++ [x] := by
  rw [List.take_add_one, h]
  rfl

/-! ### loops -/
/-- a for over a list that stands still: the word speaks of the items taken -/
theorem for_pre {β : Type} {K : PySem.W.Frag} {a : Addr} {xs : List V} {g : TG} {tb : TS} {D : Ends} {σ : L2.St} {H : Hp} {R : V → β → Prop} {ys : List β} (hp : Paired R xs ys) (I : List β → L2.St → Hp → Prop) (h0 : I [] σ H)
    (hl : ∀ pre σ H, I pre σ H → SqL K H a xs)
    (hs : ∀ pre y post x σ H, ys = pre ++ y :: post → R x y → I pre σ H → g x σ H fun σ2 H2 => tb { D with nx := I (pre ++ [y]), ct := I (pre ++ [y]), bk := D.nx } σ2 H2) (hd : ∀ σ H, I ys σ H → D.nx σ H) :
    ∃ W : Nat → Nat → L2.St → Hp → Prop, (∃ m, W 0 m σ H) ∧ ∀ i m σ H, W i m σ H →
      ((Itl K a).stop i H ∧ D.nx σ H) ∨ ((Itl K a).go i H ∧ ∃ N : L2.St → Hp → Prop, (∀ σ' H', N σ' H' → ∃ m', m' < m ∧ W (i + 1) m' σ' H') ∧ ∀ x H', (Itl K a).yld i H x H' → g x σ H' fun σ2 H2 => tb { D with nx := N, ct := N, bk := D.nx } σ2 H2) := by
  refine for_list (xs := xs) (fun i σ H => I (ys.take i) σ H) h0 (fun i σ H _ q => hl _ _ _ q) (fun i x σ H hx q => ?_) (fun σ H q => hd σ H ?_)
  · obtain ⟨y, hy, r⟩ := Paired.at hp hx
    have hi : i < ys.length := (List.getElem?_eq_some_iff.mp hy).1
    have e : ys = ys.take i ++ y :: ys.drop (i + 1) := by
      have e2 := (List.getElem?_eq_some_iff.mp hy).2
      rw [← e2, ← List.drop_eq_getElem_cons hi, List.take_append_drop]
    have z := hs (ys.take i) y _ x σ H e r q
    rw [← take_snoc hy] at z
    exact z
  · have q' : I (ys.take xs.length) σ H := q
    rwa [Paired.len hp, List.take_length] at q'
/-- a comprehension over a list that stands still; what it makes is told of the heap without the new list -/
theorem lc_pre {β γ : Type} {K : PySem.W.Frag} {a : Addr} {xs : List V} {g : TG} {tt : TT} {te : TE} {vs : List Nat} {σ : L2.St} {H : Hp} {Dl : Addr} {Qd : Hp → Prop} {R : V → β → Prop} {ys : List β} {R' : Hp → V → γ → Prop} (hD : H Dl = none)
    (hp : Paired R xs ys) (hsrc : SqL K H a xs) (hz : xs.length < sizeLine) (mono : ∀ H1 H2 v c, Ex H1 H2 → R' H1 v c → R' H2 v c) (p : β → Bool) (f : β → γ)
    (hs : ∀ y x H1 acc, y ∈ ys → R x y → Ex H (del H1 Dl) → H1 Dl = some (.lst acc) → ∀ (Y : V → Hp → Prop) (Z : Hp → Prop), (p y = true → ∀ v H4, Ex H1 H4 → R' (del H4 Dl) v (f y) → Y v H4) → (p y = false → ∀ H3, Ex H1 H3 → Z H3) →
      g x (wipe σ vs) H1 fun σ2 H2 => wipe σ2 vs = wipe σ vs ∧ tt σ2 H2 fun b H3 => if b = true then te σ2 H3 Y else Z H3)
    (hd : ∀ H2 acc, H2 Dl = some (.lst acc) → Ex H (del H2 Dl) → Paired (R' (del H2 Dl)) acc ((ys.filter p).map f) → Qd H2) :
    ∃ W : Nat → Nat → Hp → Prop, (∃ m, W 0 m (upd H Dl (.lst []))) ∧ ∀ i m H, W i m H →
      ((Itl K a).stop i H ∧ Qd H) ∨ ((Itl K a).go i H ∧ ∃ Nx : Hp → Prop, (∀ H', Nx H' → ∃ m', m' < m ∧ W (i + 1) m' H') ∧ ∀ x H', (Itl K a).yld i H x H' → g x (wipe σ vs) H' fun σ2 H2 => wipe σ2 vs = wipe σ vs ∧ tt σ2 H2 fun b H3 =>
        if b = true then te σ2 H3 fun y H4 => ∃ acc, H4 Dl = some (.lst acc) ∧ acc.length < sizeLine ∧ Nx (upd H4 Dl (.lst (acc ++ [y]))) else Nx H3) := by
  have hlen : ∀ i, ((List.filter p (ys.take i)).map f).length ≤ ys.length := fun i => by
    rw [List.length_map]
    exact Nat.le_trans (List.length_filter_le _ _) (by rw [List.length_take]; exact Nat.min_le_right _ _)
  have hL := Paired.len hp
  refine lc_list (xs := xs) (fun i H2 => ∃ acc, H2 Dl = some (.lst acc) ∧ Ex H (del H2 Dl) ∧ Paired (R' (del H2 Dl)) acc (((ys.take i).filter p).map f)) ⟨[], upd_same, ?_, ?_⟩ (fun i H2 _ q => ?_) (fun i x H2 hx q => ?_) (fun H2 q => ?_)
  · rw [del_upd]
    exact del_of (Evl.Ex.refl H) hD
  · exact .nil
  · obtain ⟨acc, _, e, _⟩ := q
    exact Evl.ex_l (e.trans (del_le _ _)) hsrc
  · obtain ⟨acc, h1, h2, h3⟩ := q
    obtain ⟨y, hy, r⟩ := Paired.at hp hx
    have ha : acc.length ≤ ys.length := by
      rw [Paired.len h3]
      exact hlen i
    refine hs y x H2 acc (List.mem_of_getElem? hy) r h2 h1 _ _ (fun hpy v H4 e4 r4 => ?_) (fun hpy H3 e3 => ?_)
    · refine ⟨acc, e4 _ _ h1, by omega, acc ++ [v], upd_same, ?_, ?_⟩
      · rw [del_upd]
        exact h2.trans (del_mono _ e4)
      · rw [del_upd, take_snoc hy, List.filter_append, List.map_append]
        refine Paired.cat (Paired.imp h3 fun _ _ => mono _ _ _ _ (del_mono _ e4)) ?_
        rw [List.filter_cons, if_pos hpy]
        exact .cons r4 .nil
    · refine ⟨acc, e3 _ _ h1, h2.trans (del_mono _ e3), ?_⟩
      rw [take_snoc hy, List.filter_append, List.map_append, List.filter_cons, if_neg (by rw [hpy]; exact Bool.false_ne_true)]
      show Paired _ _ (_ ++ [])
      rw [List.append_nil]
      exact Paired.imp h3 fun _ _ => mono _ _ _ _ (del_mono _ e3)
  · obtain ⟨acc, h1, h2, h3⟩ := q
    refine hd H2 acc h1 h2 ?_
    rw [hL, List.take_length] at h3
    exact h3
theorem le1 : 1 ≤ sizeLine := by decide
theorem le2 : 2 ≤ sizeLine := by decide
theorem le3 : 3 ≤ sizeLine := by decide
theorem sz_small {n : Nat} (h : n ≤ 100000) : n < sizeLine := Nat.lt_of_le_of_lt h (by decide)
theorem sz_big {n : Nat} (h : n ≤ 10000000) : n < sizeLine := Nat.lt_of_le_of_lt h (by decide)
theorem ex_refl' {H H' : Hp} (h : H' = H) : Ex H H' := h ▸ Evl.Ex.refl _
/-! ### tests -/
theorem iteN {p A B : Prop} [Decidable p] (h1 : p → B) (h2 : ¬ p → A) : if (!decide p) = true then A else B := by
  by_cases h : p
  · rw [decide_eq_true h]
    exact iteF (h1 h)
  · rw [decide_eq_false h]
    exact iteT (h2 h)
theorem iteD {p A B : Prop} [Decidable p] (h1 : p → A) (h2 : ¬ p → B) : if decide p = true then A else B := by
  by_cases h : p
  · rw [decide_eq_true h]
    exact iteT (h1 h)
  · rw [decide_eq_false h]
    exact iteF (h2 h)
theorem iteB {A B : Prop} (b : Bool) (h1 : b = true → A) (h2 : b = false → B) : if b = true then A else B := by
  cases b with
  | true => exact iteT (h1 rfl)
  | false => exact iteF (h2 rfl)
/-- the same of two equal ints as values -/
theorem iteE {i j : Int} {A B : Prop} (h1 : i = j → A) (h2 : i ≠ j → B) : if decide (V.int i = V.int j) = true then A else B :=
  iteD (fun e => h1 (V.int.inj e)) (fun e => h2 fun q => e (congrArg V.int q))
end Lp
namespace Lp
open PySem PySem.Spec PyProof.Rows L2
open Evl (Ex)
/-! ### data -/
def pD (p : Int × Int) : PyData := .tuple [.int p.1, .int p.2]
def prsD (ps : List (Int × Int)) : PyData := .list (ps.map pD)
def intsD (ns : List Int) : PyData := .list (ns.map PyData.int)
theorem dpAllInts {K : PySem.W.Frag} {H : Hp} : ∀ ns : List Int, DpAll K H (ns.map V.int) (ns.map PyData.int)
  | [] => .nil
  | n :: r => .cons (.int n) (dpAllInts r)
theorem dpInts {K : PySem.W.Frag} {H : Hp} {p : Addr} {ns : List Int} (h : Ints H p ns) : Dp K H (.ref p) (intsD ns) := .lst h.sq (dpAllInts ns)
theorem dpAllPrs {K : PySem.W.Frag} {H : Hp} : ∀ {xs : List V} {ps : List (Int × Int)}, Paired (RP H) xs ps → DpAll K H xs (ps.map pD)
  | _, _, .nil => .nil
  | _, _, .cons (a := v) (b := p) r t => .cons (by
      obtain ⟨a, rfl, h⟩ := r
      exact .tup (.inl (.inl h)) (.cons (.int _) (.cons (.int _) .nil))) (dpAllPrs t)
theorem Prs.dp {K : PySem.W.Frag} {H : Hp} {p : Addr} {ps : List (Int × Int)} (h : Prs H p ps) : Dp K H (.ref p) (prsD ps) := by
  obtain ⟨xs, h1, h2⟩ := h
  exact .lst (.inl (.inl h1)) (dpAllPrs h2)
theorem layInts : ∀ ns : List Int, PyData.canLayAll0 (ns.map PyData.int) = true ∧ PyData.depthAll (ns.map PyData.int) ≤ 1
  | [] => ⟨rfl, by simp [PyData.depthAll]⟩
  | n :: r => by
    have h := layInts r
    simp only [List.map_cons, PyData.canLayAll0, PyData.canLay0, PyData.depthAll, PyData.depth, h.1]
    exact ⟨rfl, by omega⟩
theorem layPrs : ∀ ps : List (Int × Int), PyData.canLayAll0 (ps.map pD) = true ∧ PyData.depthAll (ps.map pD) ≤ 3
  | [] => ⟨rfl, by simp [PyData.depthAll]⟩
  | p :: r => by
    have h := layPrs r
    simp only [List.map_cons, PyData.canLayAll0, PyData.canLay0, PyData.depthAll, PyData.depth, pD, h.1]
    exact ⟨rfl, by omega⟩
theorem shInts (ns : List Int) : SeqAt.shaped (intsD ns) = true := by
  have h := layInts ns
  unfold SeqAt.shaped intsD
  rw [PyData.canLay0, h.1, Bool.true_and, PyData.depth]
  exact decide_eq_true (by omega)
theorem shPrs (ps : List (Int × Int)) : SeqAt.shaped (prsD ps) = true := by
  have h := layPrs ps
  unfold SeqAt.shaped prsD
  rw [PyData.canLay0, h.1, Bool.true_and, PyData.depth]
  exact decide_eq_true (by omega)
theorem eqvI (n m : Int) : PyData.eqv (.int n) (.int m) = decide (n = m) := by
  simp only [PyData.eqv]
  exact Bool.beq_eq_decide_eq _ _
theorem eqvInts : ∀ ns ms : List Int, PyData.eqvAll (ns.map PyData.int) (ms.map PyData.int) = decide (ns = ms)
  | [], [] => by simp [PyData.eqvAll]
  | [], _ :: _ => by simp [PyData.eqvAll]
  | _ :: _, [] => by simp [PyData.eqvAll]
  | n :: r, m :: t => by
    rw [List.map_cons, List.map_cons, PyData.eqvAll, eqvI, eqvInts r t]
    by_cases h : n = m <;> by_cases h2 : r = t <;> simp [h, h2]
theorem eqvIntsD (ns ms : List Int) : PyData.eqv (intsD ns) (intsD ms) = decide (ns = ms) := by
  unfold intsD
  rw [PyData.eqv, eqvInts]
theorem eqvPrsSame (ps : List (Int × Int)) : PyData.eqv (prsD ps) (prsD ps) = true := SeqAt.eqv_refl _ (by unfold prsD; rw [PyData.canLay0]; exact (layPrs ps).1)
end Lp
namespace Lp
open PySem PySem.Spec PyProof.Rows L2
open Evl (Ex)
/-- a comprehension of ints over a list that stands still -/
theorem lc_int {β : Type} {K : PySem.W.Frag} {a : Addr} {xs : List V} {g : TG} {tt : TT} {te : TE} {vs : List Nat} {σ : L2.St} {H : Hp} {Dl : Addr} {Qd : Hp → Prop} {R : V → β → Prop} {ys : List β} (hD : H Dl = none)
    (hp : Paired R xs ys) (hsrc : SqL K H a xs) (hz : xs.length < sizeLine) (p : β → Bool) (f : β → Int)
    (hs : ∀ y x H1, y ∈ ys → R x y → Ex H H1 → ∀ (Y : V → Hp → Prop) (Z : Hp → Prop), (p y = true → ∀ H4, Ex H1 H4 → Y (.int (f y)) H4) → (p y = false → ∀ H3, Ex H1 H3 → Z H3) →
      g x (wipe σ vs) H1 fun σ2 H2 => wipe σ2 vs = wipe σ vs ∧ tt σ2 H2 fun b H3 => if b = true then te σ2 H3 Y else Z H3)
    (hd : ∀ H2, Ints H2 Dl ((ys.filter p).map f) → Ex H H2 → Qd H2) :
    ∃ W : Nat → Nat → Hp → Prop, (∃ m, W 0 m (upd H Dl (.lst []))) ∧ ∀ i m H, W i m H →
      ((Itl K a).stop i H ∧ Qd H) ∨ ((Itl K a).go i H ∧ ∃ Nx : Hp → Prop, (∀ H', Nx H' → ∃ m', m' < m ∧ W (i + 1) m' H') ∧ ∀ x H', (Itl K a).yld i H x H' → g x (wipe σ vs) H' fun σ2 H2 => wipe σ2 vs = wipe σ vs ∧ tt σ2 H2 fun b H3 =>
        if b = true then te σ2 H3 fun y H4 => ∃ acc, H4 Dl = some (.lst acc) ∧ acc.length < sizeLine ∧ Nx (upd H4 Dl (.lst (acc ++ [y]))) else Nx H3) :=
  lc_pre (R' := fun _ => IsI) hD hp hsrc hz (fun _ _ _ _ _ h => h) p f
    (fun y x H1 acc hy r e _ Y Z h1 h2 => hs y x H1 hy r (e.trans (del_le _ _)) Y Z (fun hp H4 e4 => h1 hp _ H4 e4 rfl) h2)
    (fun H2 acc h1 h2 h3 => hd H2 (by show _ = _; rw [h1, isI_eq h3]) (h2.trans (del_le _ _)))
end Lp
namespace Lp
open PySem PySem.Spec PyProof.Rows L2
open Evl (Ex)
/-! ### rules with the written part named (within a comprehension's block) -/
section
variable {X : Cx}
theorem ix_tupK (K : PySem.W.Frag) (h : X.K = K) : IxR X (rIxT K) := h ▸ ix_tup
theorem ix_listK (K : PySem.W.Frag) (h : X.K = K) : IxR X (rIxL K) := h ▸ ix_list
theorem op_in_seqK (K : PySem.W.Frag) (h : X.K = K) : OpR X (compareOp .In) (rIn K false) := h ▸ op_in_seq
theorem op_notIn_seqK (K : PySem.W.Frag) (h : X.K = K) : OpR X (compareOp .NotIn) (rIn K true) := h ▸ op_notIn_seq
theorem call_len_seqK (K : PySem.W.Frag) (h : X.K = K) : CallR X (.builtin "len") (Evl.rLenS K) := h ▸ call_len_seq
theorem pg_tupK (K : PySem.W.Frag) (hK : X.K = K) {pos : Pos} {es : List Expr} {k : Nat} {t : TGs} {n : Nat} (hc : X.calm = true) (h : PGs X es t)
    (hn : (assignEach es X.env).length = n := by rfl) (hst : (assignEach es X.env).findIdx? (·.1) = none := by rfl) : PG X (.Tuple es k pos) (gTup K n t) := hK ▸ pg_tup hc h hn hst
theorem call_list_ofK (K : PySem.W.Frag) (h : X.K = K) : CallR X (.type "list") (Evl.rListS K) := h ▸ call_list_of
end
end Lp
namespace Lp
open PySem PySem.Spec PyProof.Rows L2
open Evl (Ex)
/-- an if whose answer is known, with something behind it -/
theorem seqNo {c : TT} {t1 t2 u : TS} {D : Ends} {σ : L2.St} {H : Hp} (h : Ans c σ H false) (q : t2 { D with nx := u D } σ H) : tSeq (tIfS c t1 t2) u D σ H := L2.st_no h q
theorem nxNo {c : TT} {t1 t2 u : TS} {D D0 : Ends} {σ : L2.St} {H : Hp} (e : D0.nx = tSeq (tIfS c t1 t2) u D) (h : Ans c σ H false) (q : t2 { D with nx := u D } σ H) : tNext D0 σ H := by
  show D0.nx σ H
  rw [e]
  exact L2.st_no h q
theorem seqYes {c : TT} {t1 t2 u : TS} {D : Ends} {σ : L2.St} {H : Hp} (h : Ans c σ H true) (q : t1 { D with nx := u D } σ H) : tSeq (tIfS c t1 t2) u D σ H := L2.st_yes h q
end Lp

namespace Lp
open PySem PySem.Spec PyProof.Rows L2
open Evl (Ex)
/-- rising numbers of links -/
def Rising (links : Int) : Int → List Int → Prop
  | _, [] => True
  | b, l :: r => b < l ∧ l < links ∧ Rising links l r
def lastOr (b : Int) : List Int → Int
  | [] => b
  | l :: r => lastOr l r
theorem lastOr_snoc : ∀ (b : Int) (pre : List Int) (y : Int), lastOr b (pre ++ [y]) = y
  | _, [], _ => rfl
  | _, l :: r, y => lastOr_snoc l r y
theorem rising_snoc {links : Int} : ∀ {b : Int} {pre post : List Int}, Rising links b (pre ++ post) ↔ Rising links b pre ∧ Rising links (lastOr b pre) post
  | b, [], post => ⟨fun h => ⟨trivial, h⟩, fun h => h.2⟩
  | b, l :: r, post => by
    show (b < l ∧ l < links ∧ Rising links l (r ++ post)) ↔ (b < l ∧ l < links ∧ Rising links l r) ∧ Rising links (lastOr l r) post
    rw [rising_snoc (b := l) (pre := r) (post := post)]
    exact ⟨fun ⟨a, c, d, e⟩ => ⟨⟨a, c, d⟩, e⟩, fun ⟨⟨a, c, d⟩, e⟩ => ⟨a, c, d, e⟩⟩
def RowOk (links : Int) : Prop := 1 ≤ links ∧ links ≤ 1000000000000000000000000000000
def OpenOk (links : Int) (ns : List Int) : Prop := ns.length ≤ 100 ∧ Rising links (-1) ns
/-- one opened link more -/
def pcStep (s : Int × List (Int × Int)) (l : Int) : Int × List (Int × Int) := (l + 1, s.2 ++ ((if s.1 < l then [(s.1, l - s.1)] else []) ++ [(l, 1)]))
def pcEnd (links : Int) (s : Int × List (Int × Int)) : List (Int × Int) := s.2 ++ (if s.1 < links then [(s.1, links - s.1)] else [])
/-- the pieces of a row -/
def pcs (links : Int) (ns : List Int) : List (Int × Int) := pcEnd links (ns.foldl pcStep (0, []))
theorem pcFold_len : ∀ (ns : List Int) (s : Int × List (Int × Int)), (ns.foldl pcStep s).2.length ≤ s.2.length + 2 * ns.length
  | [], s => by simp
  | l :: r, s => by
    have h := pcFold_len r (pcStep s l)
    have h2 : (pcStep s l).2.length ≤ s.2.length + 2 := by
      show (s.2 ++ ((if s.1 < l then [(s.1, l - s.1)] else []) ++ [(l, 1)])).length ≤ _
      split <;> simp
    rw [List.foldl_cons, List.length_cons]
    omega
def cell (ns : List Int) (k : Int) : Int := ns.getD k.toNat 0
def nxt (n : Int) : Int := (n * 48271 + 12345) % 2147483647
theorem rising_of : ∀ {links : Int} {b : Int} {os : List Int}, os.Pairwise (· ≤ ·) → os.Nodup → (∀ l ∈ os, b < l ∧ l < links) → Rising links b os
  | _, _, [], _, _, _ => trivial
  | links, b, l :: r, h1, h2, h3 => by
    have a1 := List.pairwise_cons.mp h1
    have a2 := List.nodup_cons.mp h2
    refine ⟨(h3 l List.mem_cons_self).1, (h3 l List.mem_cons_self).2, rising_of a1.2 a2.2 fun x hx => ⟨?_, (h3 x (List.mem_cons_of_mem _ hx)).2⟩⟩
    have c1 := a1.1 x hx
    have c2 : l ≠ x := fun e => a2.1 (e ▸ hx)
    omega
theorem inV_int (x : Int) (ns : List Int) : inV (.int x) (ns.map V.int) = decide (x ∈ ns) := by
  unfold inV
  rw [List.any_map]
  by_cases h : x ∈ ns
  · rw [decide_eq_true h]
    refine List.any_eq_true.mpr ⟨x, h, ?_⟩
    simp [eqV]
  · rw [decide_eq_false h]
    refine List.any_eq_false.mpr fun y hy => ?_
    simp [eqV]
    rintro rfl
    exact h hy
theorem flatInts (ns : List Int) : (ns.map V.int).all flatV = true := by
  rw [List.all_map]
  exact List.all_eq_true.mpr fun _ _ => rfl
end Lp
namespace Lp
open PySem PySem.Spec PyProof.Rows L2
open Evl (Ex)
theorem pcs_len (links : Int) (ns : List Int) : (pcs links ns).length ≤ 2 * ns.length + 1 := by
  have h := pcFold_len ns (0, [])
  unfold pcs pcEnd
  rw [List.length_append]
  simp at h
  split <;> simp <;> omega
theorem rising_up : ∀ {links b : Int} {os : List Int}, Rising links b os → os.Pairwise (· < ·) ∧ ∀ x ∈ os, b < x ∧ x < links
  | _, _, [], _ => ⟨.nil, fun _ h => (nomatch h)⟩
  | links, b, l :: r, h => by
    have ih := rising_up h.2.2
    refine ⟨List.pairwise_cons.mpr ⟨fun x hx => (ih.2 x hx).1, ih.1⟩, fun x hx => ?_⟩
    rcases List.mem_cons.mp hx with e | e
    · rw [e]
      exact ⟨h.1, h.2.1⟩
    · have h1 := ih.2 x e
      have h2 := h.1
      exact ⟨by omega, h1.2⟩
theorem sset_eq {ns ns2 : List Int} (h : ns.Pairwise (· < ·)) (up : ns2.Pairwise (· ≤ ·)) (nd : ns2.Nodup) (hm : ∀ k, k ∈ ns2 ↔ decide (k ∈ ns) = true) : ns2 = ns := by
  refine PySem.W.ksm_same ?_ up (h.imp fun h => Int.le_of_lt h)
  refine (List.perm_ext_iff_of_nodup nd (h.imp fun h => Int.ne_of_lt h)).mpr fun k => ?_
  rw [hm k, decide_eq_true_eq]
theorem rising_lt {links b : Int} {os : List Int} (h : os.Pairwise (· < ·)) (hb : ∀ x ∈ os, b < x ∧ x < links) : Rising links b os :=
  rising_of (h.imp fun h => Int.le_of_lt h) (h.imp fun h => Int.ne_of_lt h) hb
theorem cut_take {xs : List V} (k : Nat) : cutV xs none (some (k : Int)) = xs.take k := by
  unfold cutV
  rw [HT.sIx_none, HT.sIx_nat, List.drop_zero, Nat.sub_zero]
  rcases Nat.le_total k xs.length with h | h
  · rw [Nat.min_eq_left h]
  · rw [Nat.min_eq_right h, List.take_of_length_le (Nat.le_refl _), List.take_of_length_le h]
theorem cut_drop {xs : List V} (k : Nat) : cutV xs (some (k : Int)) none = xs.drop k := by
  unfold cutV
  rw [HT.sIx_none, HT.sIx_nat]
  rcases Nat.le_total k xs.length with h | h
  · rw [Nat.min_eq_left h, List.take_of_length_le (by rw [List.length_drop]; omega)]
  · rw [Nat.min_eq_right h, List.drop_eq_nil_of_le (Nat.le_refl _), List.drop_eq_nil_of_le h]
    simp
theorem atI_int {os : List Int} {k : Nat} (h : k < os.length) : atI (os.map V.int) (k : Int) = some (.int os[k]) := by
  refine atI_nat ?_
  rw [List.getElem?_map, List.getElem?_eq_getElem h]
  rfl
/-! ### what is refused first -/
def RowE (CR CO : Addr) (links : Int) (ns : List Int) (H : Hp) (E : XK) (k : Prop) : Prop := (RowOk links → OpenOk links ns → k) ∧ (¬ RowOk links → E (.ref CR) none H) ∧ (RowOk links → ¬ OpenOk links ns → E (.ref CO) none H)
def Few (CT : Addr) (ns : List Int) (H : Hp) (E : XK) (k : Prop) : Prop := (ns.length ≤ 8 → k) ∧ (¬ ns.length ≤ 8 → E (.ref CT) none H)
def Amt (CA : Addr) (links amount : Int) (H : Hp) (E : XK) (k : Prop) : Prop := (0 ≤ amount ∧ amount ≤ links → k) ∧ (¬ (0 ≤ amount ∧ amount ≤ links) → E (.ref CA) none H)
end Lp

namespace Lp
open PySem PySem.Spec PyProof.Rows L2
open Evl (Ex)
/-! ### in order -/
def srt (ns : List Int) : List Int := ns.mergeSort (fun a b => decide (a ≤ b))
theorem srt_perm (ns : List Int) : (srt ns).Perm ns := List.mergeSort_perm ns _
theorem srt_up (ns : List Int) : (srt ns).Pairwise (· ≤ ·) := by
  have h := List.pairwise_mergeSort (le := fun a b : Int => decide (a ≤ b)) (fun a b c h1 h2 => by
    have := of_decide_eq_true h1
    have := of_decide_eq_true h2
    exact decide_eq_true (by omega)) (fun a b => by
    rcases Int.le_total a b with h | h
    · simp [h]
    · simp [h]) ns
  exact h.imp fun h => of_decide_eq_true h
theorem srt_of {a ns : List Int} (hp : a.Perm ns) (ha : a.Pairwise (· ≤ ·)) : a = srt ns := PySem.W.ksm_same (hp.trans (srt_perm ns).symm) ha (srt_up ns)
/-! ### the gap by the sizes, the least first -/
def gapL : Int → List Int → Option Int
  | _, [] => none
  | r, s :: t => if s > r + 1 then some (r + 1) else gapL (r + s) t
def szs (links : Int) (ns : List Int) : List Int := (pcs links ns).map (·.2)
def gapO (links : Int) (ns : List Int) : Option Int := gapL 0 (srt (szs links ns))
def optV : Option Int → V
  | none => .non
  | some i => .int i
def optD : Option Int → PyData
  | none => .none
  | some i => .int i
theorem dpOpt {K : PySem.W.Frag} {H : Hp} (o : Option Int) : Dp K H (optV o) (optD o) := by
  cases o with
  | none => exact .non
  | some i => exact .int i
theorem shOpt (o : Option Int) : SeqAt.shaped (optD o) = true := by cases o <;> rfl
theorem eqvOpt (o : Option Int) : PyData.eqv (optD o) (optD o) = true := by
  cases o with
  | none => simp [optD, PyData.eqv]
  | some i => simp [optD, PyData.eqv]
/-- each is at most one more than those ahead together -/
def Ch : Int → List Int → Prop
  | _, [] => True
  | r, s :: t => s ≤ r + 1 ∧ Ch (r + s) t
theorem gapL_none : ∀ {r : Int} {l : List Int}, gapL r l = none ↔ Ch r l
  | r, [] => ⟨fun _ => trivial, fun _ => rfl⟩
  | r, s :: t => by
    unfold gapL Ch
    by_cases h : s > r + 1
    · rw [if_pos h]
      exact ⟨(fun z => nomatch z), fun z => absurd z.1 (by omega)⟩
    · rw [if_neg h, gapL_none]
      exact ⟨fun z => ⟨by omega, z⟩, fun z => z.2⟩
theorem Ch_app : ∀ {r : Int} {a b : List Int}, Ch r (a ++ b) ↔ Ch r a ∧ Ch (r + a.sum) b
  | r, [], b => by simp [Ch]
  | r, s :: a, b => by
    show (s ≤ r + 1 ∧ Ch (r + s) (a ++ b)) ↔ (s ≤ r + 1 ∧ Ch (r + s) a) ∧ Ch (r + (s :: a).sum) b
    rw [Ch_app, List.sum_cons, Int.add_assoc, and_assoc]
/-- the same, told of no order -/
def Cx0 (l : List Int) : Prop := ∀ s ∈ l, s ≤ 1 + (l.filter (fun y => decide (y < s))).sum
theorem sum_nonneg : ∀ {l : List Int}, (∀ x ∈ l, 0 ≤ x) → 0 ≤ l.sum
  | [], _ => Int.le_refl _
  | x :: r, h => by
    rw [List.sum_cons]
    have h1 := h x List.mem_cons_self
    have h2 := sum_nonneg fun y hy => h y (List.mem_cons_of_mem _ hy)
    omega
theorem filter_sum_le : ∀ {l : List Int} (p : Int → Bool), (∀ x ∈ l, 0 ≤ x) → (l.filter p).sum ≤ l.sum
  | [], _, _ => Int.le_refl _
  | x :: r, p, h => by
    have h1 := h x List.mem_cons_self
    have h2 := filter_sum_le p fun y hy => h y (List.mem_cons_of_mem _ hy)
    rw [List.filter_cons]
    split
    · rw [List.sum_cons, List.sum_cons]
      omega
    · rw [List.sum_cons]
      omega
theorem cx_of_ch {l : List Int} (h0 : ∀ x ∈ l, 0 ≤ x) (h : Ch 0 l) : Cx0 l := by
  have go : ∀ (post pre : List Int) (s : Int), l = pre ++ post → Ch pre.sum post → (∀ y ∈ pre, y < s) → s ∈ post → s ≤ 1 + (l.filter (fun y => decide (y < s))).sum := by
    intro post
    induction post with
    | nil => intro pre s _ _ _ hs; cases hs
    | cons x t ih =>
      intro pre s e hc hp hs
      by_cases hx : x < s
      · refine ih (pre ++ [x]) s (by rw [e, List.append_assoc]; rfl) ?_ ?_ ?_
        · rw [List.sum_append]
          simpa using hc.2
        · intro y hy
          rcases List.mem_append.mp hy with q | q
          · exact hp y q
          · rw [List.mem_singleton.mp q]
            exact hx
        · rcases List.mem_cons.mp hs with q | q
          · omega
          · exact q
      · have h1 := hc.1
        have e2 : pre.filter (fun y => decide (y < s)) = pre := List.filter_eq_self.mpr fun y hy => decide_eq_true (hp y hy)
        rw [e, List.filter_append, List.sum_append, e2]
        have h2 : 0 ≤ ((x :: t).filter (fun y => decide (y < s))).sum := sum_nonneg fun y hy => h0 y (by rw [e]; exact List.mem_append_right _ (List.mem_filter.mp hy).1)
        omega
  intro s hs
  exact go l [] s rfl h (fun _ z => nomatch z) hs
theorem ch_of_cx {l : List Int} (h0 : ∀ x ∈ l, 0 ≤ x) (hs : l.Pairwise (· ≤ ·)) (h : Cx0 l) : Ch 0 l := by
  have go : ∀ (post pre : List Int), l = pre ++ post → Ch pre.sum post := by
    intro post
    induction post with
    | nil => intro pre _; exact trivial
    | cons s t ih =>
      intro pre e
      refine ⟨?_, ?_⟩
      · have h1 := h s (by rw [e]; simp)
        rw [e, List.filter_append, List.sum_append] at h1
        have e2 : (s :: t).filter (fun y => decide (y < s)) = [] := List.filter_eq_nil_iff.mpr fun y hy => by
          rw [e] at hs
          have hs2 := (List.pairwise_append.mp hs).2.1
          have : s ≤ y := by
            rcases List.mem_cons.mp hy with q | q
            · omega
            · exact (List.pairwise_cons.mp hs2).1 y q
          simpa using this
        rw [e2] at h1
        have h2 := filter_sum_le (l := pre) (fun y => decide (y < s)) fun x hx => h0 x (by rw [e]; exact List.mem_append_left _ hx)
        simp at h1
        omega
      · have h3 := ih (pre ++ [s]) (by rw [e, List.append_assoc]; rfl)
        rw [List.sum_append] at h3
        simpa using h3
  exact go l [] rfl
theorem sum_perm {a b : List Int} (h : a.Perm b) : a.sum = b.sum := by
  induction h with
  | nil => rfl
  | cons x _ ih => rw [List.sum_cons, List.sum_cons, ih]
  | swap x y l =>
    simp only [List.sum_cons]
    omega
  | trans _ _ h1 h2 => exact h1.trans h2
theorem cx_perm {a b : List Int} (h : a.Perm b) (c : Cx0 a) : Cx0 b := fun s hs => by
  have h1 := c s (h.mem_iff.mpr hs)
  rwa [sum_perm (h.filter _)] at h1
/-- full where some order of the sizes goes up so -/
theorem full_of {l m : List Int} (h0 : ∀ x ∈ l, 0 ≤ x) (hp : l.Perm m) (h : Ch 0 l) : gapL 0 (srt m) = none := by
  have h1 := hp.trans (srt_perm m).symm
  exact gapL_none.mpr (ch_of_cx (fun x hx => h0 x (h1.mem_iff.mpr hx)) (srt_up m) (cx_perm h1 (cx_of_ch h0 h)))
/-! ### the sizes of a row's pieces -/
theorem pcFold_sum {links : Int} : ∀ (ns : List Int) (b : Int) (acc : List (Int × Int)), Rising links (b - 1) ns → (∀ p ∈ acc, 0 < p.2) → b ≤ links →
    ((pcEnd links (ns.foldl pcStep (b, acc))).map (·.2)).sum = (acc.map (·.2)).sum + (links - b) ∧ ∀ p ∈ pcEnd links (ns.foldl pcStep (b, acc)), 0 < p.2
  | [], b, acc, _, h0, hb => by
    show ((acc ++ (if b < links then [(b, links - b)] else [])).map (·.2)).sum = _ ∧ ∀ p ∈ acc ++ (if b < links then [(b, links - b)] else []), 0 < p.2
    by_cases h : b < links
    · rw [if_pos h, List.map_append, List.sum_append]
      refine ⟨by simp, fun p hp => ?_⟩
      rcases List.mem_append.mp hp with q | q
      · exact h0 p q
      · rw [List.mem_singleton.mp q]
        show 0 < links - b
        omega
    · rw [if_neg h, List.append_nil]
      exact ⟨by omega, h0⟩
  | l :: r, b, acc, hr, h0, hb => by
    rw [List.foldl_cons]
    have h1 := hr.1
    have h2 := hr.2.1
    have hr2 : Rising links (l + 1 - 1) r := by
      rw [show l + 1 - 1 = l by omega]
      exact hr.2.2
    have ih := pcFold_sum r (l + 1) (acc ++ ((if b < l then [(b, l - b)] else []) ++ [(l, 1)])) hr2 (fun p hp => by
      rcases List.mem_append.mp hp with q | q
      · exact h0 p q
      · rcases List.mem_append.mp q with q | q
        · by_cases h : b < l
          · rw [if_pos h] at q
            rw [List.mem_singleton.mp q]
            show 0 < l - b
            omega
          · rw [if_neg h] at q
            cases q
        · rw [List.mem_singleton.mp q]
          show (0 : Int) < 1
          omega) (by omega)
    refine ⟨?_, ih.2⟩
    rw [show pcStep (b, acc) l = (l + 1, acc ++ ((if b < l then [(b, l - b)] else []) ++ [(l, 1)])) from rfl, ih.1]
    simp only [List.map_append, List.sum_append]
    by_cases h : b < l
    · rw [if_pos h]
      simp
      omega
    · rw [if_neg h]
      simp
      omega
theorem szs_sum {links : Int} {ns : List Int} (h : Rising links (-1) ns) (hl : 1 ≤ links) : (szs links ns).sum = links := by
  have h1 := (pcFold_sum ns 0 [] (by rw [show (0 : Int) - 1 = -1 by omega]; exact h) (fun _ z => nomatch z) (by omega)).1
  unfold szs pcs
  rw [h1]
  simp
theorem szs_pos {links : Int} {ns : List Int} (h : Rising links (-1) ns) (hl : 1 ≤ links) : ∀ x ∈ szs links ns, 0 < x := by
  have h1 := (pcFold_sum ns 0 [] (by rw [show (0 : Int) - 1 = -1 by omega]; exact h) (fun _ z => nomatch z) (by omega)).2
  intro x hx
  obtain ⟨p, hp, rfl⟩ := List.mem_map.mp hx
  exact h1 p hp
theorem szs_len (links : Int) (ns : List Int) : (szs links ns).length ≤ 2 * ns.length + 1 := by
  unfold szs
  rw [List.length_map]
  exact pcs_len links ns
/-! ### the longest rows, as few openings as can be -/
def mostL (n : Nat) : Int := ((n : Int) + 1) * 2 ^ (n + 1) - 1
theorem pow_pos (k : Nat) : (1 : Int) ≤ 2 ^ k := by
  induction k with
  | zero => decide
  | succ k ih =>
    rw [Int.pow_succ]
    omega
theorem pow_ge (k : Nat) : (k : Int) ≤ 2 ^ k := by
  induction k with
  | zero => decide
  | succ k ih =>
    have := pow_pos k
    rw [Int.pow_succ]
    omega
theorem mostL_big : (1000000000000000000000000000000 : Int) < mostL 100 := by decide +kernel
/-- n is the least number whose longest row is no shorter -/
def FewestIs (links : Int) (n : Nat) : Prop := n ≤ 100 ∧ links ≤ mostL n ∧ ∀ j, j < n → mostL j < links
theorem FewestIs.one {links : Int} {n m : Nat} (a : FewestIs links n) (b : FewestIs links m) : n = m := by
  have h1 := a.2.1
  have h2 := b.2.1
  rcases Nat.lt_trichotomy n m with h | h | h
  · have := b.2.2 n h
    omega
  · exact h
  · have := a.2.2 m h
    omega
theorem FewestIs.le {links : Int} {n : Nat} (a : FewestIs links n) (h1 : 1 ≤ links) : (n : Int) ≤ links := by
  cases n with
  | zero => omega
  | succ n =>
    have h := a.2.2 n (Nat.lt_succ_self n)
    unfold mostL at h
    have h2 := pow_pos (n + 1)
    have h3 : ((n : Int) + 1) * 1 ≤ ((n : Int) + 1) * 2 ^ (n + 1) := Int.mul_le_mul_of_nonneg_left h2 (by omega)
    omega
def zOf (rest reach : Int) : Int := if rest < reach + 1 then rest else reach + 1
def ofGo : Nat → Int → Int → Int → List Int
  | 0, _, _, _ => []
  | k + 1, rest, reach, spot => (spot + zOf rest reach) :: ofGo k (rest - zOf rest reach) (reach + zOf rest reach) (spot + zOf rest reach + 1)
def ofor (links : Int) (n : Nat) : List Int := ofGo n (links - n) n 0
theorem ofGo_len : ∀ (k : Nat) (a b c : Int), (ofGo k a b c).length = k
  | 0, _, _, _ => rfl
  | k + 1, a, b, c => by
    show (ofGo k _ _ _).length + 1 = k + 1
    rw [ofGo_len k]
theorem zOf_b {rest reach : Int} (h : 0 ≤ rest) (h2 : 0 ≤ reach) : 0 ≤ zOf rest reach ∧ zOf rest reach ≤ rest ∧ zOf rest reach ≤ reach + 1 := by
  unfold zOf
  split <;> omega
theorem ofGo_rising {links : Int} : ∀ (k : Nat) (rest reach spot : Int), 0 ≤ rest → 0 ≤ reach → spot + rest + k = links → Rising links (spot - 1) (ofGo k rest reach spot)
  | 0, _, _, _, _, _, _ => trivial
  | k + 1, rest, reach, spot, h1, h2, h3 => by
    have hz := zOf_b h1 h2
    refine ⟨by omega, by omega, ?_⟩
    have ih := ofGo_rising (links := links) k (rest - zOf rest reach) (reach + zOf rest reach) (spot + zOf rest reach + 1) (by omega) (by omega) (by omega)
    rwa [show spot + zOf rest reach + 1 - 1 = spot + zOf rest reach by omega] at ih
def posL (z : Int) : List Int := if 0 < z then [z] else []
def ofM : Nat → Int → Int → List Int
  | 0, rest, _ => posL rest
  | k + 1, rest, reach => posL (zOf rest reach) ++ ofM k (rest - zOf rest reach) (reach + zOf rest reach)
theorem ofGo_szs {links : Int} : ∀ (k : Nat) (rest reach spot : Int) (acc : List (Int × Int)), 0 ≤ rest → 0 ≤ reach → spot + rest + k = links →
    ((pcEnd links ((ofGo k rest reach spot).foldl pcStep (spot, acc))).map (·.2)).Perm (acc.map (·.2) ++ (List.replicate k 1 ++ ofM k rest reach))
  | 0, rest, reach, spot, acc, h1, h2, h3 => by
    show ((acc ++ (if spot < links then [(spot, links - spot)] else [])).map (·.2)).Perm (acc.map (·.2) ++ ([] ++ posL rest))
    unfold posL
    by_cases h : spot < links
    · rw [if_pos h, if_pos (by omega), List.map_append]
      have e : links - spot = rest := by omega
      rw [e]
      exact List.Perm.refl _
    · rw [if_neg h, if_neg (by omega), List.append_nil]
      simp
  | k + 1, rest, reach, spot, acc, h1, h2, h3 => by
    have hz := zOf_b h1 h2
    have ih := ofGo_szs (links := links) k (rest - zOf rest reach) (reach + zOf rest reach) (spot + zOf rest reach + 1) (acc ++ ((if spot < spot + zOf rest reach then [(spot, spot + zOf rest reach - spot)] else []) ++ [(spot + zOf rest reach, 1)])) (by omega) (by omega) (by omega)
    refine ih.trans ?_
    rw [List.map_append, List.append_assoc]
    refine List.Perm.append_left _ ?_
    have e : (((if spot < spot + zOf rest reach then [(spot, spot + zOf rest reach - spot)] else []) ++ [(spot + zOf rest reach, (1 : Int))]).map (·.2)) = posL (zOf rest reach) ++ [1] := by
      unfold posL
      by_cases h : 0 < zOf rest reach
      · rw [if_pos (by omega), if_pos h]
        simp
        omega
      · rw [if_neg (by omega), if_neg h]
        rfl
    rw [e]
    show ((posL (zOf rest reach) ++ [1]) ++ (List.replicate k 1 ++ ofM k _ _)).Perm (List.replicate (k + 1) 1 ++ (posL (zOf rest reach) ++ ofM k _ _))
    generalize posL (zOf rest reach) = a
    generalize ofM k _ _ = c
    have h4 : List.replicate (k + 1) (1 : Int) = [1] ++ List.replicate k 1 := rfl
    rw [h4]
    have s1 : ((a ++ [1]) ++ (List.replicate k 1 ++ c)) = a ++ (([1] ++ List.replicate k 1) ++ c) := by simp
    have s2 : (([1] ++ List.replicate k (1 : Int)) ++ (a ++ c)) = (([1] ++ List.replicate k 1) ++ a) ++ c := by simp
    rw [s1, s2, ← List.append_assoc]
    exact List.Perm.append_right _ List.perm_append_comm
theorem ofM_nonneg : ∀ (k : Nat) (rest reach : Int), ∀ x ∈ ofM k rest reach, 0 ≤ x
  | 0, rest, reach, x, hx => by
    unfold ofM posL at hx
    split at hx
    · rw [List.mem_singleton.mp hx]
      omega
    · cases hx
  | k + 1, rest, reach, x, hx => by
    unfold ofM at hx
    rcases List.mem_append.mp hx with h | h
    · unfold posL at h
      split at h
      · rw [List.mem_singleton.mp h]
        omega
      · cases h
    · exact ofM_nonneg k _ _ x h
theorem Ch_pos {r z : Int} {l : List Int} (h0 : 0 ≤ z) (h1 : z ≤ r + 1) (h : Ch (r + z) l) : Ch r (posL z ++ l) := by
  unfold posL
  by_cases c : 0 < z
  · rw [if_pos c]
    exact ⟨h1, h⟩
  · rw [if_neg c]
    have e : z = 0 := by omega
    rw [e, Int.add_zero] at h
    exact h
theorem ofM_ch : ∀ (k : Nat) (rest reach : Int), 0 ≤ rest → 0 ≤ reach → rest ≤ (reach + 1) * (2 ^ (k + 1) - 1) → Ch reach (ofM k rest reach)
  | 0, rest, reach, h1, h2, h3 => by
    unfold ofM
    have h : Ch reach (posL rest ++ []) := Ch_pos h1 (by simp at h3; omega) trivial
    rwa [List.append_nil] at h
  | k + 1, rest, reach, h1, h2, h3 => by
    have hz := zOf_b h1 h2
    refine Ch_pos hz.1 hz.2.2 (ofM_ch k _ _ (by omega) (by omega) ?_)
    by_cases h : rest < reach + 1
    · have e : zOf rest reach = rest := by unfold zOf; rw [if_pos h]
      rw [e]
      have p := pow_pos (k + 1)
      have : 0 ≤ (reach + rest + 1) * (2 ^ (k + 1) - 1) := Int.mul_nonneg (by omega) (by omega)
      omega
    · have e : zOf rest reach = reach + 1 := by unfold zOf; rw [if_neg h]
      rw [e]
      have e1 : (2 : Int) ^ (k + 1 + 1) = 2 * 2 ^ (k + 1) := by rw [Int.pow_succ, Int.mul_comm]
      rw [e1] at h3
      generalize (2 : Int) ^ (k + 1) = y at h3 ⊢
      have e2 : (reach + (reach + 1) + 1) * (y - 1) = (reach + 1) * (2 * y - 1) - (reach + 1) := by
        have e3 : reach + (reach + 1) + 1 = 2 * (reach + 1) := by omega
        rw [e3]
        generalize reach + 1 = r
        rw [Int.mul_sub, Int.mul_sub, Int.mul_one, Int.mul_one]
        have e4 : 2 * r * y = r * (2 * y) := by rw [← Int.mul_assoc, Int.mul_comm 2 r]
        omega
      rw [e2]
      omega
theorem ones_ch : ∀ (n : Nat) (r : Int) (l : List Int), 0 ≤ r → Ch (r + n) l → Ch r (List.replicate n 1 ++ l)
  | 0, r, l, _, h => by simpa using h
  | n + 1, r, l, h0, h => by
    show (1 ≤ r + 1 ∧ Ch (r + 1) (List.replicate n 1 ++ l))
    refine ⟨by omega, ones_ch n (r + 1) l (by omega) ?_⟩
    have e : r + 1 + (n : Int) = r + ((n + 1 : Nat) : Int) := by omega
    rw [e]
    exact h
theorem ofor_good {links : Int} {n : Nat} (h1 : 1 ≤ links) (hf : FewestIs links n) : Rising links (-1) (ofor links n) ∧ (ofor links n).length = n ∧ gapO links (ofor links n) = none := by
  have hle := hf.le h1
  have hr : Rising links (-1) (ofor links n) := ofGo_rising n (links - n) n 0 (by omega) (by omega) (by omega)
  refine ⟨hr, ofGo_len _ _ _ _, ?_⟩
  have hp := ofGo_szs (links := links) n (links - n) n 0 [] (by omega) (by omega) (by omega)
  refine full_of (l := List.replicate n 1 ++ ofM n (links - n) n) (fun x hx => ?_) hp.symm (ones_ch n 0 _ (by omega) ?_)
  · rcases List.mem_append.mp hx with h | h
    · rw [(List.mem_replicate.mp h).2]
      omega
    · exact ofM_nonneg _ _ _ _ h
  · rw [Int.zero_add]
    refine ofM_ch n _ _ (by omega) (by omega) ?_
    have h2 := hf.2.1
    unfold mostL at h2
    rw [Int.mul_sub]
    omega
end Lp

namespace Lp
open PySem PySem.Spec PyProof.Rows L2
open Evl (Ex)
/-! ### set(xs) of a list of ints: a set that can be walked and sorted -/
/-- the set as its class makes it -/
def bareSet (w : World) : Obj := { cls := .type "set", dict := none, data := .set #[] 0 (.fresh 0 0 (!w.params.followText "set-order")) }
section
variable {P : Program} {w : World} {A : Around} {E : Value → Shared → Prop} {s : Shared}
/-- its filling, from a list that stands -/
theorem fill_list {a S : Addr} {its : Array Value} {n0 : Nat} {dd : Option Addr} {sl : Array (Option Value)} {ns : List Int} {R : Result → Shared → Prop} (hh : A.handled = none) (hS : s.heap.get? S = some (bareSet w)) (haS : a < S)
    (ha : s.heap.get? a = some { cls := .type "list", dict := dd, data := .seq its n0, slots := sl }) (hi : IntsAre its.toList ns) (hb : ns.length + 1 < scanBound)
    (hR : ∀ (h' : Heap) (tk c : Nat), SetR w h' S (fun j => decide (j ∈ ns)) c → c ≤ ns.length → (∀ b o, b ≠ S → s.heap.get? b = some o → h'.get? b = some o) → R (.ok (.ret .none)) { s with heap := h', toks := tk }) :
    codeAny (model P w) A (.call (.builtin "set.__init__") ⟨[.ref S, .ref a], []⟩) R s := by
  have hty : s.TypeIs (.ref S) "set" := ⟨_, hS, rfl⟩
  have hlist : s.heap.IsList a its := ⟨_, ha, rfl, n0, rfl⟩
  have hlen : its.size = ns.length := by
    have q := IntsAre.length hi
    rwa [Array.length_toList] at q
  refine codeAny_call_builtin PySem.F.called_set.init.plain PySem.F.entry_set_init (check_set_init_1 hty ?_)
  have k1 := PySem.F.sub_list_set
  have k2 := PySem.F.sub_list_frozenset
  have k3 : (Value.type "list" == Value.type "dict") = false := by decide
  unfold Builtin.«set.__init__» noKeywords Builtin.Frozenset.updateFrom
  generalize hPI : pyIter = PI
  wp_walk
  subst hPI
  refine wpAny_pyIter_list hlist (wpAny_bind (wpAny_runValue ?_))
  have nai : a ≠ s.heap.objs.size := Nat.ne_of_lt (Heap.lt_size ha)
  have nSi : S ≠ s.heap.objs.size := Nat.ne_of_lt (Heap.lt_size hS)
  have away : S ∉ [s.heap.objs.size, a] := by
    intro z
    rcases List.mem_cons.mp z with e | z
    · exact nSi e
    · exact absurd (List.mem_singleton.mp z) (Nat.ne_of_gt haS)
  have each : ∀ (i : Nat) (v : Value), its[i]? = some v → ∃ k t, ns[i]? = some k ∧ v = .int k t := fun i v hv => by
    have hlt : i < ns.length := by
      have := (Array.getElem?_eq_some_iff.mp hv).1
      omega
    obtain ⟨t, e⟩ := IntsAre.int_at hi i v (by rw [Array.getElem?_toList]; exact hv)
    refine ⟨_, t, List.getElem?_eq_getElem hlt, e.trans ?_⟩
    rw [List.getD_eq_getElem?_getD, List.getElem?_eq_getElem hlt]
    rfl
  refine set_update_ints ((Walks.list (by simp [hh]) s.heap.objs.size a nai its).toS) S away ns hlen hb each its.size 0 _ rfl (Nat.zero_le _) ⟨⟨_, Heap.get?_push_size _ rfl, rfl, rfl⟩, hlist.push _⟩ ⟨0, Nat.le_refl 0, setR_new_at (Heap.get?_push_of_some _ hS)⟩ fun s1 c mv hc hset => ?_
  obtain ⟨h1, g1, d1, t1, o1⟩ := s1
  obtain rfl : g1 = s.gens := mv.gens
  obtain rfl : d1 = s.drawn := mv.drawn
  obtain rfl : o1 = s.os := mv.os
  show wpAny _ _ _ _ _ _
  refine wpAny_pure ?_
  show wpAny _ _ (ret Value.none) _ _ _
  rw [hlen] at hc
  refine wpAny_pure (hR h1 t1 c hset hc fun b o nb e => ?_)
  refine mv.heap b o ?_ (Heap.get?_push_of_some _ e)
  intro z
  rcases List.mem_cons.mp z with q | z
  · exact nb q
  · exact absurd (List.mem_singleton.mp z) (Nat.ne_of_lt (Heap.lt_size e))
theorem set_of_list {a : Addr} {its : Array Value} {ns : List Int} {Q : Value → Shared → Prop} (hh : A.handled = none) (hl : s.heap.IsList a its) (hi : IntsAre its.toList ns) (hb : ns.length + 1 < scanBound)
    (hQ : ∀ (h' : Heap) (tk c : Nat), SetR w h' s.heap.objs.size (fun j => decide (j ∈ ns)) c → c ≤ ns.length → (∀ b o, s.heap.get? b = some o → h'.get? b = some o) → Q (.ref s.heap.objs.size) { s with heap := h', toks := tk }) :
    wpAny (model P w) A (call (.type "set") [.ref a]) Q E s := by
  obtain ⟨⟨cls, dd, data, sl⟩, ho, hc, n0, hd⟩ := hl
  simp only at hc hd
  subst hc hd
  obtain ⟨c, tl, k4⟩ := PySem.F.called_set.mro
  have k5 := PySem.F.called_set.made
  have k6 := PySem.F.called_set.sub
  refine wpAny_call (codeAny_of_tree ?_)
  show wpAny _ _ (callAny (.type "set") _) _ _ _
  refine wpAny_pure ⟨Code.quiet_builtin _ (by decide +kernel), codeAny_builtin PySem.F.entry_type_call ?_⟩
  rw [Around.under_plain (weight_type_call_type "set" [.ref a] []) rfl]
  have k7 := PySem.F.called_set.notType
  have k8 := PySem.F.called_set.canCreate
  have k9 := PySem.F.typeCall_set_1 (.ref a)
  repeat (any_goals (first | assumption | wp_step))
  refine codeAny_mono (code_set_led1 (.ref a) (E := E) (Q₁ := fun obj s1 => obj = .ref s.heap.objs.size ∧ s1 = { s with heap := s.heap.push (bareSet w) }) ⟨rfl, rfl⟩) fun r s1 hr => ?_
  match r, hr with
  | .error e, hr => exact hr
  | .ok .next, hr => exact hr.elim
  | .ok .brk, hr => exact hr.elim
  | .ok .cont, hr => exact hr.elim
  | .ok (.ret obj), hr =>
    obtain ⟨rfl, rfl⟩ := hr
    have hS : (s.heap.push (bareSet w)).get? s.heap.objs.size = some (bareSet w) := Heap.get?_push_size _ rfl
    have hT : Shared.TypeIs { s with heap := s.heap.push (bareSet w) } (.ref s.heap.objs.size) "set" := ⟨_, hS, rfl⟩
    have k10 := PySem.F.called_set.init.lookup
    have k11 := PySem.F.called_set.init.bind (.ref s.heap.objs.size)
    repeat (any_goals (first | assumption | wp_step))
    refine codeAny_mono (fill_list (s := { s with heap := s.heap.push (bareSet w) }) (ns := ns) (R := wants (fun r s2 => r = .none ∧ ∃ h' tk c, s2 = { s with heap := h', toks := tk } ∧ SetR w h' s.heap.objs.size (fun j => decide (j ∈ ns)) c ∧ c ≤ ns.length ∧
      (∀ b o, s.heap.get? b = some o → h'.get? b = some o)) E) (by simp [hh]) hS (Heap.lt_size ho) (Heap.get?_push_of_some _ ho) hi hb fun h' tk c hset hc hk => ⟨rfl, h', tk, c, rfl, hset, hc, fun b o e => hk b o (Nat.ne_of_lt (Heap.lt_size e)) (Heap.get?_push_of_some _ e)⟩) fun r2 s2 hr2 => ?_
    match r2, hr2 with
    | .error e, hr2 => exact hr2
    | .ok .next, hr2 => exact hr2.elim
    | .ok .brk, hr2 => exact hr2.elim
    | .ok .cont, hr2 => exact hr2.elim
    | .ok (.ret v2), hr2 =>
      obtain ⟨rfl, h', tk, c2, rfl, hset, hc, hk⟩ := hr2
      repeat (any_goals (first | assumption | wp_step))
      exact hQ _ _ _ hset hc hk
end
def rSetI (K : PySem.W.Frag) (w : World) : List V → Hp → VK → Prop := fun vs H Q => ∃ (a : Addr) (ns : List Int), vs = [.ref a] ∧ SqL K H a (ns.map V.int) ∧ ns.length ≤ 4000 ∧
  ∀ (p : Addr) (c : Nat), c ≤ ns.length → H p = none → Q (.ref p) (upd H p (SetO w p (fun j => decide (j ∈ ns)) c))
theorem cr_setI {X : Cx} (hc : X.calm = true) : CallR X (.type "set") (rSetI X.K X.w) := by
  intro pins s σ H xs us Q I r h
  obtain ⟨a, ns, rfl, hs, hn, q⟩ := h
  rw [Vals.ref1 r]
  obtain ⟨its, rv, pl, hz⟩ := I.list hs
  refine set_of_list (I.ok.hd hc) pl.isList (ns := ns) (by simpa using rv.ints) (by unfold scanBound; omega) fun h' tk c hset hc2 hk => ?_
  exact ⟨.ref s.heap.objs.size, _, I.laid (t' := tk) hk (Nat.le_refl _) (setO_new hset), rfl, q _ c hc2 (I.hok.fresh (Nat.le_refl _))⟩
/-! ### sorted(s), s such a set, of any number of members -/
theorem keys_map : ∀ {l : List (Int × Value)}, (∀ e ∈ l, GoodE e) → (l.map (·.2)).map SrtO.iv = l.map keyOf
  | [], _ => rfl
  | e :: r, h => by
    obtain ⟨k, tk, h1, _⟩ := h e List.mem_cons_self
    rw [List.map_cons, List.map_cons, List.map_cons, keys_map fun x hx => h x (List.mem_cons_of_mem _ hx)]
    unfold keyOf SrtO.iv
    rw [h1]
theorem set_sorted {P : Program} {w : World} {A : Around} {E : Value → Shared → Prop} {s : Shared} {a : Addr} {S : Int → Bool} {n : Nat} {Q : Value → Shared → Prop} (R : SetR w s.heap a S n) (hh : A.handled = none)
    (hQ : ∀ s' p (out : List Value) (c : Nat) (ns : List Int), (∀ b o, s.heap.get? b = some o → s'.heap.get? b = some o) → s'.gens = s.gens → s'.os = s.os → s.heap.objs.size ≤ p → s'.heap.get? p = some (seqObj "list" out.toArray c) → IntsAre out ns →
      ns.Pairwise (· ≤ ·) → ns.Nodup → (∀ k, k ∈ ns ↔ S k = true) → ns.length ≤ sizeLine → Q (.ref p) s') : wpAny (model P w) A (call (.builtin "sorted") [.ref a]) Q E s := by
  obtain ⟨o, es, ep, t, ho, hex, hd, g, nd, hm, hb, hf, hn, hr, hl⟩ := R
  refine Calls.call_function_entry kind_sorted plain_sorted entry_sorted (args_sorted1 _) ?_
  unfold Builtin.«sorted»
  refine wpAny_bind (m := checkCount "sorted" 1 1 _) (wpAny_pure ?_)
  refine wpAny_bind (collect_set (A := A.in1) hh ⟨o, ho, hex.1, hd⟩ hf hb hr hl fun s1 vs k1 hz g1 o1 pm => ?_)
  have hvl : vs.length ≤ sizeLine := by
    rw [pm.length_eq, List.length_map, Array.length_toList]
    exact Nat.le_of_lt (sz_small (by unfold scanBound at hb; omega))
  have each : ∀ v ∈ vs, ∃ i u, v = Value.int i u := fun v hv => by
    obtain ⟨e, he, q⟩ := List.mem_map.mp (pm.mem_iff.mp hv)
    obtain ⟨k, tk, h1, _⟩ := g e he
    exact ⟨k, tk, by rw [← q]; exact h1⟩
  have hI := SrtO.ints_iv each
  have pk : (vs.map SrtO.iv).Perm (es.toList.map keyOf) := by
    have q := pm.map SrtO.iv
    rwa [keys_map g] at q
  refine wpAny_bind (wpAny_newList ?_ hvl)
  have hoL : (s1.heap.push (seqObj "list" vs.toArray 0)).get? s1.heap.objs.size = some (seqObj "list" vs.toArray 0) := Heap.get?_push_size _ rfl
  refine wpAny_bind (wpAny_holding (wpAny_call_entry slot_list_sort ⟨_, hoL, rfl⟩ entry_list_sort (SrtO.list_sort_ord SrtO.swo_int hoL hvl (fun h2 => SrtO.ints_sortable hI h2) fun out h1 h2 => ⟨_, rfl, ?_⟩) (args_list_sort _)))
  obtain ⟨a1, a2, a3⟩ := SrtO.ints_out hI h1 h2
  obtain ⟨c, hc⟩ := sortedHeap_at (vs := vs) (out := out.toArray) hoL
  have pn := a2.trans pk
  refine wpAny_pure ⟨_, rfl, hQ _ s1.heap.objs.size out c (out.map SrtO.iv) (fun b u e => ?_) g1 o1 hz hc a1 a3 (pn.nodup_iff.mpr nd) (fun k => by rw [pn.mem_iff, ← hm k]) ?_⟩
  · have q := k1 b u e
    have hlt := Heap.lt_size q
    show (sortedHeap (s1.heap.push (seqObj "list" vs.toArray 0)) s1.heap.objs.size vs out.toArray).get? b = some u
    rw [sortedHeap_old (Nat.ne_of_lt hlt) (by rw [size_push']; exact Nat.lt_succ_of_lt hlt)]
    exact Heap.get?_push_of_some _ q
  · rw [List.length_map, h2.perm.length_eq]
    exact hvl
def rSortSet (w : World) : List V → Hp → VK → Prop := fun vs H Q => ∃ (a : Addr) (S : Int → Bool) (n : Nat), vs = [.ref a] ∧ H a = some (SetO w a S n) ∧
  ∀ (ns : List Int) (p : Addr), ns.Pairwise (· ≤ ·) → ns.Nodup → (∀ k : Int, k ∈ ns ↔ S k = true) → H p = none → Q (.ref p) (upd H p (.lst (ns.map V.int)))
theorem cr_sortSet {X : Cx} (hc : X.calm = true) : CallR X (.builtin "sorted") (rSortSet X.w) := by
  intro pins s σ H vs us Q I r h
  obtain ⟨a, S, n, rfl, ha, q⟩ := h
  rw [Vals.ref1 r]
  refine set_sorted (setO_get I ha) (I.ok.hd hc) fun s' p out c ns k g o hp hg hi up nd hm hl => ?_
  have hn : H p = none := I.hok.fresh hp
  obtain ⟨h1, g1, d1, t1, o1⟩ := s'
  obtain rfl : g1 = s.gens := g
  obtain rfl : o1 = s.os := o
  have J : Inv X pins σ (upd H p (.lst (ns.map V.int))) { s with heap := h1, gens := s.gens, drawn := d1, toks := t1 } :=
    I.call (ch := []) (Un.laid k hp hn) (I.hok.laid k hp ⟨by rw [List.length_map]; exact hl, out, c, vals_of_ints hi, hg⟩) I.bare (fun _ z => nomatch z)
  exact ⟨.ref p, _, J, rfl, q ns p up nd hm hn⟩
end Lp

namespace Lp
open PySem PySem.Spec PyProof.Rows L2
open Evl (Ex)
/-! ### lists of lists of ints -/
def llD (l : List (List Int)) : PyData := .list (l.map intsD)
/-- a list of ints at v -/
def LI (H : Hp) : V → List Int → Prop := fun v ns => ∃ p, v = .ref p ∧ Ints H p ns
theorem LI.ex {H H' : Hp} (e : Ex H H') {v : V} {ns : List Int} (h : LI H v ns) : LI H' v ns := by
  obtain ⟨p, rfl, q⟩ := h
  exact ⟨p, rfl, q.ex e⟩
theorem dpAllLL {K : PySem.W.Frag} {H : Hp} : ∀ {xs : List V} {l : List (List Int)}, Paired (LI H) xs l → DpAll K H xs (l.map intsD)
  | _, _, .nil => .nil
  | _, _, .cons r t => .cons (by
      obtain ⟨p, rfl, h⟩ := r
      exact dpInts h) (dpAllLL t)
theorem layLL : ∀ l : List (List Int), PyData.canLayAll0 (l.map intsD) = true ∧ PyData.depthAll (l.map intsD) ≤ 3
  | [] => ⟨rfl, by simp [PyData.depthAll]⟩
  | p :: r => by
    have h := layLL r
    have h2 := layInts p
    simp only [List.map_cons, PyData.canLayAll0, PyData.canLay0, PyData.depthAll, PyData.depth, intsD, h.1, h2.1]
    exact ⟨rfl, by omega⟩
theorem shLL (l : List (List Int)) : SeqAt.shaped (llD l) = true := by
  have h := layLL l
  unfold SeqAt.shaped llD
  rw [PyData.canLay0, h.1, Bool.true_and, PyData.depth]
  exact decide_eq_true (by omega)
theorem eqvLLSame (l : List (List Int)) : PyData.eqv (llD l) (llD l) = true := SeqAt.eqv_refl _ (by unfold llD; rw [PyData.canLay0]; exact (layLL l).1)
theorem dpLL {K : PySem.W.Frag} {H : Hp} {p : Addr} {xs : List V} {l : List (List Int)} (h : H p = some (.lst xs)) (px : Paired (LI H) xs l) : Dp K H (.ref p) (llD l) := .lst (.inl (.inl h)) (dpAllLL px)
end Lp

namespace Lp
open PySem PySem.Spec PyProof.Rows L2
open Evl (Ex)
/-- for i, x in enumerate(a list that stands still) -/
theorem for_enum {K : PySem.W.Frag} {a : Addr} {xs : List V} {g : TG} {tb : TS} {D : Ends} {σ : L2.St} {H : Hp} (Pv : Nat → L2.St → Hp → Prop) (h0 : Pv 0 σ H) (hl : ∀ i σ H, Pv i σ H → SqL K H a xs)
    (hs : ∀ i x t σ H, xs[i]? = some x → Pv i σ H → H t = none → g (.ref t) σ (upd H t (.tup [.int (i : Nat), x])) fun σ2 H2 => tb { D with nx := Pv (i + 1), ct := Pv (i + 1), bk := D.nx } σ2 H2) (hd : ∀ σ H, Pv xs.length σ H → D.nx σ H) :
    ∃ W : Nat → Nat → L2.St → Hp → Prop, (∃ m, W 0 m σ H) ∧ ∀ i m σ H, W i m σ H →
      ((Ite K a).stop i H ∧ D.nx σ H) ∨ ((Ite K a).go i H ∧ ∃ N : L2.St → Hp → Prop, (∀ σ' H', N σ' H' → ∃ m', m' < m ∧ W (i + 1) m' σ' H') ∧ ∀ x H', (Ite K a).yld i H x H' → g x σ H' fun σ2 H2 => tb { D with nx := N, ct := N, bk := D.nx } σ2 H2) := by
  refine ⟨fun i m σ H => m = xs.length - i ∧ i ≤ xs.length ∧ Pv i σ H, ⟨_, rfl, Nat.zero_le _, h0⟩, fun i m σ H ⟨em, hi, p⟩ => ?_⟩
  have q := hl i σ H p
  by_cases h : i < xs.length
  · refine .inr ⟨⟨xs, xs[i], q, List.getElem?_eq_getElem h⟩, Pv (i + 1), fun σ' H' p' => ⟨xs.length - (i + 1), by omega, rfl, h, p'⟩, fun v H' y => ?_⟩
    obtain ⟨t, x, rfl, nt, rfl, f⟩ := y
    exact hs i x t σ H (f xs q) p nt
  · have e : i = xs.length := by omega
    subst e
    exact .inl ⟨⟨xs, q, Nat.le_refl _⟩, hd σ H p⟩
/-- a comprehension over anything that stands still and has n turns -/
theorem lc_walk {γ : Type} {J : It} {n : Nat} {g : TG} {tt : TT} {te : TE} {vs : List Nat} {σ : L2.St} {H : Hp} {Dl : Addr} {Qd : Hp → Prop} {Stay : Hp → Prop} {R : Nat → V → Hp → Prop} {R' : Hp → V → γ → Prop} (hD : H Dl = none)
    (mono : ∀ H1 H2, Stay H1 → Ex H1 H2 → Stay H2) (h0 : Stay H) (go : ∀ i H1, i < n → Stay H1 → J.go i H1) (stop : ∀ H1, Stay H1 → J.stop n H1) (yld : ∀ i H1 x H2, i < n → Stay H1 → J.yld i H1 x H2 → Ex H1 H2 ∧ R i x H2) (hn : n < sizeLine)
    (mono' : ∀ H1 H2 v c, Ex H1 H2 → R' H1 v c → R' H2 v c) (p : Nat → Bool) (f : Nat → γ)
    (hs : ∀ i x H1 acc, i < n → R i x H1 → Ex H (del H1 Dl) → H1 Dl = some (.lst acc) → ∀ (Y : V → Hp → Prop) (Z : Hp → Prop), (p i = true → ∀ v H4, Ex H1 H4 → R' (del H4 Dl) v (f i) → Y v H4) → (p i = false → ∀ H3, Ex H1 H3 → Z H3) →
      g x (wipe σ vs) H1 fun σ2 H2 => wipe σ2 vs = wipe σ vs ∧ tt σ2 H2 fun b H3 => if b = true then te σ2 H3 Y else Z H3)
    (hd : ∀ H2 acc, H2 Dl = some (.lst acc) → Ex H (del H2 Dl) → Paired (R' (del H2 Dl)) acc (((List.range n).filter p).map f) → Qd H2) :
    ∃ W : Nat → Nat → Hp → Prop, (∃ m, W 0 m (upd H Dl (.lst []))) ∧ ∀ i m H, W i m H →
      (J.stop i H ∧ Qd H) ∨ (J.go i H ∧ ∃ Nx : Hp → Prop, (∀ H', Nx H' → ∃ m', m' < m ∧ W (i + 1) m' H') ∧ ∀ x H', J.yld i H x H' → g x (wipe σ vs) H' fun σ2 H2 => wipe σ2 vs = wipe σ vs ∧ tt σ2 H2 fun b H3 =>
        if b = true then te σ2 H3 fun y H4 => ∃ acc, H4 Dl = some (.lst acc) ∧ acc.length < sizeLine ∧ Nx (upd H4 Dl (.lst (acc ++ [y]))) else Nx H3) := by
  have hlen : ∀ i, (((List.range i).filter p).map f).length ≤ i := fun i => by
    rw [List.length_map]
    have := List.length_filter_le p (List.range i)
    rwa [List.length_range] at this
  refine ⟨fun i m H2 => m = n - i ∧ i ≤ n ∧ ∃ acc, H2 Dl = some (.lst acc) ∧ Ex H (del H2 Dl) ∧ Paired (R' (del H2 Dl)) acc (((List.range i).filter p).map f), ⟨_, rfl, Nat.zero_le _, [], upd_same, ?_, .nil⟩, fun i m H2 ⟨em, hi, acc, h1, h2, h3⟩ => ?_⟩
  · rw [del_upd]
    exact del_of (Evl.Ex.refl H) hD
  have hst : Stay H2 := mono _ _ h0 (h2.trans (del_le _ _))
  by_cases h : i < n
  · refine .inr ⟨go i H2 h hst, fun H3 => ∃ acc, H3 Dl = some (.lst acc) ∧ Ex H (del H3 Dl) ∧ Paired (R' (del H3 Dl)) acc (((List.range (i + 1)).filter p).map f), fun H3 hq => ⟨n - (i + 1), by omega, rfl, h, hq⟩, fun x H3 y => ?_⟩
    obtain ⟨e3, r⟩ := yld i H2 x H3 h hst y
    have ha : acc.length ≤ i := by
      rw [Paired.len h3]
      exact hlen i
    refine hs i x H3 acc h r (h2.trans (del_mono _ e3)) (e3 _ _ h1) _ _ (fun hp v H4 e4 r4 => ?_) (fun hp H4 e4 => ?_)
    · refine ⟨acc, e4 _ _ (e3 _ _ h1), by omega, acc ++ [v], upd_same, ?_, ?_⟩
      · rw [del_upd]
        exact h2.trans (del_mono _ (e3.trans e4))
      · rw [del_upd, List.range_succ, List.filter_append, List.map_append]
        refine Paired.cat (Paired.imp h3 fun _ _ => mono' _ _ _ _ (del_mono _ (e3.trans e4))) ?_
        rw [List.filter_cons, if_pos hp]
        exact .cons r4 .nil
    · refine ⟨acc, e4 _ _ (e3 _ _ h1), h2.trans (del_mono _ (e3.trans e4)), ?_⟩
      rw [List.range_succ, List.filter_append, List.map_append, List.filter_cons, if_neg (by rw [hp]; exact Bool.false_ne_true)]
      show Paired _ _ (_ ++ [])
      rw [List.append_nil]
      exact Paired.imp h3 fun _ _ => mono' _ _ _ _ (del_mono _ (e3.trans e4))
  · have e : i = n := by omega
    subst e
    exact .inl ⟨stop H2 hst, hd H2 acc h1 h2 h3⟩
/-- over a range, ints made -/
theorem lc_rangeI {n : Nat} {g : TG} {tt : TT} {te : TE} {vs : List Nat} {σ : L2.St} {H : Hp} {Dl : Addr} {Qd : Hp → Prop} (hD : H Dl = none) (hn : n < sizeLine) (p : Nat → Bool) (f : Nat → Int)
    (hs : ∀ i H1, i < n → Ex H H1 → ∀ (Y : V → Hp → Prop) (Z : Hp → Prop), (p i = true → ∀ H4, Ex H1 H4 → Y (.int (f i)) H4) → (p i = false → ∀ H3, Ex H1 H3 → Z H3) →
      g (.int (0 + (i : Int))) (wipe σ vs) H1 fun σ2 H2 => wipe σ2 vs = wipe σ vs ∧ tt σ2 H2 fun b H3 => if b = true then te σ2 H3 Y else Z H3)
    (hd : ∀ H2, Ints H2 Dl (((List.range n).filter p).map f) → Ex H H2 → Qd H2) :
    ∃ W : Nat → Nat → Hp → Prop, (∃ m, W 0 m (upd H Dl (.lst []))) ∧ ∀ i m H, W i m H →
      ((Itr 0 n).stop i H ∧ Qd H) ∨ ((Itr 0 n).go i H ∧ ∃ Nx : Hp → Prop, (∀ H', Nx H' → ∃ m', m' < m ∧ W (i + 1) m' H') ∧ ∀ x H', (Itr 0 n).yld i H x H' → g x (wipe σ vs) H' fun σ2 H2 => wipe σ2 vs = wipe σ vs ∧ tt σ2 H2 fun b H3 =>
        if b = true then te σ2 H3 fun y H4 => ∃ acc, H4 Dl = some (.lst acc) ∧ acc.length < sizeLine ∧ Nx (upd H4 Dl (.lst (acc ++ [y]))) else Nx H3) :=
  lc_walk (Stay := fun _ => True) (R := fun i x _ => x = .int (0 + (i : Int))) (R' := fun _ => IsI) hD (fun _ _ _ _ => trivial) trivial (fun _ _ h _ => h) (fun _ _ => Nat.le_refl _) (fun i H1 x H2 _ _ ⟨e1, e2⟩ => ⟨ex_refl' e1, e2⟩) hn (fun _ _ _ _ _ h => h) p f
    (fun i x H1 acc hi hx e _ Y Z h1 h2 => by rw [hx]; exact hs i H1 hi (e.trans (del_le _ _)) Y Z (fun hp H4 e4 => h1 hp _ H4 e4 rfl) h2)
    (fun H2 acc h1 h2 h3 => hd H2 (by show _ = _; rw [h1, isI_eq h3]) (h2.trans (del_le _ _)))
/-- over enumerate(list of ints), ints made -/
theorem lc_enumI {K : PySem.W.Frag} {a : Addr} {ys : List Int} {g : TG} {tt : TT} {te : TE} {vs : List Nat} {σ : L2.St} {H : Hp} {Dl : Addr} {Qd : Hp → Prop} (hD : H Dl = none) (hsrc : SqL K H a (ys.map V.int)) (hn : ys.length < sizeLine) (p : Nat → Bool) (f : Nat → Int)
    (hs : ∀ i y t H1, ys[i]? = some y → H1 t = some (.tup [.int (i : Nat), .int y]) → Ex H H1 → ∀ (Y : V → Hp → Prop) (Z : Hp → Prop), (p i = true → ∀ H4, Ex H1 H4 → Y (.int (f i)) H4) → (p i = false → ∀ H3, Ex H1 H3 → Z H3) →
      g (.ref t) (wipe σ vs) H1 fun σ2 H2 => wipe σ2 vs = wipe σ vs ∧ tt σ2 H2 fun b H3 => if b = true then te σ2 H3 Y else Z H3)
    (hd : ∀ H2, Ints H2 Dl (((List.range ys.length).filter p).map f) → Ex H H2 → Qd H2) :
    ∃ W : Nat → Nat → Hp → Prop, (∃ m, W 0 m (upd H Dl (.lst []))) ∧ ∀ i m H, W i m H →
      ((Ite K a).stop i H ∧ Qd H) ∨ ((Ite K a).go i H ∧ ∃ Nx : Hp → Prop, (∀ H', Nx H' → ∃ m', m' < m ∧ W (i + 1) m' H') ∧ ∀ x H', (Ite K a).yld i H x H' → g x (wipe σ vs) H' fun σ2 H2 => wipe σ2 vs = wipe σ vs ∧ tt σ2 H2 fun b H3 =>
        if b = true then te σ2 H3 fun y H4 => ∃ acc, H4 Dl = some (.lst acc) ∧ acc.length < sizeLine ∧ Nx (upd H4 Dl (.lst (acc ++ [y]))) else Nx H3) := by
  have at_ : ∀ i, i < ys.length → (ys.map V.int)[i]? = some (.int (ys.getD i 0)) := fun i hi => by
    rw [List.getElem?_map, List.getElem?_eq_getElem hi, List.getD_eq_getElem?_getD, List.getElem?_eq_getElem hi]
    rfl
  refine lc_walk (Stay := fun H1 => SqL K H1 a (ys.map V.int)) (R := fun i x H1 => ∃ t, x = .ref t ∧ H1 t = some (.tup [.int (i : Nat), .int (ys.getD i 0)])) (R' := fun _ => IsI) hD (fun _ _ h e => Evl.ex_l e h) hsrc (fun i H1 hi h => ⟨_, _, h, at_ i hi⟩)
    (fun H1 h => ⟨_, h, by rw [List.length_map]; exact Nat.le_refl _⟩) (fun i H1 x H2 hi h y => ?_) hn (fun _ _ _ _ _ h => h) p f (fun i x H1 acc hi hx e _ Y Z h1 h2 => ?_) (fun H2 acc h1 h2 h3 => hd H2 (by show _ = _; rw [h1, isI_eq h3]) (h2.trans (del_le _ _)))
  · obtain ⟨t, z, rfl, nt, rfl, f⟩ := y
    have e := (at_ i hi).symm.trans (f _ h)
    cases e
    exact ⟨Evl.Ex.new nt, t, rfl, upd_same⟩
  · obtain ⟨t, rfl, ht⟩ := hx
    refine hs i (ys.getD i 0) t H1 ?_ ht (e.trans (del_le _ _)) Y Z (fun hp H4 e4 => h1 hp _ H4 e4 rfl) h2
    rw [List.getD_eq_getElem?_getD, List.getElem?_eq_getElem hi]
    rfl
end Lp

namespace Lp
open PySem PySem.Spec PyProof.Rows L2
open Evl (Ex)
/-! ### all rising lists -/
def extL (links : Nat) (some : List Int) : List (List Int) := ((List.range links).filter fun (i : Nat) => decide (lastOr (-1) some < (i : Int))).map fun (i : Nat) => some ++ [(i : Int)]
def listsL (links : Nat) : Nat → List (List Int)
  | 0 => [[]]
  | n + 1 => (listsL links n).flatMap (extL links)
theorem lists_good (links : Nat) : ∀ n, ∀ os ∈ listsL links n, Rising (links : Int) (-1) os ∧ os.length = n
  | 0, os, h => by
    rw [List.mem_singleton.mp h]
    exact ⟨trivial, rfl⟩
  | n + 1, os, h => by
    obtain ⟨ms, hm, h2⟩ := List.mem_flatMap.mp h
    obtain ⟨g1, g2⟩ := lists_good links n ms hm
    obtain ⟨i, hi, rfl⟩ := List.mem_map.mp h2
    obtain ⟨h3, h4⟩ := List.mem_filter.mp hi
    have h5 := List.mem_range.mp h3
    refine ⟨rising_snoc.mpr ⟨g1, of_decide_eq_true h4, by omega, trivial⟩, ?_⟩
    rw [List.length_append, g2]
    rfl
theorem ext_len (links : Nat) (os : List Int) : (extL links os).length ≤ links := by
  unfold extL
  rw [List.length_map]
  have := List.length_filter_le (fun (i : Nat) => decide (lastOr (-1) os < (i : Int))) (List.range links)
  rwa [List.length_range] at this
theorem flat_len (links : Nat) : ∀ l : List (List Int), (l.flatMap (extL links)).length ≤ l.length * links
  | [] => by simp
  | x :: r => by
    have h1 := flat_len links r
    have h2 := ext_len links x
    rw [List.flatMap_cons, List.length_append, List.length_cons, Nat.add_mul]
    omega
theorem lists_len (links : Nat) : ∀ n, (listsL links n).length ≤ links ^ n
  | 0 => by simp [listsL]
  | n + 1 => by
    have h1 := flat_len links (listsL links n)
    have h2 := Nat.mul_le_mul_right links (lists_len links n)
    rw [Nat.pow_succ]
    exact Nat.le_trans h1 h2
theorem lists_small {links n : Nat} (h1 : links ≤ 23) (h2 : n ≤ 2) : (listsL links n).length ≤ 529 := by
  refine Nat.le_trans (lists_len links n) ?_
  have h3 : links ^ n ≤ 23 ^ n := Nat.pow_le_pow_left h1 n
  have h4 : 23 ^ n ≤ 23 ^ 2 := Nat.pow_le_pow_right (by decide) h2
  exact Nat.le_trans h3 h4
/-- from the one behind the last -/
theorem range_from (a : Nat) : ∀ n, (List.range n).filter (fun i => decide (a ≤ i)) = (List.range (n - a)).map (fun i => a + i)
  | 0 => by simp
  | n + 1 => by
    rw [List.range_succ, List.filter_append, range_from a n, List.filter_cons]
    by_cases h : a ≤ n
    · rw [if_pos (decide_eq_true h), show n + 1 - a = (n - a) + 1 by omega, List.range_succ, List.map_append]
      show _ ++ [n] = _ ++ [a + (n - a)]
      rw [show a + (n - a) = n by omega]
    · rw [if_neg (by rw [decide_eq_false h]; exact Bool.false_ne_true), show n + 1 - a = n - a by omega]
      simp
theorem ext_from {links : Nat} {os : List Int} {a : Nat} (h : lastOr (-1) os + 1 = (a : Int)) : extL links os = (List.range (links - a)).map fun (i : Nat) => os ++ [(a : Int) + (i : Int)] := by
  unfold extL
  have e : (fun (i : Nat) => decide (lastOr (-1) os < (i : Int))) = fun (i : Nat) => decide (a ≤ i) := funext fun i => by
    by_cases c : a ≤ i
    · rw [decide_eq_true c]
      exact decide_eq_true (by omega)
    · rw [decide_eq_false c]
      exact decide_eq_false (by omega)
  rw [e, range_from, List.map_map]
  refine List.map_congr_left fun i _ => ?_
  show os ++ [((a + i : Nat) : Int)] = _
  rw [show ((a + i : Nat) : Int) = (a : Int) + (i : Int) by omega]
theorem last_ge {links : Int} : ∀ {b : Int} {os : List Int}, Rising links b os → b ≤ lastOr b os
  | b, [], _ => Int.le_refl _
  | b, l :: r, h => by
    have h1 := last_ge h.2.2
    have h2 := h.1
    show b ≤ lastOr l r
    omega
theorem last_max {links : Int} : ∀ {b : Int} {os : List Int}, Rising links b os → (∀ x ∈ os, x ≤ lastOr b os) ∧ (os ≠ [] → lastOr b os ∈ os)
  | b, [], _ => ⟨fun _ h => (nomatch h), fun h => absurd rfl h⟩
  | b, l :: r, h => by
    have h1 := last_max h.2.2
    have h2 := last_ge h.2.2
    refine ⟨fun x hx => ?_, fun _ => ?_⟩
    · rcases List.mem_cons.mp hx with z | z
      · rw [z]
        exact h2
      · exact h1.1 x z
    · cases r with
      | nil => exact List.mem_singleton.mpr rfl
      | cons y t => exact List.mem_cons_of_mem _ (h1.2 (by simp))
/-! ### which of them are full, reckoned -/
def ins (x : Int) : List Int → List Int
  | [] => [x]
  | y :: r => if x ≤ y then x :: y :: r else y :: ins x r
def isrt : List Int → List Int
  | [] => []
  | x :: r => ins x (isrt r)
theorem ins_perm (x : Int) : ∀ l, (ins x l).Perm (x :: l)
  | [] => .refl _
  | y :: r => by
    unfold ins
    split
    · exact .refl _
    · exact ((ins_perm x r).cons y).trans (.swap x y r)
theorem isrt_perm : ∀ l, (isrt l).Perm l
  | [] => .refl _
  | x :: r => (ins_perm x (isrt r)).trans ((isrt_perm r).cons x)
theorem ins_up (x : Int) : ∀ l : List Int, l.Pairwise (· ≤ ·) → (ins x l).Pairwise (· ≤ ·)
  | [], _ => List.pairwise_singleton _ _
  | y :: r, h => by
    have h2 := List.pairwise_cons.mp h
    unfold ins
    split
    · rename_i c
      refine List.pairwise_cons.mpr ⟨fun z hz => ?_, h⟩
      rcases List.mem_cons.mp hz with e | e
      · rw [e]
        exact c
      · have := h2.1 z e
        omega
    · rename_i c
      refine List.pairwise_cons.mpr ⟨fun z hz => ?_, ins_up x r h2.2⟩
      rcases List.mem_cons.mp ((ins_perm x r).mem_iff.mp hz) with e | e
      · omega
      · exact h2.1 z e
theorem isrt_up : ∀ l, (isrt l).Pairwise (· ≤ ·)
  | [] => .nil
  | x :: r => ins_up x _ (isrt_up r)
def fullB (links : Nat) (os : List Int) : Bool := (gapL 0 (isrt (szs links os))).isNone
theorem full_is (links : Nat) (os : List Int) : decide (gapO links os = none) = fullB links os := by
  unfold fullB gapO
  rw [← srt_of (isrt_perm _) (isrt_up _)]
  cases gapL 0 (isrt (szs links os)) with
  | none => rfl
  | some x => rfl
def fullL (links n : Nat) : List (List Int) := (listsL links n).filter (fullB links)
def need (links : Nat) : Nat := if links ≤ 1 then 0 else if links ≤ 7 then 1 else 2
theorem need_fewest {links : Nat} (h1 : 1 ≤ links) (h2 : links ≤ 23) : FewestIs links (need links) := by
  have m0 : mostL 0 = 1 := by decide +kernel
  have m1 : mostL 1 = 7 := by decide +kernel
  have m2 : mostL 2 = 23 := by decide +kernel
  unfold need FewestIs
  split
  · exact ⟨by omega, by omega, fun j h => absurd h (Nat.not_lt_zero _)⟩
  · split
    · refine ⟨by omega, by omega, fun j h => ?_⟩
      rw [show j = 0 by omega]
      omega
    · refine ⟨by omega, by omega, fun j h => ?_⟩
      rcases Nat.lt_or_ge j 1 with z | z
      · rw [show j = 0 by omega]
        omega
      · rw [show j = 1 by omega]
        omega
theorem none_fewer : ((List.range 24).all fun l => decide (need l = 0) || (listsL l (need l - 1)).all fun os => !fullB l os) = true := by decide +kernel
theorem some_full : ((List.range 24).all fun l => decide (l = 0) || decide (0 < (fullL l (need l)).length)) = true := by decide +kernel
theorem full_1 : (fullL 1 0).length = 1 := by decide +kernel
theorem full_7 : (fullL 7 1).length = 2 := by decide +kernel
theorem full_23 : (fullL 23 2).length = 6 := by decide +kernel
/-- new lists of ints, none of them there at H0, none at lo -/
def LF (H0 : Hp) (lo : Addr) (H : Hp) : V → List Int → Prop := fun v ns => ∃ p, v = .ref p ∧ H0 p = none ∧ p ≠ lo ∧ Ints H p ns
theorem LF.ex {H0 H H' : Hp} {lo : Addr} (e : Ex H H') {v : V} {ns : List Int} (h : LF H0 lo H v ns) : LF H0 lo H' v ns := by
  obtain ⟨p, rfl, n, m, q⟩ := h
  exact ⟨p, rfl, n, m, q.ex e⟩
theorem LF.mut {H0 H : Hp} {lo : Addr} {o : HO} {v : V} {ns : List Int} (h : LF H0 lo H v ns) : LF H0 lo (upd H lo o) v ns := by
  obtain ⟨p, rfl, n, m, q⟩ := h
  exact ⟨p, rfl, n, m, (upd_ne m).trans q⟩
/-- new lists of ints -/
def LN (H0 H : Hp) : V → List Int → Prop := fun v ns => ∃ p, v = .ref p ∧ H0 p = none ∧ Ints H p ns
theorem LN.ex {H0 H H' : Hp} (e : Ex H H') {v : V} {ns : List Int} (h : LN H0 H v ns) : LN H0 H' v ns := by
  obtain ⟨p, rfl, n, q⟩ := h
  exact ⟨p, rfl, n, q.ex e⟩
theorem LN.li {H0 H : Hp} {v : V} {ns : List Int} (h : LN H0 H v ns) : LI H v ns := by
  obtain ⟨p, rfl, _, q⟩ := h
  exact ⟨p, rfl, q⟩
theorem LF.ln {H0 H : Hp} {lo : Addr} {v : V} {ns : List Int} (h : LF H0 lo H v ns) : LN H0 H v ns := by
  obtain ⟨p, rfl, n, _, q⟩ := h
  exact ⟨p, rfl, n, q⟩
theorem paired_len {F : V → List Int → Prop} {xs : List V} {l : List (List Int)} (h : Paired F xs l) : xs.length = l.length := Paired.len h
theorem flat_snoc {links : Nat} (pre : List (List Int)) (y : List Int) : (pre ++ [y]).flatMap (extL links) = pre.flatMap (extL links) ++ extL links y := by
  rw [List.flatMap_append]
  simp
theorem flat_small {links n : Nat} {pre post : List (List Int)} {y : List Int} (h1 : links ≤ 23) (h2 : n + 1 ≤ 2) (e : listsL links n = pre ++ y :: post) : (pre.flatMap (extL links)).length + (extL links y).length ≤ 529 := by
  have h3 := lists_small (links := links) (n := n + 1) h1 h2
  have h4 : listsL links (n + 1) = (pre.flatMap (extL links) ++ extL links y) ++ post.flatMap (extL links) := by
    show (listsL links n).flatMap (extL links) = _
    rw [e, List.flatMap_append, List.flatMap_cons, List.append_assoc]
  rw [h4, List.length_append, List.length_append] at h3
  omega
end Lp

namespace Lp
open PySem PySem.Spec PyProof.Rows L2
open Evl (Ex)
def topS (i : Nat) : Stmt := PySem.Challenge.pw_linkpay_k09_whole_none_fewer.main.body.getD i (.Pass ⟨0, 0, 0, 0⟩)
abbrev s_asked_links : Stmt := topS 8
theorem sc_asked_links : FnScope ["links"] ["links"] (defScope s_asked_links) := ⟨rfl, rfl, rfl, by decide +kernel, rfl, by decide +kernel, by decide +kernel⟩
abbrev s_asked_row : Stmt := topS 9
theorem sc_asked_row : FnScope ["links", "opened", "before", "link"] ["links", "opened"] (defScope s_asked_row) := ⟨rfl, rfl, rfl, by decide +kernel, rfl, by decide +kernel, by decide +kernel⟩
abbrev s_pieces_of : Stmt := topS 10
theorem sc_pieces_of : FnScope ["links", "opened", "found", "begin", "link"] ["links", "opened"] (defScope s_pieces_of) := ⟨rfl, rfl, rfl, by decide +kernel, rfl, by decide +kernel, by decide +kernel⟩
abbrev s_gap_of : Stmt := topS 11
theorem sc_gap_of : FnScope ["links", "opened", "reach", "size", "piece"] ["links", "opened"] (defScope s_gap_of) := ⟨rfl, rfl, rfl, by decide +kernel, rfl, by decide +kernel, by decide +kernel⟩
abbrev s_gap : Stmt := topS 12
theorem sc_gap : FnScope ["links", "opened"] ["links", "opened"] (defScope s_gap) := ⟨rfl, rfl, rfl, by decide +kernel, rfl, by decide +kernel, by decide +kernel⟩
abbrev s_most_links : Stmt := topS 15
theorem sc_most_links : FnScope ["openings", "found", "k"] ["openings"] (defScope s_most_links) := ⟨rfl, rfl, rfl, by decide +kernel, rfl, by decide +kernel, by decide +kernel⟩
abbrev s_fewest : Stmt := topS 16
theorem sc_fewest : FnScope ["links", "openings"] ["links"] (defScope s_fewest) := ⟨rfl, rfl, rfl, by decide +kernel, rfl, by decide +kernel, by decide +kernel⟩
abbrev s_lists_of : Stmt := topS 17
theorem sc_lists_of : FnScope ["links", "openings", "found", "k", "longer", "some", "link"] ["links", "openings"] (defScope s_lists_of) := ⟨rfl, rfl, rfl, by decide +kernel, rfl, by decide +kernel, by decide +kernel⟩
abbrev s_all_full : Stmt := topS 18
theorem sc_all_full : FnScope ["links", "openings", "some"] ["links"] (defScope s_all_full) := ⟨rfl, rfl, rfl, by decide +kernel, rfl, by decide +kernel, by decide +kernel⟩
abbrev s_law_cell_at : Stmt := topS 20
theorem sc_law_cell_at : FnScope ["script", "k"] ["script", "k"] (defScope s_law_cell_at) := ⟨rfl, rfl, rfl, by decide +kernel, rfl, by decide +kernel, by decide +kernel⟩
abbrev s_law_whole : Stmt := topS 21
theorem sc_law_whole : FnScope ["found"] ["found"] (defScope s_law_whole) := ⟨rfl, rfl, rfl, by decide +kernel, rfl, by decide +kernel, by decide +kernel⟩
abbrev s_law_longest : Stmt := topS 22
theorem sc_law_longest : FnScope ["openings", "found", "k"] ["openings"] (defScope s_law_longest) := ⟨rfl, rfl, rfl, by decide +kernel, rfl, by decide +kernel, by decide +kernel⟩
abbrev s_law_lists : Stmt := topS 23
theorem sc_law_lists : FnScope ["links", "openings", "found", "k", "longer", "some", "link"] ["links", "openings"] (defScope s_law_lists) := ⟨rfl, rfl, rfl, by decide +kernel, rfl, by decide +kernel, by decide +kernel⟩
abbrev s_law : Stmt := topS 24
theorem sc_law : FnScope ["script", "links", "openings", "some", "due", "lap", "found"] ["script"] (defScope s_law) := ⟨rfl, rfl, rfl, by decide +kernel, rfl, by decide +kernel, by decide +kernel⟩
def sp_law_cell_at (K : PySem.W.Frag) : Sp := fun vs H Q _ => ∃ (a : Addr) (ns : List Int) (k : Int), vs = [.ref a, .int k] ∧ SqL K H a (ns.map V.int) ∧ 0 ≤ k ∧ Q (.int (cell ns k)) H
section
variable {P : Program} {w : World} {K : PySem.W.Frag} {mg : Str → Option Value} {base : Heap}
theorem ok_law_cell_at {f : Addr} {fd : FuncData} (F : Fun K "_law_cell_at" "_law_cell_at" s_law_cell_at f fd) (T : Bl mg) : FnOk P w K mg base (L2.CX P w) 1 f fd ["script", "k"] (sp_law_cell_at K) := by
  refine F.okX sc_law_cell_at (fun vs H Q E h => ?_) (fun cdv A outer s H vs Q E hr h => ?_)
  · obtain ⟨a, ns, k, rfl, _⟩ := h
    rfl
  · obtain ⟨a, ns, k, rfl, hS, hk, q⟩ := h
    have hu := hu_of hr
    refine ⟨_, (pss_cons (ps_if (pt_cmpR op_lt (pv 1) (pe_callB call_len_seq (by rfl) T.b_len (by decide +kernel) (pa_cons (pv 0) pa_nil)) (nomark _))
      (pss_one (ps_ret (pe_ix ix_list (pv 0) (pv 1) (fun _ _ => rfl)))) pss_nil)
      (pss_one (ps_ret pe_int))), ?_⟩
    refine ⟨_, rfl, _, rfl, a, _, rfl, .inl hS, _, _, rfl, rfl, _, rfl, ?_⟩
    rw [List.length_map]
    refine iteD (fun h => ?_) (fun h => ?_)
    · have hi : k.toNat < ns.length := by omega
      refine ⟨_, rfl, _, rfl, a, _, k, .int ns[k.toNat], rfl, rfl, hS, ?_, ?_⟩
      · refine at_of (j := k.toNat) (by omega) ?_
        rw [List.getElem?_map, List.getElem?_eq_getElem hi]
        rfl
      · unfold cell at q
        rw [List.getD_eq_getElem?_getD, List.getElem?_eq_getElem hi] at q
        exact q
    · unfold cell at q
      rw [List.getD_eq_getElem?_getD, List.getElem?_eq_none (by omega)] at q
      exact q
end
/-- refuses what is no row -/
def sp_asked_links (C : Addr) : Sp := fun vs H Q E => ∃ links : Int, vs = [.int links] ∧ (1 ≤ links ∧ links ≤ 1000000000000000000000000000000 → Q .non H) ∧
  (¬ (1 ≤ links ∧ links ≤ 1000000000000000000000000000000) → E (.ref C) none H)
section
variable {P : Program} {w : World} {K : PySem.W.Frag} {mg : Str → Option Value} {base : Heap}
theorem ok_asked_links {f : Addr} {fd : FuncData} (F : Fun K "asked_links" "asked_links" s_asked_links f fd) (T : Bl mg) (X_NoRow : Exo K mg "NoRow") {tMOST_LINKS : Tok} (hMOST_LINKS : mg "MOST_LINKS" = some (.int 1000000000000000000000000000000 tMOST_LINKS)) : FnOk P w K mg base (L2.CX P w) 1 f fd ["links"] (sp_asked_links X_NoRow.C) := by
  refine F.okX sc_asked_links (fun vs H Q E h => ?_) (fun cdv A outer s H vs Q E hr h => ?_)
  · obtain ⟨links, rfl, _⟩ := h
    rfl
  · obtain ⟨links, rfl, q, e⟩ := h
    have hu := hu_of hr
    refine ⟨_, (pss_one (ps_if (pt_not (pt_chain op_le op_le pe_int (pv 0) (pe_glob (v := .int 1000000000000000000000000000000) rfl hMOST_LINKS ⟨_, rfl⟩)))
      (pss_one (ps_raise rfl (takes_of rfl rfl rfl rfl) (X_NoRow.mk' (by rfl)))) pss_nil)), ?_⟩
    refine ⟨_, rfl, _, _, rfl, rfl, _, rfl, ?_⟩
    refine iteD (fun e1 => ?_) (fun e1 => ?_)
    · refine ⟨_, _, rfl, rfl, _, rfl, ?_⟩
      refine iteN (fun e2 => ?_) (fun e2 => ?_)
      · exact q ⟨e1, e2⟩
      · exact e (fun z => e2 z.2)
    · exact ⟨_, rfl, iteT (e (fun z => e1 z.1))⟩
end
def sp_most_links : Sp := fun vs H Q _ => ∃ n : Nat, vs = [.int (n : Int)] ∧ n ≤ 1000 ∧ Q (.int (mostL n)) H
section
variable {P : Program} {w : World} {K : PySem.W.Frag} {mg : Str → Option Value} {base : Heap}
theorem ok_most_links {f : Addr} {fd : FuncData} (F : Fun K "most_links" "most_links" s_most_links f fd) (T : Bl mg) : FnOk P w K mg base (L2.CX P w) 1 f fd ["openings"] (sp_most_links ) := by
  refine F.okX sc_most_links (fun vs H Q E h => ?_) (fun cdv A outer s H vs Q E hr h => ?_)
  · obtain ⟨n, rfl, _⟩ := h
    rfl
  · obtain ⟨n, rfl, hn, q⟩ := h
    have hu := hu_of hr
    refine ⟨_, (pss_cons (ps_set (i := 1) sc_most_links.nd rfl (.inl rfl) (pe_op op_mul pe_int (pe_op op_add (pv 0) pe_int)))
      (pss_cons (ps_for (passes_of rfl) rfl (pi_range1 rfl T.b_range (pa_cons (pv 0) pa_nil)) (pg_name (i := 2) sc_most_links.nd rfl (.inl rfl))
      (pss_one (ps_set (i := 1) sc_most_links.nd rfl (.inl rfl) (pe_op op_mul (pv 1) pe_int))))
      (pss_one (ps_ret (pe_op op_sub (pv 1) pe_int))))), ?_⟩
    refine ⟨_, rfl, _, _, rfl, rfl, _, _, rfl, rfl, .inl ⟨by decide, by decide⟩, ?_⟩
    refine ⟨_, rfl, _, rfl, by omega, by omega, ?_⟩
    refine for_range (lo := 0) (fun i σ' H' => H' = H ∧ ∃ v, σ' = [some (.int (n : Int)), some (.int (2 * ((n : Int) + 1) * 2 ^ i)), v]) ⟨rfl, none, by simp; rfl⟩ ?_ ?_
    · rintro i σ' H' hi ⟨rfl, v, rfl⟩
      refine ⟨_, rfl, _, _, rfl, rfl, .inr ⟨by decide, by decide⟩, rfl, some (.int (0 + (i : Int))), ?_⟩
      rw [Int.pow_succ, ← Int.mul_assoc]
      rfl
    · rintro σ' H' ⟨rfl, v, rfl⟩
      refine ⟨_, rfl, _, _, rfl, rfl, ?_⟩
      have e : 2 * ((n : Int) + 1) * 2 ^ ((n : Int).toNat) - 1 = mostL n := by
        unfold mostL
        rw [Int.toNat_natCast, Int.pow_succ, Int.mul_comm 2, Int.mul_assoc, Int.mul_comm 2]
      rw [← e] at q
      exact q
end
def sp_fewest (CR : Addr) : Sp := fun vs H Q E => ∃ links : Int, vs = [.int links] ∧ (RowOk links → ∀ n : Nat, FewestIs links n → Q (.int (n : Int)) H) ∧ (¬ RowOk links → E (.ref CR) none H)
section
variable {P : Program} {w : World} {K : PySem.W.Frag} {mg : Str → Option Value} {base : Heap}
theorem ok_fewest {f : Addr} {fd : FuncData} (F : Fun K "fewest" "fewest" s_fewest f fd) (T : Bl mg) (X_NoRow : Exo K mg "NoRow") (C_asked_links : Cal P w K mg base 1 "asked_links" ["links"] (sp_asked_links X_NoRow.C)) (C_most_links : Cal P w K mg base 1 "most_links" ["openings"] (sp_most_links )) : FnOk P w K mg base (L2.CX P w) 2 f fd ["links"] (sp_fewest X_NoRow.C) := by
  refine F.okX sc_fewest (fun vs H Q E h => ?_) (fun cdv A outer s H vs Q E hr h => ?_)
  · obtain ⟨links, rfl, _⟩ := h
    rfl
  · obtain ⟨links, rfl, q, e⟩ := h
    have hu := hu_of hr
    refine ⟨_, (pss_cons (ps_expr (pe_call C_asked_links.ok (hr.mono (by decide)) (by rfl) C_asked_links.gl C_asked_links.kp C_asked_links.bd .nil (passes_call (takes_of rfl rfl rfl rfl) (fun _ _ _ _ h => h)) (pa_cons (pv 0) pa_nil)))
      (pss_cons (ps_set (i := 1) sc_fewest.nd rfl (.inl rfl) pe_int)
      (pss_cons (ps_while (passes_of rfl) (pt_cmpR op_lt (pe_call C_most_links.ok (hr.mono (by decide)) (by rfl) C_most_links.gl C_most_links.kp C_most_links.bd .nil (passes_call (takes_of rfl rfl rfl rfl) (fun _ _ _ _ h => h)) (pa_cons (pv 1) pa_nil)) (pv 0) (nomark _))
      (pss_one (ps_set (i := 1) sc_fewest.nd rfl (.inl rfl) (pe_op op_add (pv 1) pe_int))))
      (pss_one (ps_ret (pv 1)))))), ?_⟩
    refine ⟨_, rfl, links, rfl, fun hr => ?_, e⟩
    refine ⟨fun m σ' H' => H' = H ∧ ∃ n : Nat, m = 200 - n ∧ n ≤ 100 ∧ σ' = [some (.int links), some (.int (n : Int))] ∧ ∀ j, j < n → mostL j < links, ⟨200, rfl, 0, rfl, by omega, rfl, fun j h => absurd h (Nat.not_lt_zero _)⟩, ?_⟩
    rintro m σ' H' ⟨rfl, n, rfl, hn, rfl, hj⟩
    refine ⟨_, rfl, n, rfl, by omega, _, rfl, _, _, rfl, rfl, _, rfl, ?_⟩
    refine iteD (fun h => ?_) (fun h => ?_)
    · have hn2 : n < 100 := by
        rcases Nat.lt_or_ge n 100 with z | z
        · exact z
        · have e2 : n = 100 := by omega
          rw [e2] at h
          have := mostL_big
          have := hr.2
          omega
      refine ⟨fun σ2 H2 => H2 = H' ∧ σ2 = [some (.int links), some (.int ((n : Int) + 1))], ?_, ?_⟩
      · rintro σ2 H2 ⟨rfl, rfl⟩
        refine ⟨200 - (n + 1), by omega, rfl, n + 1, rfl, by omega, rfl, fun j hj2 => ?_⟩
        rcases Nat.lt_or_ge j n with z | z
        · exact hj j z
        · have e2 : j = n := by omega
          rw [e2]
          exact h
      · exact ⟨_, rfl, _, _, rfl, rfl, rfl, rfl⟩
    · exact ⟨_, rfl, q hr n ⟨hn, by omega, hj⟩⟩
end
def sp_law_whole : Sp := fun vs H Q _ => ∃ n : Int, vs = [.int n] ∧ Q (.bl true) H
section
variable {P : Program} {w : World} {K : PySem.W.Frag} {mg : Str → Option Value} {base : Heap}
theorem ok_law_whole {f : Addr} {fd : FuncData} (F : Fun K "_law_whole" "_law_whole" s_law_whole f fd) (T : Bl mg) : FnOk P w K mg base (L2.CX P w) 1 f fd ["found"] (sp_law_whole ) := by
  refine F.okX sc_law_whole (fun vs H Q E h => ?_) (fun cdv A outer s H vs Q E hr h => ?_)
  · obtain ⟨n, rfl, _⟩ := h
    rfl
  · obtain ⟨n, rfl, q⟩ := h
    have hu := hu_of hr
    refine ⟨_, (pss_one (ps_ret (pe_and (pe_callB call_isi (by rfl) T.b_isinstance (by decide +kernel) (pa_cons (pv 0) (pa_cons (pe_bltn (v := .ty "int") (by rfl) T.b_int (by decide +kernel) rfl) pa_nil))) (pe_one (pe_not (pe_callB call_isi (by rfl) T.b_isinstance (by decide +kernel) (pa_cons (pv 0) (pa_cons (pe_bltn (v := .ty "bool") (by rfl) T.b_bool (by decide +kernel) rfl) pa_nil)))))))), ?_⟩
    refine ⟨_, rfl, _, _, _, _, true, rfl, .ty "int", .base (.int n), kit_ty (by decide +kernel), true, rfl, iteT ?_⟩
    exact ⟨_, rfl, _, _, _, _, false, rfl, .ty "bool", .base (.int n), kit_ty (by decide +kernel), false, rfl, q⟩
end
def sp_law_lists : Sp := fun vs H Q _ => ∃ (links n : Nat), vs = [.int (links : Int), .int (n : Int)] ∧ links ≤ 23 ∧ n ≤ 2 ∧ ∀ r H' xs, H r = none → Ex H H' → H' r = some (.lst xs) → Paired (LN H H') xs (listsL links n) → Q (.ref r) H'
section
variable {P : Program} {w : World} {K : PySem.W.Frag} {mg : Str → Option Value} {base : Heap}
theorem ok_law_lists {f : Addr} {fd : FuncData} (F : Fun K "_law_lists" "_law_lists" s_law_lists f fd) (T : Bl mg) : FnOk P w K mg base (L2.CX P w) 1 f fd ["links", "openings"] (sp_law_lists ) := by
  refine F.okX sc_law_lists (fun vs H Q E h => ?_) (fun cdv A outer s H vs Q E hr h => ?_)
  · obtain ⟨links, n, rfl, _⟩ := h
    rfl
  · obtain ⟨links, n, rfl, hl, hn, q⟩ := h
    have hu := hu_of hr
    refine ⟨_, (pss_cons (ps_set (i := 2) sc_law_lists.nd rfl (.inl rfl) (pe_lst (pa_cons (pe_lst pa_nil) pa_nil)))
      (pss_cons (ps_for (passes_of rfl) rfl (pi_range1 rfl T.b_range (pa_cons (pv 1) pa_nil)) (pg_name (i := 3) sc_law_lists.nd rfl (.inl rfl))
      (pss_cons (ps_set (i := 4) sc_law_lists.nd rfl (.inl rfl) (pe_lst pa_nil))
      (pss_cons (ps_for (passes_of rfl) rfl (pi_list (pv 2)) (pg_name (i := 5) sc_law_lists.nd rfl (.inl rfl))
      (pss_one (ps_for (passes_of rfl) rfl (pi_range1 rfl T.b_range (pa_cons (pv 0) pa_nil)) (pg_name (i := 6) sc_law_lists.nd rfl (.inl rfl))
      (pss_one (ps_if (PW.pt (pw_or (pt_cmpR op_eq (pe_callB call_len_seq (by rfl) T.b_len (by decide +kernel) (pa_cons (pv 5) pa_nil)) pe_int (nomark _)) (pw_or1 (pt_cmpR op_gt (pv 6) (pe_ix ix_list (pv 5) (pe_un un_neg pe_int) (fun _ _ => rfl)) (nomark _)))))
      (pss_one (ps_expr (pe_bm PySem.F.plainAttrs_list PySem.F.slot_list_append PySem.F.type_list_append mt_append (pv 4) (pa_cons (pe_op op_cat (pv 5) (pe_lst (pa_cons (pv 6) pa_nil))) pa_nil)))) pss_nil)))))
      (pss_one (ps_set (i := 2) sc_law_lists.nd rfl (.inl rfl) (pv 4))))))
      (pss_one (ps_ret (pv 2))))), ?_⟩
    refine ⟨Nat.zero_le _, fun b nb => ?_⟩
    obtain ⟨e1, hb⟩ := nw nb (.lst [])
    refine ⟨le1, fun c nc => ?_⟩
    obtain ⟨e2, hc⟩ := nw nc (.lst [.ref b])
    refine ⟨_, rfl, _, rfl, by omega, by omega, ?_⟩
    refine for_range (lo := 0) (fun k σ' H' => Ex H H' ∧ ∃ fo xs v3 v4 v5 v6, H fo = none ∧ H' fo = some (.lst xs) ∧ Paired (LN H H') xs (listsL links k) ∧ σ' = [some (.int (links : Int)), some (.int (n : Int)), some (.ref fo), v3, v4, v5, v6]) ?_ ?_ ?_
    · exact ⟨e1.trans e2, c, _, none, none, none, none, Evl.fresh_back e1 nc, hc, .cons ⟨b, rfl, nb, e2 _ _ hb⟩ .nil, rfl⟩
    · rintro k σ' H' hk ⟨ex, fo, xs, v3, v4, v5, v6, nfo, hfo, pxs, rfl⟩
      have hk2 : k + 1 ≤ 2 := by omega
      refine ⟨Nat.zero_le _, fun lo nlo => ?_⟩
      obtain ⟨e3, hlo⟩ := nw nlo (.lst [])
      have hfl : fo ≠ lo := ne_of_none hfo nlo
      refine ⟨_, rfl, fo, rfl, ⟨_, .inl (.inl (e3 _ _ hfo))⟩, ?_⟩
      refine for_pre pxs (fun pre σ2 H2 => Ex H' H2 ∧ ∃ acc v5 v6, H2 lo = some (.lst acc) ∧ Paired (LF H lo H2) acc (pre.flatMap (extL links)) ∧ σ2 = [some (.int (links : Int)), some (.int (n : Int)), some (.ref fo), some (.int (0 + (k : Int))), some (.ref lo), v5, v6]) ?_ (fun pre σ2 H2 ⟨e, _⟩ => .inl (.inl (e _ _ hfo))) ?_ ?_
      · exact ⟨e3, [], v5, v6, hlo, .nil, rfl⟩
      · rintro pre y post x σ2 H2 ey ⟨p, rfl, np, hp⟩ ⟨e4, acc, w5, w6, hacc, pacc, rfl⟩
        have hym : y ∈ listsL links k := by rw [ey]; simp
        obtain ⟨hri, hyl⟩ := lists_good links k y hym
        have hflat := flat_small hl hk2 ey
        have hge := last_ge hri
        refine ⟨_, rfl, _, rfl, by omega, by omega, ?_⟩
        refine for_range (lo := 0) (fun i σ3 H3 => Ex H' H3 ∧ ∃ acc v6, H3 lo = some (.lst acc) ∧ Paired (LF H lo H3) acc (pre.flatMap (extL links) ++ (((List.range i).filter fun (j : Nat) => decide (lastOr (-1) y < (j : Int))).map fun (j : Nat) => y ++ [(j : Int)])) ∧ σ3 = [some (.int (links : Int)), some (.int (n : Int)), some (.ref fo), some (.int (0 + (k : Int))), some (.ref lo), some (.ref p), v6]) ?_ ?_ ?_
        · exact ⟨e4, acc, w6, hacc, by simpa using pacc, rfl⟩
        · rintro i σ3 H3 hi ⟨e5, acc3, u6, hacc3, pacc3, rfl⟩
          have e0 : (0 : Int) + (i : Int) = (i : Int) := Int.zero_add _
          have hp3 := hp.ex e5
          have hal : acc3.length ≤ 600 := by
            rw [Paired.len pacc3, List.length_append, List.length_map]
            have := List.length_filter_le (fun (j : Nat) => decide (lastOr (-1) y < (j : Int))) (List.range i)
            rw [List.length_range] at this
            omega
          refine ⟨_, rfl, p, _, rfl, .inl hp3.sq, rfl, _, rfl, ?_⟩
          rw [List.length_map]
          refine iteE (fun h => ?_) (fun h => ?_)
          · have hy0 : y = [] := List.eq_nil_of_length_eq_zero (by omega)
            have hlast : lastOr (-1) y < (i : Int) := by
              rw [hy0]
              show (-1 : Int) < _
              omega
            refine ⟨_, rfl, .inl ⟨rfl, _, .inl (.inl hacc3)⟩, _, rfl, _, rfl, le1, fun t1 m1 => ?_⟩
            obtain ⟨e8, h8⟩ := nw m1 (.lst [.int ((0 : Int) + (i : Int))])
            refine ⟨p, t1, _, _, rfl, rfl, hp3.ex e8, h8, Nat.le_of_lt (sz_small (by rw [List.length_map]; show y.length + 1 ≤ _; omega)), fun z nz => ?_⟩
            obtain ⟨e9, h9⟩ := nw nz (.lst (y.map V.int ++ [.int ((0 : Int) + (i : Int))]))
            have hacc9 := e9 _ _ (e8 _ _ hacc3)
            refine ⟨lo, acc3, _, rfl, rfl, hacc9, sz_small (by omega), ((e5.trans e8).trans e9).mut nlo, acc3 ++ [.ref z], _, upd_same, ?_, rfl⟩
            rw [List.range_succ, List.filter_append, List.filter_cons, if_pos (decide_eq_true hlast), List.map_append, ← List.append_assoc]
            refine Paired.cat (Paired.imp pacc3 fun _ _ h => LF.mut (LF.ex (e8.trans e9) h)) (.cons ⟨z, rfl, Evl.fresh_back ((ex.trans e5).trans e8) nz, (ne_of_none (e8 _ _ hacc3) nz).symm, ?_⟩ .nil)
            show upd _ _ _ _ = _
            rw [upd_ne (ne_of_none (e8 _ _ hacc3) nz).symm, List.map_append]
            rw [h9, e0]
            rfl
          · rcases List.eq_nil_or_concat y with e | ⟨ini, la, e⟩
            · rw [e] at h
              exact absurd rfl h
            rw [List.concat_eq_append] at e
            have hla : lastOr (-1) y = la := by rw [e, lastOr_snoc]
            have hat : atI (y.map V.int) (-1) = some (.int la) := by
              rw [e, List.map_append]
              exact atI_last _ _
            refine ⟨_, rfl, _, rfl, _, rfl, p, _, _, .int la, rfl, rfl, hp3.sq, hat, _, _, rfl, rfl, _, rfl, ?_⟩
            refine iteD (fun h2 => ?_) (fun h2 => ?_)
            · have hlast : lastOr (-1) y < (i : Int) := by omega
              refine ⟨_, rfl, .inl ⟨rfl, _, .inl (.inl hacc3)⟩, _, rfl, _, rfl, le1, fun t1 m1 => ?_⟩
              obtain ⟨e8, h8⟩ := nw m1 (.lst [.int ((0 : Int) + (i : Int))])
              refine ⟨p, t1, _, _, rfl, rfl, hp3.ex e8, h8, Nat.le_of_lt (sz_small (by rw [List.length_map]; show y.length + 1 ≤ _; omega)), fun z nz => ?_⟩
              obtain ⟨e9, h9⟩ := nw nz (.lst (y.map V.int ++ [.int ((0 : Int) + (i : Int))]))
              have hacc9 := e9 _ _ (e8 _ _ hacc3)
              refine ⟨lo, acc3, _, rfl, rfl, hacc9, sz_small (by omega), ((e5.trans e8).trans e9).mut nlo, acc3 ++ [.ref z], _, upd_same, ?_, rfl⟩
              rw [List.range_succ, List.filter_append, List.filter_cons, if_pos (decide_eq_true hlast), List.map_append, ← List.append_assoc]
              refine Paired.cat (Paired.imp pacc3 fun _ _ h => LF.mut (LF.ex (e8.trans e9) h)) (.cons ⟨z, rfl, Evl.fresh_back ((ex.trans e5).trans e8) nz, (ne_of_none (e8 _ _ hacc3) nz).symm, ?_⟩ .nil)
              show upd _ _ _ _ = _
              rw [upd_ne (ne_of_none (e8 _ _ hacc3) nz).symm, List.map_append]
              rw [h9, e0]
              rfl
            · refine ⟨e5, acc3, _, hacc3, ?_, rfl⟩
              rw [List.range_succ, List.filter_append, List.filter_cons, if_neg (by rw [decide_eq_false (by omega)]; exact Bool.false_ne_true)]
              simpa using pacc3
        · rintro σ3 H3 ⟨e5, acc3, u6, hacc3, pacc3, rfl⟩
          rw [Int.toNat_natCast] at pacc3
          refine ⟨e5, acc3, _, _, hacc3, ?_, rfl⟩
          rw [flat_snoc]
          exact pacc3
      · rintro σ2 H2 ⟨e4, acc, w5, w6, hacc, pacc, rfl⟩
        exact ⟨_, rfl, ex.trans e4, lo, acc, _, _, _, _, Evl.fresh_back ex nlo, hacc, Paired.imp pacc fun _ _ => LF.ln, rfl⟩
    · rintro σ' H' ⟨ex, fo, xs, v3, v4, v5, v6, nfo, hfo, pxs, rfl⟩
      rw [Int.toNat_natCast] at pxs
      exact ⟨_, rfl, q fo H' xs nfo ex hfo pxs⟩
end
/-- refuses what is no row with opened links -/
def sp_asked_row (CR CO : Addr) : Sp := fun vs H Q E => ∃ (links : Int) (p : Addr) (ns : List Int), vs = [.int links, .ref p] ∧ Ints H p ns ∧
  (RowOk links → OpenOk links ns → Q .non H) ∧ (¬ RowOk links → E (.ref CR) none H) ∧ (RowOk links → ¬ OpenOk links ns → E (.ref CO) none H)
section
variable {P : Program} {w : World} {K : PySem.W.Frag} {mg : Str → Option Value} {base : Heap}
theorem ok_asked_row {f : Addr} {fd : FuncData} (F : Fun K "asked_row" "asked_row" s_asked_row f fd) (T : Bl mg) (X_NoRow : Exo K mg "NoRow") (X_NoOpened : Exo K mg "NoOpened") {tMOST_OPENED : Tok} (hMOST_OPENED : mg "MOST_OPENED" = some (.int 100 tMOST_OPENED)) (C_asked_links : Cal P w K mg base 1 "asked_links" ["links"] (sp_asked_links X_NoRow.C)) : FnOk P w K mg base (L2.CX P w) 2 f fd ["links", "opened"] (sp_asked_row X_NoRow.C X_NoOpened.C) := by
  refine F.okX sc_asked_row (fun vs H Q E h => ?_) (fun cdv A outer s H vs Q E hr h => ?_)
  · obtain ⟨links, p, ns, rfl, _⟩ := h
    rfl
  · obtain ⟨links, p, ns, rfl, hp, q, e1, e2⟩ := h
    have hu := hu_of hr
    refine ⟨_, (pss_cons (ps_expr (pe_call C_asked_links.ok (hr.mono (by decide)) (by rfl) C_asked_links.gl C_asked_links.kp C_asked_links.bd .nil (passes_call (takes_of rfl rfl rfl rfl) (fun _ _ _ _ h => h)) (pa_cons (pv 0) pa_nil)))
      (pss_cons (ps_if (pt_cmpR op_gt (pe_callB call_len_seq (by rfl) T.b_len (by decide +kernel) (pa_cons (pv 1) pa_nil)) (pe_glob (v := .int 100) rfl hMOST_OPENED ⟨_, rfl⟩) (nomark _))
      (pss_one (ps_raise rfl (takes_of rfl rfl rfl rfl) (X_NoOpened.mk' (by rfl)))) pss_nil)
      (pss_cons (ps_set (i := 2) sc_asked_row.nd rfl (.inl rfl) (pe_un un_neg pe_int))
      (pss_one (ps_for (passes_of rfl) rfl (pi_list (pv 1)) (pg_name (i := 3) sc_asked_row.nd rfl (.inl rfl))
      (pss_cons (ps_if (pt_not (pt_chain op_lt op_lt (pv 2) (pv 3) (pv 0)))
      (pss_one (ps_raise rfl (takes_of rfl rfl rfl rfl) (X_NoOpened.mk' (by rfl)))) pss_nil)
      (pss_one (ps_set (i := 2) sc_asked_row.nd rfl (.inl rfl) (pv 3))))))))), ?_⟩
    refine ⟨_, rfl, links, rfl, fun hl => ?_, fun hl => e1 hl⟩
    refine ⟨_, rfl, p, _, rfl, .inl hp.sq, _, _, rfl, rfl, _, rfl, ?_⟩
    rw [List.length_map]
    refine iteD (fun h1 => e2 hl (fun z => ?_)) (fun h1 => ?_)
    · have := z.1
      omega
    · refine ⟨_, rfl, _, rfl, p, rfl, ⟨_, hp.sq⟩, ?_⟩
      refine for_pre (isI ns) (fun pre σ' H' => H' = H ∧ Rising links (-1) pre ∧ ∃ v, σ' = [some (.int links), some (.ref p), some (.int (lastOr (-1) pre)), v]) ⟨rfl, trivial, none, rfl⟩ (fun pre σ' H' ⟨a, _, _⟩ => (hp.ex (ex_refl' a)).sq) ?_ ?_
      · rintro pre y post x σ' H' e rfl ⟨rfl, hr2, v, rfl⟩
        have hall : Rising links (-1) ns ↔ Rising links (-1) pre ∧ lastOr (-1) pre < y ∧ y < links ∧ Rising links y post := by
          rw [e]
          exact rising_snoc
        refine ⟨_, rfl, _, rfl, _, _, rfl, rfl, _, rfl, ?_⟩
        refine iteD (fun h2 => ?_) (fun h2 => ?_)
        · refine ⟨_, rfl, _, _, rfl, rfl, _, rfl, ?_⟩
          refine iteN (fun h3 => ?_) (fun h3 => ?_)
          · refine ⟨_, rfl, rfl, ?_, some (.int y), ?_⟩
            · rw [rising_snoc]
              exact ⟨hr2, h2, h3, trivial⟩
            · rw [lastOr_snoc]
              rfl
          · exact e2 hl fun z => h3 (hall.mp z.2).2.2.1
        · exact ⟨_, rfl, iteT (e2 hl fun z => h2 (hall.mp z.2).2.1)⟩
      · rintro σ' H' ⟨rfl, hr2, v, rfl⟩
        exact q hl ⟨by omega, hr2⟩
end
def sp_pieces_of : Sp := fun vs H Q _ => ∃ (links : Int) (p : Addr) (ns : List Int), vs = [.int links, .ref p] ∧ Ints H p ns ∧ ns.length ≤ 1000 ∧
  ∀ o H', H o = none → Ex H H' → Prs H' o (pcs links ns) → Q (.ref o) H'
section
variable {P : Program} {w : World} {K : PySem.W.Frag} {mg : Str → Option Value} {base : Heap}
theorem ok_pieces_of {f : Addr} {fd : FuncData} (F : Fun K "pieces_of" "pieces_of" s_pieces_of f fd) (T : Bl mg) : FnOk P w K mg base (L2.CX P w) 1 f fd ["links", "opened"] (sp_pieces_of ) := by
  refine F.okX sc_pieces_of (fun vs H Q E h => ?_) (fun cdv A outer s H vs Q E hr h => ?_)
  · obtain ⟨links, p, ns, rfl, _⟩ := h
    rfl
  · obtain ⟨links, p, ns, rfl, hp, hn, q⟩ := h
    have hu := hu_of hr
    refine ⟨_, (pss_cons (ps_set (i := 2) sc_pieces_of.nd rfl (.inl rfl) (pe_lst pa_nil))
      (pss_cons (ps_set (i := 3) sc_pieces_of.nd rfl (.inl rfl) pe_int)
      (pss_cons (ps_for (passes_of rfl) rfl (pi_list (pv 1)) (pg_name (i := 4) sc_pieces_of.nd rfl (.inl rfl))
      (Evl.pss_cut (ps_if (pt_cmpR op_gt (pv 4) (pv 3) (nomark _))
      (pss_one (ps_expr (pe_bm PySem.F.plainAttrs_list PySem.F.slot_list_append PySem.F.type_list_append mt_append (pv 2) (pa_cons (pe_tup (pa_cons (pv 3) (pa_cons (pe_op op_sub (pv 4) (pv 3)) pa_nil))) pa_nil)))) pss_nil)
      (pss_cons (ps_expr (pe_bm PySem.F.plainAttrs_list PySem.F.slot_list_append PySem.F.type_list_append mt_append (pv 2) (pa_cons (pe_tup (pa_cons (pv 4) (pa_cons pe_int pa_nil))) pa_nil)))
      (pss_one (ps_set (i := 3) sc_pieces_of.nd rfl (.inl rfl) (pe_op op_add (pv 4) pe_int))))))
      (Evl.pss_cut (ps_if (pt_cmpR op_gt (pv 0) (pv 3) (nomark _))
      (pss_one (ps_expr (pe_bm PySem.F.plainAttrs_list PySem.F.slot_list_append PySem.F.type_list_append mt_append (pv 2) (pa_cons (pe_tup (pa_cons (pv 3) (pa_cons (pe_op op_sub (pv 0) (pv 3)) pa_nil))) pa_nil)))) pss_nil)
      (pss_one (ps_ret (pv 2))))))), ?_⟩
    refine ⟨Nat.zero_le _, fun o no => ?_⟩
    have hpo : p ≠ o := ne_of_none hp no
    refine ⟨_, rfl, p, rfl, ⟨_, (hp.ex (Evl.Ex.new no)).sq⟩, ?_⟩
    refine for_pre (isI ns) (fun pre σ' H' => Ex H H' ∧ Prs H' o (pre.foldl pcStep (0, [])).2 ∧ ∃ v, σ' = [some (.int links), some (.ref p), some (.ref o), some (.int (pre.foldl pcStep (0, [])).1), v]) ?_ (fun pre σ' H' ⟨a, _, _⟩ => (hp.ex a).sq) ?_ ?_
    · exact ⟨Evl.Ex.new no, ⟨[], upd_same, .nil⟩, none, rfl⟩
    · rintro pre y post x σ' H' e rfl ⟨ex, ⟨xs, hx, px⟩, v, rfl⟩
      have hlen : xs.length ≤ 2 * ns.length := by
        have h1 := pcFold_len pre (0, [])
        rw [Paired.len px]
        have h2 : pre.length ≤ ns.length := by
          rw [e]
          simp
        simp at h1
        omega
      have ef : (pre ++ [y]).foldl pcStep (0, []) = pcStep (pre.foldl pcStep (0, [])) y := by rw [List.foldl_append]; rfl
      generalize hs : pre.foldl pcStep (0, []) = s at *
      obtain ⟨b, acc⟩ := s
      refine ⟨fun σ2 H2 => σ2 = [some (.int links), some (.ref p), some (.ref o), some (.int b), some (.int y)] ∧ Ex H H2 ∧ Prs H2 o (acc ++ (if b < y then [(b, y - b)] else [])), ?_, ?_⟩
      · refine ⟨_, rfl, _, rfl, _, _, rfl, rfl, _, rfl, ?_⟩
        refine iteD (fun hb => ?_) (fun hb => ?_)
        · refine ⟨_, rfl, .inl ⟨rfl, _, .inl (.inl hx)⟩, _, rfl, _, rfl, _, rfl, _, _, rfl, rfl, le2, fun t nt => ?_⟩
          obtain ⟨e2, ht⟩ := nw nt (.tup [.int b, .int (y - b)])
          refine ⟨o, xs, _, rfl, rfl, e2 _ _ hx, sz_small (by omega), ?_⟩
          refine ⟨rfl, (ex.trans e2).mut no, ?_⟩
          rw [if_pos hb]
          exact ⟨_, upd_same, Paired.cat (Paired.imp px fun _ _ h => RP.mut (e2 _ _ hx) (RP.ex e2 h)) (.cons (RP.mut (e2 _ _ hx) ⟨t, rfl, ht⟩) .nil)⟩
        · refine ⟨rfl, ex, ?_⟩
          rw [if_neg hb, List.append_nil]
          exact ⟨xs, hx, px⟩
      · rintro σ2 H2 ⟨rfl, e2, xs2, hx2, px2⟩
        refine ⟨_, rfl, .inl ⟨rfl, _, .inl (.inl hx2)⟩, _, rfl, le2, fun t nt => ?_⟩
        obtain ⟨e3, ht⟩ := nw nt (.tup [.int y, .int 1])
        have hl2 : xs2.length ≤ 2 * ns.length + 1 := by
          rw [Paired.len px2, List.length_append, ← Paired.len px]
          split <;> simp <;> omega
        refine ⟨o, xs2, _, rfl, rfl, e3 _ _ hx2, sz_small (by omega), ?_⟩
        refine ⟨_, rfl, _, _, rfl, rfl, ?_⟩
        rw [ef]
        refine ⟨(e2.trans e3).mut no, ⟨_, upd_same, ?_⟩, some (.int y), rfl⟩
        show Paired _ _ (acc ++ ((if b < y then [(b, y - b)] else []) ++ [(y, 1)]))
        rw [← List.append_assoc]
        exact Paired.cat (Paired.imp px2 fun _ _ h => RP.mut (e3 _ _ hx2) (RP.ex e3 h)) (.cons (RP.mut (e3 _ _ hx2) ⟨t, rfl, ht⟩) .nil)
    · rintro σ' H' ⟨ex, ⟨xs, hx, px⟩, v, rfl⟩
      have hlen : xs.length ≤ 2 * ns.length := by
        have h1 := pcFold_len ns (0, [])
        rw [Paired.len px]
        simp at h1
        omega
      have hq : ∀ H2, Ex H H2 → Prs H2 o (pcEnd links (ns.foldl pcStep (0, []))) → Q (.ref o) H2 := fun H2 e2 h2 => q o H2 no e2 h2
      generalize hs : ns.foldl pcStep (0, []) = s at *
      obtain ⟨b, acc⟩ := s
      refine ⟨fun σ2 H2 => σ2 = [some (.int links), some (.ref p), some (.ref o), some (.int b), v] ∧ Ex H H2 ∧ Prs H2 o (pcEnd links (b, acc)), ?_, ?_⟩
      · refine ⟨_, rfl, _, rfl, _, _, rfl, rfl, _, rfl, ?_⟩
        refine iteD (fun hb => ?_) (fun hb => ?_)
        · refine ⟨_, rfl, .inl ⟨rfl, _, .inl (.inl hx)⟩, _, rfl, _, rfl, _, rfl, _, _, rfl, rfl, le2, fun t nt => ?_⟩
          obtain ⟨e2, ht⟩ := nw nt (.tup [.int b, .int (links - b)])
          refine ⟨o, xs, _, rfl, rfl, e2 _ _ hx, sz_small (by omega), ?_⟩
          refine ⟨rfl, (ex.trans e2).mut no, ?_⟩
          unfold pcEnd
          rw [if_pos hb]
          exact ⟨_, upd_same, Paired.cat (Paired.imp px fun _ _ h => RP.mut (e2 _ _ hx) (RP.ex e2 h)) (.cons (RP.mut (e2 _ _ hx) ⟨t, rfl, ht⟩) .nil)⟩
        · refine ⟨rfl, ex, ?_⟩
          unfold pcEnd
          rw [if_neg hb, List.append_nil]
          exact ⟨xs, hx, px⟩
      · rintro σ2 H2 ⟨rfl, e2, h2⟩
        exact ⟨_, rfl, hq H2 e2 h2⟩
end
def sp_gap_of : Sp := fun vs H Q _ => ∃ (links : Int) (p : Addr) (ns : List Int), vs = [.int links, .ref p] ∧ Ints H p ns ∧ ns.length ≤ 1000 ∧ ∀ H', Ex H H' → Q (optV (gapO links ns)) H'
section
variable {P : Program} {w : World} {K : PySem.W.Frag} {mg : Str → Option Value} {base : Heap}
theorem ok_gap_of {f : Addr} {fd : FuncData} (F : Fun K "gap_of" "gap_of" s_gap_of f fd) (T : Bl mg) (C_pieces_of : Cal P w K mg base 1 "pieces_of" ["links", "opened"] (sp_pieces_of )) : FnOk P w K mg base (L2.CX P w) 2 f fd ["links", "opened"] (sp_gap_of ) := by
  refine F.okX sc_gap_of (fun vs H Q E h => ?_) (fun cdv A outer s H vs Q E hr h => ?_)
  · obtain ⟨links, p, ns, rfl, _⟩ := h
    rfl
  · obtain ⟨links, p, ns, rfl, hp, hn, q⟩ := h
    have hu := hu_of hr
    refine ⟨_, (pss_cons (ps_set (i := 2) sc_gap_of.nd rfl (.inl rfl) pe_int)
      (pss_cons (ps_for (passes_of rfl) rfl (pi_list (pe_callB cr_sortedI (by rfl) T.b_sorted (by decide +kernel) (pa_cons (pe_lc (own := [("piece", 4)]) rfl sc_gap_of.nd (pi_list (pe_call C_pieces_of.ok (hr.mono (by decide)) (by rfl) C_pieces_of.gl C_pieces_of.kp C_pieces_of.bd .nil (passes_call (takes_of rfl rfl rfl rfl) (fun _ _ _ _ h => h)) (pa_cons (pv 0) (pa_cons (pv 1) pa_nil)))) (blkOk_by (N := ["links", "opened", "reach", "size", "piece"]) (sc := defScope s_gap_of) (by decide +kernel)) (fun _ _ _ _ _ => (pg_name (i := 4) sc_gap_of.nd rfl (.inl rfl))) (fun _ _ _ _ _ => pts_nil) (fun _ _ _ _ _ => (pe_ix (ix_tupK K rfl) (pv 4) pe_int (fun _ _ => rfl)))) pa_nil))) (pg_name (i := 3) sc_gap_of.nd rfl (.inl rfl))
      (pss_cons (ps_if (pt_cmpR op_gt (pv 3) (pe_op op_add (pv 2) pe_int) (nomark _))
      (pss_one (ps_ret (pe_op op_add (pv 2) pe_int))) pss_nil)
      (pss_one (ps_set (i := 2) sc_gap_of.nd rfl (.inl rfl) (pe_op op_add (pv 2) (pv 3))))))
      (pss_one (ps_ret pe_non)))), ?_⟩
    refine ⟨_, rfl, _, rfl, links, p, ns, rfl, hp, hn, fun o H1 no e1 hpr => ?_⟩
    obtain ⟨xs, hx, px⟩ := hpr
    have hxl := pcs_len links ns
    refine ⟨o, rfl, ⟨xs, .inl (.inl hx)⟩, fun D nD => lc_int nD px (.inl (.inl hx)) (sz_small (by rw [Paired.len px]; omega)) (fun _ => true) (·.2) ?_ ?_⟩
    · rintro y x H2 hy ⟨pa, rfl, hpa⟩ e2 Y Z hY hZ
      exact ⟨rfl, _, rfl, pa, _, 1, _, rfl, rfl, .inl (.inl (e2 _ _ hpa)), rfl, hY rfl _ (Evl.Ex.refl _)⟩
    · intro H2 hD e2
      rw [List.filter_eq_self.mpr (fun _ _ => rfl)] at hD
      refine ⟨D, szs links ns, rfl, hD.sq, fun sr p2 perm up np2 => ?_⟩
      obtain rfl := srt_of perm up
      obtain ⟨e3, h3⟩ := nw np2 (.lst ((srt (szs links ns)).map V.int))
      refine ⟨p2, rfl, ⟨_, .inl (.inl h3)⟩, ?_⟩
      refine for_pre (isI (srt (szs links ns))) (fun pre σ' H' => H' = upd H2 p2 (.lst ((srt (szs links ns)).map V.int)) ∧ (∀ post, srt (szs links ns) = pre ++ post → gapO links ns = gapL pre.sum post) ∧ ∃ v v2, σ' = [some (.int links), some (.ref p), some (.int pre.sum), v, v2]) ⟨rfl, fun post e => by rw [List.nil_append] at e; unfold gapO; rw [← e]; rfl, none, none, rfl⟩ (fun pre σ' H' ⟨z, _⟩ => .inl (.inl (z ▸ h3))) ?_ ?_
      · rintro pre y post x σ' H' e rfl ⟨rfl, hg, v, v2, rfl⟩
        have hg2 := hg _ e
        refine ⟨_, rfl, _, rfl, _, _, rfl, rfl, _, _, rfl, rfl, _, rfl, ?_⟩
        refine iteD (fun h => ?_) (fun h => ?_)
        · refine ⟨_, rfl, _, _, rfl, rfl, ?_⟩
          unfold gapL at hg2
          rw [if_pos (by omega)] at hg2
          rw [hg2] at q
          exact q _ ((e1.trans e2).trans e3)
        · refine ⟨_, rfl, _, rfl, _, _, rfl, rfl, rfl, fun post2 e4 => ?_, some (.int y), v2, ?_⟩
          · rw [e, List.append_assoc] at e4
            have e5 : y :: post = [y] ++ post2 := List.append_cancel_left e4
            have e6 : post = post2 := by simpa using e5
            unfold gapL at hg2
            rw [if_neg (by omega)] at hg2
            rw [hg2, e6, List.sum_append]
            simp
          · rw [List.sum_append]
            simp
      · rintro σ' H' ⟨rfl, hg, v, v2, rfl⟩
        have hg2 := hg [] (by simp)
        rw [hg2] at q
        exact q _ ((e1.trans e2).trans e3)
end
def sp_gap (CR CO : Addr) : Sp := fun vs H Q E => ∃ (links : Int) (p : Addr) (ns : List Int), vs = [.int links, .ref p] ∧ Ints H p ns ∧
  (RowOk links → OpenOk links ns → ∀ H', Ex H H' → Q (optV (gapO links ns)) H') ∧ (¬ RowOk links → E (.ref CR) none H) ∧ (RowOk links → ¬ OpenOk links ns → E (.ref CO) none H)
section
variable {P : Program} {w : World} {K : PySem.W.Frag} {mg : Str → Option Value} {base : Heap}
theorem ok_gap {f : Addr} {fd : FuncData} (F : Fun K "gap" "gap" s_gap f fd) (T : Bl mg) (X_NoRow : Exo K mg "NoRow") (X_NoOpened : Exo K mg "NoOpened") (C_asked_row : Cal P w K mg base 2 "asked_row" ["links", "opened"] (sp_asked_row X_NoRow.C X_NoOpened.C)) (C_gap_of : Cal P w K mg base 2 "gap_of" ["links", "opened"] (sp_gap_of )) : FnOk P w K mg base (L2.CX P w) 3 f fd ["links", "opened"] (sp_gap X_NoRow.C X_NoOpened.C) := by
  refine F.okX sc_gap (fun vs H Q E h => ?_) (fun cdv A outer s H vs Q E hr h => ?_)
  · obtain ⟨links, p, ns, rfl, _⟩ := h
    rfl
  · obtain ⟨links, p, ns, rfl, hp, q, e1, e2⟩ := h
    have hu := hu_of hr
    refine ⟨_, (pss_cons (ps_expr (pe_call C_asked_row.ok (hr.mono (by decide)) (by rfl) C_asked_row.gl C_asked_row.kp C_asked_row.bd .nil (passes_call (takes_of rfl rfl rfl rfl) (fun _ _ _ _ h => h)) (pa_cons (pv 0) (pa_cons (pv 1) pa_nil))))
      (pss_one (ps_ret (pe_call C_gap_of.ok (hr.mono (by decide)) (by rfl) C_gap_of.gl C_gap_of.kp C_gap_of.bd .nil (passes_call (takes_of rfl rfl rfl rfl) (fun _ _ _ _ h => h)) (pa_cons (pv 0) (pa_cons (pv 1) pa_nil)))))), ?_⟩
    refine ⟨_, rfl, _, rfl, links, p, ns, rfl, hp, fun h1 h2 => ?_, e1, e2⟩
    exact ⟨_, rfl, _, rfl, links, p, ns, rfl, hp, by have := h2.1; omega, q h1 h2⟩
end
def sp_lists_of : Sp := fun vs H Q _ => ∃ (links n : Nat), vs = [.int (links : Int), .int (n : Int)] ∧ links ≤ 23 ∧ n ≤ 2 ∧ ∀ r H' xs, H r = none → Ex H H' → H' r = some (.lst xs) → Paired (LN H H') xs (listsL links n) → Q (.ref r) H'
section
variable {P : Program} {w : World} {K : PySem.W.Frag} {mg : Str → Option Value} {base : Heap}
theorem ok_lists_of {f : Addr} {fd : FuncData} (F : Fun K "lists_of" "lists_of" s_lists_of f fd) (T : Bl mg) : FnOk P w K mg base (L2.CX P w) 1 f fd ["links", "openings"] (sp_lists_of ) := by
  refine F.okX sc_lists_of (fun vs H Q E h => ?_) (fun cdv A outer s H vs Q E hr h => ?_)
  · obtain ⟨links, n, rfl, _⟩ := h
    rfl
  · obtain ⟨links, n, rfl, hl, hn, q⟩ := h
    have hu := hu_of hr
    refine ⟨_, (pss_cons (ps_set (i := 2) sc_lists_of.nd rfl (.inl rfl) (pe_lst (pa_cons (pe_lst pa_nil) pa_nil)))
      (pss_cons (ps_for (passes_of rfl) rfl (pi_range1 rfl T.b_range (pa_cons (pv 1) pa_nil)) (pg_name (i := 3) sc_lists_of.nd rfl (.inl rfl))
      (pss_cons (ps_set (i := 4) sc_lists_of.nd rfl (.inl rfl) (pe_lst pa_nil))
      (pss_cons (ps_for (passes_of rfl) rfl (pi_list (pv 2)) (pg_name (i := 5) sc_lists_of.nd rfl (.inr rfl))
      (pss_one (ps_expr (pe_bm PySem.F.plainAttrs_list PySem.F.slot_list_extend PySem.F.type_list_extend mt_extend (pv 4) (pa_cons (pe_lc (own := [("link", 6)]) rfl sc_lists_of.nd (pi_range2 rfl T.b_range (pa_cons (pe_op op_add (pe_callB (cr_max rfl) (by rfl) T.b_max (by decide +kernel) (pa_cons (pe_op op_cat (pv 5) (pe_lst (pa_cons (pe_un un_neg pe_int) pa_nil))) pa_nil)) pe_int) (pa_cons (pv 0) pa_nil))) (blkOk_by (N := ["links", "openings", "found", "k", "longer", "some", "link"]) (sc := defScope s_lists_of) (by decide +kernel)) (fun _ _ _ _ _ => (pg_name (i := 6) sc_lists_of.nd rfl (.inl rfl))) (fun _ _ _ _ _ => pts_nil) (fun _ _ _ _ _ => (pe_op op_cat (pv 5) (pe_lst (pa_cons (pv 6) pa_nil))))) pa_nil)))))
      (pss_one (ps_set (i := 2) sc_lists_of.nd rfl (.inl rfl) (pv 4))))))
      (pss_one (ps_ret (pv 2))))), ?_⟩
    refine ⟨Nat.zero_le _, fun b nb => ?_⟩
    obtain ⟨e1, hb⟩ := nw nb (.lst [])
    refine ⟨le1, fun c nc => ?_⟩
    obtain ⟨e2, hc⟩ := nw nc (.lst [.ref b])
    refine ⟨_, rfl, _, rfl, by omega, by omega, ?_⟩
    refine for_range (lo := 0) (fun k σ' H' => Ex H H' ∧ ∃ fo xs v3 v4 v5 v6, H fo = none ∧ H' fo = some (.lst xs) ∧ Paired (LN H H') xs (listsL links k) ∧ σ' = [some (.int (links : Int)), some (.int (n : Int)), some (.ref fo), v3, v4, v5, v6]) ?_ ?_ ?_
    · exact ⟨e1.trans e2, c, _, none, none, none, none, Evl.fresh_back e1 nc, hc, .cons ⟨b, rfl, nb, e2 _ _ hb⟩ .nil, rfl⟩
    · rintro k σ' H' hk ⟨ex, fo, xs, v3, v4, v5, v6, nfo, hfo, pxs, rfl⟩
      have hk2 : k + 1 ≤ 2 := by omega
      refine ⟨Nat.zero_le _, fun lo nlo => ?_⟩
      obtain ⟨e3, hlo⟩ := nw nlo (.lst [])
      have hfl : fo ≠ lo := ne_of_none hfo nlo
      refine ⟨_, rfl, fo, rfl, ⟨_, .inl (.inl (e3 _ _ hfo))⟩, ?_⟩
      refine for_pre pxs (fun pre σ2 H2 => Ex H' H2 ∧ ∃ acc v5 v6, H2 lo = some (.lst acc) ∧ Paired (LF H lo H2) acc (pre.flatMap (extL links)) ∧ σ2 = [some (.int (links : Int)), some (.int (n : Int)), some (.ref fo), some (.int (0 + (k : Int))), some (.ref lo), v5, v6]) ?_ (fun pre σ2 H2 ⟨e, _⟩ => .inl (.inl (e _ _ hfo))) ?_ ?_
      · exact ⟨e3, [], v5, v6, hlo, .nil, rfl⟩
      · rintro pre y post x σ2 H2 ey ⟨p, rfl, np, hp⟩ ⟨e4, acc, w5, w6, hacc, pacc, rfl⟩
        have hym : y ∈ listsL links k := by rw [ey]; simp
        obtain ⟨hri, hyl⟩ := lists_good links k y hym
        have hp2 := hp.ex e4
        have hge := last_ge hri
        have hmax := last_max hri
        obtain ⟨A, hA⟩ : ∃ A : Nat, lastOr (-1) y + 1 = (A : Int) := ⟨(lastOr (-1) y + 1).toNat, by omega⟩
        have hlt : lastOr (-1) y < (links : Int) := by
          cases y with
          | nil => show (-1 : Int) < _; omega
          | cons a r => exact ((rising_up hri).2 _ (hmax.2 (by simp))).2
        have hext := ext_from (links := links) (os := y) hA
        have hflat := flat_small hl hk2 ey
        have hacl : acc.length ≤ 529 := by
          rw [Paired.len pacc]
          omega
        refine ⟨_, rfl, .inl ⟨rfl, _, .inl (.inl hacc)⟩, ?_⟩
        refine ⟨_, rfl, _, rfl, le1, fun s1 n1 => ?_⟩
        obtain ⟨e5, h5⟩ := nw n1 (.lst [.int (-1)])
        refine ⟨p, s1, _, _, rfl, rfl, e5 _ _ hp2, h5, Nat.le_of_lt (sz_small (by rw [List.length_map]; show y.length + 1 ≤ _; omega)), fun s2 n2 => ?_⟩
        have hsp : (y.map V.int ++ [V.int (-1)]) = (y ++ [-1]).map V.int := by rw [List.map_append]; rfl
        rw [hsp]
        obtain ⟨e6, h6⟩ := nw n2 (.lst ((y ++ [-1]).map V.int))
        refine ⟨s2, y ++ [-1], rfl, Ints.sq h6, by rw [List.length_append]; show 0 < y.length + 1; omega, fun m hm1 hm2 => ?_⟩
        have hm : m = lastOr (-1) y := by
          have a1 : lastOr (-1) y ≤ m := by
            cases y with
            | nil => exact hm2 (-1) (by simp)
            | cons a r => exact hm2 _ (List.mem_append_left _ (hmax.2 (by simp)))
          have a2 : m ≤ lastOr (-1) y := by
            rcases List.mem_append.mp hm1 with z | z
            · exact hmax.1 m z
            · rw [List.mem_singleton.mp z]
              exact hge
          omega
        have e56 := e5.trans e6
        refine ⟨_, _, rfl, rfl, _, rfl, m + 1, (links : Int), rfl, ⟨by omega, by omega, by omega, by omega⟩, ?_⟩
        rw [hm, hA]
        refine fun D nD => ?_
        have hp3 := hp2.ex e56
        have hlo3 := e56 _ _ hacc
        refine lc_walk (n := ((links : Int) - (A : Int)).toNat) (Stay := fun H1 => Ints H1 p y) (R := fun i x _ => x = .int ((A : Int) + (i : Int))) (R' := fun H1 v os => LF H lo H1 v os) nD (fun _ _ h e => h.ex e) hp3 (fun _ _ h _ => h) (fun _ _ => Nat.le_refl _) (fun i H1 x H2 _ _ ⟨z1, z2⟩ => ⟨ex_refl' z1, z2⟩) (sz_small (by omega)) (fun _ _ _ _ e h => LF.ex e h) (fun _ => true) (fun (i : Nat) => y ++ [(A : Int) + (i : Int)]) ?_ ?_
        · rintro i x H4 acc3 hi rfl ed hD Y Z hY hZ
          have e7 := ed.trans (del_le _ _)
          refine ⟨rfl, _, rfl, _, rfl, le1, fun t1 m1 => ?_⟩
          obtain ⟨e8, h8⟩ := nw m1 (.lst [.int ((A : Int) + (i : Int))])
          refine ⟨p, t1, _, _, rfl, rfl, (hp3.ex e7).ex e8, h8, Nat.le_of_lt (sz_small (by rw [List.length_map]; show y.length + 1 ≤ _; omega)), fun z nz => ?_⟩
          obtain ⟨e9, h9⟩ := nw nz (.lst (y.map V.int ++ [.int ((A : Int) + (i : Int))]))
          refine hY rfl _ _ (e8.trans e9) ⟨z, rfl, Evl.fresh_back ((((ex.trans e4).trans e56).trans e7).trans e8) nz, (ne_of_none (e8 _ _ (e7 _ _ hlo3)) nz).symm, ?_⟩
          show del _ _ _ = _
          rw [del_ne (Ne.symm (ne_of_none (e8 _ _ hD) nz)), List.map_append]
          exact h9
        · intro H4 acc2 hD ed pacc2
          have e7 := ed.trans (del_le _ _)
          rw [List.filter_eq_self.mpr (fun _ _ => rfl), show ((links : Int) - (A : Int)).toNat = links - A by omega, ← hext] at pacc2
          have pacc4 : Paired (LF H lo H4) acc2 (extL links y) := Paired.imp pacc2 fun _ _ => LF.ex (del_le _ _)
          refine ⟨lo, D, acc, acc2, rfl, rfl, e7 _ _ hlo3, hD, ?_, ?_⟩
          · rw [Paired.len pacc, Paired.len pacc4]
            exact Nat.le_of_lt (sz_small (by omega))
          · refine ⟨((e4.trans e56).trans e7).mut nlo, acc ++ acc2, _, _, upd_same, ?_, rfl⟩
            rw [flat_snoc]
            exact Paired.cat (Paired.imp pacc fun _ _ h => LF.mut (LF.ex (e56.trans e7) h)) (Paired.imp pacc4 fun _ _ => LF.mut)
      · rintro σ2 H2 ⟨e4, acc, w5, w6, hacc, pacc, rfl⟩
        exact ⟨_, rfl, ex.trans e4, lo, acc, _, _, _, _, Evl.fresh_back ex nlo, hacc, Paired.imp pacc fun _ _ => LF.ln, rfl⟩
    · rintro σ' H' ⟨ex, fo, xs, v3, v4, v5, v6, nfo, hfo, pxs, rfl⟩
      rw [Int.toNat_natCast] at pxs
      exact ⟨_, rfl, q fo H' xs nfo ex hfo pxs⟩
end
def sp_all_full (CR CC : Addr) : Sp := fun vs H Q E => ∃ links : Nat, vs = [.int (links : Int)] ∧ 1 ≤ links ∧ links ≤ 23 ∧ ∀ r H' xs, H r = none → Ex H H' → H' r = some (.lst xs) → Paired (LN H H') xs (fullL links (need links)) → Q (.ref r) H'
section
variable {P : Program} {w : World} {K : PySem.W.Frag} {mg : Str → Option Value} {base : Heap}
theorem ok_all_full {f : Addr} {fd : FuncData} (F : Fun K "all_full" "all_full" s_all_full f fd) (T : Bl mg) (X_NoRow : Exo K mg "NoRow") (X_NoCount : Exo K mg "NoCount") {tMOST_LISTED : Tok} (hMOST_LISTED : mg "MOST_LISTED" = some (.int 23 tMOST_LISTED)) (C_fewest : Cal P w K mg base 2 "fewest" ["links"] (sp_fewest X_NoRow.C)) (C_gap_of : Cal P w K mg base 2 "gap_of" ["links", "opened"] (sp_gap_of )) (C_lists_of : Cal P w K mg base 1 "lists_of" ["links", "openings"] (sp_lists_of )) : FnOk P w K mg base (L2.CX P w) 3 f fd ["links"] (sp_all_full X_NoRow.C X_NoCount.C) := by
  refine F.okX sc_all_full (fun vs H Q E h => ?_) (fun cdv A outer s H vs Q E hr h => ?_)
  · obtain ⟨links, rfl, _⟩ := h
    rfl
  · obtain ⟨links, rfl, h1, h2, q⟩ := h
    have hu := hu_of hr
    refine ⟨_, (pss_cons (ps_set (i := 1) sc_all_full.nd rfl (.inl rfl) (pe_call C_fewest.ok (hr.mono (by decide)) (by rfl) C_fewest.gl C_fewest.kp C_fewest.bd .nil (passes_call (takes_of rfl rfl rfl rfl) (fun _ _ _ _ h => h)) (pa_cons (pv 0) pa_nil)))
      (pss_cons (ps_if (pt_cmpR op_gt (pv 0) (pe_glob (v := .int 23) rfl hMOST_LISTED ⟨_, rfl⟩) (nomark _))
      (pss_one (ps_raise rfl (takes_of rfl rfl rfl rfl) (X_NoCount.mk' (by rfl)))) pss_nil)
      (pss_one (ps_ret (pe_lc (own := [("some", 2)]) rfl sc_all_full.nd (pi_list (pe_call C_lists_of.ok (hr.mono (by decide)) (by rfl) C_lists_of.gl C_lists_of.kp C_lists_of.bd .nil (passes_call (takes_of rfl rfl rfl rfl) (fun _ _ _ _ h => h)) (pa_cons (pv 0) (pa_cons (pv 1) pa_nil)))) (blkOk_by (N := ["links", "openings", "some"]) (sc := defScope s_all_full) (by decide +kernel)) (fun _ _ _ _ _ => (pg_name (i := 2) sc_all_full.nd rfl (.inl rfl))) (fun _ _ _ _ _ => (pts_one (pt_cmpR op_isN (pe_call C_gap_of.ok (hr.mono (by decide)) (by rfl) C_gap_of.gl C_gap_of.kp C_gap_of.bd .nil passL (pa_cons (pv 0) (pa_cons (pv 2) pa_nil))) pe_non (nomark _)))) (fun _ _ _ _ _ => (pv 2))))))), ?_⟩
    have hr1 : RowOk (links : Int) := ⟨by omega, by omega⟩
    refine ⟨_, rfl, (links : Int), rfl, fun _ n hf => ?_, fun z => absurd hr1 z⟩
    obtain rfl := hf.one (need_fewest h1 h2)
    refine ⟨_, rfl, _, _, rfl, rfl, _, rfl, ?_⟩
    refine iteD (fun h => absurd h (by omega)) (fun _ => ?_)
    have hn2 : need links ≤ 2 := by
      unfold need
      split
      · omega
      · split <;> omega
    refine ⟨_, rfl, _, rfl, links, need links, rfl, h2, hn2, fun r H1 xs nr e1 hr pxs => ?_⟩
    have hsm := lists_small h2 hn2
    refine ⟨r, rfl, ⟨xs, .inl (.inl hr)⟩, fun D nD => lc_pre (R' := fun H2 v os => LN H H2 v os) nD pxs (.inl (.inl hr)) (sz_small (by rw [Paired.len pxs]; omega)) (fun _ _ _ _ e h => LN.ex e h) (fun os => decide (gapO links os = none)) (fun os => os) ?_ ?_⟩
    · rintro os x H2 acc hos ⟨p, rfl, np, hp⟩ ed hD Y Z hY hZ
      have e2 := ed.trans (del_le _ _)
      obtain ⟨hri, hol⟩ := lists_good links _ os hos
      refine ⟨rfl, _, rfl, _, rfl, (links : Int), p, os, rfl, hp.ex e2, by omega, fun H3 e3 => ?_⟩
      have npD : p ≠ D := ne_of_none hp nD
      cases hg : gapO (links : Int) os with
      | none =>
        refine ⟨rfl, _, rfl, ?_⟩
        rw [show decide (optV none = V.non) = true from decide_eq_true rfl]
        refine iteT ⟨_, rfl, hY (decide_eq_true hg) _ _ e3 ⟨p, rfl, np, ?_⟩⟩
        show del _ _ _ = _
        rw [del_ne npD]
        exact hp.ex (e2.trans e3)
      | some g =>
        refine ⟨rfl, _, rfl, ?_⟩
        rw [show decide (optV (some g) = V.non) = false from decide_eq_false (fun z => nomatch z)]
        exact iteF (hZ (decide_eq_false (fun z => by rw [hg] at z; cases z)) _ e3)
    · intro H2 acc hD ed pacc
      rw [List.map_id'] at pacc
      have ef : (fun os => decide (gapO (links : Int) os = none)) = fullB links := funext fun os => full_is links os
      rw [ef] at pacc
      exact q D H2 acc (Evl.fresh_back e1 nD) (e1.trans (ed.trans (del_le _ _))) hD (Paired.imp pacc fun _ _ => LN.ex (del_le _ _))
end
def sp_law_longest : Sp := fun vs H Q _ => ∃ n : Nat, vs = [.int (n : Int)] ∧ n ≤ 1000 ∧ Q (.int (mostL n)) H
section
variable {P : Program} {w : World} {K : PySem.W.Frag} {mg : Str → Option Value} {base : Heap}
theorem ok_law_longest {f : Addr} {fd : FuncData} (F : Fun K "_law_longest" "_law_longest" s_law_longest f fd) (T : Bl mg) : FnOk P w K mg base (L2.CX P w) 1 f fd ["openings"] (sp_law_longest ) := by
  refine F.okX sc_law_longest (fun vs H Q E h => ?_) (fun cdv A outer s H vs Q E hr h => ?_)
  · obtain ⟨n, rfl, _⟩ := h
    rfl
  · obtain ⟨n, rfl, hn, q⟩ := h
    have hu := hu_of hr
    refine ⟨_, (pss_cons (ps_set (i := 1) sc_law_longest.nd rfl (.inl rfl) (pe_op op_add (pv 0) pe_int))
      (pss_cons (ps_for (passes_of rfl) rfl (pi_range1 rfl T.b_range (pa_cons (pe_op op_add (pv 0) pe_int) pa_nil)) (pg_name (i := 2) sc_law_longest.nd rfl (.inl rfl))
      (pss_one (ps_set (i := 1) sc_law_longest.nd rfl (.inl rfl) (pe_op op_mul (pv 1) pe_int))))
      (pss_one (ps_ret (pe_op op_sub (pv 1) pe_int))))), ?_⟩
    refine ⟨_, rfl, _, _, rfl, rfl, ?_⟩
    refine ⟨_, rfl, _, _, rfl, rfl, _, rfl, by omega, by omega, ?_⟩
    refine for_range (lo := 0) (fun i σ' H' => H' = H ∧ ∃ v, σ' = [some (.int (n : Int)), some (.int (((n : Int) + 1) * 2 ^ i)), v]) ⟨rfl, none, by simp; rfl⟩ ?_ ?_
    · rintro i σ' H' hi ⟨rfl, v, rfl⟩
      refine ⟨_, rfl, _, _, rfl, rfl, .inr ⟨by decide, by decide⟩, rfl, some (.int (0 + (i : Int))), ?_⟩
      rw [Int.pow_succ, ← Int.mul_assoc]
      rfl
    · rintro σ' H' ⟨rfl, v, rfl⟩
      refine ⟨_, rfl, _, _, rfl, rfl, ?_⟩
      have e : ((n : Int) + 1) * 2 ^ (((n : Int) + 1).toNat) - 1 = mostL n := by
        unfold mostL
        rw [show ((n : Int) + 1).toNat = n + 1 by omega]
      rw [← e] at q
      exact q
end
def sp_law (K : PySem.W.Frag) : Sp := fun vs H Q _ => ∃ (a : Addr) (ns : List Int), vs = [.ref a] ∧ SqL K H a (ns.map V.int) ∧ ∀ H', Q (.bl true) H'
theorem row_three {k : Int} (h0 : 0 ≤ k) (h1 : k < 3) : ∃ n : Nat, 1 ≤ n ∧ n ≤ 23 ∧ atI [V.int 1, V.int 7, V.int 23] k = some (V.int (n : Int)) := by
  have e : k = 0 ∨ k = 1 ∨ k = 2 := by omega
  rcases e with e | e | e
  · exact ⟨1, by decide, by decide, by rw [e]; rfl⟩
  · exact ⟨7, by decide, by decide, by rw [e]; rfl⟩
  · exact ⟨23, by decide, by decide, by rw [e]; rfl⟩
theorem need_le (links : Nat) : need links ≤ 2 := by
  unfold need
  split
  · omega
  · split <;> omega
/-- how many full lists the longest rows have -/
theorem full_many {links : Nat} (h2 : links ≤ 23) (h : (links : Int) = mostL (need links)) : atI [V.int 1, V.int 2, V.int 6] ((need links : Nat) : Int) = some (V.int ((fullL links (need links)).length : Int)) := by
  have m0 : mostL 0 = 1 := by decide +kernel
  have m1 : mostL 1 = 7 := by decide +kernel
  have m2 : mostL 2 = 23 := by decide +kernel
  have hn := need_le links
  rcases (show need links = 0 ∨ need links = 1 ∨ need links = 2 by omega) with e | e | e
  · rw [e, m0] at h
    have : links = 1 := by omega
    rw [e, this, full_1]
    rfl
  · rw [e, m1] at h
    have : links = 7 := by omega
    rw [e, this, full_7]
    rfl
  · rw [e, m2] at h
    have : links = 23 := by omega
    rw [e, this, full_23]
    rfl
theorem some_one {links : Nat} (h1 : 1 ≤ links) (h2 : links ≤ 23) : 0 < (fullL links (need links)).length := by
  have h := List.all_eq_true.mp some_full links (List.mem_range.mpr (by omega))
  simp only [Bool.or_eq_true, decide_eq_true_eq] at h
  rcases h with h | h
  · omega
  · exact h
theorem none_less {links : Nat} (h1 : 1 ≤ links) (h2 : links ≤ 23) (hn : 0 < need links) : ∀ os ∈ listsL links (need links - 1), gapO (links : Int) os ≠ none := by
  intro os hos z
  have h := List.all_eq_true.mp none_fewer links (List.mem_range.mpr (by omega))
  simp only [Bool.or_eq_true, decide_eq_true_eq] at h
  rcases h with h | h
  · omega
  · have h3 := List.all_eq_true.mp h os hos
    rw [← full_is, decide_eq_true z] at h3
    cases h3
theorem paired_in {F : V → List Int → Prop} : ∀ {xs zs : List V} {l : List (List Int)}, Paired F xs l → (∀ x ∈ xs, x ∈ zs) → Paired (fun v o => v ∈ zs ∧ F v o) xs l
  | _, _, _, .nil, _ => .nil
  | _, _, _, .cons r t, h => .cons ⟨h _ List.mem_cons_self, r⟩ (paired_in t fun x hx => h x (List.mem_cons_of_mem _ hx))
theorem paired_all {F : V → List Int → Prop} : ∀ {xs : List V} {l : List (List Int)}, Paired F xs l → ∀ v ∈ xs, ∃ o ∈ l, F v o
  | _, _, .nil, _, h => (nomatch h)
  | _, _, .cons (a := a) (b := b) r t, v, h => by
    rcases List.mem_cons.mp h with e | e
    · exact ⟨b, List.mem_cons_self, e ▸ r⟩
    · obtain ⟨o, ho, q⟩ := paired_all t v e
      exact ⟨o, List.mem_cons_of_mem _ ho, q⟩
section
variable {P : Program} {w : World} {K : PySem.W.Frag} {mg : Str → Option Value} {base : Heap}
theorem ok_law {f : Addr} {fd : FuncData} (F : Fun K "law" "law" s_law f fd) (T : Bl mg) (X_NoRow : Exo K mg "NoRow") (X_NoOpened : Exo K mg "NoOpened") (X_NoCount : Exo K mg "NoCount") (C_law_cell_at : Cal P w K mg base 1 "_law_cell_at" ["script", "k"] (sp_law_cell_at K)) (C_fewest : Cal P w K mg base 2 "fewest" ["links"] (sp_fewest X_NoRow.C)) (C_law_whole : Cal P w K mg base 1 "_law_whole" ["found"] (sp_law_whole )) (C_law_lists : Cal P w K mg base 1 "_law_lists" ["links", "openings"] (sp_law_lists )) (C_gap : Cal P w K mg base 3 "gap" ["links", "opened"] (sp_gap X_NoRow.C X_NoOpened.C)) (C_all_full : Cal P w K mg base 3 "all_full" ["links"] (sp_all_full X_NoRow.C X_NoCount.C)) (C_law_longest : Cal P w K mg base 1 "_law_longest" ["openings"] (sp_law_longest )) : FnOk P w K mg base (L2.CX P w) 4 f fd ["script"] (sp_law K) := by
  refine F.okX sc_law (fun vs H Q E h => ?_) (fun cdv A outer s H vs Q E hr h => ?_)
  · obtain ⟨a, ns, rfl, _⟩ := h
    rfl
  · obtain ⟨a, ns, rfl, hS, q⟩ := h
    have hu := hu_of hr
    refine ⟨_, (pss_cons (ps_set (i := 1) sc_law.nd rfl (.inr rfl) (pe_op op_add pe_int (pe_op op_mod (pe_call C_law_cell_at.ok (hr.mono (by decide)) (by rfl) C_law_cell_at.gl C_law_cell_at.kp C_law_cell_at.bd .nil (passes_call (takes_of rfl rfl rfl rfl) (fun _ _ _ _ h => h)) (pa_cons (pv 0) (pa_cons pe_int pa_nil))) pe_int)))
      (Evl.pss_cut (ps_if (pt_cmpR op_eq (pe_op op_mod (pe_call C_law_cell_at.ok (hr.mono (by decide)) (by rfl) C_law_cell_at.gl C_law_cell_at.kp C_law_cell_at.bd .nil (passes_call (takes_of rfl rfl rfl rfl) (fun _ _ _ _ h => h)) (pa_cons (pv 0) (pa_cons pe_int pa_nil))) pe_int) pe_int (nomark _))
      (pss_one (ps_set (i := 1) sc_law.nd rfl (.inr rfl) (pe_ix ix_list (pe_lst (pa_cons pe_int (pa_cons pe_int (pa_cons pe_int pa_nil)))) (pe_op op_mod (pe_call C_law_cell_at.ok (hr.mono (by decide)) (by rfl) C_law_cell_at.gl C_law_cell_at.kp C_law_cell_at.bd .nil (passes_call (takes_of rfl rfl rfl rfl) (fun _ _ _ _ h => h)) (pa_cons (pv 0) (pa_cons pe_int pa_nil))) pe_int) (fun _ _ => rfl)))) pss_nil)
      (pss_cons (ps_set (i := 2) sc_law.nd rfl (.inl rfl) (pe_call C_fewest.ok (hr.mono (by decide)) (by rfl) C_fewest.gl C_fewest.kp C_fewest.bd .nil (passes_call (takes_of rfl rfl rfl rfl) (fun _ _ _ _ h => h)) (pa_cons (pv 1) pa_nil)))
      (pss_cons (ps_if (PW.pt (pw_or (pt_not (pt_val (pe_call C_law_whole.ok (hr.mono (by decide)) (by rfl) C_law_whole.gl C_law_whole.kp C_law_whole.bd .nil (passes_call (takes_of rfl rfl rfl rfl) (fun _ _ _ _ h => h)) (pa_cons (pv 2) pa_nil)))) (pw_or1 (pt_not (pt_chain op_le op_le pe_int (pv 2) pe_int)))))
      (pss_one (ps_ret pe_bl)) pss_nil)
      (Evl.pss_cut (ps_if (pt_cmpR op_gt (pv 2) pe_int (nomark _))
      (pss_one (ps_for (passes_of rfl) rfl (pi_list (pe_call C_law_lists.ok (hr.mono (by decide)) (by rfl) C_law_lists.gl C_law_lists.kp C_law_lists.bd .nil (passes_call (takes_of rfl rfl rfl rfl) (fun _ _ _ _ h => h)) (pa_cons (pv 1) (pa_cons (pe_op op_sub (pv 2) pe_int) pa_nil)))) (pg_name (i := 3) sc_law.nd rfl (.inl rfl))
      (pss_one (ps_if (pt_cmpR op_isN (pe_call C_gap.ok (hr.mono (by decide)) (by rfl) C_gap.gl C_gap.kp C_gap.bd .nil (passes_call (takes_of rfl rfl rfl rfl) (fun _ _ _ _ h => h)) (pa_cons (pv 1) (pa_cons (pe_callTy call_list_of (by rfl) T.b_list (by decide +kernel) (pa_cons (pv 3) pa_nil)) pa_nil))) pe_non (nomark _))
      (pss_one (ps_ret pe_bl)) pss_nil)))) pss_nil)
      (pss_cons (ps_setLc (i := 4) (own := [("some", 3)]) rfl sc_law.nd rfl rfl (sw_true rfl rfl rfl (by decide +kernel)) (pi_list (pe_call C_law_lists.ok (hr.mono (by decide)) (by rfl) C_law_lists.gl C_law_lists.kp C_law_lists.bd .nil (passes_call (takes_of rfl rfl rfl rfl) (fun _ _ _ _ h => h)) (pa_cons (pv 1) (pa_cons (pv 2) pa_nil)))) (blkOk_by (N := ["script", "links", "openings", "some", "due", "lap", "found"]) (sc := defScope s_law) (by decide +kernel)) (fun _ _ _ _ _ => (pg_name (i := 3) sc_law.nd rfl (.inl rfl))) (fun _ _ _ _ _ => (pts_one (pt_cmpR op_isN (pe_call C_gap.ok (hr.mono (by decide)) (by rfl) C_gap.gl C_gap.kp C_gap.bd .nil passL (pa_cons (pv 1) (pa_cons (pe_callTy (call_list_ofK K rfl) (by rfl) T.b_list (by decide +kernel) (pa_cons (pv 3) pa_nil)) pa_nil))) pe_non (nomark _)))) (fun _ _ _ _ _ => (pv 3)))
      (pss_cons (ps_for (passes_of rfl) rfl (pi_range1 rfl T.b_range (pa_cons pe_int pa_nil)) (pg_name (i := 5) sc_law.nd rfl (.inl rfl))
      (pss_cons (ps_set (i := 6) sc_law.nd rfl (.inl rfl) (pe_call C_all_full.ok (hr.mono (by decide)) (by rfl) C_all_full.gl C_all_full.kp C_all_full.bd .nil (passes_call (takes_of rfl rfl rfl rfl) (fun _ _ _ _ h => h)) (pa_cons (pv 1) pa_nil)))
      (pss_cons (ps_if (PW.pt (pw_or (pt_not (pt_val (pe_callB call_isi (by rfl) T.b_isinstance (by decide +kernel) (pa_cons (pv 6) (pa_cons (pe_bltn (v := .ty "list") (by rfl) T.b_list (by decide +kernel) rfl) pa_nil))))) (pw_or1 (pt_cmpR (op_neD hr.units) (pv 6) (pv 4) (nomark _)))))
      (pss_one (ps_ret pe_bl)) pss_nil)
      (pss_cons (ps_for (passes_of rfl) rfl (pi_list (pv 6)) (pg_name (i := 3) sc_law.nd rfl (.inl rfl))
      (pss_one (ps_expr (pe_bm PySem.F.plainAttrs_list PySem.F.slot_list_append PySem.F.type_list_append mt_append (pv 3) (pa_cons pe_int pa_nil)))))
      (pss_one (ps_expr (pe_bm PySem.F.plainAttrs_list PySem.F.slot_list_append PySem.F.type_list_append mt_append (pv 6) (pa_cons (pe_lst (pa_cons pe_int pa_nil)) pa_nil))))))))
      (pss_cons (ps_if (pt_cmpR op_eq (pv 1) (pe_call C_law_longest.ok (hr.mono (by decide)) (by rfl) C_law_longest.gl C_law_longest.kp C_law_longest.bd .nil (passes_call (takes_of rfl rfl rfl rfl) (fun _ _ _ _ h => h)) (pa_cons (pv 2) pa_nil)) (nomark _))
      (pss_one (ps_ret (pe_cmpR op_eq (pe_callB call_len_seq (by rfl) T.b_len (by decide +kernel) (pa_cons (pv 4) pa_nil)) (pe_ix ix_list (pe_lst (pa_cons pe_int (pa_cons pe_int (pa_cons pe_int pa_nil)))) (pv 2) (fun _ _ => rfl)) (nomark _)))) pss_nil)
      (pss_one (ps_ret (pe_cmpR op_gt (pe_callB call_len_seq (by rfl) T.b_len (by decide +kernel) (pa_cons (pv 4) pa_nil)) pe_int (nomark _)))))))))))), ?_⟩
    refine ⟨_, rfl, a, ns, 0, rfl, hS, by decide, _, _, rfl, rfl, (by decide : (0 : Int) < 23), _, _, rfl, rfl, ?_⟩
    refine ⟨fun σ2 H2 => Ex H H2 ∧ ∃ links : Nat, 1 ≤ links ∧ links ≤ 23 ∧ σ2 = [some (.ref a), some (.int (links : Int)), none, none, none, none, none], ?_, ?_⟩
    · refine ⟨_, rfl, a, ns, 1, rfl, hS, by decide, _, _, rfl, rfl, (by decide : (0 : Int) < 6), rfl, _, rfl, ?_⟩
      refine iteE (fun h => ?_) (fun h => ⟨Evl.Ex.refl _, (1 + cell ns 0 % 23).toNat, by omega, by omega, ?_⟩)
      · obtain ⟨n, h1, h2, hn⟩ := row_three (k := cell ns 0 % 3) (by omega) (by omega)
        refine ⟨(by show 3 ≤ sizeLine; decide), fun l nl => ?_⟩
        obtain ⟨e1, hl⟩ := nw nl (.lst [.int 1, .int 7, .int 23])
        exact ⟨_, rfl, a, ns, 0, rfl, Evl.ex_l e1 hS, by decide, _, _, rfl, rfl, (by decide : (0 : Int) < 3), l, _, _, .int (n : Int), rfl, rfl, .inl (.inl hl), hn, e1, n, h1, h2, rfl⟩
      · rw [show (((1 + cell ns 0 % 23).toNat : Nat) : Int) = 1 + cell ns 0 % 23 by omega]
        rfl
    rintro σ2 H2 ⟨ex2, links, h1, h2, rfl⟩
    have hr1 : RowOk (links : Int) := ⟨by omega, by omega⟩
    refine ⟨_, rfl, (links : Int), rfl, fun _ n hf => ?_, fun z => absurd hr1 z⟩
    obtain rfl := hf.one (need_fewest h1 h2)
    have hn2 := need_le links
    refine ⟨_, rfl, ((need links : Nat) : Int), rfl, true, rfl, iteF ?_⟩
    refine ⟨_, rfl, _, _, rfl, rfl, _, rfl, ?_⟩
    refine iteD (fun _ => ?_) (fun h => absurd (by omega) h)
    refine ⟨_, _, rfl, rfl, _, rfl, ?_⟩
    refine iteN (fun _ => ?_) (fun h => absurd (by omega) h)
    refine ⟨fun σ2 H3 => Ex H2 H3 ∧ ∃ v3, σ2 = [some (.ref a), some (.int (links : Int)), some (.int ((need links : Nat) : Int)), v3, none, none, none], ?_, ?_⟩
    · refine ⟨_, rfl, _, _, rfl, rfl, _, rfl, ?_⟩
      refine iteD (fun h => ?_) (fun h => ⟨Evl.Ex.refl _, _, rfl⟩)
      have hnp : 0 < need links := by omega
      refine ⟨_, rfl, _, rfl, _, _, rfl, rfl, links, need links - 1, by rw [show ((need links - 1 : Nat) : Int) = ((need links : Nat) : Int) - 1 by omega]; rfl, h2, by omega, fun r H3 xs nr e3 hr pxs => ?_⟩
      refine ⟨r, rfl, ⟨_, .inl (.inl hr)⟩, ?_⟩
      refine for_pre pxs (fun pre σ' H' => Ex H3 H' ∧ ∃ v3, σ' = [some (.ref a), some (.int (links : Int)), some (.int ((need links : Nat) : Int)), v3, none, none, none]) ⟨Evl.Ex.refl _, _, rfl⟩ (fun pre σ' H' ⟨e, _⟩ => .inl (.inl (e _ _ hr))) ?_ ?_
      · rintro pre os post x σ' H' eo ⟨p, rfl, np, hp⟩ ⟨ex, v3, rfl⟩
        have hos : os ∈ listsL links (need links - 1) := by rw [eo]; simp
        obtain ⟨hri, hol⟩ := lists_good links _ os hos
        have hgap := none_less h1 h2 hnp os hos
        refine ⟨_, rfl, _, rfl, p, _, rfl, .inl (hp.ex ex).sq, fun l nl => ?_⟩
        obtain ⟨e4, hl4⟩ := nw nl (.lst (os.map V.int))
        refine ⟨(links : Int), l, os, rfl, hl4, fun _ _ H5 e5 => ?_, fun z => absurd hr1 z, fun _ z => absurd ⟨by omega, hri⟩ z⟩
        cases hg : gapO (links : Int) os with
        | none => exact absurd hg hgap
        | some g =>
          refine ⟨rfl, _, rfl, ?_⟩
          rw [show decide (optV (some g) = V.non) = false from decide_eq_false (fun z => nomatch z)]
          exact iteF ⟨(ex.trans e4).trans e5, _, rfl⟩
      · rintro σ' H' ⟨ex, v3, rfl⟩
        exact ⟨e3.trans ex, _, rfl⟩
    rintro σ2 H3 ⟨ex3, v3, rfl⟩
    have hsm := lists_small h2 hn2
    refine ⟨_, rfl, _, rfl, links, need links, rfl, h2, hn2, fun r H4 xs nr e4 hr pxs => ?_⟩
    refine ⟨r, rfl, ⟨xs, .inl (.inl hr)⟩, fun D nD => lc_pre (R' := fun H2 v os => LN H3 H2 v os) nD pxs (.inl (.inl hr)) (sz_small (by rw [Paired.len pxs]; omega)) (fun _ _ _ _ e h => LN.ex e h) (fun os => decide (gapO (links : Int) os = none)) (fun os => os) ?_ ?_⟩
    · rintro os x H5 acc hos ⟨p, rfl, np, hp⟩ ed hD Y Z hY hZ
      have e5 := ed.trans (del_le _ _)
      obtain ⟨hri, hol⟩ := lists_good links _ os hos
      have npD : p ≠ D := ne_of_none hp nD
      refine ⟨rfl, _, rfl, _, rfl, p, _, rfl, .inl (hp.ex e5).sq, fun l nl => ?_⟩
      obtain ⟨e6, hl6⟩ := nw nl (.lst (os.map V.int))
      refine ⟨(links : Int), l, os, rfl, hl6, fun _ _ H7 e7 => ?_, fun z => absurd hr1 z, fun _ z => absurd ⟨by omega, hri⟩ z⟩
      have e67 := e6.trans e7
      cases hg : gapO (links : Int) os with
      | none =>
        refine ⟨rfl, _, rfl, ?_⟩
        rw [show decide (optV none = V.non) = true from decide_eq_true rfl]
        refine iteT ⟨_, rfl, hY (decide_eq_true hg) _ _ e67 ⟨p, rfl, np, ?_⟩⟩
        show del _ _ _ = _
        rw [del_ne npD]
        exact hp.ex (e5.trans e67)
      | some g =>
        refine ⟨rfl, _, rfl, ?_⟩
        rw [show decide (optV (some g) = V.non) = false from decide_eq_false (fun z => nomatch z)]
        exact iteF (hZ (decide_eq_false (fun z => by rw [hg] at z; cases z)) _ e67)
    intro H5 acc hD ed pacc
    have ef : (fun os => decide (gapO (links : Int) os = none)) = fullB links := funext fun os => full_is links os
    rw [List.map_id', ef] at pacc
    have pdue : Paired (LI H5) acc (fullL links (need links)) := Paired.imp pacc fun _ _ h => LI.ex (del_le _ _) h.li
    have hfl : (fullL links (need links)).length ≤ 529 := by
      unfold fullL
      exact Nat.le_trans (List.length_filter_le _ _) hsm
    refine ⟨_, rfl, by decide, by decide, ?_⟩
    refine for_range (lo := 0) (n := 2) (fun i σ' H' => Ex H5 H' ∧ ∃ v3 v5 v6, σ' = [some (.ref a), some (.int (links : Int)), some (.int ((need links : Nat) : Int)), v3, some (.ref D), v5, v6]) ⟨Evl.Ex.refl _, _, _, _, rfl⟩ ?_ ?_
    · rintro i σ' H6 hi ⟨ex, v3, v5, v6, rfl⟩
      refine ⟨_, rfl, links, rfl, h1, h2, fun fo H7 ys nfo e7 hfo pys => ?_⟩
      have pys2 : Paired (LI H7) ys (fullL links (need links)) := Paired.imp pys fun _ _ h => h.li
      have hD7 := e7 _ _ (ex _ _ hD)
      refine ⟨_, rfl, _, _, _, _, true, rfl, .ty "list", .base (.lst hfo), kit_ty (by decide +kernel), true, rfl, iteF ?_⟩
      refine ⟨_, rfl, _, rfl, llD _, llD _, dpLL hfo pys2, dpLL hD7 (Paired.imp pdue fun _ _ => LI.ex (ex.trans e7)), shLL _, shLL _, false, congrArg V.bl (by rw [eqvLLSame] <;> rfl), iteF ?_⟩
      have hys : ys.length = (fullL links (need links)).length := Paired.len pys
      have start : ∀ v ∈ ys, ∃ p ms, v = .ref p ∧ H6 p = none ∧ p ≠ fo ∧ Ints H7 p ms ∧ ms.length ≤ 100 + 0 := by
        intro v hv
        obtain ⟨os, hos, p, rfl, np, hp⟩ := paired_all pys v hv
        have hol := (lists_good links _ os (List.mem_filter.mp hos).1).2
        refine ⟨p, os, rfl, np, fun e => ?_, hp, by omega⟩
        have hp2 : H7 p = some (.lst (os.map V.int)) := hp
        rw [e, hfo] at hp2
        have h3 := HO.lst.inj (Option.some.inj hp2)
        rw [h3] at hv
        obtain ⟨k, _, hk⟩ := List.mem_map.mp hv
        cases hk
      have pin := paired_in pys (zs := ys) fun x hx => hx
      refine ⟨_, rfl, fo, rfl, ⟨_, .inl (.inl hfo)⟩, ?_⟩
      refine for_pre pin (fun pre σ' H' => (Ex H6 H' ∧ H' fo = some (.lst ys) ∧ ∀ v ∈ ys, ∃ p ms, v = .ref p ∧ H6 p = none ∧ p ≠ fo ∧ Ints H' p ms ∧ ms.length ≤ 100 + pre.length) ∧ ∃ v3, σ' = [some (.ref a), some (.int (links : Int)), some (.int ((need links : Nat) : Int)), v3, some (.ref D), some (.int (0 + (i : Int))), some (.ref fo)]) ⟨⟨e7, hfo, start⟩, _, rfl⟩ (fun pre σ' H' ⟨⟨_, z, _⟩, _⟩ => .inl (.inl z)) ?_ ?_
      · rintro pre os post x σ' H' eo ⟨hx, _⟩ ⟨⟨e8, hfo8, all8⟩, w3, rfl⟩
        obtain ⟨p, ms, rfl, np, npf, hp, hml⟩ := all8 x hx
        have hpre : pre.length ≤ 529 := by
          have h3 := congrArg List.length eo
          rw [List.length_append] at h3
          omega
        refine ⟨_, rfl, .inl ⟨rfl, _, hp.sq⟩, p, _, _, rfl, rfl, hp, sz_small (by rw [List.length_map]; omega), ⟨e8.mut np, (upd_ne npf.symm).trans hfo8, fun v hv => ?_⟩, _, rfl⟩
        obtain ⟨p2, ms2, rfl, np2, npf2, hp2, hml2⟩ := all8 v hv
        by_cases e : p2 = p
        · refine ⟨p2, ms ++ [99], rfl, np2, npf2, ?_, ?_⟩
          · show upd _ _ _ _ = _
            rw [e, upd_same, List.map_append]
            rfl
          · rw [List.length_append, List.length_append, List.length_singleton, List.length_singleton]
            omega
        · refine ⟨p2, ms2, rfl, np2, npf2, (upd_ne e).trans hp2, ?_⟩
          rw [List.length_append, List.length_singleton]
          omega
      · rintro σ' H' ⟨⟨e8, hfo8, all8⟩, w3, rfl⟩
        refine ⟨_, rfl, .inl ⟨rfl, _, .inl (.inl hfo8)⟩, le1, fun l nl => ?_⟩
        obtain ⟨e9, hl9⟩ := nw nl (.lst [.int 99])
        exact ⟨fo, ys, _, rfl, rfl, e9 _ _ hfo8, sz_small (by omega), ex.trans ((e8.trans e9).mut nfo), _, _, _, rfl⟩
    rintro σ' H6 ⟨ex, v3, v5, v6, rfl⟩
    have hD6 := ex _ _ hD
    have hal : acc.length = (fullL links (need links)).length := Paired.len pdue
    refine ⟨_, rfl, _, rfl, need links, rfl, by omega, rfl, _, rfl, ?_⟩
    refine iteE (fun h => ?_) (fun h => ?_)
    · have hm := full_many h2 h
      refine ⟨_, rfl, D, _, rfl, .inl (.inl (.inl hD6)), (by show 3 ≤ sizeLine; decide), fun l nl => ?_⟩
      obtain ⟨e9, hl9⟩ := nw nl (.lst [.int 1, .int 2, .int 6])
      refine ⟨_, rfl, l, _, _, _, rfl, rfl, .inl (.inl hl9), hm, rfl, ?_⟩
      rw [hal, decide_eq_true rfl]
      exact q _
    · have hs1 := some_one h1 h2
      refine ⟨_, rfl, D, _, rfl, .inl (.inl (.inl hD6)), _, _, rfl, rfl, ?_⟩
      dsimp only
      rw [decide_eq_true (by omega)]
      exact q _
end
theorem all_mk {l : PySem.W.OpenLaw} {w : World} {K : PySem.W.Frag} {h : Heap} {mg : Str → Option Value} {fa f0 f1 f2 f3 f4 f5 f6 f7 f8 f9 f10 f11 f12 f13 CNoRow CNoOpened CNoCount : Addr} (X : K.In h) (G : h.Ns mainGlobals mg) (hfa : mg "law" = some (.ref fa))
    {od0 an0 : Option Addr} {sl0 : Array (Option Value)} {oc0 kV0 dc0 pm0 cd0 ct0 : Value}
    (a0 : PySem.W.nsIn K mainGlobals "_law_cell_at" = some (some (.ref f0))) (l0 : K.lookup f0 = some ⟨oc0, od0, .func (PySem.W.fnOf "_law_cell_at" "_law_cell_at" (defArgs s_law_cell_at) (defBody s_law_cell_at) (defScope s_law_cell_at) .none kV0 dc0 pm0 an0 cd0 ct0), sl0⟩) (c0 : PySem.W.codeIn K cd0 "_law_cell_at" = true) (k0 : PySem.W.keepIn K (.ref f0) = true)
    {od1 an1 : Option Addr} {sl1 : Array (Option Value)} {oc1 kV1 dc1 pm1 cd1 ct1 : Value}
    (a1 : PySem.W.nsIn K mainGlobals "asked_links" = some (some (.ref f1))) (l1 : K.lookup f1 = some ⟨oc1, od1, .func (PySem.W.fnOf "asked_links" "asked_links" (defArgs s_asked_links) (defBody s_asked_links) (defScope s_asked_links) .none kV1 dc1 pm1 an1 cd1 ct1), sl1⟩) (c1 : PySem.W.codeIn K cd1 "asked_links" = true) (k1 : PySem.W.keepIn K (.ref f1) = true)
    {od2 an2 : Option Addr} {sl2 : Array (Option Value)} {oc2 kV2 dc2 pm2 cd2 ct2 : Value}
    (a2 : PySem.W.nsIn K mainGlobals "most_links" = some (some (.ref f2))) (l2 : K.lookup f2 = some ⟨oc2, od2, .func (PySem.W.fnOf "most_links" "most_links" (defArgs s_most_links) (defBody s_most_links) (defScope s_most_links) .none kV2 dc2 pm2 an2 cd2 ct2), sl2⟩) (c2 : PySem.W.codeIn K cd2 "most_links" = true) (k2 : PySem.W.keepIn K (.ref f2) = true)
    {od3 an3 : Option Addr} {sl3 : Array (Option Value)} {oc3 kV3 dc3 pm3 cd3 ct3 : Value}
    (a3 : PySem.W.nsIn K mainGlobals "fewest" = some (some (.ref f3))) (l3 : K.lookup f3 = some ⟨oc3, od3, .func (PySem.W.fnOf "fewest" "fewest" (defArgs s_fewest) (defBody s_fewest) (defScope s_fewest) .none kV3 dc3 pm3 an3 cd3 ct3), sl3⟩) (c3 : PySem.W.codeIn K cd3 "fewest" = true) (k3 : PySem.W.keepIn K (.ref f3) = true)
    {od4 an4 : Option Addr} {sl4 : Array (Option Value)} {oc4 kV4 dc4 pm4 cd4 ct4 : Value}
    (a4 : PySem.W.nsIn K mainGlobals "_law_whole" = some (some (.ref f4))) (l4 : K.lookup f4 = some ⟨oc4, od4, .func (PySem.W.fnOf "_law_whole" "_law_whole" (defArgs s_law_whole) (defBody s_law_whole) (defScope s_law_whole) .none kV4 dc4 pm4 an4 cd4 ct4), sl4⟩) (c4 : PySem.W.codeIn K cd4 "_law_whole" = true) (k4 : PySem.W.keepIn K (.ref f4) = true)
    {od5 an5 : Option Addr} {sl5 : Array (Option Value)} {oc5 kV5 dc5 pm5 cd5 ct5 : Value}
    (a5 : PySem.W.nsIn K mainGlobals "_law_lists" = some (some (.ref f5))) (l5 : K.lookup f5 = some ⟨oc5, od5, .func (PySem.W.fnOf "_law_lists" "_law_lists" (defArgs s_law_lists) (defBody s_law_lists) (defScope s_law_lists) .none kV5 dc5 pm5 an5 cd5 ct5), sl5⟩) (c5 : PySem.W.codeIn K cd5 "_law_lists" = true) (k5 : PySem.W.keepIn K (.ref f5) = true)
    {od6 an6 : Option Addr} {sl6 : Array (Option Value)} {oc6 kV6 dc6 pm6 cd6 ct6 : Value}
    (a6 : PySem.W.nsIn K mainGlobals "asked_row" = some (some (.ref f6))) (l6 : K.lookup f6 = some ⟨oc6, od6, .func (PySem.W.fnOf "asked_row" "asked_row" (defArgs s_asked_row) (defBody s_asked_row) (defScope s_asked_row) .none kV6 dc6 pm6 an6 cd6 ct6), sl6⟩) (c6 : PySem.W.codeIn K cd6 "asked_row" = true) (k6 : PySem.W.keepIn K (.ref f6) = true)
    {od7 an7 : Option Addr} {sl7 : Array (Option Value)} {oc7 kV7 dc7 pm7 cd7 ct7 : Value}
    (a7 : PySem.W.nsIn K mainGlobals "pieces_of" = some (some (.ref f7))) (l7 : K.lookup f7 = some ⟨oc7, od7, .func (PySem.W.fnOf "pieces_of" "pieces_of" (defArgs s_pieces_of) (defBody s_pieces_of) (defScope s_pieces_of) .none kV7 dc7 pm7 an7 cd7 ct7), sl7⟩) (c7 : PySem.W.codeIn K cd7 "pieces_of" = true) (k7 : PySem.W.keepIn K (.ref f7) = true)
    {od8 an8 : Option Addr} {sl8 : Array (Option Value)} {oc8 kV8 dc8 pm8 cd8 ct8 : Value}
    (a8 : PySem.W.nsIn K mainGlobals "gap_of" = some (some (.ref f8))) (l8 : K.lookup f8 = some ⟨oc8, od8, .func (PySem.W.fnOf "gap_of" "gap_of" (defArgs s_gap_of) (defBody s_gap_of) (defScope s_gap_of) .none kV8 dc8 pm8 an8 cd8 ct8), sl8⟩) (c8 : PySem.W.codeIn K cd8 "gap_of" = true) (k8 : PySem.W.keepIn K (.ref f8) = true)
    {od9 an9 : Option Addr} {sl9 : Array (Option Value)} {oc9 kV9 dc9 pm9 cd9 ct9 : Value}
    (a9 : PySem.W.nsIn K mainGlobals "gap" = some (some (.ref f9))) (l9 : K.lookup f9 = some ⟨oc9, od9, .func (PySem.W.fnOf "gap" "gap" (defArgs s_gap) (defBody s_gap) (defScope s_gap) .none kV9 dc9 pm9 an9 cd9 ct9), sl9⟩) (c9 : PySem.W.codeIn K cd9 "gap" = true) (k9 : PySem.W.keepIn K (.ref f9) = true)
    {od10 an10 : Option Addr} {sl10 : Array (Option Value)} {oc10 kV10 dc10 pm10 cd10 ct10 : Value}
    (a10 : PySem.W.nsIn K mainGlobals "lists_of" = some (some (.ref f10))) (l10 : K.lookup f10 = some ⟨oc10, od10, .func (PySem.W.fnOf "lists_of" "lists_of" (defArgs s_lists_of) (defBody s_lists_of) (defScope s_lists_of) .none kV10 dc10 pm10 an10 cd10 ct10), sl10⟩) (c10 : PySem.W.codeIn K cd10 "lists_of" = true) (k10 : PySem.W.keepIn K (.ref f10) = true)
    {od11 an11 : Option Addr} {sl11 : Array (Option Value)} {oc11 kV11 dc11 pm11 cd11 ct11 : Value}
    (a11 : PySem.W.nsIn K mainGlobals "all_full" = some (some (.ref f11))) (l11 : K.lookup f11 = some ⟨oc11, od11, .func (PySem.W.fnOf "all_full" "all_full" (defArgs s_all_full) (defBody s_all_full) (defScope s_all_full) .none kV11 dc11 pm11 an11 cd11 ct11), sl11⟩) (c11 : PySem.W.codeIn K cd11 "all_full" = true) (k11 : PySem.W.keepIn K (.ref f11) = true)
    {od12 an12 : Option Addr} {sl12 : Array (Option Value)} {oc12 kV12 dc12 pm12 cd12 ct12 : Value}
    (a12 : PySem.W.nsIn K mainGlobals "_law_longest" = some (some (.ref f12))) (l12 : K.lookup f12 = some ⟨oc12, od12, .func (PySem.W.fnOf "_law_longest" "_law_longest" (defArgs s_law_longest) (defBody s_law_longest) (defScope s_law_longest) .none kV12 dc12 pm12 an12 cd12 ct12), sl12⟩) (c12 : PySem.W.codeIn K cd12 "_law_longest" = true) (k12 : PySem.W.keepIn K (.ref f12) = true)
    {od13 an13 : Option Addr} {sl13 : Array (Option Value)} {oc13 kV13 dc13 pm13 cd13 ct13 : Value}
    (a13 : PySem.W.nsIn K mainGlobals "law" = some (some (.ref f13))) (l13 : K.lookup f13 = some ⟨oc13, od13, .func (PySem.W.fnOf "law" "law" (defArgs s_law) (defBody s_law) (defScope s_law) .none kV13 dc13 pm13 an13 cd13 ct13), sl13⟩) (c13 : PySem.W.codeIn K cd13 "law" = true) (k13 : PySem.W.keepIn K (.ref f13) = true)
    (z_len : PySem.W.nsIn K mainGlobals "len" = some none)    (z_range : PySem.W.nsIn K mainGlobals "range" = some none)    (z_sorted : PySem.W.nsIn K mainGlobals "sorted" = some none)    (z_isinstance : PySem.W.nsIn K mainGlobals "isinstance" = some none)    (z_int : PySem.W.nsIn K mainGlobals "int" = some none)    (z_bool : PySem.W.nsIn K mainGlobals "bool" = some none)    (z_list : PySem.W.nsIn K mainGlobals "list" = some none)    (z_tuple : PySem.W.nsIn K mainGlobals "tuple" = some none)    (z_str : PySem.W.nsIn K mainGlobals "str" = some none)    (z_set : PySem.W.nsIn K mainGlobals "set" = some none)    (z_dict : PySem.W.nsIn K mainGlobals "dict" = some none)    (z_enumerate : PySem.W.nsIn K mainGlobals "enumerate" = some none)    (z_zip : PySem.W.nsIn K mainGlobals "zip" = some none)    (z_sum : PySem.W.nsIn K mainGlobals "sum" = some none)    (z_min : PySem.W.nsIn K mainGlobals "min" = some none)    (z_max : PySem.W.nsIn K mainGlobals "max" = some none)    (z_ValueError : PySem.W.nsIn K mainGlobals "ValueError" = some none)
    (xa_NoRow : PySem.W.nsIn K mainGlobals "NoRow" = some (some (.ref CNoRow))) (xx_NoRow : PySem.W.excIn K CNoRow [.type "ValueError", .type "Exception", .type "BaseException", .type "object"] "ValueError.__new__" = true) (xk_NoRow : PySem.W.keepIn K (.ref CNoRow) = true) (xe_NoRow : PySem.W.subIn K (.ref CNoRow) (.type "BaseException") = some true) (xt_NoRow : PySem.W.typeIn K (.ref CNoRow) = some (.type "type"))
    (xa_NoOpened : PySem.W.nsIn K mainGlobals "NoOpened" = some (some (.ref CNoOpened))) (xx_NoOpened : PySem.W.excIn K CNoOpened [.type "ValueError", .type "Exception", .type "BaseException", .type "object"] "ValueError.__new__" = true) (xk_NoOpened : PySem.W.keepIn K (.ref CNoOpened) = true) (xe_NoOpened : PySem.W.subIn K (.ref CNoOpened) (.type "BaseException") = some true) (xt_NoOpened : PySem.W.typeIn K (.ref CNoOpened) = some (.type "type"))
    (xa_NoCount : PySem.W.nsIn K mainGlobals "NoCount" = some (some (.ref CNoCount))) (xx_NoCount : PySem.W.excIn K CNoCount [.type "ValueError", .type "Exception", .type "BaseException", .type "object"] "ValueError.__new__" = true) (xk_NoCount : PySem.W.keepIn K (.ref CNoCount) = true) (xe_NoCount : PySem.W.subIn K (.ref CNoCount) (.type "BaseException") = some true) (xt_NoCount : PySem.W.typeIn K (.ref CNoCount) = some (.type "type"))
    {tMOST_LINKS : Tok} (m_MOST_LINKS : mg "MOST_LINKS" = some (.int 1000000000000000000000000000000 tMOST_LINKS))
    {tMOST_OPENED : Tok} (m_MOST_OPENED : PySem.W.nsIn K mainGlobals "MOST_OPENED" = some (some (.int 100 tMOST_OPENED)))
    {tMOST_LISTED : Tok} (m_MOST_LISTED : PySem.W.nsIn K mainGlobals "MOST_LISTED" = some (some (.int 23 tMOST_LISTED)))
    : ∃ fd : FuncData, (∀ (s : Shared) (v : Value), BindsTo s fd ⟨[v], []⟩ [("script", v)]) ∧ ∀ base : Heap, K.In base → base.Ns mainGlobals mg → FnOk l.prog w K mg base (L2.CX l.prog w) 4 fa fd ["script"] (sp_law K) := by
  have e := hfa.symm.trans (PySem.W.mg_of X G a13)
  cases e
  have T : Bl mg := ⟨PySem.W.mg_none_of X G z_len, PySem.W.mg_none_of X G z_range, PySem.W.mg_none_of X G z_sorted, PySem.W.mg_none_of X G z_isinstance, PySem.W.mg_none_of X G z_int, PySem.W.mg_none_of X G z_bool, PySem.W.mg_none_of X G z_list, PySem.W.mg_none_of X G z_tuple, PySem.W.mg_none_of X G z_str, PySem.W.mg_none_of X G z_set, PySem.W.mg_none_of X G z_dict, PySem.W.mg_none_of X G z_enumerate, PySem.W.mg_none_of X G z_zip, PySem.W.mg_none_of X G z_sum, PySem.W.mg_none_of X G z_min, PySem.W.mg_none_of X G z_max, PySem.W.mg_none_of X G z_ValueError⟩
  let X_NoRow : Exo K mg "NoRow" := ⟨CNoRow, xx_NoRow, PySem.W.mg_of X G xa_NoRow, xk_NoRow, xe_NoRow, xt_NoRow⟩
  let X_NoOpened : Exo K mg "NoOpened" := ⟨CNoOpened, xx_NoOpened, PySem.W.mg_of X G xa_NoOpened, xk_NoOpened, xe_NoOpened, xt_NoOpened⟩
  let X_NoCount : Exo K mg "NoCount" := ⟨CNoCount, xx_NoCount, PySem.W.mg_of X G xa_NoCount, xk_NoCount, xe_NoCount, xt_NoCount⟩
  have hMOST_LINKS := m_MOST_LINKS
  have hMOST_OPENED := PySem.W.mg_of X G m_MOST_OPENED
  have hMOST_LISTED := PySem.W.mg_of X G m_MOST_LISTED
  have F0 := fun_mk (st := s_law_cell_at) l0 c0 k0
  have b0 := F0.binds (ps := ["script", "k"]) fun _ _ _ _ _ _ us hl => match us, hl with | [_, _], _ => rfl
  have F1 := fun_mk (st := s_asked_links) l1 c1 k1
  have b1 := F1.binds (ps := ["links"]) fun _ _ _ _ _ _ us hl => match us, hl with | [_], _ => rfl
  have F2 := fun_mk (st := s_most_links) l2 c2 k2
  have b2 := F2.binds (ps := ["openings"]) fun _ _ _ _ _ _ us hl => match us, hl with | [_], _ => rfl
  have F3 := fun_mk (st := s_fewest) l3 c3 k3
  have b3 := F3.binds (ps := ["links"]) fun _ _ _ _ _ _ us hl => match us, hl with | [_], _ => rfl
  have F4 := fun_mk (st := s_law_whole) l4 c4 k4
  have b4 := F4.binds (ps := ["found"]) fun _ _ _ _ _ _ us hl => match us, hl with | [_], _ => rfl
  have F5 := fun_mk (st := s_law_lists) l5 c5 k5
  have b5 := F5.binds (ps := ["links", "openings"]) fun _ _ _ _ _ _ us hl => match us, hl with | [_, _], _ => rfl
  have F6 := fun_mk (st := s_asked_row) l6 c6 k6
  have b6 := F6.binds (ps := ["links", "opened"]) fun _ _ _ _ _ _ us hl => match us, hl with | [_, _], _ => rfl
  have F7 := fun_mk (st := s_pieces_of) l7 c7 k7
  have b7 := F7.binds (ps := ["links", "opened"]) fun _ _ _ _ _ _ us hl => match us, hl with | [_, _], _ => rfl
  have F8 := fun_mk (st := s_gap_of) l8 c8 k8
  have b8 := F8.binds (ps := ["links", "opened"]) fun _ _ _ _ _ _ us hl => match us, hl with | [_, _], _ => rfl
  have F9 := fun_mk (st := s_gap) l9 c9 k9
  have b9 := F9.binds (ps := ["links", "opened"]) fun _ _ _ _ _ _ us hl => match us, hl with | [_, _], _ => rfl
  have F10 := fun_mk (st := s_lists_of) l10 c10 k10
  have b10 := F10.binds (ps := ["links", "openings"]) fun _ _ _ _ _ _ us hl => match us, hl with | [_, _], _ => rfl
  have F11 := fun_mk (st := s_all_full) l11 c11 k11
  have b11 := F11.binds (ps := ["links"]) fun _ _ _ _ _ _ us hl => match us, hl with | [_], _ => rfl
  have F12 := fun_mk (st := s_law_longest) l12 c12 k12
  have b12 := F12.binds (ps := ["openings"]) fun _ _ _ _ _ _ us hl => match us, hl with | [_], _ => rfl
  have F13 := fun_mk (st := s_law) l13 c13 k13
  refine ⟨PySem.W.fnOf "law" "law" (defArgs s_law) (defBody s_law) (defScope s_law) .none kV13 dc13 pm13 an13 cd13 ct13, fun s v => .of_eq rfl, fun base _ _ => ?_⟩
  let C_law_cell_at : Cal l.prog w K mg base 1 "_law_cell_at" ["script", "k"] (sp_law_cell_at K) := ⟨f0, _, ok_law_cell_at F0 T, PySem.W.mg_of X G a0, k0, b0⟩
  let C_asked_links : Cal l.prog w K mg base 1 "asked_links" ["links"] (sp_asked_links X_NoRow.C) := ⟨f1, _, ok_asked_links F1 T X_NoRow hMOST_LINKS, PySem.W.mg_of X G a1, k1, b1⟩
  let C_most_links : Cal l.prog w K mg base 1 "most_links" ["openings"] (sp_most_links ) := ⟨f2, _, ok_most_links F2 T, PySem.W.mg_of X G a2, k2, b2⟩
  let C_fewest : Cal l.prog w K mg base 2 "fewest" ["links"] (sp_fewest X_NoRow.C) := ⟨f3, _, ok_fewest F3 T X_NoRow C_asked_links C_most_links, PySem.W.mg_of X G a3, k3, b3⟩
  let C_law_whole : Cal l.prog w K mg base 1 "_law_whole" ["found"] (sp_law_whole ) := ⟨f4, _, ok_law_whole F4 T, PySem.W.mg_of X G a4, k4, b4⟩
  let C_law_lists : Cal l.prog w K mg base 1 "_law_lists" ["links", "openings"] (sp_law_lists ) := ⟨f5, _, ok_law_lists F5 T, PySem.W.mg_of X G a5, k5, b5⟩
  let C_asked_row : Cal l.prog w K mg base 2 "asked_row" ["links", "opened"] (sp_asked_row X_NoRow.C X_NoOpened.C) := ⟨f6, _, ok_asked_row F6 T X_NoRow X_NoOpened hMOST_OPENED C_asked_links, PySem.W.mg_of X G a6, k6, b6⟩
  let C_pieces_of : Cal l.prog w K mg base 1 "pieces_of" ["links", "opened"] (sp_pieces_of ) := ⟨f7, _, ok_pieces_of F7 T, PySem.W.mg_of X G a7, k7, b7⟩
  let C_gap_of : Cal l.prog w K mg base 2 "gap_of" ["links", "opened"] (sp_gap_of ) := ⟨f8, _, ok_gap_of F8 T C_pieces_of, PySem.W.mg_of X G a8, k8, b8⟩
  let C_gap : Cal l.prog w K mg base 3 "gap" ["links", "opened"] (sp_gap X_NoRow.C X_NoOpened.C) := ⟨f9, _, ok_gap F9 T X_NoRow X_NoOpened C_asked_row C_gap_of, PySem.W.mg_of X G a9, k9, b9⟩
  let C_lists_of : Cal l.prog w K mg base 1 "lists_of" ["links", "openings"] (sp_lists_of ) := ⟨f10, _, ok_lists_of F10 T, PySem.W.mg_of X G a10, k10, b10⟩
  let C_all_full : Cal l.prog w K mg base 3 "all_full" ["links"] (sp_all_full X_NoRow.C X_NoCount.C) := ⟨f11, _, ok_all_full F11 T X_NoRow X_NoCount hMOST_LISTED C_fewest C_gap_of C_lists_of, PySem.W.mg_of X G a11, k11, b11⟩
  let C_law_longest : Cal l.prog w K mg base 1 "_law_longest" ["openings"] (sp_law_longest ) := ⟨f12, _, ok_law_longest F12 T, PySem.W.mg_of X G a12, k12, b12⟩
  exact ok_law F13 T X_NoRow X_NoOpened X_NoCount C_law_cell_at C_fewest C_law_whole C_law_lists C_gap C_all_full C_law_longest
end Lp
open PySem PySem.W PyProof.Rows
set_option maxRecDepth 100000 in
set_option maxHeartbeats 0 in
theorem PySem.Challenge.cw_linkpay_k09_whole_none_fewer_holds : PySem.Challenge.rw_linkpay_k09_whole_none_fewer.Holds := by
  w_on; o_law; k_head; (case hw => w_witness2)
  k_fill
  refine Lp.walkX (l := PySem.Challenge.rw_linkpay_k09_whole_none_fewer) (n := 63) (k := 4) (x := "script") (sp := fun w => Lp.sp_law _) rfl (by decide) rfl ⟨rfl, by decide, by decide⟩ (fun w h Y => PySem.W.kIn_of Y) ?F (fun _ _ a ns hl hS => ⟨a, ns, rfl, hS, fun _ => rfl⟩)
  case F =>
    intro w mg fa h KX G XX hmg
    obtain ⟨tML, hML⟩ := Lp.loose_int XX.2 (n := "MOST_LINKS") (i := 1000000000000000000000000000000) (by simp)
    refine' Lp.all_mk KX G hmg ?a0 ?l0 ?c0 ?k0 ?a1 ?l1 ?c1 ?k1 ?a2 ?l2 ?c2 ?k2 ?a3 ?l3 ?c3 ?k3 ?a4 ?l4 ?c4 ?k4 ?a5 ?l5 ?c5 ?k5 ?a6 ?l6 ?c6 ?k6 ?a7 ?l7 ?c7 ?k7 ?a8 ?l8 ?c8 ?k8 ?a9 ?l9 ?c9 ?k9 ?a10 ?l10 ?c10 ?k10 ?a11 ?l11 ?c11 ?k11 ?a12 ?l12 ?c12 ?k12 ?a13 ?l13 ?c13 ?k13 ?z_len ?z_range ?z_sorted ?z_isinstance ?z_int ?z_bool ?z_list ?z_tuple ?z_str ?z_set ?z_dict ?z_enumerate ?z_zip ?z_sum ?z_min ?z_max ?z_ValueError ?xa_NoRow ?xx_NoRow ?xk_NoRow ?xe_NoRow ?xt_NoRow ?xa_NoOpened ?xx_NoOpened ?xk_NoOpened ?xe_NoOpened ?xt_NoOpened ?xa_NoCount ?xx_NoCount ?xk_NoCount ?xe_NoCount ?xt_NoCount hML ?m_MOST_OPENED ?m_MOST_LISTED
    (case a0 => k_is)
    (case l0 => k_is)
    (case c0 => k_is)
    (case k0 => k_is)
    (case a1 => k_is)
    (case l1 => k_is)
    (case c1 => k_is)
    (case k1 => k_is)
    (case a2 => k_is)
    (case l2 => k_is)
    (case c2 => k_is)
    (case k2 => k_is)
    (case a3 => k_is)
    (case l3 => k_is)
    (case c3 => k_is)
    (case k3 => k_is)
    (case a4 => k_is)
    (case l4 => k_is)
    (case c4 => k_is)
    (case k4 => k_is)
    (case a5 => k_is)
    (case l5 => k_is)
    (case c5 => k_is)
    (case k5 => k_is)
    (case a6 => k_is)
    (case l6 => k_is)
    (case c6 => k_is)
    (case k6 => k_is)
    (case a7 => k_is)
    (case l7 => k_is)
    (case c7 => k_is)
    (case k7 => k_is)
    (case a8 => k_is)
    (case l8 => k_is)
    (case c8 => k_is)
    (case k8 => k_is)
    (case a9 => k_is)
    (case l9 => k_is)
    (case c9 => k_is)
    (case k9 => k_is)
    (case a10 => k_is)
    (case l10 => k_is)
    (case c10 => k_is)
    (case k10 => k_is)
    (case a11 => k_is)
    (case l11 => k_is)
    (case c11 => k_is)
    (case k11 => k_is)
    (case a12 => k_is)
    (case l12 => k_is)
    (case c12 => k_is)
    (case k12 => k_is)
    (case a13 => k_is)
    (case l13 => k_is)
    (case c13 => k_is)
    (case k13 => k_is)
    (case z_len => k_is)
    (case z_range => k_is)
    (case z_sorted => k_is)
    (case z_isinstance => k_is)
    (case z_int => k_is)
    (case z_bool => k_is)
    (case z_list => k_is)
    (case z_tuple => k_is)
    (case z_str => k_is)
    (case z_set => k_is)
    (case z_dict => k_is)
    (case z_enumerate => k_is)
    (case z_zip => k_is)
    (case z_sum => k_is)
    (case z_min => k_is)
    (case z_max => k_is)
    (case z_ValueError => k_is)
    (case xa_NoRow => k_is)
    (case xx_NoRow => k_exc)
    (case xk_NoRow => k_is)
    (case xe_NoRow => k_is)
    (case xt_NoRow => k_is)
    (case xa_NoOpened => k_is)
    (case xx_NoOpened => k_exc)
    (case xk_NoOpened => k_is)
    (case xe_NoOpened => k_is)
    (case xt_NoOpened => k_is)
    (case xa_NoCount => k_is)
    (case xx_NoCount => k_exc)
    (case xk_NoCount => k_is)
    (case xe_NoCount => k_is)
    (case xt_NoCount => k_is)
    (case m_MOST_OPENED => k_is)
    (case m_MOST_LISTED => k_is)
