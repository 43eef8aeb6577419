import PyProof.Rows.All
import Wide.All
import OpenK.AllK
import Wide.FinOn
import HandS.ForMost
import HandS.ForExc
import HandS.Evl
import HandS.IsInst
import HandS.SortInts
import HandS.More
import PySem.Challenge.RW_linkpay_k01_pieces_told
set_option Elab.async false
set_option linter.all false
set_option maxRecDepth 100000
set_option maxHeartbeats 4000000
namespace Lp
open PySem PySem.Spec PyProof.Rows L2
open Evl (Ex)
/-! ### defs, classes, built-in names -/
structure Cal (P : Program) (w : World) (K : PySem.W.Frag) (mg : Str → Option Value) (base : Heap) (k : Nat) (x : Str) (ps : List Str) (sp : Sp) where
  f : Addr
  fd : FuncData
  ok : FnOk P w K mg base (L2.CX P w) k f fd ps sp
  gl : mg x = some (.ref f)
  kp : PySem.W.keepIn K (.ref f) = true
  bd : Binds K fd ps []
structure Bl (mg : Str → Option Value) : Prop where
  b_len : mg "len" = none
  b_range : mg "range" = none
  b_sorted : mg "sorted" = none
  b_isinstance : mg "isinstance" = none
  b_int : mg "int" = none
  b_bool : mg "bool" = none
  b_list : mg "list" = none
  b_tuple : mg "tuple" = none
  b_str : mg "str" = none
  b_set : mg "set" = none
  b_dict : mg "dict" = none
  b_enumerate : mg "enumerate" = none
  b_zip : mg "zip" = none
  b_sum : mg "sum" = none
  b_min : mg "min" = none
  b_max : mg "max" = none
  b_ValueError : mg "ValueError" = none
/-- an own class of errors, without a body -/
structure Exo (K : PySem.W.Frag) (mg : Str → Option Value) (x : Str) where
  C : Addr
  q : PySem.W.excIn K C [.type "ValueError", .type "Exception", .type "BaseException", .type "object"] "ValueError.__new__" = true
  gC : mg x = some (.ref C)
  kC : PySem.W.keepIn K (.ref C) = true
  e1 : PySem.W.subIn K (.ref C) (.type "BaseException") = some true
  e2 : PySem.W.typeIn K (.ref C) = some (.type "type")
theorem Exo.mk' {X : Cx} {x m : Str} (T : Exo X.K X.mg x) (hg : Gl X x) {j : Nat} {p p2 pos : Pos} (hdb : (x == ("__debug__" : Str)) = false := by decide) :
    PMk X (.Call (.Name x p) [.Constant (.str m) j p2] [] pos) (fun _ H Q => Q (.ref T.C) none H) :=
  pmk_own PySem.F.excBase_ValueError T.q T.gC T.kC (raises_own T.e1 T.e2) hg hdb

theorem noCX {P : Program} {w : World} {H : Hp} {s : Shared} {e : Value} {s' : Shared} (h : L2.CX P w [] H s (fun _ _ _ => False) e s') : False := by
  obtain ⟨_, _, _, _, _, _, _, _, _, _, _, _, z⟩ := h
  exact z.elim
/-- the goal behind the head, where the law's promise may use what the head says of the loose names -/
theorem walkX {l : PySem.W.OpenLaw} {n k : Nat} {q : Program} {loose : List Str} {XP : (Str → Option Value) → Heap → Prop} {YP : World → Heap → Prop} {d : DefRec} {K : Params → PySem.W.Frag} {sp : World → Sp} {x : Str}
    (hn : l.most = some n) (hz : n ≤ sizeLine) (hdf : d.params.defaults = []) (hr : Room k callerA) (hY : ∀ (w : World) (h : Heap), YP w h → (K w.params).In h)
    (F : ∀ (w : World) (mg : Str → Option Value) (fa : Addr) (h : Heap), (K w.params).In h → h.Ns mainGlobals mg → XP mg h → mg d.name = some (.ref fa) →
      ∃ fd : FuncData, (∀ (s : Shared) (u : Value), BindsTo s fd ⟨[u], []⟩ [(x, u)]) ∧
        ∀ base : Heap, (K w.params).In base → base.Ns mainGlobals mg → FnOk l.prog w (K w.params) mg base (L2.CX l.prog w) k fa fd [x] (sp w))
    (hsp : ∀ (w : World) (H : Hp) (a : Addr) (ns : List Int), ns.length ≤ n → SqL (K w.params) H a (ns.map V.int) → sp w [.ref a] H (fun v _ => v = .bl true) fun _ _ _ => False) :
    PySem.W.WalkO q loose XP YP l.row.toRowW d [] (fun f vs => PySem.call f vs) :=
  Att.attach_call hn hdf fun w s0 s1 mg mb fa o pm cd doc a vs ns G Y _ _ _ hmg hobj hints hlen hg => by
    obtain ⟨fd, hb, hF⟩ := F w mg fa s1.heap (hY w _ Y) G.T.g G.X hmg
    exact law_call (CX := L2.CX l.prog w) (hY w _ Y) G.T.g G.T.b G.T.builtins G.T.nolimit hg hobj hints (by omega) hr hF hb (fun H _ hS => hsp w H a ns hlen hS) fun H e s' => noCX
theorem loose_int {lv : List (Str × PySem.W.WData)} {mg : Str → Option Value} {h : Heap} (x : PySem.W.LooseAre lv mg h) {n : Str} {i : Int} (hm : (n, PySem.W.WData.int i) ∈ lv) : ∃ t, mg n = some (.int i t) := by
  obtain ⟨v, hv, r⟩ := x.val _ hm
  cases r
  exact ⟨_, hv⟩
/-! ### heaps -/
def Ints (H : Hp) (p : Addr) (ns : List Int) : Prop := H p = some (.lst (ns.map V.int))
theorem Ints.ex {H H' : Hp} {p : Addr} {ns : List Int} (h : Ints H p ns) (e : Ex H H') : Ints H' p ns := e _ _ h
theorem Ints.sq {K : PySem.W.Frag} {H : Hp} {p : Addr} {ns : List Int} (h : Ints H p ns) : SqL K H p (ns.map V.int) := .inl (.inl h)
/-- without the object at D -/
def del (H : Hp) (D : Addr) : Hp := fun b => if b = D then none else H b
theorem del_same {H : Hp} {D : Addr} : del H D D = none := if_pos rfl
theorem del_ne {H : Hp} {D b : Addr} (h : b ≠ D) : del H D b = H b := if_neg h
theorem del_le (H : Hp) (D : Addr) : Ex (del H D) H := fun a o h => by
  by_cases e : a = D
  · rw [e, del_same] at h
    cases h
  · rwa [del_ne e] at h
theorem del_upd (H : Hp) (D : Addr) (o : HO) : del (upd H D o) D = del H D := by
  funext b
  by_cases e : b = D
  · rw [e, del_same, del_same]
  · rw [del_ne e, del_ne e, upd_ne e]
theorem del_mono {H H' : Hp} (D : Addr) (e : Ex H H') : Ex (del H D) (del H' D) := fun a o h => by
  by_cases q : a = D
  · rw [q, del_same] at h
    cases h
  · rw [del_ne q] at h ⊢
    exact e _ _ h
theorem del_of {F H : Hp} {D : Addr} (e : Ex F H) (n : F D = none) : Ex F (del H D) := fun a o h => by
  rw [del_ne (ne_of_none h n)]
  exact e _ _ h
/-- a new object: told of some heap that holds it -/
theorem newO {H : Hp} {o : HO} {Q : V → Hp → Prop} (h : ∀ p H1, H p = none → Ex H H1 → H1 p = some o → H1 = upd H p o → Q (.ref p) H1) : ∀ p, H p = none → Q (.ref p) (upd H p o) :=
  fun p hp => h p _ hp (Evl.Ex.new hp) upd_same rfl

theorem nw {H : Hp} {p : Addr} (h : H p = none) (o : HO) : Ex H (upd H p o) ∧ upd H p o p = some o := ⟨Evl.Ex.new h, upd_same⟩

/-! ### related lists -/
theorem Paired.at {α β : Type} {F : α → β → Prop} : ∀ {l1 : List α} {l2 : List β} {i : Nat} {a : α}, Paired F l1 l2 → l1[i]? = some a → ∃ b, l2[i]? = some b ∧ F a b
  | _, _, _, _, .nil, e => by simp at e
  | _, _, 0, _, .cons r _, e => by
    simp at e
    subst e
    exact ⟨_, rfl, r⟩
  | _, _, i + 1, a, .cons _ t, e => by
    obtain ⟨b, h1, h2⟩ := Paired.at (i := i) (a := a) t (by simpa using e)
    exact ⟨b, by simpa using h1, h2⟩
theorem Paired.len {α β : Type} {F : α → β → Prop} : ∀ {l1 : List α} {l2 : List β}, Paired F l1 l2 → l1.length = l2.length
  | _, _, .nil => rfl
  | _, _, .cons _ t => by simp [Paired.len t]
theorem Paired.imp {α β : Type} {F G : α → β → Prop} : ∀ {l1 : List α} {l2 : List β}, Paired F l1 l2 → (∀ a b, F a b → G a b) → Paired G l1 l2
  | _, _, .nil, _ => .nil
  | _, _, .cons r t, h => .cons (h _ _ r) (Paired.imp t h)
theorem Paired.cat {α β : Type} {F : α → β → Prop} : ∀ {l1 l3 : List α} {l2 l4 : List β}, Paired F l1 l2 → Paired F l3 l4 → Paired F (l1 ++ l3) (l2 ++ l4)
  | _, _, _, _, .nil, s => s
  | _, _, _, _, .cons r t, s => .cons r (Paired.cat t s)
theorem Paired.ofMap {α β : Type} {F : α → β → Prop} {f : β → α} (h : ∀ b, F (f b) b) : ∀ l : List β, Paired F (l.map f) l
  | [] => .nil
  | b :: r => .cons (h b) (Paired.ofMap h r)
def IsI : V → Int → Prop := fun v n => v = .int n
theorem isI : ∀ l : List Int, Paired IsI (l.map V.int) l
  | [] => .nil
  | n :: r => .cons (show IsI (V.int n) n from rfl) (isI r)
theorem isI_eq : ∀ {xs : List V} {l : List Int}, Paired IsI xs l → xs = l.map V.int
  | _, _, .nil => rfl
  | _, _, .cons r t => by rw [isI_eq t, show _ = _ from r]; rfl
/-- a pair of ints -/
def RP (H : Hp) : V → Int × Int → Prop := fun v p => ∃ a, v = .ref a ∧ H a = some (.tup [.int p.1, .int p.2])
theorem RP.ex {H H' : Hp} (e : Ex H H') {v : V} {p : Int × Int} (h : RP H v p) : RP H' v p := by
  obtain ⟨a, rfl, q⟩ := h
  exact ⟨a, rfl, e _ _ q⟩
theorem RP.mut {H : Hp} {q : Addr} {xs ys : List V} (hq : H q = some (.lst xs)) {v : V} {p : Int × Int} (h : RP H v p) : RP (upd H q (.lst ys)) v p := by
  obtain ⟨a, rfl, z⟩ := h
  refine ⟨a, rfl, ?_⟩
  rw [upd_ne (ne_of z hq (by intro z; cases z))]
  exact z
/-- a list of pairs -/
def Prs (H : Hp) (p : Addr) (ps : List (Int × Int)) : Prop := ∃ xs, H p = some (.lst xs) ∧ Paired (RP H) xs ps
theorem Prs.ex {H H' : Hp} {p : Addr} {ps : List (Int × Int)} (h : Prs H p ps) (e : Ex H H') : Prs H' p ps := by
  obtain ⟨xs, h1, h2⟩ := h
  exact ⟨xs, e _ _ h1, Paired.imp h2 fun _ _ => RP.ex e⟩
theorem take_snoc {α : Type} {l : List α} {i : Nat} {x : α} (h : l[i]? = some x) : l.take (i + 1) = l.take i ++ [x] := by
  rw [List.take_add_one, h]
  rfl

/-! ### loops -/
/-- a for over a list that stands still: the word speaks of the items taken -/
theorem for_pre {β : Type} {K : PySem.W.Frag} {a : Addr} {xs : List V} {g : TG} {tb : TS} {D : Ends} {σ : L2.St} {H : Hp} {R : V → β → Prop} {ys : List β} (hp : Paired R xs ys) (I : List β → L2.St → Hp → Prop) (h0 : I [] σ H)
    (hl : ∀ pre σ H, I pre σ H → SqL K H a xs)
    (hs : ∀ pre y post x σ H, ys = pre ++ y :: post → R x y → I pre σ H → g x σ H fun σ2 H2 => tb { D with nx := I (pre ++ [y]), ct := I (pre ++ [y]), bk := D.nx } σ2 H2) (hd : ∀ σ H, I ys σ H → D.nx σ H) :
    ∃ W : Nat → Nat → L2.St → Hp → Prop, (∃ m, W 0 m σ H) ∧ ∀ i m σ H, W i m σ H →
      ((Itl K a).stop i H ∧ D.nx σ H) ∨ ((Itl K a).go i H ∧ ∃ N : L2.St → Hp → Prop, (∀ σ' H', N σ' H' → ∃ m', m' < m ∧ W (i + 1) m' σ' H') ∧ ∀ x H', (Itl K a).yld i H x H' → g x σ H' fun σ2 H2 => tb { D with nx := N, ct := N, bk := D.nx } σ2 H2) := by
  refine for_list (xs := xs) (fun i σ H => I (ys.take i) σ H) h0 (fun i σ H _ q => hl _ _ _ q) (fun i x σ H hx q => ?_) (fun σ H q => hd σ H ?_)
  · obtain ⟨y, hy, r⟩ := Paired.at hp hx
    have hi : i < ys.length := (List.getElem?_eq_some_iff.mp hy).1
    have e : ys = ys.take i ++ y :: ys.drop (i + 1) := by
      have e2 := (List.getElem?_eq_some_iff.mp hy).2
      rw [← e2, ← List.drop_eq_getElem_cons hi, List.take_append_drop]
    have z := hs (ys.take i) y _ x σ H e r q
    rw [← take_snoc hy] at z
    exact z
  · have q' : I (ys.take xs.length) σ H := q
    rwa [Paired.len hp, List.take_length] at q'
/-- a comprehension over a list that stands still; what it makes is told of the heap without the new list -/
theorem lc_pre {β γ : Type} {K : PySem.W.Frag} {a : Addr} {xs : List V} {g : TG} {tt : TT} {te : TE} {vs : List Nat} {σ : L2.St} {H : Hp} {Dl : Addr} {Qd : Hp → Prop} {R : V → β → Prop} {ys : List β} {R' : Hp → V → γ → Prop} (hD : H Dl = none)
    (hp : Paired R xs ys) (hsrc : SqL K H a xs) (hz : xs.length < sizeLine) (mono : ∀ H1 H2 v c, Ex H1 H2 → R' H1 v c → R' H2 v c) (p : β → Bool) (f : β → γ)
    (hs : ∀ y x H1 acc, y ∈ ys → R x y → Ex H (del H1 Dl) → H1 Dl = some (.lst acc) → ∀ (Y : V → Hp → Prop) (Z : Hp → Prop), (p y = true → ∀ v H4, Ex H1 H4 → R' (del H4 Dl) v (f y) → Y v H4) → (p y = false → ∀ H3, Ex H1 H3 → Z H3) →
      g x (wipe σ vs) H1 fun σ2 H2 => wipe σ2 vs = wipe σ vs ∧ tt σ2 H2 fun b H3 => if b = true then te σ2 H3 Y else Z H3)
    (hd : ∀ H2 acc, H2 Dl = some (.lst acc) → Ex H (del H2 Dl) → Paired (R' (del H2 Dl)) acc ((ys.filter p).map f) → Qd H2) :
    ∃ W : Nat → Nat → Hp → Prop, (∃ m, W 0 m (upd H Dl (.lst []))) ∧ ∀ i m H, W i m H →
      ((Itl K a).stop i H ∧ Qd H) ∨ ((Itl K a).go i H ∧ ∃ Nx : Hp → Prop, (∀ H', Nx H' → ∃ m', m' < m ∧ W (i + 1) m' H') ∧ ∀ x H', (Itl K a).yld i H x H' → g x (wipe σ vs) H' fun σ2 H2 => wipe σ2 vs = wipe σ vs ∧ tt σ2 H2 fun b H3 =>
        if b = true then te σ2 H3 fun y H4 => ∃ acc, H4 Dl = some (.lst acc) ∧ acc.length < sizeLine ∧ Nx (upd H4 Dl (.lst (acc ++ [y]))) else Nx H3) := by
  have hlen : ∀ i, ((List.filter p (ys.take i)).map f).length ≤ ys.length := fun i => by
    rw [List.length_map]
    exact Nat.le_trans (List.length_filter_le _ _) (by rw [List.length_take]; exact Nat.min_le_right _ _)
  have hL := Paired.len hp
  refine lc_list (xs := xs) (fun i H2 => ∃ acc, H2 Dl = some (.lst acc) ∧ Ex H (del H2 Dl) ∧ Paired (R' (del H2 Dl)) acc (((ys.take i).filter p).map f)) ⟨[], upd_same, ?_, ?_⟩ (fun i H2 _ q => ?_) (fun i x H2 hx q => ?_) (fun H2 q => ?_)
  · rw [del_upd]
    exact del_of (Evl.Ex.refl H) hD
  · exact .nil
  · obtain ⟨acc, _, e, _⟩ := q
    exact Evl.ex_l (e.trans (del_le _ _)) hsrc
  · obtain ⟨acc, h1, h2, h3⟩ := q
    obtain ⟨y, hy, r⟩ := Paired.at hp hx
    have ha : acc.length ≤ ys.length := by
      rw [Paired.len h3]
      exact hlen i
    refine hs y x H2 acc (List.mem_of_getElem? hy) r h2 h1 _ _ (fun hpy v H4 e4 r4 => ?_) (fun hpy H3 e3 => ?_)
    · refine ⟨acc, e4 _ _ h1, by omega, acc ++ [v], upd_same, ?_, ?_⟩
      · rw [del_upd]
        exact h2.trans (del_mono _ e4)
      · rw [del_upd, take_snoc hy, List.filter_append, List.map_append]
        refine Paired.cat (Paired.imp h3 fun _ _ => mono _ _ _ _ (del_mono _ e4)) ?_
        rw [List.filter_cons, if_pos hpy]
        exact .cons r4 .nil
    · refine ⟨acc, e3 _ _ h1, h2.trans (del_mono _ e3), ?_⟩
      rw [take_snoc hy, List.filter_append, List.map_append, List.filter_cons, if_neg (by rw [hpy]; exact Bool.false_ne_true)]
      show Paired _ _ (_ ++ [])
      rw [List.append_nil]
      exact Paired.imp h3 fun _ _ => mono _ _ _ _ (del_mono _ e3)
  · obtain ⟨acc, h1, h2, h3⟩ := q
    refine hd H2 acc h1 h2 ?_
    rw [hL, List.take_length] at h3
    exact h3
theorem le1 : 1 ≤ sizeLine := by decide
theorem le2 : 2 ≤ sizeLine := by decide
theorem le3 : 3 ≤ sizeLine := by decide
theorem sz_small {n : Nat} (h : n ≤ 100000) : n < sizeLine := Nat.lt_of_le_of_lt h (by decide)
theorem ex_refl' {H H' : Hp} (h : H' = H) : Ex H H' := h ▸ Evl.Ex.refl _
/-! ### tests -/
theorem iteN {p A B : Prop} [Decidable p] (h1 : p → B) (h2 : ¬ p → A) : if (!decide p) = true then A else B := by
  by_cases h : p
  · rw [decide_eq_true h]
    exact iteF (h1 h)
  · rw [decide_eq_false h]
    exact iteT (h2 h)
theorem iteD {p A B : Prop} [Decidable p] (h1 : p → A) (h2 : ¬ p → B) : if decide p = true then A else B := by
  by_cases h : p
  · rw [decide_eq_true h]
    exact iteT (h1 h)
  · rw [decide_eq_false h]
    exact iteF (h2 h)
theorem iteB {A B : Prop} (b : Bool) (h1 : b = true → A) (h2 : b = false → B) : if b = true then A else B := by
  cases b with
  | true => exact iteT (h1 rfl)
  | false => exact iteF (h2 rfl)
/-- the same of two equal ints as values -/
theorem iteE {i j : Int} {A B : Prop} (h1 : i = j → A) (h2 : i ≠ j → B) : if decide (V.int i = V.int j) = true then A else B :=
  iteD (fun e => h1 (V.int.inj e)) (fun e => h2 fun q => e (congrArg V.int q))
end Lp
namespace Lp
open PySem PySem.Spec PyProof.Rows L2
open Evl (Ex)
/-! ### data -/
def pD (p : Int × Int) : PyData := .tuple [.int p.1, .int p.2]
def prsD (ps : List (Int × Int)) : PyData := .list (ps.map pD)
def intsD (ns : List Int) : PyData := .list (ns.map PyData.int)
theorem dpAllInts {K : PySem.W.Frag} {H : Hp} : ∀ ns : List Int, DpAll K H (ns.map V.int) (ns.map PyData.int)
  | [] => .nil
  | n :: r => .cons (.int n) (dpAllInts r)
theorem dpInts {K : PySem.W.Frag} {H : Hp} {p : Addr} {ns : List Int} (h : Ints H p ns) : Dp K H (.ref p) (intsD ns) := .lst h.sq (dpAllInts ns)
theorem dpAllPrs {K : PySem.W.Frag} {H : Hp} : ∀ {xs : List V} {ps : List (Int × Int)}, Paired (RP H) xs ps → DpAll K H xs (ps.map pD)
  | _, _, .nil => .nil
  | _, _, .cons (a := v) (b := p) r t => .cons (by
      obtain ⟨a, rfl, h⟩ := r
      exact .tup (.inl (.inl h)) (.cons (.int _) (.cons (.int _) .nil))) (dpAllPrs t)
theorem Prs.dp {K : PySem.W.Frag} {H : Hp} {p : Addr} {ps : List (Int × Int)} (h : Prs H p ps) : Dp K H (.ref p) (prsD ps) := by
  obtain ⟨xs, h1, h2⟩ := h
  exact .lst (.inl (.inl h1)) (dpAllPrs h2)
theorem layInts : ∀ ns : List Int, PyData.canLayAll0 (ns.map PyData.int) = true ∧ PyData.depthAll (ns.map PyData.int) ≤ 1
  | [] => ⟨rfl, by simp [PyData.depthAll]⟩
  | n :: r => by
    have h := layInts r
    simp only [List.map_cons, PyData.canLayAll0, PyData.canLay0, PyData.depthAll, PyData.depth, h.1]
    exact ⟨rfl, by omega⟩
theorem layPrs : ∀ ps : List (Int × Int), PyData.canLayAll0 (ps.map pD) = true ∧ PyData.depthAll (ps.map pD) ≤ 3
  | [] => ⟨rfl, by simp [PyData.depthAll]⟩
  | p :: r => by
    have h := layPrs r
    simp only [List.map_cons, PyData.canLayAll0, PyData.canLay0, PyData.depthAll, PyData.depth, pD, h.1]
    exact ⟨rfl, by omega⟩
theorem shInts (ns : List Int) : SeqAt.shaped (intsD ns) = true := by
  have h := layInts ns
  unfold SeqAt.shaped intsD
  rw [PyData.canLay0, h.1, Bool.true_and, PyData.depth]
  exact decide_eq_true (by omega)
theorem shPrs (ps : List (Int × Int)) : SeqAt.shaped (prsD ps) = true := by
  have h := layPrs ps
  unfold SeqAt.shaped prsD
  rw [PyData.canLay0, h.1, Bool.true_and, PyData.depth]
  exact decide_eq_true (by omega)
theorem eqvI (n m : Int) : PyData.eqv (.int n) (.int m) = decide (n = m) := by
  simp only [PyData.eqv]
  exact Bool.beq_eq_decide_eq _ _
theorem eqvInts : ∀ ns ms : List Int, PyData.eqvAll (ns.map PyData.int) (ms.map PyData.int) = decide (ns = ms)
  | [], [] => by simp [PyData.eqvAll]
  | [], _ :: _ => by simp [PyData.eqvAll]
  | _ :: _, [] => by simp [PyData.eqvAll]
  | n :: r, m :: t => by
    rw [List.map_cons, List.map_cons, PyData.eqvAll, eqvI, eqvInts r t]
    by_cases h : n = m <;> by_cases h2 : r = t <;> simp [h, h2]
theorem eqvIntsD (ns ms : List Int) : PyData.eqv (intsD ns) (intsD ms) = decide (ns = ms) := by
  unfold intsD
  rw [PyData.eqv, eqvInts]
theorem eqvPrsSame (ps : List (Int × Int)) : PyData.eqv (prsD ps) (prsD ps) = true := SeqAt.eqv_refl _ (by unfold prsD; rw [PyData.canLay0]; exact (layPrs ps).1)
end Lp

namespace Lp
open PySem PySem.Spec PyProof.Rows L2
open Evl (Ex)
/-- rising numbers of links -/
def Rising (links : Int) : Int → List Int → Prop
  | _, [] => True
  | b, l :: r => b < l ∧ l < links ∧ Rising links l r
def lastOr (b : Int) : List Int → Int
  | [] => b
  | l :: r => lastOr l r
theorem lastOr_snoc : ∀ (b : Int) (pre : List Int) (y : Int), lastOr b (pre ++ [y]) = y
  | _, [], _ => rfl
  | _, l :: r, y => lastOr_snoc l r y
theorem rising_snoc {links : Int} : ∀ {b : Int} {pre post : List Int}, Rising links b (pre ++ post) ↔ Rising links b pre ∧ Rising links (lastOr b pre) post
  | b, [], post => ⟨fun h => ⟨trivial, h⟩, fun h => h.2⟩
  | b, l :: r, post => by
    show (b < l ∧ l < links ∧ Rising links l (r ++ post)) ↔ (b < l ∧ l < links ∧ Rising links l r) ∧ Rising links (lastOr l r) post
    rw [rising_snoc (b := l) (pre := r) (post := post)]
    exact ⟨fun ⟨a, c, d, e⟩ => ⟨⟨a, c, d⟩, e⟩, fun ⟨⟨a, c, d⟩, e⟩ => ⟨a, c, d, e⟩⟩
def RowOk (links : Int) : Prop := 1 ≤ links ∧ links ≤ 1000000000000000000000000000000
def OpenOk (links : Int) (ns : List Int) : Prop := ns.length ≤ 100 ∧ Rising links (-1) ns
/-- one opened link more -/
def pcStep (s : Int × List (Int × Int)) (l : Int) : Int × List (Int × Int) := (l + 1, s.2 ++ ((if s.1 < l then [(s.1, l - s.1)] else []) ++ [(l, 1)]))
def pcEnd (links : Int) (s : Int × List (Int × Int)) : List (Int × Int) := s.2 ++ (if s.1 < links then [(s.1, links - s.1)] else [])
/-- the pieces of a row -/
def pcs (links : Int) (ns : List Int) : List (Int × Int) := pcEnd links (ns.foldl pcStep (0, []))
theorem pcFold_len : ∀ (ns : List Int) (s : Int × List (Int × Int)), (ns.foldl pcStep s).2.length ≤ s.2.length + 2 * ns.length
  | [], s => by simp
  | l :: r, s => by
    have h := pcFold_len r (pcStep s l)
    have h2 : (pcStep s l).2.length ≤ s.2.length + 2 := by
      show (s.2 ++ ((if s.1 < l then [(s.1, l - s.1)] else []) ++ [(l, 1)])).length ≤ _
      split <;> simp
    rw [List.foldl_cons, List.length_cons]
    omega
def cell (ns : List Int) (k : Int) : Int := ns.getD k.toNat 0
def nxt (n : Int) : Int := (n * 48271 + 12345) % 2147483647
theorem rising_of : ∀ {links : Int} {b : Int} {os : List Int}, os.Pairwise (· ≤ ·) → os.Nodup → (∀ l ∈ os, b < l ∧ l < links) → Rising links b os
  | _, _, [], _, _, _ => trivial
  | links, b, l :: r, h1, h2, h3 => by
    have a1 := List.pairwise_cons.mp h1
    have a2 := List.nodup_cons.mp h2
    refine ⟨(h3 l List.mem_cons_self).1, (h3 l List.mem_cons_self).2, rising_of a1.2 a2.2 fun x hx => ⟨?_, (h3 x (List.mem_cons_of_mem _ hx)).2⟩⟩
    have c1 := a1.1 x hx
    have c2 : l ≠ x := fun e => a2.1 (e ▸ hx)
    omega
theorem inV_int (x : Int) (ns : List Int) : inV (.int x) (ns.map V.int) = decide (x ∈ ns) := by
  unfold inV
  rw [List.any_map]
  by_cases h : x ∈ ns
  · rw [decide_eq_true h]
    refine List.any_eq_true.mpr ⟨x, h, ?_⟩
    simp [eqV]
  · rw [decide_eq_false h]
    refine List.any_eq_false.mpr fun y hy => ?_
    simp [eqV]
    rintro rfl
    exact h hy
theorem flatInts (ns : List Int) : (ns.map V.int).all flatV = true := by
  rw [List.all_map]
  exact List.all_eq_true.mpr fun _ _ => rfl
end Lp
namespace Lp
open PySem PySem.Spec PyProof.Rows L2
open Evl (Ex)
theorem pcs_len (links : Int) (ns : List Int) : (pcs links ns).length ≤ 2 * ns.length + 1 := by
  have h := pcFold_len ns (0, [])
  unfold pcs pcEnd
  rw [List.length_append]
  simp at h
  split <;> simp <;> omega
end Lp

namespace Lp
open PySem PySem.Spec PyProof.Rows L2
open Evl (Ex)
def topS (i : Nat) : Stmt := PySem.Challenge.pw_linkpay_k01_pieces_told.main.body.getD i (.Pass ⟨0, 0, 0, 0⟩)
abbrev s_asked_links : Stmt := topS 7
theorem sc_asked_links : FnScope ["links"] ["links"] (defScope s_asked_links) := ⟨rfl, rfl, rfl, by decide +kernel, rfl, by decide +kernel, by decide +kernel⟩
abbrev s_asked_row : Stmt := topS 8
theorem sc_asked_row : FnScope ["links", "opened", "before", "link"] ["links", "opened"] (defScope s_asked_row) := ⟨rfl, rfl, rfl, by decide +kernel, rfl, by decide +kernel, by decide +kernel⟩
abbrev s_pieces_of : Stmt := topS 9
theorem sc_pieces_of : FnScope ["links", "opened", "found", "begin", "link"] ["links", "opened"] (defScope s_pieces_of) := ⟨rfl, rfl, rfl, by decide +kernel, rfl, by decide +kernel, by decide +kernel⟩
abbrev s_pieces : Stmt := topS 10
theorem sc_pieces : FnScope ["links", "opened"] ["links", "opened"] (defScope s_pieces) := ⟨rfl, rfl, rfl, by decide +kernel, rfl, by decide +kernel, by decide +kernel⟩
abbrev s_law_cell_at : Stmt := topS 12
theorem sc_law_cell_at : FnScope ["script", "k"] ["script", "k"] (defScope s_law_cell_at) := ⟨rfl, rfl, rfl, by decide +kernel, rfl, by decide +kernel, by decide +kernel⟩
abbrev s_law_next : Stmt := topS 13
theorem sc_law_next : FnScope ["seed"] ["seed"] (defScope s_law_next) := ⟨rfl, rfl, rfl, by decide +kernel, rfl, by decide +kernel, by decide +kernel⟩
abbrev s_law_whole : Stmt := topS 14
theorem sc_law_whole : FnScope ["found"] ["found"] (defScope s_law_whole) := ⟨rfl, rfl, rfl, by decide +kernel, rfl, by decide +kernel, by decide +kernel⟩
abbrev s_law_row_by : Stmt := topS 15
theorem sc_law_row_by : FnScope ["script", "most", "links", "opened", "k", "cell", "link"] ["script", "most"] (defScope s_law_row_by) := ⟨rfl, rfl, rfl, by decide +kernel, rfl, by decide +kernel, by decide +kernel⟩
abbrev s_law_pieces : Stmt := topS 16
theorem sc_law_pieces : FnScope ["links", "opened", "found", "begin", "link"] ["links", "opened"] (defScope s_law_pieces) := ⟨rfl, rfl, rfl, by decide +kernel, rfl, by decide +kernel, by decide +kernel⟩
abbrev s_law : Stmt := topS 17
theorem sc_law : FnScope ["script", "links", "opened", "due", "handed", "lap", "found", "piece"] ["script"] (defScope s_law) := ⟨rfl, rfl, rfl, by decide +kernel, rfl, by decide +kernel, by decide +kernel⟩
def sp_law_next : Sp := fun vs H Q _ => ∃ n : Int, vs = [.int n] ∧ Q (.int (nxt n)) H
section
variable {P : Program} {w : World} {K : PySem.W.Frag} {mg : Str → Option Value} {base : Heap}
theorem ok_law_next {f : Addr} {fd : FuncData} (F : Fun K "_law_next" "_law_next" s_law_next f fd) (T : Bl mg) : FnOk P w K mg base (L2.CX P w) 1 f fd ["seed"] (sp_law_next ) := by
  refine F.okX sc_law_next (fun vs H Q E h => ?_) (fun cdv A outer s H vs Q E hr h => ?_)
  · obtain ⟨n, rfl, _⟩ := h
    rfl
  · obtain ⟨n, rfl, q⟩ := h
    have hu := hu_of hr
    refine ⟨_, (pss_one (ps_ret (pe_op op_mod (pe_op op_add (pe_op op_mul (pv 0) pe_int) pe_int) pe_int))), ?_⟩
    exact ⟨_, rfl, _, _, rfl, rfl, .inr ⟨by decide, by decide⟩, _, _, rfl, rfl, _, _, rfl, rfl, (by decide : (0 : Int) < 2147483647), q⟩
end
def sp_law_cell_at (K : PySem.W.Frag) : Sp := fun vs H Q _ => ∃ (a : Addr) (ns : List Int) (k : Int), vs = [.ref a, .int k] ∧ SqL K H a (ns.map V.int) ∧ 0 ≤ k ∧ Q (.int (cell ns k)) H
section
variable {P : Program} {w : World} {K : PySem.W.Frag} {mg : Str → Option Value} {base : Heap}
theorem ok_law_cell_at {f : Addr} {fd : FuncData} (F : Fun K "_law_cell_at" "_law_cell_at" s_law_cell_at f fd) (T : Bl mg) : FnOk P w K mg base (L2.CX P w) 1 f fd ["script", "k"] (sp_law_cell_at K) := by
  refine F.okX sc_law_cell_at (fun vs H Q E h => ?_) (fun cdv A outer s H vs Q E hr h => ?_)
  · obtain ⟨a, ns, k, rfl, _⟩ := h
    rfl
  · obtain ⟨a, ns, k, rfl, hS, hk, q⟩ := h
    have hu := hu_of hr
    refine ⟨_, (pss_cons (ps_if (pt_cmpR op_lt (pv 1) (pe_callB call_len_seq (by rfl) T.b_len (by decide +kernel) (pa_cons (pv 0) pa_nil)) (nomark _))
      (pss_one (ps_ret (pe_ix ix_list (pv 0) (pv 1) (fun _ _ => rfl)))) pss_nil)
      (pss_one (ps_ret pe_int))), ?_⟩
    refine ⟨_, rfl, _, rfl, a, _, rfl, .inl hS, _, _, rfl, rfl, _, rfl, ?_⟩
    rw [List.length_map]
    refine iteD (fun h => ?_) (fun h => ?_)
    · have hi : k.toNat < ns.length := by omega
      refine ⟨_, rfl, _, rfl, a, _, k, .int ns[k.toNat], rfl, rfl, hS, ?_, ?_⟩
      · refine at_of (j := k.toNat) (by omega) ?_
        rw [List.getElem?_map, List.getElem?_eq_getElem hi]
        rfl
      · unfold cell at q
        rw [List.getD_eq_getElem?_getD, List.getElem?_eq_getElem hi] at q
        exact q
    · unfold cell at q
      rw [List.getD_eq_getElem?_getD, List.getElem?_eq_none (by omega)] at q
      exact q
end
/-- a row of links, and opened ones -/
def sp_law_row_by (K : PySem.W.Frag) : Sp := fun vs H Q _ => ∃ (a : Addr) (ns : List Int) (most : Int), vs = [.ref a, .int most] ∧ SqL K H a (ns.map V.int) ∧ 0 ≤ most ∧ most ≤ 1000 ∧
  ∀ (t o : Addr) H' (links : Int) (os : List Int), H t = none → H o = none → t ≠ o → Ex H H' → H' t = some (.tup [.int links, .ref o]) → Ints H' o os → RowOk links → Rising links (-1) os → (os.length : Int) ≤ most → Q (.ref t) H'
section
variable {P : Program} {w : World} {K : PySem.W.Frag} {mg : Str → Option Value} {base : Heap}
theorem ok_law_row_by {f : Addr} {fd : FuncData} (F : Fun K "_law_row_by" "_law_row_by" s_law_row_by f fd) (T : Bl mg) (C_law_next : Cal P w K mg base 1 "_law_next" ["seed"] (sp_law_next )) (C_law_cell_at : Cal P w K mg base 1 "_law_cell_at" ["script", "k"] (sp_law_cell_at K)) : FnOk P w K mg base (L2.CX P w) 2 f fd ["script", "most"] (sp_law_row_by K) := by
  refine F.okX sc_law_row_by (fun vs H Q E h => ?_) (fun cdv A outer s H vs Q E hr h => ?_)
  · obtain ⟨a, ns, most, rfl, _⟩ := h
    rfl
  · obtain ⟨a, ns, most, rfl, hS, hm0, hm1, q⟩ := h
    have hu := hu_of hr
    refine ⟨_, (pss_cons (ps_set (i := 2) sc_law_row_by.nd rfl (.inl rfl) (pe_op op_add pe_int (pe_op op_mod (pe_call C_law_next.ok (hr.mono (by decide)) (by rfl) C_law_next.gl C_law_next.kp C_law_next.bd .nil (passes_call (takes_of rfl rfl rfl rfl) (fun _ _ _ _ h => h)) (pa_cons (pe_call C_law_cell_at.ok (hr.mono (by decide)) (by rfl) C_law_cell_at.gl C_law_cell_at.kp C_law_cell_at.bd .nil (passes_call (takes_of rfl rfl rfl rfl) (fun _ _ _ _ h => h)) (pa_cons (pv 0) (pa_cons pe_int pa_nil))) pa_nil)) pe_int)))
      (Evl.pss_cut (ps_if (pt_cmpR op_eq (pe_op op_mod (pe_call C_law_cell_at.ok (hr.mono (by decide)) (by rfl) C_law_cell_at.gl C_law_cell_at.kp C_law_cell_at.bd .nil (passes_call (takes_of rfl rfl rfl rfl) (fun _ _ _ _ h => h)) (pa_cons (pv 0) (pa_cons pe_int pa_nil))) pe_int) pe_int (nomark _))
      (pss_one (ps_set (i := 2) sc_law_row_by.nd rfl (.inl rfl) (pe_op op_add pe_int (pe_op op_mod (pe_call C_law_cell_at.ok (hr.mono (by decide)) (by rfl) C_law_cell_at.gl C_law_cell_at.kp C_law_cell_at.bd .nil (passes_call (takes_of rfl rfl rfl rfl) (fun _ _ _ _ h => h)) (pa_cons (pv 0) (pa_cons pe_int pa_nil))) (pe_op op_pow pe_int pe_int))))) pss_nil)
      (pss_cons (ps_set (i := 3) sc_law_row_by.nd rfl (.inl rfl) (pe_lst pa_nil))
      (pss_cons (ps_for (passes_of rfl) rfl (pi_range1 rfl T.b_range (pa_cons (pe_op op_mod (pe_call C_law_cell_at.ok (hr.mono (by decide)) (by rfl) C_law_cell_at.gl C_law_cell_at.kp C_law_cell_at.bd .nil (passes_call (takes_of rfl rfl rfl rfl) (fun _ _ _ _ h => h)) (pa_cons (pv 0) (pa_cons pe_int pa_nil))) (pe_op op_add (pv 1) pe_int)) pa_nil)) (pg_name (i := 4) sc_law_row_by.nd rfl (.inl rfl))
      (pss_cons (ps_set (i := 5) sc_law_row_by.nd rfl (.inl rfl) (pe_call C_law_cell_at.ok (hr.mono (by decide)) (by rfl) C_law_cell_at.gl C_law_cell_at.kp C_law_cell_at.bd .nil (passes_call (takes_of rfl rfl rfl rfl) (fun _ _ _ _ h => h)) (pa_cons (pv 0) (pa_cons (pe_op op_add pe_int (pv 4)) pa_nil))))
      (Evl.pss_cut (ps_if (PW.pt (pw_and (pt_cmpR op_eq (pe_op op_mod (pv 5) pe_int) pe_int (nomark _)) (pw_and1 (pt_cmpR op_gt (pe_callB call_len_seq (by rfl) T.b_len (by decide +kernel) (pa_cons (pv 3) pa_nil)) pe_int (nomark _)))))
      (pss_one (ps_set (i := 6) sc_law_row_by.nd rfl (.inl rfl) (pe_op op_add (pe_op op_add (pe_ix ix_list (pv 3) (pe_un un_neg pe_int) (fun _ _ => rfl)) pe_int) (pe_op op_mod (pe_op op_fdiv (pv 5) pe_int) pe_int)))) (pss_one (ps_set (i := 6) sc_law_row_by.nd rfl (.inl rfl) (pe_op op_mod (pe_op op_fdiv (pv 5) pe_int) (pv 2)))))
      (pss_one (ps_if (PW.pt (pw_and (pt_cmpR op_lt (pv 6) (pv 2) (nomark _)) (pw_and1 (pt_cmpR op_notIn_seq (pv 6) (pv 3) (by rfl)))))
      (pss_one (ps_expr (pe_bm PySem.F.plainAttrs_list PySem.F.slot_list_append PySem.F.type_list_append mt_append (pv 3) (pa_cons (pv 6) pa_nil)))) pss_nil)))))
      (pss_one (ps_ret (pe_tup (pa_cons (pv 2) (pa_cons (pe_callB cr_sortedI (by rfl) T.b_sorted (by decide +kernel) (pa_cons (pv 3) pa_nil)) pa_nil))))))))), ?_⟩
    refine ⟨_, rfl, a, ns, 0, rfl, hS, by decide, _, rfl, _, _, rfl, rfl, (by decide : (0 : Int) < 40), _, _, rfl, rfl, ?_⟩
    have ha40 : 0 ≤ nxt (cell ns 0) % 40 ∧ nxt (cell ns 0) % 40 < 40 := by omega
    refine ⟨fun σ2 H2 => H2 = H ∧ ∃ links, RowOk links ∧ σ2 = [some (.ref a), some (.int most), some (.int links), none, none, none, none], ?_, ?_⟩
    · refine ⟨_, rfl, a, ns, 1, rfl, hS, by decide, _, _, rfl, rfl, (by decide : (0 : Int) < 4), rfl, _, rfl, ?_⟩
      refine iteE (fun h => ?_) (fun h => ?_)
      · refine ⟨_, rfl, a, ns, 0, rfl, hS, by decide, _, _, rfl, rfl, ⟨by decide, by decide, by decide⟩, _, _, rfl, rfl, (by decide : (0 : Int) < 10 ^ (30 : Int).toNat), _, _, rfl, rfl, rfl, _, ?_, rfl⟩
        have e : (10 : Int) ^ (30 : Int).toNat = 1000000000000000000000000000000 := by decide
        unfold RowOk
        rw [e]
        omega
      · refine ⟨rfl, _, ?_, rfl⟩
        unfold RowOk
        omega
    · rintro σ2 H2 ⟨rfl, links, hr, rfl⟩
      refine ⟨Nat.zero_le _, fun o no => ?_⟩
      obtain ⟨e1, ho⟩ := nw no (.lst [])
      refine ⟨_, rfl, a, ns, 2, rfl, Evl.ex_l e1 hS, by decide, _, rfl, _, _, rfl, rfl, _, _, rfl, rfl, (by omega : (0 : Int) < most + 1), ?_⟩
      have hm : 0 ≤ cell ns 2 % (most + 1) ∧ cell ns 2 % (most + 1) < most + 1 := ⟨Int.emod_nonneg _ (by omega), Int.emod_lt_of_pos _ (by omega)⟩
      refine ⟨_, rfl, by omega, by omega, ?_⟩
      refine for_range (lo := 0) (fun i σ' H' => Ex H2 H' ∧ ∃ acc v4 v5 v6, σ' = [some (.ref a), some (.int most), some (.int links), some (.ref o), v4, v5, v6] ∧ Ints H' o acc ∧ acc.Nodup ∧ (∀ l ∈ acc, -1 < l ∧ l < links) ∧ acc.length ≤ i) ?_ ?_ ?_
      · exact ⟨e1, [], none, none, none, rfl, ho, List.nodup_nil, (fun _ h => nomatch h), Nat.zero_le _⟩
      · rintro i σ' H' hi ⟨e2, acc, v4, v5, v6, rfl, hacc, hnd, hb, hlen⟩
        refine ⟨_, rfl, _, rfl, _, _, rfl, rfl, a, ns, _, rfl, Evl.ex_l e2 hS, by omega, ?_⟩
        generalize cell ns (3 + (0 + (i : Int))) = c
        refine ⟨fun σ3 H3 => H3 = H' ∧ ∃ link : Int, -1 < link ∧ σ3 = [some (.ref a), some (.int most), some (.int links), some (.ref o), some (.int (0 + (i : Int))), some (.int c), some (.int link)], ?_, ?_⟩
        · have other : -1 < c / 3 % links := by
            have := Int.emod_nonneg (c / 3) (show links ≠ 0 by unfold RowOk at hr; omega)
            omega
          refine ⟨_, rfl, _, _, rfl, rfl, (by decide : (0 : Int) < 3), rfl, _, rfl, ?_⟩
          refine iteE (fun h => ?_) (fun h => ?_)
          · refine ⟨_, rfl, o, _, rfl, .inl hacc.sq, _, _, rfl, rfl, _, rfl, ?_⟩
            refine iteD (fun h2 => ?_) (fun h2 => ?_)
            · rcases List.eq_nil_or_concat acc with rfl | ⟨ini, la, rfl⟩
              · exact absurd h2 (by simp)
              · rw [List.concat_eq_append] at *
                have hla := hb la (by simp)
                refine ⟨_, rfl, _, rfl, o, _, _, .int la, rfl, rfl, hacc.sq, ?_, _, _, rfl, rfl, _, rfl, _, _, rfl, rfl, ⟨(by decide : (0 : Int) < 3), (by decide : (3 : Int) < 1073741824)⟩, _, _, rfl, rfl, (by decide : (0 : Int) < 4), _, _, rfl, rfl, rfl, _, ?_, rfl⟩
                · rw [List.map_append]
                  exact atI_last _ _
                · omega
            · exact ⟨_, rfl, _, _, rfl, rfl, ⟨(by decide : (0 : Int) < 3), (by decide : (3 : Int) < 1073741824)⟩, _, rfl, _, _, rfl, rfl, (by unfold RowOk at hr; omega : (0 : Int) < links), rfl, _, other, rfl⟩
          · exact iteF ⟨_, rfl, _, _, rfl, rfl, ⟨(by decide : (0 : Int) < 3), (by decide : (3 : Int) < 1073741824)⟩, _, rfl, _, _, rfl, rfl, (by unfold RowOk at hr; omega : (0 : Int) < links), rfl, _, other, rfl⟩
        · rintro σ3 H3 ⟨rfl, link, hl0, rfl⟩
          refine ⟨_, rfl, _, rfl, _, _, rfl, rfl, _, rfl, ?_⟩
          have stay : Ex H2 H3 ∧ ∃ acc v4 v5 v6, [some (V.ref a), some (V.int most), some (V.int links), some (V.ref o), some (V.int (0 + (i : Int))), some (V.int c), some (V.int link)] = [some (V.ref a), some (V.int most), some (V.int links), some (V.ref o), v4, v5, v6] ∧ Ints H3 o acc ∧ acc.Nodup ∧ (∀ l ∈ acc, -1 < l ∧ l < links) ∧ acc.length ≤ i + 1 :=
            ⟨e2, acc, _, _, _, rfl, hacc, hnd, hb, by omega⟩
          refine iteD (fun h1 => ?_) (fun h1 => iteF stay)
          refine ⟨_, rfl, _, rfl, o, _, rfl, .inl hacc.sq, rfl, flatInts _, (!decide (link ∈ acc)), congrArg V.bl (by rw [← inV_int]; rfl), ?_⟩
          refine iteN (fun h2 => stay) (fun h2 => ?_)
          refine ⟨_, rfl, .inl ⟨rfl, _, hacc.sq⟩, _, rfl, o, _, _, rfl, rfl, hacc, sz_small (by rw [List.length_map]; omega), ?_⟩
          refine ⟨e2.mut no, acc ++ [link], _, _, _, rfl, ?_, ?_, ?_, ?_⟩
          · show upd _ _ _ _ = _
            rw [upd_same, List.map_append]
            rfl
          · refine List.nodup_append.mpr ⟨hnd, by simp, fun x hx y hy e => ?_⟩
            rw [List.mem_singleton.mp hy] at e
            exact h2 (e ▸ hx)
          · intro l hl
            rcases List.mem_append.mp hl with h | h
            · exact hb l h
            · rw [List.mem_singleton.mp h]
              exact ⟨hl0, h1⟩
          · rw [List.length_append]
            simp
            omega
      · rintro σ' H' ⟨e2, acc, v4, v5, v6, rfl, hacc, hnd, hb, hlen⟩
        refine ⟨_, rfl, _, rfl, o, acc, rfl, hacc.sq, fun os p2 perm sorted np2 => ⟨le2, fun t nt => ?_⟩⟩
        obtain ⟨e3, hp2⟩ := nw np2 (.lst (os.map V.int))
        obtain ⟨e4, ht⟩ := nw nt (.tup [.int links, .ref p2])
        refine q t p2 _ links os (Evl.fresh_back (e2.trans e3) nt) (Evl.fresh_back e2 np2) (Ne.symm (ne_of_none hp2 nt)) ((e2.trans e3).trans e4) ht (e4 _ _ hp2) hr ?_ ?_
        · exact rising_of sorted (perm.nodup_iff.mpr hnd) fun l hl => hb l (perm.mem_iff.mp hl)
        · rw [perm.length_eq]
          omega
end
def lpStep (links : Int) (s : Int × List (Int × Int)) (l : Int) : Int × List (Int × Int) := (l + 1, s.2 ++ ((if s.1 < l then [(s.1, l - s.1)] else []) ++ (if l < links then [(l, 1)] else [])))
theorem lpFold_same {links : Int} : ∀ (ns : List Int) (b : Int) (s : Int × List (Int × Int)), Rising links b ns → ns.foldl (lpStep links) s = ns.foldl pcStep s
  | [], _, _, _ => rfl
  | l :: r, b, s, h => by
    rw [List.foldl_cons, List.foldl_cons]
    have e : lpStep links s l = pcStep s l := by
      unfold lpStep pcStep
      rw [if_pos h.2.1]
    rw [e]
    exact lpFold_same r l _ h.2.2
theorem lpAll {links : Int} {ns : List Int} (h : Rising links (-1) ns) : ((ns ++ [links]).foldl (lpStep links) (0, [])).2 = pcs links ns := by
  rw [List.foldl_append, lpFold_same ns _ _ h]
  unfold pcs pcEnd
  show _ ++ (_ ++ (if links < links then _ else _)) = _
  rw [if_neg (Int.lt_irrefl _), List.append_nil]
theorem lpFold_len (links : Int) : ∀ (ns : List Int) (s : Int × List (Int × Int)), (ns.foldl (lpStep links) s).2.length ≤ s.2.length + 2 * ns.length
  | [], s => by simp
  | l :: r, s => by
    have h := lpFold_len links r (lpStep links s l)
    have h2 : (lpStep links s l).2.length ≤ s.2.length + 2 := by
      show (s.2 ++ ((if s.1 < l then [(s.1, l - s.1)] else []) ++ (if l < links then [(l, 1)] else []))).length ≤ _
      split <;> split <;> simp
    rw [List.foldl_cons, List.length_cons]
    omega
def sp_law_pieces : Sp := fun vs H Q _ => ∃ (links : Int) (p : Addr) (ns : List Int), vs = [.int links, .ref p] ∧ Ints H p ns ∧ ns.length ≤ 1000 ∧ Rising links (-1) ns ∧
  ∀ o H', H o = none → Ex H H' → Prs H' o (pcs links ns) → Q (.ref o) H'
section
variable {P : Program} {w : World} {K : PySem.W.Frag} {mg : Str → Option Value} {base : Heap}
theorem ok_law_pieces {f : Addr} {fd : FuncData} (F : Fun K "_law_pieces" "_law_pieces" s_law_pieces f fd) (T : Bl mg) : FnOk P w K mg base (L2.CX P w) 1 f fd ["links", "opened"] (sp_law_pieces ) := by
  refine F.okX sc_law_pieces (fun vs H Q E h => ?_) (fun cdv A outer s H vs Q E hr h => ?_)
  · obtain ⟨links, p, ns, rfl, _⟩ := h
    rfl
  · obtain ⟨links, p, ns, rfl, hp, hn, hri, q⟩ := h
    have hu := hu_of hr
    refine ⟨_, (pss_cons (ps_set (i := 2) sc_law_pieces.nd rfl (.inl rfl) (pe_lst pa_nil))
      (pss_cons (ps_set (i := 3) sc_law_pieces.nd rfl (.inl rfl) pe_int)
      (pss_cons (ps_for (passes_of rfl) rfl (pi_list (pe_op op_cat (pv 1) (pe_lst (pa_cons (pv 0) pa_nil)))) (pg_name (i := 4) sc_law_pieces.nd rfl (.inl rfl))
      (Evl.pss_cut (ps_if (pt_cmpR op_gt (pv 4) (pv 3) (nomark _))
      (pss_one (ps_expr (pe_bm PySem.F.plainAttrs_list PySem.F.slot_list_append PySem.F.type_list_append mt_append (pv 2) (pa_cons (pe_tup (pa_cons (pv 3) (pa_cons (pe_op op_sub (pv 4) (pv 3)) pa_nil))) pa_nil)))) pss_nil)
      (Evl.pss_cut (ps_if (pt_cmpR op_lt (pv 4) (pv 0) (nomark _))
      (pss_one (ps_expr (pe_bm PySem.F.plainAttrs_list PySem.F.slot_list_append PySem.F.type_list_append mt_append (pv 2) (pa_cons (pe_tup (pa_cons (pv 4) (pa_cons pe_int pa_nil))) pa_nil)))) pss_nil)
      (pss_one (ps_set (i := 3) sc_law_pieces.nd rfl (.inl rfl) (pe_op op_add (pv 4) pe_int))))))
      (pss_one (ps_ret (pv 2)))))), ?_⟩
    refine ⟨Nat.zero_le _, fun o no => ?_⟩
    obtain ⟨e1, ho⟩ := nw no (.lst [])
    refine ⟨_, rfl, _, rfl, le1, fun t nt => ?_⟩
    obtain ⟨e2, ht⟩ := nw nt (.lst [.int links])
    refine ⟨p, t, _, _, rfl, rfl, e2 _ _ (e1 _ _ hp), ht, by rw [List.length_map]; exact Nat.le_of_lt (sz_small (by show ns.length + 1 ≤ _; omega)), fun u nu => ?_⟩
    obtain ⟨e3, hu2⟩ := nw nu (.lst (ns.map V.int ++ [.int links]))
    have e13 := (e1.trans e2).trans e3
    have hou : Ints (upd (upd (upd H o (.lst [])) t (.lst [.int links])) u (.lst (ns.map V.int ++ [.int links]))) u (ns ++ [links]) := by
      show _ = _
      rw [hu2, List.map_append]
      rfl
    refine ⟨u, rfl, ⟨_, hou.sq⟩, ?_⟩
    have huo : u ≠ o := Ne.symm (ne_of_none (e2 _ _ ho) nu)
    refine for_pre (isI (ns ++ [links])) (fun pre σ' H' => Ex H H' ∧ Ints H' u (ns ++ [links]) ∧ Prs H' o (pre.foldl (lpStep links) (0, [])).2 ∧ ∃ v, σ' = [some (.int links), some (.ref p), some (.ref o), some (.int (pre.foldl (lpStep links) (0, [])).1), v]) ?_ (fun pre σ' H' ⟨_, a, _, _⟩ => a.sq) ?_ ?_
    · exact ⟨e13, hou, ⟨[], e3 _ _ (e2 _ _ ho), .nil⟩, none, rfl⟩
    · rintro pre y post x σ' H' e rfl ⟨ex, hiu, ⟨xs, hx, px⟩, v, rfl⟩
      have hlen : xs.length ≤ 2 * ns.length + 2 := by
        have h1 := lpFold_len links pre (0, [])
        rw [Paired.len px]
        have h2 : pre.length ≤ ns.length + 1 := by
          have := congrArg List.length e
          simp at this
          omega
        simp at h1
        omega
      have ef : (pre ++ [y]).foldl (lpStep links) (0, []) = lpStep links (pre.foldl (lpStep links) (0, [])) y := by rw [List.foldl_append]; rfl
      generalize hs : pre.foldl (lpStep links) (0, []) = s at *
      obtain ⟨b, acc⟩ := s
      refine ⟨fun σ2 H2 => σ2 = [some (.int links), some (.ref p), some (.ref o), some (.int b), some (.int y)] ∧ Ex H H2 ∧ Ints H2 u (ns ++ [links]) ∧ Prs H2 o (acc ++ (if b < y then [(b, y - b)] else [])), ?_, ?_⟩
      · refine ⟨_, rfl, _, rfl, _, _, rfl, rfl, _, rfl, ?_⟩
        refine iteD (fun hb => ?_) (fun hb => ?_)
        · refine ⟨_, rfl, .inl ⟨rfl, _, .inl (.inl hx)⟩, _, rfl, _, rfl, _, rfl, _, _, rfl, rfl, le2, fun t nt => ?_⟩
          obtain ⟨e2, ht⟩ := nw nt (.tup [.int b, .int (y - b)])
          refine ⟨o, xs, _, rfl, rfl, e2 _ _ hx, sz_small (by omega), ?_⟩
          refine ⟨rfl, (ex.trans e2).mut no, (upd_ne huo).trans (e2 _ _ hiu), ?_⟩
          rw [if_pos hb]
          exact ⟨_, upd_same, Paired.cat (Paired.imp px fun _ _ h => RP.mut (e2 _ _ hx) (RP.ex e2 h)) (.cons (RP.mut (e2 _ _ hx) ⟨t, rfl, ht⟩) .nil)⟩
        · refine ⟨rfl, ex, hiu, ?_⟩
          rw [if_neg hb, List.append_nil]
          exact ⟨xs, hx, px⟩
      · rintro σ2 H2 ⟨rfl, e2, hiu2, xs2, hx2, px2⟩
        have hl2 : xs2.length ≤ 2 * ns.length + 3 := by
          rw [Paired.len px2, List.length_append, ← Paired.len px]
          split <;> simp <;> omega
        refine ⟨fun σ3 H3 => σ3 = [some (.int links), some (.ref p), some (.ref o), some (.int b), some (.int y)] ∧ Ex H H3 ∧ Ints H3 u (ns ++ [links]) ∧ Prs H3 o (acc ++ ((if b < y then [(b, y - b)] else []) ++ (if y < links then [(y, 1)] else []))), ?_, ?_⟩
        · refine ⟨_, rfl, _, rfl, _, _, rfl, rfl, _, rfl, ?_⟩
          refine iteD (fun hb => ?_) (fun hb => ?_)
          · refine ⟨_, rfl, .inl ⟨rfl, _, .inl (.inl hx2)⟩, _, rfl, le2, fun t nt => ?_⟩
            obtain ⟨e3, ht⟩ := nw nt (.tup [.int y, .int 1])
            refine ⟨o, xs2, _, rfl, rfl, e3 _ _ hx2, sz_small (by omega), ?_⟩
            refine ⟨rfl, (e2.trans e3).mut no, (upd_ne huo).trans (e3 _ _ hiu2), ?_⟩
            rw [if_pos hb, ← List.append_assoc]
            exact ⟨_, upd_same, Paired.cat (Paired.imp px2 fun _ _ h => RP.mut (e3 _ _ hx2) (RP.ex e3 h)) (.cons (RP.mut (e3 _ _ hx2) ⟨t, rfl, ht⟩) .nil)⟩
          · refine ⟨rfl, e2, hiu2, ?_⟩
            rw [if_neg hb, List.append_nil]
            exact ⟨xs2, hx2, px2⟩
        · rintro σ3 H3 ⟨rfl, e3, hiu3, h3⟩
          refine ⟨_, rfl, _, _, rfl, rfl, ?_⟩
          rw [ef]
          exact ⟨e3, hiu3, h3, some (.int y), rfl⟩
    · rintro σ' H' ⟨ex, hiu, hpr, v, rfl⟩
      rw [lpAll hri] at hpr
      exact ⟨_, rfl, q o H' no ex hpr⟩
end
/-- refuses what is no row -/
def sp_asked_links (C : Addr) : Sp := fun vs H Q E => ∃ links : Int, vs = [.int links] ∧ (1 ≤ links ∧ links ≤ 1000000000000000000000000000000 → Q .non H) ∧
  (¬ (1 ≤ links ∧ links ≤ 1000000000000000000000000000000) → E (.ref C) none H)
section
variable {P : Program} {w : World} {K : PySem.W.Frag} {mg : Str → Option Value} {base : Heap}
theorem ok_asked_links {f : Addr} {fd : FuncData} (F : Fun K "asked_links" "asked_links" s_asked_links f fd) (T : Bl mg) (X_NoRow : Exo K mg "NoRow") {tMOST_LINKS : Tok} (hMOST_LINKS : mg "MOST_LINKS" = some (.int 1000000000000000000000000000000 tMOST_LINKS)) : FnOk P w K mg base (L2.CX P w) 1 f fd ["links"] (sp_asked_links X_NoRow.C) := by
  refine F.okX sc_asked_links (fun vs H Q E h => ?_) (fun cdv A outer s H vs Q E hr h => ?_)
  · obtain ⟨links, rfl, _⟩ := h
    rfl
  · obtain ⟨links, rfl, q, e⟩ := h
    have hu := hu_of hr
    refine ⟨_, (pss_one (ps_if (pt_not (pt_chain op_le op_le pe_int (pv 0) (pe_glob (v := .int 1000000000000000000000000000000) rfl hMOST_LINKS ⟨_, rfl⟩)))
      (pss_one (ps_raise rfl (takes_of rfl rfl rfl rfl) (X_NoRow.mk' (by rfl)))) pss_nil)), ?_⟩
    refine ⟨_, rfl, _, _, rfl, rfl, _, rfl, ?_⟩
    refine iteD (fun e1 => ?_) (fun e1 => ?_)
    · refine ⟨_, _, rfl, rfl, _, rfl, ?_⟩
      refine iteN (fun e2 => ?_) (fun e2 => ?_)
      · exact q ⟨e1, e2⟩
      · exact e (fun z => e2 z.2)
    · exact ⟨_, rfl, iteT (e (fun z => e1 z.1))⟩
end
/-- refuses what is no row with opened links -/
def sp_asked_row (CR CO : Addr) : Sp := fun vs H Q E => ∃ (links : Int) (p : Addr) (ns : List Int), vs = [.int links, .ref p] ∧ Ints H p ns ∧
  (RowOk links → OpenOk links ns → Q .non H) ∧ (¬ RowOk links → E (.ref CR) none H) ∧ (RowOk links → ¬ OpenOk links ns → E (.ref CO) none H)
section
variable {P : Program} {w : World} {K : PySem.W.Frag} {mg : Str → Option Value} {base : Heap}
theorem ok_asked_row {f : Addr} {fd : FuncData} (F : Fun K "asked_row" "asked_row" s_asked_row f fd) (T : Bl mg) (X_NoRow : Exo K mg "NoRow") (X_NoOpened : Exo K mg "NoOpened") {tMOST_OPENED : Tok} (hMOST_OPENED : mg "MOST_OPENED" = some (.int 100 tMOST_OPENED)) (C_asked_links : Cal P w K mg base 1 "asked_links" ["links"] (sp_asked_links X_NoRow.C)) : FnOk P w K mg base (L2.CX P w) 2 f fd ["links", "opened"] (sp_asked_row X_NoRow.C X_NoOpened.C) := by
  refine F.okX sc_asked_row (fun vs H Q E h => ?_) (fun cdv A outer s H vs Q E hr h => ?_)
  · obtain ⟨links, p, ns, rfl, _⟩ := h
    rfl
  · obtain ⟨links, p, ns, rfl, hp, q, e1, e2⟩ := h
    have hu := hu_of hr
    refine ⟨_, (pss_cons (ps_expr (pe_call C_asked_links.ok (hr.mono (by decide)) (by rfl) C_asked_links.gl C_asked_links.kp C_asked_links.bd .nil (passes_call (takes_of rfl rfl rfl rfl) (fun _ _ _ _ h => h)) (pa_cons (pv 0) pa_nil)))
      (pss_cons (ps_if (pt_cmpR op_gt (pe_callB call_len_seq (by rfl) T.b_len (by decide +kernel) (pa_cons (pv 1) pa_nil)) (pe_glob (v := .int 100) rfl hMOST_OPENED ⟨_, rfl⟩) (nomark _))
      (pss_one (ps_raise rfl (takes_of rfl rfl rfl rfl) (X_NoOpened.mk' (by rfl)))) pss_nil)
      (pss_cons (ps_set (i := 2) sc_asked_row.nd rfl (.inl rfl) (pe_un un_neg pe_int))
      (pss_one (ps_for (passes_of rfl) rfl (pi_list (pv 1)) (pg_name (i := 3) sc_asked_row.nd rfl (.inl rfl))
      (pss_cons (ps_if (pt_not (pt_chain op_lt op_lt (pv 2) (pv 3) (pv 0)))
      (pss_one (ps_raise rfl (takes_of rfl rfl rfl rfl) (X_NoOpened.mk' (by rfl)))) pss_nil)
      (pss_one (ps_set (i := 2) sc_asked_row.nd rfl (.inl rfl) (pv 3))))))))), ?_⟩
    refine ⟨_, rfl, links, rfl, fun hl => ?_, fun hl => e1 hl⟩
    refine ⟨_, rfl, p, _, rfl, .inl hp.sq, _, _, rfl, rfl, _, rfl, ?_⟩
    rw [List.length_map]
    refine iteD (fun h1 => e2 hl (fun z => ?_)) (fun h1 => ?_)
    · have := z.1
      omega
    · refine ⟨_, rfl, _, rfl, p, rfl, ⟨_, hp.sq⟩, ?_⟩
      refine for_pre (isI ns) (fun pre σ' H' => H' = H ∧ Rising links (-1) pre ∧ ∃ v, σ' = [some (.int links), some (.ref p), some (.int (lastOr (-1) pre)), v]) ⟨rfl, trivial, none, rfl⟩ (fun pre σ' H' ⟨a, _, _⟩ => (hp.ex (ex_refl' a)).sq) ?_ ?_
      · rintro pre y post x σ' H' e rfl ⟨rfl, hr2, v, rfl⟩
        have hall : Rising links (-1) ns ↔ Rising links (-1) pre ∧ lastOr (-1) pre < y ∧ y < links ∧ Rising links y post := by
          rw [e]
          exact rising_snoc
        refine ⟨_, rfl, _, rfl, _, _, rfl, rfl, _, rfl, ?_⟩
        refine iteD (fun h2 => ?_) (fun h2 => ?_)
        · refine ⟨_, rfl, _, _, rfl, rfl, _, rfl, ?_⟩
          refine iteN (fun h3 => ?_) (fun h3 => ?_)
          · refine ⟨_, rfl, rfl, ?_, some (.int y), ?_⟩
            · rw [rising_snoc]
              exact ⟨hr2, h2, h3, trivial⟩
            · rw [lastOr_snoc]
              rfl
          · exact e2 hl fun z => h3 (hall.mp z.2).2.2.1
        · exact ⟨_, rfl, iteT (e2 hl fun z => h2 (hall.mp z.2).2.1)⟩
      · rintro σ' H' ⟨rfl, hr2, v, rfl⟩
        exact q hl ⟨by omega, hr2⟩
end
def sp_pieces_of : Sp := fun vs H Q _ => ∃ (links : Int) (p : Addr) (ns : List Int), vs = [.int links, .ref p] ∧ Ints H p ns ∧ ns.length ≤ 1000 ∧
  ∀ o H', H o = none → Ex H H' → Prs H' o (pcs links ns) → Q (.ref o) H'
section
variable {P : Program} {w : World} {K : PySem.W.Frag} {mg : Str → Option Value} {base : Heap}
theorem ok_pieces_of {f : Addr} {fd : FuncData} (F : Fun K "pieces_of" "pieces_of" s_pieces_of f fd) (T : Bl mg) : FnOk P w K mg base (L2.CX P w) 1 f fd ["links", "opened"] (sp_pieces_of ) := by
  refine F.okX sc_pieces_of (fun vs H Q E h => ?_) (fun cdv A outer s H vs Q E hr h => ?_)
  · obtain ⟨links, p, ns, rfl, _⟩ := h
    rfl
  · obtain ⟨links, p, ns, rfl, hp, hn, q⟩ := h
    have hu := hu_of hr
    refine ⟨_, (pss_cons (ps_set (i := 2) sc_pieces_of.nd rfl (.inl rfl) (pe_lst pa_nil))
      (pss_cons (ps_set (i := 3) sc_pieces_of.nd rfl (.inl rfl) pe_int)
      (pss_cons (ps_for (passes_of rfl) rfl (pi_list (pv 1)) (pg_name (i := 4) sc_pieces_of.nd rfl (.inl rfl))
      (Evl.pss_cut (ps_if (pt_cmpR op_gt (pv 4) (pv 3) (nomark _))
      (pss_one (ps_expr (pe_bm PySem.F.plainAttrs_list PySem.F.slot_list_append PySem.F.type_list_append mt_append (pv 2) (pa_cons (pe_tup (pa_cons (pv 3) (pa_cons (pe_op op_sub (pv 4) (pv 3)) pa_nil))) pa_nil)))) pss_nil)
      (pss_cons (ps_expr (pe_bm PySem.F.plainAttrs_list PySem.F.slot_list_append PySem.F.type_list_append mt_append (pv 2) (pa_cons (pe_tup (pa_cons (pv 4) (pa_cons pe_int pa_nil))) pa_nil)))
      (pss_one (ps_set (i := 3) sc_pieces_of.nd rfl (.inl rfl) (pe_op op_add (pv 4) pe_int))))))
      (Evl.pss_cut (ps_if (pt_cmpR op_gt (pv 0) (pv 3) (nomark _))
      (pss_one (ps_expr (pe_bm PySem.F.plainAttrs_list PySem.F.slot_list_append PySem.F.type_list_append mt_append (pv 2) (pa_cons (pe_tup (pa_cons (pv 3) (pa_cons (pe_op op_sub (pv 0) (pv 3)) pa_nil))) pa_nil)))) pss_nil)
      (pss_one (ps_ret (pv 2))))))), ?_⟩
    refine ⟨Nat.zero_le _, fun o no => ?_⟩
    have hpo : p ≠ o := ne_of_none hp no
    refine ⟨_, rfl, p, rfl, ⟨_, (hp.ex (Evl.Ex.new no)).sq⟩, ?_⟩
    refine for_pre (isI ns) (fun pre σ' H' => Ex H H' ∧ Prs H' o (pre.foldl pcStep (0, [])).2 ∧ ∃ v, σ' = [some (.int links), some (.ref p), some (.ref o), some (.int (pre.foldl pcStep (0, [])).1), v]) ?_ (fun pre σ' H' ⟨a, _, _⟩ => (hp.ex a).sq) ?_ ?_
    · exact ⟨Evl.Ex.new no, ⟨[], upd_same, .nil⟩, none, rfl⟩
    · rintro pre y post x σ' H' e rfl ⟨ex, ⟨xs, hx, px⟩, v, rfl⟩
      have hlen : xs.length ≤ 2 * ns.length := by
        have h1 := pcFold_len pre (0, [])
        rw [Paired.len px]
        have h2 : pre.length ≤ ns.length := by
          rw [e]
          simp
        simp at h1
        omega
      have ef : (pre ++ [y]).foldl pcStep (0, []) = pcStep (pre.foldl pcStep (0, [])) y := by rw [List.foldl_append]; rfl
      generalize hs : pre.foldl pcStep (0, []) = s at *
      obtain ⟨b, acc⟩ := s
      refine ⟨fun σ2 H2 => σ2 = [some (.int links), some (.ref p), some (.ref o), some (.int b), some (.int y)] ∧ Ex H H2 ∧ Prs H2 o (acc ++ (if b < y then [(b, y - b)] else [])), ?_, ?_⟩
      · refine ⟨_, rfl, _, rfl, _, _, rfl, rfl, _, rfl, ?_⟩
        refine iteD (fun hb => ?_) (fun hb => ?_)
        · refine ⟨_, rfl, .inl ⟨rfl, _, .inl (.inl hx)⟩, _, rfl, _, rfl, _, rfl, _, _, rfl, rfl, le2, fun t nt => ?_⟩
          obtain ⟨e2, ht⟩ := nw nt (.tup [.int b, .int (y - b)])
          refine ⟨o, xs, _, rfl, rfl, e2 _ _ hx, sz_small (by omega), ?_⟩
          refine ⟨rfl, (ex.trans e2).mut no, ?_⟩
          rw [if_pos hb]
          exact ⟨_, upd_same, Paired.cat (Paired.imp px fun _ _ h => RP.mut (e2 _ _ hx) (RP.ex e2 h)) (.cons (RP.mut (e2 _ _ hx) ⟨t, rfl, ht⟩) .nil)⟩
        · refine ⟨rfl, ex, ?_⟩
          rw [if_neg hb, List.append_nil]
          exact ⟨xs, hx, px⟩
      · rintro σ2 H2 ⟨rfl, e2, xs2, hx2, px2⟩
        refine ⟨_, rfl, .inl ⟨rfl, _, .inl (.inl hx2)⟩, _, rfl, le2, fun t nt => ?_⟩
        obtain ⟨e3, ht⟩ := nw nt (.tup [.int y, .int 1])
        have hl2 : xs2.length ≤ 2 * ns.length + 1 := by
          rw [Paired.len px2, List.length_append, ← Paired.len px]
          split <;> simp <;> omega
        refine ⟨o, xs2, _, rfl, rfl, e3 _ _ hx2, sz_small (by omega), ?_⟩
        refine ⟨_, rfl, _, _, rfl, rfl, ?_⟩
        rw [ef]
        refine ⟨(e2.trans e3).mut no, ⟨_, upd_same, ?_⟩, some (.int y), rfl⟩
        show Paired _ _ (acc ++ ((if b < y then [(b, y - b)] else []) ++ [(y, 1)]))
        rw [← List.append_assoc]
        exact Paired.cat (Paired.imp px2 fun _ _ h => RP.mut (e3 _ _ hx2) (RP.ex e3 h)) (.cons (RP.mut (e3 _ _ hx2) ⟨t, rfl, ht⟩) .nil)
    · rintro σ' H' ⟨ex, ⟨xs, hx, px⟩, v, rfl⟩
      have hlen : xs.length ≤ 2 * ns.length := by
        have h1 := pcFold_len ns (0, [])
        rw [Paired.len px]
        simp at h1
        omega
      have hq : ∀ H2, Ex H H2 → Prs H2 o (pcEnd links (ns.foldl pcStep (0, []))) → Q (.ref o) H2 := fun H2 e2 h2 => q o H2 no e2 h2
      generalize hs : ns.foldl pcStep (0, []) = s at *
      obtain ⟨b, acc⟩ := s
      refine ⟨fun σ2 H2 => σ2 = [some (.int links), some (.ref p), some (.ref o), some (.int b), v] ∧ Ex H H2 ∧ Prs H2 o (pcEnd links (b, acc)), ?_, ?_⟩
      · refine ⟨_, rfl, _, rfl, _, _, rfl, rfl, _, rfl, ?_⟩
        refine iteD (fun hb => ?_) (fun hb => ?_)
        · refine ⟨_, rfl, .inl ⟨rfl, _, .inl (.inl hx)⟩, _, rfl, _, rfl, _, rfl, _, _, rfl, rfl, le2, fun t nt => ?_⟩
          obtain ⟨e2, ht⟩ := nw nt (.tup [.int b, .int (links - b)])
          refine ⟨o, xs, _, rfl, rfl, e2 _ _ hx, sz_small (by omega), ?_⟩
          refine ⟨rfl, (ex.trans e2).mut no, ?_⟩
          unfold pcEnd
          rw [if_pos hb]
          exact ⟨_, upd_same, Paired.cat (Paired.imp px fun _ _ h => RP.mut (e2 _ _ hx) (RP.ex e2 h)) (.cons (RP.mut (e2 _ _ hx) ⟨t, rfl, ht⟩) .nil)⟩
        · refine ⟨rfl, ex, ?_⟩
          unfold pcEnd
          rw [if_neg hb, List.append_nil]
          exact ⟨xs, hx, px⟩
      · rintro σ2 H2 ⟨rfl, e2, h2⟩
        exact ⟨_, rfl, hq H2 e2 h2⟩
end
def sp_pieces (CR CO : Addr) : Sp := fun vs H Q E => ∃ (links : Int) (p : Addr) (ns : List Int), vs = [.int links, .ref p] ∧ Ints H p ns ∧
  (RowOk links → OpenOk links ns → ∀ o H', H o = none → Ex H H' → Prs H' o (pcs links ns) → Q (.ref o) H') ∧
  (¬ RowOk links → E (.ref CR) none H) ∧ (RowOk links → ¬ OpenOk links ns → E (.ref CO) none H)
section
variable {P : Program} {w : World} {K : PySem.W.Frag} {mg : Str → Option Value} {base : Heap}
theorem ok_pieces {f : Addr} {fd : FuncData} (F : Fun K "pieces" "pieces" s_pieces f fd) (T : Bl mg) (X_NoRow : Exo K mg "NoRow") (X_NoOpened : Exo K mg "NoOpened") (C_asked_row : Cal P w K mg base 2 "asked_row" ["links", "opened"] (sp_asked_row X_NoRow.C X_NoOpened.C)) (C_pieces_of : Cal P w K mg base 1 "pieces_of" ["links", "opened"] (sp_pieces_of )) : FnOk P w K mg base (L2.CX P w) 3 f fd ["links", "opened"] (sp_pieces X_NoRow.C X_NoOpened.C) := by
  refine F.okX sc_pieces (fun vs H Q E h => ?_) (fun cdv A outer s H vs Q E hr h => ?_)
  · obtain ⟨links, p, ns, rfl, _⟩ := h
    rfl
  · obtain ⟨links, p, ns, rfl, hp, q, e1, e2⟩ := h
    have hu := hu_of hr
    refine ⟨_, (pss_cons (ps_expr (pe_call C_asked_row.ok (hr.mono (by decide)) (by rfl) C_asked_row.gl C_asked_row.kp C_asked_row.bd .nil (passes_call (takes_of rfl rfl rfl rfl) (fun _ _ _ _ h => h)) (pa_cons (pv 0) (pa_cons (pv 1) pa_nil))))
      (pss_one (ps_ret (pe_call C_pieces_of.ok (hr.mono (by decide)) (by rfl) C_pieces_of.gl C_pieces_of.kp C_pieces_of.bd .nil (passes_call (takes_of rfl rfl rfl rfl) (fun _ _ _ _ h => h)) (pa_cons (pv 0) (pa_cons (pv 1) pa_nil)))))), ?_⟩
    refine ⟨_, rfl, _, rfl, links, p, ns, rfl, hp, fun h1 h2 => ?_, e1, e2⟩
    exact ⟨_, rfl, _, rfl, links, p, ns, rfl, hp, by have := h2.1; omega, q h1 h2⟩
end
def sp_law_whole : Sp := fun vs H Q _ => ∃ n : Int, vs = [.int n] ∧ Q (.bl true) H
section
variable {P : Program} {w : World} {K : PySem.W.Frag} {mg : Str → Option Value} {base : Heap}
theorem ok_law_whole {f : Addr} {fd : FuncData} (F : Fun K "_law_whole" "_law_whole" s_law_whole f fd) (T : Bl mg) : FnOk P w K mg base (L2.CX P w) 1 f fd ["found"] (sp_law_whole ) := by
  refine F.okX sc_law_whole (fun vs H Q E h => ?_) (fun cdv A outer s H vs Q E hr h => ?_)
  · obtain ⟨n, rfl, _⟩ := h
    rfl
  · obtain ⟨n, rfl, q⟩ := h
    have hu := hu_of hr
    refine ⟨_, (pss_one (ps_ret (pe_and (pe_callB call_isi (by rfl) T.b_isinstance (by decide +kernel) (pa_cons (pv 0) (pa_cons (pe_bltn (v := .ty "int") (by rfl) T.b_int (by decide +kernel) rfl) pa_nil))) (pe_one (pe_not (pe_callB call_isi (by rfl) T.b_isinstance (by decide +kernel) (pa_cons (pv 0) (pa_cons (pe_bltn (v := .ty "bool") (by rfl) T.b_bool (by decide +kernel) rfl) pa_nil)))))))), ?_⟩
    refine ⟨_, rfl, _, _, _, _, true, rfl, .ty "int", .base (.int n), kit_ty (by decide +kernel), true, rfl, iteT ?_⟩
    exact ⟨_, rfl, _, _, _, _, false, rfl, .ty "bool", .base (.int n), kit_ty (by decide +kernel), false, rfl, q⟩
end
def sp_law (K : PySem.W.Frag) : Sp := fun vs H Q _ => ∃ (a : Addr) (ns : List Int), vs = [.ref a] ∧ SqL K H a (ns.map V.int) ∧ ∀ H', Q (.bl true) H'
section
variable {P : Program} {w : World} {K : PySem.W.Frag} {mg : Str → Option Value} {base : Heap}
theorem ok_law {f : Addr} {fd : FuncData} (F : Fun K "law" "law" s_law f fd) (T : Bl mg) (X_NoRow : Exo K mg "NoRow") (X_NoOpened : Exo K mg "NoOpened") (C_law_row_by : Cal P w K mg base 2 "_law_row_by" ["script", "most"] (sp_law_row_by K)) (C_law_pieces : Cal P w K mg base 1 "_law_pieces" ["links", "opened"] (sp_law_pieces )) (C_pieces : Cal P w K mg base 3 "pieces" ["links", "opened"] (sp_pieces X_NoRow.C X_NoOpened.C)) (C_law_whole : Cal P w K mg base 1 "_law_whole" ["found"] (sp_law_whole )) : FnOk P w K mg base (L2.CX P w) 4 f fd ["script"] (sp_law K) := by
  refine F.okX sc_law (fun vs H Q E h => ?_) (fun cdv A outer s H vs Q E hr h => ?_)
  · obtain ⟨a, ns, rfl, _⟩ := h
    rfl
  · obtain ⟨a, ns, rfl, hS, q⟩ := h
    have hu := hu_of hr
    refine ⟨_, (pss_cons (ps_asg (pe_call C_law_row_by.ok (hr.mono (by decide)) (by rfl) C_law_row_by.gl C_law_row_by.kp C_law_row_by.bd .nil (passes_call (takes_of rfl rfl rfl rfl) (fun _ _ _ _ h => h)) (pa_cons (pv 0) (pa_cons pe_int pa_nil))) (pg_tup rfl (pgs_cons (pg_name (i := 1) sc_law.nd rfl (.inl rfl)) (pgs_cons (pg_name (i := 2) sc_law.nd rfl (.inl rfl)) pgs_nil))))
      (pss_cons (ps_set (i := 3) sc_law.nd rfl (.inl rfl) (pe_call C_law_pieces.ok (hr.mono (by decide)) (by rfl) C_law_pieces.gl C_law_pieces.kp C_law_pieces.bd .nil (passes_call (takes_of rfl rfl rfl rfl) (fun _ _ _ _ h => h)) (pa_cons (pv 1) (pa_cons (pv 2) pa_nil))))
      (pss_cons (ps_set (i := 4) sc_law.nd rfl (.inl rfl) (pe_callTy call_list_of (by rfl) T.b_list (by decide +kernel) (pa_cons (pv 2) pa_nil)))
      (pss_cons (ps_for (passes_of rfl) rfl (pi_range1 rfl T.b_range (pa_cons pe_int pa_nil)) (pg_name (i := 5) sc_law.nd rfl (.inl rfl))
      (pss_cons (ps_set (i := 6) sc_law.nd rfl (.inl rfl) (pe_call C_pieces.ok (hr.mono (by decide)) (by rfl) C_pieces.gl C_pieces.kp C_pieces.bd .nil (passes_call (takes_of rfl rfl rfl rfl) (fun _ _ _ _ h => h)) (pa_cons (pv 1) (pa_cons (pv 4) pa_nil))))
      (pss_cons (ps_if (PW.pt (pw_or (pt_not (pt_val (pe_callB call_isi (by rfl) T.b_isinstance (by decide +kernel) (pa_cons (pv 6) (pa_cons (pe_bltn (v := .ty "list") (by rfl) T.b_list (by decide +kernel) rfl) pa_nil))))) (pw_or (pt_cmpR (op_neD hr.units) (pv 6) (pv 3) (nomark _)) (pw_or1 (pt_cmpR (op_neD hr.units) (pv 4) (pv 2) (nomark _))))))
      (pss_one (ps_ret pe_bl)) pss_nil)
      (pss_cons (ps_for (passes_of rfl) rfl (pi_list (pv 6)) (pg_name (i := 7) sc_law.nd rfl (.inl rfl))
      (pss_one (ps_if (PW.pt (pw_or (pt_not (pt_val (pe_callB call_isi (by rfl) T.b_isinstance (by decide +kernel) (pa_cons (pv 7) (pa_cons (pe_bltn (v := .ty "tuple") (by rfl) T.b_tuple (by decide +kernel) rfl) pa_nil))))) (pw_or (pt_not (pt_val (pe_call C_law_whole.ok (hr.mono (by decide)) (by rfl) C_law_whole.gl C_law_whole.kp C_law_whole.bd .nil (passes_call (takes_of rfl rfl rfl rfl) (fun _ _ _ _ h => h)) (pa_cons (pe_ix ix_tup (pv 7) pe_int (fun _ _ => rfl)) pa_nil)))) (pw_or1 (pt_not (pt_val (pe_call C_law_whole.ok (hr.mono (by decide)) (by rfl) C_law_whole.gl C_law_whole.kp C_law_whole.bd .nil (passes_call (takes_of rfl rfl rfl rfl) (fun _ _ _ _ h => h)) (pa_cons (pe_ix ix_tup (pv 7) pe_int (fun _ _ => rfl)) pa_nil))))))))
      (pss_one (ps_ret pe_bl)) pss_nil)))
      (pss_one (ps_expr (pe_bm PySem.F.plainAttrs_list PySem.F.slot_list_append PySem.F.type_list_append mt_append (pv 6) (pa_cons (pe_tup (pa_cons pe_int (pa_cons pe_int pa_nil))) pa_nil))))))))
      (pss_cons (ps_expr (pe_bm PySem.F.plainAttrs_list PySem.F.slot_list_append PySem.F.type_list_append mt_append (pv 4) (pa_cons (pv 1) pa_nil)))
      (pss_one (ps_ret (pe_cmpR (op_eqD hr.units) (pe_call C_pieces.ok (hr.mono (by decide)) (by rfl) C_pieces.gl C_pieces.kp C_pieces.bd .nil (passes_call (takes_of rfl rfl rfl rfl) (fun _ _ _ _ h => h)) (pa_cons (pv 1) (pa_cons (pv 2) pa_nil))) (pv 3) (nomark _))))))))), ?_⟩
    refine ⟨_, rfl, a, ns, 12, rfl, hS, by decide, by decide, fun t op H1 links os nt nop hto e1 ht hop hr hri hlen => ?_⟩
    refine ⟨t, _, rfl, .inl (.inl ht), rfl, _, _, rfl, _, _, rfl, rfl, ?_⟩
    refine ⟨_, rfl, _, rfl, links, op, os, rfl, hop, by omega, hri, fun du H2 ndu e2 hdu => ?_⟩
    refine ⟨_, rfl, op, _, rfl, .inl (hop.ex e2).sq, fun ha nha => ?_⟩
    obtain ⟨e3, hha⟩ := nw nha (.lst (os.map V.int))
    have hoh : op ≠ ha := ne_of_none (hop.ex e2) nha
    have hdh : du ≠ ha := by
      obtain ⟨xs, hx, _⟩ := hdu
      exact ne_of_none hx nha
    have hok : OpenOk links os := ⟨by omega, hri⟩
    have hxl := pcs_len links os
    refine ⟨_, rfl, by decide, by decide, ?_⟩
    refine for_range (lo := 0) (n := 2) (fun i σ' H' => Prs H' du (pcs links os) ∧ Ints H' op os ∧ Ints H' ha os ∧ ∃ v5 v6 v7, σ' = [some (.ref a), some (.int links), some (.ref op), some (.ref du), some (.ref ha), v5, v6, v7]) ?_ ?_ ?_
    · exact ⟨hdu.ex e3, (hop.ex e2).ex e3, hha, none, none, none, rfl⟩
    · rintro i σ' H' hi ⟨hdu, hop, hha, v5, v6, v7, rfl⟩
      refine ⟨_, rfl, _, rfl, links, ha, os, rfl, hha, fun _ _ fo H4 nfo e4 hfo => ?_, fun z => absurd hr z, fun _ z => absurd hok z⟩
      obtain ⟨xs, hx, px⟩ := id hfo
      refine ⟨_, rfl, _, _, _, _, true, rfl, .ty "list", .base (.lst hx), kit_ty (by decide +kernel), true, rfl, iteF ?_⟩
      refine ⟨_, rfl, _, rfl, prsD _, prsD _, hfo.dp, (hdu.ex e4).dp, shPrs _, shPrs _, false, congrArg V.bl (by rw [eqvPrsSame] <;> rfl), iteF ?_⟩
      refine ⟨_, rfl, _, rfl, intsD _, intsD _, dpInts (hha.ex e4), dpInts (hop.ex e4), shInts _, shInts _, false, congrArg V.bl (by rw [eqvIntsD, decide_eq_true rfl] <;> rfl), iteF ?_⟩
      refine ⟨_, rfl, fo, rfl, ⟨_, .inl (.inl hx)⟩, ?_⟩
      refine for_pre px (fun pre σ' H' => H' = H4 ∧ ∃ v, σ' = [some (.ref a), some (.int links), some (.ref op), some (.ref du), some (.ref ha), some (.int (0 + (i : Int))), some (.ref fo), v]) ⟨rfl, _, rfl⟩ (fun pre σ' H' ⟨z, _⟩ => .inl (.inl (z ▸ hx))) ?_ ?_
      · rintro pre y post x σ' H' e ⟨pa, rfl, hpa⟩ ⟨rfl, v, rfl⟩
        refine ⟨_, rfl, _, _, _, _, true, rfl, .ty "tuple", .base (.tup hpa), kit_ty (by decide +kernel), true, rfl, iteF ?_⟩
        refine ⟨_, rfl, pa, _, 0, _, rfl, rfl, .inl (.inl hpa), rfl, _, rfl, true, rfl, iteF ?_⟩
        exact ⟨_, rfl, pa, _, 1, _, rfl, rfl, .inl (.inl hpa), rfl, _, rfl, true, rfl, iteF ⟨rfl, _, rfl⟩⟩
      · rintro σ' H' ⟨rfl, v, rfl⟩
        refine ⟨_, rfl, .inl ⟨rfl, _, .inl (.inl hx)⟩, le2, fun t2 nt2 => ?_⟩
        obtain ⟨e5, ht2⟩ := nw nt2 (.tup [.int 0, .int 1])
        refine ⟨fo, xs, _, rfl, rfl, e5 _ _ hx, sz_small (by rw [Paired.len px]; omega), ?_⟩
        have e6 := (e4.trans e5).mut (o := .lst (xs ++ [.ref t2])) nfo
        exact ⟨hdu.ex e6, hop.ex e6, hha.ex e6, _, _, _, rfl⟩
    · rintro σ' H' ⟨hdu, hop, hha, v5, v6, v7, rfl⟩
      refine ⟨_, rfl, .inl ⟨rfl, _, hha.sq⟩, _, rfl, ha, _, _, rfl, rfl, hha, sz_small (by rw [List.length_map]; omega), ?_⟩
      have hop2 : Ints (upd H' ha (.lst (os.map V.int ++ [.int links]))) op os := (upd_ne hoh).trans hop
      have hdu2 : Prs (upd H' ha (.lst (os.map V.int ++ [.int links]))) du (pcs links os) := by
        obtain ⟨xs, hx, px⟩ := hdu
        exact ⟨xs, (upd_ne hdh).trans hx, Paired.imp px fun _ _ h => RP.mut hha h⟩
      refine ⟨_, rfl, _, rfl, links, op, os, rfl, hop2, fun _ _ fo H4 nfo e4 hfo => ?_, fun z => absurd hr z, fun _ z => absurd hok z⟩
      refine ⟨_, rfl, prsD _, prsD _, hfo.dp, (hdu2.ex e4).dp, shPrs _, shPrs _, ?_⟩
      rw [eqvPrsSame]
      exact q _
end
theorem all_mk {l : PySem.W.OpenLaw} {w : World} {K : PySem.W.Frag} {h : Heap} {mg : Str → Option Value} {fa f0 f1 f2 f3 f4 f5 f6 f7 f8 f9 CNoRow CNoOpened : Addr} (X : K.In h) (G : h.Ns mainGlobals mg) (hfa : mg "law" = some (.ref fa))
    {od0 an0 : Option Addr} {sl0 : Array (Option Value)} {oc0 kV0 dc0 pm0 cd0 ct0 : Value}
    (a0 : PySem.W.nsIn K mainGlobals "_law_next" = some (some (.ref f0))) (l0 : K.lookup f0 = some ⟨oc0, od0, .func (PySem.W.fnOf "_law_next" "_law_next" (defArgs s_law_next) (defBody s_law_next) (defScope s_law_next) .none kV0 dc0 pm0 an0 cd0 ct0), sl0⟩) (c0 : PySem.W.codeIn K cd0 "_law_next" = true) (k0 : PySem.W.keepIn K (.ref f0) = true)
    {od1 an1 : Option Addr} {sl1 : Array (Option Value)} {oc1 kV1 dc1 pm1 cd1 ct1 : Value}
    (a1 : PySem.W.nsIn K mainGlobals "_law_cell_at" = some (some (.ref f1))) (l1 : K.lookup f1 = some ⟨oc1, od1, .func (PySem.W.fnOf "_law_cell_at" "_law_cell_at" (defArgs s_law_cell_at) (defBody s_law_cell_at) (defScope s_law_cell_at) .none kV1 dc1 pm1 an1 cd1 ct1), sl1⟩) (c1 : PySem.W.codeIn K cd1 "_law_cell_at" = true) (k1 : PySem.W.keepIn K (.ref f1) = true)
    {od2 an2 : Option Addr} {sl2 : Array (Option Value)} {oc2 kV2 dc2 pm2 cd2 ct2 : Value}
    (a2 : PySem.W.nsIn K mainGlobals "_law_row_by" = some (some (.ref f2))) (l2 : K.lookup f2 = some ⟨oc2, od2, .func (PySem.W.fnOf "_law_row_by" "_law_row_by" (defArgs s_law_row_by) (defBody s_law_row_by) (defScope s_law_row_by) .none kV2 dc2 pm2 an2 cd2 ct2), sl2⟩) (c2 : PySem.W.codeIn K cd2 "_law_row_by" = true) (k2 : PySem.W.keepIn K (.ref f2) = true)
    {od3 an3 : Option Addr} {sl3 : Array (Option Value)} {oc3 kV3 dc3 pm3 cd3 ct3 : Value}
    (a3 : PySem.W.nsIn K mainGlobals "_law_pieces" = some (some (.ref f3))) (l3 : K.lookup f3 = some ⟨oc3, od3, .func (PySem.W.fnOf "_law_pieces" "_law_pieces" (defArgs s_law_pieces) (defBody s_law_pieces) (defScope s_law_pieces) .none kV3 dc3 pm3 an3 cd3 ct3), sl3⟩) (c3 : PySem.W.codeIn K cd3 "_law_pieces" = true) (k3 : PySem.W.keepIn K (.ref f3) = true)
    {od4 an4 : Option Addr} {sl4 : Array (Option Value)} {oc4 kV4 dc4 pm4 cd4 ct4 : Value}
    (a4 : PySem.W.nsIn K mainGlobals "asked_links" = some (some (.ref f4))) (l4 : K.lookup f4 = some ⟨oc4, od4, .func (PySem.W.fnOf "asked_links" "asked_links" (defArgs s_asked_links) (defBody s_asked_links) (defScope s_asked_links) .none kV4 dc4 pm4 an4 cd4 ct4), sl4⟩) (c4 : PySem.W.codeIn K cd4 "asked_links" = true) (k4 : PySem.W.keepIn K (.ref f4) = true)
    {od5 an5 : Option Addr} {sl5 : Array (Option Value)} {oc5 kV5 dc5 pm5 cd5 ct5 : Value}
    (a5 : PySem.W.nsIn K mainGlobals "asked_row" = some (some (.ref f5))) (l5 : K.lookup f5 = some ⟨oc5, od5, .func (PySem.W.fnOf "asked_row" "asked_row" (defArgs s_asked_row) (defBody s_asked_row) (defScope s_asked_row) .none kV5 dc5 pm5 an5 cd5 ct5), sl5⟩) (c5 : PySem.W.codeIn K cd5 "asked_row" = true) (k5 : PySem.W.keepIn K (.ref f5) = true)
    {od6 an6 : Option Addr} {sl6 : Array (Option Value)} {oc6 kV6 dc6 pm6 cd6 ct6 : Value}
    (a6 : PySem.W.nsIn K mainGlobals "pieces_of" = some (some (.ref f6))) (l6 : K.lookup f6 = some ⟨oc6, od6, .func (PySem.W.fnOf "pieces_of" "pieces_of" (defArgs s_pieces_of) (defBody s_pieces_of) (defScope s_pieces_of) .none kV6 dc6 pm6 an6 cd6 ct6), sl6⟩) (c6 : PySem.W.codeIn K cd6 "pieces_of" = true) (k6 : PySem.W.keepIn K (.ref f6) = true)
    {od7 an7 : Option Addr} {sl7 : Array (Option Value)} {oc7 kV7 dc7 pm7 cd7 ct7 : Value}
    (a7 : PySem.W.nsIn K mainGlobals "pieces" = some (some (.ref f7))) (l7 : K.lookup f7 = some ⟨oc7, od7, .func (PySem.W.fnOf "pieces" "pieces" (defArgs s_pieces) (defBody s_pieces) (defScope s_pieces) .none kV7 dc7 pm7 an7 cd7 ct7), sl7⟩) (c7 : PySem.W.codeIn K cd7 "pieces" = true) (k7 : PySem.W.keepIn K (.ref f7) = true)
    {od8 an8 : Option Addr} {sl8 : Array (Option Value)} {oc8 kV8 dc8 pm8 cd8 ct8 : Value}
    (a8 : PySem.W.nsIn K mainGlobals "_law_whole" = some (some (.ref f8))) (l8 : K.lookup f8 = some ⟨oc8, od8, .func (PySem.W.fnOf "_law_whole" "_law_whole" (defArgs s_law_whole) (defBody s_law_whole) (defScope s_law_whole) .none kV8 dc8 pm8 an8 cd8 ct8), sl8⟩) (c8 : PySem.W.codeIn K cd8 "_law_whole" = true) (k8 : PySem.W.keepIn K (.ref f8) = true)
    {od9 an9 : Option Addr} {sl9 : Array (Option Value)} {oc9 kV9 dc9 pm9 cd9 ct9 : Value}
    (a9 : PySem.W.nsIn K mainGlobals "law" = some (some (.ref f9))) (l9 : K.lookup f9 = some ⟨oc9, od9, .func (PySem.W.fnOf "law" "law" (defArgs s_law) (defBody s_law) (defScope s_law) .none kV9 dc9 pm9 an9 cd9 ct9), sl9⟩) (c9 : PySem.W.codeIn K cd9 "law" = true) (k9 : PySem.W.keepIn K (.ref f9) = true)
    (z_len : PySem.W.nsIn K mainGlobals "len" = some none)    (z_range : PySem.W.nsIn K mainGlobals "range" = some none)    (z_sorted : PySem.W.nsIn K mainGlobals "sorted" = some none)    (z_isinstance : PySem.W.nsIn K mainGlobals "isinstance" = some none)    (z_int : PySem.W.nsIn K mainGlobals "int" = some none)    (z_bool : PySem.W.nsIn K mainGlobals "bool" = some none)    (z_list : PySem.W.nsIn K mainGlobals "list" = some none)    (z_tuple : PySem.W.nsIn K mainGlobals "tuple" = some none)    (z_str : PySem.W.nsIn K mainGlobals "str" = some none)    (z_set : PySem.W.nsIn K mainGlobals "set" = some none)    (z_dict : PySem.W.nsIn K mainGlobals "dict" = some none)    (z_enumerate : PySem.W.nsIn K mainGlobals "enumerate" = some none)    (z_zip : PySem.W.nsIn K mainGlobals "zip" = some none)    (z_sum : PySem.W.nsIn K mainGlobals "sum" = some none)    (z_min : PySem.W.nsIn K mainGlobals "min" = some none)    (z_max : PySem.W.nsIn K mainGlobals "max" = some none)    (z_ValueError : PySem.W.nsIn K mainGlobals "ValueError" = some none)
    (xa_NoRow : PySem.W.nsIn K mainGlobals "NoRow" = some (some (.ref CNoRow))) (xx_NoRow : PySem.W.excIn K CNoRow [.type "ValueError", .type "Exception", .type "BaseException", .type "object"] "ValueError.__new__" = true) (xk_NoRow : PySem.W.keepIn K (.ref CNoRow) = true) (xe_NoRow : PySem.W.subIn K (.ref CNoRow) (.type "BaseException") = some true) (xt_NoRow : PySem.W.typeIn K (.ref CNoRow) = some (.type "type"))
    (xa_NoOpened : PySem.W.nsIn K mainGlobals "NoOpened" = some (some (.ref CNoOpened))) (xx_NoOpened : PySem.W.excIn K CNoOpened [.type "ValueError", .type "Exception", .type "BaseException", .type "object"] "ValueError.__new__" = true) (xk_NoOpened : PySem.W.keepIn K (.ref CNoOpened) = true) (xe_NoOpened : PySem.W.subIn K (.ref CNoOpened) (.type "BaseException") = some true) (xt_NoOpened : PySem.W.typeIn K (.ref CNoOpened) = some (.type "type"))
    {tMOST_LINKS : Tok} (m_MOST_LINKS : mg "MOST_LINKS" = some (.int 1000000000000000000000000000000 tMOST_LINKS))
    {tMOST_OPENED : Tok} (m_MOST_OPENED : PySem.W.nsIn K mainGlobals "MOST_OPENED" = some (some (.int 100 tMOST_OPENED)))
    : ∃ fd : FuncData, (∀ (s : Shared) (v : Value), BindsTo s fd ⟨[v], []⟩ [("script", v)]) ∧ ∀ base : Heap, K.In base → base.Ns mainGlobals mg → FnOk l.prog w K mg base (L2.CX l.prog w) 4 fa fd ["script"] (sp_law K) := by
  have e := hfa.symm.trans (PySem.W.mg_of X G a9)
  cases e
  have T : Bl mg := ⟨PySem.W.mg_none_of X G z_len, PySem.W.mg_none_of X G z_range, PySem.W.mg_none_of X G z_sorted, PySem.W.mg_none_of X G z_isinstance, PySem.W.mg_none_of X G z_int, PySem.W.mg_none_of X G z_bool, PySem.W.mg_none_of X G z_list, PySem.W.mg_none_of X G z_tuple, PySem.W.mg_none_of X G z_str, PySem.W.mg_none_of X G z_set, PySem.W.mg_none_of X G z_dict, PySem.W.mg_none_of X G z_enumerate, PySem.W.mg_none_of X G z_zip, PySem.W.mg_none_of X G z_sum, PySem.W.mg_none_of X G z_min, PySem.W.mg_none_of X G z_max, PySem.W.mg_none_of X G z_ValueError⟩
  let X_NoRow : Exo K mg "NoRow" := ⟨CNoRow, xx_NoRow, PySem.W.mg_of X G xa_NoRow, xk_NoRow, xe_NoRow, xt_NoRow⟩
  let X_NoOpened : Exo K mg "NoOpened" := ⟨CNoOpened, xx_NoOpened, PySem.W.mg_of X G xa_NoOpened, xk_NoOpened, xe_NoOpened, xt_NoOpened⟩
  have hMOST_LINKS := m_MOST_LINKS
  have hMOST_OPENED := PySem.W.mg_of X G m_MOST_OPENED
  have F0 := fun_mk (st := s_law_next) l0 c0 k0
  have b0 := F0.binds (ps := ["seed"]) fun _ _ _ _ _ _ us hl => match us, hl with | [_], _ => rfl
  have F1 := fun_mk (st := s_law_cell_at) l1 c1 k1
  have b1 := F1.binds (ps := ["script", "k"]) fun _ _ _ _ _ _ us hl => match us, hl with | [_, _], _ => rfl
  have F2 := fun_mk (st := s_law_row_by) l2 c2 k2
  have b2 := F2.binds (ps := ["script", "most"]) fun _ _ _ _ _ _ us hl => match us, hl with | [_, _], _ => rfl
  have F3 := fun_mk (st := s_law_pieces) l3 c3 k3
  have b3 := F3.binds (ps := ["links", "opened"]) fun _ _ _ _ _ _ us hl => match us, hl with | [_, _], _ => rfl
  have F4 := fun_mk (st := s_asked_links) l4 c4 k4
  have b4 := F4.binds (ps := ["links"]) fun _ _ _ _ _ _ us hl => match us, hl with | [_], _ => rfl
  have F5 := fun_mk (st := s_asked_row) l5 c5 k5
  have b5 := F5.binds (ps := ["links", "opened"]) fun _ _ _ _ _ _ us hl => match us, hl with | [_, _], _ => rfl
  have F6 := fun_mk (st := s_pieces_of) l6 c6 k6
  have b6 := F6.binds (ps := ["links", "opened"]) fun _ _ _ _ _ _ us hl => match us, hl with | [_, _], _ => rfl
  have F7 := fun_mk (st := s_pieces) l7 c7 k7
  have b7 := F7.binds (ps := ["links", "opened"]) fun _ _ _ _ _ _ us hl => match us, hl with | [_, _], _ => rfl
  have F8 := fun_mk (st := s_law_whole) l8 c8 k8
  have b8 := F8.binds (ps := ["found"]) fun _ _ _ _ _ _ us hl => match us, hl with | [_], _ => rfl
  have F9 := fun_mk (st := s_law) l9 c9 k9
  refine ⟨PySem.W.fnOf "law" "law" (defArgs s_law) (defBody s_law) (defScope s_law) .none kV9 dc9 pm9 an9 cd9 ct9, fun s v => .of_eq rfl, fun base _ _ => ?_⟩
  let C_law_next : Cal l.prog w K mg base 1 "_law_next" ["seed"] (sp_law_next ) := ⟨f0, _, ok_law_next F0 T, PySem.W.mg_of X G a0, k0, b0⟩
  let C_law_cell_at : Cal l.prog w K mg base 1 "_law_cell_at" ["script", "k"] (sp_law_cell_at K) := ⟨f1, _, ok_law_cell_at F1 T, PySem.W.mg_of X G a1, k1, b1⟩
  let C_law_row_by : Cal l.prog w K mg base 2 "_law_row_by" ["script", "most"] (sp_law_row_by K) := ⟨f2, _, ok_law_row_by F2 T C_law_next C_law_cell_at, PySem.W.mg_of X G a2, k2, b2⟩
  let C_law_pieces : Cal l.prog w K mg base 1 "_law_pieces" ["links", "opened"] (sp_law_pieces ) := ⟨f3, _, ok_law_pieces F3 T, PySem.W.mg_of X G a3, k3, b3⟩
  let C_asked_links : Cal l.prog w K mg base 1 "asked_links" ["links"] (sp_asked_links X_NoRow.C) := ⟨f4, _, ok_asked_links F4 T X_NoRow hMOST_LINKS, PySem.W.mg_of X G a4, k4, b4⟩
  let C_asked_row : Cal l.prog w K mg base 2 "asked_row" ["links", "opened"] (sp_asked_row X_NoRow.C X_NoOpened.C) := ⟨f5, _, ok_asked_row F5 T X_NoRow X_NoOpened hMOST_OPENED C_asked_links, PySem.W.mg_of X G a5, k5, b5⟩
  let C_pieces_of : Cal l.prog w K mg base 1 "pieces_of" ["links", "opened"] (sp_pieces_of ) := ⟨f6, _, ok_pieces_of F6 T, PySem.W.mg_of X G a6, k6, b6⟩
  let C_pieces : Cal l.prog w K mg base 3 "pieces" ["links", "opened"] (sp_pieces X_NoRow.C X_NoOpened.C) := ⟨f7, _, ok_pieces F7 T X_NoRow X_NoOpened C_asked_row C_pieces_of, PySem.W.mg_of X G a7, k7, b7⟩
  let C_law_whole : Cal l.prog w K mg base 1 "_law_whole" ["found"] (sp_law_whole ) := ⟨f8, _, ok_law_whole F8 T, PySem.W.mg_of X G a8, k8, b8⟩
  exact ok_law F9 T X_NoRow X_NoOpened C_law_row_by C_law_pieces C_pieces C_law_whole
end Lp
open PySem PySem.W PyProof.Rows
set_option maxRecDepth 100000 in
set_option maxHeartbeats 0 in
theorem PySem.Challenge.cw_linkpay_k01_pieces_told_holds : PySem.Challenge.rw_linkpay_k01_pieces_told.Holds := by
  w_on; o_law; k_head; (case hw => w_witness2)
  k_fill
  refine Lp.walkX (l := PySem.Challenge.rw_linkpay_k01_pieces_told) (n := 63) (k := 4) (x := "script") (sp := fun w => Lp.sp_law _) rfl (by decide) rfl ⟨rfl, by decide, by decide⟩ (fun w h Y => PySem.W.kIn_of Y) ?F (fun _ _ a ns hl hS => ⟨a, ns, rfl, hS, fun _ => rfl⟩)
  case F =>
    intro w mg fa h KX G XX hmg
    obtain ⟨tML, hML⟩ := Lp.loose_int XX.2 (n := "MOST_LINKS") (i := 1000000000000000000000000000000) (by simp)
    refine' Lp.all_mk KX G hmg ?a0 ?l0 ?c0 ?k0 ?a1 ?l1 ?c1 ?k1 ?a2 ?l2 ?c2 ?k2 ?a3 ?l3 ?c3 ?k3 ?a4 ?l4 ?c4 ?k4 ?a5 ?l5 ?c5 ?k5 ?a6 ?l6 ?c6 ?k6 ?a7 ?l7 ?c7 ?k7 ?a8 ?l8 ?c8 ?k8 ?a9 ?l9 ?c9 ?k9 ?z_len ?z_range ?z_sorted ?z_isinstance ?z_int ?z_bool ?z_list ?z_tuple ?z_str ?z_set ?z_dict ?z_enumerate ?z_zip ?z_sum ?z_min ?z_max ?z_ValueError ?xa_NoRow ?xx_NoRow ?xk_NoRow ?xe_NoRow ?xt_NoRow ?xa_NoOpened ?xx_NoOpened ?xk_NoOpened ?xe_NoOpened ?xt_NoOpened hML ?m_MOST_OPENED
    (case a0 => k_is)
    (case l0 => k_is)
    (case c0 => k_is)
    (case k0 => k_is)
    (case a1 => k_is)
    (case l1 => k_is)
    (case c1 => k_is)
    (case k1 => k_is)
    (case a2 => k_is)
    (case l2 => k_is)
    (case c2 => k_is)
    (case k2 => k_is)
    (case a3 => k_is)
    (case l3 => k_is)
    (case c3 => k_is)
    (case k3 => k_is)
    (case a4 => k_is)
    (case l4 => k_is)
    (case c4 => k_is)
    (case k4 => k_is)
    (case a5 => k_is)
    (case l5 => k_is)
    (case c5 => k_is)
    (case k5 => k_is)
    (case a6 => k_is)
    (case l6 => k_is)
    (case c6 => k_is)
    (case k6 => k_is)
    (case a7 => k_is)
    (case l7 => k_is)
    (case c7 => k_is)
    (case k7 => k_is)
    (case a8 => k_is)
    (case l8 => k_is)
    (case c8 => k_is)
    (case k8 => k_is)
    (case a9 => k_is)
    (case l9 => k_is)
    (case c9 => k_is)
    (case k9 => k_is)
    (case z_len => k_is)
    (case z_range => k_is)
    (case z_sorted => k_is)
    (case z_isinstance => k_is)
    (case z_int => k_is)
    (case z_bool => k_is)
    (case z_list => k_is)
    (case z_tuple => k_is)
    (case z_str => k_is)
    (case z_set => k_is)
    (case z_dict => k_is)
    (case z_enumerate => k_is)
    (case z_zip => k_is)
    (case z_sum => k_is)
    (case z_min => k_is)
    (case z_max => k_is)
    (case z_ValueError => k_is)
    (case xa_NoRow => k_is)
    (case xx_NoRow => k_exc)
    (case xk_NoRow => k_is)
    (case xe_NoRow => k_is)
    (case xt_NoRow => k_is)
    (case xa_NoOpened => k_is)
    (case xx_NoOpened => k_exc)
    (case xk_NoOpened => k_is)
    (case xe_NoOpened => k_is)
    (case xt_NoOpened => k_is)
    (case m_MOST_OPENED => k_is)
