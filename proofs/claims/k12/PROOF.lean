import PyProof.Rows.All
import Wide.All
import OpenK.AllK
import Wide.FinOn
import HandS.ForMost
import HandS.ForExc
import HandS.Evl
import HandS.IsInst
import HandS.SortInts
import HandS.More
import HandS.Steps
import HandS.Strs
import HandS.SetFor
import HandS.Zip
import HandS.Style
import HandS.ExcCtx
import HandS.ExcIs
import HandS.HotCalls
import HandS.Text
import HandS.Codes
import HandS.Iter
import PyProof.Draws
import PyProof.EnumMake
import PySem.Challenge.RW_linkpay_k12_read_or_refused
set_option Elab.async false
set_option linter.all false
set_option maxRecDepth 100000
set_option maxHeartbeats 4000000
namespace Lp
open PySem PySem.Spec PyProof.Rows L2
open Evl (Ex)
/-! ### defs, classes, built-in names -/
structure Cal (P : Program) (w : World) (K : PySem.W.Frag) (mg : Str → Option Value) (base : Heap) (k : Nat) (x : Str) (ps : List Str) (sp : Sp) where
  f : Addr
  fd : FuncData
  ok : FnOk P w K mg base (L2.CX P w) k f fd ps sp
  gl : mg x = some (.ref f)
  kp : PySem.W.keepIn K (.ref f) = true
  bd : Binds K fd ps []
structure Bl (mg : Str → Option Value) : Prop where
  b_len : mg "len" = none
  b_range : mg "range" = none
  b_sorted : mg "sorted" = none
  b_isinstance : mg "isinstance" = none
  b_int : mg "int" = none
  b_bool : mg "bool" = none
  b_list : mg "list" = none
  b_tuple : mg "tuple" = none
  b_str : mg "str" = none
  b_set : mg "set" = none
  b_dict : mg "dict" = none
  b_enumerate : mg "enumerate" = none
  b_zip : mg "zip" = none
  b_sum : mg "sum" = none
  b_min : mg "min" = none
  b_max : mg "max" = none
  b_ValueError : mg "ValueError" = none
/-- an own class of errors, without a body -/
structure Exo (K : PySem.W.Frag) (mg : Str → Option Value) (x : Str) where
  C : Addr
  q : PySem.W.excIn K C [.type "ValueError", .type "Exception", .type "BaseException", .type "object"] "ValueError.__new__" = true
  gC : mg x = some (.ref C)
  kC : PySem.W.keepIn K (.ref C) = true
  e1 : PySem.W.subIn K (.ref C) (.type "BaseException") = some true
  e2 : PySem.W.typeIn K (.ref C) = some (.type "type")
theorem Exo.mk' {X : Cx} {x m : Str} (T : Exo X.K X.mg x) (hg : Gl X x) {j : Nat} {p p2 pos : Pos} (hdb : (x == ("__debug__" : Str)) = false := by decide) :
    PMk X (.Call (.Name x p) [.Constant (.str m) j p2] [] pos) (fun _ H Q => Q (.ref T.C) none H) :=
  pmk_own PySem.F.excBase_ValueError T.q T.gC T.kC (raises_own T.e1 T.e2) hg hdb

theorem noCX {P : Program} {w : World} {H : Hp} {s : Shared} {e : Value} {s' : Shared} (h : L2.CX P w [] H s (fun _ _ _ => False) e s') : False := by
  obtain ⟨_, _, _, _, _, _, _, _, _, _, _, _, z⟩ := h
  exact z.elim
/-- the goal behind the head, where the law's promise may use what the head says of the loose names -/
theorem walkX {l : PySem.W.OpenLaw} {n k : Nat} {q : Program} {loose : List Str} {XP : (Str → Option Value) → Heap → Prop} {YP : World → Heap → Prop} {d : DefRec} {K : Params → PySem.W.Frag} {sp : World → Sp} {x : Str}
    (hn : l.most = some n) (hz : n ≤ sizeLine) (hdf : d.params.defaults = []) (hr : Room k callerA) (hY : ∀ (w : World) (h : Heap), YP w h → (K w.params).In h)
    (F : ∀ (w : World) (mg : Str → Option Value) (fa : Addr) (h : Heap), (K w.params).In h → h.Ns mainGlobals mg → XP mg h → mg d.name = some (.ref fa) →
      ∃ fd : FuncData, (∀ (s : Shared) (u : Value), BindsTo s fd ⟨[u], []⟩ [(x, u)]) ∧
        ∀ base : Heap, (K w.params).In base → base.Ns mainGlobals mg → FnOk l.prog w (K w.params) mg base (L2.CX l.prog w) k fa fd [x] (sp w))
    (hsp : ∀ (w : World) (H : Hp) (a : Addr) (ns : List Int), ns.length ≤ n → SqL (K w.params) H a (ns.map V.int) → sp w [.ref a] H (fun v _ => v = .bl true) fun _ _ _ => False) :
    PySem.W.WalkO q loose XP YP l.row.toRowW d [] (fun f vs => PySem.call f vs) :=
  Att.attach_call hn hdf fun w s0 s1 mg mb fa o pm cd doc a vs ns G Y _ _ _ hmg hobj hints hlen hg => by
    obtain ⟨fd, hb, hF⟩ := F w mg fa s1.heap (hY w _ Y) G.T.g G.X hmg
    exact law_call (CX := L2.CX l.prog w) (hY w _ Y) G.T.g G.T.b G.T.builtins G.T.nolimit hg hobj hints (by omega) hr hF hb (fun H _ hS => hsp w H a ns hlen hS) fun H e s' => noCX
theorem loose_int {lv : List (Str × PySem.W.WData)} {mg : Str → Option Value} {h : Heap} (x : PySem.W.LooseAre lv mg h) {n : Str} {i : Int} (hm : (n, PySem.W.WData.int i) ∈ lv) : ∃ t, mg n = some (.int i t) := by
  obtain ⟨v, hv, r⟩ := x.val _ hm
  cases r
  exact ⟨_, hv⟩
/-! ### heaps -/
def Ints (H : Hp) (p : Addr) (ns : List Int) : Prop := H p = some (.lst (ns.map V.int))
theorem Ints.ex {H H' : Hp} {p : Addr} {ns : List Int} (h : Ints H p ns) (e : Ex H H') : Ints H' p ns := e _ _ h
theorem Ints.sq {K : PySem.W.Frag} {H : Hp} {p : Addr} {ns : List Int} (h : Ints H p ns) : SqL K H p (ns.map V.int) := .inl (.inl h)
/-- without the object at D -/
def del (H : Hp) (D : Addr) : Hp := fun b => if b = D then none else H b
theorem del_same {H : Hp} {D : Addr} : del H D D = none := if_pos rfl
theorem del_ne {H : Hp} {D b : Addr} (h : b ≠ D) : del H D b = H b := if_neg h
theorem del_le (H : Hp) (D : Addr) : Ex (del H D) H := fun a o h => by
  by_cases e : a = D
  · rw [e, del_same] at h
    cases h
  · rwa [del_ne e] at h
theorem del_upd (H : Hp) (D : Addr) (o : HO) : del (upd H D o) D = del H D := by
  funext b
  by_cases e : b = D
  · rw [e, del_same, del_same]
  · rw [del_ne e, del_ne e, upd_ne e]
theorem del_mono {H H' : Hp} (D : Addr) (e : Ex H H') : Ex (del H D) (del H' D) := fun a o h => by
  by_cases q : a = D
  · rw [q, del_same] at h
    cases h
  · rw [del_ne q] at h ⊢
    exact e _ _ h
theorem del_of {F H : Hp} {D : Addr} (e : Ex F H) (n : F D = none) : Ex F (del H D) := fun a o h => by
  rw [del_ne (ne_of_none h n)]
  exact e _ _ h
/-- a new object: told of some heap that holds it -/
theorem newO {H : Hp} {o : HO} {Q : V → Hp → Prop} (h : ∀ p H1, H p = none → Ex H H1 → H1 p = some o → H1 = upd H p o → Q (.ref p) H1) : ∀ p, H p = none → Q (.ref p) (upd H p o) :=
  fun p hp => h p _ hp (Evl.Ex.new hp) upd_same rfl

theorem nw {H : Hp} {p : Addr} (h : H p = none) (o : HO) : Ex H (upd H p o) ∧ upd H p o p = some o := ⟨Evl.Ex.new h, upd_same⟩

/-! ### related lists -/
theorem Paired.at {α β : Type} {F : α → β → Prop} : ∀ {l1 : List α} {l2 : List β} {i : Nat} {a : α}, Paired F l1 l2 → l1[i]? = some a → ∃ b, l2[i]? = some b ∧ F a b
  | _, _, _, _, .nil, e => by simp at e
  | _, _, 0, _, .cons r _, e => by
    simp at e
    subst e
    exact ⟨_, rfl, r⟩
  | _, _, i + 1, a, .cons _ t, e => by
    obtain ⟨b, h1, h2⟩ := Paired.at (i := i) (a := a) t (by simpa using e)
    exact ⟨b, by simpa using h1, h2⟩
theorem Paired.len {α β : Type} {F : α → β → Prop} : ∀ {l1 : List α} {l2 : List β}, Paired F l1 l2 → l1.length = l2.length
  | _, _, .nil => rfl
  | _, _, .cons _ t => by simp [Paired.len t]
theorem Paired.imp {α β : Type} {F G : α → β → Prop} : ∀ {l1 : List α} {l2 : List β}, Paired F l1 l2 → (∀ a b, F a b → G a b) → Paired G l1 l2
  | _, _, .nil, _ => .nil
  | _, _, .cons r t, h => .cons (h _ _ r) (Paired.imp t h)
theorem Paired.cat {α β : Type} {F : α → β → Prop} : ∀ {l1 l3 : List α} {l2 l4 : List β}, Paired F l1 l2 → Paired F l3 l4 → Paired F (l1 ++ l3) (l2 ++ l4)
  | _, _, _, _, .nil, s => s
  | _, _, _, _, .cons r t, s => .cons r (Paired.cat t s)
theorem Paired.ofMap {α β : Type} {F : α → β → Prop} {f : β → α} (h : ∀ b, F (f b) b) : ∀ l : List β, Paired F (l.map f) l
  | [] => .nil
  | b :: r => .cons (h b) (Paired.ofMap h r)
def IsI : V → Int → Prop := fun v n => v = .int n
theorem isI : ∀ l : List Int, Paired IsI (l.map V.int) l
  | [] => .nil
  | n :: r => .cons (show IsI (V.int n) n from rfl) (isI r)
theorem isI_eq : ∀ {xs : List V} {l : List Int}, Paired IsI xs l → xs = l.map V.int
  | _, _, .nil => rfl
  | _, _, .cons r t => by rw [isI_eq t, show _ = _ from r]; rfl
/-- a pair of ints -/
def RP (H : Hp) : V → Int × Int → Prop := fun v p => ∃ a, v = .ref a ∧ H a = some (.tup [.int p.1, .int p.2])
theorem RP.ex {H H' : Hp} (e : Ex H H') {v : V} {p : Int × Int} (h : RP H v p) : RP H' v p := by
  obtain ⟨a, rfl, q⟩ := h
  exact ⟨a, rfl, e _ _ q⟩
theorem RP.mut {H : Hp} {q : Addr} {xs ys : List V} (hq : H q = some (.lst xs)) {v : V} {p : Int × Int} (h : RP H v p) : RP (upd H q (.lst ys)) v p := by
  obtain ⟨a, rfl, z⟩ := h
  refine ⟨a, rfl, ?_⟩
  rw [upd_ne (ne_of z hq (by intro z; cases z))]
  exact z
/-- a list of pairs -/
def Prs (H : Hp) (p : Addr) (ps : List (Int × Int)) : Prop := ∃ xs, H p = some (.lst xs) ∧ Paired (RP H) xs ps
theorem Prs.ex {H H' : Hp} {p : Addr} {ps : List (Int × Int)} (h : Prs H p ps) (e : Ex H H') : Prs H' p ps := by
  obtain ⟨xs, h1, h2⟩ := h
  exact ⟨xs, e _ _ h1, Paired.imp h2 fun _ _ => RP.ex e⟩
theorem take_snoc {α : Type} {l : List α} {i : Nat} {x : α} (h : l[i]? = some x) : l.take (i + 1) = l.take i ++ [x] := by
  rw [List.take_add_one, h]
  rfl

/-! ### loops -/
/-- a for over a list that stands still: the word speaks of the items taken -/
theorem for_pre {β : Type} {K : PySem.W.Frag} {a : Addr} {xs : List V} {g : TG} {tb : TS} {D : Ends} {σ : L2.St} {H : Hp} {R : V → β → Prop} {ys : List β} (hp : Paired R xs ys) (I : List β → L2.St → Hp → Prop) (h0 : I [] σ H)
    (hl : ∀ pre σ H, I pre σ H → SqL K H a xs)
    (hs : ∀ pre y post x σ H, ys = pre ++ y :: post → R x y → I pre σ H → g x σ H fun σ2 H2 => tb { D with nx := I (pre ++ [y]), ct := I (pre ++ [y]), bk := D.nx } σ2 H2) (hd : ∀ σ H, I ys σ H → D.nx σ H) :
    ∃ W : Nat → Nat → L2.St → Hp → Prop, (∃ m, W 0 m σ H) ∧ ∀ i m σ H, W i m σ H →
      ((Itl K a).stop i H ∧ D.nx σ H) ∨ ((Itl K a).go i H ∧ ∃ N : L2.St → Hp → Prop, (∀ σ' H', N σ' H' → ∃ m', m' < m ∧ W (i + 1) m' σ' H') ∧ ∀ x H', (Itl K a).yld i H x H' → g x σ H' fun σ2 H2 => tb { D with nx := N, ct := N, bk := D.nx } σ2 H2) := by
  refine for_list (xs := xs) (fun i σ H => I (ys.take i) σ H) h0 (fun i σ H _ q => hl _ _ _ q) (fun i x σ H hx q => ?_) (fun σ H q => hd σ H ?_)
  · obtain ⟨y, hy, r⟩ := Paired.at hp hx
    have hi : i < ys.length := (List.getElem?_eq_some_iff.mp hy).1
    have e : ys = ys.take i ++ y :: ys.drop (i + 1) := by
      have e2 := (List.getElem?_eq_some_iff.mp hy).2
      rw [← e2, ← List.drop_eq_getElem_cons hi, List.take_append_drop]
    have z := hs (ys.take i) y _ x σ H e r q
    rw [← take_snoc hy] at z
    exact z
  · have q' : I (ys.take xs.length) σ H := q
    rwa [Paired.len hp, List.take_length] at q'
/-- a comprehension over a list that stands still; what it makes is told of the heap without the new list -/
theorem lc_pre {β γ : Type} {K : PySem.W.Frag} {a : Addr} {xs : List V} {g : TG} {tt : TT} {te : TE} {vs : List Nat} {σ : L2.St} {H : Hp} {Dl : Addr} {Qd : Hp → Prop} {R : V → β → Prop} {ys : List β} {R' : Hp → V → γ → Prop} (hD : H Dl = none)
    (hp : Paired R xs ys) (hsrc : SqL K H a xs) (hz : xs.length < sizeLine) (mono : ∀ H1 H2 v c, Ex H1 H2 → R' H1 v c → R' H2 v c) (p : β → Bool) (f : β → γ)
    (hs : ∀ y x H1 acc, y ∈ ys → R x y → Ex H (del H1 Dl) → H1 Dl = some (.lst acc) → ∀ (Y : V → Hp → Prop) (Z : Hp → Prop), (p y = true → ∀ v H4, Ex H1 H4 → R' (del H4 Dl) v (f y) → Y v H4) → (p y = false → ∀ H3, Ex H1 H3 → Z H3) →
      g x (wipe σ vs) H1 fun σ2 H2 => wipe σ2 vs = wipe σ vs ∧ tt σ2 H2 fun b H3 => if b = true then te σ2 H3 Y else Z H3)
    (hd : ∀ H2 acc, H2 Dl = some (.lst acc) → Ex H (del H2 Dl) → Paired (R' (del H2 Dl)) acc ((ys.filter p).map f) → Qd H2) :
    ∃ W : Nat → Nat → Hp → Prop, (∃ m, W 0 m (upd H Dl (.lst []))) ∧ ∀ i m H, W i m H →
      ((Itl K a).stop i H ∧ Qd H) ∨ ((Itl K a).go i H ∧ ∃ Nx : Hp → Prop, (∀ H', Nx H' → ∃ m', m' < m ∧ W (i + 1) m' H') ∧ ∀ x H', (Itl K a).yld i H x H' → g x (wipe σ vs) H' fun σ2 H2 => wipe σ2 vs = wipe σ vs ∧ tt σ2 H2 fun b H3 =>
        if b = true then te σ2 H3 fun y H4 => ∃ acc, H4 Dl = some (.lst acc) ∧ acc.length < sizeLine ∧ Nx (upd H4 Dl (.lst (acc ++ [y]))) else Nx H3) := by
  have hlen : ∀ i, ((List.filter p (ys.take i)).map f).length ≤ ys.length := fun i => by
    rw [List.length_map]
    exact Nat.le_trans (List.length_filter_le _ _) (by rw [List.length_take]; exact Nat.min_le_right _ _)
  have hL := Paired.len hp
  refine lc_list (xs := xs) (fun i H2 => ∃ acc, H2 Dl = some (.lst acc) ∧ Ex H (del H2 Dl) ∧ Paired (R' (del H2 Dl)) acc (((ys.take i).filter p).map f)) ⟨[], upd_same, ?_, ?_⟩ (fun i H2 _ q => ?_) (fun i x H2 hx q => ?_) (fun H2 q => ?_)
  · rw [del_upd]
    exact del_of (Evl.Ex.refl H) hD
  · exact .nil
  · obtain ⟨acc, _, e, _⟩ := q
    exact Evl.ex_l (e.trans (del_le _ _)) hsrc
  · obtain ⟨acc, h1, h2, h3⟩ := q
    obtain ⟨y, hy, r⟩ := Paired.at hp hx
    have ha : acc.length ≤ ys.length := by
      rw [Paired.len h3]
      exact hlen i
    refine hs y x H2 acc (List.mem_of_getElem? hy) r h2 h1 _ _ (fun hpy v H4 e4 r4 => ?_) (fun hpy H3 e3 => ?_)
    · refine ⟨acc, e4 _ _ h1, by omega, acc ++ [v], upd_same, ?_, ?_⟩
      · rw [del_upd]
        exact h2.trans (del_mono _ e4)
      · rw [del_upd, take_snoc hy, List.filter_append, List.map_append]
        refine Paired.cat (Paired.imp h3 fun _ _ => mono _ _ _ _ (del_mono _ e4)) ?_
        rw [List.filter_cons, if_pos hpy]
        exact .cons r4 .nil
    · refine ⟨acc, e3 _ _ h1, h2.trans (del_mono _ e3), ?_⟩
      rw [take_snoc hy, List.filter_append, List.map_append, List.filter_cons, if_neg (by rw [hpy]; exact Bool.false_ne_true)]
      show Paired _ _ (_ ++ [])
      rw [List.append_nil]
      exact Paired.imp h3 fun _ _ => mono _ _ _ _ (del_mono _ e3)
  · obtain ⟨acc, h1, h2, h3⟩ := q
    refine hd H2 acc h1 h2 ?_
    rw [hL, List.take_length] at h3
    exact h3
theorem le1 : 1 ≤ sizeLine := by decide
theorem le2 : 2 ≤ sizeLine := by decide
theorem le3 : 3 ≤ sizeLine := by decide
theorem sz_small {n : Nat} (h : n ≤ 100000) : n < sizeLine := Nat.lt_of_le_of_lt h (by decide)
theorem sz_big {n : Nat} (h : n ≤ 10000000) : n < sizeLine := Nat.lt_of_le_of_lt h (by decide)
theorem ex_refl' {H H' : Hp} (h : H' = H) : Ex H H' := h ▸ Evl.Ex.refl _
/-! ### tests -/
theorem iteN {p A B : Prop} [Decidable p] (h1 : p → B) (h2 : ¬ p → A) : if (!decide p) = true then A else B := by
  by_cases h : p
  · rw [decide_eq_true h]
    exact iteF (h1 h)
  · rw [decide_eq_false h]
    exact iteT (h2 h)
theorem iteD {p A B : Prop} [Decidable p] (h1 : p → A) (h2 : ¬ p → B) : if decide p = true then A else B := by
  by_cases h : p
  · rw [decide_eq_true h]
    exact iteT (h1 h)
  · rw [decide_eq_false h]
    exact iteF (h2 h)
theorem iteB {A B : Prop} (b : Bool) (h1 : b = true → A) (h2 : b = false → B) : if b = true then A else B := by
  cases b with
  | true => exact iteT (h1 rfl)
  | false => exact iteF (h2 rfl)
/-- the same of two equal ints as values -/
theorem iteE {i j : Int} {A B : Prop} (h1 : i = j → A) (h2 : i ≠ j → B) : if decide (V.int i = V.int j) = true then A else B :=
  iteD (fun e => h1 (V.int.inj e)) (fun e => h2 fun q => e (congrArg V.int q))
end Lp
namespace Lp
open PySem PySem.Spec PyProof.Rows L2
open Evl (Ex)
/-! ### data -/
def pD (p : Int × Int) : PyData := .tuple [.int p.1, .int p.2]
def prsD (ps : List (Int × Int)) : PyData := .list (ps.map pD)
def intsD (ns : List Int) : PyData := .list (ns.map PyData.int)
theorem dpAllInts {K : PySem.W.Frag} {H : Hp} : ∀ ns : List Int, DpAll K H (ns.map V.int) (ns.map PyData.int)
  | [] => .nil
  | n :: r => .cons (.int n) (dpAllInts r)
theorem dpInts {K : PySem.W.Frag} {H : Hp} {p : Addr} {ns : List Int} (h : Ints H p ns) : Dp K H (.ref p) (intsD ns) := .lst h.sq (dpAllInts ns)
theorem dpAllPrs {K : PySem.W.Frag} {H : Hp} : ∀ {xs : List V} {ps : List (Int × Int)}, Paired (RP H) xs ps → DpAll K H xs (ps.map pD)
  | _, _, .nil => .nil
  | _, _, .cons (a := v) (b := p) r t => .cons (by
      obtain ⟨a, rfl, h⟩ := r
      exact .tup (.inl (.inl h)) (.cons (.int _) (.cons (.int _) .nil))) (dpAllPrs t)
theorem Prs.dp {K : PySem.W.Frag} {H : Hp} {p : Addr} {ps : List (Int × Int)} (h : Prs H p ps) : Dp K H (.ref p) (prsD ps) := by
  obtain ⟨xs, h1, h2⟩ := h
  exact .lst (.inl (.inl h1)) (dpAllPrs h2)
theorem layInts : ∀ ns : List Int, PyData.canLayAll0 (ns.map PyData.int) = true ∧ PyData.depthAll (ns.map PyData.int) ≤ 1
  | [] => ⟨rfl, by simp [PyData.depthAll]⟩
  | n :: r => by
    have h := layInts r
    simp only [List.map_cons, PyData.canLayAll0, PyData.canLay0, PyData.depthAll, PyData.depth, h.1]
    exact ⟨rfl, by omega⟩
theorem layPrs : ∀ ps : List (Int × Int), PyData.canLayAll0 (ps.map pD) = true ∧ PyData.depthAll (ps.map pD) ≤ 3
  | [] => ⟨rfl, by simp [PyData.depthAll]⟩
  | p :: r => by
    have h := layPrs r
    simp only [List.map_cons, PyData.canLayAll0, PyData.canLay0, PyData.depthAll, PyData.depth, pD, h.1]
    exact ⟨rfl, by omega⟩
theorem shInts (ns : List Int) : SeqAt.shaped (intsD ns) = true := by
  have h := layInts ns
  unfold SeqAt.shaped intsD
  rw [PyData.canLay0, h.1, Bool.true_and, PyData.depth]
  exact decide_eq_true (by omega)
theorem shPrs (ps : List (Int × Int)) : SeqAt.shaped (prsD ps) = true := by
  have h := layPrs ps
  unfold SeqAt.shaped prsD
  rw [PyData.canLay0, h.1, Bool.true_and, PyData.depth]
  exact decide_eq_true (by omega)
theorem eqvI (n m : Int) : PyData.eqv (.int n) (.int m) = decide (n = m) := by
  simp only [PyData.eqv]
  exact Bool.beq_eq_decide_eq _ _
theorem eqvInts : ∀ ns ms : List Int, PyData.eqvAll (ns.map PyData.int) (ms.map PyData.int) = decide (ns = ms)
  | [], [] => by simp [PyData.eqvAll]
  | [], _ :: _ => by simp [PyData.eqvAll]
  | _ :: _, [] => by simp [PyData.eqvAll]
  | n :: r, m :: t => by
    rw [List.map_cons, List.map_cons, PyData.eqvAll, eqvI, eqvInts r t]
    by_cases h : n = m <;> by_cases h2 : r = t <;> simp [h, h2]
theorem eqvIntsD (ns ms : List Int) : PyData.eqv (intsD ns) (intsD ms) = decide (ns = ms) := by
  unfold intsD
  rw [PyData.eqv, eqvInts]
theorem eqvPrsSame (ps : List (Int × Int)) : PyData.eqv (prsD ps) (prsD ps) = true := SeqAt.eqv_refl _ (by unfold prsD; rw [PyData.canLay0]; exact (layPrs ps).1)
end Lp
namespace Lp
open PySem PySem.Spec PyProof.Rows L2
open Evl (Ex)
/-- a comprehension of ints over a list that stands still -/
theorem lc_int {β : Type} {K : PySem.W.Frag} {a : Addr} {xs : List V} {g : TG} {tt : TT} {te : TE} {vs : List Nat} {σ : L2.St} {H : Hp} {Dl : Addr} {Qd : Hp → Prop} {R : V → β → Prop} {ys : List β} (hD : H Dl = none)
    (hp : Paired R xs ys) (hsrc : SqL K H a xs) (hz : xs.length < sizeLine) (p : β → Bool) (f : β → Int)
    (hs : ∀ y x H1, y ∈ ys → R x y → Ex H H1 → ∀ (Y : V → Hp → Prop) (Z : Hp → Prop), (p y = true → ∀ H4, Ex H1 H4 → Y (.int (f y)) H4) → (p y = false → ∀ H3, Ex H1 H3 → Z H3) →
      g x (wipe σ vs) H1 fun σ2 H2 => wipe σ2 vs = wipe σ vs ∧ tt σ2 H2 fun b H3 => if b = true then te σ2 H3 Y else Z H3)
    (hd : ∀ H2, Ints H2 Dl ((ys.filter p).map f) → Ex H H2 → Qd H2) :
    ∃ W : Nat → Nat → Hp → Prop, (∃ m, W 0 m (upd H Dl (.lst []))) ∧ ∀ i m H, W i m H →
      ((Itl K a).stop i H ∧ Qd H) ∨ ((Itl K a).go i H ∧ ∃ Nx : Hp → Prop, (∀ H', Nx H' → ∃ m', m' < m ∧ W (i + 1) m' H') ∧ ∀ x H', (Itl K a).yld i H x H' → g x (wipe σ vs) H' fun σ2 H2 => wipe σ2 vs = wipe σ vs ∧ tt σ2 H2 fun b H3 =>
        if b = true then te σ2 H3 fun y H4 => ∃ acc, H4 Dl = some (.lst acc) ∧ acc.length < sizeLine ∧ Nx (upd H4 Dl (.lst (acc ++ [y]))) else Nx H3) :=
  lc_pre (R' := fun _ => IsI) hD hp hsrc hz (fun _ _ _ _ _ h => h) p f
    (fun y x H1 acc hy r e _ Y Z h1 h2 => hs y x H1 hy r (e.trans (del_le _ _)) Y Z (fun hp H4 e4 => h1 hp _ H4 e4 rfl) h2)
    (fun H2 acc h1 h2 h3 => hd H2 (by show _ = _; rw [h1, isI_eq h3]) (h2.trans (del_le _ _)))
end Lp
namespace Lp
open PySem PySem.Spec PyProof.Rows L2
open Evl (Ex)
/-! ### rules with the written part named (within a comprehension's block) -/
section
variable {X : Cx}
theorem ix_tupK (K : PySem.W.Frag) (h : X.K = K) : IxR X (rIxT K) := h ▸ ix_tup
theorem ix_listK (K : PySem.W.Frag) (h : X.K = K) : IxR X (rIxL K) := h ▸ ix_list
theorem op_in_seqK (K : PySem.W.Frag) (h : X.K = K) : OpR X (compareOp .In) (rIn K false) := h ▸ op_in_seq
theorem op_notIn_seqK (K : PySem.W.Frag) (h : X.K = K) : OpR X (compareOp .NotIn) (rIn K true) := h ▸ op_notIn_seq
theorem call_len_seqK (K : PySem.W.Frag) (h : X.K = K) : CallR X (.builtin "len") (Evl.rLenS K) := h ▸ call_len_seq
theorem pg_tupK (K : PySem.W.Frag) (hK : X.K = K) {pos : Pos} {es : List Expr} {k : Nat} {t : TGs} {n : Nat} (hc : X.calm = true) (h : PGs X es t)
    (hn : (assignEach es X.env).length = n := by rfl) (hst : (assignEach es X.env).findIdx? (·.1) = none := by rfl) : PG X (.Tuple es k pos) (gTup K n t) := hK ▸ pg_tup hc h hn hst
theorem call_list_ofK (K : PySem.W.Frag) (h : X.K = K) : CallR X (.type "list") (Evl.rListS K) := h ▸ call_list_of
end
end Lp
namespace Lp
open PySem PySem.Spec PyProof.Rows L2
open Evl (Ex)
/-- an if whose answer is known, with something behind it -/
theorem seqNo {c : TT} {t1 t2 u : TS} {D : Ends} {σ : L2.St} {H : Hp} (h : Ans c σ H false) (q : t2 { D with nx := u D } σ H) : tSeq (tIfS c t1 t2) u D σ H := L2.st_no h q
theorem nxNo {c : TT} {t1 t2 u : TS} {D D0 : Ends} {σ : L2.St} {H : Hp} (e : D0.nx = tSeq (tIfS c t1 t2) u D) (h : Ans c σ H false) (q : t2 { D with nx := u D } σ H) : tNext D0 σ H := by
  show D0.nx σ H
  rw [e]
  exact L2.st_no h q
theorem seqYes {c : TT} {t1 t2 u : TS} {D : Ends} {σ : L2.St} {H : Hp} (h : Ans c σ H true) (q : t1 { D with nx := u D } σ H) : tSeq (tIfS c t1 t2) u D σ H := L2.st_yes h q
end Lp

namespace Lp
open PySem PySem.Spec PyProof.Rows L2
open Evl (Ex)
/-- rising numbers of links -/
def Rising (links : Int) : Int → List Int → Prop
  | _, [] => True
  | b, l :: r => b < l ∧ l < links ∧ Rising links l r
def lastOr (b : Int) : List Int → Int
  | [] => b
  | l :: r => lastOr l r
theorem lastOr_snoc : ∀ (b : Int) (pre : List Int) (y : Int), lastOr b (pre ++ [y]) = y
  | _, [], _ => rfl
  | _, l :: r, y => lastOr_snoc l r y
theorem rising_snoc {links : Int} : ∀ {b : Int} {pre post : List Int}, Rising links b (pre ++ post) ↔ Rising links b pre ∧ Rising links (lastOr b pre) post
  | b, [], post => ⟨fun h => ⟨trivial, h⟩, fun h => h.2⟩
  | b, l :: r, post => by
    show (b < l ∧ l < links ∧ Rising links l (r ++ post)) ↔ (b < l ∧ l < links ∧ Rising links l r) ∧ Rising links (lastOr l r) post
    rw [rising_snoc (b := l) (pre := r) (post := post)]
    exact ⟨fun ⟨a, c, d, e⟩ => ⟨⟨a, c, d⟩, e⟩, fun ⟨⟨a, c, d⟩, e⟩ => ⟨a, c, d, e⟩⟩
def RowOk (links : Int) : Prop := 1 ≤ links ∧ links ≤ 1000000000000000000000000000000
def OpenOk (links : Int) (ns : List Int) : Prop := ns.length ≤ 100 ∧ Rising links (-1) ns
/-- one opened link more -/
def pcStep (s : Int × List (Int × Int)) (l : Int) : Int × List (Int × Int) := (l + 1, s.2 ++ ((if s.1 < l then [(s.1, l - s.1)] else []) ++ [(l, 1)]))
def pcEnd (links : Int) (s : Int × List (Int × Int)) : List (Int × Int) := s.2 ++ (if s.1 < links then [(s.1, links - s.1)] else [])
/-- the pieces of a row -/
def pcs (links : Int) (ns : List Int) : List (Int × Int) := pcEnd links (ns.foldl pcStep (0, []))
theorem pcFold_len : ∀ (ns : List Int) (s : Int × List (Int × Int)), (ns.foldl pcStep s).2.length ≤ s.2.length + 2 * ns.length
  | [], s => by simp
  | l :: r, s => by
    have h := pcFold_len r (pcStep s l)
    have h2 : (pcStep s l).2.length ≤ s.2.length + 2 := by
      show (s.2 ++ ((if s.1 < l then [(s.1, l - s.1)] else []) ++ [(l, 1)])).length ≤ _
      split <;> simp
    rw [List.foldl_cons, List.length_cons]
    omega
def cell (ns : List Int) (k : Int) : Int := ns.getD k.toNat 0
def nxt (n : Int) : Int := (n * 48271 + 12345) % 2147483647
theorem rising_of : ∀ {links : Int} {b : Int} {os : List Int}, os.Pairwise (· ≤ ·) → os.Nodup → (∀ l ∈ os, b < l ∧ l < links) → Rising links b os
  | _, _, [], _, _, _ => trivial
  | links, b, l :: r, h1, h2, h3 => by
    have a1 := List.pairwise_cons.mp h1
    have a2 := List.nodup_cons.mp h2
    refine ⟨(h3 l List.mem_cons_self).1, (h3 l List.mem_cons_self).2, rising_of a1.2 a2.2 fun x hx => ⟨?_, (h3 x (List.mem_cons_of_mem _ hx)).2⟩⟩
    have c1 := a1.1 x hx
    have c2 : l ≠ x := fun e => a2.1 (e ▸ hx)
    omega
theorem inV_int (x : Int) (ns : List Int) : inV (.int x) (ns.map V.int) = decide (x ∈ ns) := by
  unfold inV
  rw [List.any_map]
  by_cases h : x ∈ ns
  · rw [decide_eq_true h]
    refine List.any_eq_true.mpr ⟨x, h, ?_⟩
    simp [eqV]
  · rw [decide_eq_false h]
    refine List.any_eq_false.mpr fun y hy => ?_
    simp [eqV]
    rintro rfl
    exact h hy
theorem flatInts (ns : List Int) : (ns.map V.int).all flatV = true := by
  rw [List.all_map]
  exact List.all_eq_true.mpr fun _ _ => rfl
end Lp
namespace Lp
open PySem PySem.Spec PyProof.Rows L2
open Evl (Ex)
theorem pcs_len (links : Int) (ns : List Int) : (pcs links ns).length ≤ 2 * ns.length + 1 := by
  have h := pcFold_len ns (0, [])
  unfold pcs pcEnd
  rw [List.length_append]
  simp at h
  split <;> simp <;> omega
theorem rising_up : ∀ {links b : Int} {os : List Int}, Rising links b os → os.Pairwise (· < ·) ∧ ∀ x ∈ os, b < x ∧ x < links
  | _, _, [], _ => ⟨.nil, fun _ h => (nomatch h)⟩
  | links, b, l :: r, h => by
    have ih := rising_up h.2.2
    refine ⟨List.pairwise_cons.mpr ⟨fun x hx => (ih.2 x hx).1, ih.1⟩, fun x hx => ?_⟩
    rcases List.mem_cons.mp hx with e | e
    · rw [e]
      exact ⟨h.1, h.2.1⟩
    · have h1 := ih.2 x e
      have h2 := h.1
      exact ⟨by omega, h1.2⟩
theorem sset_eq {ns ns2 : List Int} (h : ns.Pairwise (· < ·)) (up : ns2.Pairwise (· ≤ ·)) (nd : ns2.Nodup) (hm : ∀ k, k ∈ ns2 ↔ decide (k ∈ ns) = true) : ns2 = ns := by
  refine PySem.W.ksm_same ?_ up (h.imp fun h => Int.le_of_lt h)
  refine (List.perm_ext_iff_of_nodup nd (h.imp fun h => Int.ne_of_lt h)).mpr fun k => ?_
  rw [hm k, decide_eq_true_eq]
theorem rising_lt {links b : Int} {os : List Int} (h : os.Pairwise (· < ·)) (hb : ∀ x ∈ os, b < x ∧ x < links) : Rising links b os :=
  rising_of (h.imp fun h => Int.le_of_lt h) (h.imp fun h => Int.ne_of_lt h) hb
theorem cut_take {xs : List V} (k : Nat) : cutV xs none (some (k : Int)) = xs.take k := by
  unfold cutV
  rw [HT.sIx_none, HT.sIx_nat, List.drop_zero, Nat.sub_zero]
  rcases Nat.le_total k xs.length with h | h
  · rw [Nat.min_eq_left h]
  · rw [Nat.min_eq_right h, List.take_of_length_le (Nat.le_refl _), List.take_of_length_le h]
theorem cut_drop {xs : List V} (k : Nat) : cutV xs (some (k : Int)) none = xs.drop k := by
  unfold cutV
  rw [HT.sIx_none, HT.sIx_nat]
  rcases Nat.le_total k xs.length with h | h
  · rw [Nat.min_eq_left h, List.take_of_length_le (by rw [List.length_drop]; omega)]
  · rw [Nat.min_eq_right h, List.drop_eq_nil_of_le (Nat.le_refl _), List.drop_eq_nil_of_le h]
    simp
theorem atI_int {os : List Int} {k : Nat} (h : k < os.length) : atI (os.map V.int) (k : Int) = some (.int os[k]) := by
  refine atI_nat ?_
  rw [List.getElem?_map, List.getElem?_eq_getElem h]
  rfl
/-! ### what is refused first -/
def RowE (CR CO : Addr) (links : Int) (ns : List Int) (H : Hp) (E : XK) (k : Prop) : Prop := (RowOk links → OpenOk links ns → k) ∧ (¬ RowOk links → E (.ref CR) none H) ∧ (RowOk links → ¬ OpenOk links ns → E (.ref CO) none H)
def Few (CT : Addr) (ns : List Int) (H : Hp) (E : XK) (k : Prop) : Prop := (ns.length ≤ 8 → k) ∧ (¬ ns.length ≤ 8 → E (.ref CT) none H)
def Amt (CA : Addr) (links amount : Int) (H : Hp) (E : XK) (k : Prop) : Prop := (0 ≤ amount ∧ amount ≤ links → k) ∧ (¬ (0 ≤ amount ∧ amount ≤ links) → E (.ref CA) none H)
end Lp

namespace Lp
open PySem PySem.Spec PyProof.Rows L2
open Evl (Ex)
/-! ### in order -/
def srt (ns : List Int) : List Int := ns.mergeSort (fun a b => decide (a ≤ b))
theorem srt_perm (ns : List Int) : (srt ns).Perm ns := List.mergeSort_perm ns _
theorem srt_up (ns : List Int) : (srt ns).Pairwise (· ≤ ·) := by
  have h := List.pairwise_mergeSort (le := fun a b : Int => decide (a ≤ b)) (fun a b c h1 h2 => by
    have := of_decide_eq_true h1
    have := of_decide_eq_true h2
    exact decide_eq_true (by omega)) (fun a b => by
    rcases Int.le_total a b with h | h
    · simp [h]
    · simp [h]) ns
  exact h.imp fun h => of_decide_eq_true h
theorem srt_of {a ns : List Int} (hp : a.Perm ns) (ha : a.Pairwise (· ≤ ·)) : a = srt ns := PySem.W.ksm_same (hp.trans (srt_perm ns).symm) ha (srt_up ns)
/-! ### the gap by the sizes, the least first -/
def gapL : Int → List Int → Option Int
  | _, [] => none
  | r, s :: t => if s > r + 1 then some (r + 1) else gapL (r + s) t
def szs (links : Int) (ns : List Int) : List Int := (pcs links ns).map (·.2)
def gapO (links : Int) (ns : List Int) : Option Int := gapL 0 (srt (szs links ns))
def optV : Option Int → V
  | none => .non
  | some i => .int i
def optD : Option Int → PyData
  | none => .none
  | some i => .int i
theorem dpOpt {K : PySem.W.Frag} {H : Hp} (o : Option Int) : Dp K H (optV o) (optD o) := by
  cases o with
  | none => exact .non
  | some i => exact .int i
theorem shOpt (o : Option Int) : SeqAt.shaped (optD o) = true := by cases o <;> rfl
theorem eqvOpt (o : Option Int) : PyData.eqv (optD o) (optD o) = true := by
  cases o with
  | none => simp [optD, PyData.eqv]
  | some i => simp [optD, PyData.eqv]
/-- each is at most one more than those ahead together -/
def Ch : Int → List Int → Prop
  | _, [] => True
  | r, s :: t => s ≤ r + 1 ∧ Ch (r + s) t
theorem gapL_none : ∀ {r : Int} {l : List Int}, gapL r l = none ↔ Ch r l
  | r, [] => ⟨fun _ => trivial, fun _ => rfl⟩
  | r, s :: t => by
    unfold gapL Ch
    by_cases h : s > r + 1
    · rw [if_pos h]
      exact ⟨(fun z => nomatch z), fun z => absurd z.1 (by omega)⟩
    · rw [if_neg h, gapL_none]
      exact ⟨fun z => ⟨by omega, z⟩, fun z => z.2⟩
theorem Ch_app : ∀ {r : Int} {a b : List Int}, Ch r (a ++ b) ↔ Ch r a ∧ Ch (r + a.sum) b
  | r, [], b => by simp [Ch]
  | r, s :: a, b => by
    show (s ≤ r + 1 ∧ Ch (r + s) (a ++ b)) ↔ (s ≤ r + 1 ∧ Ch (r + s) a) ∧ Ch (r + (s :: a).sum) b
    rw [Ch_app, List.sum_cons, Int.add_assoc, and_assoc]
/-- the same, told of no order -/
def Cx0 (l : List Int) : Prop := ∀ s ∈ l, s ≤ 1 + (l.filter (fun y => decide (y < s))).sum
theorem sum_nonneg : ∀ {l : List Int}, (∀ x ∈ l, 0 ≤ x) → 0 ≤ l.sum
  | [], _ => Int.le_refl _
  | x :: r, h => by
    rw [List.sum_cons]
    have h1 := h x List.mem_cons_self
    have h2 := sum_nonneg fun y hy => h y (List.mem_cons_of_mem _ hy)
    omega
theorem filter_sum_le : ∀ {l : List Int} (p : Int → Bool), (∀ x ∈ l, 0 ≤ x) → (l.filter p).sum ≤ l.sum
  | [], _, _ => Int.le_refl _
  | x :: r, p, h => by
    have h1 := h x List.mem_cons_self
    have h2 := filter_sum_le p fun y hy => h y (List.mem_cons_of_mem _ hy)
    rw [List.filter_cons]
    split
    · rw [List.sum_cons, List.sum_cons]
      omega
    · rw [List.sum_cons]
      omega
theorem cx_of_ch {l : List Int} (h0 : ∀ x ∈ l, 0 ≤ x) (h : Ch 0 l) : Cx0 l := by
  have go : ∀ (post pre : List Int) (s : Int), l = pre ++ post → Ch pre.sum post → (∀ y ∈ pre, y < s) → s ∈ post → s ≤ 1 + (l.filter (fun y => decide (y < s))).sum := by
    intro post
    induction post with
    | nil => intro pre s _ _ _ hs; cases hs
    | cons x t ih =>
      intro pre s e hc hp hs
      by_cases hx : x < s
      · refine ih (pre ++ [x]) s (by rw [e, List.append_assoc]; rfl) ?_ ?_ ?_
        · rw [List.sum_append]
          simpa using hc.2
        · intro y hy
          rcases List.mem_append.mp hy with q | q
          · exact hp y q
          · rw [List.mem_singleton.mp q]
            exact hx
        · rcases List.mem_cons.mp hs with q | q
          · omega
          · exact q
      · have h1 := hc.1
        have e2 : pre.filter (fun y => decide (y < s)) = pre := List.filter_eq_self.mpr fun y hy => decide_eq_true (hp y hy)
        rw [e, List.filter_append, List.sum_append, e2]
        have h2 : 0 ≤ ((x :: t).filter (fun y => decide (y < s))).sum := sum_nonneg fun y hy => h0 y (by rw [e]; exact List.mem_append_right _ (List.mem_filter.mp hy).1)
        omega
  intro s hs
  exact go l [] s rfl h (fun _ z => nomatch z) hs
theorem ch_of_cx {l : List Int} (h0 : ∀ x ∈ l, 0 ≤ x) (hs : l.Pairwise (· ≤ ·)) (h : Cx0 l) : Ch 0 l := by
  have go : ∀ (post pre : List Int), l = pre ++ post → Ch pre.sum post := by
    intro post
    induction post with
    | nil => intro pre _; exact trivial
    | cons s t ih =>
      intro pre e
      refine ⟨?_, ?_⟩
      · have h1 := h s (by rw [e]; simp)
        rw [e, List.filter_append, List.sum_append] at h1
        have e2 : (s :: t).filter (fun y => decide (y < s)) = [] := List.filter_eq_nil_iff.mpr fun y hy => by
          rw [e] at hs
          have hs2 := (List.pairwise_append.mp hs).2.1
          have : s ≤ y := by
            rcases List.mem_cons.mp hy with q | q
            · omega
            · exact (List.pairwise_cons.mp hs2).1 y q
          simpa using this
        rw [e2] at h1
        have h2 := filter_sum_le (l := pre) (fun y => decide (y < s)) fun x hx => h0 x (by rw [e]; exact List.mem_append_left _ hx)
        simp at h1
        omega
      · have h3 := ih (pre ++ [s]) (by rw [e, List.append_assoc]; rfl)
        rw [List.sum_append] at h3
        simpa using h3
  exact go l [] rfl
theorem sum_perm {a b : List Int} (h : a.Perm b) : a.sum = b.sum := by
  induction h with
  | nil => rfl
  | cons x _ ih => rw [List.sum_cons, List.sum_cons, ih]
  | swap x y l =>
    simp only [List.sum_cons]
    omega
  | trans _ _ h1 h2 => exact h1.trans h2
theorem cx_perm {a b : List Int} (h : a.Perm b) (c : Cx0 a) : Cx0 b := fun s hs => by
  have h1 := c s (h.mem_iff.mpr hs)
  rwa [sum_perm (h.filter _)] at h1
/-- full where some order of the sizes goes up so -/
theorem full_of {l m : List Int} (h0 : ∀ x ∈ l, 0 ≤ x) (hp : l.Perm m) (h : Ch 0 l) : gapL 0 (srt m) = none := by
  have h1 := hp.trans (srt_perm m).symm
  exact gapL_none.mpr (ch_of_cx (fun x hx => h0 x (h1.mem_iff.mpr hx)) (srt_up m) (cx_perm h1 (cx_of_ch h0 h)))
/-! ### the sizes of a row's pieces -/
theorem pcFold_sum {links : Int} : ∀ (ns : List Int) (b : Int) (acc : List (Int × Int)), Rising links (b - 1) ns → (∀ p ∈ acc, 0 < p.2) → b ≤ links →
    ((pcEnd links (ns.foldl pcStep (b, acc))).map (·.2)).sum = (acc.map (·.2)).sum + (links - b) ∧ ∀ p ∈ pcEnd links (ns.foldl pcStep (b, acc)), 0 < p.2
  | [], b, acc, _, h0, hb => by
    show ((acc ++ (if b < links then [(b, links - b)] else [])).map (·.2)).sum = _ ∧ ∀ p ∈ acc ++ (if b < links then [(b, links - b)] else []), 0 < p.2
    by_cases h : b < links
    · rw [if_pos h, List.map_append, List.sum_append]
      refine ⟨by simp, fun p hp => ?_⟩
      rcases List.mem_append.mp hp with q | q
      · exact h0 p q
      · rw [List.mem_singleton.mp q]
        show 0 < links - b
        omega
    · rw [if_neg h, List.append_nil]
      exact ⟨by omega, h0⟩
  | l :: r, b, acc, hr, h0, hb => by
    rw [List.foldl_cons]
    have h1 := hr.1
    have h2 := hr.2.1
    have hr2 : Rising links (l + 1 - 1) r := by
      rw [show l + 1 - 1 = l by omega]
      exact hr.2.2
    have ih := pcFold_sum r (l + 1) (acc ++ ((if b < l then [(b, l - b)] else []) ++ [(l, 1)])) hr2 (fun p hp => by
      rcases List.mem_append.mp hp with q | q
      · exact h0 p q
      · rcases List.mem_append.mp q with q | q
        · by_cases h : b < l
          · rw [if_pos h] at q
            rw [List.mem_singleton.mp q]
            show 0 < l - b
            omega
          · rw [if_neg h] at q
            cases q
        · rw [List.mem_singleton.mp q]
          show (0 : Int) < 1
          omega) (by omega)
    refine ⟨?_, ih.2⟩
    rw [show pcStep (b, acc) l = (l + 1, acc ++ ((if b < l then [(b, l - b)] else []) ++ [(l, 1)])) from rfl, ih.1]
    simp only [List.map_append, List.sum_append]
    by_cases h : b < l
    · rw [if_pos h]
      simp
      omega
    · rw [if_neg h]
      simp
      omega
theorem szs_sum {links : Int} {ns : List Int} (h : Rising links (-1) ns) (hl : 1 ≤ links) : (szs links ns).sum = links := by
  have h1 := (pcFold_sum ns 0 [] (by rw [show (0 : Int) - 1 = -1 by omega]; exact h) (fun _ z => nomatch z) (by omega)).1
  unfold szs pcs
  rw [h1]
  simp
theorem szs_pos {links : Int} {ns : List Int} (h : Rising links (-1) ns) (hl : 1 ≤ links) : ∀ x ∈ szs links ns, 0 < x := by
  have h1 := (pcFold_sum ns 0 [] (by rw [show (0 : Int) - 1 = -1 by omega]; exact h) (fun _ z => nomatch z) (by omega)).2
  intro x hx
  obtain ⟨p, hp, rfl⟩ := List.mem_map.mp hx
  exact h1 p hp
theorem szs_len (links : Int) (ns : List Int) : (szs links ns).length ≤ 2 * ns.length + 1 := by
  unfold szs
  rw [List.length_map]
  exact pcs_len links ns
/-! ### the longest rows, as few openings as can be -/
def mostL (n : Nat) : Int := ((n : Int) + 1) * 2 ^ (n + 1) - 1
theorem pow_pos (k : Nat) : (1 : Int) ≤ 2 ^ k := by
  induction k with
  | zero => decide
  | succ k ih =>
    rw [Int.pow_succ]
    omega
theorem pow_ge (k : Nat) : (k : Int) ≤ 2 ^ k := by
  induction k with
  | zero => decide
  | succ k ih =>
    have := pow_pos k
    rw [Int.pow_succ]
    omega
theorem mostL_big : (1000000000000000000000000000000 : Int) < mostL 100 := by decide +kernel
/-- n is the least number whose longest row is no shorter -/
def FewestIs (links : Int) (n : Nat) : Prop := n ≤ 100 ∧ links ≤ mostL n ∧ ∀ j, j < n → mostL j < links
theorem FewestIs.one {links : Int} {n m : Nat} (a : FewestIs links n) (b : FewestIs links m) : n = m := by
  have h1 := a.2.1
  have h2 := b.2.1
  rcases Nat.lt_trichotomy n m with h | h | h
  · have := b.2.2 n h
    omega
  · exact h
  · have := a.2.2 m h
    omega
theorem FewestIs.le {links : Int} {n : Nat} (a : FewestIs links n) (h1 : 1 ≤ links) : (n : Int) ≤ links := by
  cases n with
  | zero => omega
  | succ n =>
    have h := a.2.2 n (Nat.lt_succ_self n)
    unfold mostL at h
    have h2 := pow_pos (n + 1)
    have h3 : ((n : Int) + 1) * 1 ≤ ((n : Int) + 1) * 2 ^ (n + 1) := Int.mul_le_mul_of_nonneg_left h2 (by omega)
    omega
def zOf (rest reach : Int) : Int := if rest < reach + 1 then rest else reach + 1
def ofGo : Nat → Int → Int → Int → List Int
  | 0, _, _, _ => []
  | k + 1, rest, reach, spot => (spot + zOf rest reach) :: ofGo k (rest - zOf rest reach) (reach + zOf rest reach) (spot + zOf rest reach + 1)
def ofor (links : Int) (n : Nat) : List Int := ofGo n (links - n) n 0
theorem ofGo_len : ∀ (k : Nat) (a b c : Int), (ofGo k a b c).length = k
  | 0, _, _, _ => rfl
  | k + 1, a, b, c => by
    show (ofGo k _ _ _).length + 1 = k + 1
    rw [ofGo_len k]
theorem zOf_b {rest reach : Int} (h : 0 ≤ rest) (h2 : 0 ≤ reach) : 0 ≤ zOf rest reach ∧ zOf rest reach ≤ rest ∧ zOf rest reach ≤ reach + 1 := by
  unfold zOf
  split <;> omega
theorem ofGo_rising {links : Int} : ∀ (k : Nat) (rest reach spot : Int), 0 ≤ rest → 0 ≤ reach → spot + rest + k = links → Rising links (spot - 1) (ofGo k rest reach spot)
  | 0, _, _, _, _, _, _ => trivial
  | k + 1, rest, reach, spot, h1, h2, h3 => by
    have hz := zOf_b h1 h2
    refine ⟨by omega, by omega, ?_⟩
    have ih := ofGo_rising (links := links) k (rest - zOf rest reach) (reach + zOf rest reach) (spot + zOf rest reach + 1) (by omega) (by omega) (by omega)
    rwa [show spot + zOf rest reach + 1 - 1 = spot + zOf rest reach by omega] at ih
def posL (z : Int) : List Int := if 0 < z then [z] else []
def ofM : Nat → Int → Int → List Int
  | 0, rest, _ => posL rest
  | k + 1, rest, reach => posL (zOf rest reach) ++ ofM k (rest - zOf rest reach) (reach + zOf rest reach)
theorem ofGo_szs {links : Int} : ∀ (k : Nat) (rest reach spot : Int) (acc : List (Int × Int)), 0 ≤ rest → 0 ≤ reach → spot + rest + k = links →
    ((pcEnd links ((ofGo k rest reach spot).foldl pcStep (spot, acc))).map (·.2)).Perm (acc.map (·.2) ++ (List.replicate k 1 ++ ofM k rest reach))
  | 0, rest, reach, spot, acc, h1, h2, h3 => by
    show ((acc ++ (if spot < links then [(spot, links - spot)] else [])).map (·.2)).Perm (acc.map (·.2) ++ ([] ++ posL rest))
    unfold posL
    by_cases h : spot < links
    · rw [if_pos h, if_pos (by omega), List.map_append]
      have e : links - spot = rest := by omega
      rw [e]
      exact List.Perm.refl _
    · rw [if_neg h, if_neg (by omega), List.append_nil]
      simp
  | k + 1, rest, reach, spot, acc, h1, h2, h3 => by
    have hz := zOf_b h1 h2
    have ih := ofGo_szs (links := links) k (rest - zOf rest reach) (reach + zOf rest reach) (spot + zOf rest reach + 1) (acc ++ ((if spot < spot + zOf rest reach then [(spot, spot + zOf rest reach - spot)] else []) ++ [(spot + zOf rest reach, 1)])) (by omega) (by omega) (by omega)
    refine ih.trans ?_
    rw [List.map_append, List.append_assoc]
    refine List.Perm.append_left _ ?_
    have e : (((if spot < spot + zOf rest reach then [(spot, spot + zOf rest reach - spot)] else []) ++ [(spot + zOf rest reach, (1 : Int))]).map (·.2)) = posL (zOf rest reach) ++ [1] := by
      unfold posL
      by_cases h : 0 < zOf rest reach
      · rw [if_pos (by omega), if_pos h]
        simp
        omega
      · rw [if_neg (by omega), if_neg h]
        rfl
    rw [e]
    show ((posL (zOf rest reach) ++ [1]) ++ (List.replicate k 1 ++ ofM k _ _)).Perm (List.replicate (k + 1) 1 ++ (posL (zOf rest reach) ++ ofM k _ _))
    generalize posL (zOf rest reach) = a
    generalize ofM k _ _ = c
    have h4 : List.replicate (k + 1) (1 : Int) = [1] ++ List.replicate k 1 := rfl
    rw [h4]
    have s1 : ((a ++ [1]) ++ (List.replicate k 1 ++ c)) = a ++ (([1] ++ List.replicate k 1) ++ c) := by simp
    have s2 : (([1] ++ List.replicate k (1 : Int)) ++ (a ++ c)) = (([1] ++ List.replicate k 1) ++ a) ++ c := by simp
    rw [s1, s2, ← List.append_assoc]
    exact List.Perm.append_right _ List.perm_append_comm
theorem ofM_nonneg : ∀ (k : Nat) (rest reach : Int), ∀ x ∈ ofM k rest reach, 0 ≤ x
  | 0, rest, reach, x, hx => by
    unfold ofM posL at hx
    split at hx
    · rw [List.mem_singleton.mp hx]
      omega
    · cases hx
  | k + 1, rest, reach, x, hx => by
    unfold ofM at hx
    rcases List.mem_append.mp hx with h | h
    · unfold posL at h
      split at h
      · rw [List.mem_singleton.mp h]
        omega
      · cases h
    · exact ofM_nonneg k _ _ x h
theorem Ch_pos {r z : Int} {l : List Int} (h0 : 0 ≤ z) (h1 : z ≤ r + 1) (h : Ch (r + z) l) : Ch r (posL z ++ l) := by
  unfold posL
  by_cases c : 0 < z
  · rw [if_pos c]
    exact ⟨h1, h⟩
  · rw [if_neg c]
    have e : z = 0 := by omega
    rw [e, Int.add_zero] at h
    exact h
theorem ofM_ch : ∀ (k : Nat) (rest reach : Int), 0 ≤ rest → 0 ≤ reach → rest ≤ (reach + 1) * (2 ^ (k + 1) - 1) → Ch reach (ofM k rest reach)
  | 0, rest, reach, h1, h2, h3 => by
    unfold ofM
    have h : Ch reach (posL rest ++ []) := Ch_pos h1 (by simp at h3; omega) trivial
    rwa [List.append_nil] at h
  | k + 1, rest, reach, h1, h2, h3 => by
    have hz := zOf_b h1 h2
    refine Ch_pos hz.1 hz.2.2 (ofM_ch k _ _ (by omega) (by omega) ?_)
    by_cases h : rest < reach + 1
    · have e : zOf rest reach = rest := by unfold zOf; rw [if_pos h]
      rw [e]
      have p := pow_pos (k + 1)
      have : 0 ≤ (reach + rest + 1) * (2 ^ (k + 1) - 1) := Int.mul_nonneg (by omega) (by omega)
      omega
    · have e : zOf rest reach = reach + 1 := by unfold zOf; rw [if_neg h]
      rw [e]
      have e1 : (2 : Int) ^ (k + 1 + 1) = 2 * 2 ^ (k + 1) := by rw [Int.pow_succ, Int.mul_comm]
      rw [e1] at h3
      generalize (2 : Int) ^ (k + 1) = y at h3 ⊢
      have e2 : (reach + (reach + 1) + 1) * (y - 1) = (reach + 1) * (2 * y - 1) - (reach + 1) := by
        have e3 : reach + (reach + 1) + 1 = 2 * (reach + 1) := by omega
        rw [e3]
        generalize reach + 1 = r
        rw [Int.mul_sub, Int.mul_sub, Int.mul_one, Int.mul_one]
        have e4 : 2 * r * y = r * (2 * y) := by rw [← Int.mul_assoc, Int.mul_comm 2 r]
        omega
      rw [e2]
      omega
theorem ones_ch : ∀ (n : Nat) (r : Int) (l : List Int), 0 ≤ r → Ch (r + n) l → Ch r (List.replicate n 1 ++ l)
  | 0, r, l, _, h => by simpa using h
  | n + 1, r, l, h0, h => by
    show (1 ≤ r + 1 ∧ Ch (r + 1) (List.replicate n 1 ++ l))
    refine ⟨by omega, ones_ch n (r + 1) l (by omega) ?_⟩
    have e : r + 1 + (n : Int) = r + ((n + 1 : Nat) : Int) := by omega
    rw [e]
    exact h
theorem ofor_good {links : Int} {n : Nat} (h1 : 1 ≤ links) (hf : FewestIs links n) : Rising links (-1) (ofor links n) ∧ (ofor links n).length = n ∧ gapO links (ofor links n) = none := by
  have hle := hf.le h1
  have hr : Rising links (-1) (ofor links n) := ofGo_rising n (links - n) n 0 (by omega) (by omega) (by omega)
  refine ⟨hr, ofGo_len _ _ _ _, ?_⟩
  have hp := ofGo_szs (links := links) n (links - n) n 0 [] (by omega) (by omega) (by omega)
  refine full_of (l := List.replicate n 1 ++ ofM n (links - n) n) (fun x hx => ?_) hp.symm (ones_ch n 0 _ (by omega) ?_)
  · rcases List.mem_append.mp hx with h | h
    · rw [(List.mem_replicate.mp h).2]
      omega
    · exact ofM_nonneg _ _ _ _ h
  · rw [Int.zero_add]
    refine ofM_ch n _ _ (by omega) (by omega) ?_
    have h2 := hf.2.1
    unfold mostL at h2
    rw [Int.mul_sub]
    omega
end Lp

namespace Lp
open PySem PySem.Spec PyProof.Rows L2
open Evl (Ex)
/-! ### set(xs) of a list of ints: a set that can be walked and sorted -/
/-- the set as its class makes it -/
def bareSet (w : World) : Obj := { cls := .type "set", dict := none, data := .set #[] 0 (.fresh 0 0 (!w.params.followText "set-order")) }
section
variable {P : Program} {w : World} {A : Around} {E : Value → Shared → Prop} {s : Shared}
/-- its filling, from a list that stands -/
theorem fill_list {a S : Addr} {its : Array Value} {n0 : Nat} {dd : Option Addr} {sl : Array (Option Value)} {ns : List Int} {R : Result → Shared → Prop} (hh : A.handled = none) (hS : s.heap.get? S = some (bareSet w)) (haS : a < S)
    (ha : s.heap.get? a = some { cls := .type "list", dict := dd, data := .seq its n0, slots := sl }) (hi : IntsAre its.toList ns) (hb : ns.length + 1 < scanBound)
    (hR : ∀ (h' : Heap) (tk c : Nat), SetR w h' S (fun j => decide (j ∈ ns)) c → c ≤ ns.length → (∀ b o, b ≠ S → s.heap.get? b = some o → h'.get? b = some o) → R (.ok (.ret .none)) { s with heap := h', toks := tk }) :
    codeAny (model P w) A (.call (.builtin "set.__init__") ⟨[.ref S, .ref a], []⟩) R s := by
  have hty : s.TypeIs (.ref S) "set" := ⟨_, hS, rfl⟩
  have hlist : s.heap.IsList a its := ⟨_, ha, rfl, n0, rfl⟩
  have hlen : its.size = ns.length := by
    have q := IntsAre.length hi
    rwa [Array.length_toList] at q
  refine codeAny_call_builtin PySem.F.called_set.init.plain PySem.F.entry_set_init (check_set_init_1 hty ?_)
  have k1 := PySem.F.sub_list_set
  have k2 := PySem.F.sub_list_frozenset
  have k3 : (Value.type "list" == Value.type "dict") = false := by decide
  unfold Builtin.«set.__init__» noKeywords Builtin.Frozenset.updateFrom
  generalize hPI : pyIter = PI
  wp_walk
  subst hPI
  refine wpAny_pyIter_list hlist (wpAny_bind (wpAny_runValue ?_))
  have nai : a ≠ s.heap.objs.size := Nat.ne_of_lt (Heap.lt_size ha)
  have nSi : S ≠ s.heap.objs.size := Nat.ne_of_lt (Heap.lt_size hS)
  have away : S ∉ [s.heap.objs.size, a] := by
    intro z
    rcases List.mem_cons.mp z with e | z
    · exact nSi e
    · exact absurd (List.mem_singleton.mp z) (Nat.ne_of_gt haS)
  have each : ∀ (i : Nat) (v : Value), its[i]? = some v → ∃ k t, ns[i]? = some k ∧ v = .int k t := fun i v hv => by
    have hlt : i < ns.length := by
      have := (Array.getElem?_eq_some_iff.mp hv).1
      omega
    obtain ⟨t, e⟩ := IntsAre.int_at hi i v (by rw [Array.getElem?_toList]; exact hv)
    refine ⟨_, t, List.getElem?_eq_getElem hlt, e.trans ?_⟩
    rw [List.getD_eq_getElem?_getD, List.getElem?_eq_getElem hlt]
    rfl
  refine set_update_ints ((Walks.list (by simp [hh]) s.heap.objs.size a nai its).toS) S away ns hlen hb each its.size 0 _ rfl (Nat.zero_le _) ⟨⟨_, Heap.get?_push_size _ rfl, rfl, rfl⟩, hlist.push _⟩ ⟨0, Nat.le_refl 0, setR_new_at (Heap.get?_push_of_some _ hS)⟩ fun s1 c mv hc hset => ?_
  obtain ⟨h1, g1, d1, t1, o1⟩ := s1
  obtain rfl : g1 = s.gens := mv.gens
  obtain rfl : d1 = s.drawn := mv.drawn
  obtain rfl : o1 = s.os := mv.os
  show wpAny _ _ _ _ _ _
  refine wpAny_pure ?_
  show wpAny _ _ (ret Value.none) _ _ _
  rw [hlen] at hc
  refine wpAny_pure (hR h1 t1 c hset hc fun b o nb e => ?_)
  refine mv.heap b o ?_ (Heap.get?_push_of_some _ e)
  intro z
  rcases List.mem_cons.mp z with q | z
  · exact nb q
  · exact absurd (List.mem_singleton.mp z) (Nat.ne_of_lt (Heap.lt_size e))
theorem set_of_list {a : Addr} {its : Array Value} {ns : List Int} {Q : Value → Shared → Prop} (hh : A.handled = none) (hl : s.heap.IsList a its) (hi : IntsAre its.toList ns) (hb : ns.length + 1 < scanBound)
    (hQ : ∀ (h' : Heap) (tk c : Nat), SetR w h' s.heap.objs.size (fun j => decide (j ∈ ns)) c → c ≤ ns.length → (∀ b o, s.heap.get? b = some o → h'.get? b = some o) → Q (.ref s.heap.objs.size) { s with heap := h', toks := tk }) :
    wpAny (model P w) A (call (.type "set") [.ref a]) Q E s := by
  obtain ⟨⟨cls, dd, data, sl⟩, ho, hc, n0, hd⟩ := hl
  simp only at hc hd
  subst hc hd
  obtain ⟨c, tl, k4⟩ := PySem.F.called_set.mro
  have k5 := PySem.F.called_set.made
  have k6 := PySem.F.called_set.sub
  refine wpAny_call (codeAny_of_tree ?_)
  show wpAny _ _ (callAny (.type "set") _) _ _ _
  refine wpAny_pure ⟨Code.quiet_builtin _ (by decide +kernel), codeAny_builtin PySem.F.entry_type_call ?_⟩
  rw [Around.under_plain (weight_type_call_type "set" [.ref a] []) rfl]
  have k7 := PySem.F.called_set.notType
  have k8 := PySem.F.called_set.canCreate
  have k9 := PySem.F.typeCall_set_1 (.ref a)
  repeat (any_goals (first | assumption | wp_step))
  refine codeAny_mono (code_set_led1 (.ref a) (E := E) (Q₁ := fun obj s1 => obj = .ref s.heap.objs.size ∧ s1 = { s with heap := s.heap.push (bareSet w) }) ⟨rfl, rfl⟩) fun r s1 hr => ?_
  match r, hr with
  | .error e, hr => exact hr
  | .ok .next, hr => exact hr.elim
  | .ok .brk, hr => exact hr.elim
  | .ok .cont, hr => exact hr.elim
  | .ok (.ret obj), hr =>
    obtain ⟨rfl, rfl⟩ := hr
    have hS : (s.heap.push (bareSet w)).get? s.heap.objs.size = some (bareSet w) := Heap.get?_push_size _ rfl
    have hT : Shared.TypeIs { s with heap := s.heap.push (bareSet w) } (.ref s.heap.objs.size) "set" := ⟨_, hS, rfl⟩
    have k10 := PySem.F.called_set.init.lookup
    have k11 := PySem.F.called_set.init.bind (.ref s.heap.objs.size)
    repeat (any_goals (first | assumption | wp_step))
    refine codeAny_mono (fill_list (s := { s with heap := s.heap.push (bareSet w) }) (ns := ns) (R := wants (fun r s2 => r = .none ∧ ∃ h' tk c, s2 = { s with heap := h', toks := tk } ∧ SetR w h' s.heap.objs.size (fun j => decide (j ∈ ns)) c ∧ c ≤ ns.length ∧
      (∀ b o, s.heap.get? b = some o → h'.get? b = some o)) E) (by simp [hh]) hS (Heap.lt_size ho) (Heap.get?_push_of_some _ ho) hi hb fun h' tk c hset hc hk => ⟨rfl, h', tk, c, rfl, hset, hc, fun b o e => hk b o (Nat.ne_of_lt (Heap.lt_size e)) (Heap.get?_push_of_some _ e)⟩) fun r2 s2 hr2 => ?_
    match r2, hr2 with
    | .error e, hr2 => exact hr2
    | .ok .next, hr2 => exact hr2.elim
    | .ok .brk, hr2 => exact hr2.elim
    | .ok .cont, hr2 => exact hr2.elim
    | .ok (.ret v2), hr2 =>
      obtain ⟨rfl, h', tk, c2, rfl, hset, hc, hk⟩ := hr2
      repeat (any_goals (first | assumption | wp_step))
      exact hQ _ _ _ hset hc hk
end
def rSetI (K : PySem.W.Frag) (w : World) : List V → Hp → VK → Prop := fun vs H Q => ∃ (a : Addr) (ns : List Int), vs = [.ref a] ∧ SqL K H a (ns.map V.int) ∧ ns.length ≤ 4000 ∧
  ∀ (p : Addr) (c : Nat), c ≤ ns.length → H p = none → Q (.ref p) (upd H p (SetO w p (fun j => decide (j ∈ ns)) c))
theorem cr_setI {X : Cx} (hc : X.calm = true) : CallR X (.type "set") (rSetI X.K X.w) := by
  intro pins s σ H xs us Q I r h
  obtain ⟨a, ns, rfl, hs, hn, q⟩ := h
  rw [Vals.ref1 r]
  obtain ⟨its, rv, pl, hz⟩ := I.list hs
  refine set_of_list (I.ok.hd hc) pl.isList (ns := ns) (by simpa using rv.ints) (by unfold scanBound; omega) fun h' tk c hset hc2 hk => ?_
  exact ⟨.ref s.heap.objs.size, _, I.laid (t' := tk) hk (Nat.le_refl _) (setO_new hset), rfl, q _ c hc2 (I.hok.fresh (Nat.le_refl _))⟩
/-! ### sorted(s), s such a set, of any number of members -/
theorem keys_map : ∀ {l : List (Int × Value)}, (∀ e ∈ l, GoodE e) → (l.map (·.2)).map SrtO.iv = l.map keyOf
  | [], _ => rfl
  | e :: r, h => by
    obtain ⟨k, tk, h1, _⟩ := h e List.mem_cons_self
    rw [List.map_cons, List.map_cons, List.map_cons, keys_map fun x hx => h x (List.mem_cons_of_mem _ hx)]
    unfold keyOf SrtO.iv
    rw [h1]
theorem set_sorted {P : Program} {w : World} {A : Around} {E : Value → Shared → Prop} {s : Shared} {a : Addr} {S : Int → Bool} {n : Nat} {Q : Value → Shared → Prop} (R : SetR w s.heap a S n) (hh : A.handled = none)
    (hQ : ∀ s' p (out : List Value) (c : Nat) (ns : List Int), (∀ b o, s.heap.get? b = some o → s'.heap.get? b = some o) → s'.gens = s.gens → s'.os = s.os → s.heap.objs.size ≤ p → s'.heap.get? p = some (seqObj "list" out.toArray c) → IntsAre out ns →
      ns.Pairwise (· ≤ ·) → ns.Nodup → (∀ k, k ∈ ns ↔ S k = true) → ns.length ≤ sizeLine → Q (.ref p) s') : wpAny (model P w) A (call (.builtin "sorted") [.ref a]) Q E s := by
  obtain ⟨o, es, ep, t, ho, hex, hd, g, nd, hm, hb, hf, hn, hr, hl⟩ := R
  refine Calls.call_function_entry kind_sorted plain_sorted entry_sorted (args_sorted1 _) ?_
  unfold Builtin.«sorted»
  refine wpAny_bind (m := checkCount "sorted" 1 1 _) (wpAny_pure ?_)
  refine wpAny_bind (collect_set (A := A.in1) hh ⟨o, ho, hex.1, hd⟩ hf hb hr hl fun s1 vs k1 hz g1 o1 pm => ?_)
  have hvl : vs.length ≤ sizeLine := by
    rw [pm.length_eq, List.length_map, Array.length_toList]
    exact Nat.le_of_lt (sz_small (by unfold scanBound at hb; omega))
  have each : ∀ v ∈ vs, ∃ i u, v = Value.int i u := fun v hv => by
    obtain ⟨e, he, q⟩ := List.mem_map.mp (pm.mem_iff.mp hv)
    obtain ⟨k, tk, h1, _⟩ := g e he
    exact ⟨k, tk, by rw [← q]; exact h1⟩
  have hI := SrtO.ints_iv each
  have pk : (vs.map SrtO.iv).Perm (es.toList.map keyOf) := by
    have q := pm.map SrtO.iv
    rwa [keys_map g] at q
  refine wpAny_bind (wpAny_newList ?_ hvl)
  have hoL : (s1.heap.push (seqObj "list" vs.toArray 0)).get? s1.heap.objs.size = some (seqObj "list" vs.toArray 0) := Heap.get?_push_size _ rfl
  refine wpAny_bind (wpAny_holding (wpAny_call_entry slot_list_sort ⟨_, hoL, rfl⟩ entry_list_sort (SrtO.list_sort_ord SrtO.swo_int hoL hvl (fun h2 => SrtO.ints_sortable hI h2) fun out h1 h2 => ⟨_, rfl, ?_⟩) (args_list_sort _)))
  obtain ⟨a1, a2, a3⟩ := SrtO.ints_out hI h1 h2
  obtain ⟨c, hc⟩ := sortedHeap_at (vs := vs) (out := out.toArray) hoL
  have pn := a2.trans pk
  refine wpAny_pure ⟨_, rfl, hQ _ s1.heap.objs.size out c (out.map SrtO.iv) (fun b u e => ?_) g1 o1 hz hc a1 a3 (pn.nodup_iff.mpr nd) (fun k => by rw [pn.mem_iff, ← hm k]) ?_⟩
  · have q := k1 b u e
    have hlt := Heap.lt_size q
    show (sortedHeap (s1.heap.push (seqObj "list" vs.toArray 0)) s1.heap.objs.size vs out.toArray).get? b = some u
    rw [sortedHeap_old (Nat.ne_of_lt hlt) (by rw [size_push']; exact Nat.lt_succ_of_lt hlt)]
    exact Heap.get?_push_of_some _ q
  · rw [List.length_map, h2.perm.length_eq]
    exact hvl
def rSortSet (w : World) : List V → Hp → VK → Prop := fun vs H Q => ∃ (a : Addr) (S : Int → Bool) (n : Nat), vs = [.ref a] ∧ H a = some (SetO w a S n) ∧
  ∀ (ns : List Int) (p : Addr), ns.Pairwise (· ≤ ·) → ns.Nodup → (∀ k : Int, k ∈ ns ↔ S k = true) → H p = none → Q (.ref p) (upd H p (.lst (ns.map V.int)))
theorem cr_sortSet {X : Cx} (hc : X.calm = true) : CallR X (.builtin "sorted") (rSortSet X.w) := by
  intro pins s σ H vs us Q I r h
  obtain ⟨a, S, n, rfl, ha, q⟩ := h
  rw [Vals.ref1 r]
  refine set_sorted (setO_get I ha) (I.ok.hd hc) fun s' p out c ns k g o hp hg hi up nd hm hl => ?_
  have hn : H p = none := I.hok.fresh hp
  obtain ⟨h1, g1, d1, t1, o1⟩ := s'
  obtain rfl : g1 = s.gens := g
  obtain rfl : o1 = s.os := o
  have J : Inv X pins σ (upd H p (.lst (ns.map V.int))) { s with heap := h1, gens := s.gens, drawn := d1, toks := t1 } :=
    I.call (ch := []) (Un.laid k hp hn) (I.hok.laid k hp ⟨by rw [List.length_map]; exact hl, out, c, vals_of_ints hi, hg⟩) I.bare (fun _ z => nomatch z)
  exact ⟨.ref p, _, J, rfl, q ns p up nd hm hn⟩
end Lp

namespace Lp
open PySem PySem.Spec PyProof.Rows L2
open Evl (Ex)
/-- for i, x in enumerate(a list that stands still) -/
theorem for_enum {K : PySem.W.Frag} {a : Addr} {xs : List V} {g : TG} {tb : TS} {D : Ends} {σ : L2.St} {H : Hp} (Pv : Nat → L2.St → Hp → Prop) (h0 : Pv 0 σ H) (hl : ∀ i σ H, Pv i σ H → SqL K H a xs)
    (hs : ∀ i x t σ H, xs[i]? = some x → Pv i σ H → H t = none → g (.ref t) σ (upd H t (.tup [.int (i : Nat), x])) fun σ2 H2 => tb { D with nx := Pv (i + 1), ct := Pv (i + 1), bk := D.nx } σ2 H2) (hd : ∀ σ H, Pv xs.length σ H → D.nx σ H) :
    ∃ W : Nat → Nat → L2.St → Hp → Prop, (∃ m, W 0 m σ H) ∧ ∀ i m σ H, W i m σ H →
      ((Ite K a).stop i H ∧ D.nx σ H) ∨ ((Ite K a).go i H ∧ ∃ N : L2.St → Hp → Prop, (∀ σ' H', N σ' H' → ∃ m', m' < m ∧ W (i + 1) m' σ' H') ∧ ∀ x H', (Ite K a).yld i H x H' → g x σ H' fun σ2 H2 => tb { D with nx := N, ct := N, bk := D.nx } σ2 H2) := by
  refine ⟨fun i m σ H => m = xs.length - i ∧ i ≤ xs.length ∧ Pv i σ H, ⟨_, rfl, Nat.zero_le _, h0⟩, fun i m σ H ⟨em, hi, p⟩ => ?_⟩
  have q := hl i σ H p
  by_cases h : i < xs.length
  · refine .inr ⟨⟨xs, xs[i], q, List.getElem?_eq_getElem h⟩, Pv (i + 1), fun σ' H' p' => ⟨xs.length - (i + 1), by omega, rfl, h, p'⟩, fun v H' y => ?_⟩
    obtain ⟨t, x, rfl, nt, rfl, f⟩ := y
    exact hs i x t σ H (f xs q) p nt
  · have e : i = xs.length := by omega
    subst e
    exact .inl ⟨⟨xs, q, Nat.le_refl _⟩, hd σ H p⟩
/-- a comprehension over anything that stands still and has n turns -/
theorem lc_walk {γ : Type} {J : It} {n : Nat} {g : TG} {tt : TT} {te : TE} {vs : List Nat} {σ : L2.St} {H : Hp} {Dl : Addr} {Qd : Hp → Prop} {Stay : Hp → Prop} {R : Nat → V → Hp → Prop} {R' : Hp → V → γ → Prop} (hD : H Dl = none)
    (mono : ∀ H1 H2, Stay H1 → Ex H1 H2 → Stay H2) (h0 : Stay H) (go : ∀ i H1, i < n → Stay H1 → J.go i H1) (stop : ∀ H1, Stay H1 → J.stop n H1) (yld : ∀ i H1 x H2, i < n → Stay H1 → J.yld i H1 x H2 → Ex H1 H2 ∧ R i x H2) (hn : n < sizeLine)
    (mono' : ∀ H1 H2 v c, Ex H1 H2 → R' H1 v c → R' H2 v c) (p : Nat → Bool) (f : Nat → γ)
    (hs : ∀ i x H1 acc, i < n → R i x H1 → Ex H (del H1 Dl) → H1 Dl = some (.lst acc) → ∀ (Y : V → Hp → Prop) (Z : Hp → Prop), (p i = true → ∀ v H4, Ex H1 H4 → R' (del H4 Dl) v (f i) → Y v H4) → (p i = false → ∀ H3, Ex H1 H3 → Z H3) →
      g x (wipe σ vs) H1 fun σ2 H2 => wipe σ2 vs = wipe σ vs ∧ tt σ2 H2 fun b H3 => if b = true then te σ2 H3 Y else Z H3)
    (hd : ∀ H2 acc, H2 Dl = some (.lst acc) → Ex H (del H2 Dl) → Paired (R' (del H2 Dl)) acc (((List.range n).filter p).map f) → Qd H2) :
    ∃ W : Nat → Nat → Hp → Prop, (∃ m, W 0 m (upd H Dl (.lst []))) ∧ ∀ i m H, W i m H →
      (J.stop i H ∧ Qd H) ∨ (J.go i H ∧ ∃ Nx : Hp → Prop, (∀ H', Nx H' → ∃ m', m' < m ∧ W (i + 1) m' H') ∧ ∀ x H', J.yld i H x H' → g x (wipe σ vs) H' fun σ2 H2 => wipe σ2 vs = wipe σ vs ∧ tt σ2 H2 fun b H3 =>
        if b = true then te σ2 H3 fun y H4 => ∃ acc, H4 Dl = some (.lst acc) ∧ acc.length < sizeLine ∧ Nx (upd H4 Dl (.lst (acc ++ [y]))) else Nx H3) := by
  have hlen : ∀ i, (((List.range i).filter p).map f).length ≤ i := fun i => by
    rw [List.length_map]
    have := List.length_filter_le p (List.range i)
    rwa [List.length_range] at this
  refine ⟨fun i m H2 => m = n - i ∧ i ≤ n ∧ ∃ acc, H2 Dl = some (.lst acc) ∧ Ex H (del H2 Dl) ∧ Paired (R' (del H2 Dl)) acc (((List.range i).filter p).map f), ⟨_, rfl, Nat.zero_le _, [], upd_same, ?_, .nil⟩, fun i m H2 ⟨em, hi, acc, h1, h2, h3⟩ => ?_⟩
  · rw [del_upd]
    exact del_of (Evl.Ex.refl H) hD
  have hst : Stay H2 := mono _ _ h0 (h2.trans (del_le _ _))
  by_cases h : i < n
  · refine .inr ⟨go i H2 h hst, fun H3 => ∃ acc, H3 Dl = some (.lst acc) ∧ Ex H (del H3 Dl) ∧ Paired (R' (del H3 Dl)) acc (((List.range (i + 1)).filter p).map f), fun H3 hq => ⟨n - (i + 1), by omega, rfl, h, hq⟩, fun x H3 y => ?_⟩
    obtain ⟨e3, r⟩ := yld i H2 x H3 h hst y
    have ha : acc.length ≤ i := by
      rw [Paired.len h3]
      exact hlen i
    refine hs i x H3 acc h r (h2.trans (del_mono _ e3)) (e3 _ _ h1) _ _ (fun hp v H4 e4 r4 => ?_) (fun hp H4 e4 => ?_)
    · refine ⟨acc, e4 _ _ (e3 _ _ h1), by omega, acc ++ [v], upd_same, ?_, ?_⟩
      · rw [del_upd]
        exact h2.trans (del_mono _ (e3.trans e4))
      · rw [del_upd, List.range_succ, List.filter_append, List.map_append]
        refine Paired.cat (Paired.imp h3 fun _ _ => mono' _ _ _ _ (del_mono _ (e3.trans e4))) ?_
        rw [List.filter_cons, if_pos hp]
        exact .cons r4 .nil
    · refine ⟨acc, e4 _ _ (e3 _ _ h1), h2.trans (del_mono _ (e3.trans e4)), ?_⟩
      rw [List.range_succ, List.filter_append, List.map_append, List.filter_cons, if_neg (by rw [hp]; exact Bool.false_ne_true)]
      show Paired _ _ (_ ++ [])
      rw [List.append_nil]
      exact Paired.imp h3 fun _ _ => mono' _ _ _ _ (del_mono _ (e3.trans e4))
  · have e : i = n := by omega
    subst e
    exact .inl ⟨stop H2 hst, hd H2 acc h1 h2 h3⟩
/-- over a range, ints made -/
theorem lc_rangeI {n : Nat} {g : TG} {tt : TT} {te : TE} {vs : List Nat} {σ : L2.St} {H : Hp} {Dl : Addr} {Qd : Hp → Prop} (hD : H Dl = none) (hn : n < sizeLine) (p : Nat → Bool) (f : Nat → Int)
    (hs : ∀ i H1, i < n → Ex H H1 → ∀ (Y : V → Hp → Prop) (Z : Hp → Prop), (p i = true → ∀ H4, Ex H1 H4 → Y (.int (f i)) H4) → (p i = false → ∀ H3, Ex H1 H3 → Z H3) →
      g (.int (0 + (i : Int))) (wipe σ vs) H1 fun σ2 H2 => wipe σ2 vs = wipe σ vs ∧ tt σ2 H2 fun b H3 => if b = true then te σ2 H3 Y else Z H3)
    (hd : ∀ H2, Ints H2 Dl (((List.range n).filter p).map f) → Ex H H2 → Qd H2) :
    ∃ W : Nat → Nat → Hp → Prop, (∃ m, W 0 m (upd H Dl (.lst []))) ∧ ∀ i m H, W i m H →
      ((Itr 0 n).stop i H ∧ Qd H) ∨ ((Itr 0 n).go i H ∧ ∃ Nx : Hp → Prop, (∀ H', Nx H' → ∃ m', m' < m ∧ W (i + 1) m' H') ∧ ∀ x H', (Itr 0 n).yld i H x H' → g x (wipe σ vs) H' fun σ2 H2 => wipe σ2 vs = wipe σ vs ∧ tt σ2 H2 fun b H3 =>
        if b = true then te σ2 H3 fun y H4 => ∃ acc, H4 Dl = some (.lst acc) ∧ acc.length < sizeLine ∧ Nx (upd H4 Dl (.lst (acc ++ [y]))) else Nx H3) :=
  lc_walk (Stay := fun _ => True) (R := fun i x _ => x = .int (0 + (i : Int))) (R' := fun _ => IsI) hD (fun _ _ _ _ => trivial) trivial (fun _ _ h _ => h) (fun _ _ => Nat.le_refl _) (fun i H1 x H2 _ _ ⟨e1, e2⟩ => ⟨ex_refl' e1, e2⟩) hn (fun _ _ _ _ _ h => h) p f
    (fun i x H1 acc hi hx e _ Y Z h1 h2 => by rw [hx]; exact hs i H1 hi (e.trans (del_le _ _)) Y Z (fun hp H4 e4 => h1 hp _ H4 e4 rfl) h2)
    (fun H2 acc h1 h2 h3 => hd H2 (by show _ = _; rw [h1, isI_eq h3]) (h2.trans (del_le _ _)))
/-- over enumerate(list of ints), ints made -/
theorem lc_enumI {K : PySem.W.Frag} {a : Addr} {ys : List Int} {g : TG} {tt : TT} {te : TE} {vs : List Nat} {σ : L2.St} {H : Hp} {Dl : Addr} {Qd : Hp → Prop} (hD : H Dl = none) (hsrc : SqL K H a (ys.map V.int)) (hn : ys.length < sizeLine) (p : Nat → Bool) (f : Nat → Int)
    (hs : ∀ i y t H1, ys[i]? = some y → H1 t = some (.tup [.int (i : Nat), .int y]) → Ex H H1 → ∀ (Y : V → Hp → Prop) (Z : Hp → Prop), (p i = true → ∀ H4, Ex H1 H4 → Y (.int (f i)) H4) → (p i = false → ∀ H3, Ex H1 H3 → Z H3) →
      g (.ref t) (wipe σ vs) H1 fun σ2 H2 => wipe σ2 vs = wipe σ vs ∧ tt σ2 H2 fun b H3 => if b = true then te σ2 H3 Y else Z H3)
    (hd : ∀ H2, Ints H2 Dl (((List.range ys.length).filter p).map f) → Ex H H2 → Qd H2) :
    ∃ W : Nat → Nat → Hp → Prop, (∃ m, W 0 m (upd H Dl (.lst []))) ∧ ∀ i m H, W i m H →
      ((Ite K a).stop i H ∧ Qd H) ∨ ((Ite K a).go i H ∧ ∃ Nx : Hp → Prop, (∀ H', Nx H' → ∃ m', m' < m ∧ W (i + 1) m' H') ∧ ∀ x H', (Ite K a).yld i H x H' → g x (wipe σ vs) H' fun σ2 H2 => wipe σ2 vs = wipe σ vs ∧ tt σ2 H2 fun b H3 =>
        if b = true then te σ2 H3 fun y H4 => ∃ acc, H4 Dl = some (.lst acc) ∧ acc.length < sizeLine ∧ Nx (upd H4 Dl (.lst (acc ++ [y]))) else Nx H3) := by
  have at_ : ∀ i, i < ys.length → (ys.map V.int)[i]? = some (.int (ys.getD i 0)) := fun i hi => by
    rw [List.getElem?_map, List.getElem?_eq_getElem hi, List.getD_eq_getElem?_getD, List.getElem?_eq_getElem hi]
    rfl
  refine lc_walk (Stay := fun H1 => SqL K H1 a (ys.map V.int)) (R := fun i x H1 => ∃ t, x = .ref t ∧ H1 t = some (.tup [.int (i : Nat), .int (ys.getD i 0)])) (R' := fun _ => IsI) hD (fun _ _ h e => Evl.ex_l e h) hsrc (fun i H1 hi h => ⟨_, _, h, at_ i hi⟩)
    (fun H1 h => ⟨_, h, by rw [List.length_map]; exact Nat.le_refl _⟩) (fun i H1 x H2 hi h y => ?_) hn (fun _ _ _ _ _ h => h) p f (fun i x H1 acc hi hx e _ Y Z h1 h2 => ?_) (fun H2 acc h1 h2 h3 => hd H2 (by show _ = _; rw [h1, isI_eq h3]) (h2.trans (del_le _ _)))
  · obtain ⟨t, z, rfl, nt, rfl, f⟩ := y
    have e := (at_ i hi).symm.trans (f _ h)
    cases e
    exact ⟨Evl.Ex.new nt, t, rfl, upd_same⟩
  · obtain ⟨t, rfl, ht⟩ := hx
    refine hs i (ys.getD i 0) t H1 ?_ ht (e.trans (del_le _ _)) Y Z (fun hp H4 e4 => h1 hp _ H4 e4 rfl) h2
    rw [List.getD_eq_getElem?_getD, List.getElem?_eq_getElem hi]
    rfl
end Lp

namespace Lp
open PySem PySem.Spec PyProof.Rows L2 L2H HotX
open Evl (Ex)
/-! ### defs called where an exception is handled, told that exception -/
abbrev Pin := Addr × Obj
structure FnE (P : Program) (w : World) (K : PySem.W.Frag) (mg : Str → Option Value) (base : Heap) (CX : CXT) (k : Nat) (f : Addr) (fd : FuncData) (ps : List Str) (sp : Addr → Value → Option Addr → Sp) : Prop where
  len : ∀ a c d vs H Q E, sp a c d vs H Q E → vs.length = ps.length
  run : ∀ (A : Around) (fr : List Env) (s : Shared) (H : Hp) (args : Args) (us : List Value) (vs : List V) (Q : VK) (E : XK) (q : Pin) (c : Value) (d : Option Addr), RoomH k A → Hot1 A q → L2N.Zn c d q.2 → PinOk fr H s q → Env0 P w K mg base A fr s H →
    BindsTo s fd args (ps.zip us) → Vals vs us → sp q.1 c d vs H Q E → codeAny (model P w) A (.call (.ref f) args) (CR CX fr P w H s Q E) s
/-- such a def by its body -/
theorem fn_ofE {CX : CXT} {P : Program} {w : World} {K : PySem.W.Frag} {mg : Str → Option Value} {base : Heap} {k : Nat} {f : Addr} {nm qn : Str} {pr : Arguments} {bd : List Stmt} {sc : Scope} {v1 v2 v3 v4 cdv v5 oc : Value} {an od : Option Addr}
    {sl : Array (Option Value)} {N ps : List Str} {sp : Addr → Value → Option Addr → Sp} (hf : K.lookup f = some ⟨oc, od, .func (PySem.W.fnOf nm qn pr bd sc v1 v2 v3 v4 an cdv v5), sl⟩) (hcd : PySem.W.codeIn K cdv qn = true) (S : FnScope N ps sc)
    (len : ∀ a c d vs H Q E, sp a c d vs H Q E → vs.length = ps.length)
    (body : ∀ (A : Around) (fr : List Env) (s : Shared) (H : Hp) (vs : List V) (Q : VK) (E : XK) (q : Pin) (c : Value) (d : Option Addr), Hot1 A q → L2N.Zn c d q.2 → RoomH k (A.deeper (envOfC qn sc s.heap.objs.size f cdv)) → sp q.1 c d vs H Q E →
      ∃ t, PSs (cxH CX P w K mg base N qn sc f cdv A fr s H E q) bd t ∧ t { nx := fun _ H2 => Q .non H2, rt := Q } (L2.start N vs) H) :
    FnE P w K mg base CX (k + 1) f (PySem.W.fnOf nm qn pr bd sc v1 v2 v3 v4 an cdv v5) ps sp := by
  refine ⟨len, ?_⟩
  intro A fr s H args us vs Q E q c d room hot hzn pin en bind rv hq
  have eqlen := len _ _ _ vs H Q E hq
  have inK : K.In s.heap := en.mod.kin.keeps fun b o z => (en.bs b o z).1
  have nolim : s.heap.NoLimit := en.mod.nolimit.keeps fun b o z => (en.bs b o z).1
  have kinds : ∀ z ∈ ps.zip us, sc.names.lookup z.1 = some .local ∨ (sc.names.lookup z.1 = some .cell ∧ ((cellsFrom (s.heap.objs.size + 1) sc.names []).lookup z.1).isSome = true) := by
    intro z hz
    obtain ⟨n, v⟩ := z
    exact (S.par n (List.of_mem_zip hz).1).imp id fun c => ⟨c, PySem.W.cellsFrom_some _ _ _ (.inl c)⟩
  refine codeAny_call_function room.depth (inK _ _ hf) rfl S.co S.gen rfl (PySem.W.codeRec_of inK hcd) (bind _ _ _ _ ?_)
  refine wpAny_newFunctionEnv_cells S.kind kinds fun ev eev s2 x => ?_
  subst eev
  refine ⟨nolim.keeps x.toInCall.keep, codeAny_func ?_⟩
  obtain ⟨t, pt, tq⟩ := body A fr s H vs Q E q c d hot hzn (room.deeper _) hq
  have start : Inv (cxH CX P w K mg base N qn sc f cdv A fr s H E q) [] (L2.start N vs) H s2 := inv_startH S pin en eqlen rv x
  refine wpAny_mono (pt.run [] s2 (L2.start N vs) H _ start tq) (fun fl s3 hs => ?_) fun _ _ z => z
  cases fl with
  | ret u =>
    obtain ⟨v, τ, H3, J, rel, done⟩ := hs
    exact ⟨v, H3, J.os, J.bare, J.base, J.hok, rel, done⟩
  | next =>
    obtain ⟨τ, H3, J, done⟩ := hs
    exact ⟨.non, H3, J.os, J.bare, J.base, J.hok, rfl, done⟩
  | brk =>
    obtain ⟨_, _, _, z⟩ := hs
    exact z.elim
  | cont =>
    obtain ⟨_, _, _, z⟩ := hs
    exact z.elim
theorem Fun.okE {P : Program} {w : World} {K : PySem.W.Frag} {mg : Str → Option Value} {base : Heap} {x qn : Str} {st : Stmt} {f : Addr} {fd : FuncData} {N ps : List Str} {k : Nat} {sp : Addr → Value → Option Addr → Sp} (F : Fun K x qn st f fd) (S : FnScope N ps (defScope st))
    (len : ∀ a c d vs H Q E, sp a c d vs H Q E → vs.length = ps.length)
    (body : ∀ (cdv : Value) (A : Around) (fr : List Env) (s : Shared) (H : Hp) (vs : List V) (Q : VK) (E : XK) (q : Pin) (c : Value) (d : Option Addr), Hot1 A q → L2N.Zn c d q.2 → RoomH k (A.deeper (envOfC qn (defScope st) s.heap.objs.size f cdv)) → sp q.1 c d vs H Q E →
      ∃ t, PSs (cxH (L2N.CX P w) P w K mg base N qn (defScope st) f cdv A fr s H E q) (defBody st) t ∧ t { nx := fun _ H2 => Q .non H2, rt := Q } (L2.start N vs) H) : FnE P w K mg base (L2N.CX P w) (k + 1) f fd ps sp := by
  obtain ⟨oc, od, kV, doc, pm, an, cdv, ct, osl, rfl, hf, hcd⟩ := F.ex
  exact fn_ofE hf hcd S len fun A fr s H vs Q E q c d hot hzn room hq => body cdv A fr s H vs Q E q c d hot hzn room hq
/-- a def as before, its exceptions with no context -/
theorem Fun.okN {P : Program} {w : World} {K : PySem.W.Frag} {mg : Str → Option Value} {base : Heap} {x qn : Str} {st : Stmt} {f : Addr} {fd : FuncData} {N ps : List Str} {k : Nat} {sp : Sp} (F : Fun K x qn st f fd) (S : FnScope N ps (defScope st))
    (len : ∀ vs H Q E, sp vs H Q E → vs.length = ps.length)
    (body : ∀ (cdv : Value) (A : Around) (fr : List Env) (s : Shared) (H : Hp) (vs : List V) (Q : VK) (E : XK), Room k (A.deeper (envOfC qn (defScope st) s.heap.objs.size f cdv)) → sp vs H Q E →
      ∃ t, PSs (cxOf (L2N.CX P w) P w K mg base N qn (defScope st) f cdv A fr s H E) (defBody st) t ∧ t { nx := fun _ H2 => Q .non H2, rt := Q } (L2.start N vs) H) : FnOk P w K mg base (L2N.CX P w) (k + 1) f fd ps sp := by
  obtain ⟨oc, od, kV, doc, pm, an, cdv, ct, osl, rfl, hf, hcd⟩ := F.ex
  exact fn_of hf hcd S len fun A fr s H vs Q E room hq => body cdv A fr s H vs Q E room hq
section
variable {X : Cx} {k : Nat} {f : Addr} {fd : FuncData} {ps : List Str} {E : L2.St → XK} {x : Str} {np pos : Pos} {e : Expr} {es : List Expr} {t : TA}
/-- f(e, ..) in such a suite -/
theorem pe_callE {CX : CXT} {sp : Addr → Value → Option Addr → Sp} {a : Addr} {oe : Obj} {c : Value} {d : Option Addr} (F : FnE X.prog X.w X.K X.mg X.base CX k f fd ps sp) (hr : RoomH k X.A) (hot : Hot1 X.A (a, oe)) (hzn : L2N.Zn c d oe) (hq : (a, oe) ∈ X.pn) (hg : Gl X x) (hm : X.mg x = some (.ref f)) (hk : PySem.W.keepIn X.K (.ref f) = true) (hb : Binds X.K fd ps [])
    (hx : ∀ σ, PassesAt CX X σ (E σ)) (ha : PA X (e :: es) t) (hdb : (x == ("__debug__" : Str)) = false := by decide) (he : starEach (e :: es) X.env = (false, eval e X.env) :: starEach es X.env := by rfl) (hpl : (backTo pos (starEach es X.env)).any (·.1) = false := by rfl) :
    PE X (.Call (.Name x np) (e :: es) [] pos) (tCallS (sp a c d) E t) := by
  constructor
  intro pins s σ H Q I h
  refine wpAny_Call_Name_kw (ld_glob I hg hm ?_ hdb)
  refine PySem.W.callWith_K (h₀ := X.base) I.ok.mod.kin hk (thn (ha.run pos pins s σ H _ I h) ?_) he hpl
  rintro us s1 ⟨vs, H1, I1, rv, done⟩
  refine ⟨I1.kIn, ?_⟩
  have n1 : us.length = ps.length := rv.length.symm.trans (F.len _ _ _ _ _ _ _ done)
  have bnd := hb s1 us I1.kIn (by simpa using n1)
  rw [List.append_nil] at bnd
  have pf := I1.pin (a, oe) (List.mem_append_left _ hq)
  have pok : PinOk X.stack H1 s1 (a, oe) := by
    refine ⟨pf.1, pf.2.1, fun z => ?_, pf.2.2.2.2⟩
    rcases List.mem_cons.mp (I1.stkSub a z) with y | y
    · exact pf.2.2.1 y
    · exact pf.2.2.2.1 y
  refine wpAny_call (codeAny_mono (F.run X.A X.stack s1 H1 ⟨us, []⟩ us vs Q (E σ) (a, oe) c d hr hot hzn pok I1.env0 bnd rv done) fun r s2 hz => ?_)
  cases r with
  | error u => exact hx σ pins H1 s1 u s2 I1 hz
  | ok fl =>
    cases fl with
    | ret u => exact I1.after hz
    | next => exact hz.elim
    | brk => exact hz.elim
    | cont => exact hz.elim
/-- isinstance of the exception that stands in the context -/
theorem call_isH {a D : Addr} {oe : Obj} (C : ExcC X.K D) (hz : Zc (.ref D) none oe) (hf : ∃ vs, oe.data = .fields vs) (hm : (a, oe) ∈ X.pn) : CallR X (.builtin "isinstance") (rIsE X.K D a) := by
  intro pins s σ H xs us Q I rv hw
  obtain ⟨c, cv, b, rfl, only, ans, done⟩ := hw
  obtain ⟨u1, u2, rfl, r1, r2⟩ := vals2 rv
  cases r1
  have ecv := only _ r2
  subst ecv
  have there := (I.pin (a, oe) (List.mem_append_left _ hm)).1
  obtain ⟨fs, hfs⟩ := hf
  obtain ⟨oc, od, oda, osl⟩ := oe
  obtain ⟨z1, z2⟩ := hz
  dsimp only at z1 z2 hfs
  subst z1 z2 hfs
  exact PySem.W.kia_one (PySem.W.handS_kitx_exc C.hg C.hk C.hs C.hd C.ha C.hn C.ht C.hm) I.kIn (⟨there, rfl, rfl, trivial⟩ : PySem.W.InstAt s.heap a _ D none) ans (fun y => nomatch y) fun tk => ⟨.bl b, H, I.kept (t' := tk) fun _ _ y => y, rfl, done⟩
end
/-! ### a comprehension over a range, there -/
theorem inv_pn {X : Cx} {q pins : List Pin} {σ : L2.St} {H : Hp} {s : Shared} (I : Inv X pins σ H s) (h : ∀ p ∈ q ++ pins, s.heap.get? p.1 = some p.2 ∧ H p.1 = none ∧ p.1 ≠ X.env.locals ∧ p.1 ∉ X.fs ∧ ∀ v, p.2.data ≠ .cell v) : Inv { X with pn := q } pins σ H s := by
  obtain ⟨o, e1, e2, e3, e4, e5, e6, e7, _, e9, e10⟩ := I
  exact ⟨⟨o.mod, o.kind, o.glob, o.blt, o.above, o.inj, o.has, o.cab, o.hd, o.frames, o.stk, o.exf, o.bs, o.bsz, o.noex, o.exfs, o.funs, o.frf⟩, e1, e2, e3, e4, e5, e6, e7, h, e9, e10⟩
section
variable {X : Cx}
/-- the handled exception stands behind a block's start -/
theorem blk_pin {q : Pin} {s s2 : Shared} {G H : Hp} {τ : L2.St} {sc : Scope} {ce : Env} {fp : List Addr} (hq : s.heap.get? q.1 = some q.2) (nG : G q.1 = none) (nx : q.1 ∉ fp) (nfs : q.1 ∉ frs X.stack) (J : Inv (X.blk s G sc ce fp) [] τ H s2) :
    s2.heap.get? q.1 = some q.2 ∧ H q.1 = none := ⟨J.base.keep _ _ hq nG nfs nx, J.base.free _ _ hq nG nx⟩
theorem pe_lcH {elt tg a : Expr} {ifs : List Expr} {sc : Scope} {own : List (Str × Nat)} {pos np rp : Pos} {ta : TA} {g : TG} {tt : TT} {te : TE} {q : Pin} (hN : X.N.Nodup) (hot : Hot1 X.A q) (hq : q ∈ X.pn) (hgl : Gl X "range") (hm : X.mg "range" = none) (ha : PA X [a] ta)
    (ok : BlkOk X.N X.env.scope sc own)
    (bg : ∀ (s : Shared) (H : Hp) (C : Addr) (cl : List (Str × Addr)) (fp : List Addr), PG (X.blk s H sc (compEnvC sc cl C X.env) fp) tg g)
    (bt : ∀ (s : Shared) (H : Hp) (C : Addr) (cl : List (Str × Addr)) (fp : List Addr), PTs (X.blk s H sc (compEnvC sc cl C X.env) fp) ifs tt)
    (be : ∀ (s : Shared) (H : Hp) (C : Addr) (cl : List (Str × Addr)) (fp : List Addr), PE (X.blk s H sc (compEnvC sc cl C X.env) fp) elt te)
    (hst : starEach [a] X.env = [(false, eval a X.env)] := by rfl)
    (hs : ∀ x, foldedSetIterable (.Call (.Name "range" np) [a] [] rp) X.env x = pure x := by intro _; rfl) :
    PE X (.ListComp elt [⟨tg, .Call (.Name "range" np) [a] [] rp, ifs, 0⟩] sc pos) (tLc (iRng1 ta) g tt te (own.map (·.2))) := by
  constructor
  intro pq s0 τ G Qv J0 hw
  rw [eval_ListComp]
  have free : ∀ y ∈ sc.names, y.2 = .free → ∃ c, X.env.cells.lookup y.1 = some c := fun y hy e => J0.ok.has _ ((ok.free y hy e).elim .inl .inr)
  refine wpAny_comprehension_free (use := none) rfl hs (closure_ok free) ok.kind (fun y hy e => by rw [ok.uniq y hy, e]) (thn ((pi_range1H (tg := tg) hgl hm ha hst).run pq s0 τ G _ J0 hw) fun xv s1 hx => thn hx fun itv s2 h2 => ?_)
  obtain ⟨it, fp, tn, Jt, G2, rfl, J2, T, t2, f2, rd⟩ := h2
  refine wpAny_newObj_type (newEnv_comp ?_) (by show 0 ≤ sizeLine; decide)
  generalize hL : s2.heap.objs.size = L
  have nL : G2 L = none := J2.hok.fresh (Nat.le_of_eq hL)
  obtain ⟨W, ⟨m0, w0⟩, turn⟩ := rd L nL
  generalize h3 : ({ s2 with heap := s2.heap.push { cls := .type "list", data := .seq ([] : List Value).toArray } } : Shared) = s3
  have e3 : s3.heap = s2.heap.push { cls := .type "list", data := .seq ([] : List Value).toArray } := by rw [← h3]
  have J3 : Inv X pq τ (upd G2 L (.lst [])) s3 := by
    rw [← h3]
    refine J2.laid (t' := s2.toks) (fun b o z => Heap.get?_push_of_some _ z) (Nat.le_of_eq hL) ⟨Nat.zero_le _, [], 0, .nil, ?_⟩
    rw [← hL]
    exact Heap.get?_push_size _ rfl
  obtain ⟨p1, p2, p3, p4, p5⟩ := J3.pin q (List.mem_append_left _ hq)
  have below : ∀ b ∈ fp, b < s2.heap.objs.size := by
    intro b hb
    obtain ⟨o, z, _⟩ := T.obj _ _ t2 b hb
    exact Heap.lt_size z
  have f3 : ∀ b ∈ fp, FpOk X pq (upd G2 L (.lst [])) b ∧ b < s3.heap.objs.size := by
    intro b hb
    have lt := below b hb
    refine ⟨⟨?_, (f2 b hb).2⟩, ?_⟩
    · rw [upd_ne (by rw [← hL]; exact Nat.ne_of_lt lt)]
      exact (f2 b hb).1
    · rw [e3, Heap.size_push]
      exact Nat.lt_succ_of_lt lt
  have qfp : q.1 ∉ fp := fun hb => (f2 q.1 hb).2.2.2.2.2 q (List.mem_append_left _ hq) rfl
  have qst : q.1 ∉ frs X.stack := fun z => by
    rcases List.mem_cons.mp (J3.stkSub q.1 z) with y | y
    · exact p3 y
    · exact p4 y
  have qlt : q.1 < s3.heap.objs.size := Heap.lt_size p1
  have t3 : tn 0 s3.heap := T.keep _ _ _ t2 fun b _ o z => by
    rw [e3]
    exact Heap.get?_push_of_some _ z
  have J4 := block_start J3 ok hN f3
  have g1 := bg s3 (upd G2 L (.lst [])) s3.heap.objs.size (cellsFrom (s3.heap.objs.size + 1) sc.names (cloFrom X.env.cells sc.names [])) fp
  have g2 := bt s3 (upd G2 L (.lst [])) s3.heap.objs.size (cellsFrom (s3.heap.objs.size + 1) sc.names (cloFrom X.env.cells sc.names [])) fp
  have g3 := be s3 (upd G2 L (.lst [])) s3.heap.objs.size (cellsFrom (s3.heap.objs.size + 1) sc.names (cloFrom X.env.cells sc.names [])) fp
  have fpn : ∀ b ∈ fp, (upd G2 L (.lst [])) b = none := fun b hb => (f3 b hb).1.1
  generalize hce : compEnvC sc (cellsFrom (s3.heap.objs.size + 1) sc.names (cloFrom X.env.cells sc.names [])) s3.heap.objs.size X.env = ce at J4 g1 g2 g3
  have cel : ce.locals = s3.heap.objs.size := by rw [← hce]; rfl
  generalize hG3 : upd G2 L (.lst []) = G3 at J3 J4 g1 g2 g3 w0 fpn f3 p2
  generalize h4 : ({ s3 with heap := pushCells (s3.heap.push { cls := .type "dict", data := .dict #[] }) sc.names } : Shared) = s4 at J4
  have t4 : tn 0 s4.heap := T.keep _ _ _ t3 fun b _ o z => by
    rw [← h4]
    exact pushCells_keeps _ _ _ _ (Heap.get?_push_of_some _ z)
  -- the block with the exception in sight
  have inn : ∀ {τ2 : L2.St} {H2 : Hp} {s5 : Shared}, Inv (X.blk s3 G3 sc ce fp) [] τ2 H2 s5 → Inv { X.blk s3 G3 sc ce fp with pn := [q] } [] τ2 H2 s5 := by
    intro τ2 H2 s5 J
    refine inv_pn J fun p hp => ?_
    have ep : p = q := by simpa using hp
    rw [ep]
    obtain ⟨y1, y2⟩ := blk_pin p1 p2 qfp qst J
    refine ⟨y1, y2, ?_, qst, p5⟩
    show q.1 ≠ ce.locals
    rw [cel]
    exact Nat.ne_of_lt qlt
  have out : ∀ {τ2 : L2.St} {H2 : Hp} {s5 : Shared}, Inv { X.blk s3 G3 sc ce fp with pn := [q] } [] τ2 H2 s5 → Inv (X.blk s3 G3 sc ce fp) [] τ2 H2 s5 := by
    intro τ2 H2 s5 J
    exact inv_pn (X := { X.blk s3 G3 sc ce fp with pn := [q] }) (q := []) J fun p hp => absurd hp (by simp)
  have hotc : HotC { X.blk s3 G3 sc ce fp with pn := [q] } := ⟨q, hot, List.mem_singleton.mpr rfl⟩
  have foot : ∀ {τ2 : L2.St} {H2 : Hp} {s5 : Shared}, Inv (X.blk s3 G3 sc ce fp) [] τ2 H2 s5 → (∀ b ∈ fp, H2 b = none) → ∀ b ∈ fp, FpOk { X.blk s3 G3 sc ce fp with pn := [q] } [] H2 b := by
    intro τ2 H2 s5 J hn b hb
    refine ⟨hn b hb, (J.ok.exf b hb).1, J.ok.exfs b hb, .inl hb, fun x c z => (J.ok.exf b hb).2 x c z, fun p hp => ?_⟩
    have ep : p = q := by simpa using hp
    rw [ep]
    exact fun z => qfp (z ▸ hb)
  have loop : codeAny (model X.prog X.w) X.A (.compLoop (.ListComp elt [⟨tg, .Call (.Name "range" np) [a] [] rp, ifs, 0⟩] sc pos) 0 (.ref it) (.ref L) ce) (compPost (model X.prog X.w) X.A X.xe none (EP X pq τ Qv) (.ref L) s3.heap.objs.size) s4 := by
    refine compLoop_any (fun n s5 => ∃ i H5, Inv (X.blk s3 G3 sc ce fp) [] (wipe τ (own.map (·.2))) H5 s5 ∧ tn i s5.heap ∧ (∀ b ∈ fp, H5 b = none) ∧ W i n H5) ?_ m0 ⟨0, G3, J4, t4, fpn, w0⟩
    intro n s5 hI
    obtain ⟨i, H5, J5, t5, n5, w5⟩ := hI
    rcases turn i n H5 w5 with ⟨stop, fin⟩ | ⟨go, Nx, more, each⟩
    · refine thnF (T.done { X.blk s3 G3 sc ce fp with pn := [q] } rfl rfl rfl hotc i [] s5 _ H5 (fun _ _ => False) (inn J5) (foot J5 n5) t5 stop) fun r s6 hr => ?_
      obtain ⟨rfl, J6⟩ := hr
      have J6 := out J6
      have J7 : Inv X pq τ H5 s6 := J3.call' (ch := fp) J6.os J6.base J6.hok J6.bare fun b hb => by
        obtain ⟨_, y1, _, y2, y3, y4⟩ := (f3 b hb).1
        exact ⟨y2, y1, y3, y4⟩
      have nC : H5 s3.heap.objs.size = none := by
        have z : H5 ce.locals = none := J6.free
        rwa [cel] at z
      obtain ⟨m, hn, _⟩ := J6.loc
      have hn : s6.heap.Ns ce.locals m := hn
      rw [cel] at hn
      obtain ⟨k0, k1, _, k2, k3, k4⟩ := J3.fpOk (H' := H5) (Nat.le_refl _) nC
      exact ⟨m, hn, fun h8 sb => ⟨.ref L, H5, J7.turned (t' := s6.toks) (fun b o nb z => (sb.2 b nb).trans z) k0 k1 k2 k3 k4, rfl, fin⟩⟩
    · refine thnF (T.item { X.blk s3 G3 sc ce fp with pn := [q] } rfl rfl rfl hotc i [] s5 _ H5 (fun _ _ => False) (inn J5) (foot J5 n5) t5 go) fun r s6 hr => ?_
      obtain ⟨u, rfl, h6⟩ := hr
      refine thnF h6 fun _ s7 hy => ?_
      obtain ⟨x, H7, J7, r7, y7, t7, n7⟩ := hy
      have J7 := out J7
      have foot7 : ∀ b ∈ fp, FpOk (X.blk s3 G3 sc ce fp) [] H7 b := fun b hb => by
        obtain ⟨y1, y2, y3, y4, y5, _⟩ := foot J7 n7 b hb
        exact ⟨y1, y2, y3, y4, y5, fun p hp => absurd hp (by simp)⟩
      have J7p := J7.pinned foot7 (T.obj _ _ t7)
      refine thnF (g1.run _ s7 _ H7 x u _ J7p r7 (each x H7 y7)) fun _ s8 hz => ?_
      obtain ⟨τ8, H8, J8, same, more8⟩ := hz
      refine thnF (g2.run _ s8 τ8 H8 _ J8 more8) fun b s9 hz => ?_
      obtain ⟨H9, J9, more9⟩ := hz
      have back : ∀ {s10 : Shared} {H10 : Hp}, Inv (X.blk s3 G3 sc ce fp) ([] ++ pinsAt fp s7.heap) τ8 H10 s10 → Nx H10 → ∃ m, m < n ∧ ∃ i H5, Inv (X.blk s3 G3 sc ce fp) [] (wipe τ (own.map (·.2))) H5 s10 ∧ tn i s10.heap ∧ (∀ b ∈ fp, H5 b = none) ∧ W i m H5 := by
        intro s10 H10 J10 nx
        obtain ⟨m2, lt, w2⟩ := more H10 nx
        have held : ∀ b ∈ fp, ∀ o, s7.heap.get? b = some o → s10.heap.get? b = some o ∧ H10 b = none := by
          intro b hb o z
          have y := J10.pin (b, o) (List.mem_append_right _ (List.mem_append_right _ (mem_pinsAt hb z)))
          exact ⟨y.1, y.2.1⟩
        have len8 : (wipe τ (own.map (·.2))).length = τ8.length := by rw [← same, wipe_length]
        refine ⟨m2, lt, i + 1, H10, (J10.unpinned (pins := [])).weak len8 ?_, T.keep _ _ _ t7 fun b hb o z => (held b hb o z).1, ?_, w2⟩
        · intro j v z
          rw [← same] at z
          exact (wipe_some z).1
        · intro b hb
          obtain ⟨o, z, _⟩ := T.obj _ _ t7 b hb
          exact (held b hb o z).2
      cases b with
      | false =>
        simp only [Bool.false_eq_true, if_false] at more9 ⊢
        exact back J9 more9
      | true =>
        simp only [if_true] at more9 ⊢
        refine thnF (g3.run _ s9 τ8 H9 _ J9 more9) fun z s10 hz => ?_
        obtain ⟨yv, H10, J10, r10, acc, hacc, lacc, nx⟩ := hz
        exact app_ok (X := X.blk s3 G3 sc ce fp) J10 hacc lacc r10 fun s11 J11 => back J11 nx
  show codeAny _ _ (.compStart (.ListComp elt [⟨tg, .Call (.Name "range" np) [a] [] rp, ifs, 0⟩] sc pos) 0 (.ref it) (.ref L) _) (compPost (model X.prog X.w) X.A X.xe none (EP X pq τ Qv) (.ref L) s3.heap.objs.size) _
  subst h4
  subst hce
  exact codeAny_compStart_list loop (T.self X.A 0 _ _ _ t4 loop)
end
/-! ### the same words as before, for exceptions with no context -/
structure CalN (P : Program) (w : World) (K : PySem.W.Frag) (mg : Str → Option Value) (base : Heap) (k : Nat) (x : Str) (ps : List Str) (sp : Sp) where
  f : Addr
  fd : FuncData
  ok : FnOk P w K mg base (L2N.CX P w) k f fd ps sp
  gl : mg x = some (.ref f)
  kp : PySem.W.keepIn K (.ref f) = true
  bd : Binds K fd ps []
structure CalE (P : Program) (w : World) (K : PySem.W.Frag) (mg : Str → Option Value) (base : Heap) (k : Nat) (x : Str) (ps : List Str) (sp : Addr → Value → Option Addr → Sp) where
  f : Addr
  fd : FuncData
  ok : FnE P w K mg base (L2N.CX P w) k f fd ps sp
  gl : mg x = some (.ref f)
  kp : PySem.W.keepIn K (.ref f) = true
  bd : Binds K fd ps []
theorem passLN {X : Cx} : Passes (L2N.CX X.prog X.w) X E0 := fun _ _ _ _ _ _ _ h => by
  obtain ⟨_, _, _, _, _, _, _, _, _, _, _, _, z⟩ := h
  cases z
theorem passHN {X : Cx} : ∀ σ, PassesAt (L2N.CX X.prog X.w) X σ ((fun _ => E0) σ) := fun _ _ _ _ _ _ _ h => by
  obtain ⟨_, _, _, _, _, _, _, _, _, _, _, _, z⟩ := h
  cases z
theorem noCXN {P : Program} {w : World} {H : Hp} {s : Shared} {e : Value} {s' : Shared} (h : L2N.CX P w [] H s (fun _ _ _ => False) e s') : False := by
  obtain ⟨_, _, _, _, _, _, _, _, _, _, _, _, z⟩ := h
  exact z
theorem Exo.mkN {X : Cx} {x m : Str} (T : Exo X.K X.mg x) (hg : Gl X x) {j : Nat} {p p2 pos : Pos} (hdb : (x == ("__debug__" : Str)) = false := by decide) :
    L2N.PMk X (.Call (.Name x p) [.Constant (.str m) j p2] [] pos) (fun _ H Q => Q (.ref T.C) none H) :=
  L2N.pmk_own PySem.F.excBase_ValueError T.q T.gC T.kC (raises_own T.e1 T.e2) hg hdb
/-- the goal behind the head, exceptions with no context -/
theorem walkXN {l : PySem.W.OpenLaw} {n k : Nat} {q : Program} {loose : List Str} {XP : (Str → Option Value) → Heap → Prop} {YP : World → Heap → Prop} {d : DefRec} {K : Params → PySem.W.Frag} {sp : World → Sp} {x : Str}
    (hn : l.most = some n) (hz : n ≤ sizeLine) (hdf : d.params.defaults = []) (hr : Room k callerA) (hY : ∀ (w : World) (h : Heap), YP w h → (K w.params).In h)
    (F : ∀ (w : World) (mg : Str → Option Value) (fa : Addr) (h : Heap), (K w.params).In h → h.Ns mainGlobals mg → XP mg h → mg d.name = some (.ref fa) →
      ∃ fd : FuncData, (∀ (s : Shared) (u : Value), BindsTo s fd ⟨[u], []⟩ [(x, u)]) ∧
        ∀ base : Heap, (K w.params).In base → base.Ns mainGlobals mg → FnOk l.prog w (K w.params) mg base (L2N.CX l.prog w) k fa fd [x] (sp w))
    (hsp : ∀ (w : World) (H : Hp) (a : Addr) (ns : List Int), ns.length ≤ n → SqL (K w.params) H a (ns.map V.int) → sp w [.ref a] H (fun v _ => v = .bl true) fun _ _ _ => False) :
    PySem.W.WalkO q loose XP YP l.row.toRowW d [] (fun f vs => PySem.call f vs) :=
  Att.attach_call hn hdf fun w s0 s1 mg mb fa o pm cd doc a vs ns G Y _ _ _ hmg hobj hints hlen hg => by
    obtain ⟨fd, hb, hF⟩ := F w mg fa s1.heap (hY w _ Y) G.T.g G.X hmg
    exact law_call (CX := L2N.CX l.prog w) (hY w _ Y) G.T.g G.T.b G.T.builtins G.T.nolimit hg hobj hints (by omega) hr hF hb (fun H _ hS => hsp w H a ns hlen hS) fun H e s' => noCXN
/-- the catch is hot -/
theorem hot_suite {A : Around} {a : Addr} {oe : Obj} {c : Value} {d : Option Addr} (hz : L2N.Zn c d oe) (hf : ∃ vs, oe.data = .fields vs) : Hot1 (A.mark (some (.ref a))) (a, oe) := by
  obtain ⟨vs, e⟩ := hf
  exact ⟨rfl, vs, e, hz.2.2 vs e⟩
theorem roomH_mark {k : Nat} {A : Around} {h : Option Value} (r : RoomH k A) : RoomH k (A.mark h) := ⟨r.dp, r.un⟩
/-! ### the seven kinds of errors -/
/-- what the text says of the class D, the i-th of the seven -/
structure ErrOk (K : PySem.W.Frag) (C0 C1 C2 C3 C4 C5 C6 CP D : Addr) (i : Nat) : Prop where
  ec : ExcC K D
  lt : i < 7
  k0 : PySem.W.kitOne K (.ref D) (.ref C0) = some (decide (i = 0))
  k1 : PySem.W.kitOne K (.ref D) (.ref C1) = some (decide (i = 1))
  k2 : PySem.W.kitOne K (.ref D) (.ref C2) = some (decide (i = 2))
  k3 : PySem.W.kitOne K (.ref D) (.ref C3) = some (decide (i = 3))
  k4 : PySem.W.kitOne K (.ref D) (.ref C4) = some (decide (i = 4))
  k5 : PySem.W.kitOne K (.ref D) (.ref C5) = some (decide (i = 5))
  k6 : PySem.W.kitOne K (.ref D) (.ref C6) = some (decide (i = 6))
  kv : PySem.W.kitOne K (.ref D) (.type "ValueError") = some true
  px : PySem.W.exmOne K (.ref D) (.ref CP) = some true
/-- what _law_other says of it -/
def sp_law_other (K : PySem.W.Frag) (C0 C1 C2 C3 C4 C5 C6 CP : Addr) : Addr → Value → Option Addr → Sp := fun a c d vs H Q _ => ∃ (k : Int) (D : Addr) (i : Nat), vs = [.ref a, .int k] ∧ c = .ref D ∧ d = none ∧ ErrOk K C0 C1 C2 C3 C4 C5 C6 CP D i ∧
  ∀ H', Ex H H' → Q (.bl (!decide (k = (i : Int)))) H'
/-- over a range, values that need no heap made -/
theorem lc_rangeV {n : Nat} {g : TG} {tt : TT} {te : TE} {vs : List Nat} {σ : L2.St} {H : Hp} {Dl : Addr} {Qd : Hp → Prop} (hD : H Dl = none) (hn : n < sizeLine) (p : Nat → Bool) (f : Nat → V)
    (hs : ∀ i H1, i < n → Ex H H1 → ∀ (Y : V → Hp → Prop) (Z : Hp → Prop), (p i = true → ∀ H4, Ex H1 H4 → Y (f i) H4) → (p i = false → ∀ H3, Ex H1 H3 → Z H3) →
      g (.int (0 + (i : Int))) (wipe σ vs) H1 fun σ2 H2 => wipe σ2 vs = wipe σ vs ∧ tt σ2 H2 fun b H3 => if b = true then te σ2 H3 Y else Z H3)
    (hd : ∀ H2, H2 Dl = some (.lst (((List.range n).filter p).map f)) → Ex H H2 → Qd H2) :
    ∃ W : Nat → Nat → Hp → Prop, (∃ m, W 0 m (upd H Dl (.lst []))) ∧ ∀ i m H, W i m H →
      ((Itr 0 n).stop i H ∧ Qd H) ∨ ((Itr 0 n).go i H ∧ ∃ Nx : Hp → Prop, (∀ H', Nx H' → ∃ m', m' < m ∧ W (i + 1) m' H') ∧ ∀ x H', (Itr 0 n).yld i H x H' → g x (wipe σ vs) H' fun σ2 H2 => wipe σ2 vs = wipe σ vs ∧ tt σ2 H2 fun b H3 =>
        if b = true then te σ2 H3 fun y H4 => ∃ acc, H4 Dl = some (.lst acc) ∧ acc.length < sizeLine ∧ Nx (upd H4 Dl (.lst (acc ++ [y]))) else Nx H3) := by
  have same : ∀ {xs : List V} {ys : List V}, Paired (fun v w => v = w) xs ys → xs = ys := by
    intro xs ys h
    induction h with
    | nil => rfl
    | cons r _ ih => rw [r, ih]
  exact lc_walk (Stay := fun _ => True) (R := fun i x _ => x = .int (0 + (i : Int))) (R' := fun _ v w => v = w) hD (fun _ _ _ _ => trivial) trivial (fun _ _ h _ => h) (fun _ _ => Nat.le_refl _) (fun i H1 x H2 _ _ ⟨e1, e2⟩ => ⟨ex_refl' e1, e2⟩) hn (fun _ _ _ _ _ h => h) p f
    (fun i x H1 acc hi hx e _ Y Z h1 h2 => by rw [hx]; exact hs i H1 hi (e.trans (del_le _ _)) Y Z (fun hp H4 e4 => h1 hp _ H4 e4 rfl) h2)
    (fun H2 acc h1 h2 h3 => hd H2 (by rw [h1, same h3]) (h2.trans (del_le _ _)))
def bolsD (bs : List Bool) : PyData := .list (bs.map PyData.bool)
theorem dpAllBols {K : PySem.W.Frag} {H : Hp} : ∀ bs : List Bool, DpAll K H (bs.map V.bl) (bs.map PyData.bool)
  | [] => .nil
  | b :: r => .cons (.bl b) (dpAllBols r)
theorem layBols : ∀ bs : List Bool, PyData.canLayAll0 (bs.map PyData.bool) = true ∧ PyData.depthAll (bs.map PyData.bool) ≤ 1
  | [] => ⟨rfl, by simp [PyData.depthAll]⟩
  | b :: r => by
    have h := layBols r
    simp only [List.map_cons, PyData.canLayAll0, PyData.canLay0, PyData.depthAll, PyData.depth, h.1]
    exact ⟨rfl, by omega⟩
theorem shBols (bs : List Bool) : SeqAt.shaped (bolsD bs) = true := by
  have h := layBols bs
  unfold SeqAt.shaped bolsD
  rw [PyData.canLay0, h.1, Bool.true_and, PyData.depth]
  exact decide_eq_true (by omega)
theorem eqvBols : ∀ bs cs : List Bool, PyData.eqvAll (bs.map PyData.bool) (cs.map PyData.bool) = decide (bs = cs)
  | [], [] => by simp [PyData.eqvAll]
  | [], _ :: _ => by simp [PyData.eqvAll]
  | _ :: _, [] => by simp [PyData.eqvAll]
  | b :: r, c :: t => by
    have e : PyData.eqv (.bool b) (.bool c) = decide (b = c) := by
      cases b <;> cases c <;> simp [PyData.eqv]
    rw [List.map_cons, List.map_cons, PyData.eqvAll, e, eqvBols r t]
    by_cases h : b = c <;> by_cases h2 : r = t <;> simp [h, h2]
theorem eqvBolsD (bs cs : List Bool) : PyData.eqv (bolsD bs) (bolsD cs) = decide (bs = cs) := by
  unfold bolsD
  rw [PyData.eqv, eqvBols]
theorem marks_eq {i : Nat} (hi : i < 7) (k : Int) : decide ([decide (i = 0), decide (i = 1), decide (i = 2), decide (i = 3), decide (i = 4), decide (i = 5), decide (i = 6)] = (List.range 7).map fun (j : Nat) => decide (0 + (j : Int) = k)) = decide (k = (i : Int)) := by
  have e : ((List.range 7).map fun (j : Nat) => decide (0 + (j : Int) = k)) = [decide ((0 : Int) = k), decide ((1 : Int) = k), decide ((2 : Int) = k), decide ((3 : Int) = k), decide ((4 : Int) = k), decide ((5 : Int) = k), decide ((6 : Int) = k)] := rfl
  rw [e]
  by_cases h : k = (i : Int)
  · rw [decide_eq_true h, h]
    refine decide_eq_true ?_
    match i, hi with
    | 0, _ => rfl
    | 1, _ => rfl
    | 2, _ => rfl
    | 3, _ => rfl
    | 4, _ => rfl
    | 5, _ => rfl
    | 6, _ => rfl
  · rw [decide_eq_false h]
    refine decide_eq_false fun z => ?_
    simp only [List.cons.injEq] at z
    obtain ⟨z0, z1, z2, z3, z4, z5, z6, _⟩ := z
    match i, hi with
    | 0, _ => exact h (of_decide_eq_true z0.symm).symm
    | 1, _ => exact h (of_decide_eq_true z1.symm).symm
    | 2, _ => exact h (of_decide_eq_true z2.symm).symm
    | 3, _ => exact h (of_decide_eq_true z3.symm).symm
    | 4, _ => exact h (of_decide_eq_true z4.symm).symm
    | 5, _ => exact h (of_decide_eq_true z5.symm).symm
    | 6, _ => exact h (of_decide_eq_true z6.symm).symm
theorem kit_ref {K : PySem.W.Frag} {D C : Addr} {b : Bool} (hd : PySem.W.hasDictIn K C = true) (ht : PySem.W.typeIn K (.ref C) = some (.type "type")) (hs : PySem.W.subIn K (.ref D) (.ref C) = some b) (hb : (Value.ref D == Value.ref C) = true → b = true) :
    PySem.W.kitOne K (.ref D) (.ref C) = some b := by
  unfold PySem.W.kitOne
  by_cases e : (Value.ref D == Value.ref C) = true
  · rw [if_pos e, hb e]
  · rw [if_neg e]
    obtain ⟨cd, hc, _⟩ := PySem.W.any_some hd
    unfold PySem.W.kitCls
    dsimp only
    rw [if_pos (by rw [hc, ht]; rfl)]
    exact hs
theorem errOk_mk {K : PySem.W.Frag} {C0 C1 C2 C3 C4 C5 C6 CP D : Addr} {i : Nat} (ec : ExcC K D) (lt : i < 7)
    (d0 : PySem.W.hasDictIn K C0 = true) (t0 : PySem.W.typeIn K (.ref C0) = some (.type "type")) (s0 : PySem.W.subIn K (.ref D) (.ref C0) = some (decide (i = 0))) (b0 : (Value.ref D == Value.ref C0) = true → decide (i = 0) = true)
    (d1 : PySem.W.hasDictIn K C1 = true) (t1 : PySem.W.typeIn K (.ref C1) = some (.type "type")) (s1 : PySem.W.subIn K (.ref D) (.ref C1) = some (decide (i = 1))) (b1 : (Value.ref D == Value.ref C1) = true → decide (i = 1) = true)
    (d2 : PySem.W.hasDictIn K C2 = true) (t2 : PySem.W.typeIn K (.ref C2) = some (.type "type")) (s2 : PySem.W.subIn K (.ref D) (.ref C2) = some (decide (i = 2))) (b2 : (Value.ref D == Value.ref C2) = true → decide (i = 2) = true)
    (d3 : PySem.W.hasDictIn K C3 = true) (t3 : PySem.W.typeIn K (.ref C3) = some (.type "type")) (s3 : PySem.W.subIn K (.ref D) (.ref C3) = some (decide (i = 3))) (b3 : (Value.ref D == Value.ref C3) = true → decide (i = 3) = true)
    (d4 : PySem.W.hasDictIn K C4 = true) (t4 : PySem.W.typeIn K (.ref C4) = some (.type "type")) (s4 : PySem.W.subIn K (.ref D) (.ref C4) = some (decide (i = 4))) (b4 : (Value.ref D == Value.ref C4) = true → decide (i = 4) = true)
    (d5 : PySem.W.hasDictIn K C5 = true) (t5 : PySem.W.typeIn K (.ref C5) = some (.type "type")) (s5 : PySem.W.subIn K (.ref D) (.ref C5) = some (decide (i = 5))) (b5 : (Value.ref D == Value.ref C5) = true → decide (i = 5) = true)
    (d6 : PySem.W.hasDictIn K C6 = true) (t6 : PySem.W.typeIn K (.ref C6) = some (.type "type")) (s6 : PySem.W.subIn K (.ref D) (.ref C6) = some (decide (i = 6))) (b6 : (Value.ref D == Value.ref C6) = true → decide (i = 6) = true)
    (sv : PySem.W.subIn K (.ref D) (.type "ValueError") = some true) (dP : PySem.W.hasDictIn K CP = true) (tP : PySem.W.typeIn K (.ref CP) = some (.type "type")) (sP : PySem.W.subIn K (.ref D) (.ref CP) = some true) (eP : PySem.W.subIn K (.ref CP) (.type "BaseException") = some true) :
    ErrOk K C0 C1 C2 C3 C4 C5 C6 CP D i := by
  refine ⟨ec, lt, kit_ref d0 t0 s0 b0, kit_ref d1 t1 s1 b1, kit_ref d2 t2 s2 b2, kit_ref d3 t3 s3 b3, kit_ref d4 t4 s4 b4, kit_ref d5 t5 s5 b5, kit_ref d6 t6 s6 b6, ?_, PySem.W.exm_ref eP dP tP sP⟩
  unfold PySem.W.kitOne
  rw [if_neg (by intro z; cases (beq_iff_eq.mp z))]
  unfold PySem.W.kitCls
  dsimp only
  rw [if_pos (by decide +kernel)]
  exact sv
end Lp

namespace Lp
open PySem PySem.Spec PyProof.Rows L2
open Evl (Ex)
/-! ### for i, c in enumerate(text) -/
def Ites (x : Str) : It := ⟨fun i _ => i < x.cps.size, fun i H v H2 => ∃ T c, v = .ref T ∧ H T = none ∧ H2 = upd H T (.tup [.int (i : Nat), .str ⟨#[c]⟩]) ∧ x.cps[i]? = some c, fun i _ => i = x.cps.size⟩
theorem turn_enumS {P : Program} {w : World} {K : PySem.W.Frag} {elts : List Expr} {kk : Nat} {tp : Pos} (e it : Addr) (x : Str) (t : Tok) (ty : String) (hne : e ≠ it) (hty : ty = "str_ascii_iterator" ∨ ty = "str_iterator") :
    Turn P w K (.Tuple elts kk tp) (Ites x) [e, it] e (fun i h => (∃ old, IsEnum h e it ((i : Nat) : Int) old) ∧ h.IsStrIter it ty x t i) where
  mem := List.mem_cons_self
  obj := by
    intro i h st b hb
    obtain ⟨⟨old, he⟩, o, ho, hc, hd⟩ := st
    rcases List.mem_cons.mp hb with z | z
    · rw [z]
      exact ⟨_, he, fun v q => nomatch q⟩
    · rw [List.mem_singleton.mp z]
      exact ⟨o, ho, fun v q => by rw [hd] at q; cases q⟩
  keep := by
    intro i h h2 st k
    obtain ⟨⟨old, he⟩, o, ho, r⟩ := st
    exact ⟨⟨old, k e List.mem_cons_self _ he⟩, o, k it (by simp) o ho, r⟩
  item := by
    intro X hP hw hK hc i pins s σ H E I hf st hg
    subst hP hw hK
    have W : WalksT X.prog X.w X.A e [e, it] [e, it] x.cps.size (fun i vals => ∃ u v, (∃ c u2, x.cps[i]? = some c ∧ v = Value.str ⟨#[c]⟩ u2) ∧ vals = #[.int i u, v])
        (fun i h => (∃ old, IsEnum h e it i old) ∧ h.IsStrIter it ty x t i) (fun i T h => (∃ v, IsEnumOut h e it ((i : Int) + 1) v T) ∧ h.IsStrIter it ty x t (i + 1) ∧ T ≠ e ∧ T ≠ it) := by
      rcases hty with z | z
      · rw [z]
        exact WalksT.enumerateD (Draws.strAscii (A := X.A.in1) (I.ok.hd hc) it x t) e hne (by simp [hne]) (by simp)
      · rw [z]
        exact WalksT.enumerateD (Draws.strWide (A := X.A.in1) (I.ok.hd hc) it x t) e hne (by simp [hne]) (by simp)
    refine W.item i s _ _ hg st fun T vals h1 tk hv hT isT mid k1 => ⟨.ref T, rfl, ?_⟩
    obtain ⟨u, v, ⟨c, u2, hcx, rfl⟩, rfl⟩ := hv
    have away := W.apart i T h1 mid
    refine W.go elts kk tp i T { s with heap := h1, toks := tk } _ _ mid fun h2 st2 k2 => ?_
    obtain ⟨o, ho, ht, n, hd⟩ := isT
    have ho2 := k2 T o away ho
    have new : ObjOk X.prog X.w (upd H T (.tup [.int (i : Nat), .str ⟨#[c]⟩])) h2 T (.tup [.int (i : Nat), .str ⟨#[c]⟩]) :=
      ⟨by show 2 ≤ sizeLine; decide, [.int i u, .str ⟨#[c]⟩ u2], .cons ⟨_, rfl⟩ (.cons ⟨_, rfl⟩ .nil), ⟨o, ho2, ht, n, hd⟩⟩
    have I1 : Inv X pins σ (upd H T (.tup [.int (i : Nat), .str ⟨#[c]⟩])) { s with heap := h2, toks := tk } :=
      I.turnedNew (ch := [e, it]) (fun b ob hb z => k2 b ob hb (k1 b ob hb z)) hf hT new
    refine ⟨.ref T, _, I1, rfl, ⟨T, c, rfl, I.hok.fresh hT, rfl, hcx⟩, st2, fun b hb => ?_⟩
    have nb : b ≠ T := fun z => away (by rw [← z]; exact hb)
    rw [upd_ne nb]
    exact (hf b hb).1
  done := by
    intro X hP hw hK hc i pins s σ H E I hf st hg
    subst hP hw hK
    have W : WalksT X.prog X.w X.A e [e, it] [e, it] x.cps.size (fun i vals => ∃ u v, (∃ c u2, x.cps[i]? = some c ∧ v = Value.str ⟨#[c]⟩ u2) ∧ vals = #[.int i u, v])
        (fun i h => (∃ old, IsEnum h e it i old) ∧ h.IsStrIter it ty x t i) (fun i T h => (∃ v, IsEnumOut h e it ((i : Int) + 1) v T) ∧ h.IsStrIter it ty x t (i + 1) ∧ T ≠ e ∧ T ≠ it) := by
      rcases hty with z | z
      · rw [z]
        exact WalksT.enumerateD (Draws.strAscii (A := X.A.in1) (I.ok.hd hc) it x t) e hne (by simp [hne]) (by simp)
      · rw [z]
        exact WalksT.enumerateD (Draws.strWide (A := X.A.in1) (I.ok.hd hc) it x t) e hne (by simp [hne]) (by simp)
    have hg2 : i = x.cps.size := hg
    rw [hg2] at st
    refine W.done s _ _ st fun h1 tk k1 => ⟨rfl, ?_⟩
    exact I.turnedL (ch := [e, it]) k1 hf
  self := by
    intro A i s Q E st h
    obtain ⟨⟨old, he⟩, _⟩ := st
    exact wpAny_pyIter_enum he h
def iEnumS (ta : TA) : TI := fun σ H R => ta σ H fun vs H1 => ∃ x : Str, vs = [.str x] ∧ R (Ites x) H1
theorem pi_enumS {X : Cx} {e : Expr} {ta : TA} {p pos tp : Pos} {elts : List Expr} {kk : Nat} (hg : Gl X "enumerate") (hm : X.mg "enumerate" = none) (ha : PA X [e] ta) (hs : starEach [e] X.env = [(false, eval e X.env)] := by rfl) :
    PI X (.Tuple elts kk tp) (.Call (.Name "enumerate" p) [e] [] pos) (iEnumS ta) := by
  constructor
  intro pins s σ H R I h
  refine Call_ (ld_blt I hg hm boot_enumerate (PyProof.Rows.callWith_type1 (thn (ha.run pos pins s σ H _ I h) ?_) hs rfl))
  rintro us s1 ⟨vs, H1, I1, rv, x, rfl, q⟩
  obtain ⟨u, rfl, t, rfl⟩ := vals1 rv
  refine call_enumerate_str fun h2 he hit hsz k => wpAny_pyIter_enum he ?_
  have I2 : Inv X pins σ H1 { s1 with heap := h2 } := I1.kept (t' := s1.toks) k
  refine ⟨s1.heap.objs.size + 1, [s1.heap.objs.size + 1, s1.heap.objs.size], _, Ites x, H1, rfl, I2, turn_enumS (s1.heap.objs.size + 1) s1.heap.objs.size x t (strIterType x) (Nat.succ_ne_self _) ?_, ⟨⟨_, he⟩, hit⟩, fun b hb => ?_, q⟩
  · unfold strIterType
    split
    · exact .inl rfl
    · exact .inr rfl
  · have le : s1.heap.objs.size ≤ b := by
      rcases List.mem_cons.mp hb with z | z
      · rw [z]
        exact Nat.le_succ _
      · rw [List.mem_singleton.mp z]
        exact Nat.le_refl _
    exact I1.fpOk le (I1.hok.fresh le)
/-- the loop: the word by the turn -/
theorem for_enumS {x : Str} {g : TG} {tb : TS} {D : Ends} {σ : L2.St} {H : Hp} (Pv : Nat → L2.St → Hp → Prop) (h0 : Pv 0 σ H)
    (hs : ∀ i c t σ H, x.cps[i]? = some c → Pv i σ H → H t = none → g (.ref t) σ (upd H t (.tup [.int (i : Nat), .str ⟨#[c]⟩])) fun σ2 H2 => tb { D with nx := Pv (i + 1), ct := Pv (i + 1), bk := D.nx } σ2 H2) (hd : ∀ σ H, Pv x.cps.size σ H → D.nx σ H) :
    ∃ W : Nat → Nat → L2.St → Hp → Prop, (∃ m, W 0 m σ H) ∧ ∀ i m σ H, W i m σ H →
      ((Ites x).stop i H ∧ D.nx σ H) ∨ ((Ites x).go i H ∧ ∃ N : L2.St → Hp → Prop, (∀ σ' H', N σ' H' → ∃ m', m' < m ∧ W (i + 1) m' σ' H') ∧ ∀ v H', (Ites x).yld i H v H' → g v σ H' fun σ2 H2 => tb { D with nx := N, ct := N, bk := D.nx } σ2 H2) := by
  refine ⟨fun i m σ H => m = x.cps.size - i ∧ i ≤ x.cps.size ∧ Pv i σ H, ⟨_, rfl, Nat.zero_le _, h0⟩, fun i m σ H ⟨em, hi, p⟩ => ?_⟩
  by_cases h : i < x.cps.size
  · refine .inr ⟨h, Pv (i + 1), fun σ' H' p' => ⟨x.cps.size - (i + 1), by omega, rfl, h, p'⟩, fun v H' y => ?_⟩
    obtain ⟨t, c, rfl, nt, rfl, hc⟩ := y
    exact hs i c t σ H hc p nt
  · have e : i = x.cps.size := by omega
    subst e
    exact .inl ⟨rfl, hd σ H p⟩
/-! ### a row as a text -/
abbrev St0 (l : List Nat) : Str := ⟨l.toArray⟩
theorem st_o : Str.ofString "o" = St0 [111] := by decide +kernel
theorem st_m : Str.ofString "-" = St0 [45] := by decide +kernel
theorem st_mo : Str.ofString "-o" = St0 [45, 111] := by decide +kernel
theorem st_e : Str.ofString "" = St0 [] := by decide +kernel
theorem st_app (a b : List Nat) : St0 a ++ St0 b = St0 (a ++ b) := by
  show Str.append (St0 a) (St0 b) = _
  unfold Str.append
  congr 1
  simp
theorem st_len (a : List Nat) : (St0 a).length = a.length := by simp [Str.length]
theorem st_inj {a b : List Nat} : St0 a = St0 b ↔ a = b := by
  constructor
  · intro h
    have := congrArg (fun s : Str => s.cps.toList) h
    simpa using this
  · intro h
    rw [h]
theorem st_of (x : Str) : x = St0 x.cps.toList := by
  cases x
  simp
theorem v_str {a b : List Nat} : decide (V.str (St0 a) = V.str (St0 b)) = decide (a = b) := by
  by_cases h : a = b
  · rw [decide_eq_true h, h, decide_eq_true rfl]
  · rw [decide_eq_false h]
    exact decide_eq_false fun z => h (st_inj.mp (V.str.inj z))
theorem join_ones : ∀ l : List Nat, Txt.join (St0 []) (l.map fun c => St0 [c]) = St0 l := by
  intro l
  have e : (l.map fun c => St0 [c]) = (l.map fun c => [c]).map St0 := by
    rw [List.map_map]
    rfl
  rw [e, SX.join_S]
  have go : ∀ l : List Nat, TL.joinL [] (l.map fun c => [c]) = l := by
    intro l
    induction l with
    | nil => rfl
    | cons a r ih =>
      cases r with
      | nil => rfl
      | cons b r =>
        show [a] ++ ([] ++ TL.joinL [] ((b :: r).map fun c => [c])) = _
        rw [ih]
        rfl
  rw [go l]
/-- the sign of a link -/
def signT (ns : List Int) (i : Nat) : Nat := if (i : Int) ∈ ns then 111 else 45
def rowL (ns : List Int) (n : Nat) : List Nat := (List.range n).map (signT ns)
theorem rowL_succ (ns : List Int) (n : Nat) : rowL ns (n + 1) = rowL ns n ++ [signT ns n] := by
  unfold rowL
  rw [List.range_succ, List.map_append]
  rfl
theorem rowL_len (ns : List Int) (n : Nat) : (rowL ns n).length = n := by simp [rowL]
/-- the opened links of a text -/
def openI (l : List Nat) (k : Nat) : List Int := ((List.range k).filter fun i => decide (l.getD i 0 = 111)).map fun (i : Nat) => (i : Int)
theorem openI_succ (l : List Nat) (k : Nat) : openI l (k + 1) = if l.getD k 0 = 111 then openI l k ++ [(k : Int)] else openI l k := by
  unfold openI
  rw [List.range_succ, List.filter_append, List.map_append, List.filter_cons]
  by_cases h : l.getD k 0 = 111
  · rw [if_pos h, if_pos (decide_eq_true h)]
    rfl
  · rw [if_neg h, if_neg (by rw [decide_eq_false h]; exact Bool.false_ne_true)]
    simp
theorem openI_len (l : List Nat) (k : Nat) : (openI l k).length ≤ k := by
  unfold openI
  rw [List.length_map]
  have := List.length_filter_le (fun i => decide (l.getD i 0 = 111)) (List.range k)
  rwa [List.length_range] at this
def TextOk (l : List Nat) : Prop := 1 ≤ l.length ∧ l.length ≤ 60 ∧ ∀ c ∈ l, c = 111 ∨ c = 45
theorem row_ok (ns : List Int) {n : Nat} (h1 : 1 ≤ n) (h2 : n ≤ 60) : TextOk (rowL ns n) := by
  refine ⟨by rw [rowL_len]; exact h1, by rw [rowL_len]; exact h2, fun c hc => ?_⟩
  obtain ⟨i, _, rfl⟩ := List.mem_map.mp hc
  unfold signT
  split
  · exact .inl rfl
  · exact .inr rfl
theorem row_open {ns : List Int} {n : Nat} (h : Rising (n : Int) (-1) ns) : openI (rowL ns n) n = ns := by
  have up := rising_up h
  refine sset_eq up.1 ?_ ?_ fun k => ?_
  · unfold openI
    rw [List.pairwise_map]
    refine List.Pairwise.sublist List.filter_sublist ?_
    exact List.pairwise_lt_range.imp fun h => by omega
  · unfold openI
    refine List.Pairwise.map _ (R := fun (a b : Nat) => a < b) (fun a b h => by omega) ?_
    exact List.pairwise_lt_range.sublist List.filter_sublist
  · have get : ∀ i, i < n → ((rowL ns n).getD i 0 = 111 ↔ (i : Int) ∈ ns) := fun i hi => by
      have e : (rowL ns n).getD i 0 = signT ns i := by
        unfold rowL
        rw [List.getD_eq_getElem?_getD, List.getElem?_map, List.getElem?_range hi]
        rfl
      rw [e]
      unfold signT
      by_cases c : (i : Int) ∈ ns
      · rw [if_pos c]
        exact ⟨fun _ => c, fun _ => rfl⟩
      · rw [if_neg c]
        exact ⟨fun z => by omega, fun z => absurd z c⟩
    unfold openI
    rw [List.mem_map, decide_eq_true_eq]
    constructor
    · rintro ⟨i, hi, rfl⟩
      obtain ⟨h1, h2⟩ := List.mem_filter.mp hi
      exact (get i (List.mem_range.mp h1)).mp (of_decide_eq_true h2)
    · intro hk
      have b := up.2 k hk
      refine ⟨k.toNat, List.mem_filter.mpr ⟨List.mem_range.mpr (by omega), ?_⟩, by omega⟩
      refine decide_eq_true ((get k.toNat (by omega)).mpr ?_)
      rw [Int.toNat_of_nonneg (by omega)]
      exact hk
/-- over a text, values that need no heap made -/
theorem lc_strV {l : List Nat} {g : TG} {tt : TT} {te : TE} {vs : List Nat} {σ : L2.St} {H : Hp} {Dl : Addr} {Qd : Hp → Prop} (hD : H Dl = none) (hn : l.length < sizeLine) (p : Nat → Bool) (f : Nat → V)
    (hs : ∀ i H1, i < l.length → Ex H H1 → ∀ (Y : V → Hp → Prop) (Z : Hp → Prop), (p i = true → ∀ H4, Ex H1 H4 → Y (f i) H4) → (p i = false → ∀ H3, Ex H1 H3 → Z H3) →
      g (.str (St0 [l.getD i 0])) (wipe σ vs) H1 fun σ2 H2 => wipe σ2 vs = wipe σ vs ∧ tt σ2 H2 fun b H3 => if b = true then te σ2 H3 Y else Z H3)
    (hd : ∀ H2, H2 Dl = some (.lst (((List.range l.length).filter p).map f)) → Ex H H2 → Qd H2) :
    ∃ W : Nat → Nat → Hp → Prop, (∃ m, W 0 m (upd H Dl (.lst []))) ∧ ∀ i m H, W i m H →
      ((Its (St0 l)).stop i H ∧ Qd H) ∨ ((Its (St0 l)).go i H ∧ ∃ Nx : Hp → Prop, (∀ H', Nx H' → ∃ m', m' < m ∧ W (i + 1) m' H') ∧ ∀ x H', (Its (St0 l)).yld i H x H' → g x (wipe σ vs) H' fun σ2 H2 => wipe σ2 vs = wipe σ vs ∧ tt σ2 H2 fun b H3 =>
        if b = true then te σ2 H3 fun y H4 => ∃ acc, H4 Dl = some (.lst acc) ∧ acc.length < sizeLine ∧ Nx (upd H4 Dl (.lst (acc ++ [y]))) else Nx H3) := by
  have same : ∀ {xs : List V} {ys : List V}, Paired (fun v w => v = w) xs ys → xs = ys := by
    intro xs ys h
    induction h with
    | nil => rfl
    | cons r _ ih => rw [r, ih]
  have hsz : (St0 l).cps.size = l.length := by simp
  refine lc_walk (n := l.length) (Stay := fun _ => True) (R := fun i x _ => x = .str (St0 [l.getD i 0])) (R' := fun _ v w => v = w) hD (fun _ _ _ _ => trivial) trivial (fun i H1 h _ => by show i < (St0 l).cps.size; rw [hsz]; exact h) (fun H1 _ => by show (St0 l).cps.size ≤ l.length; omega) (fun i H1 x H2 hi _ y => ?_) hn (fun _ _ _ _ _ h => h) p f
    (fun i x H1 acc hi hx e _ Y Z h1 h2 => by rw [hx]; exact hs i H1 hi (e.trans (del_le _ _)) Y Z (fun hp H4 e4 => h1 hp _ H4 e4 rfl) h2)
    (fun H2 acc h1 h2 h3 => hd H2 (by rw [h1, same h3]) (h2.trans (del_le _ _)))
  obtain ⟨e1, c, hc, rfl⟩ := y
  refine ⟨ex_refl' e1, ?_⟩
  have hc2 : l[i]? = some c := by simpa using hc
  rw [List.getD_eq_getElem?_getD, hc2]
  rfl
theorem app_len (a b : Str) : (a ++ b).length = a.length + b.length := by
  show (Str.append a b).cps.size = _
  simp [Str.append, Str.length]
theorem at_text {l : List Nat} {i : Nat} (h : i < l.length) : atI (St0 l).cps.toList ((0 : Int) + (i : Int)) = some (l.getD i 0) := by
  rw [Int.zero_add, show (St0 l).cps.toList = l by simp, List.getD_eq_getElem?_getD, List.getElem?_eq_getElem h]
  exact atI_nat (List.getElem?_eq_getElem h)
end Lp

namespace Lp
open PySem PySem.Spec PyProof.Rows L2
open Evl (Ex)
def topS (i : Nat) : Stmt := PySem.Challenge.pw_linkpay_k12_read_or_refused.main.body.getD i (.Pass ⟨0, 0, 0, 0⟩)
abbrev s_read : Stmt := topS 11
theorem sc_read : FnScope ["text", "opened", "link", "sign"] ["text"] (defScope s_read) := ⟨rfl, rfl, rfl, by decide +kernel, rfl, by decide +kernel, by decide +kernel⟩
abbrev s_law_cell_at : Stmt := topS 13
theorem sc_law_cell_at : FnScope ["script", "k"] ["script", "k"] (defScope s_law_cell_at) := ⟨rfl, rfl, rfl, by decide +kernel, rfl, by decide +kernel, by decide +kernel⟩
abbrev s_law_next : Stmt := topS 14
theorem sc_law_next : FnScope ["seed"] ["seed"] (defScope s_law_next) := ⟨rfl, rfl, rfl, by decide +kernel, rfl, by decide +kernel, by decide +kernel⟩
abbrev s_law_other : Stmt := topS 15
theorem sc_law_other : FnScope ["e", "wanted", "marks", "k"] ["e", "wanted"] (defScope s_law_other) := ⟨rfl, rfl, rfl, by decide +kernel, rfl, by decide +kernel, by decide +kernel⟩
abbrev s_law_sign : Stmt := topS 16
theorem sc_law_sign : FnScope ["cell", "some"] ["cell"] (defScope s_law_sign) := ⟨rfl, rfl, rfl, by decide +kernel, rfl, by decide +kernel, by decide +kernel⟩
abbrev s_law_text : Stmt := topS 17
theorem sc_law_text : FnScope ["script", "text", "cell", "k"] ["script"] (defScope s_law_text) := ⟨rfl, rfl, rfl, by decide +kernel, rfl, by decide +kernel, by decide +kernel⟩
abbrev s_law : Stmt := topS 18
theorem sc_law : FnScope ["script", "text", "way", "at", "sign", "odd", "good", "found", "e", "opened", "one", "k"] ["script"] (defScope s_law) := ⟨rfl, rfl, rfl, by decide +kernel, rfl, by decide +kernel, by decide +kernel⟩
def sp_law_next : Sp := fun vs H Q _ => ∃ n : Int, vs = [.int n] ∧ Q (.int (nxt n)) H
section
variable {P : Program} {w : World} {K : PySem.W.Frag} {mg : Str → Option Value} {base : Heap}
theorem ok_law_next {f : Addr} {fd : FuncData} (F : Fun K "_law_next" "_law_next" s_law_next f fd) (T : Bl mg) : FnOk P w K mg base (L2N.CX P w) 1 f fd ["seed"] (sp_law_next ) := by
  refine Fun.okN F sc_law_next (fun vs H Q E h => ?_) (fun cdv A outer s H vs Q E hr h => ?_)
  · obtain ⟨n, rfl, _⟩ := h
    rfl
  · obtain ⟨n, rfl, q⟩ := h
    have hu := hu_of hr
    refine ⟨_, (pss_one (ps_ret (pe_op op_mod (pe_op op_add (pe_op op_mul (pv 0) pe_int) pe_int) pe_int))), ?_⟩
    exact ⟨_, rfl, _, _, rfl, rfl, .inr ⟨by decide, by decide⟩, _, _, rfl, rfl, _, _, rfl, rfl, (by decide : (0 : Int) < 2147483647), q⟩
end
def sp_law_cell_at (K : PySem.W.Frag) : Sp := fun vs H Q _ => ∃ (a : Addr) (ns : List Int) (k : Int), vs = [.ref a, .int k] ∧ SqL K H a (ns.map V.int) ∧ 0 ≤ k ∧ Q (.int (cell ns k)) H
section
variable {P : Program} {w : World} {K : PySem.W.Frag} {mg : Str → Option Value} {base : Heap}
theorem ok_law_cell_at {f : Addr} {fd : FuncData} (F : Fun K "_law_cell_at" "_law_cell_at" s_law_cell_at f fd) (T : Bl mg) : FnOk P w K mg base (L2N.CX P w) 1 f fd ["script", "k"] (sp_law_cell_at K) := by
  refine Fun.okN F sc_law_cell_at (fun vs H Q E h => ?_) (fun cdv A outer s H vs Q E hr h => ?_)
  · obtain ⟨a, ns, k, rfl, _⟩ := h
    rfl
  · obtain ⟨a, ns, k, rfl, hS, hk, q⟩ := h
    have hu := hu_of hr
    refine ⟨_, (pss_cons (ps_if (pt_cmpR op_lt (pv 1) (pe_callB call_len_seq (by rfl) T.b_len (by decide +kernel) (pa_cons (pv 0) pa_nil)) (nomark _))
      (pss_one (ps_ret (pe_ix ix_list (pv 0) (pv 1) (fun _ _ => rfl)))) pss_nil)
      (pss_one (ps_ret pe_int))), ?_⟩
    refine ⟨_, rfl, _, rfl, a, _, rfl, .inl hS, _, _, rfl, rfl, _, rfl, ?_⟩
    rw [List.length_map]
    refine iteD (fun h => ?_) (fun h => ?_)
    · have hi : k.toNat < ns.length := by omega
      refine ⟨_, rfl, _, rfl, a, _, k, .int ns[k.toNat], rfl, rfl, hS, ?_, ?_⟩
      · refine at_of (j := k.toNat) (by omega) ?_
        rw [List.getElem?_map, List.getElem?_eq_getElem hi]
        rfl
      · unfold cell at q
        rw [List.getD_eq_getElem?_getD, List.getElem?_eq_getElem hi] at q
        exact q
    · unfold cell at q
      rw [List.getD_eq_getElem?_getD, List.getElem?_eq_none (by omega)] at q
      exact q
end
/-- some text -/
def sp_law_text (K : PySem.W.Frag) : Sp := fun vs H Q _ => ∃ (a : Addr) (ns : List Int), vs = [.ref a] ∧ SqL K H a (ns.map V.int) ∧ ∀ l : List Nat, l.length ≤ 66 → Q (.str (St0 l)) H
theorem st_mmo : Str.ofString "--o" = St0 [45, 45, 111] := by decide +kernel
theorem at3 {k : Int} (h0 : 0 ≤ k) (h1 : k < 3) : ∃ c : Nat, atI [45, 45, 111] k = some c := by
  have e : k = 0 ∨ k = 1 ∨ k = 2 := by omega
  rcases e with e | e | e
  · exact ⟨45, by rw [e]; rfl⟩
  · exact ⟨45, by rw [e]; rfl⟩
  · exact ⟨111, by rw [e]; rfl⟩
section
variable {P : Program} {w : World} {K : PySem.W.Frag} {mg : Str → Option Value} {base : Heap}
theorem ok_law_text {f : Addr} {fd : FuncData} (F : Fun K "_law_text" "_law_text" s_law_text f fd) (T : Bl mg) (C_law_next : CalN P w K mg base 1 "_law_next" ["seed"] (sp_law_next )) (C_law_cell_at : CalN P w K mg base 1 "_law_cell_at" ["script", "k"] (sp_law_cell_at K)) : FnOk P w K mg base (L2N.CX P w) 2 f fd ["script"] (sp_law_text K) := by
  refine Fun.okN F sc_law_text (fun vs H Q E h => ?_) (fun cdv A outer s H vs Q E hr h => ?_)
  · obtain ⟨a, ns, rfl, _⟩ := h
    rfl
  · obtain ⟨a, ns, rfl, hS, q⟩ := h
    have hu := hu_of hr
    refine ⟨_, (pss_cons (ps_set (i := 1) sc_law_text.nd rfl (.inl rfl) pe_str)
      (pss_cons (ps_set (i := 2) sc_law_text.nd rfl (.inl rfl) (pe_call C_law_next.ok (hr.mono (by decide)) (by rfl) C_law_next.gl C_law_next.kp C_law_next.bd .nil (L2N.passes_call (L2N.takes_of rfl rfl rfl rfl) (fun _ _ _ _ h => h)) (pa_cons (pe_call C_law_cell_at.ok (hr.mono (by decide)) (by rfl) C_law_cell_at.gl C_law_cell_at.kp C_law_cell_at.bd .nil (L2N.passes_call (L2N.takes_of rfl rfl rfl rfl) (fun _ _ _ _ h => h)) (pa_cons (pv 0) (pa_cons pe_int pa_nil))) pa_nil)))
      (pss_cons (ps_for (passes_of rfl) rfl (pi_range1 rfl T.b_range (pa_cons (pe_op op_mod (pe_call C_law_cell_at.ok (hr.mono (by decide)) (by rfl) C_law_cell_at.gl C_law_cell_at.kp C_law_cell_at.bd .nil (L2N.passes_call (L2N.takes_of rfl rfl rfl rfl) (fun _ _ _ _ h => h)) (pa_cons (pv 0) (pa_cons pe_int pa_nil))) pe_int) pa_nil)) (pg_name (i := 3) sc_law_text.nd rfl (.inl rfl))
      (pss_cons (ps_set (i := 2) sc_law_text.nd rfl (.inl rfl) (pe_op op_mod (pe_op op_add (pe_op op_mul (pv 2) (pv 2)) pe_int) pe_int))
      (pss_one (ps_set (i := 1) sc_law_text.nd rfl (.inl rfl) (pe_op op_add_str (pv 1) (pe_ix ix_str pe_str (pe_op op_mod (pe_op op_fdiv (pv 2) pe_int) pe_int) (fun _ _ => rfl)))))))
      (pss_one (ps_ret (pv 1)))))), ?_⟩
    refine ⟨_, rfl, a, ns, 1, rfl, hS, by decide, _, rfl, ?_⟩
    have hb : 0 ≤ nxt (cell ns 1) ∧ nxt (cell ns 1) < 2147483647 := by
      unfold nxt
      omega
    refine ⟨_, rfl, a, ns, 0, rfl, hS, by decide, _, _, rfl, rfl, (by decide : (0 : Int) < 67), _, rfl, by omega, by omega, ?_⟩
    refine for_range (lo := 0) (fun i σ' H' => H' = H ∧ ∃ (l : List Nat) (c : Int) (v : Option V), l.length = i ∧ 0 ≤ c ∧ c < 2147483647 ∧ σ' = [some (.ref a), some (.str (St0 l)), some (.int c), v]) ⟨rfl, [], _, none, rfl, hb.1, hb.2, by rw [← st_e]; rfl⟩ ?_ ?_
    · rintro i σ' H' hi ⟨rfl, l, c, v, hl, hc0, hc1, rfl⟩
      obtain ⟨s1, hs1⟩ := at3 (k := (c * c + 12345) % 2147483647 / 8 % 3) (by omega) (by omega)
      refine ⟨_, rfl, _, rfl, _, _, rfl, rfl, .inr ⟨by omega, by omega⟩, _, _, rfl, rfl, _, _, rfl, rfl, (by decide : (0 : Int) < 2147483647), ?_⟩
      refine ⟨_, rfl, _, rfl, _, _, rfl, rfl, ⟨by decide, by decide⟩, _, _, rfl, rfl, (by decide : (0 : Int) < 3), Str.ofString "--o", _, s1, rfl, rfl, (by decide +kernel), ?_, _, _, rfl, rfl, ?_, rfl, l ++ [s1], (c * c + 12345) % 2147483647, some (.int (0 + (i : Int))), ?_, Int.emod_nonneg _ (by decide), Int.emod_lt_of_pos _ (by decide), ?_⟩
      · rw [st_mmo]
        exact hs1
      · rw [show (⟨#[s1]⟩ : Str) = St0 [s1] from rfl, st_len, st_len]
        exact Nat.le_of_lt (sz_small (by show l.length + 1 ≤ _; omega))
      · rw [List.length_append, List.length_singleton, hl]
      · rw [← st_app]
        rfl
    · rintro σ' H' ⟨rfl, l, c, v, hl, hc0, hc1, rfl⟩
      exact ⟨_, rfl, q l (by omega)⟩
end
/-- some sign -/
def sp_law_sign : Sp := fun vs H Q _ => ∃ c : Int, vs = [.int c] ∧ ∀ x : Nat, Q (.str (St0 [x])) H
section
variable {P : Program} {w : World} {K : PySem.W.Frag} {mg : Str → Option Value} {base : Heap}
theorem ok_law_sign {f : Addr} {fd : FuncData} (F : Fun K "_law_sign" "_law_sign" s_law_sign f fd) (T : Bl mg) : FnOk P w K mg base (L2N.CX P w) 1 f fd ["cell"] (sp_law_sign ) := by
  refine Fun.okN F sc_law_sign (fun vs H Q E h => ?_) (fun cdv A outer s H vs Q E hr h => ?_)
  · obtain ⟨c, rfl, _⟩ := h
    rfl
  · obtain ⟨c, rfl, q⟩ := h
    have hu := hu_of hr
    refine ⟨_, (pss_cons (ps_set (i := 1) sc_law_sign.nd rfl (.inl rfl) pe_str)
      (pss_cons (ps_set (i := 1) sc_law_sign.nd rfl (.inl rfl) (pe_op op_add_str (pv 1) pe_str))
      (Evl.pss_cut (ps_if (pt_cmpR op_eq (pe_op op_mod (pv 0) pe_int) pe_int (nomark _))
      (pss_one (ps_set (i := 1) sc_law_sign.nd rfl (.inl rfl) pe_str)) pss_nil)
      (pss_one (ps_ret (pe_ix ix_str (pv 1) (pe_op op_mod (pe_op op_fdiv (pv 0) pe_int) (pe_callB call_len_str (by rfl) T.b_len (by decide +kernel) (pa_cons (pv 1) pa_nil))) (fun _ _ => rfl))))))), ?_⟩
    refine ⟨_, rfl, _, _, rfl, rfl, (by decide +kernel), ?_⟩
    refine ⟨fun σ2 H2 => H2 = H ∧ ∃ z : Str, 0 < z.length ∧ z.length ≤ 1000 ∧ σ2 = [some (.int c), some (.str z)], ?_, ?_⟩
    · refine ⟨_, rfl, _, _, rfl, rfl, (by decide : (0 : Int) < 2), rfl, _, rfl, ?_⟩
      exact iteE (fun h => ⟨rfl, _, (by decide +kernel), (by decide +kernel), rfl⟩) (fun h => ⟨rfl, _, (by decide +kernel), (by decide +kernel), rfl⟩)
    rintro σ2 H2 ⟨rfl, z, hz0, hz1, rfl⟩
    have hi : ((c / 2) % (z.length : Int)).toNat < z.cps.toList.length := by
      have h1 := Int.emod_nonneg (c / 2) (show (z.length : Int) ≠ 0 by omega)
      have h2 := Int.emod_lt_of_pos (c / 2) (show (0 : Int) < (z.length : Int) by omega)
      have h3 : z.cps.toList.length = z.length := by simp [Str.length]
      omega
    have h1 := Int.emod_nonneg (c / 2) (show (z.length : Int) ≠ 0 by omega)
    have hat : atI z.cps.toList (c / 2 % (z.length : Int)) = some z.cps.toList[((c / 2) % (z.length : Int)).toNat] := by
      generalize c / 2 % (z.length : Int) = k at hi h1
      obtain ⟨m, rfl⟩ : ∃ m : Nat, k = (m : Int) := ⟨k.toNat, by omega⟩
      rw [Int.toNat_natCast] at hi
      exact atI_nat (List.getElem?_eq_getElem hi)
    generalize z.cps.toList[((c / 2) % (z.length : Int)).toNat] = x at hat
    have hzl : z.length ≤ sizeLine := Nat.le_of_lt (sz_small (by omega))
    have hz2 : (0 : Int) < (z.length : Int) := by omega
    exact ⟨_, rfl, _, rfl, _, _, rfl, rfl, ⟨by decide, by decide⟩, _, rfl, z, rfl, hzl, _, _, rfl, rfl, hz2, z, _, x, rfl, rfl, hzl, hat, q x⟩
end
def sp_read (CN : Addr) : Sp := fun vs H Q E => ∃ l : List Nat, vs = [.str (St0 l)] ∧ l.length ≤ 1000 ∧
  (TextOk l → ∀ t o H', H t = none → H o = none → Ex H H' → H' t = some (.tup [.int (l.length : Nat), .ref o]) → Ints H' o (openI l l.length) → Q (.ref t) H') ∧ (¬ TextOk l → ∀ H', Ex H H' → E (.ref CN) none H')
section
variable {P : Program} {w : World} {K : PySem.W.Frag} {mg : Str → Option Value} {base : Heap}
theorem ok_read {f : Addr} {fd : FuncData} (F : Fun K "read" "read" s_read f fd) (T : Bl mg) (X_NoNote : Exo K mg "NoNote") {tMOST_SIGNS : Tok} (hMOST_SIGNS : mg "MOST_SIGNS" = some (.int 60 tMOST_SIGNS)) : FnOk P w K mg base (L2N.CX P w) 1 f fd ["text"] (sp_read X_NoNote.C) := by
  refine Fun.okN F sc_read (fun vs H Q E h => ?_) (fun cdv A outer s H vs Q E hr h => ?_)
  · obtain ⟨l, rfl, _⟩ := h
    rfl
  · obtain ⟨l, rfl, hl, q1, q2⟩ := h
    have hu := hu_of hr
    refine ⟨_, (pss_cons (ps_if (PW.pt (pw_or (pt_cmpR op_lt (pe_callB call_len_str (by rfl) T.b_len (by decide +kernel) (pa_cons (pv 0) pa_nil)) pe_int (nomark _)) (pw_or1 (pt_cmpR op_gt (pe_callB call_len_str (by rfl) T.b_len (by decide +kernel) (pa_cons (pv 0) pa_nil)) (pe_glob (v := .int 60) rfl hMOST_SIGNS ⟨_, rfl⟩) (nomark _)))))
      (pss_one (L2N.ps_raise rfl (L2N.takes_of rfl rfl rfl rfl) (X_NoNote.mkN (by rfl)))) pss_nil)
      (pss_cons (ps_set (i := 1) sc_read.nd rfl (.inl rfl) (pe_lst pa_nil))
      (pss_cons (ps_for (passes_of rfl) rfl (pi_enumS (by rfl) T.b_enumerate (pa_cons (pv 0) pa_nil)) (pg_tup rfl (pgs_cons (pg_name (i := 2) sc_read.nd rfl (.inl rfl)) (pgs_cons (pg_name (i := 3) sc_read.nd rfl (.inl rfl)) pgs_nil)))
      (pss_one (ps_if (pt_cmpR op_eq (pv 3) pe_str (nomark _))
      (pss_one (ps_expr (pe_bm PySem.F.plainAttrs_list PySem.F.slot_list_append PySem.F.type_list_append mt_append (pv 1) (pa_cons (pv 2) pa_nil)))) (pss_one (ps_if (pt_cmpR op_ne (pv 3) pe_str (nomark _))
      (pss_one (L2N.ps_raise rfl (L2N.takes_of rfl rfl rfl rfl) (X_NoNote.mkN (by rfl)))) pss_nil)))))
      (pss_one (ps_ret (pe_tup (pa_cons (pe_callB call_len_str (by rfl) T.b_len (by decide +kernel) (pa_cons (pv 0) pa_nil)) (pa_cons (pv 1) pa_nil)))))))), ?_⟩
    have hsz : (St0 l).length ≤ sizeLine := by
      rw [st_len]
      exact Nat.le_of_lt (sz_small (by omega))
    have hlen : ((St0 l).length : Int) = (l.length : Int) := by rw [st_len]
    refine ⟨_, rfl, St0 l, rfl, hsz, _, _, rfl, rfl, _, rfl, ?_⟩
    rw [hlen]
    refine iteD (fun h => ?_) (fun h => ?_)
    · exact iteT (q2 (fun z => by have := z.1; omega) _ (Evl.Ex.refl _))
    refine ⟨_, rfl, St0 l, rfl, hsz, _, _, rfl, rfl, _, rfl, ?_⟩
    rw [hlen]
    refine iteD (fun h2 => q2 (fun z => by have := z.2.1; omega) _ (Evl.Ex.refl _)) (fun h2 => ?_)
    refine ⟨Nat.zero_le _, fun o no => ?_⟩
    obtain ⟨e1, ho1⟩ := nw no (.lst [])
    refine ⟨_, rfl, _, rfl, ?_⟩
    refine for_enumS (fun i σ' H' => Ex H H' ∧ Ints H' o (openI l i) ∧ (∀ j, j < i → ∀ c, l[j]? = some c → c = 111 ∨ c = 45) ∧ ∃ v2 v3, σ' = [some (.str (St0 l)), some (.ref o), v2, v3]) ⟨e1, ho1, fun j hj => absurd hj (Nat.not_lt_zero _), none, none, rfl⟩ ?_ ?_
    · rintro i c t σ' H' hc ⟨ex, ho, hall, v2, v3, rfl⟩ nt
      have hc2 : l[i]? = some c := by simpa using hc
      have hi : i < l.length := (List.getElem?_eq_some_iff.mp hc2).1
      have hget : l.getD i 0 = c := by
        rw [List.getD_eq_getElem?_getD, hc2]
        rfl
      obtain ⟨e4, ht⟩ := nw nt (.tup [.int (i : Nat), .str ⟨#[c]⟩])
      have ho4 := ho.ex e4
      have hol := openI_len l i
      have nxt_ok : (c = 111 ∨ c = 45) → ∀ j, j < i + 1 → ∀ c, l[j]? = some c → c = 111 ∨ c = 45 := fun hco j hj c2 hj2 => by
        rcases Nat.lt_or_ge j i with z | z
        · exact hall j z c2 hj2
        · have e : j = i := by omega
          rw [e, hc2] at hj2
          cases hj2
          exact hco
      refine ⟨t, _, rfl, .inl (.inl ht), rfl, _, _, rfl, _, _, rfl, rfl, ?_⟩
      refine ⟨_, rfl, rfl, _, rfl, ?_⟩
      rw [st_o]
      have e1c : (⟨#[c]⟩ : Str) = St0 [c] := rfl
      rw [e1c, v_str]
      refine iteD (fun h3 => ?_) (fun h3 => ?_)
      · have hco : c = 111 := by simpa using h3
        refine ⟨_, rfl, .inl ⟨rfl, _, ho4.sq⟩, _, rfl, o, _, _, rfl, rfl, ho4, sz_small (by rw [List.length_map]; omega), (ex.trans e4).mut no, ?_, nxt_ok (.inl hco), _, _, rfl⟩
        show upd _ _ _ _ = _
        rw [upd_same, openI_succ, hget, if_pos hco, List.map_append]
        rfl
      · have hco : ¬ c = 111 := fun z => h3 (by rw [z])
        refine ⟨_, rfl, rfl, _, rfl, ?_⟩
        rw [st_m, v_str]
        refine iteN (fun h4 => ?_) (fun h4 => ?_)
        · have hc45 : c = 45 := by simpa using h4
          refine ⟨ex.trans e4, ?_, nxt_ok (.inr hc45), _, _, rfl⟩
          rw [openI_succ, hget, if_neg hco]
          exact ho4
        · refine q2 (fun z => ?_) _ (ex.trans e4)
          rcases z.2.2 c (List.mem_of_getElem? hc2) with y | y
          · exact hco y
          · exact h4 (by rw [y])
    · rintro σ' H' ⟨ex, ho, hall, v2, v3, rfl⟩
      have hcs : (St0 l).cps.size = l.length := by simp
      rw [hcs] at ho hall
      have hok : TextOk l := by
        refine ⟨by omega, by omega, fun c hc => ?_⟩
        obtain ⟨j, hj⟩ := List.mem_iff_getElem?.mp hc
        exact hall j (List.getElem?_eq_some_iff.mp hj).1 c hj
      refine ⟨_, rfl, St0 l, rfl, hsz, ?_⟩
      rw [hlen]
      refine ⟨_, rfl, le2, fun t nt => ?_⟩
      obtain ⟨e5, ht⟩ := nw nt (.tup [.int (l.length : Nat), .ref o])
      exact q1 hok t o _ (Evl.fresh_back ex nt) no (ex.trans e5) ht (ho.ex e5)
end
/-! what kind of error it is -/
section
variable {P : Program} {w : World} {K : PySem.W.Frag} {mg : Str → Option Value} {base : Heap}
theorem ok_law_other {f : Addr} {fd : FuncData} (F : Fun K "_law_other" "_law_other" s_law_other f fd) (T : Bl mg) (X_NoRow : Exo K mg "NoRow") (X_NoOpened : Exo K mg "NoOpened") (X_TooMany : Exo K mg "TooMany") (X_NoAmount : Exo K mg "NoAmount") (X_NoPayment : Exo K mg "NoPayment") (X_NoCount : Exo K mg "NoCount") (X_NoNote : Exo K mg "NoNote") (X_PayError : Exo K mg "PayError") : FnE P w K mg base (L2N.CX P w) 1 f fd ["e", "wanted"] (sp_law_other K X_NoRow.C X_NoOpened.C X_TooMany.C X_NoAmount.C X_NoPayment.C X_NoCount.C X_NoNote.C X_PayError.C) := by
  refine Fun.okE F sc_law_other (fun a c d vs H Q E h => ?_) (fun cdv A fr s H vs Q E q c d hot hz room h => ?_)
  · obtain ⟨k, D, i, rfl, _⟩ := h
    rfl
  · obtain ⟨k, D, i, rfl, rfl, rfl, er, fin⟩ := h
    have hf : ∃ vs, q.2.data = .fields vs := by
      obtain ⟨_, vs, e, _⟩ := hot
      exact ⟨vs, e⟩
    have hun : (A.deeper (envOfC "_law_other" (defScope s_law_other) s.heap.objs.size f cdv)).units + 64 < cLine := by
      have := room.un
      omega
    have hm : q ∈ [q] := List.mem_singleton.mpr rfl
    refine ⟨_, (pss_cons (ps_set (i := 2) sc_law_other.nd rfl (.inl rfl) (pe_lst (pa_cons (pe_callB (call_isH (a := q.1) (oe := q.2) er.ec hz.zc hf hm) (by rfl) T.b_isinstance (by decide +kernel) (pa_cons (pv 0) (pa_cons (pe_glob (v := .ref X_NoRow.C) (by rfl) X_NoRow.gC rfl) pa_nil))) (pa_cons (pe_callB (call_isH (a := q.1) (oe := q.2) er.ec hz.zc hf hm) (by rfl) T.b_isinstance (by decide +kernel) (pa_cons (pv 0) (pa_cons (pe_glob (v := .ref X_NoOpened.C) (by rfl) X_NoOpened.gC rfl) pa_nil))) (pa_cons (pe_callB (call_isH (a := q.1) (oe := q.2) er.ec hz.zc hf hm) (by rfl) T.b_isinstance (by decide +kernel) (pa_cons (pv 0) (pa_cons (pe_glob (v := .ref X_TooMany.C) (by rfl) X_TooMany.gC rfl) pa_nil))) (pa_cons (pe_callB (call_isH (a := q.1) (oe := q.2) er.ec hz.zc hf hm) (by rfl) T.b_isinstance (by decide +kernel) (pa_cons (pv 0) (pa_cons (pe_glob (v := .ref X_NoAmount.C) (by rfl) X_NoAmount.gC rfl) pa_nil))) pa_nil))))))
      (pss_cons (ps_set (i := 2) sc_law_other.nd rfl (.inl rfl) (pe_op op_cat (pv 2) (pe_lst (pa_cons (pe_callB (call_isH (a := q.1) (oe := q.2) er.ec hz.zc hf hm) (by rfl) T.b_isinstance (by decide +kernel) (pa_cons (pv 0) (pa_cons (pe_glob (v := .ref X_NoPayment.C) (by rfl) X_NoPayment.gC rfl) pa_nil))) (pa_cons (pe_callB (call_isH (a := q.1) (oe := q.2) er.ec hz.zc hf hm) (by rfl) T.b_isinstance (by decide +kernel) (pa_cons (pv 0) (pa_cons (pe_glob (v := .ref X_NoCount.C) (by rfl) X_NoCount.gC rfl) pa_nil))) (pa_cons (pe_callB (call_isH (a := q.1) (oe := q.2) er.ec hz.zc hf hm) (by rfl) T.b_isinstance (by decide +kernel) (pa_cons (pv 0) (pa_cons (pe_glob (v := .ref X_NoNote.C) (by rfl) X_NoNote.gC rfl) pa_nil))) pa_nil))))))
      (pss_one (ps_ret (pe_or (pe_cmpR (op_neD hun) (pv 2) (pe_lcH (own := [("k", 3)]) (q := q) sc_law_other.nd hot hm (by rfl) T.b_range (pa_cons pe_int pa_nil) (blkOk_by (N := ["e", "wanted", "marks", "k"]) (sc := defScope s_law_other) (by decide +kernel)) (fun _ _ _ _ _ => (pg_name (i := 3) sc_law_other.nd rfl (.inl rfl))) (fun _ _ _ _ _ => pts_nil) (fun _ _ _ _ _ => (pe_cmpR op_eq (pv 3) (pv 1) (nomark _)))) (nomark _)) (pe_one (pe_not (pe_callB (call_isH (a := q.1) (oe := q.2) er.ec hz.zc hf hm) (by rfl) T.b_isinstance (by decide +kernel) (pa_cons (pv 0) (pa_cons (pe_bltn (v := .ty "ValueError") (by rfl) T.b_ValueError (by decide +kernel) rfl) pa_nil)))))))))), ?_⟩
    refine ⟨_, rfl, _, _, _, rfl, fun _ z => z, er.k0, _, rfl, _, _, _, rfl, fun _ z => z, er.k1, _, rfl, _, _, _, rfl, fun _ z => z, er.k2, _, rfl, _, _, _, rfl, fun _ z => z, er.k3, (by show 4 ≤ sizeLine; decide), fun p np => ?_⟩
    obtain ⟨e1, h1⟩ := nw np (.lst [.bl (decide (i = 0)), .bl (decide (i = 1)), .bl (decide (i = 2)), .bl (decide (i = 3))])
    refine ⟨_, rfl, _, rfl, _, _, _, rfl, fun _ z => z, er.k4, _, rfl, _, _, _, rfl, fun _ z => z, er.k5, _, rfl, _, _, _, rfl, fun _ z => z, er.k6, (by show 3 ≤ sizeLine; decide), fun p2 np2 => ?_⟩
    obtain ⟨e2, h2⟩ := nw np2 (.lst [.bl (decide (i = 4)), .bl (decide (i = 5)), .bl (decide (i = 6))])
    refine ⟨p, p2, _, _, rfl, rfl, e2 _ _ h1, h2, (by show 7 ≤ sizeLine; decide), fun m nm => ?_⟩
    obtain ⟨e3, h3⟩ := nw nm (.lst ([decide (i = 0), decide (i = 1), decide (i = 2), decide (i = 3), decide (i = 4), decide (i = 5), decide (i = 6)].map V.bl))
    refine ⟨_, rfl, 7, rfl, by decide, by decide, fun D2 nD => lc_rangeV nD (by decide) (fun _ => true) (fun j => .bl (decide (0 + (j : Int) = k))) ?_ ?_⟩
    · intro j H4 hj e4 Y Z hY hZ
      have hj2 : (fun (x : V) => decide (x = .int k)) (.int (0 + (j : Int))) = decide (0 + (j : Int) = k) := by
        by_cases c : 0 + (j : Int) = k
        · simp [c]
        · simp [c]
      refine ⟨rfl, _, rfl, _, rfl, rfl, ?_⟩
      have := hY rfl H4 (Evl.Ex.refl _)
      rw [← hj2] at this
      exact this
    · intro H4 hD e4
      have e14 := ((e1.trans e2).trans e3).trans e4
      have hD2 : H4 D2 = some (.lst (((List.range 7).map fun (j : Nat) => decide (0 + (j : Int) = k)).map V.bl)) := hD
      refine ⟨bolsD [decide (i = 0), decide (i = 1), decide (i = 2), decide (i = 3), decide (i = 4), decide (i = 5), decide (i = 6)], bolsD ((List.range 7).map fun (j : Nat) => decide (0 + (j : Int) = k)), .lst (.inl (.inl (e4 _ _ h3))) (dpAllBols _), .lst (.inl (.inl hD2)) (dpAllBols _), shBols _, shBols _, ?_⟩
      rw [eqvBolsD, marks_eq er.lt]
      refine ⟨_, rfl, iteB _ (fun z => ?_) (fun z => ?_)⟩
      · rw [← z]
        exact fin _ e14
      · refine ⟨_, rfl, _, _, _, rfl, fun _ y => y, er.kv, _, rfl, ?_⟩
        have := fin _ e14
        rw [z] at this
        exact this
end
theorem st_om : Str.ofString "o-" = St0 [111, 45] := by decide +kernel
theorem cut_len (z : Str) (lo hi : Option Int) : (cutS z lo hi).length ≤ z.length := by
  unfold cutS Str.length
  simp
  omega
def tD (n : Int) (ns : List Int) : PyData := .tuple [.int n, intsD ns]
theorem layT (n : Int) (ns : List Int) : PyData.canLay0 (tD n ns) = true ∧ PyData.depth (tD n ns) ≤ 4 := by
  have h := layInts ns
  simp only [tD, intsD, PyData.canLayAll0, PyData.canLay0, PyData.depthAll, PyData.depth, h.1]
  exact ⟨rfl, by omega⟩
theorem shT (n : Int) (ns : List Int) : SeqAt.shaped (tD n ns) = true := by
  have h := layT n ns
  unfold SeqAt.shaped
  rw [h.1, Bool.true_and]
  exact decide_eq_true (by omega)
theorem eqvT (n : Int) (ns : List Int) : PyData.eqv (tD n ns) (tD n ns) = true := SeqAt.eqv_refl _ (layT n ns).1
theorem text_good (l : List Nat) : (1 ≤ l.length ∧ l.length ≤ 60 ∧ ((List.range l.length).filter fun i => !decide (l.getD i 0 ∈ [111, 45])).length = 0) ↔ TextOk l := by
  have key : ((List.range l.length).filter fun i => !decide (l.getD i 0 ∈ [111, 45])).length = 0 ↔ ∀ c ∈ l, c = 111 ∨ c = 45 := by
    rw [List.length_eq_zero_iff, List.filter_eq_nil_iff]
    constructor
    · intro h c hc
      obtain ⟨j, hj⟩ := List.mem_iff_getElem?.mp hc
      have hj2 := (List.getElem?_eq_some_iff.mp hj).1
      have := h j (List.mem_range.mpr hj2)
      rw [List.getD_eq_getElem?_getD, hj] at this
      simp at this
      omega
    · intro h i hi
      have hi2 := List.mem_range.mp hi
      have := h l[i] (List.getElem_mem hi2)
      rw [List.getD_eq_getElem?_getD, List.getElem?_eq_getElem hi2]
      simp
      omega
  rw [key]
  exact Iff.rfl
def sp_law (K : PySem.W.Frag) : Sp := fun vs H Q _ => ∃ (a : Addr) (ns : List Int), vs = [.ref a] ∧ SqL K H a (ns.map V.int) ∧ ∀ H', Q (.bl true) H'
section
variable {P : Program} {w : World} {K : PySem.W.Frag} {mg : Str → Option Value} {base : Heap}
theorem ok_law {f : Addr} {fd : FuncData} (F : Fun K "law" "law" s_law f fd) (T : Bl mg) (X_PayError : Exo K mg "PayError") (X_NoNote : Exo K mg "NoNote") (X_NoRow : Exo K mg "NoRow") (X_NoOpened : Exo K mg "NoOpened") (X_TooMany : Exo K mg "TooMany") (X_NoAmount : Exo K mg "NoAmount") (X_NoPayment : Exo K mg "NoPayment") (X_NoCount : Exo K mg "NoCount") (R_NoNote : ErrOk K X_NoRow.C X_NoOpened.C X_TooMany.C X_NoAmount.C X_NoPayment.C X_NoCount.C X_NoNote.C X_PayError.C X_NoNote.C 6) (C_law_text : CalN P w K mg base 2 "_law_text" ["script"] (sp_law_text K)) (C_law_cell_at : CalN P w K mg base 1 "_law_cell_at" ["script", "k"] (sp_law_cell_at K)) (C_law_sign : CalN P w K mg base 1 "_law_sign" ["cell"] (sp_law_sign )) (C_law_next : CalN P w K mg base 1 "_law_next" ["seed"] (sp_law_next )) (C_read : CalN P w K mg base 1 "read" ["text"] (sp_read X_NoNote.C)) (C_law_other : CalE P w K mg base 1 "_law_other" ["e", "wanted"] (sp_law_other K X_NoRow.C X_NoOpened.C X_TooMany.C X_NoAmount.C X_NoPayment.C X_NoCount.C X_NoNote.C X_PayError.C)) : FnOk P w K mg base (L2N.CX P w) 3 f fd ["script"] (sp_law K) := by
  refine Fun.okN F sc_law (fun vs H Q E h => ?_) (fun cdv A outer s H vs Q E hr h => ?_)
  · obtain ⟨a, ns, rfl, _⟩ := h
    rfl
  · obtain ⟨a, ns, rfl, hS, q⟩ := h
    have hu := hu_of hr
    refine ⟨_, (pss_cons (ps_set (i := 1) sc_law.nd rfl (.inr rfl) (pe_call C_law_text.ok (hr.mono (by decide)) (by rfl) C_law_text.gl C_law_text.kp C_law_text.bd .nil (L2N.passes_call (L2N.takes_of rfl rfl rfl rfl) (fun _ _ _ _ h => h)) (pa_cons (pv 0) pa_nil)))
      (pss_cons (ps_set (i := 2) sc_law.nd rfl (.inl rfl) (pe_op op_mod (pe_call C_law_cell_at.ok (hr.mono (by decide)) (by rfl) C_law_cell_at.gl C_law_cell_at.kp C_law_cell_at.bd .nil (L2N.passes_call (L2N.takes_of rfl rfl rfl rfl) (fun _ _ _ _ h => h)) (pa_cons (pv 0) (pa_cons pe_int pa_nil))) pe_int))
      (pss_cons (ps_set (i := 3) sc_law.nd rfl (.inl rfl) (pe_op op_mod (pe_call C_law_cell_at.ok (hr.mono (by decide)) (by rfl) C_law_cell_at.gl C_law_cell_at.kp C_law_cell_at.bd .nil (L2N.passes_call (L2N.takes_of rfl rfl rfl rfl) (fun _ _ _ _ h => h)) (pa_cons (pv 0) (pa_cons pe_int pa_nil))) (pe_op op_add (pe_callB call_len_str (by rfl) T.b_len (by decide +kernel) (pa_cons (pv 1) pa_nil)) pe_int)))
      (Evl.pss_cut (ps_if (pt_cmpR op_gt (pv 2) pe_int (nomark _))
      (pss_cons (ps_set (i := 4) sc_law.nd rfl (.inl rfl) (pe_call C_law_sign.ok (hr.mono (by decide)) (by rfl) C_law_sign.gl C_law_sign.kp C_law_sign.bd .nil (L2N.passes_call (L2N.takes_of rfl rfl rfl rfl) (fun _ _ _ _ h => h)) (pa_cons (pe_call C_law_next.ok (hr.mono (by decide)) (by rfl) C_law_next.gl C_law_next.kp C_law_next.bd .nil (L2N.passes_call (L2N.takes_of rfl rfl rfl rfl) (fun _ _ _ _ h => h)) (pa_cons (pe_call C_law_cell_at.ok (hr.mono (by decide)) (by rfl) C_law_cell_at.gl C_law_cell_at.kp C_law_cell_at.bd .nil (L2N.passes_call (L2N.takes_of rfl rfl rfl rfl) (fun _ _ _ _ h => h)) (pa_cons (pv 0) (pa_cons pe_int pa_nil))) pa_nil)) pa_nil)))
      (pss_one (ps_set (i := 1) sc_law.nd rfl (.inr rfl) (pe_op op_add_str (pe_op op_add_str (pe_slice sl_str (pv 1) po_none (po_some (pv 3))) (pv 4)) (pe_slice sl_str (pv 1) (po_some (pe_op op_sub (pe_op op_add (pv 3) (pv 2)) pe_int)) po_none))))) pss_nil)
      (pss_cons (ps_setLc (i := 5) (own := [("one", 10)]) rfl sc_law.nd rfl rfl (sw_true rfl rfl rfl (by decide +kernel)) (pi_str (pv 1)) (blkOk_by (N := ["script", "text", "way", "at", "sign", "odd", "good", "found", "e", "opened", "one", "k"]) (sc := defScope s_law) (by decide +kernel)) (fun _ _ _ _ _ => (pg_name (i := 10) sc_law.nd rfl (.inl rfl))) (fun _ _ _ _ _ => (pts_one (pt_cmpR op_notIn_sign (pv 10) pe_str (by rfl)))) (fun _ _ _ _ _ => (pv 10)))
      (pss_cons (ps_set (i := 6) sc_law.nd rfl (.inl rfl) (pe_and (pe_chain op_le op_le pe_int (pe_callB call_len_str (by rfl) T.b_len (by decide +kernel) (pa_cons (pv 1) pa_nil)) pe_int) (pe_one (pe_cmpR op_eq (pe_callB call_len_seq (by rfl) T.b_len (by decide +kernel) (pa_cons (pv 5) pa_nil)) pe_int (nomark _)))))
      (pss_cons (L2N.ps_try_as (i := 8) rfl rfl sc_law.nd rfl rfl ⟨rfl, by decide, .inl X_PayError.gC⟩ (L2N.takes_of rfl rfl rfl rfl)
      (fun W pn xe tk own => (pss_one (ps_set (i := 7) sc_law.nd rfl (.inl rfl) (pe_callS C_read.ok (hr.mono (by decide)) (by rfl) C_read.gl C_read.kp C_read.bd (fun σ => L2N.passAt tk σ) (pa_cons (pv 1) pa_nil)))))
      (fun a oe cls d pn hz hf => (pss_one (ps_ret (pe_and (pe_not (pv 6)) (pe_one (pe_not (pe_callE (a := a) (oe := oe) (c := cls) (d := d) C_law_other.ok (roomH_mark (L2H.roomH_of (hr.mono (by decide)))) (hot_suite hz hf) hz List.mem_cons_self (by rfl) C_law_other.gl C_law_other.kp C_law_other.bd passHN (pa_cons (pv 8) (pa_cons pe_int pa_nil))))))))))
      (pss_cons (ps_setLc (i := 9) (own := [("k", 11)]) rfl sc_law.nd rfl rfl (sw_true rfl rfl rfl (by decide +kernel)) (pi_range1 rfl T.b_range (pa_cons (pe_callB call_len_str (by rfl) T.b_len (by decide +kernel) (pa_cons (pv 1) pa_nil)) pa_nil)) (blkOk_by (N := ["script", "text", "way", "at", "sign", "odd", "good", "found", "e", "opened", "one", "k"]) (sc := defScope s_law) (by decide +kernel)) (fun _ _ _ _ _ => (pg_name (i := 11) sc_law.nd rfl (.inl rfl))) (fun _ _ _ _ _ => (pts_one (pt_cmpR op_eq (pe_ix ix_str (pv 1) (pv 11) (fun _ _ => rfl)) pe_str (nomark _)))) (fun _ _ _ _ _ => (pv 11)))
      (pss_one (ps_ret (pe_and (pv 6) (pe_one (pe_cmpR (op_eqD hr.units) (pv 7) (pe_tup (pa_cons (pe_callB call_len_str (by rfl) T.b_len (by decide +kernel) (pa_cons (pv 1) pa_nil)) (pa_cons (pv 9) pa_nil))) (nomark _)))))))))))))), ?_⟩
    refine ⟨_, rfl, a, ns, rfl, hS, fun l0 hl0 => ?_⟩
    refine ⟨_, rfl, a, ns, 2, rfl, hS, by decide, _, _, rfl, rfl, (by decide : (0 : Int) < 3), ?_⟩
    have hz0 : (St0 l0).length ≤ sizeLine := by
      rw [st_len]
      exact Nat.le_of_lt (sz_small (by omega))
    refine ⟨_, rfl, a, ns, 3, rfl, hS, by decide, _, rfl, St0 l0, rfl, hz0, _, _, rfl, rfl, _, _, rfl, rfl, (by omega), ?_⟩
    refine ⟨fun σ2 H2 => H2 = H ∧ ∃ (l : List Nat) (v2 v3 v4 : Option V), l.length ≤ 200 ∧ σ2 = [some (.ref a), some (.str (St0 l)), v2, v3, v4, none, none, none, none, none, none, none], ?_, ?_⟩
    · refine ⟨_, rfl, _, _, rfl, rfl, _, rfl, ?_⟩
      refine iteD (fun h => ?_) (fun h => ⟨rfl, l0, _, _, _, by omega, rfl⟩)
      refine ⟨_, rfl, a, ns, 4, rfl, hS, by decide, _, rfl, _, rfl, fun x => ?_⟩
      have hx : (St0 [x]).length = 1 := by rw [st_len]; rfl
      have h1 := cut_len (St0 l0) none (some (cell ns 3 % (((St0 l0).length : Int) + 1)))
      have h2 := cut_len (St0 l0) (some (cell ns 3 % (((St0 l0).length : Int) + 1) + cell ns 2 % 3 - 1)) none
      have h3 : (St0 l0).length ≤ 66 := by rw [st_len]; exact hl0
      have hl1 : (cutS (St0 l0) none (some (cell ns 3 % (((St0 l0).length : Int) + 1)))).length + (St0 [x]).length ≤ sizeLine := Nat.le_of_lt (sz_small (by omega))
      have hl2 : (cutS (St0 l0) none (some (cell ns 3 % (((St0 l0).length : Int) + 1))) ++ St0 [x]).length + (cutS (St0 l0) (some (cell ns 3 % (((St0 l0).length : Int) + 1) + cell ns 2 % 3 - 1)) none).length ≤ sizeLine := by
        rw [app_len]
        exact Nat.le_of_lt (sz_small (by omega))
      have hl3 : ((cutS (St0 l0) none (some (cell ns 3 % (((St0 l0).length : Int) + 1))) ++ St0 [x]) ++ cutS (St0 l0) (some (cell ns 3 % (((St0 l0).length : Int) + 1) + cell ns 2 % 3 - 1)) none).length ≤ 200 := by
        rw [app_len, app_len]
        omega
      refine ⟨_, rfl, _, rfl, _, rfl, St0 l0, rfl, hz0, _, rfl, _, _, rfl, rfl, hl1, _, rfl, _, rfl, _, rfl, _, _, rfl, rfl, _, _, rfl, rfl, _, rfl, St0 l0, rfl, hz0, _, _, rfl, rfl, hl2, rfl, ((cutS (St0 l0) none (some (cell ns 3 % (((St0 l0).length : Int) + 1))) ++ St0 [x]) ++ cutS (St0 l0) (some (cell ns 3 % (((St0 l0).length : Int) + 1) + cell ns 2 % 3 - 1)) none).cps.toList, some (.int (cell ns 2 % 3)), some (.int (cell ns 3 % (((St0 l0).length : Int) + 1))), some (.str (St0 [x])), hl3, ?_⟩
      rw [← st_of]
      rfl
    rintro σ2 H2 ⟨rfl, l, v2, v3, v4, hl, rfl⟩
    clear hz0
    have hz : (St0 l).length ≤ sizeLine := by
      rw [st_len]
      exact Nat.le_of_lt (sz_small (by omega))
    have hcs : (St0 l).cps.size = l.length := by simp
    refine ⟨_, rfl, St0 l, rfl, fun D nD => ?_⟩
    refine lc_strV nD (sz_small (by omega)) (fun i => !decide (l.getD i 0 ∈ [111, 45])) (fun i => .str (St0 [l.getD i 0])) ?_ ?_
    · intro i H3 hi e3 Y Z hY hZ
      refine ⟨rfl, _, rfl, l.getD i 0, Str.ofString "o-", rfl, rfl, _, rfl, ?_⟩
      rw [st_om]
      exact iteB _ (fun h => ⟨_, rfl, hY h _ (Evl.Ex.refl _)⟩) (fun h => hZ h _ (Evl.Ex.refl _))
    intro H3 hD e3
    have hgood := text_good l
    have hlen : ((St0 l).length : Int) = (l.length : Int) := by rw [st_len]
    refine ⟨_, rfl, St0 l, rfl, hz, _, _, rfl, rfl, _, rfl, ?_⟩
    rw [hlen]
    refine iteD (fun h1 => ?_) (fun h1 => ?_)
    · refine ⟨_, _, rfl, rfl, _, rfl, ?_⟩
      refine iteD (fun h2 => ?_) (fun h2 => ?_)
      · refine ⟨_, rfl, D, _, rfl, .inl (.inl (.inl hD)), rfl, ?_⟩
        rw [List.length_map]
        by_cases h4 : ((List.range l.length).filter fun i => !decide (l.getD i 0 ∈ [111, 45])).length = 0
        · have hok : TextOk l := hgood.mp ⟨by omega, by omega, h4⟩
          rw [h4]
          refine ⟨_, rfl, l, rfl, by omega, fun _ t o H5 nt no e5 ht ho => ?_, fun z => absurd hok z⟩
          refine ⟨_, rfl, St0 l, rfl, hz, _, rfl, by omega, by omega, fun G nG => lc_rangeI nG (sz_small (by omega)) (fun (i : Nat) => decide (l.getD i 0 = 111)) (fun (i : Nat) => 0 + (i : Int)) ?_ ?_⟩
          · intro i H6 hi e6 Y Z hY hZ
            have hi2 : i < l.length := by omega
            refine ⟨rfl, _, rfl, _, rfl, St0 l, _, l.getD i 0, rfl, rfl, hz, at_text hi2, rfl, _, rfl, ?_⟩
            rw [st_o, show (⟨#[l.getD i 0]⟩ : Str) = St0 [l.getD i 0] from rfl, v_str]
            refine iteD (fun h => ?_) (fun h => ?_)
            · exact ⟨_, rfl, hY (decide_eq_true (by simpa using h)) _ (Evl.Ex.refl _)⟩
            · exact hZ (decide_eq_false (fun z => h (by rw [z]))) _ (Evl.Ex.refl _)
          intro H6 hG e6
          have hG2 : Ints H6 G (openI l l.length) := by
            rw [show (((St0 l).length : Int)).toNat = l.length by omega] at hG
            have e0 : (fun (i : Nat) => 0 + (i : Int)) = fun (i : Nat) => (i : Int) := funext fun i => Int.zero_add _
            rw [e0] at hG
            exact hG
          refine ⟨_, rfl, _, rfl, iteT ?_⟩
          refine ⟨_, rfl, _, rfl, St0 l, rfl, hz, _, rfl, le2, fun u nu => ?_⟩
          rw [hlen]
          obtain ⟨e7, hu7⟩ := nw nu (.tup [.int (l.length : Nat), .ref G])
          refine ⟨tD l.length (openI l l.length), tD l.length (openI l l.length), .tup (.inl (.inl (e7 _ _ (e6 _ _ ht)))) (.cons (.int _) (.cons (dpInts ((ho.ex e6).ex e7)) .nil)), .tup (.inl (.inl hu7)) (.cons (.int _) (.cons (dpInts (hG2.ex e7)) .nil)), shT _ _, shT _ _, ?_⟩
          rw [eqvT]
          exact q _
        · have hno : ¬ TextOk l := fun z => h4 (hgood.mpr z).2.2
          rw [decide_eq_false (fun z => h4 (by have := V.int.inj z; omega))]
          refine ⟨_, rfl, l, rfl, by omega, fun z => absurd z hno, fun _ H5 e5 => ⟨true, R_NoNote.px, fun _ b nb => ?_, fun z => nomatch z⟩⟩
          refine ⟨_, rfl, _, rfl, _, rfl, iteT ?_⟩
          exact ⟨_, rfl, 6, _, 6, rfl, rfl, rfl, R_NoNote, fun H6 e6 => ⟨_, rfl, q _⟩⟩
      · have hno : ¬ TextOk l := fun z => by
          have := z.2.1
          omega
        refine ⟨_, rfl, l, rfl, by omega, fun z => absurd z hno, fun _ H5 e5 => ⟨true, R_NoNote.px, fun _ b nb => ?_, fun z => nomatch z⟩⟩
        refine ⟨_, rfl, _, rfl, _, rfl, iteT ?_⟩
        exact ⟨_, rfl, 6, _, 6, rfl, rfl, rfl, R_NoNote, fun H6 e6 => ⟨_, rfl, q _⟩⟩
    · have hno : ¬ TextOk l := fun z => by
        have := z.1
        omega
      refine ⟨_, rfl, iteF ?_⟩
      refine ⟨_, rfl, l, rfl, by omega, fun z => absurd z hno, fun _ H5 e5 => ⟨true, R_NoNote.px, fun _ b nb => ?_, fun z => nomatch z⟩⟩
      refine ⟨_, rfl, _, rfl, _, rfl, iteT ?_⟩
      exact ⟨_, rfl, 6, _, 6, rfl, rfl, rfl, R_NoNote, fun H6 e6 => ⟨_, rfl, q _⟩⟩
end
theorem all_mk {l : PySem.W.OpenLaw} {w : World} {K : PySem.W.Frag} {h : Heap} {mg : Str → Option Value} {fa f0 f1 f2 f3 f4 f5 f6 CNoNote CNoRow CNoOpened CTooMany CNoAmount CNoPayment CNoCount CPayError : Addr} (X : K.In h) (G : h.Ns mainGlobals mg) (hfa : mg "law" = some (.ref fa))
    {od0 an0 : Option Addr} {sl0 : Array (Option Value)} {oc0 kV0 dc0 pm0 cd0 ct0 : Value}
    (a0 : PySem.W.nsIn K mainGlobals "_law_next" = some (some (.ref f0))) (l0 : K.lookup f0 = some ⟨oc0, od0, .func (PySem.W.fnOf "_law_next" "_law_next" (defArgs s_law_next) (defBody s_law_next) (defScope s_law_next) .none kV0 dc0 pm0 an0 cd0 ct0), sl0⟩) (c0 : PySem.W.codeIn K cd0 "_law_next" = true) (k0 : PySem.W.keepIn K (.ref f0) = true)
    {od1 an1 : Option Addr} {sl1 : Array (Option Value)} {oc1 kV1 dc1 pm1 cd1 ct1 : Value}
    (a1 : PySem.W.nsIn K mainGlobals "_law_cell_at" = some (some (.ref f1))) (l1 : K.lookup f1 = some ⟨oc1, od1, .func (PySem.W.fnOf "_law_cell_at" "_law_cell_at" (defArgs s_law_cell_at) (defBody s_law_cell_at) (defScope s_law_cell_at) .none kV1 dc1 pm1 an1 cd1 ct1), sl1⟩) (c1 : PySem.W.codeIn K cd1 "_law_cell_at" = true) (k1 : PySem.W.keepIn K (.ref f1) = true)
    {od2 an2 : Option Addr} {sl2 : Array (Option Value)} {oc2 kV2 dc2 pm2 cd2 ct2 : Value}
    (a2 : PySem.W.nsIn K mainGlobals "_law_text" = some (some (.ref f2))) (l2 : K.lookup f2 = some ⟨oc2, od2, .func (PySem.W.fnOf "_law_text" "_law_text" (defArgs s_law_text) (defBody s_law_text) (defScope s_law_text) .none kV2 dc2 pm2 an2 cd2 ct2), sl2⟩) (c2 : PySem.W.codeIn K cd2 "_law_text" = true) (k2 : PySem.W.keepIn K (.ref f2) = true)
    {od3 an3 : Option Addr} {sl3 : Array (Option Value)} {oc3 kV3 dc3 pm3 cd3 ct3 : Value}
    (a3 : PySem.W.nsIn K mainGlobals "_law_sign" = some (some (.ref f3))) (l3 : K.lookup f3 = some ⟨oc3, od3, .func (PySem.W.fnOf "_law_sign" "_law_sign" (defArgs s_law_sign) (defBody s_law_sign) (defScope s_law_sign) .none kV3 dc3 pm3 an3 cd3 ct3), sl3⟩) (c3 : PySem.W.codeIn K cd3 "_law_sign" = true) (k3 : PySem.W.keepIn K (.ref f3) = true)
    {od4 an4 : Option Addr} {sl4 : Array (Option Value)} {oc4 kV4 dc4 pm4 cd4 ct4 : Value}
    (a4 : PySem.W.nsIn K mainGlobals "read" = some (some (.ref f4))) (l4 : K.lookup f4 = some ⟨oc4, od4, .func (PySem.W.fnOf "read" "read" (defArgs s_read) (defBody s_read) (defScope s_read) .none kV4 dc4 pm4 an4 cd4 ct4), sl4⟩) (c4 : PySem.W.codeIn K cd4 "read" = true) (k4 : PySem.W.keepIn K (.ref f4) = true)
    {od5 an5 : Option Addr} {sl5 : Array (Option Value)} {oc5 kV5 dc5 pm5 cd5 ct5 : Value}
    (a5 : PySem.W.nsIn K mainGlobals "_law_other" = some (some (.ref f5))) (l5 : K.lookup f5 = some ⟨oc5, od5, .func (PySem.W.fnOf "_law_other" "_law_other" (defArgs s_law_other) (defBody s_law_other) (defScope s_law_other) .none kV5 dc5 pm5 an5 cd5 ct5), sl5⟩) (c5 : PySem.W.codeIn K cd5 "_law_other" = true) (k5 : PySem.W.keepIn K (.ref f5) = true)
    {od6 an6 : Option Addr} {sl6 : Array (Option Value)} {oc6 kV6 dc6 pm6 cd6 ct6 : Value}
    (a6 : PySem.W.nsIn K mainGlobals "law" = some (some (.ref f6))) (l6 : K.lookup f6 = some ⟨oc6, od6, .func (PySem.W.fnOf "law" "law" (defArgs s_law) (defBody s_law) (defScope s_law) .none kV6 dc6 pm6 an6 cd6 ct6), sl6⟩) (c6 : PySem.W.codeIn K cd6 "law" = true) (k6 : PySem.W.keepIn K (.ref f6) = true)
    (z_len : PySem.W.nsIn K mainGlobals "len" = some none)    (z_range : PySem.W.nsIn K mainGlobals "range" = some none)    (z_sorted : PySem.W.nsIn K mainGlobals "sorted" = some none)    (z_isinstance : PySem.W.nsIn K mainGlobals "isinstance" = some none)    (z_int : PySem.W.nsIn K mainGlobals "int" = some none)    (z_bool : PySem.W.nsIn K mainGlobals "bool" = some none)    (z_list : PySem.W.nsIn K mainGlobals "list" = some none)    (z_tuple : PySem.W.nsIn K mainGlobals "tuple" = some none)    (z_str : PySem.W.nsIn K mainGlobals "str" = some none)    (z_set : PySem.W.nsIn K mainGlobals "set" = some none)    (z_dict : PySem.W.nsIn K mainGlobals "dict" = some none)    (z_enumerate : PySem.W.nsIn K mainGlobals "enumerate" = some none)    (z_zip : PySem.W.nsIn K mainGlobals "zip" = some none)    (z_sum : PySem.W.nsIn K mainGlobals "sum" = some none)    (z_min : PySem.W.nsIn K mainGlobals "min" = some none)    (z_max : PySem.W.nsIn K mainGlobals "max" = some none)    (z_ValueError : PySem.W.nsIn K mainGlobals "ValueError" = some none)
    (xa_NoNote : PySem.W.nsIn K mainGlobals "NoNote" = some (some (.ref CNoNote))) (xx_NoNote : PySem.W.excIn K CNoNote [.type "ValueError", .type "Exception", .type "BaseException", .type "object"] "ValueError.__new__" = true) (xk_NoNote : PySem.W.keepIn K (.ref CNoNote) = true) (xe_NoNote : PySem.W.subIn K (.ref CNoNote) (.type "BaseException") = some true) (xt_NoNote : PySem.W.typeIn K (.ref CNoNote) = some (.type "type"))
    (xa_NoRow : PySem.W.nsIn K mainGlobals "NoRow" = some (some (.ref CNoRow))) (xx_NoRow : PySem.W.excIn K CNoRow [.type "ValueError", .type "Exception", .type "BaseException", .type "object"] "ValueError.__new__" = true) (xk_NoRow : PySem.W.keepIn K (.ref CNoRow) = true) (xe_NoRow : PySem.W.subIn K (.ref CNoRow) (.type "BaseException") = some true) (xt_NoRow : PySem.W.typeIn K (.ref CNoRow) = some (.type "type"))
    (xa_NoOpened : PySem.W.nsIn K mainGlobals "NoOpened" = some (some (.ref CNoOpened))) (xx_NoOpened : PySem.W.excIn K CNoOpened [.type "ValueError", .type "Exception", .type "BaseException", .type "object"] "ValueError.__new__" = true) (xk_NoOpened : PySem.W.keepIn K (.ref CNoOpened) = true) (xe_NoOpened : PySem.W.subIn K (.ref CNoOpened) (.type "BaseException") = some true) (xt_NoOpened : PySem.W.typeIn K (.ref CNoOpened) = some (.type "type"))
    (xa_TooMany : PySem.W.nsIn K mainGlobals "TooMany" = some (some (.ref CTooMany))) (xx_TooMany : PySem.W.excIn K CTooMany [.type "ValueError", .type "Exception", .type "BaseException", .type "object"] "ValueError.__new__" = true) (xk_TooMany : PySem.W.keepIn K (.ref CTooMany) = true) (xe_TooMany : PySem.W.subIn K (.ref CTooMany) (.type "BaseException") = some true) (xt_TooMany : PySem.W.typeIn K (.ref CTooMany) = some (.type "type"))
    (xa_NoAmount : PySem.W.nsIn K mainGlobals "NoAmount" = some (some (.ref CNoAmount))) (xx_NoAmount : PySem.W.excIn K CNoAmount [.type "ValueError", .type "Exception", .type "BaseException", .type "object"] "ValueError.__new__" = true) (xk_NoAmount : PySem.W.keepIn K (.ref CNoAmount) = true) (xe_NoAmount : PySem.W.subIn K (.ref CNoAmount) (.type "BaseException") = some true) (xt_NoAmount : PySem.W.typeIn K (.ref CNoAmount) = some (.type "type"))
    (xa_NoPayment : PySem.W.nsIn K mainGlobals "NoPayment" = some (some (.ref CNoPayment))) (xx_NoPayment : PySem.W.excIn K CNoPayment [.type "ValueError", .type "Exception", .type "BaseException", .type "object"] "ValueError.__new__" = true) (xk_NoPayment : PySem.W.keepIn K (.ref CNoPayment) = true) (xe_NoPayment : PySem.W.subIn K (.ref CNoPayment) (.type "BaseException") = some true) (xt_NoPayment : PySem.W.typeIn K (.ref CNoPayment) = some (.type "type"))
    (xa_NoCount : PySem.W.nsIn K mainGlobals "NoCount" = some (some (.ref CNoCount))) (xx_NoCount : PySem.W.excIn K CNoCount [.type "ValueError", .type "Exception", .type "BaseException", .type "object"] "ValueError.__new__" = true) (xk_NoCount : PySem.W.keepIn K (.ref CNoCount) = true) (xe_NoCount : PySem.W.subIn K (.ref CNoCount) (.type "BaseException") = some true) (xt_NoCount : PySem.W.typeIn K (.ref CNoCount) = some (.type "type"))
    (xa_PayError : PySem.W.nsIn K mainGlobals "PayError" = some (some (.ref CPayError))) (xx_PayError : PySem.W.excIn K CPayError [.type "ValueError", .type "Exception", .type "BaseException", .type "object"] "ValueError.__new__" = true) (xk_PayError : PySem.W.keepIn K (.ref CPayError) = true) (xe_PayError : PySem.W.subIn K (.ref CPayError) (.type "BaseException") = some true) (xt_PayError : PySem.W.typeIn K (.ref CPayError) = some (.type "type"))
    {tMOST_SIGNS : Tok} (m_MOST_SIGNS : PySem.W.nsIn K mainGlobals "MOST_SIGNS" = some (some (.int 60 tMOST_SIGNS)))
    (er_NoNote : ErrOk K CNoRow CNoOpened CTooMany CNoAmount CNoPayment CNoCount CNoNote CPayError CNoNote 6)
    : ∃ fd : FuncData, (∀ (s : Shared) (v : Value), BindsTo s fd ⟨[v], []⟩ [("script", v)]) ∧ ∀ base : Heap, K.In base → base.Ns mainGlobals mg → FnOk l.prog w K mg base (L2N.CX l.prog w) 3 fa fd ["script"] (sp_law K) := by
  have e := hfa.symm.trans (PySem.W.mg_of X G a6)
  cases e
  have T : Bl mg := ⟨PySem.W.mg_none_of X G z_len, PySem.W.mg_none_of X G z_range, PySem.W.mg_none_of X G z_sorted, PySem.W.mg_none_of X G z_isinstance, PySem.W.mg_none_of X G z_int, PySem.W.mg_none_of X G z_bool, PySem.W.mg_none_of X G z_list, PySem.W.mg_none_of X G z_tuple, PySem.W.mg_none_of X G z_str, PySem.W.mg_none_of X G z_set, PySem.W.mg_none_of X G z_dict, PySem.W.mg_none_of X G z_enumerate, PySem.W.mg_none_of X G z_zip, PySem.W.mg_none_of X G z_sum, PySem.W.mg_none_of X G z_min, PySem.W.mg_none_of X G z_max, PySem.W.mg_none_of X G z_ValueError⟩
  let X_NoNote : Exo K mg "NoNote" := ⟨CNoNote, xx_NoNote, PySem.W.mg_of X G xa_NoNote, xk_NoNote, xe_NoNote, xt_NoNote⟩
  let X_NoRow : Exo K mg "NoRow" := ⟨CNoRow, xx_NoRow, PySem.W.mg_of X G xa_NoRow, xk_NoRow, xe_NoRow, xt_NoRow⟩
  let X_NoOpened : Exo K mg "NoOpened" := ⟨CNoOpened, xx_NoOpened, PySem.W.mg_of X G xa_NoOpened, xk_NoOpened, xe_NoOpened, xt_NoOpened⟩
  let X_TooMany : Exo K mg "TooMany" := ⟨CTooMany, xx_TooMany, PySem.W.mg_of X G xa_TooMany, xk_TooMany, xe_TooMany, xt_TooMany⟩
  let X_NoAmount : Exo K mg "NoAmount" := ⟨CNoAmount, xx_NoAmount, PySem.W.mg_of X G xa_NoAmount, xk_NoAmount, xe_NoAmount, xt_NoAmount⟩
  let X_NoPayment : Exo K mg "NoPayment" := ⟨CNoPayment, xx_NoPayment, PySem.W.mg_of X G xa_NoPayment, xk_NoPayment, xe_NoPayment, xt_NoPayment⟩
  let X_NoCount : Exo K mg "NoCount" := ⟨CNoCount, xx_NoCount, PySem.W.mg_of X G xa_NoCount, xk_NoCount, xe_NoCount, xt_NoCount⟩
  let X_PayError : Exo K mg "PayError" := ⟨CPayError, xx_PayError, PySem.W.mg_of X G xa_PayError, xk_PayError, xe_PayError, xt_PayError⟩
  have hMOST_SIGNS := PySem.W.mg_of X G m_MOST_SIGNS
  have R_NoNote := er_NoNote
  have F0 := fun_mk (st := s_law_next) l0 c0 k0
  have b0 := F0.binds (ps := ["seed"]) fun _ _ _ _ _ _ us hl => match us, hl with | [_], _ => rfl
  have F1 := fun_mk (st := s_law_cell_at) l1 c1 k1
  have b1 := F1.binds (ps := ["script", "k"]) fun _ _ _ _ _ _ us hl => match us, hl with | [_, _], _ => rfl
  have F2 := fun_mk (st := s_law_text) l2 c2 k2
  have b2 := F2.binds (ps := ["script"]) fun _ _ _ _ _ _ us hl => match us, hl with | [_], _ => rfl
  have F3 := fun_mk (st := s_law_sign) l3 c3 k3
  have b3 := F3.binds (ps := ["cell"]) fun _ _ _ _ _ _ us hl => match us, hl with | [_], _ => rfl
  have F4 := fun_mk (st := s_read) l4 c4 k4
  have b4 := F4.binds (ps := ["text"]) fun _ _ _ _ _ _ us hl => match us, hl with | [_], _ => rfl
  have F5 := fun_mk (st := s_law_other) l5 c5 k5
  have b5 := F5.binds (ps := ["e", "wanted"]) fun _ _ _ _ _ _ us hl => match us, hl with | [_, _], _ => rfl
  have F6 := fun_mk (st := s_law) l6 c6 k6
  refine ⟨PySem.W.fnOf "law" "law" (defArgs s_law) (defBody s_law) (defScope s_law) .none kV6 dc6 pm6 an6 cd6 ct6, fun s v => .of_eq rfl, fun base _ _ => ?_⟩
  let C_law_next : CalN l.prog w K mg base 1 "_law_next" ["seed"] (sp_law_next ) := ⟨f0, _, ok_law_next F0 T, PySem.W.mg_of X G a0, k0, b0⟩
  let C_law_cell_at : CalN l.prog w K mg base 1 "_law_cell_at" ["script", "k"] (sp_law_cell_at K) := ⟨f1, _, ok_law_cell_at F1 T, PySem.W.mg_of X G a1, k1, b1⟩
  let C_law_text : CalN l.prog w K mg base 2 "_law_text" ["script"] (sp_law_text K) := ⟨f2, _, ok_law_text F2 T C_law_next C_law_cell_at, PySem.W.mg_of X G a2, k2, b2⟩
  let C_law_sign : CalN l.prog w K mg base 1 "_law_sign" ["cell"] (sp_law_sign ) := ⟨f3, _, ok_law_sign F3 T, PySem.W.mg_of X G a3, k3, b3⟩
  let C_read : CalN l.prog w K mg base 1 "read" ["text"] (sp_read X_NoNote.C) := ⟨f4, _, ok_read F4 T X_NoNote hMOST_SIGNS, PySem.W.mg_of X G a4, k4, b4⟩
  let C_law_other : CalE l.prog w K mg base 1 "_law_other" ["e", "wanted"] (sp_law_other K X_NoRow.C X_NoOpened.C X_TooMany.C X_NoAmount.C X_NoPayment.C X_NoCount.C X_NoNote.C X_PayError.C) := ⟨f5, _, ok_law_other F5 T X_NoRow X_NoOpened X_TooMany X_NoAmount X_NoPayment X_NoCount X_NoNote X_PayError, PySem.W.mg_of X G a5, k5, b5⟩
  exact ok_law F6 T X_PayError X_NoNote X_NoRow X_NoOpened X_TooMany X_NoAmount X_NoPayment X_NoCount R_NoNote C_law_text C_law_cell_at C_law_sign C_law_next C_read C_law_other
end Lp
open PySem PySem.W PyProof.Rows
set_option maxRecDepth 100000 in
set_option maxHeartbeats 0 in
theorem PySem.Challenge.cw_linkpay_k12_read_or_refused_holds : PySem.Challenge.rw_linkpay_k12_read_or_refused.Holds := by
  w_on; o_law; k_head; (case hw => w_witness2)
  k_fill
  refine Lp.walkXN (l := PySem.Challenge.rw_linkpay_k12_read_or_refused) (n := 63) (k := 3) (x := "script") (sp := fun w => Lp.sp_law _) rfl (by decide) rfl ⟨rfl, by decide, by decide⟩ (fun w h Y => PySem.W.kIn_of Y) ?F (fun _ _ a ns hl hS => ⟨a, ns, rfl, hS, fun _ => rfl⟩)
  case F =>
    intro w mg fa h KX G XX hmg
    refine' Lp.all_mk KX G hmg ?a0 ?l0 ?c0 ?k0 ?a1 ?l1 ?c1 ?k1 ?a2 ?l2 ?c2 ?k2 ?a3 ?l3 ?c3 ?k3 ?a4 ?l4 ?c4 ?k4 ?a5 ?l5 ?c5 ?k5 ?a6 ?l6 ?c6 ?k6 ?z_len ?z_range ?z_sorted ?z_isinstance ?z_int ?z_bool ?z_list ?z_tuple ?z_str ?z_set ?z_dict ?z_enumerate ?z_zip ?z_sum ?z_min ?z_max ?z_ValueError ?xa_NoNote ?xx_NoNote ?xk_NoNote ?xe_NoNote ?xt_NoNote ?xa_NoRow ?xx_NoRow ?xk_NoRow ?xe_NoRow ?xt_NoRow ?xa_NoOpened ?xx_NoOpened ?xk_NoOpened ?xe_NoOpened ?xt_NoOpened ?xa_TooMany ?xx_TooMany ?xk_TooMany ?xe_TooMany ?xt_TooMany ?xa_NoAmount ?xx_NoAmount ?xk_NoAmount ?xe_NoAmount ?xt_NoAmount ?xa_NoPayment ?xx_NoPayment ?xk_NoPayment ?xe_NoPayment ?xt_NoPayment ?xa_NoCount ?xx_NoCount ?xk_NoCount ?xe_NoCount ?xt_NoCount ?xa_PayError ?xx_PayError ?xk_PayError ?xe_PayError ?xt_PayError ?m_MOST_SIGNS ?er_NoNote
    (case a0 => k_is)
    (case l0 => k_is)
    (case c0 => k_is)
    (case k0 => k_is)
    (case a1 => k_is)
    (case l1 => k_is)
    (case c1 => k_is)
    (case k1 => k_is)
    (case a2 => k_is)
    (case l2 => k_is)
    (case c2 => k_is)
    (case k2 => k_is)
    (case a3 => k_is)
    (case l3 => k_is)
    (case c3 => k_is)
    (case k3 => k_is)
    (case a4 => k_is)
    (case l4 => k_is)
    (case c4 => k_is)
    (case k4 => k_is)
    (case a5 => k_is)
    (case l5 => k_is)
    (case c5 => k_is)
    (case k5 => k_is)
    (case a6 => k_is)
    (case l6 => k_is)
    (case c6 => k_is)
    (case k6 => k_is)
    (case z_len => k_is)
    (case z_range => k_is)
    (case z_sorted => k_is)
    (case z_isinstance => k_is)
    (case z_int => k_is)
    (case z_bool => k_is)
    (case z_list => k_is)
    (case z_tuple => k_is)
    (case z_str => k_is)
    (case z_set => k_is)
    (case z_dict => k_is)
    (case z_enumerate => k_is)
    (case z_zip => k_is)
    (case z_sum => k_is)
    (case z_min => k_is)
    (case z_max => k_is)
    (case z_ValueError => k_is)
    (case xa_NoNote => k_is)
    (case xx_NoNote => k_exc)
    (case xk_NoNote => k_is)
    (case xe_NoNote => k_is)
    (case xt_NoNote => k_is)
    (case xa_NoRow => k_is)
    (case xx_NoRow => k_exc)
    (case xk_NoRow => k_is)
    (case xe_NoRow => k_is)
    (case xt_NoRow => k_is)
    (case xa_NoOpened => k_is)
    (case xx_NoOpened => k_exc)
    (case xk_NoOpened => k_is)
    (case xe_NoOpened => k_is)
    (case xt_NoOpened => k_is)
    (case xa_TooMany => k_is)
    (case xx_TooMany => k_exc)
    (case xk_TooMany => k_is)
    (case xe_TooMany => k_is)
    (case xt_TooMany => k_is)
    (case xa_NoAmount => k_is)
    (case xx_NoAmount => k_exc)
    (case xk_NoAmount => k_is)
    (case xe_NoAmount => k_is)
    (case xt_NoAmount => k_is)
    (case xa_NoPayment => k_is)
    (case xx_NoPayment => k_exc)
    (case xk_NoPayment => k_is)
    (case xe_NoPayment => k_is)
    (case xt_NoPayment => k_is)
    (case xa_NoCount => k_is)
    (case xx_NoCount => k_exc)
    (case xk_NoCount => k_is)
    (case xe_NoCount => k_is)
    (case xt_NoCount => k_is)
    (case xa_PayError => k_is)
    (case xx_PayError => k_exc)
    (case xk_PayError => k_is)
    (case xe_PayError => k_is)
    (case xt_PayError => k_is)
    (case m_MOST_SIGNS => k_is)
    (case er_NoNote => refine' Lp.errOk_mk ⟨?_, ?_, ?_, ?_, ?_, ?_, ?_, ?_⟩ (by decide) ?_ ?_ ?_ ?_ ?_ ?_ ?_ ?_ ?_ ?_ ?_ ?_ ?_ ?_ ?_ ?_ ?_ ?_ ?_ ?_ ?_ ?_ ?_ ?_ ?_ ?_ ?_ ?_ ?_ ?_ ?_ ?_ ?_ <;> first | k_is | decide)
