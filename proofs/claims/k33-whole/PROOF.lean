import PyProof.Rows.All
import Wide.All
import OpenK.AllK
import Wide.FinOn
import KE.KStateDown
import Lean
import HandS.ForMost
import HandS.More
import HandS.WordsExc
import HandS.Defaults
import HandS.Wide
import HandS.IsInst
import HandS.RaiseMore
import HandS.TupAny
import HandS.Walk
import HandS.DictSub
import HandS.Head0
import HandS.Head1
import HandS.Head2
import HandS.HeadEnd
import HandS.HeadHook1
import HandS.HeadHook2
import PySem.Challenge.RW_pricecover_k33_whole_shown_and_read
set_option Elab.async false
set_option linter.all false
set_option maxRecDepth 100000
set_option maxHeartbeats 4000000
/-! Trees over the heap, comprehensions, short steps of a reading. -/
namespace PC
open PySem PySem.Spec PyProof.Rows L2

/-! ### trees of words -/
inductive Tr where
  | w (k : Key)
  | t (l : List Tr)

mutual
def Holds (H : Hp) : Tr → V → Prop
  | .w k, v => v = kV k
  | .t l, v => ∃ a vs, v = .ref a ∧ H a = some (.tup vs) ∧ HoldsL H l vs
def HoldsL (H : Hp) : List Tr → List V → Prop
  | [], vs => vs = []
  | d :: l, vs => ∃ v us, vs = v :: us ∧ Holds H d v ∧ HoldsL H l us
end

/-- the tuples stand -/
def TupLe (H H' : Hp) : Prop := ∀ a xs, H a = some (.tup xs) → H' a = some (.tup xs)
theorem TupLe.refl (H : Hp) : TupLe H H := fun _ _ h => h
theorem TupLe.trans {H H1 H2 : Hp} (a : TupLe H H1) (b : TupLe H1 H2) : TupLe H H2 := fun c o h => b c o (a c o h)
theorem tup_same {H H' : Hp} (s : Same H H') : TupLe H H' := fun a _ h => s a _ h
/-- all but what stands at a is as it was -/
def But (a : Addr) (H H' : Hp) : Prop := ∀ b o, b ≠ a → H b = some o → H' b = some o
theorem But.refl (a : Addr) (H : Hp) : But a H H := fun _ _ _ h => h
theorem But.trans {a : Addr} {H H1 H2 : Hp} (x : But a H H1) (y : But a H1 H2) : But a H H2 := fun b o n h => y b o n (x b o n h)
theorem but_same {a : Addr} {H H' : Hp} (s : Same H H') : But a H H' := fun b o _ h => s b o h
theorem tup_but {a : Addr} {H H' : Hp} {xs : List V} (h : H a = some (.lst xs)) (s : But a H H') : TupLe H H' := fun b ys e => s b _ (by intro q; rw [q, h] at e; cases e) e
theorem same_new {H H' : Hp} {p : Addr} {o : HO} (s : Same H H') (h : H p = none) : Same H (upd H' p o) := fun b x e => by
  rw [upd_ne (ne_of_none e h)]
  exact s b x e
theorem same_upd {H : Hp} {p : Addr} {o : HO} (h : H p = none) : Same H (upd H p o) := same_new (Same.refl H) h
theorem but_new {H H' : Hp} {a p : Addr} {o : HO} (s : But a H H') (h : H p = none) : But a H (upd H' p o) := fun b x n e => by
  rw [upd_ne (ne_of_none e h)]
  exact s b x n e
theorem but_upd {H H' : Hp} {a : Addr} {o : HO} (s : But a H H') : But a H (upd H' a o) := fun b x n e => by
  rw [upd_ne n]
  exact s b x n e
theorem But.seq {K : PySem.W.Frag} {H H' : Hp} {a b : Addr} {xs : List V} (s : But a H H') (n : b ≠ a) (h : SqL K H b xs) : SqL K H' b xs := by
  rcases h with (h | ⟨o, h⟩) | h
  · exact .inl (.inl (s _ _ n h))
  · exact .inl (.inr ⟨o, s _ _ n h⟩)
  · exact .inr h
theorem But.free {H H' : Hp} {a l : Addr} {o : HO} (e : But a H H') (ha : H' a = some o) (h : H' l = none) : H l = none := by
  cases q : H l with
  | none => rfl
  | some u =>
    by_cases n : l = a
    · rw [n, ha] at h
      cases h
    · rw [e l u n q] at h
      cases h
/-- a list that is tracked changes: the tuples stand -/
theorem tup_lst {H : Hp} {a : Addr} {xs : List V} {o : HO} (h : H a = some (.lst xs)) : TupLe H (upd H a o) := fun b ys e => by
  rw [upd_ne (fun q => by rw [q, h] at e; cases e)]
  exact e
theorem tup_dk {H : Hp} {a : Addr} {kvs : List (Key × V)} {o : HO} (h : H a = some (.dK kvs)) : TupLe H (upd H a o) := fun b ys e => by
  rw [upd_ne (fun q => by rw [q, h] at e; cases e)]
  exact e
theorem tup_new {H : Hp} {p : Addr} {o : HO} (h : H p = none) : TupLe H (upd H p o) := tup_same (same_upd h)

mutual
theorem Holds.mono {H H' : Hp} (s : TupLe H H') : ∀ {d : Tr} {v : V}, Holds H d v → Holds H' d v
  | .w _, _, h => by
    unfold Holds at h ⊢
    exact h
  | .t l, v, h => by
    unfold Holds at h ⊢
    obtain ⟨a, vs, e, h1, h2⟩ := h
    exact ⟨a, vs, e, s _ _ h1, HoldsL.mono s h2⟩
theorem HoldsL.mono {H H' : Hp} (s : TupLe H H') : ∀ {l : List Tr} {vs : List V}, HoldsL H l vs → HoldsL H' l vs
  | [], _, h => by
    unfold HoldsL at h ⊢
    exact h
  | d :: l, vs, h => by
    unfold HoldsL at h ⊢
    obtain ⟨v, us, e, h1, h2⟩ := h
    exact ⟨v, us, e, Holds.mono s h1, HoldsL.mono s h2⟩
end
theorem holds_w {H : Hp} {k : Key} {v : V} : Holds H (.w k) v ↔ v = kV k := by unfold Holds; exact Iff.rfl
theorem holds_t {H : Hp} {l : List Tr} {v : V} : Holds H (.t l) v ↔ ∃ a vs, v = .ref a ∧ H a = some (.tup vs) ∧ HoldsL H l vs := by
  constructor
  · intro h; unfold Holds at h; exact h
  · intro h; unfold Holds; exact h
theorem holdsL_nil {H : Hp} {vs : List V} : HoldsL H [] vs ↔ vs = [] := by unfold HoldsL; exact Iff.rfl
theorem holdsL_cons {H : Hp} {d : Tr} {l : List Tr} {vs : List V} : HoldsL H (d :: l) vs ↔ ∃ v us, vs = v :: us ∧ Holds H d v ∧ HoldsL H l us := by
  constructor
  · intro h; unfold HoldsL at h; exact h
  · intro h; unfold HoldsL; exact h
theorem HoldsL.one {H : Hp} {d : Tr} {l : List Tr} {v : V} {us : List V} (h : Holds H d v) (r : HoldsL H l us) : HoldsL H (d :: l) (v :: us) := holdsL_cons.mpr ⟨v, us, rfl, h, r⟩
theorem HoldsL.nil {H : Hp} : HoldsL H [] [] := holdsL_nil.mpr rfl
theorem Holds.tup {H : Hp} {l : List Tr} {a : Addr} {vs : List V} (h : H a = some (.tup vs)) (r : HoldsL H l vs) : Holds H (.t l) (.ref a) := holds_t.mpr ⟨a, vs, rfl, h, r⟩
theorem Holds.key {H : Hp} (k : Key) : Holds H (.w k) (kV k) := holds_w.mpr rfl
theorem Holds.str {H : Hp} (s : Str) : Holds H (.w (.inr s)) (.str s) := holds_w.mpr rfl
theorem Holds.int {H : Hp} (i : Int) : Holds H (.w (.inl i)) (.int i) := holds_w.mpr rfl
theorem holdsL_iff {H : Hp} : ∀ {l : List Tr} {vs : List V}, HoldsL H l vs ↔ Paired (Holds H) l vs
  | [], vs => by
    rw [holdsL_nil]
    constructor
    · rintro rfl
      exact .nil
    · intro h
      cases h
      rfl
  | d :: l, vs => by
    rw [holdsL_cons]
    constructor
    · rintro ⟨v, us, rfl, h1, h2⟩
      exact .cons h1 (holdsL_iff.mp h2)
    · intro h
      cases h with
      | cons h1 h2 => exact ⟨_, _, rfl, h1, holdsL_iff.mpr h2⟩
theorem holdsL_w {H : Hp} : ∀ {ks : List Key} {vs : List V}, HoldsL H (ks.map .w) vs ↔ vs = ks.map kV
  | [], vs => holdsL_nil
  | k :: ks, vs => by
    show HoldsL H (.w k :: ks.map .w) vs ↔ vs = kV k :: ks.map kV
    rw [holdsL_cons]
    constructor
    · rintro ⟨v, us, rfl, h1, h2⟩
      rw [holds_w.mp h1, holdsL_w.mp h2]
    · rintro rfl
      exact ⟨_, _, rfl, Holds.key k, holdsL_w.mpr rfl⟩
theorem HoldsL.keys {H : Hp} (ks : List Key) : HoldsL H (ks.map .w) (ks.map kV) := holdsL_w.mpr rfl
theorem holds_flat {H : Hp} {ks : List Key} {v : V} : Holds H (.t (ks.map .w)) v ↔ ∃ a, v = .ref a ∧ H a = some (.tup (ks.map kV)) := by
  rw [holds_t]
  constructor
  · rintro ⟨a, vs, e, h1, h2⟩
    rw [holdsL_w.mp h2] at h1
    exact ⟨a, e, h1⟩
  · rintro ⟨a, e, h1⟩
    exact ⟨a, _, e, h1, HoldsL.keys ks⟩
theorem HoldsL.append {H : Hp} : ∀ {l m : List Tr} {us vs : List V}, HoldsL H l us → HoldsL H m vs → HoldsL H (l ++ m) (us ++ vs)
  | [], _, _, _, h, r => by
    rw [holdsL_nil.mp h]
    exact r
  | d :: l, m, us, vs, h, r => by
    obtain ⟨v, ws, rfl, h1, h2⟩ := holdsL_cons.mp h
    exact HoldsL.one h1 (HoldsL.append h2 r)
theorem HoldsL.length {H : Hp} : ∀ {l : List Tr} {vs : List V}, HoldsL H l vs → vs.length = l.length
  | [], _, h => by
    rw [holdsL_nil.mp h]
    all_goals rfl
  | d :: l, vs, h => by
    obtain ⟨v, us, rfl, h1, h2⟩ := holdsL_cons.mp h
    rw [List.length_cons, List.length_cons, HoldsL.length h2]

/-! ### pairs of lists -/
theorem Paired.snoc {α β : Type} {F : α → β → Prop} : ∀ {l : List α} {m : List β} {a : α} {b : β}, Paired F l m → F a b → Paired F (l ++ [a]) (m ++ [b])
  | _, _, _, _, .nil, h => .cons h .nil
  | _, _, _, _, .cons x r, h => .cons x (Paired.snoc r h)
theorem Paired.at2 {α β : Type} {F : α → β → Prop} : ∀ {l : List α} {m : List β} {i : Nat} {b : β}, Paired F l m → m[i]? = some b → ∃ a, l[i]? = some a ∧ F a b
  | _, _, _, _, .nil, e => by simp at e
  | _, _, 0, _, .cons x _, e => by
    simp at e
    subst e
    exact ⟨_, rfl, x⟩
  | _, _, i + 1, b, .cons _ r, e => by
    obtain ⟨a, h1, h2⟩ := Paired.at2 (i := i) (b := b) r (by simpa using e)
    exact ⟨a, by simpa using h1, h2⟩
theorem take_snoc {α : Type} : ∀ {l : List α} {i : Nat} {x : α}, l[i]? = some x → l.take (i + 1) = l.take i ++ [x]
  | [], i, x, h => by simp at h
  | a :: l, 0, x, h => by
    have e : a = x := Option.some.inj h
    subst e
    rfl
  | a :: l, i + 1, x, h => by
    have ih := take_snoc (l := l) (i := i) (x := x) h
    show a :: l.take (i + 1) = a :: l.take i ++ [x]
    rw [ih]
    rfl

/-! ### comprehensions -/
section
variable {J : It} {G : Hp → Prop} {g : TG} {tt : TT} {te : TE} {vs : List Nat} {σ : L2.St} {H1 : Hp} {D : Addr} {Qd : Hp → Prop} {α β : Type}
/-- a comprehension that makes nothing but new objects: a turn is read for any wishes N1 (an item more), N2 (none) -/
theorem lc_pure {n : Nat} {Y : Nat → Hp → V → Hp → Prop} {ds : List α} {Src : Hp → α → V → Prop} {Out : Hp → β → V → Prop} (w : Walk J n G Y) (p : α → Bool) (f : α → β) (hD : H1 D = none) (hn : ds.length = n) (hz : n ≤ 100000)
    (hG : ∀ H, Same H1 H → G H) (hY : ∀ i H x H', i < n → Same H1 H → Y i H x H' → H' = H ∧ ∃ a, ds[i]? = some a ∧ Src H a x) (mO : ∀ H H' b v, TupLe H H' → Out H b v → Out H' b v)
    (turn : ∀ a x H (N1 : V → Hp → Prop) (N2 : Hp → Prop), a ∈ ds → Same H1 H → Src H a x → (p a = true → ∀ y H', Same H H' → Out H' (f a) y → N1 y H') → (p a = false → ∀ H', Same H H' → N2 H') →
      g x (wipe σ vs) H fun σ2 H2 => wipe σ2 vs = wipe σ vs ∧ tt σ2 H2 fun b H3 => if b = true then te σ2 H3 N1 else N2 H3)
    (done : ∀ H ys, Same H1 H → H D = some (.lst ys) → Paired (Out H) ((ds.filter p).map f) ys → Qd H) :
    ∃ W : Nat → Nat → Hp → Prop, (∃ m, W 0 m (upd H1 D (.lst []))) ∧ ∀ i m H, W i m H →
      (J.stop i H ∧ Qd H) ∨ (J.go i H ∧ ∃ Nx : Hp → Prop, (∀ H', Nx H' → ∃ m', m' < m ∧ W (i + 1) m' H') ∧ ∀ x H', J.yld i H x H' → g x (wipe σ vs) H' fun σ2 H2 => wipe σ2 vs = wipe σ vs ∧ tt σ2 H2 fun b H3 =>
        if b = true then te σ2 H3 fun y H4 => ∃ acc, H4 D = some (.lst acc) ∧ acc.length < sizeLine ∧ Nx (upd H4 D (.lst (acc ++ [y]))) else Nx H3) := by
  refine lc_it w (fun i H => Same H1 H ∧ ∃ ys, H D = some (.lst ys) ∧ ys.length ≤ i ∧ Paired (Out H) (((ds.take i).filter p).map f) ys) ?_ (fun i H _ q => hG H q.1) ?_ ?_
  · exact ⟨same_upd hD, [], upd_same, Nat.le_refl _, .nil⟩
  · rintro i x H H' hi ⟨s, ys, hy, hl, hp⟩ y0
    obtain ⟨rfl, a, ha, hs⟩ := hY i H x H' hi s y0
    refine turn a x H' _ _ (List.mem_of_getElem? ha) s hs (fun pa y H4 s4 ho => ?_) (fun pa H4 s4 => ?_)
    · have hy4 : H4 D = some (.lst ys) := s4 _ _ hy
      refine ⟨ys, hy4, ?_, ?_, ys ++ [y], upd_same, ?_, ?_⟩
      · have e : (100000 : Nat) < sizeLine := by decide
        omega
      · exact same_new (s.trans s4) hD
      · rw [List.length_append, List.length_singleton]
        omega
      · rw [take_snoc ha, List.filter_append, List.map_append, List.filter_cons, if_pos pa]
        exact Paired.snoc (Paired.mapP hp fun b v q => mO _ _ b v ((tup_same s4).trans (tup_lst hy4)) q) (mO _ _ _ _ (tup_lst hy4) ho)
    · refine ⟨s.trans s4, ys, s4 _ _ hy, by omega, ?_⟩
      rw [take_snoc ha, List.filter_append, List.map_append, List.filter_cons, if_neg (by rw [pa]; decide)]
      show Paired (Out H4) (((ds.take i).filter p).map f ++ []) ys
      rw [List.append_nil]
      exact Paired.mapP hp fun b v q => mO _ _ b v (tup_same s4) q
  · rintro H ⟨s, ys, hy, hl, hp⟩
    refine done H ys s hy ?_
    have e : ds.take n = ds := by
      rw [← hn]
      exact List.take_length
    rw [e] at hp
    exact hp
/-- what a standing list or tuple gives: its items -/
theorem gives_at {xs : List V} {ds : List α} {Src : Hp → α → V → Prop} (hx : Paired (Src H1) ds xs) (mS : ∀ H a v, Same H1 H → Src H1 a v → Src H a v) :
    ∀ i H x H', i < xs.length → Same H1 H → YAt xs i H x H' → H' = H ∧ ∃ a, ds[i]? = some a ∧ Src H a x := by
  rintro i H x H' _ s ⟨rfl, hxi⟩
  exact ⟨rfl, Paired.at2 (Paired.mapP hx fun a v => mS _ a v s) hxi⟩
/-- what a text gives: its signs -/
def SrcC : Hp → Nat → V → Prop := fun _ c v => v = .str ⟨#[c]⟩
theorem gives_str {z : Str} : ∀ i H x H', i < z.cps.size → Same H1 H → (fun i H v H' => H' = H ∧ ∃ c, z.cps[i]? = some c ∧ v = V.str ⟨#[c]⟩) i H x H' → H' = H ∧ ∃ a, z.cps.toList[i]? = some a ∧ SrcC H a x := by
  rintro i H x H' _ _ ⟨rfl, c, hc, rfl⟩
  exact ⟨rfl, c, by rw [Array.getElem?_toList]; exact hc, rfl⟩
/-- what a range from 0 gives -/
def SrcN : Hp → Nat → V → Prop := fun _ k v => v = .int (k : Int)
theorem gives_range {n : Nat} : ∀ i H x H', i < n → Same H1 H → YFn (fun i => V.int (0 + (i : Int))) i H x H' → H' = H ∧ ∃ a, (List.range n)[i]? = some a ∧ SrcN H a x := by
  rintro i H x H' hi _ ⟨rfl, rfl⟩
  exact ⟨rfl, i, by rw [List.getElem?_range hi], congrArg V.int (Int.zero_add _)⟩
end
/-- made values that are told by a function -/
def OutB : Hp → Bool → V → Prop := fun _ b v => v = .bl b
def OutS : Hp → Str → V → Prop := fun _ z v => v = .str z
def OutI : Hp → Int → V → Prop := fun _ z v => v = .int z
theorem paired_fn {β : Type} {F : β → V} {Out : Hp → β → V → Prop} {H : Hp} (h : ∀ b v, Out H b v → v = F b) : ∀ {bs : List β} {ys : List V}, Paired (Out H) bs ys → ys = bs.map F
  | _, _, .nil => rfl
  | _, _, .cons x r => by
    rw [h _ _ x, paired_fn h r]
    rfl

/-! ### what the text's defs lean on -/
/-- a def as its callers take it -/
def Callee (P : Program) (w : World) (K : PySem.W.Frag) (mg : Str → Option Value) (base : Heap) (x : Str) (k : Nat) (ps : List Str) (sp : Sp) : Prop :=
  ∃ (f : Addr) (fd : FuncData), FnOk P w K mg base CX0 k f fd ps sp ∧ mg x = some (.ref f) ∧ PySem.W.keepIn K (.ref f) = true ∧ Binds K fd ps []
theorem pe_cc {X : Cx} {x : Str} {k : Nat} {ps : List Str} {sp : Sp} {p pos : Pos} {e : Expr} {es : List Expr} {t : TA} (C : Callee X.prog X.w X.K X.mg X.base x k ps sp) (hr : Room k X.A) (ha : PA X (e :: es) t) (hg : Gl X x := by rfl)
    (hdb : (x == ("__debug__" : Str)) = false := by decide) (he : starEach (e :: es) X.env = (false, eval e X.env) :: starEach es X.env := by rfl) (hpl : (backTo pos (starEach es X.env)).any (·.1) = false := by rfl) :
    PE X (.Call (.Name x p) (e :: es) [] pos) (tCall sp [] E0 t) := by
  obtain ⟨f, fd, F, g, kp, b⟩ := C
  exact pe_call F hr hg g kp b .nil pass0 ha hdb he hpl

def keptW : List Str := ["add", "sub", "mul", "neg", "any", "var", "put", "load", "out"]
def pairsW : List Str := ["add", "sub", "mul"]
def boxesW : List Str := ["out", "t1", "t2", "t3"]
def lettersS : Str := "abcdefghijklmnopqrstuvwxyz"
def figuresS : Str := "123456789"
structure Txt (K : PySem.W.Frag) (mg : Str → Option Value) : Prop where
  len_ : mg "len" = none
  all_ : mg "all" = none
  int_ : mg "int" = none
  tuple_ : mg "tuple" = none
  enumerate_ : mg "enumerate" = none
  str_ : mg "str" = none
  range_ : mg "range" = none
  sum_ : mg "sum" = none
  list_ : mg "list" = none
  isinstance_ : mg "isinstance" = none
  bool_ : mg "bool" = none
  letters : ∃ t, mg "LETTERS" = some (.str lettersS t)
  figures : ∃ t, mg "FIGURES" = some (.str figuresS t)
  dearest : ∃ t, mg "DEAREST" = some (.int 999999 t)
  most : ∃ t, mg "MOST_WORDS" = some (.int 12 t)
  kept : mg "KEPT" = some (.ref (He.ga K "KEPT"))
  pairs : mg "PAIRS" = some (.ref (He.ga K "PAIRS"))
  boxes : mg "BOXES" = some (.ref (He.ga K "BOXES"))
  keptT : ∀ H : Hp, SqT K H (He.ga K "KEPT") (keptW.map V.str)
  pairsT : ∀ H : Hp, SqT K H (He.ga K "PAIRS") (pairsW.map V.str)
  boxesT : ∀ H : Hp, SqT K H (He.ga K "BOXES") (boxesW.map V.str)
section
variable {X : Cx} {pos : Pos}
theorem Txt.p_LETTERS (T : Txt X.K X.mg) (hg : Gl X "LETTERS" := by rfl) : PE X (.Name "LETTERS" pos) (tC (.str lettersS)) := by
  obtain ⟨t, e⟩ := T.letters
  exact pe_glob hg e ⟨t, rfl⟩
theorem Txt.p_FIGURES (T : Txt X.K X.mg) (hg : Gl X "FIGURES" := by rfl) : PE X (.Name "FIGURES" pos) (tC (.str figuresS)) := by
  obtain ⟨t, e⟩ := T.figures
  exact pe_glob hg e ⟨t, rfl⟩
theorem Txt.p_DEAREST (T : Txt X.K X.mg) (hg : Gl X "DEAREST" := by rfl) : PE X (.Name "DEAREST" pos) (tC (.int 999999)) := by
  obtain ⟨t, e⟩ := T.dearest
  exact pe_glob hg e ⟨t, rfl⟩
theorem Txt.p_MOST_WORDS (T : Txt X.K X.mg) (hg : Gl X "MOST_WORDS" := by rfl) : PE X (.Name "MOST_WORDS" pos) (tC (.int 12)) := by
  obtain ⟨t, e⟩ := T.most
  exact pe_glob hg e ⟨t, rfl⟩
theorem Txt.p_KEPT (T : Txt X.K X.mg) (hg : Gl X "KEPT" := by rfl) : PE X (.Name "KEPT" pos) (tC (.ref (He.ga X.K "KEPT"))) := pe_glob hg T.kept rfl
theorem Txt.p_PAIRS (T : Txt X.K X.mg) (hg : Gl X "PAIRS" := by rfl) : PE X (.Name "PAIRS" pos) (tC (.ref (He.ga X.K "PAIRS"))) := pe_glob hg T.pairs rfl
theorem Txt.p_BOXES (T : Txt X.K X.mg) (hg : Gl X "BOXES" := by rfl) : PE X (.Name "BOXES" pos) (tC (.ref (He.ga X.K "BOXES"))) := pe_glob hg T.boxes rfl
end

/-! ### words as texts -/
def txt : Key → Str
  | .inl i => Str.ofString (toString i)
  | .inr s => s
/-- str(word), a whole number or a text -/
theorem call_str_w {X : Cx} : CallR X (.type "str") (fun xs H Q => ∃ k : Key, xs = [kV k] ∧ (∀ i, k = .inl i → i.natAbs.log2 < 1920) ∧ Q (.str (txt k)) H) := by
  intro pins s σ H xs us Q I r h
  obtain ⟨k, rfl, hk, q⟩ := h
  cases k with
  | inl i => exact call_str_int pins s σ H _ us Q I r ⟨i, rfl, hk i rfl, q⟩
  | inr z => exact SkE.call_str_str pins s σ H _ us Q I r ⟨z, rfl, q⟩
/-! Short steps of a reading. -/
section
variable {K : PySem.W.Frag} {σ : L2.St} {H : Hp} {Q : VK} {D : Ends} {t u : TS} {te ta tb : TE} {tr : TA} {tA tB' : TT} {v x y : V} {i : Nat} {QT : Bool → Hp → Prop}
theorem i_seq (q : t { nx := u D, rt := D.rt, bk := D.bk, ct := D.ct } σ H) : tSeq t u D σ H := q
theorem i_asg (q : te σ H fun x H1 => D.nx (σ.set i (some x)) H1) : tAsg te (gName i) D σ H := q
theorem i_asgG {g : TG} (q : te σ H fun x H1 => g x σ H1 D.nx) : tAsg te g D σ H := q
theorem i_ret (q : te σ H D.rt) : tRet te D σ H := q
theorem i_drop (q : te σ H fun _ H1 => D.nx σ H1) : tDrop te D σ H := q
theorem i_if {c : TT} (q : c σ H fun b H1 => if b = true then t D σ H1 else u D σ H1) : tIfS c t u D σ H := q
theorem i_next (q : D.nx σ H) : tNext D σ H := q
theorem i_var (h : σ[i]? = some (some v)) (q : Q v H) : tVar i σ H Q := ⟨v, h, q⟩
theorem i_c (q : Q v H) : tC v σ H Q := q
theorem i_op {r : R2} (q : ta σ H fun x H1 => tb σ H1 fun y H2 => r x y H2 Q) : tOp r ta tb σ H Q := q
theorem i_un {r : V → Hp → VK → Prop} (q : ta σ H fun x H1 => r x H1 Q) : tUn r ta σ H Q := q
theorem i_int0 {g : Int → Int → V} {a b : Int} (q : Q (g a b) H) : rI0 g (.int a) (.int b) H Q := ⟨a, b, rfl, rfl, q⟩
theorem i_int {C : Int → Int → Prop} {g : Int → Int → V} {a b : Int} (c : C a b) (q : Q (g a b) H) : rI C g (.int a) (.int b) H Q := ⟨a, b, rfl, rfl, c, q⟩
theorem i_eq (h : scal x y = true) (q : Q (.bl (decide (x = y))) H) : rEq x y H Q := ⟨h, q⟩
theorem i_ne (h : scal x y = true) (q : Q (.bl (!decide (x = y))) H) : rNe x y H Q := ⟨h, q⟩
theorem i_test (q : te σ H fun x H' => ∃ k, x = .bl k ∧ QT k H') : tTest te σ H QT := q
theorem i_tB (q : te σ H fun x H' => ∃ k, x = .bl k ∧ QT k H') : tB te σ H QT := q
theorem i_not (q : tA σ H fun c H1 => QT (!c) H1) : tNot tA σ H QT := q
theorem i_and (q : tA σ H fun c H1 => if c = true then tB' σ H1 QT else QT false H1) : tAnd tA tB' σ H QT := q
theorem i_or (q : tA σ H fun c H1 => if c = true then QT true H1 else tB' σ H1 QT) : tOr tA tB' σ H QT := q
theorem i_andV (q : ta σ H fun x H1 => ∃ c, x = .bl c ∧ if c = true then tb σ H1 Q else Q (.bl false) H1) : tAndV ta tb σ H Q := q
theorem i_orV (q : ta σ H fun x H1 => ∃ c, x = .bl c ∧ if c = true then Q (.bl true) H1 else tb σ H1 Q) : tOrV ta tb σ H Q := q
theorem i_notV (q : ta σ H fun x H1 => ∃ c, x = .bl c ∧ Q (.bl (!c)) H1) : tNotV ta σ H Q := q
theorem i_bk {R : Bool → Prop} {b : Bool} (q : R b) : ∃ k, V.bl b = .bl k ∧ R k := ⟨b, rfl, q⟩
theorem i_ik {R : Int → Prop} {b : Int} (q : R b) : ∃ k, V.int b = .int k ∧ R k := ⟨b, rfl, q⟩
theorem i_cons {QA : List V → Hp → Prop} (q : ta σ H fun x H1 => tr σ H1 fun xs H2 => QA (x :: xs) H2) : tCons ta tr σ H QA := q
theorem i_nil {QA : List V → Hp → Prop} (q : QA [] H) : tNil σ H QA := q
theorem i_CB {r : List V → Hp → VK → Prop} (q : tr σ H fun vs H1 => r vs H1 Q) : tCB r tr σ H Q := q
theorem i_call {sp : Sp} {E : XK} (q : tr σ H fun vs H1 => sp (vs ++ []) H1 Q E) : tCall sp [] E tr σ H Q := q
theorem i_tup (q : tr σ H fun xs H1 => xs.length ≤ sizeLine ∧ ∀ p, H1 p = none → Q (.ref p) (upd H1 p (.tup xs))) : tTup tr σ H Q := q
theorem i_lst (q : tr σ H fun xs H1 => xs.length ≤ sizeLine ∧ ∀ p, H1 p = none → Q (.ref p) (upd H1 p (.lst xs))) : tLst tr σ H Q := q
theorem i_sl {r : V → Option Int → Option Int → Hp → VK → Prop} {tl th : TO} (q : te σ H fun x H1 => tl σ H1 fun l H2 => th σ H2 fun u H3 => r x l u H3 Q) : tSl r te tl th σ H Q := q
theorem i_np {QO : Option Int → Hp → Prop} (q : QO none H) : tNoPart σ H QO := q
theorem i_part {QO : Option Int → Hp → Prop} (q : te σ H fun x H1 => ∃ i, x = .int i ∧ QO (some i) H1) : tPart te σ H QO := q
theorem i_ixL {p : Addr} {xs : List V} {j : Int} (h : SqL K H p xs) (e : atI xs j = some v) (q : Q v H) : rIxL K (.ref p) (.int j) H Q := ⟨p, xs, j, v, rfl, rfl, h, e, q⟩
theorem i_ixT {p : Addr} {xs : List V} {j : Int} (h : SqT K H p xs) (e : atI xs j = some v) (q : Q v H) : rIxT K (.ref p) (.int j) H Q := ⟨p, xs, j, v, rfl, rfl, h, e, q⟩
theorem i_ixS {z : Str} {j : Int} {c : Nat} (h : z.length ≤ sizeLine) (e : atI z.cps.toList j = some c) (q : Q (.str ⟨#[c]⟩) H) : rIxS (.str z) (.int j) H Q := ⟨z, j, c, rfl, rfl, h, e, q⟩
theorem i_slL {p : Addr} {xs : List V} {lo hi : Option Int} (h : SqL K H p xs) (q : ∀ p, H p = none → Q (.ref p) (upd H p (.lst (cutV xs lo hi)))) : rSlL K (.ref p) lo hi H Q := ⟨p, xs, rfl, h, q⟩
theorem i_slS {z : Str} {lo hi : Option Int} (h : z.length ≤ sizeLine) (q : Q (.str (cutS z lo hi)) H) : rSlS (.str z) lo hi H Q := ⟨z, rfl, h, q⟩
theorem i_inT {neg : Bool} {p : Addr} {xs : List V} (h : SqT K H p xs) (hx : flatV x = true) (hs : xs.all flatV = true) (q : Q (.bl (if neg then !inV x xs else inV x xs)) H) : rIn K neg x (.ref p) H Q := ⟨p, xs, rfl, .inr h, hx, hs, q⟩
theorem i_inL {neg : Bool} {p : Addr} {xs : List V} (h : SqL K H p xs) (hx : flatV x = true) (hs : xs.all flatV = true) (q : Q (.bl (if neg then !inV x xs else inV x xs)) H) : rIn K neg x (.ref p) H Q := ⟨p, xs, rfl, .inl h, hx, hs, q⟩
theorem i_isT {p : Addr} {xs : List V} (h : SqT K H p xs) (hx : flatV x = true) (hs : xs.all flatV = true) (q : Q (.bl (inV x xs)) H) : rIn K false x (.ref p) H Q := ⟨p, xs, rfl, .inr h, hx, hs, q⟩
theorem i_niT {p : Addr} {xs : List V} (h : SqT K H p xs) (hx : flatV x = true) (hs : xs.all flatV = true) (q : Q (.bl (!inV x xs)) H) : rIn K true x (.ref p) H Q := ⟨p, xs, rfl, .inr h, hx, hs, q⟩
theorem i_niL {p : Addr} {xs : List V} (h : SqL K H p xs) (hx : flatV x = true) (hs : xs.all flatV = true) (q : Q (.bl (!inV x xs)) H) : rIn K true x (.ref p) H Q := ⟨p, xs, rfl, .inl h, hx, hs, q⟩
theorem i_sk {R : Str → Prop} {b : Str} (q : R b) : ∃ k, V.str b = .str k ∧ R k := ⟨b, rfl, q⟩
theorem i_gName {R : L2.St → Hp → Prop} (q : R (σ.set i (some v)) H) : gName i v σ H R := q
theorem i_yes (q : QT true H) : tYes σ H QT := q
theorem i_lc {wi : TI} {g : TG} {tt : TT} {vs : List Nat} (h : wi σ H fun J H1 => ∀ Dl, H1 Dl = none → ∃ W : Nat → Nat → Hp → Prop, (∃ m, W 0 m (upd H1 Dl (.lst []))) ∧ ∀ i m H, W i m H →
    (J.stop i H ∧ Q (.ref Dl) H) ∨ (J.go i H ∧ ∃ Nx : Hp → Prop, (∀ H', Nx H' → ∃ m', m' < m ∧ W (i + 1) m' H') ∧ ∀ x H', J.yld i H x H' → g x (wipe σ vs) H' fun σ2 H2 => wipe σ2 vs = wipe σ vs ∧ tt σ2 H2 fun b H3 =>
      if b = true then te σ2 H3 fun y H4 => ∃ acc, H4 Dl = some (.lst acc) ∧ acc.length < sizeLine ∧ Nx (upd H4 Dl (.lst (acc ++ [y]))) else Nx H3)) : tLc wi g tt te vs σ H Q := h
theorem i_iStr {R : It → Hp → Prop} (q : te σ H fun v H1 => ∃ x, v = .str x ∧ R (Its x) H1) : iStr te σ H R := q
theorem i_iList {R : It → Hp → Prop} (q : te σ H fun x H1 => ∃ a, x = .ref a ∧ (∃ xs, SqL K H1 a xs) ∧ R (Itl K a) H1) : iList K te σ H R := q
theorem i_iTup {R : It → Hp → Prop} (q : te σ H fun x H1 => ∃ a, x = .ref a ∧ (∃ xs, SqT K H1 a xs) ∧ R (Itt K a) H1) : iTup K te σ H R := q
theorem ifB {b : Bool} {A B : Prop} (h1 : b = true → A) (h0 : b = false → B) : if b = true then A else B := by
  cases b with
  | true => rw [if_pos rfl]; exact h1 rfl
  | false => rw [if_neg Bool.false_ne_true]; exact h0 rfl
theorem ifNT {A B : Prop} (h : B) : if (!true) = true then A else B := by
  rw [if_neg (by decide)]
  exact h
theorem ifNF {A B : Prop} (h : A) : if (!false) = true then A else B := by
  rw [if_pos (by rfl)]
  exact h
theorem ifY {b : Bool} {A B : Prop} (h : b = true) (h1 : A) : if b = true then A else B := by
  rw [if_pos h]
  exact h1
theorem ifN {b : Bool} {A B : Prop} (h : b = false) (h0 : B) : if b = true then A else B := by
  rw [if_neg (by rw [h]; decide)]
  exact h0
end
/-! ### the built-ins' readings by names -/
section
variable {X : Cx} {K : PySem.W.Frag} {H : Hp} {Q : VK}
def qLen (K : PySem.W.Frag) : List V → Hp → VK → Prop := fun xs H Q => ∃ p ys, xs = [.ref p] ∧ (SqL K H p ys ∨ SqT K H p ys) ∧ Q (.int ys.length) H
theorem cq_len : CallR X (.builtin "len") (qLen X.K) := call_len_seq
theorem i_lenL {p : Addr} {ys : List V} (h : SqL K H p ys) (q : Q (.int ys.length) H) : qLen K [.ref p] H Q := ⟨p, ys, rfl, .inl h, q⟩
theorem i_lenT {p : Addr} {ys : List V} (h : SqT K H p ys) (q : Q (.int ys.length) H) : qLen K [.ref p] H Q := ⟨p, ys, rfl, .inr h, q⟩
def qLenS : List V → Hp → VK → Prop := fun xs H Q => ∃ z, xs = [.str z] ∧ z.length ≤ sizeLine ∧ Q (.int z.length) H
theorem cq_lenS : CallR X (.builtin "len") qLenS := call_len_str
theorem i_lenS {z : Str} (h : z.length ≤ sizeLine) (q : Q (.int z.length) H) : qLenS [.str z] H Q := ⟨z, rfl, h, q⟩
def qInt : List V → Hp → VK → Prop := fun xs H Q => ∃ a n, xs = [.str a] ∧ PySem.intText? a = some n ∧ a.length ≤ 640 ∧ Q (.int n) H
theorem cq_int : CallR X (.type "int") qInt := call_int_str
theorem i_intS {a : Str} {n : Int} (h : PySem.intText? a = some n) (hl : a.length ≤ 640) (q : Q (.int n) H) : qInt [.str a] H Q := ⟨a, n, rfl, h, hl, q⟩
def qStr : List V → Hp → VK → Prop := fun xs H Q => ∃ k : Key, xs = [kV k] ∧ (∀ i, k = .inl i → i.natAbs.log2 < 1920) ∧ Q (.str (txt k)) H
theorem cq_str : CallR X (.type "str") qStr := call_str_w
theorem i_strS {z : Str} (q : Q (.str z) H) : qStr [.str z] H Q := ⟨.inr z, rfl, (fun i e => nomatch e), q⟩
theorem i_strI {n : Int} (h : n.natAbs.log2 < 1920) (q : Q (.str (txt (.inl n))) H) : qStr [.int n] H Q := ⟨.inl n, rfl, (fun i e => Sum.inl.inj e ▸ h), q⟩
theorem i_strK {k : Key} (h : ∀ i, k = .inl i → i.natAbs.log2 < 1920) (q : Q (.str (txt k)) H) : qStr [kV k] H Q := ⟨k, rfl, h, q⟩
def qTup (K : PySem.W.Frag) : List V → Hp → VK → Prop := fun xs H Q => ∃ p ys, xs = [.ref p] ∧ ((SqL K H p ys ∧ ∀ l, H l = none → Q (.ref l) (upd H l (.tup ys))) ∨ (SqT K H p ys ∧ Q (.ref p) H))
theorem cq_tup : CallR X (.type "tuple") (qTup X.K) := call_tuple_of
theorem i_tupL {p : Addr} {ys : List V} (h : SqL K H p ys) (q : ∀ l, H l = none → Q (.ref l) (upd H l (.tup ys))) : qTup K [.ref p] H Q := ⟨p, ys, rfl, .inl ⟨h, q⟩⟩
def qLst (K : PySem.W.Frag) : List V → Hp → VK → Prop := fun xs H Q => ∃ p ys, xs = [.ref p] ∧ (SqL K H p ys ∨ SqT K H p ys) ∧ ∀ l, H l = none → Q (.ref l) (upd H l (.lst ys))
theorem cq_list : CallR X (.type "list") (qLst X.K) := call_list_of
theorem i_lstT {p : Addr} {ys : List V} (h : SqT K H p ys) (q : ∀ l, H l = none → Q (.ref l) (upd H l (.lst ys))) : qLst K [.ref p] H Q := ⟨p, ys, rfl, .inr h, q⟩
def qInC : R2 := fun x y H Q => ∃ (c : Nat) (z : Str), x = .str ⟨#[c]⟩ ∧ y = .str z ∧ Q (.bl (decide (c ∈ z.cps.toList))) H
theorem oq_in : OpR X (compareOp .In) qInC := op_in_sign
theorem i_inC {c : Nat} {z : Str} (q : Q (.bl (decide (c ∈ z.cps.toList))) H) : qInC (.str ⟨#[c]⟩) (.str z) H Q := ⟨c, z, rfl, rfl, q⟩
theorem i_all {a : Addr} {bs : List Bool} (h : SqL K H a (bs.map V.bl)) (q : Q (.bl (bs.all id)) H) : rAll K [.ref a] H Q := ⟨a, bs, rfl, h, q⟩
def qNon : R2 := fun x y H Q => y = .non ∧ Q (.bl (decide (x = .non))) H
theorem oq_non : OpR X (compareOp .Is) qNon := op_isN
theorem i_non {x : V} (q : Q (.bl (decide (x = .non))) H) : qNon x .non H Q := ⟨rfl, q⟩
def qNotN : R2 := fun x y H Q => y = .non ∧ Q (.bl (!decide (x = .non))) H
theorem oq_notN : OpR X (compareOp .IsNot) qNotN := op_notN
theorem i_notN {x : V} (q : Q (.bl (!decide (x = .non))) H) : qNotN x .non H Q := ⟨rfl, q⟩
def qCat : R2 := fun x y H Q => ∃ i j, x = .str i ∧ y = .str j ∧ i.length + j.length ≤ sizeLine ∧ Q (.str (i ++ j)) H
theorem oq_cat : OpR X (binaryOp .Add) qCat := op_add_str
theorem i_cat {i j : Str} (h : i.length + j.length ≤ sizeLine) (q : Q (.str (i ++ j)) H) : qCat (.str i) (.str j) H Q := ⟨i, j, rfl, rfl, h, q⟩
end
section
variable {X : Cx} {K : PySem.W.Frag} {H : Hp} {Q : VK} {σ : L2.St} {R : L2.St → Hp → Prop}
def qJoin (K : PySem.W.Frag) : V → List V → Hp → VK → Prop := fun x xs H Q => ∃ a p, ∃ ys : List Str, x = .str a ∧ xs = [.ref p] ∧ (SqL K H p (ys.map V.str) ∨ SqT K H p (ys.map V.str)) ∧ (ys.map (·.length)).sum + ys.length * a.length ≤ 16777216 ∧ Q (.str (Txt.join a ys)) H
theorem peq_join {o e : Expr} {to te : TE} {apos pos : Pos} (ho : PE X o to) (he : PE X e te) (hs : starEach [e] X.env = [(false, eval e X.env)] := by rfl) (hbase : attributeBase o "join" X.env (eval o X.env) = eval o X.env := by rfl) (hline : (apos.endLine == pos.line) = true := by rfl) :
    PE X (.Call (.Attribute o "join" apos) [e] [] pos) (tM1 (qJoin X.K) to te) := pe_join ho he hs hbase hline
theorem i_join {a : Str} {p : Addr} {ys : List Str} (h : SqL K H p (ys.map V.str)) (hz : (ys.map (·.length)).sum + ys.length * a.length ≤ 16777216) (q : Q (.str (Txt.join a ys)) H) : qJoin K (.str a) [.ref p] H Q := ⟨a, p, ys, rfl, rfl, .inl h, hz, q⟩
def qSplit : V → List V → Hp → VK → Prop := fun x xs H Q => ∃ a b, x = .str a ∧ xs = [.str b] ∧ (b.length == 0) = false ∧ a.length + 2 ≤ sizeLine ∧ rNewStrs (Txt.split a b) H Q
theorem peq_split {o e : Expr} {to te : TE} {apos pos : Pos} (ho : PE X o to) (he : PE X e te) (hs : starEach [e] X.env = [(false, eval e X.env)] := by rfl) (hbase : attributeBase o "split" X.env (eval o X.env) = eval o X.env := by rfl) (hline : (apos.endLine == pos.line) = true := by rfl) :
    PE X (.Call (.Attribute o "split" apos) [e] [] pos) (tM1 qSplit to te) := pe_split ho he hs hbase hline
theorem i_split {a b : Str} (hb : (b.length == 0) = false) (hz : a.length + 2 ≤ sizeLine) (q : ∀ p, H p = none → Q (.ref p) (upd H p (.lst ((Txt.split a b).map V.str)))) : qSplit (.str a) [.str b] H Q := ⟨a, b, rfl, rfl, hb, hz, q⟩
theorem i_m1 {r : V → List V → Hp → VK → Prop} {to te : TE} (q : to σ H fun x H1 => (∃ a, x = .str a) ∧ te σ H1 fun y H2 => r x [y] H2 Q) : tM1 r to te σ H Q := q
theorem i_isS {s : Str} {A : Prop} (q : A) : (∃ a, V.str s = .str a) ∧ A := ⟨⟨s, rfl⟩, q⟩
theorem i_bm {T : String} {r : V → List V → Hp → VK → Prop} {to : TE} {t : TA} (q : to σ H fun x H1 => tyV K T x H1 ∧ t σ H1 fun xs H2 => r x xs H2 Q) : tBM K T r to t σ H Q := q
theorem i_ty {l : Addr} {xs : List V} {A : Prop} (h : H l = some (.lst xs)) (q : A) : tyV K "list" (.ref l) H ∧ A := ⟨.inl ⟨rfl, _, SqL.of h⟩, q⟩
theorem i_append {l : Addr} {xs : List V} {y : V} (h : H l = some (.lst xs)) (hz : xs.length < sizeLine) (q : Q .non (upd H l (.lst (xs ++ [y])))) : rAppend (.ref l) [y] H Q := ⟨l, xs, y, rfl, rfl, h, hz, q⟩
theorem i_catL {l b : Addr} {xs ys : List V} (h1 : H l = some (.lst xs)) (h2 : H b = some (.lst ys)) (hz : xs.length + ys.length ≤ sizeLine) (q : ∀ p, H p = none → Q (.ref p) (upd H p (.lst (xs ++ ys)))) : rCat (.ref l) (.ref b) H Q := ⟨l, b, xs, ys, rfl, rfl, h1, h2, hz, q⟩
theorem i_for {wi : TI} {g : TG} {tb : TS} {D : Ends} (q : wi σ H fun J H1 => ∃ W : Nat → Nat → L2.St → Hp → Prop, (∃ m, W 0 m σ H1) ∧ ∀ i m σ H, W i m σ H →
    (J.stop i H ∧ D.nx σ H) ∨ (J.go i H ∧ ∃ N : L2.St → Hp → Prop, (∀ σ' H', N σ' H' → ∃ m', m' < m ∧ W (i + 1) m' σ' H') ∧ ∀ x H', J.yld i H x H' → g x σ H' fun σ2 H2 => tb { D with nx := N, ct := N, bk := D.nx } σ2 H2)) : tFor wi g tb D σ H := q
theorem i_iEnum {ta : TA} {RI : It → Hp → Prop} (q : ta σ H fun vs H1 => ∃ a xs, vs = [.ref a] ∧ SqL K H1 a xs ∧ RI (Ite K a) H1) : iEnum K ta σ H RI := q
theorem i_g2 {i j : Nat} {T : Addr} {x y : V} (h : SqT K H T [x, y]) (q : R ((σ.set i (some x)).set j (some y)) H) : gTup K 2 (gCons (gName i) (gCons (gName j) gNil)) (.ref T) σ H R := ⟨T, _, rfl, h, rfl, _, _, rfl, _, _, rfl, rfl, q⟩
theorem i_g5 {i j k l m : Nat} {T : Addr} {x y z u v : V} (h : SqT K H T [x, y, z, u, v]) (q : R (((((σ.set i (some x)).set j (some y)).set k (some z)).set l (some u)).set m (some v)) H) :
    gTup K 5 (gCons (gName i) (gCons (gName j) (gCons (gName k) (gCons (gName l) (gCons (gName m) gNil))))) (.ref T) σ H R := ⟨T, _, rfl, h, rfl, _, _, rfl, _, _, rfl, _, _, rfl, _, _, rfl, _, _, rfl, rfl, q⟩
end
section
variable {K : PySem.W.Frag} {H : Hp} {Q : VK} {σ : L2.St} {td ty tx tv : TE} {D : Ends} {d : Addr} {kvs : List (Key × V)} {k : Key} {v : V}
theorem i_dnew (q : ∀ d, H d = none → Q (.ref d) (upd H d (.dK []))) : tDNewK σ H Q := q
theorem i_dget (q : td σ H fun x H1 => ty σ H1 fun y H2 => ∃ a v, x = .ref a ∧ DGet H2 a y (some v) ∧ Q v H2) : tDGet td ty σ H Q := q
theorem i_dgot (h : H d = some (.dK kvs)) (e : valV kvs k = some v) (q : Q v H) : ∃ a v, V.ref d = .ref a ∧ DGet H a (kV k) (some v) ∧ Q v H := ⟨d, v, rfl, e ▸ DGet.k h, q⟩
theorem i_dget2 (q : td σ H fun x H1 => ∃ a, x = .ref a ∧ IsD H1 a ∧ ty σ H1 fun y H2 => tx σ H2 fun z H3 => ∃ o, DGet H3 a y o ∧ Q (o.getD z) H3) : tDGet2 td ty tx σ H Q := q
theorem i_dpop2 (q : td σ H fun x H1 => ∃ a, x = .ref a ∧ IsD H1 a ∧ ty σ H1 fun y H2 => tx σ H2 fun z H3 => ∃ kvs k, H3 a = some (.dK kvs) ∧ y = kV k ∧
  (∀ v, valV kvs k = some v → Q v (upd H3 a (.dK (dropK kvs k)))) ∧ (valV kvs k = none → Q z H3)) : tDPop2 td ty tx σ H Q := q
theorem i_isD {A : Addr → Prop} (h : H d = some (.dK kvs)) (q : A d) : ∃ a, V.ref d = .ref a ∧ IsD H a ∧ A a := ⟨d, rfl, .inl ⟨kvs, .inl h⟩, q⟩
theorem i_dput (q : tv σ H fun v H1 => td σ H1 fun x H2 => ty σ H2 fun y H3 => ∃ a H4, x = .ref a ∧ DPut H3 a y v H4 ∧ D.nx σ H4) : sDPut td ty tv D σ H := q
theorem i_dputs {B : Hp → Prop} (h : H d = some (.dK kvs)) (hl : kvs.length < sizeLine) (q : B (upd H d (.dK (putK kvs k v)))) : ∃ a H4, V.ref d = .ref a ∧ DPut H a (kV k) v H4 ∧ B H4 := ⟨d, _, rfl, DPut.k h hl, q⟩
theorem i_dnots (h : H d = some (.dK kvs)) (e : valV kvs k = some v) (q : Q (.bl false) H) : ∃ a o, V.ref d = .ref a ∧ DGet H a (kV k) o ∧ Q (.bl (!o.isSome)) H := ⟨d, some v, rfl, e ▸ DGet.k h, q⟩
theorem i_dnot (q : ty σ H fun y H1 => td σ H1 fun x H2 => ∃ a o, x = .ref a ∧ DGet H2 a y o ∧ Q (.bl (!o.isSome)) H2) : tDNotIn ty td σ H Q := q
end
section
variable {K : PySem.W.Frag} {H : Hp} {Q : VK} {σ : L2.St}
theorem i_isi {x : V} {a n : String} {b : Bool} (ty : TyX K H x (.type a)) (e : kitB a n = some b) (q : Q (.bl b) H) : rIsi K [x, .ty n] H Q := ⟨x, .ty n, .type a, .type n, b, rfl, .ty n, ty, kit_ty e, q⟩
theorem i_iRng1 {ta : TA} {RI : It → Hp → Prop} (q : ta σ H fun vs H1 => ∃ j : Int, vs = [.int j] ∧ -(2 ^ 62) ≤ j ∧ j < 2 ^ 62 ∧ RI (Itr 0 j.toNat) H1) : iRng1 ta σ H RI := q
theorem i_iRng2 {ta : TA} {RI : It → Hp → Prop} (q : ta σ H fun vs H1 => ∃ i j : Int, vs = [.int i, .int j] ∧ (-(2 ^ 62) ≤ i ∧ i < 2 ^ 62 ∧ -(2 ^ 62) ≤ j ∧ j < 2 ^ 62) ∧ RI (Itr i (j - i).toNat) H1) : iRng2 ta σ H RI := q
theorem i_slA {a : Addr} {xs : List V} {lo hi : Option Int} (h : SqT K H a xs) (hw : ¬ (HT.sIx xs.length 0 lo = 0 ∧ HT.sIx xs.length xs.length hi = xs.length)) (q : ∀ p, H p = none → Q (.ref p) (upd H p (.tup (cutV xs lo hi)))) : rSlA K (.ref a) lo hi H Q := ⟨a, xs, rfl, h, (fun z => absurd z hw), fun _ => q⟩
theorem i_catA {a b : Addr} {xs ys : List V} (h1 : SqT K H a xs) (h2 : SqT K H b ys) (hz : xs.length + ys.length ≤ sizeLine) (hx : xs ≠ []) (hy : ys ≠ []) (q : ∀ p, H p = none → Q (.ref p) (upd H p (.tup (xs ++ ys)))) : rCatA K (.ref a) (.ref b) H Q := ⟨a, b, xs, ys, rfl, rfl, h1, h2, hz, (fun z => absurd z hx), (fun _ z => absurd z hy), fun _ _ => q⟩
theorem i_sum {a : Addr} {ns : List Int} (h : SqL K H a (ns.map V.int)) (q : Q (.int ns.sum) H) : rSum K [.ref a] H Q := ⟨a, ns, rfl, h, q⟩
end
section
variable {K : PySem.W.Frag} {H : Hp} {Q : VK} {σ : L2.St}
theorem i_gSub {to ti : TE} {t : TSet} {v : V} {R : L2.St → Hp → Prop} (q : to σ H fun o H1 => ti σ H1 fun i H2 => t o i v H2 fun H3 => R σ H3) : gSub to ti t v σ H R := q
theorem i_setL {p : Addr} {xs : List V} {k : Int} {j : Nat} {v : V} {R : Hp → Prop} (h : H p = some (.lst xs)) (hj : ixN xs.length k = some j) (q : R (upd H p (.lst (xs.set j v)))) : rSetL (.ref p) (.int k) v H R := ⟨p, xs, k, j, rfl, rfl, h, hj, q⟩
theorem i_rU {g : Int → V} {i : Int} (q : Q (g i) H) : rU g (.int i) H Q := ⟨i, rfl, q⟩
end
section
variable {H : Hp} {Q : VK} {σ : L2.St} {QP : List (V × V) → Hp → Prop}
theorem i_disp {trs : List (TE × TE)} (q : ∀ p, H p = none → tPairs trs σ (upd H p (.dK [])) fun ps H2 => H2 p = some (.dK []) ∧ ∃ kvs : List (Key × V), ps = kvs.map (fun kv => (kV kv.1, kv.2)) ∧ kvs.length ≤ 15 ∧ Q (.ref p) (upd H2 p (.dK (mergeK [] kvs)))) : tDisp trs σ H Q := q
theorem i_pcons {tk tv : TE} {r : List (TE × TE)} (q : tk σ H fun x H1 => tv σ H1 fun y H2 => tPairs r σ H2 fun ps H3 => QP ((x, y) :: ps) H3) : tPairs ((tk, tv) :: r) σ H QP := q
theorem i_pnil (q : QP [] H) : tPairs [] σ H QP := q
end
/-! ### rules over a written part told by its name -/
section
variable {X : Cx} {e a b : Expr} {es : List Expr} {te ta tb : TE} {t : TA} {tg : Expr}
theorem kx_ixL (K : PySem.W.Frag) (h : X.K = K := by rfl) : IxR X (rIxL K) := by subst h; exact ix_list
theorem kx_ixT (K : PySem.W.Frag) (h : X.K = K := by rfl) : IxR X (rIxT K) := by subst h; exact ix_tup
theorem kx_slL (K : PySem.W.Frag) (h : X.K = K := by rfl) : SlR X (rSlL K) := by subst h; exact sl_list
theorem kx_slA (K : PySem.W.Frag) (h : X.K = K := by rfl) : SlR X (rSlA K) := by subst h; exact sl_tupA
theorem kx_in (K : PySem.W.Frag) (h : X.K = K := by rfl) : OpR X (compareOp .In) (rIn K false) := by subst h; exact op_in_seq
theorem kx_nin (K : PySem.W.Frag) (h : X.K = K := by rfl) : OpR X (compareOp .NotIn) (rIn K true) := by subst h; exact op_notIn_seq
theorem kx_len (K : PySem.W.Frag) (h : X.K = K := by rfl) : CallR X (.builtin "len") (qLen K) := by subst h; exact cq_len
theorem kx_tuple (K : PySem.W.Frag) (h : X.K = K := by rfl) : CallR X (.type "tuple") (qTup K) := by subst h; exact cq_tup
theorem kx_list (K : PySem.W.Frag) (h : X.K = K := by rfl) : CallR X (.type "list") (qLst K) := by subst h; exact cq_list
theorem kx_all (K : PySem.W.Frag) (hc : X.calm = true) (h : X.K = K := by rfl) : CallR X (.builtin "all") (rAll K) := by subst h; exact cr_all hc
theorem kx_sum (K : PySem.W.Frag) (hc : X.calm = true) (h : X.K = K := by rfl) : CallR X (.builtin "sum") (rSum K) := by subst h; exact cr_sum hc
theorem kx_isi (K : PySem.W.Frag) (h : X.K = K := by rfl) : CallR X (.builtin "isinstance") (rIsi K) := by subst h; exact call_isi
theorem kx_catA (K : PySem.W.Frag) (h : X.K = K := by rfl) : OpR X (binaryOp .Add) (rCatA K) := by subst h; exact op_catA
theorem kx_piL (K : PySem.W.Frag) (hl : PE X e te) (h : X.K = K := by rfl) : PI X tg e (iList K te) := by subst h; exact pi_list hl
theorem kx_piT (K : PySem.W.Frag) (hl : PE X e te) (h : X.K = K := by rfl) : PI X tg e (iTup K te) := by subst h; exact pi_tup hl
theorem kx_enum {p pos tpos : Pos} {elts : List Expr} {kk : Nat} (K : PySem.W.Frag) (hg : Gl X "enumerate") (hm : X.mg "enumerate" = none) (ha : PA X [e] t) (hs : starEach [e] X.env = [(false, eval e X.env)] := by rfl) (h : X.K = K := by rfl) :
    PI X (.Tuple elts kk tpos) (.Call (.Name "enumerate" p) [e] [] pos) (iEnum K t) := by subst h; exact pi_enum hg hm ha hs
theorem kx_pgT {pos : Pos} {k : Nat} {tt : TGs} (K : PySem.W.Frag) (n : Nat) (hc : X.calm = true) (h : PGs X es tt) (hn : (assignEach es X.env).length = n := by rfl) (hst : (assignEach es X.env).findIdx? (·.1) = none := by rfl) (hk : X.K = K := by rfl) : PG X (.Tuple es k pos) (gTup K n tt) := by
  subst hk
  exact pg_tup hc h hn hst
theorem kx_app {o : Expr} {to : TE} {apos cpos : Pos} (K : PySem.W.Frag) (ho : PE X o to) (ha : PA X (e :: es) t)
    (hbase : attributeBase o "append" X.env (eval o X.env) = eval o X.env := by rfl)
    (hfew : ((backTo cpos (starEach (e :: es) X.env)).all (fun x => !x.1) && (backToKw cpos (keywordEach [] X.env)).all (fun x => x.1.isSome)
      && decide ((e :: es).length + ([] : List Keyword).length + (if ([] : List Keyword).isEmpty then 0 else 1) < 30)) = true := by rfl)
    (hline : (apos.endLine == cpos.line) = true := by rfl) (hs : starEach (e :: es) X.env = (false, eval e X.env) :: starEach es X.env := by rfl) (hplain : (backTo cpos (starEach es X.env)).any (·.1) = false := by rfl) (h : X.K = K := by rfl) :
    PE X (.Call (.Attribute o "append" apos) (e :: es) [] cpos) (tBM K "list" rAppend to t) := by
  subst h
  exact pe_bm PySem.F.plainAttrs_list PySem.F.slot_list_append PySem.F.type_list_append mt_append ho ha hbase hfew hline hs hplain
theorem kx_join {o : Expr} {to : TE} {apos pos : Pos} (K : PySem.W.Frag) (ho : PE X o to) (he : PE X e te) (hs : starEach [e] X.env = [(false, eval e X.env)] := by rfl) (hbase : attributeBase o "join" X.env (eval o X.env) = eval o X.env := by rfl) (hline : (apos.endLine == pos.line) = true := by rfl) (h : X.K = K := by rfl) :
    PE X (.Call (.Attribute o "join" apos) [e] [] pos) (tM1 (qJoin K) to te) := by
  subst h
  exact peq_join ho he hs hbase hline
end
/-- a statement, then the rest, with a word of one's own between them -/
def tMid (t u : TS) : TS := fun D σ H => ∃ Mid : L2.St → Hp → Prop, t { nx := Mid, rt := D.rt, bk := D.bk, ct := D.ct } σ H ∧ ∀ σ' H', Mid σ' H' → u D σ' H'
theorem pss_mid {X : Cx} {st : Stmt} {more : List Stmt} {t u : TS} (h1 : PS X st t) (h2 : PSs X more u) : PSs X (st :: more) (tMid t u) := by
  refine ⟨fun pins s σ H D I h => ?_⟩
  obtain ⟨Mid, hm, hu⟩ := h
  refine wpAny_execs_cons (thn (h1.run pins s σ H _ I hm) fun f s1 q => ?_)
  cases f with
  | next =>
    obtain ⟨σ', H', I', q⟩ := q
    exact h2.run pins s1 σ' H' D I' (hu σ' H' q)
  | ret v => exact q
  | brk => exact q
  | cont => exact q
theorem i_mid {t u : TS} {D : Ends} {σ : L2.St} {H : Hp} (Mid : L2.St → Hp → Prop) (h : t { nx := Mid, rt := D.rt, bk := D.bk, ct := D.ct } σ H) (k : ∀ σ' H', Mid σ' H' → u D σ' H') : tMid t u D σ H := ⟨Mid, h, k⟩
theorem sz {n : Nat} (h : n ≤ 100000) : n ≤ sizeLine := Nat.le_trans h (by decide)
/-! ### sets of written texts -/
theorem inV_strs (z : Str) : ∀ l : List Str, inV (.str z) (l.map V.str) = decide (z ∈ l)
  | [] => rfl
  | a :: l => by
    have ih := inV_strs z l
    show ((a == z) || inV (.str z) (l.map V.str)) = decide (z ∈ a :: l)
    rw [ih]
    by_cases e : a = z
    · rw [beq_iff_eq.mpr e, Bool.true_or]
      exact (decide_eq_true (List.mem_cons.mpr (.inl e.symm))).symm
    · rw [beq_eq_false_iff_ne.mpr e, Bool.false_or]
      by_cases m : z ∈ l
      · rw [decide_eq_true m, decide_eq_true (List.mem_cons.mpr (.inr m))]
      · rw [decide_eq_false m, decide_eq_false fun q => (List.mem_cons.mp q).elim (fun h => e h.symm) m]
theorem flat_strs : ∀ l : List Str, (l.map V.str).all flatV = true
  | [] => rfl
  | a :: l => by
    show (true && (l.map V.str).all flatV) = true
    rw [flat_strs l]
    rfl
theorem at_0 {α : Type} {a : α} {r : List α} : atI (a :: r) 0 = some a := atI_nat (j := 0) rfl
theorem at_1 {α : Type} {a b : α} {r : List α} : atI (a :: b :: r) 1 = some b := atI_nat (j := 1) rfl
theorem at_2 {α : Type} {a b c : α} {r : List α} : atI (a :: b :: c :: r) 2 = some c := atI_nat (j := 2) rfl
theorem at_3 {α : Type} {a b c d : α} {r : List α} : atI (a :: b :: c :: d :: r) 3 = some d := atI_nat (j := 3) rfl
theorem at_4 {α : Type} {a b c d e : α} {r : List α} : atI (a :: b :: c :: d :: e :: r) 4 = some e := atI_nat (j := 4) rfl
/-! The text by places. -/
def topS (i : Nat) : Stmt := PySem.Challenge.pw_pricecover_k33_whole_shown_and_read.main.body.getD i (.Pass ⟨0, 0, 0, 0⟩)
abbrev s_is_name : Stmt := topS 7
abbrev s_is_number : Stmt := topS 8
abbrev s_wanted_by : Stmt := topS 9
abbrev s_word_of : Stmt := topS 10
abbrev s_is_mark : Stmt := topS 16
abbrev s_is_from : Stmt := topS 17
abbrev s_deed_told : Stmt := topS 18
abbrev s_price_told : Stmt := topS 19
abbrev s_shape_word : Stmt := topS 20
abbrev s_rule_told : Stmt := topS 21
abbrev s_row_told : Stmt := topS 22
abbrev s_rows_told : Stmt := topS 23
abbrev s_read_book : Stmt := topS 24
abbrev s_joined : Stmt := topS 25
abbrev s_shown_book : Stmt := topS 26
abbrev s__law_hand : Stmt := topS 28
abbrev s__law_draw : Stmt := topS 29
abbrev s__law_names : Stmt := topS 30
abbrev s__law_number : Stmt := topS 31
abbrev s__law_any_word : Stmt := topS 32
abbrev s__law_any_deed : Stmt := topS 33
abbrev s__law_row : Stmt := topS 34
abbrev s__law_rows : Stmt := topS 35
abbrev s__law_settled : Stmt := topS 36
abbrev s__law_line : Stmt := topS 37
abbrev s__law_due : Stmt := topS 38
abbrev s__law_same : Stmt := topS 39
abbrev s__law_text : Stmt := topS 40
abbrev s_law : Stmt := topS 41
abbrev FnP (K : PySem.W.Frag) (x : Str) (st : Stmt) (f : Addr) (fd : FuncData) : Prop := FunD K x x (defArgs st) (defBody st) (defScope st) [] [] f fd
/-! Words as texts: what is a name, what is a number; no program in sight. -/
end PC
namespace PC
open PySem PySem.Spec PyProof.Rows L2 TL
def digitsS : Str := "0123456789"
def isName (s : Str) : Bool := !decide (s ∈ keptW) && (decide (1 ≤ s.length) && (decide (s.length ≤ 8) && s.cps.toList.all fun c => decide (c ∈ lettersS.cps.toList)))
/-- figures f of the word z -/
def numF (z f : Str) : Bool := decide (1 ≤ f.length) && (decide (f.length ≤ 60) && ((f.cps.toList.all fun c => decide (c ∈ digitsS.cps.toList)) && (!decide (f.cps.toList.take 1 = [48]) || decide (z = "0"))))
def isNum (z : Str) : Bool := numF z (if cutS z none (some 1) = "-" then cutS z (some 1) none else z)
def wanted (z : Str) : Int := if z ∈ pairsW then 2 else if z = "neg" then 1 else 0

theorem cut_1 (z : Str) : tl (cutS z none (some 1)) = (tl z).take 1 := by
  show ((tl z).drop (HT.sIx z.length 0 none)).take (HT.sIx z.length z.length (some ((1 : Nat) : Int)) - HT.sIx z.length 0 none) = _
  rw [HT.sIx_nat, HT.sIx_none, List.drop_zero, len_tl]
  cases tl z with
  | nil => rfl
  | cons a r =>
    rw [List.length_cons]
    have e : min 1 (r.length + 1) - 0 = 1 := by omega
    rw [e]
theorem cut_2 (z : Str) : tl (cutS z (some 1) none) = (tl z).drop 1 := by
  show ((tl z).drop (HT.sIx z.length 0 (some ((1 : Nat) : Int)))).take (HT.sIx z.length z.length none - HT.sIx z.length 0 (some ((1 : Nat) : Int))) = _
  rw [HT.sIx_nat, HT.sIx_none, len_tl]
  cases tl z with
  | nil => rfl
  | cons a r =>
    rw [List.length_cons]
    have e : min 1 (r.length + 1) = 1 := by omega
    rw [e]
    exact List.take_of_length_le (by rw [List.length_drop, List.length_cons]; omega)
theorem tl_minus : tl ("-" : Str) = [45] := by decide +kernel
theorem tl_nought : tl ("0" : Str) = [48] := by decide +kernel
theorem tl_letters : tl lettersS = [97, 98, 99, 100, 101, 102, 103, 104, 105, 106, 107, 108, 109, 110, 111, 112, 113, 114, 115, 116, 117, 118, 119, 120, 121, 122] := by decide +kernel
theorem tl_digits : tl digitsS = [48, 49, 50, 51, 52, 53, 54, 55, 56, 57] := by decide +kernel
theorem str_eq {a b : Str} : a = b ↔ tl a = tl b := ⟨fun e => by rw [e], ext_tl⟩
theorem letter_iff {c : Nat} : c ∈ tl lettersS ↔ 97 ≤ c ∧ c ≤ 122 := by
  rw [tl_letters]
  constructor
  · intro h
    simp only [List.mem_cons, List.not_mem_nil, or_false] at h
    omega
  · intro h
    simp only [List.mem_cons, List.not_mem_nil, or_false]
    omega
theorem digit_iff {c : Nat} : c ∈ tl digitsS ↔ 48 ≤ c ∧ c ≤ 57 := by
  rw [tl_digits]
  constructor
  · intro h
    simp only [List.mem_cons, List.not_mem_nil, or_false] at h
    omega
  · intro h
    simp only [List.mem_cons, List.not_mem_nil, or_false]
    omega
theorem tl_int (n : Int) : tl (txt (.inl n)) = if n < 0 then 45 :: numL n.natAbs else numL n.natAbs := by
  cases n with
  | ofNat m =>
    rw [if_neg (by have : (0 : Int) ≤ Int.ofNat m := Int.natCast_nonneg m; omega)]
    exact tl_num m
  | negSucc m =>
    rw [if_pos (Int.negSucc_lt_zero m)]
    show tl (Str.ofString (toString (Int.negSucc m))) = 45 :: numL (m + 1)
    have e : toString (Int.negSucc m) = "-" ++ Nat.repr (m + 1) := rfl
    rw [e, tl_ofString, String.toList_append, List.map_append]
    have e2 := tl_num (m + 1)
    have e3 : toString ((m + 1 : Nat) : Int) = Nat.repr (m + 1) := rfl
    rw [e3, tl_ofString] at e2
    rw [e2]
    rfl
theorem numL_head : ∀ n : Nat, n ≠ 0 → ¬ (numL n).take 1 = [48] := by
  intro n
  induction n using Nat.strongRecOn with
  | _ n ih =>
    intro h0 e
    by_cases h : n < 10
    · rw [numL_lt h] at e
      have e2 : 48 + n = 48 := by
        injection e
      omega
    · rw [numL_step (by omega)] at e
      have hn := numL_ne (n / 10)
      refine ih (n / 10) (by omega) (by omega) ?_
      cases q : numL (n / 10) with
      | nil => exact absurd q hn
      | cons a r =>
        rw [q] at e
        exact e
theorem pow60 {n : Nat} (h : n < 10 ^ 60) : (numL n).length ≤ 60 := numL_len (by decide) h
theorem all_dig {l : List Nat} (h : NumText.AllDigits l) : (l.all fun c => decide (c ∈ digitsS.cps.toList)) = true := by
  rw [List.all_eq_true]
  intro c hc
  exact decide_eq_true (digit_iff.mpr (h c hc))
/-- a number's text is one -/
theorem num_ok {n : Int} (h : n.natAbs < 10 ^ 60) : isNum (txt (.inl n)) = true := by
  have hl := pow60 h
  have hn := numL_ne n.natAbs
  have h1 : 1 ≤ (numL n.natAbs).length := List.length_pos_iff.mpr hn
  have hd := numL_digits n.natAbs
  have main : ∀ f : Str, tl f = numL n.natAbs → (n = 0 → txt (.inl n) = "0") → numF (txt (.inl n)) f = true := by
    intro f ef hz
    unfold numF
    have ef2 : f.cps.toList = numL n.natAbs := ef
    rw [len_tl, ef, ef2, decide_eq_true h1, decide_eq_true hl, all_dig hd, Bool.true_and, Bool.true_and, Bool.true_and]
    by_cases z : n = 0
    · rw [decide_eq_true (hz z), Bool.or_true]
    · rw [decide_eq_false (numL_head n.natAbs (by omega)), Bool.not_false, Bool.true_or]
  unfold isNum
  by_cases s : n < 0
  · have e := tl_int n
    rw [if_pos s] at e
    rw [if_pos (str_eq.mpr (by rw [cut_1, e, tl_minus]; rfl))]
    exact main _ (by rw [cut_2, e]; rfl) (fun z => by omega)
  · have e := tl_int n
    rw [if_neg s] at e
    have hc : ¬ cutS (txt (.inl n)) none (some 1) = "-" := by
      intro q
      have q2 := str_eq.mp q
      rw [cut_1, e, tl_minus] at q2
      cases l : numL n.natAbs with
      | nil => exact hn l
      | cons a r =>
        rw [l] at q2
        have e2 : a = 45 := by
          injection q2
        have := hd a (by rw [l]; exact List.mem_cons_self ..)
        omega
    rw [if_neg hc]
    refine main _ e fun z => str_eq.mpr ?_
    rw [e, z, tl_nought]
    exact numL_lt (by decide)
theorem num_len {n : Int} (h : n.natAbs < 10 ^ 60) : (txt (.inl n)).length ≤ 61 := by
  have hl := pow60 h
  rw [len_tl, tl_int]
  split
  · rw [List.length_cons]
    omega
  · omega
theorem num_int {n : Int} (h : n.natAbs < 10 ^ 60) : intText? (txt (.inl n)) = some n := by
  have hl := pow60 h
  by_cases s : n < 0
  · have e := tl_int n
    rw [if_pos s] at e
    have q := intText_neg (x := txt (.inl n)) e (numL_digits _) (numL_ne _) (by have := num_len h; omega)
    rw [q, numL_val]
    congr 1
    omega
  · have e : n = ((n.natAbs : Nat) : Int) := by omega
    have q := int_num (n := n.natAbs) (by omega)
    rw [← e] at q
    exact q
theorem pow_bits : (10 : Nat) ^ 60 ≤ 2 ^ 200 := by decide +kernel
theorem num_bits {n : Int} (h : n.natAbs < 10 ^ 60) : n.natAbs.log2 < 1920 := Nat.lt_of_lt_of_le (PySem.Flt.log2_lt_of (by decide) (Nat.lt_of_lt_of_le h pow_bits)) (by decide)
/-- what begins with a letter is no number -/
theorem letter_not {z : Str} {c : Nat} {r : List Nat} (e : tl z = c :: r) (hc : 97 ≤ c) : isNum z = false := by
  unfold isNum
  have h1 : ¬ cutS z none (some 1) = "-" := by
    intro q
    have q2 := str_eq.mp q
    rw [cut_1, e, tl_minus] at q2
    have e2 : c = 45 := by
      injection q2
    omega
  rw [if_neg h1]
  unfold numF
  have h2 : (z.cps.toList.all fun c => decide (c ∈ digitsS.cps.toList)) = false := by
    show ((tl z).all _) = false
    rw [e, List.all_cons, decide_eq_false (fun q => by have := digit_iff.mp q; omega), Bool.false_and]
  rw [h2, Bool.false_and, Bool.and_false, Bool.and_false]
theorem name_parts {z : Str} (h : isName z = true) : z ∉ keptW ∧ 1 ≤ z.length ∧ z.length ≤ 8 ∧ ∀ c ∈ tl z, 97 ≤ c ∧ c ≤ 122 := by
  unfold isName at h
  rw [Bool.and_eq_true, Bool.and_eq_true, Bool.and_eq_true, Bool.not_eq_true', decide_eq_false_iff_not, decide_eq_true_eq, decide_eq_true_eq, List.all_eq_true] at h
  obtain ⟨h1, h2, h3, h4⟩ := h
  exact ⟨h1, h2, h3, fun c hc => letter_iff.mp (of_decide_eq_true (h4 c hc))⟩
theorem name_head {z : Str} (h : isName z = true) : ∃ c r, tl z = c :: r ∧ 97 ≤ c ∧ c ≤ 122 := by
  obtain ⟨_, h2, _, h4⟩ := name_parts h
  rw [len_tl] at h2
  cases e : tl z with
  | nil =>
    rw [e] at h2
    exact absurd h2 (by decide)
  | cons c r => exact ⟨c, r, rfl, h4 c (by rw [e]; exact List.mem_cons_self ..)⟩
/-! one step, all steps that ask nothing -/
local macro_rules | `(tactic| walk_at "pc1") => `(tactic| first
  | with_reducible refine i_seq ?_ | with_reducible refine i_asg ?_ | with_reducible refine i_ret ?_ | with_reducible refine i_if ?_ | with_reducible refine i_drop ?_ | with_reducible refine i_next ?_
  | with_reducible refine i_op ?_ | with_reducible refine i_un ?_ | with_reducible refine i_test ?_ | with_reducible refine i_tB ?_ | with_reducible refine i_not ?_ | with_reducible refine i_and ?_ | with_reducible refine i_or ?_
  | with_reducible refine i_andV ?_ | with_reducible refine i_orV ?_ | with_reducible refine i_notV ?_ | with_reducible refine i_bk ?_ | with_reducible refine i_ik ?_
  | with_reducible refine i_cons ?_ | with_reducible refine i_nil ?_ | with_reducible refine i_CB ?_ | with_reducible refine i_call ?_ | with_reducible refine i_tup ?_ | with_reducible refine i_lst ?_
  | with_reducible refine i_sl ?_ | with_reducible refine i_np ?_ | with_reducible refine i_part ?_ | with_reducible refine i_c ?_ | with_reducible refine iteT ?_ | with_reducible refine iteF ?_ | with_reducible refine ifNT ?_ | with_reducible refine ifNF ?_ | with_reducible refine i_m1 ?_ | with_reducible refine i_isS ?_ | with_reducible refine i_bm ?_ | with_reducible refine i_for ?_ | with_reducible refine i_iEnum ?_ | with_reducible refine i_iRng1 ?_ | with_reducible refine i_iRng2 ?_ | with_reducible refine i_gSub ?_ | with_reducible refine i_asgG ?_ | with_reducible refine i_rU ?_ | with_reducible refine i_disp ?_ | with_reducible refine i_pcons ?_ | with_reducible refine i_pnil ?_ | with_reducible refine i_dnew ?_ | with_reducible refine i_dget ?_ | with_reducible refine i_dget2 ?_ | with_reducible refine i_dpop2 ?_ | with_reducible refine i_dput ?_ | with_reducible refine i_dnot ?_ | with_reducible refine i_int0 ?_ | with_reducible refine i_sk ?_ | with_reducible refine i_gName ?_ | with_reducible refine i_yes ?_ | with_reducible refine i_lc ?_ | with_reducible refine i_iStr ?_ | with_reducible refine i_iList ?_ | with_reducible refine i_iTup ?_
  | with_reducible refine i_strS ?_ | with_reducible refine i_inC ?_ | with_reducible refine i_non ?_ | with_reducible refine i_notN ?_
  | ((with_reducible refine' i_lenL ?h1 ?q1); (case h1 => first | assumption | exact SqL.of (by assumption)))
  | ((with_reducible refine' i_lenT ?h1 ?q1); (case h1 => first | assumption | exact SqT.of (by assumption)))
  | ((with_reducible refine' i_lenS ?h1 ?q1); (case h1 => assumption))
  | ((with_reducible refine' i_slS ?h1 ?q1); (case h1 => assumption))
  | ((with_reducible refine' i_int ?h1 ?q1); (case h1 => first | (show (0 : Int) < _; decide) | exact .inl ⟨by decide +kernel, by decide +kernel⟩ | exact .inr ⟨by decide +kernel, by decide +kernel⟩))
  | ((with_reducible refine' i_ty ?h1 ?q1); (case h1 => assumption))
  | ((with_reducible refine' i_ixS ?h1 ?h2 ?q1); (case h1 => assumption); (case h2 => first | exact at_0 | exact at_1 | exact at_2))
  | ((with_reducible refine' i_ixL ?h1 ?h2 ?q1); (case h1 => first | assumption | exact SqL.of (by assumption)); (case h2 => first | exact at_0 | exact at_1 | exact at_2 | exact at_3 | exact at_4))
  | ((with_reducible refine' i_ixT ?h1 ?h2 ?q1); (case h1 => first | assumption | exact SqT.of (by assumption)); (case h2 => first | exact at_0 | exact at_1 | exact at_2 | exact at_3 | exact at_4))
  | ((with_reducible refine' i_var ?h1 ?q1); (case h1 => exact rfl))
  | ((with_reducible refine' i_eq ?h1 ?q1); (case h1 => exact rfl))
  | ((with_reducible refine' i_ne ?h1 ?q1); (case h1 => exact rfl)))
local macro_rules | `(tactic| walk_at "pc") => `(tactic| repeat walk_at "pc1")
local macro_rules | `(tactic| walk_at "pcb") => `(tactic| first
  | ((with_reducible refine' ifY ?h1 ?q1); (case h1 => decide +kernel))
  | ((with_reducible refine' ifN ?h1 ?q1); (case h1 => decide +kernel))
  | ((with_reducible refine' ifY ?h1 ?q1); (case h1 => rfl))
  | ((with_reducible refine' ifN ?h1 ?q1); (case h1 => rfl)))
local macro_rules | `(tactic| walk_at "pcs") => `(tactic| repeat first | walk_at "pc1" | walk_at "pcb")
def sp_is_name : Sp := fun vs H Q _ => ∃ s : Str, vs = [.str s] ∧ s.length ≤ 1000 ∧ ∀ H', Same H H' → Q (.bl (isName s)) H'
def sp_is_number : Sp := fun vs H Q _ => ∃ s : Str, vs = [.str s] ∧ s.length ≤ 1000 ∧ ∀ H', Same H H' → Q (.bl (isNum s)) H'
def sp_wanted_by : Sp := fun vs H Q _ => ∃ s : Str, vs = [.str s] ∧ Q (.int (wanted s)) H
section
variable {P : Program} {w : World} {K : PySem.W.Frag} {mg : Str → Option Value} {base : Heap}
theorem sc_is_name : FnScope ["word", "sign"] ["word"] (defScope s_is_name) := ⟨rfl, rfl, rfl, by decide +kernel, rfl, by decide +kernel, by decide +kernel⟩
theorem ok_is_name (T : Txt K mg)  {f : Addr} {fd : FuncData} (F : FnP K "is_name" s_is_name f fd) : FnOk P w K mg base CX0 1 f fd ["word"] sp_is_name := by
  refine F.ok sc_is_name (fun vs H Q E h => ?_) (fun cdv A outer s H vs Q E hr h => ⟨_, PSs.nox ((pss_cons (ps_if (PW.pt (pw_or (pt_cmpR (kx_in K) (pv 0) T.p_KEPT (by rfl)) (pw_or (pt_cmpR op_lt (pe_callB cq_lenS (by rfl) T.len_ PySem.boot_len (pa_cons (pv 0) pa_nil)) pe_int (nomark _)) (pw_or1 (pt_cmpR op_gt (pe_callB cq_lenS (by rfl) T.len_ PySem.boot_len (pa_cons (pv 0) pa_nil)) pe_int (nomark _)))))) (pss_one (ps_ret pe_bl)) pss_nil)
  (pss_one (ps_ret (pe_callB (kx_all K rfl) (by rfl) T.all_ (by decide +kernel) (pa_cons (pe_lc (own := [("sign", 1)]) rfl sc_is_name.nd (pi_str (pv 0)) (blkOk_by (own := [("sign", 1)]) (N := ["word", "sign"]) (sc := defScope s_is_name) (by decide +kernel)) (fun _ _ _ _ _ => by exact (pg_name (i := 1) sc_is_name.nd rfl (Or.inl rfl))) (fun _ _ _ _ _ => pts_nil) (fun _ _ _ _ _ => by exact (pe_cmpR oq_in (pv 1) T.p_LETTERS (by rfl)))) pa_nil)))))), ?_⟩)
  · obtain ⟨z, rfl, _⟩ := h
    rfl
  · obtain ⟨z, rfl, hz, k⟩ := h
    have hz' : z.length ≤ sizeLine := sz (by omega)
    walk_at "pc"
    refine i_isT (T.keptT _) rfl (flat_strs _) ?_
    rw [inV_strs]
    walk_at "pc"
    have out : ∀ c : isName z = false, Q (.bl false) H := fun c => c ▸ k H (Same.refl H)
    refine ifB (fun e => iteT ?_) (fun e0 => ?_)
    · walk_at "pc"
      exact out (by unfold isName; rw [e]; rfl)
    walk_at "pc"
    refine ifB (fun e => iteT ?_) (fun e1 => ?_)
    · walk_at "pc"
      exact out (by unfold isName; rw [decide_eq_false (show ¬ 1 ≤ z.length by have := of_decide_eq_true e; omega), Bool.false_and, Bool.and_false])
    walk_at "pc"
    refine ifB (fun e => ?_) (fun e2 => ?_)
    · walk_at "pc"
      exact out (by unfold isName; rw [decide_eq_false (show ¬ z.length ≤ 8 by have := of_decide_eq_true e; omega), Bool.false_and, Bool.and_false, Bool.and_false])
    walk_at "pc"
    intro D hD
    refine lc_pure walk_str (fun _ => true) (fun c => decide (c ∈ lettersS.cps.toList)) (Src := SrcC) (Out := OutB) hD Array.length_toList (show z.length ≤ 100000 by omega) (fun _ _ => trivial) gives_str (fun _ _ _ _ _ h => h) (fun a x H' N1 N2 ha s hs n1 n2 => ?_) (fun H' ys s hy hp => ?_)
    · cases hs
      walk_at "pc"
      refine ⟨rfl, ?_⟩
      walk_at "pc"
      exact n1 rfl _ H' (Same.refl _) rfl
    · rw [List.filter_eq_self.mpr (fun _ _ => rfl)] at hp
      have e := paired_fn (F := V.bl) (fun b v h => h) hp
      subst e
      walk_at "pc"
      refine ⟨_, _, rfl, SqL.of hy, ?_⟩
      have q := k H' s
      unfold isName at q
      rw [e0, decide_eq_true (show 1 ≤ z.length by have := of_decide_eq_false e1; omega), decide_eq_true (show z.length ≤ 8 by have := of_decide_eq_false e2; omega)] at q
      rw [List.all_map]
      exact q
theorem sc_is_number : FnScope ["word", "figures", "sign"] ["word"] (defScope s_is_number) := ⟨rfl, rfl, rfl, by decide +kernel, rfl, by decide +kernel, by decide +kernel⟩
theorem ok_is_number (T : Txt K mg)  {f : Addr} {fd : FuncData} (F : FnP K "is_number" s_is_number f fd) : FnOk P w K mg base CX0 1 f fd ["word"] sp_is_number := by
  refine F.ok sc_is_number (fun vs H Q E h => ?_) (fun cdv A outer s H vs Q E hr h => ⟨_, PSs.nox ((pss_cons (ps_set (i := 1) sc_is_number.nd rfl (Or.inl rfl) (pv 0))
  (pss_mid (ps_if (pt_cmpR op_eq (pe_slice sl_str (pv 0) po_none (po_some pe_int)) pe_str (nomark _)) (pss_one (ps_set (i := 1) sc_is_number.nd rfl (Or.inl rfl) (pe_slice sl_str (pv 0) (po_some pe_int) po_none))) pss_nil)
  (pss_cons (ps_if (PW.pt (pw_or (pt_cmpR op_lt (pe_callB cq_lenS (by rfl) T.len_ PySem.boot_len (pa_cons (pv 1) pa_nil)) pe_int (nomark _)) (pw_or1 (pt_cmpR op_gt (pe_callB cq_lenS (by rfl) T.len_ PySem.boot_len (pa_cons (pv 1) pa_nil)) pe_int (nomark _))))) (pss_one (ps_ret pe_bl)) pss_nil)
  (pss_cons (ps_if (pt_not (pt_val (pe_callB (kx_all K rfl) (by rfl) T.all_ (by decide +kernel) (pa_cons (pe_lc (own := [("sign", 2)]) rfl sc_is_number.nd (pi_str (pv 1)) (blkOk_by (own := [("sign", 2)]) (N := ["word", "figures", "sign"]) (sc := defScope s_is_number) (by decide +kernel)) (fun _ _ _ _ _ => by exact (pg_name (i := 2) sc_is_number.nd rfl (Or.inl rfl))) (fun _ _ _ _ _ => pts_nil) (fun _ _ _ _ _ => by exact (pe_cmpR oq_in (pv 2) pe_str (by rfl)))) pa_nil)))) (pss_one (ps_ret pe_bl)) pss_nil)
  (pss_one (ps_ret (pe_or (pe_cmpR op_ne (pe_ix ix_str (pv 1) pe_int (fun _ _ => rfl)) pe_str (nomark _)) (pe_one (pe_cmpR op_eq (pv 0) pe_str (nomark _))))))))))), ?_⟩)
  · obtain ⟨z, rfl, _⟩ := h
    rfl
  · obtain ⟨z, rfl, hz, k⟩ := h
    have hz' : z.length ≤ sizeLine := sz (by omega)
    walk_at "pc"
    refine i_mid (fun σ' H' => H' = H ∧ ∃ f : Str, σ' = [some (.str z), some (.str f), none] ∧ f.length ≤ z.length ∧ isNum z = numF z f) ?_ ?_
    · walk_at "pc"
      refine ifB (fun e => ?_) (fun e => ?_)
      · walk_at "pc"
        refine ⟨rfl, _, rfl, cutS_length _ _ _, ?_⟩
        unfold isNum
        rw [if_pos (by have q := of_decide_eq_true e; injection q)]
      · walk_at "pc"
        refine ⟨rfl, _, rfl, Nat.le_refl _, ?_⟩
        unfold isNum
        rw [if_neg (fun q => of_decide_eq_false e (by rw [q]))]
    rintro σ' H' ⟨rfl, f, rfl, hf, en⟩
    rw [en] at k
    have hf' : f.length ≤ sizeLine := sz (by omega)
    have out : ∀ c : numF z f = false, Q (.bl false) H' := fun c => c ▸ k H' (Same.refl H')
    walk_at "pc"
    refine ifB (fun e => ?_) (fun e1 => ?_)
    · walk_at "pc"
      exact out (by unfold numF; rw [decide_eq_false (show ¬ 1 ≤ f.length by have := of_decide_eq_true e; omega), Bool.false_and])
    walk_at "pc"
    refine ifB (fun e => ?_) (fun e2 => ?_)
    · walk_at "pc"
      exact out (by unfold numF; rw [decide_eq_false (show ¬ f.length ≤ 60 by have := of_decide_eq_true e; omega), Bool.false_and, Bool.and_false])
    walk_at "pc"
    intro D hD
    refine lc_pure walk_str (fun _ => true) (fun c => decide (c ∈ digitsS.cps.toList)) (Src := SrcC) (Out := OutB) hD Array.length_toList (show f.length ≤ 100000 by omega) (fun _ _ => trivial) gives_str (fun _ _ _ _ _ h => h) (fun a x H' N1 N2 ha s hs n1 n2 => ?_) (fun H2 ys s hy hp => ?_)
    · cases hs
      walk_at "pc"
      refine ⟨rfl, ?_⟩
      walk_at "pc"
      exact n1 rfl _ _ (Same.refl _) rfl
    rw [List.filter_eq_self.mpr (fun _ _ => rfl)] at hp
    have e := paired_fn (F := V.bl) (fun b v h => h) hp
    subst e
    walk_at "pc"
    refine ⟨_, _, rfl, SqL.of hy, ?_⟩
    rw [List.all_map]
    have q := k H2 s
    have a1 : 1 ≤ f.length := by have := of_decide_eq_false e1; omega
    have a2 : f.length ≤ 60 := by have := of_decide_eq_false e2; omega
    unfold numF at q
    rw [decide_eq_true a1, decide_eq_true a2, Bool.true_and, Bool.true_and] at q
    walk_at "pc"
    refine ifB (fun e => ?_) (fun e3 => ?_)
    · walk_at "pc"
      have e' : (f.cps.toList.all fun c => decide (c ∈ digitsS.cps.toList)) = false := by
        have := (Bool.not_eq_true' _).mp e
        exact this
      rw [e', Bool.false_and] at q
      exact q
    have e' : (f.cps.toList.all fun c => decide (c ∈ digitsS.cps.toList)) = true := by
      have := (Bool.not_eq_false' _).mp e3
      exact this
    rw [e', Bool.true_and] at q
    walk_at "pc"
    cases l : f.cps.toList with
    | nil =>
      have : f.length = f.cps.toList.length := len_tl f
      rw [l, List.length_nil] at this
      omega
    | cons c r =>
      refine i_ixS hf' (by rw [l]; exact at_0) ?_
      rw [l] at q
      walk_at "pc"
      have e0 : decide (V.str ⟨#[c]⟩ = V.str "0") = decide ((c :: r).take 1 = [48]) := by
        rw [dec_str]
        show _ = decide ([c] = [48])
        have tz : ("0" : Str) = ⟨#[48]⟩ := by decide +kernel
        rw [tz]
        by_cases h : c = 48
        · subst h
          decide
        · rw [decide_eq_false (fun q => h (by injection q))]
          rw [beq_eq_false_iff_ne]
          intro q
          have q2 := str_eq.mp q
          exact h (by injection q2)
      rw [e0]
      refine ifB (fun e => ?_) (fun e4 => ?_)
      · walk_at "pc"
        rw [e, Bool.true_or] at q
        exact q
      · walk_at "pc"
        rw [e4, Bool.false_or] at q
        rw [dec_str]
        have e5 : (z == ("0" : Str)) = decide (z = "0") := by
          by_cases h : z = "0"
          · rw [decide_eq_true h, beq_iff_eq]
            exact h
          · rw [decide_eq_false h, beq_eq_false_iff_ne]
            exact h
        rw [e5]
        exact q
theorem sc_wanted_by : FnScope ["word"] ["word"] (defScope s_wanted_by) := ⟨rfl, rfl, rfl, by decide +kernel, rfl, by decide +kernel, by decide +kernel⟩
theorem ok_wanted_by (T : Txt K mg)  {f : Addr} {fd : FuncData} (F : FnP K "wanted_by" s_wanted_by f fd) : FnOk P w K mg base CX0 1 f fd ["word"] sp_wanted_by := by
  refine F.ok sc_wanted_by (fun vs H Q E h => ?_) (fun cdv A outer s H vs Q E hr h => ⟨_, PSs.nox ((pss_cons (ps_if (pt_cmpR (kx_in K) (pv 0) T.p_PAIRS (by rfl)) (pss_one (ps_ret pe_int)) pss_nil)
  (pss_cons (ps_if (pt_cmpR op_eq (pv 0) pe_str (nomark _)) (pss_one (ps_ret pe_int)) pss_nil)
  (pss_one (ps_ret pe_int))))), ?_⟩)
  · obtain ⟨z, rfl, _⟩ := h
    rfl
  · obtain ⟨z, rfl, k⟩ := h
    walk_at "pc"
    refine i_isT (T.pairsT _) rfl (flat_strs _) ?_
    rw [inV_strs]
    walk_at "pc"
    refine ifB (fun e => ?_) (fun e0 => ?_)
    · walk_at "pc"
      have c : wanted z = 2 := by unfold wanted; exact if_pos (of_decide_eq_true e)
      exact c ▸ k
    walk_at "pc"
    refine ifB (fun e => ?_) (fun e1 => ?_)
    · walk_at "pc"
      have c : wanted z = 1 := by
        unfold wanted
        rw [if_neg (of_decide_eq_false e0), if_pos]
        have q := of_decide_eq_true e
        injection q
      exact c ▸ k
    walk_at "pc"
    have c : wanted z = 0 := by
      unfold wanted
      rw [if_neg (of_decide_eq_false e0), if_neg]
      intro q
      exact of_decide_eq_false e1 (by rw [q])
    exact c ▸ k
end

def opsW : List Str := ["add", "sub", "mul", "neg"]
/-- a word of a term -/
def wOk : Key → Prop
  | .inl n => n.natAbs < 10 ^ 60
  | .inr s => isName s = true ∨ s ∈ opsW
/-- a word of a shape -/
def shOk (k : Key) : Prop := wOk k ∨ k = .inr "any" ∨ k = .inr "var"
theorem ops_all : ∀ s ∈ opsW, 0 < wanted s ∧ s.length ≤ 8 ∧ 97 ≤ (tl s).headD 0 := by decide +kernel
theorem ops_not {s : Str} (h : s ∈ opsW) : isNum s = false := by
  obtain ⟨_, _, h3⟩ := ops_all s h
  cases e : tl s with
  | nil =>
    rw [e] at h3
    exact absurd h3 (by decide)
  | cons c r =>
    rw [e] at h3
    exact letter_not e h3
theorem name_not {s : Str} (h : isName s = true) : isNum s = false := by
  obtain ⟨c, r, e, h1, _⟩ := name_head h
  exact letter_not e h1
theorem wOk_len : ∀ {k : Key}, wOk k → (txt k).length ≤ 61
  | .inl n, h => num_len h
  | .inr s, h => by
    rcases h with h | h
    · have := (name_parts h).2.2.1
      show s.length ≤ 61
      omega
    · have := (ops_all s h).2.1
      show s.length ≤ 61
      omega
theorem shOk_len {k : Key} (h : shOk k) : (txt k).length ≤ 61 := by
  rcases h with h | h | h
  · exact wOk_len h
  · subst h
    decide +kernel
  · subst h
    decide +kernel
theorem wOk_bits {k : Key} (h : wOk k) : ∀ i, k = .inl i → i.natAbs.log2 < 1920 := by
  intro i e
  subst e
  exact num_bits h
theorem shOk_bits {k : Key} (h : shOk k) : ∀ i, k = .inl i → i.natAbs.log2 < 1920 := by
  rcases h with h | h | h
  · exact wOk_bits h
  · subst h
    exact fun i e => nomatch e
  · subst h
    exact fun i e => nomatch e
theorem fig_iff {c : Nat} : c ∈ tl figuresS ↔ 49 ≤ c ∧ c ≤ 57 := by
  have e : tl figuresS = [49, 50, 51, 52, 53, 54, 55, 56, 57] := by decide +kernel
  rw [e]
  constructor
  · intro h
    simp only [List.mem_cons, List.not_mem_nil, or_false] at h
    omega
  · intro h
    simp only [List.mem_cons, List.not_mem_nil, or_false]
    omega
def mark (c : Nat) (z : Str) : Prop := ∃ d, 49 ≤ d ∧ d ≤ 57 ∧ z = ⟨#[c, d]⟩
def fromOk (z : Str) : Prop := z ∈ boxesW ∨ mark 104 z
inductive DeedOk : List Key → Prop
  | putN {b : Str} {n : Int} (hb : b ∈ boxesW) (hn : n.natAbs < 10 ^ 60) : DeedOk [.inr "put", .inr b, .inl n]
  | putM {b m : Str} (hb : b ∈ boxesW) (hm : mark 110 m) : DeedOk [.inr "put", .inr b, .inr m]
  | load {b m : Str} (hb : b ∈ boxesW) (hm : mark 118 m) : DeedOk [.inr "load", .inr b, .inr m]
  | neg {b f : Str} (hb : b ∈ boxesW) (hf : fromOk f) : DeedOk [.inr "neg", .inr b, .inr f]
  | op {o b f g : Str} (ho : o ∈ pairsW) (hb : b ∈ boxesW) (hf : fromOk f) (hg : fromOk g) : DeedOk [.inr o, .inr b, .inr f, .inr g]

def sp_word_of : Sp := fun vs H Q _ => ∃ k : Key, vs = [.str (txt k)] ∧ wOk k ∧ ∀ H', Same H H' → Q (kV k) H'
def sp_shape_word : Sp := fun vs H Q _ => ∃ k : Key, vs = [.str (txt k)] ∧ shOk k ∧ ∀ H', Same H H' → Q (kV k) H'
def sp_is_mark : Sp := fun vs H Q _ => ∃ (c : Nat) (z : Str), vs = [.str z, .str ⟨#[c]⟩] ∧ mark c z ∧ Q (.bl true) H
def sp_is_from : Sp := fun vs H Q _ => ∃ z : Str, vs = [.str z] ∧ fromOk z ∧ Q (.bl true) H
def sp_price_told : Sp := fun vs H Q _ => ∃ p : Int, vs = [.str (txt (.inl p))] ∧ 1 ≤ p ∧ p ≤ 999999 ∧ ∀ H', Same H H' → Q (.int p) H'
section
variable {P : Program} {w : World} {K : PySem.W.Frag} {mg : Str → Option Value} {base : Heap}
theorem sc_word_of : FnScope ["text"] ["text"] (defScope s_word_of) := ⟨rfl, rfl, rfl, by decide +kernel, rfl, by decide +kernel, by decide +kernel⟩
theorem ok_word_of (T : Txt K mg) (C_is_number : Callee P w K mg base "is_number" 1 ["word"] sp_is_number) (C_is_name : Callee P w K mg base "is_name" 1 ["word"] sp_is_name) (C_wanted_by : Callee P w K mg base "wanted_by" 1 ["word"] sp_wanted_by) {f : Addr} {fd : FuncData} (F : FnP K "word_of" s_word_of f fd) : FnOk P w K mg base CX0 2 f fd ["text"] sp_word_of := by
  refine F.ok sc_word_of (fun vs H Q E h => ?_) (fun cdv A outer s H vs Q E hr h => ⟨_, PSs.nox ((pss_cons (ps_if (pt_val (pe_cc C_is_number (hr.mono (by decide)) (pa_cons (pv 0) pa_nil))) (pss_one (ps_ret (pe_callTy cq_int (by rfl) T.int_ (by decide +kernel) (pa_cons (pv 0) pa_nil)))) pss_nil)
  (pss_cons (ps_if (PW.pt (pw_or (pt_val (pe_cc C_is_name (hr.mono (by decide)) (pa_cons (pv 0) pa_nil))) (pw_or1 (pt_cmpR op_gt (pe_cc C_wanted_by (hr.mono (by decide)) (pa_cons (pv 0) pa_nil)) pe_int (nomark _))))) (pss_one (ps_ret (pv 0))) pss_nil)
  (pss_one (ps_ret pe_non))))), ?_⟩)
  · obtain ⟨z, rfl, _⟩ := h
    rfl
  · obtain ⟨z, rfl, hz, k⟩ := h
    have hl := wOk_len hz
    walk_at "pc"
    refine ⟨_, rfl, by omega, fun H1 s1 => ?_⟩
    walk_at "pc"
    cases z with
    | inl n =>
      refine ifY (num_ok hz) ?_
      walk_at "pc"
      exact i_intS (num_int hz) (by omega) (k H1 s1)
    | inr z =>
      have hn : isNum z = false := hz.elim name_not ops_not
      refine ifN hn ?_
      walk_at "pc"
      refine ⟨_, rfl, by have : z.length ≤ 61 := hl; omega, fun H2 s2 => ?_⟩
      walk_at "pc"
      refine ifB (fun e => ?_) (fun e => ?_)
      · walk_at "pc"
        exact k H2 (s1.trans s2)
      · walk_at "pc"
        refine ⟨_, rfl, ?_⟩
        walk_at "pc"
        have hw : 0 < wanted z := by
          rcases hz with q | q
          · exact absurd (q.symm.trans e) (by decide)
          · exact (ops_all z q).1
        refine ifY (decide_eq_true hw) ?_
        walk_at "pc"
        exact k H2 (s1.trans s2)
theorem sc_is_mark : FnScope ["word", "sign"] ["word", "sign"] (defScope s_is_mark) := ⟨rfl, rfl, rfl, by decide +kernel, rfl, by decide +kernel, by decide +kernel⟩
theorem ok_is_mark (T : Txt K mg)  {f : Addr} {fd : FuncData} (F : FnP K "is_mark" s_is_mark f fd) : FnOk P w K mg base CX0 1 f fd ["word", "sign"] sp_is_mark := by
  refine F.ok sc_is_mark (fun vs H Q E h => ?_) (fun cdv A outer s H vs Q E hr h => ⟨_, PSs.nox ((pss_one (ps_ret (pe_and (pe_cmpR op_eq (pe_callB cq_lenS (by rfl) T.len_ PySem.boot_len (pa_cons (pv 0) pa_nil)) pe_int (nomark _)) (pe_and (pe_cmpR op_eq (pe_ix ix_str (pv 0) pe_int (fun _ _ => rfl)) (pv 1) (nomark _)) (pe_one (pe_cmpR oq_in (pe_ix ix_str (pv 0) pe_int (fun _ _ => rfl)) T.p_FIGURES (by rfl)))))))), ?_⟩)
  · obtain ⟨c, z, rfl, _⟩ := h
    rfl
  · obtain ⟨c, z, rfl, ⟨d, h1, h2, rfl⟩, k⟩ := h
    have hz : (⟨#[c, d]⟩ : Str).length ≤ sizeLine := show 2 ≤ sizeLine by decide
    walk_at "pc"
    refine ifY rfl ?_
    walk_at "pc"
    refine ifY (decide_eq_true rfl) ?_
    walk_at "pc"
    have q : decide (d ∈ figuresS.cps.toList) = true := decide_eq_true (fig_iff.mpr ⟨h1, h2⟩)
    rw [q]
    exact k
theorem sc_is_from : FnScope ["word"] ["word"] (defScope s_is_from) := ⟨rfl, rfl, rfl, by decide +kernel, rfl, by decide +kernel, by decide +kernel⟩
theorem ok_is_from (T : Txt K mg) (C_is_mark : Callee P w K mg base "is_mark" 1 ["word", "sign"] sp_is_mark) {f : Addr} {fd : FuncData} (F : FnP K "is_from" s_is_from f fd) : FnOk P w K mg base CX0 2 f fd ["word"] sp_is_from := by
  refine F.ok sc_is_from (fun vs H Q E h => ?_) (fun cdv A outer s H vs Q E hr h => ⟨_, PSs.nox ((pss_one (ps_ret (pe_or (pe_cmpR (kx_in K) (pv 0) T.p_BOXES (by rfl)) (pe_one (pe_cc C_is_mark (hr.mono (by decide)) (pa_cons (pv 0) (pa_cons pe_str pa_nil)))))))), ?_⟩)
  · obtain ⟨z, rfl, _⟩ := h
    rfl
  · obtain ⟨z, rfl, hz, k⟩ := h
    walk_at "pc"
    refine i_isT (T.boxesT _) rfl (flat_strs _) ?_
    rw [inV_strs]
    walk_at "pc"
    refine ifB (fun e => ?_) (fun e => ?_)
    · walk_at "pc"
      exact k
    · walk_at "pc"
      have hm : mark 104 z := hz.resolve_left (of_decide_eq_false e)
      exact ⟨104, z, rfl, hm, k⟩
theorem sc_price_told : FnScope ["word"] ["word"] (defScope s_price_told) := ⟨rfl, rfl, rfl, by decide +kernel, rfl, by decide +kernel, by decide +kernel⟩
theorem ok_price_told (T : Txt K mg) (C_is_number : Callee P w K mg base "is_number" 1 ["word"] sp_is_number) {f : Addr} {fd : FuncData} (F : FnP K "price_told" s_price_told f fd) : FnOk P w K mg base CX0 2 f fd ["word"] sp_price_told := by
  refine F.ok sc_price_told (fun vs H Q E h => ?_) (fun cdv A outer s H vs Q E hr h => ⟨_, PSs.nox ((pss_cons (ps_if (PW.pt (pw_or (pt_not (pt_val (pe_cc C_is_number (hr.mono (by decide)) (pa_cons (pv 0) pa_nil)))) (pw_or (pt_cmpR op_lt (pe_callTy cq_int (by rfl) T.int_ (by decide +kernel) (pa_cons (pv 0) pa_nil)) pe_int (nomark _)) (pw_or1 (pt_cmpR op_gt (pe_callTy cq_int (by rfl) T.int_ (by decide +kernel) (pa_cons (pv 0) pa_nil)) T.p_DEAREST (nomark _)))))) (pss_one (ps_ret pe_non)) pss_nil)
  (pss_one (ps_ret (pe_callTy cq_int (by rfl) T.int_ (by decide +kernel) (pa_cons (pv 0) pa_nil)))))), ?_⟩)
  · obtain ⟨z, rfl, _⟩ := h
    rfl
  · obtain ⟨p, rfl, h1, h2, k⟩ := h
    have hp : p.natAbs < 10 ^ 60 := Nat.lt_of_le_of_lt (show p.natAbs ≤ 999999 by omega) (by decide +kernel)
    have hl := num_len hp
    walk_at "pc"
    refine ⟨_, rfl, by omega, fun H1 s1 => ?_⟩
    rw [num_ok hp]
    walk_at "pc"
    refine i_intS (num_int hp) (by omega) ?_
    walk_at "pc"
    refine ifN (decide_eq_false (by omega)) ?_
    walk_at "pc"
    refine i_intS (num_int hp) (by omega) ?_
    walk_at "pc"
    refine ifN (decide_eq_false (by omega)) ?_
    walk_at "pc"
    exact i_intS (num_int hp) (by omega) (k H1 s1)
theorem sc_shape_word : FnScope ["text"] ["text"] (defScope s_shape_word) := ⟨rfl, rfl, rfl, by decide +kernel, rfl, by decide +kernel, by decide +kernel⟩
theorem ok_shape_word (T : Txt K mg) (C_word_of : Callee P w K mg base "word_of" 2 ["text"] sp_word_of) {f : Addr} {fd : FuncData} (F : FnP K "shape_word" s_shape_word f fd) : FnOk P w K mg base CX0 3 f fd ["text"] sp_shape_word := by
  refine F.ok sc_shape_word (fun vs H Q E h => ?_) (fun cdv A outer s H vs Q E hr h => ⟨_, PSs.nox ((pss_cons (ps_if (PW.pt (pw_or (pt_cmpR op_eq (pv 0) pe_str (nomark _)) (pw_or1 (pt_cmpR op_eq (pv 0) pe_str (nomark _))))) (pss_one (ps_ret (pv 0))) pss_nil)
  (pss_one (ps_ret (pe_cc C_word_of (hr.mono (by decide)) (pa_cons (pv 0) pa_nil)))))), ?_⟩)
  · obtain ⟨z, rfl, _⟩ := h
    rfl
  · obtain ⟨z, rfl, hz, k⟩ := h
    have hl := shOk_len hz
    have same : txt z = "any" ∨ txt z = "var" → V.str (txt z) = kV z := by
      intro q
      cases z with
      | inr z => rfl
      | inl n =>
        have hn : n.natAbs < 10 ^ 60 := hz.elim id fun h => h.elim (fun e => nomatch e) fun e => nomatch e
        have h1 := num_ok hn
        rcases q with q | q
        · rw [q] at h1
          exact absurd h1 (by decide +kernel)
        · rw [q] at h1
          exact absurd h1 (by decide +kernel)
    walk_at "pc"
    refine ifB (fun e => ?_) (fun e => ?_)
    · walk_at "pc"
      have q := of_decide_eq_true e
      have e2 := same (.inl (by injection q))
      exact e2 ▸ k H (Same.refl H)
    walk_at "pc"
    refine ifB (fun e2 => ?_) (fun e2 => ?_)
    · walk_at "pc"
      have q := of_decide_eq_true e2
      have e3 := same (.inr (by injection q))
      exact e3 ▸ k H (Same.refl H)
    walk_at "pc"
    refine ⟨z, rfl, ?_, k⟩
    rcases hz with q | q | q
    · exact q
    · subst q
      exact absurd rfl (of_decide_eq_false e)
    · subst q
      exact absurd rfl (of_decide_eq_false e2)
end

/-- words as the texts of a row -/
def wordsV (ks : List Key) : List V := ks.map fun k => V.str (txt k)
def flatT (ks : List Key) : Tr := .t (ks.map .w)
def sp_deed_told (K : PySem.W.Frag) : Sp := fun vs H Q _ => ∃ (a : Addr) (d : List Key), vs = [.ref a] ∧ SqL K H a (wordsV d) ∧ DeedOk d ∧ ∀ v H', Same H H' → Holds H' (flatT d) v → Q v H'
theorem mark_len {c : Nat} {z : Str} (h : mark c z) : z.length ≤ 1000 := by
  obtain ⟨d, _, _, rfl⟩ := h
  exact show 2 ≤ 1000 by decide
theorem mark_not {c : Nat} {z : Str} (h : mark c z) (hc : 97 ≤ c) : isNum z = false := by
  obtain ⟨d, _, _, rfl⟩ := h
  exact letter_not (r := [d]) rfl hc
section
variable {P : Program} {w : World} {K : PySem.W.Frag} {mg : Str → Option Value} {base : Heap}
theorem sc_deed_told : FnScope ["words", "good"] ["words"] (defScope s_deed_told) := ⟨rfl, rfl, rfl, by decide +kernel, rfl, by decide +kernel, by decide +kernel⟩
theorem ok_deed_told (T : Txt K mg) (C_is_number : Callee P w K mg base "is_number" 1 ["word"] sp_is_number) (C_is_mark : Callee P w K mg base "is_mark" 1 ["word", "sign"] sp_is_mark) (C_is_from : Callee P w K mg base "is_from" 2 ["word"] sp_is_from) {f : Addr} {fd : FuncData} (F : FnP K "deed_told" s_deed_told f fd) : FnOk P w K mg base CX0 3 f fd ["words"] (sp_deed_told K) := by
  refine F.ok sc_deed_told (fun vs H Q E h => ?_) (fun cdv A outer s H vs Q E hr h => ⟨_, PSs.nox ((pss_cons (ps_if (PW.pt (pw_or (pt_cmpR op_lt (pe_callB (kx_len K) (by rfl) T.len_ PySem.boot_len (pa_cons (pv 0) pa_nil)) pe_int (nomark _)) (pw_or1 (pt_cmpR (kx_nin K) (pe_ix (kx_ixL K) (pv 0) pe_int (fun _ _ => rfl)) T.p_BOXES (by rfl))))) (pss_one (ps_ret pe_non)) pss_nil)
  (pss_cons (ps_if (PW.pt (pw_and (pt_cmpR op_eq (pe_ix (kx_ixL K) (pv 0) pe_int (fun _ _ => rfl)) pe_str (nomark _)) (pw_and (pt_cmpR op_eq (pe_callB (kx_len K) (by rfl) T.len_ PySem.boot_len (pa_cons (pv 0) pa_nil)) pe_int (nomark _)) (pw_and1 (pt_val (pe_cc C_is_number (hr.mono (by decide)) (pa_cons (pe_ix (kx_ixL K) (pv 0) pe_int (fun _ _ => rfl)) pa_nil))))))) (pss_one (ps_ret (pe_tup (pa_cons pe_str (pa_cons (pe_ix (kx_ixL K) (pv 0) pe_int (fun _ _ => rfl)) (pa_cons (pe_callTy cq_int (by rfl) T.int_ (by decide +kernel) (pa_cons (pe_ix (kx_ixL K) (pv 0) pe_int (fun _ _ => rfl)) pa_nil)) pa_nil)))))) pss_nil)
  (pss_cons (ps_set (i := 1) sc_deed_told.nd rfl (Or.inl rfl) pe_bl)
  (pss_cons (ps_if (pt_cmpR op_eq (pe_ix (kx_ixL K) (pv 0) pe_int (fun _ _ => rfl)) pe_str (nomark _)) (pss_one (ps_set (i := 1) sc_deed_told.nd rfl (Or.inl rfl) (pe_and (pe_cmpR op_eq (pe_callB (kx_len K) (by rfl) T.len_ PySem.boot_len (pa_cons (pv 0) pa_nil)) pe_int (nomark _)) (pe_one (pe_cc C_is_mark (hr.mono (by decide)) (pa_cons (pe_ix (kx_ixL K) (pv 0) pe_int (fun _ _ => rfl)) (pa_cons pe_str pa_nil))))))) (pss_one (ps_if (pt_cmpR op_eq (pe_ix (kx_ixL K) (pv 0) pe_int (fun _ _ => rfl)) pe_str (nomark _)) (pss_one (ps_set (i := 1) sc_deed_told.nd rfl (Or.inl rfl) (pe_and (pe_cmpR op_eq (pe_callB (kx_len K) (by rfl) T.len_ PySem.boot_len (pa_cons (pv 0) pa_nil)) pe_int (nomark _)) (pe_one (pe_cc C_is_mark (hr.mono (by decide)) (pa_cons (pe_ix (kx_ixL K) (pv 0) pe_int (fun _ _ => rfl)) (pa_cons pe_str pa_nil))))))) (pss_one (ps_if (pt_cmpR op_eq (pe_ix (kx_ixL K) (pv 0) pe_int (fun _ _ => rfl)) pe_str (nomark _)) (pss_one (ps_set (i := 1) sc_deed_told.nd rfl (Or.inl rfl) (pe_and (pe_cmpR op_eq (pe_callB (kx_len K) (by rfl) T.len_ PySem.boot_len (pa_cons (pv 0) pa_nil)) pe_int (nomark _)) (pe_one (pe_cc C_is_from (hr.mono (by decide)) (pa_cons (pe_ix (kx_ixL K) (pv 0) pe_int (fun _ _ => rfl)) pa_nil)))))) (pss_one (ps_if (pt_cmpR (kx_in K) (pe_ix (kx_ixL K) (pv 0) pe_int (fun _ _ => rfl)) (pe_tup (pa_cons pe_str (pa_cons pe_str (pa_cons pe_str pa_nil)))) (by rfl)) (pss_one (ps_set (i := 1) sc_deed_told.nd rfl (Or.inl rfl) (pe_and (pe_cmpR op_eq (pe_callB (kx_len K) (by rfl) T.len_ PySem.boot_len (pa_cons (pv 0) pa_nil)) pe_int (nomark _)) (pe_and (pe_cc C_is_from (hr.mono (by decide)) (pa_cons (pe_ix (kx_ixL K) (pv 0) pe_int (fun _ _ => rfl)) pa_nil)) (pe_one (pe_cc C_is_from (hr.mono (by decide)) (pa_cons (pe_ix (kx_ixL K) (pv 0) pe_int (fun _ _ => rfl)) pa_nil))))))) pss_nil)))))))
  (pss_cons (ps_if (pt_val (pv 1)) (pss_one (ps_ret (pe_callTy (kx_tuple K) (by rfl) T.tuple_ (by decide +kernel) (pa_cons (pv 0) pa_nil)))) pss_nil)
  (pss_one (ps_ret pe_non)))))))), ?_⟩)
  · obtain ⟨a, d, rfl, _⟩ := h
    rfl
  · obtain ⟨a, d, rfl, hS, hd, k⟩ := h
    have fin : ∀ H', Same H H' → ∀ p, H' p = none → Q (.ref p) (upd H' p (.tup (d.map kV))) := fun H' s p hp =>
      k _ _ (same_new s (s.free hp)) (Holds.tup upd_same (HoldsL.keys d))
    cases hd with
    | putN hb hn =>
      rename_i b n
      have hS : SqL K H a [.str "put", .str b, .str (txt (.inl n))] := hS
      walk_at "pcs"
      refine i_niT (T.boxesT _) rfl (flat_strs _) ?_
      rw [inV_strs, decide_eq_true hb]
      walk_at "pcs"
      refine ⟨_, rfl, by have := num_len hn; omega, fun H1 s1 => ?_⟩
      have hS1 := s1.seq hS
      rw [num_ok hn]
      walk_at "pcs"
      refine i_intS (num_int hn) (by have := num_len hn; omega) ?_
      walk_at "pcs"
      exact ⟨show 3 ≤ sizeLine by decide, fin H1 s1⟩
    | putM hb hm =>
      rename_i b m
      have hS : SqL K H a [.str "put", .str b, .str m] := hS
      walk_at "pcs"
      refine i_niT (T.boxesT _) rfl (flat_strs _) ?_
      rw [inV_strs, decide_eq_true hb]
      walk_at "pcs"
      refine ⟨_, rfl, mark_len hm, fun H1 s1 => ?_⟩
      have hS1 := s1.seq hS
      rw [mark_not hm (by decide)]
      walk_at "pcs"
      refine ⟨110, m, rfl, hm, ?_⟩
      walk_at "pcs"
      exact i_tupL hS1 (fin H1 s1)
    | load hb hm =>
      rename_i b m
      have hS : SqL K H a [.str "load", .str b, .str m] := hS
      walk_at "pcs"
      refine i_niT (T.boxesT _) rfl (flat_strs _) ?_
      rw [inV_strs, decide_eq_true hb]
      walk_at "pcs"
      refine ⟨118, m, rfl, hm, ?_⟩
      walk_at "pcs"
      exact i_tupL hS (fin H (Same.refl H))
    | neg hb hf =>
      rename_i b f
      have hS : SqL K H a [.str "neg", .str b, .str f] := hS
      walk_at "pcs"
      refine i_niT (T.boxesT _) rfl (flat_strs _) ?_
      rw [inV_strs, decide_eq_true hb]
      walk_at "pcs"
      refine ⟨f, rfl, hf, ?_⟩
      walk_at "pcs"
      exact i_tupL hS (fin H (Same.refl H))
    | op ho hb hf hg =>
      rename_i o b f g
      have hS : SqL K H a [.str o, .str b, .str f, .str g] := hS
      have main : ∀ (o1 : Str), o = o1 → True := fun _ _ => trivial
      have ho : o = "add" ∨ o = "sub" ∨ o = "mul" := by
        unfold pairsW at ho
        simp only [List.mem_cons, List.not_mem_nil, or_false] at ho
        exact ho
      rcases ho with e | e | e
      all_goals
        subst e
        walk_at "pcs"
        refine i_niT (T.boxesT _) rfl (flat_strs _) ?_
        rw [inV_strs, decide_eq_true hb]
        walk_at "pcs"
        refine ⟨by decide, fun p hp => ?_⟩
        refine i_isT (xs := pairsW.map V.str) (SqT.of upd_same) rfl (flat_strs _) ?_
        rw [inV_strs]
        have sp := same_upd (o := .tup (pairsW.map V.str)) hp
        have hS1 := sp.seq hS
        walk_at "pcs"
        refine ⟨f, rfl, hf, ?_⟩
        walk_at "pcs"
        refine ⟨g, rfl, hg, ?_⟩
        walk_at "pcs"
        exact i_tupL hS1 (fin _ sp)
end

theorem cutV_from (xs : List V) (n : Nat) : cutV xs (some ((n : Nat) : Int)) none = xs.drop n := by
  unfold cutV
  rw [HT.sIx_nat, HT.sIx_none]
  by_cases h : n ≤ xs.length
  · rw [Nat.min_eq_left h]
    exact List.take_of_length_le (by rw [List.length_drop]; omega)
  · rw [Nat.min_eq_right (by omega), List.drop_length, List.drop_eq_nil_of_le (by omega)]
    exact List.take_nil
theorem cutV_to (xs : List V) (n : Nat) : cutV xs none (some ((n : Nat) : Int)) = xs.take n := by
  unfold cutV
  rw [HT.sIx_nat, HT.sIx_none, List.drop_zero, Nat.sub_zero]
  by_cases h : n ≤ xs.length
  · rw [Nat.min_eq_left h]
  · rw [Nat.min_eq_right (by omega), List.take_length, List.take_of_length_le (by omega)]
def SrcK (g : Key → V) : Hp → Key → V → Prop := fun _ k v => v = g k
def OutK : Hp → Key → V → Prop := fun _ k v => v = kV k
theorem paired_map {α : Type} (g : α → V) : ∀ ks : List α, Paired (fun k v => v = g k) ks (ks.map g)
  | [] => .nil
  | _ :: r => .cons rfl (paired_map g r)
theorem non_not : ∀ ks : List Key, inV .non (ks.map kV) = false
  | [] => rfl
  | k :: r => by
    show (eqV (kV k) .non || inV .non (r.map kV)) = false
    rw [non_not r]
    cases k <;> rfl
theorem flat_keys : ∀ ks : List Key, (ks.map kV).all flatV = true
  | [] => rfl
  | k :: r => by
    show (flatV (kV k) && (r.map kV).all flatV) = true
    rw [flat_keys r]
    cases k <;> rfl

inductive Row where
  | kind (n : Str)
  | rule (n k : Str) (p : Int) (sh : List Key)
  | does (n : Str) (d : List Key)
  | nil
def Row.ws : Row → List Key
  | .kind n => [.inr "kind", .inr n]
  | .rule n k p sh => .inr "rule" :: .inr n :: .inr k :: .inl p :: sh
  | .does n d => .inr "does" :: .inr n :: d
  | .nil => [.inr ""]
/-- the words of its line -/
def Row.lw : Row → List Key
  | .kind n => [.inr "kind", .inr n]
  | .rule n k p sh => .inr "rule" :: .inr n :: .inr k :: .inl p :: .inr "=" :: sh
  | .does n d => .inr "does" :: .inr n :: d
  | .nil => [.inr ""]
def Row.ok : Row → Prop
  | .kind n => isName n = true
  | .rule n k p sh => isName n = true ∧ isName k = true ∧ 1 ≤ p ∧ p ≤ 999999 ∧ 1 ≤ sh.length ∧ sh.length ≤ 12 ∧ ∀ w ∈ sh, shOk w
  | .does n d => isName n = true ∧ DeedOk d
  | .nil => True
def ruleT (n k : Str) (p : Int) (sh : List Key) : Tr := .t [.w (.inr n), .w (.inr k), .w (.inl p), flatT sh]
def toldT : Row → Tr
  | .kind n => .t [.w (.inr "kind"), .w (.inr n)]
  | .rule n k p sh => .t [.w (.inr "rule"), ruleT n k p sh]
  | .does n d => .t [.w (.inr "does"), .w (.inr n), flatT d]
  | .nil => .t []
theorem name_len {z : Str} (h : isName z = true) : z.length ≤ 1000 := by
  have := (name_parts h).2.2.1
  omega
def sp_rule_told (K : PySem.W.Frag) : Sp := fun vs H Q _ => ∃ (a : Addr) (n k : Str) (p : Int) (sh : List Key), vs = [.ref a] ∧ SqL K H a (wordsV (Row.rule n k p sh).lw) ∧ (Row.rule n k p sh).ok ∧ ∀ v H', Same H H' → Holds H' (ruleT n k p sh) v → Q v H'
def sp_row_told (K : PySem.W.Frag) : Sp := fun vs H Q _ => ∃ (a : Addr) (r : Row), vs = [.ref a] ∧ SqL K H a (wordsV r.lw) ∧ r.ok ∧ r ≠ .nil ∧ ∀ v H', Same H H' → Holds H' (toldT r) v → Q v H'
section
variable {P : Program} {w : World} {K : PySem.W.Frag} {mg : Str → Option Value} {base : Heap}
theorem sc_rule_told : FnScope ["words", "price", "shape", "word"] ["words"] (defScope s_rule_told) := ⟨rfl, rfl, rfl, by decide +kernel, rfl, by decide +kernel, by decide +kernel⟩
theorem ok_rule_told (T : Txt K mg) (C_price_told : Callee P w K mg base "price_told" 2 ["word"] sp_price_told) (C_shape_word : Callee P w K mg base "shape_word" 3 ["text"] sp_shape_word) (C_is_name : Callee P w K mg base "is_name" 1 ["word"] sp_is_name) {f : Addr} {fd : FuncData} (F : FnP K "rule_told" s_rule_told f fd) : FnOk P w K mg base CX0 4 f fd ["words"] (sp_rule_told K) := by
  refine F.ok sc_rule_told (fun vs H Q E h => ?_) (fun cdv A outer s H vs Q E hr h => ⟨_, PSs.nox ((pss_cons (ps_if (PW.pt (pw_or (pt_cmpR op_lt (pe_callB (kx_len K) (by rfl) T.len_ PySem.boot_len (pa_cons (pv 0) pa_nil)) pe_int (nomark _)) (pw_or (pt_cmpR op_gt (pe_callB (kx_len K) (by rfl) T.len_ PySem.boot_len (pa_cons (pv 0) pa_nil)) (pe_op op_add pe_int T.p_MOST_WORDS) (nomark _)) (pw_or1 (pt_cmpR op_ne (pe_ix (kx_ixL K) (pv 0) pe_int (fun _ _ => rfl)) pe_str (nomark _)))))) (pss_one (ps_ret pe_non)) pss_nil)
  (pss_cons (ps_set (i := 1) sc_rule_told.nd rfl (Or.inl rfl) (pe_cc C_price_told (hr.mono (by decide)) (pa_cons (pe_ix (kx_ixL K) (pv 0) pe_int (fun _ _ => rfl)) pa_nil)))
  (pss_cons (ps_set (i := 2) sc_rule_told.nd rfl (Or.inl rfl) (pe_callTy (kx_tuple K) (by rfl) T.tuple_ (by decide +kernel) (pa_cons (pe_lc (own := [("word", 3)]) rfl sc_rule_told.nd (kx_piL K (pe_slice (kx_slL K) (pv 0) (po_some pe_int) po_none)) (blkOk_by (own := [("word", 3)]) (N := ["words", "price", "shape", "word"]) (sc := defScope s_rule_told) (by decide +kernel)) (fun _ _ _ _ _ => by exact (pg_name (i := 3) sc_rule_told.nd rfl (Or.inl rfl))) (fun _ _ _ _ _ => pts_nil) (fun _ _ _ _ _ => by exact (pe_cc C_shape_word (hr.mono (by decide)) (pa_cons (pv 3) pa_nil)))) pa_nil)))
  (pss_cons (ps_if (PW.pt (pw_or (pt_not (pt_val (pe_cc C_is_name (hr.mono (by decide)) (pa_cons (pe_ix (kx_ixL K) (pv 0) pe_int (fun _ _ => rfl)) pa_nil)))) (pw_or (pt_not (pt_val (pe_cc C_is_name (hr.mono (by decide)) (pa_cons (pe_ix (kx_ixL K) (pv 0) pe_int (fun _ _ => rfl)) pa_nil)))) (pw_or (pt_cmpR oq_non (pv 1) pe_non (nomark _)) (pw_or1 (pt_cmpR (kx_in K) pe_non (pv 2) (by rfl))))))) (pss_one (ps_ret pe_non)) pss_nil)
  (pss_one (ps_ret (pe_tup (pa_cons (pe_ix (kx_ixL K) (pv 0) pe_int (fun _ _ => rfl)) (pa_cons (pe_ix (kx_ixL K) (pv 0) pe_int (fun _ _ => rfl)) (pa_cons (pv 1) (pa_cons (pv 2) pa_nil)))))))))))), ?_⟩)
  · obtain ⟨a, n, k, p, sh, rfl, _⟩ := h
    rfl
  · obtain ⟨a, n, kd, p, sh, rfl, hS, ⟨h1, h2, h3, h4, h5, h6, h7⟩, k⟩ := h
    have hS : SqL K H a (.str "rule" :: .str n :: .str kd :: .str (txt (.inl p)) :: .str "=" :: wordsV sh) := hS
    have hl : (wordsV sh).length = sh.length := List.length_map _
    walk_at "pc"
    refine ifN (decide_eq_false (by rw [List.length_cons, List.length_cons, List.length_cons, List.length_cons, List.length_cons, hl]; omega)) ?_
    walk_at "pc"
    refine ifN (decide_eq_false (by rw [List.length_cons, List.length_cons, List.length_cons, List.length_cons, List.length_cons, hl]; omega)) ?_
    walk_at "pcs"
    refine ⟨p, rfl, h3, h4, fun H1 s1 => ?_⟩
    have hS1 := s1.seq hS
    walk_at "pcs"
    refine i_slL hS1 fun q hq => ?_
    have ec : cutV (.str "rule" :: .str n :: .str kd :: .str (txt (.inl p)) :: .str "=" :: wordsV sh) (some 5) none = wordsV sh := cutV_from _ 5
    rw [ec]
    have s2 : Same H1 (upd H1 q (.lst (wordsV sh))) := same_upd hq
    refine ⟨q, rfl, ⟨_, SqL.of upd_same⟩, fun D hD => ?_⟩
    refine lc_pure (walk_list (xs := wordsV sh)) (fun _ => true) (fun k => k) (ds := sh) (Src := SrcK fun k => V.str (txt k)) (Out := OutK) hD hl.symm (by rw [hl]; omega) (fun H2 s => SqL.of (s _ _ upd_same)) (gives_at (paired_map _ sh) fun _ _ _ _ h => h) (fun _ _ _ _ _ h => h) (fun c x H2 N1 N2 hc s hs n1 n2 => ?_) (fun H2 ys s hy hp => ?_)
    · cases hs
      walk_at "pc"
      refine ⟨rfl, ?_⟩
      walk_at "pc"
      exact ⟨c, rfl, h7 c hc, fun H3 s3 => n1 rfl _ _ s3 rfl⟩
    rw [List.filter_eq_self.mpr (fun _ _ => rfl), List.map_id'] at hp
    have e := paired_fn (F := kV) (fun b v h => h) hp
    subst e
    have s3 : Same H H2 := s1.trans (s2.trans s)
    have hS2 := s3.seq hS
    walk_at "pc"
    refine i_tupL (SqL.of hy) fun t ht => ?_
    have s4 : Same H2 (upd H2 t (.tup (sh.map kV))) := same_upd ht
    have hS3 := s4.seq hS2
    walk_at "pc"
    refine ⟨n, rfl, name_len h1, fun H4 s5 => ?_⟩
    have hS4 := s5.seq hS3
    have ht4 : H4 t = some (.tup (sh.map kV)) := s5 _ _ upd_same
    rw [h1]
    walk_at "pc"
    refine ⟨kd, rfl, name_len h2, fun H5 s6 => ?_⟩
    have hS5 := s6.seq hS4
    have ht5 : H5 t = some (.tup (sh.map kV)) := s6 _ _ ht4
    rw [h2]
    walk_at "pcs"
    refine i_isT (SqT.of ht5) rfl (flat_keys _) ?_
    rw [non_not]
    walk_at "pcs"
    refine ⟨show 4 ≤ sizeLine by decide, fun u hu => ?_⟩
    have s7 : Same H5 (upd H5 u (.tup [.str n, .str kd, .int p, .ref t])) := same_upd hu
    refine k _ _ ((s3.trans s4).trans ((s5.trans s6).trans s7)) (Holds.tup upd_same (HoldsL.one (Holds.str n) (HoldsL.one (Holds.str kd) (HoldsL.one (Holds.int p) (HoldsL.one ?_ HoldsL.nil)))))
    exact Holds.tup (s7 _ _ ht5) (HoldsL.keys sh)
theorem sc_row_told : FnScope ["words", "rule", "deed"] ["words"] (defScope s_row_told) := ⟨rfl, rfl, rfl, by decide +kernel, rfl, by decide +kernel, by decide +kernel⟩
theorem ok_row_told (T : Txt K mg) (C_is_name : Callee P w K mg base "is_name" 1 ["word"] sp_is_name) (C_rule_told : Callee P w K mg base "rule_told" 4 ["words"] (sp_rule_told K)) (C_deed_told : Callee P w K mg base "deed_told" 3 ["words"] (sp_deed_told K)) {f : Addr} {fd : FuncData} (F : FnP K "row_told" s_row_told f fd) : FnOk P w K mg base CX0 5 f fd ["words"] (sp_row_told K) := by
  refine F.ok sc_row_told (fun vs H Q E h => ?_) (fun cdv A outer s H vs Q E hr h => ⟨_, PSs.nox ((pss_cons (ps_if (PW.pt (pw_and (pt_cmpR op_eq (pe_ix (kx_ixL K) (pv 0) pe_int (fun _ _ => rfl)) pe_str (nomark _)) (pw_and (pt_cmpR op_eq (pe_callB (kx_len K) (by rfl) T.len_ PySem.boot_len (pa_cons (pv 0) pa_nil)) pe_int (nomark _)) (pw_and1 (pt_val (pe_cc C_is_name (hr.mono (by decide)) (pa_cons (pe_ix (kx_ixL K) (pv 0) pe_int (fun _ _ => rfl)) pa_nil))))))) (pss_one (ps_ret (pe_tup (pa_cons pe_str (pa_cons (pe_ix (kx_ixL K) (pv 0) pe_int (fun _ _ => rfl)) pa_nil))))) pss_nil)
  (pss_cons (ps_if (pt_cmpR op_eq (pe_ix (kx_ixL K) (pv 0) pe_int (fun _ _ => rfl)) pe_str (nomark _)) (pss_cons (ps_set (i := 1) sc_row_told.nd rfl (Or.inl rfl) (pe_cc C_rule_told (hr.mono (by decide)) (pa_cons (pv 0) pa_nil)))
  (pss_one (ps_if (pt_cmpR oq_notN (pv 1) pe_non (nomark _)) (pss_one (ps_ret (pe_tup (pa_cons pe_str (pa_cons (pv 1) pa_nil))))) pss_nil))) pss_nil)
  (pss_cons (ps_if (PW.pt (pw_and (pt_cmpR op_eq (pe_ix (kx_ixL K) (pv 0) pe_int (fun _ _ => rfl)) pe_str (nomark _)) (pw_and (pt_cmpR op_gt (pe_callB (kx_len K) (by rfl) T.len_ PySem.boot_len (pa_cons (pv 0) pa_nil)) pe_int (nomark _)) (pw_and1 (pt_val (pe_cc C_is_name (hr.mono (by decide)) (pa_cons (pe_ix (kx_ixL K) (pv 0) pe_int (fun _ _ => rfl)) pa_nil))))))) (pss_cons (ps_set (i := 2) sc_row_told.nd rfl (Or.inl rfl) (pe_cc C_deed_told (hr.mono (by decide)) (pa_cons (pe_slice (kx_slL K) (pv 0) (po_some pe_int) po_none) pa_nil)))
  (pss_one (ps_if (pt_cmpR oq_notN (pv 2) pe_non (nomark _)) (pss_one (ps_ret (pe_tup (pa_cons pe_str (pa_cons (pe_ix (kx_ixL K) (pv 0) pe_int (fun _ _ => rfl)) (pa_cons (pv 2) pa_nil)))))) pss_nil))) pss_nil)
  (pss_one (ps_ret pe_non)))))), ?_⟩)
  · obtain ⟨a, r, rfl, _⟩ := h
    rfl
  · obtain ⟨a, r, rfl, hS, hr0, hne, k⟩ := h
    cases r with
    | nil => exact absurd rfl hne
    | kind n =>
      have hS : SqL K H a [.str "kind", .str n] := hS
      have hn : isName n = true := hr0
      walk_at "pcs"
      refine ⟨n, rfl, name_len hn, fun H1 s1 => ?_⟩
      have hS1 := s1.seq hS
      rw [hn]
      walk_at "pcs"
      refine ⟨show 2 ≤ sizeLine by decide, fun u hu => ?_⟩
      exact k _ _ (s1.trans (same_upd hu)) (Holds.tup upd_same (HoldsL.one (Holds.str _) (HoldsL.one (Holds.str n) HoldsL.nil)))
    | rule n kd p sh =>
      have hS' : SqL K H a (.str "rule" :: .str n :: .str kd :: .str (txt (.inl p)) :: .str "=" :: wordsV sh) := hS
      walk_at "pcs"
      refine ⟨a, n, kd, p, sh, rfl, hS, hr0, fun v H1 s1 hv => ?_⟩
      obtain ⟨t, us, rfl, ht, _⟩ := holds_t.mp hv
      walk_at "pcs"
      refine ⟨show 2 ≤ sizeLine by decide, fun u hu => ?_⟩
      exact k _ _ (s1.trans (same_upd hu)) (Holds.tup upd_same (HoldsL.one (Holds.str _) (HoldsL.one (Holds.mono (tup_new hu) hv) HoldsL.nil)))
    | does n d =>
      have hS' : SqL K H a (.str "does" :: .str n :: wordsV d) := hS
      obtain ⟨hn, hd⟩ := hr0
      have hdl : 1 ≤ (wordsV d).length := by
        cases hd <;> exact Nat.succ_le_succ (Nat.zero_le _)
      walk_at "pcs"
      refine ifY (decide_eq_true (by rw [List.length_cons, List.length_cons]; omega)) ?_
      walk_at "pcs"
      refine ⟨n, rfl, name_len hn, fun H1 s1 => ?_⟩
      have hS1 := s1.seq hS'
      rw [hn]
      walk_at "pcs"
      refine i_slL hS1 fun q hq => ?_
      have ec : cutV (.str "does" :: .str n :: wordsV d) (some 2) none = wordsV d := cutV_from _ 2
      rw [ec]
      have s2 : Same H1 (upd H1 q (.lst (wordsV d))) := same_upd hq
      walk_at "pcs"
      refine ⟨q, d, rfl, SqL.of upd_same, hd, fun v H2 s3 hv => ?_⟩
      obtain ⟨t, us, rfl, ht, _⟩ := holds_t.mp hv
      have hS2 := (s2.trans s3).seq hS1
      walk_at "pcs"
      refine ⟨show 3 ≤ sizeLine by decide, fun u hu => ?_⟩
      exact k _ _ ((s1.trans (s2.trans s3)).trans (same_upd hu)) (Holds.tup upd_same (HoldsL.one (Holds.str _) (HoldsL.one (Holds.str n) (HoldsL.one (Holds.mono (tup_new hu) hv) HoldsL.nil))))
end
/-! Rows as lines, and back; no program in sight. -/
/-- a word that may stand in a line -/
def fine (k : Key) : Prop := (∀ c ∈ tl (txt k), c ≠ 10 ∧ c ≠ 32) ∧ (txt k).length ≤ 61 ∧ ∀ i, k = .inl i → i.natAbs.log2 < 1920
def fineB (s : Str) : Bool := (tl s).all (fun c => decide (c ≠ 10 ∧ c ≠ 32)) && decide (s.length ≤ 61)
theorem fine_lit {s : Str} (h : fineB s = true) : fine (.inr s) := by
  unfold fineB at h
  rw [Bool.and_eq_true, List.all_eq_true] at h
  exact ⟨fun c hc => of_decide_eq_true (h.1 c hc), of_decide_eq_true h.2, fun i e => nomatch e⟩
theorem fine_name {s : Str} (h : isName s = true) : fine (.inr s) := by
  obtain ⟨_, _, h3, h4⟩ := name_parts h
  refine ⟨fun c hc => ?_, show s.length ≤ 61 by omega, fun i e => nomatch e⟩
  have := h4 c hc
  omega
theorem fine_int {n : Int} (h : n.natAbs < 10 ^ 60) : fine (.inl n) := by
  refine ⟨fun c hc => ?_, num_len h, fun i e => Sum.inl.inj e ▸ num_bits h⟩
  rw [tl_int] at hc
  have hd := numL_digits n.natAbs
  split at hc
  · rcases List.mem_cons.mp hc with e | e
    · omega
    · have := hd c e
      omega
  · have := hd c hc
    omega
theorem fine_ops : ∀ s ∈ opsW, fineB s = true := by decide +kernel
theorem fine_boxes : ∀ s ∈ boxesW, fineB s = true := by decide +kernel
theorem fine_pairs : ∀ s ∈ pairsW, fineB s = true := by decide +kernel
theorem fine_wOk : ∀ {k : Key}, wOk k → fine k
  | .inl n, h => fine_int h
  | .inr s, h => h.elim fine_name fun m => fine_lit (fine_ops s m)
theorem fine_shOk {k : Key} (h : shOk k) : fine k := by
  rcases h with h | h | h
  · exact fine_wOk h
  · subst h
    exact fine_lit (by decide +kernel)
  · subst h
    exact fine_lit (by decide +kernel)
theorem fine_mark {c : Nat} {z : Str} (h : mark c z) (hc : 97 ≤ c) : fine (.inr z) := by
  obtain ⟨d, h1, h2, rfl⟩ := h
  refine ⟨fun x hx => ?_, show 2 ≤ 61 by decide, fun i e => nomatch e⟩
  have hx : x ∈ [c, d] := hx
  rcases List.mem_cons.mp hx with e | e
  · omega
  · have := List.mem_singleton.mp e
    omega
theorem fine_from {z : Str} (h : fromOk z) : fine (.inr z) := h.elim (fun m => fine_lit (fine_boxes z m)) fun m => fine_mark m (by decide)
theorem fine_deed {d : List Key} (h : DeedOk d) : d.length ≤ 4 ∧ ∀ k ∈ d, fine k := by
  have lit : ∀ {s : Str}, fineB s = true → fine (.inr s) := fine_lit
  cases h with
  | putN hb hn =>
    refine ⟨show 3 ≤ 4 by decide, fun k hk => ?_⟩
    simp only [List.mem_cons, List.not_mem_nil, or_false] at hk
    rcases hk with e | e | e <;> subst e
    · exact lit (by decide +kernel)
    · exact lit (fine_boxes _ hb)
    · exact fine_int hn
  | putM hb hm =>
    refine ⟨show 3 ≤ 4 by decide, fun k hk => ?_⟩
    simp only [List.mem_cons, List.not_mem_nil, or_false] at hk
    rcases hk with e | e | e <;> subst e
    · exact lit (by decide +kernel)
    · exact lit (fine_boxes _ hb)
    · exact fine_mark hm (by decide)
  | load hb hm =>
    refine ⟨show 3 ≤ 4 by decide, fun k hk => ?_⟩
    simp only [List.mem_cons, List.not_mem_nil, or_false] at hk
    rcases hk with e | e | e <;> subst e
    · exact lit (by decide +kernel)
    · exact lit (fine_boxes _ hb)
    · exact fine_mark hm (by decide)
  | neg hb hf =>
    refine ⟨show 3 ≤ 4 by decide, fun k hk => ?_⟩
    simp only [List.mem_cons, List.not_mem_nil, or_false] at hk
    rcases hk with e | e | e <;> subst e
    · exact lit (by decide +kernel)
    · exact lit (fine_boxes _ hb)
    · exact fine_from hf
  | op ho hb hf hg =>
    refine ⟨show 4 ≤ 4 by decide, fun k hk => ?_⟩
    simp only [List.mem_cons, List.not_mem_nil, or_false] at hk
    rcases hk with e | e | e | e <;> subst e
    · exact lit (fine_pairs _ ho)
    · exact lit (fine_boxes _ hb)
    · exact fine_from hf
    · exact fine_from hg
theorem fine_price {p : Int} (h1 : 1 ≤ p) (h2 : p ≤ 999999) : fine (.inl p) := fine_int (Nat.lt_of_le_of_lt (show p.natAbs ≤ 999999 by omega) (by decide +kernel))
theorem fine_row {r : Row} (h : r.ok) : r.lw.length ≤ 17 ∧ ∀ k ∈ r.lw, fine k := by
  have lit : ∀ {s : Str}, fineB s = true → fine (.inr s) := fine_lit
  cases r with
  | kind n =>
    refine ⟨show 2 ≤ 17 by decide, fun k hk => ?_⟩
    rcases List.mem_cons.mp hk with e | e
    · subst e
      exact lit (by decide +kernel)
    · rw [List.mem_singleton.mp e]
      exact fine_name h
  | rule n kd p sh =>
    obtain ⟨h1, h2, h3, h4, h5, h6, h7⟩ := h
    refine ⟨show sh.length + 5 ≤ 17 by omega, fun k hk => ?_⟩
    rcases List.mem_cons.mp hk with e | hk
    · subst e
      exact lit (by decide +kernel)
    rcases List.mem_cons.mp hk with e | hk
    · subst e
      exact fine_name h1
    rcases List.mem_cons.mp hk with e | hk
    · subst e
      exact fine_name h2
    rcases List.mem_cons.mp hk with e | hk
    · subst e
      exact fine_price h3 h4
    rcases List.mem_cons.mp hk with e | hk
    · subst e
      exact lit (by decide +kernel)
    exact fine_shOk (h7 k hk)
  | does n d =>
    obtain ⟨h1, h2⟩ := h
    have hd := fine_deed h2
    refine ⟨show d.length + 2 ≤ 17 by omega, fun k hk => ?_⟩
    rcases List.mem_cons.mp hk with e | hk
    · subst e
      exact lit (by decide +kernel)
    rcases List.mem_cons.mp hk with e | hk
    · subst e
      exact fine_name h1
    exact hd.2 k hk
  | nil =>
    refine ⟨show 1 ≤ 17 by decide, fun k hk => ?_⟩
    rw [List.mem_singleton.mp hk]
    exact lit (by decide +kernel)
def lineOf (ks : List Key) : Str := Txt.join " " (ks.map txt)
def line (r : Row) : Str := lineOf r.lw
def textOf (rs : List Row) : Str := Txt.join "\n" (rs.map line)
theorem tl_blank : tl (" " : Str) = [32] := by decide +kernel
theorem tl_feed : tl ("\n" : Str) = [10] := by decide +kernel
theorem mem_joinL {S : List Nat} {c : Nat} : ∀ {ls : List (List Nat)}, c ∈ joinL S ls → c ∈ S ∨ ∃ l ∈ ls, c ∈ l
  | [], h => by cases h
  | [p], h => .inr ⟨p, List.mem_singleton.mpr rfl, h⟩
  | p :: q :: r, h => by
    have h : c ∈ p ++ (S ++ joinL S (q :: r)) := h
    rcases List.mem_append.mp h with h | h
    · exact .inr ⟨p, List.mem_cons_self .., h⟩
    rcases List.mem_append.mp h with h | h
    · exact .inl h
    rcases mem_joinL h with h | ⟨l, h1, h2⟩
    · exact .inl h
    · exact .inr ⟨l, List.mem_cons_of_mem _ h1, h2⟩
theorem len_joinL {S : List Nat} {m : Nat} : ∀ {ls : List (List Nat)}, (∀ l ∈ ls, l.length ≤ m) → (joinL S ls).length ≤ ls.length * (m + S.length)
  | [], _ => Nat.zero_le _
  | [p], h => by
    have := h p (List.mem_singleton.mpr rfl)
    show p.length ≤ 1 * (m + S.length)
    omega
  | p :: q :: r, h => by
    have h1 := h p (List.mem_cons_self ..)
    have ih := len_joinL (S := S) (m := m) (ls := q :: r) fun l hl => h l (List.mem_cons_of_mem _ hl)
    show (p ++ (S ++ joinL S (q :: r))).length ≤ ((q :: r).length + 1) * (m + S.length)
    rw [List.length_append, List.length_append, Nat.add_mul, Nat.one_mul]
    omega
theorem tl_lineOf (ks : List Key) : tl (lineOf ks) = joinL [32] (ks.map fun k => tl (txt k)) := by
  unfold lineOf
  rw [join_eq, tl_join, tl_blank, List.map_map]
  rfl
theorem lineOf_len {ks : List Key} (h : ks.length ≤ 17) (hf : ∀ k ∈ ks, fine k) : (lineOf ks).length ≤ 1054 := by
  rw [len_tl, tl_lineOf]
  have q := len_joinL (S := [32]) (m := 61) (ls := ks.map fun k => tl (txt k)) fun l hl => by
    obtain ⟨k, hk, rfl⟩ := List.mem_map.mp hl
    have := (hf k hk).2.1
    rw [len_tl] at this
    exact this
  rw [List.length_map] at q
  have e : ([32] : List Nat).length = 1 := rfl
  rw [e] at q
  omega
theorem line_len {r : Row} (h : r.ok) : (line r).length ≤ 1054 := lineOf_len (fine_row h).1 (fine_row h).2
theorem line_free {r : Row} (h : r.ok) : 10 ∉ tl (line r) := by
  intro m
  unfold line at m
  rw [tl_lineOf] at m
  rcases mem_joinL m with m | ⟨l, hl, m⟩
  · exact absurd (List.mem_singleton.mp m) (by decide)
  · obtain ⟨k, hk, rfl⟩ := List.mem_map.mp hl
    exact (((fine_row h).2 k hk).1 10 m).1 rfl
theorem lw_ne (r : Row) : r.lw ≠ [] := by cases r <;> exact List.cons_ne_nil _ _
theorem line_split {r : Row} (h : r.ok) : Txt.split (line r) " " = r.lw.map txt := by
  refine split_join tl_blank (by decide +kernel) (fun e => lw_ne r (List.map_eq_nil_iff.mp e)) fun p hp m => ?_
  obtain ⟨k, hk, rfl⟩ := List.mem_map.mp hp
  exact (((fine_row h).2 k hk).1 32 m).2 rfl
theorem text_split {rs : List Row} (h : ∀ r ∈ rs, r.ok) (hne : rs ≠ []) : Txt.split (textOf rs) "\n" = rs.map line := by
  refine split_join tl_feed (by decide +kernel) (fun e => hne (List.map_eq_nil_iff.mp e)) fun p hp m => ?_
  obtain ⟨r, hr, rfl⟩ := List.mem_map.mp hp
  exact line_free (h r hr) m
theorem text_len {rs : List Row} (h : ∀ r ∈ rs, r.ok) : (textOf rs).length ≤ rs.length * 1055 := by
  unfold textOf
  rw [len_tl, join_eq, tl_join, tl_feed, List.map_map]
  have q := len_joinL (S := [10]) (m := 1054) (ls := rs.map (tl ∘ line)) fun l hl => by
    obtain ⟨r, hr, rfl⟩ := List.mem_map.mp hl
    have := line_len (h r hr)
    rw [len_tl] at this
    exact this
  rw [List.length_map] at q
  exact q
theorem line_nil : line .nil = "" := by decide +kernel
theorem tl_empty : tl ("" : Str) = [] := by decide +kernel
theorem line_not {r : Row} (h : r ≠ .nil) : line r ≠ "" := by
  intro e
  have e2 := str_eq.mp e
  unfold line at e2
  rw [tl_lineOf, tl_empty] at e2
  have two : ∀ (a b : List Nat) (l : List (List Nat)), joinL [32] (a :: b :: l) = [] → False := by
    intro a b l e
    have e : a ++ (32 :: joinL [32] (b :: l)) = [] := e
    rw [List.append_eq_nil_iff] at e
    exact nomatch e.2
  cases r with
  | kind n => exact two _ _ _ e2
  | rule n k p sh => exact two _ _ _ e2
  | does n d => exact two _ _ _ e2
  | nil => exact h rfl

def notNil : Row → Bool
  | .nil => false
  | _ => true
/-- what a row told looks like, behind its number -/
def Told (H : Hp) (r : Row) (v : V) : Prop := ∃ k : Int, Holds H (.t [.w (.inl k), toldT r]) v
theorem Told.mono {H H' : Hp} {r : Row} {v : V} (s : TupLe H H') (h : Told H r v) : Told H' r v := h.elim fun k q => ⟨k, Holds.mono s q⟩
def wsOk (ks : List Key) : Prop := ks.length ≤ 17 ∧ ∀ k ∈ ks, fine k
def sp_joined (K : PySem.W.Frag) : Sp := fun vs H Q _ => ∃ (a : Addr) (ks : List Key), vs = [.ref a] ∧ SqL K H a (ks.map kV) ∧ wsOk ks ∧ ∀ H', Same H H' → Q (.str (lineOf ks)) H'
def sp_rows_told (K : PySem.W.Frag) : Sp := fun vs H Q _ => ∃ rs : List Row, vs = [.str (textOf rs)] ∧ rs ≠ [] ∧ rs.length ≤ 5000 ∧ (∀ r ∈ rs, r.ok) ∧
  ∀ p us H', Same H H' → H p = none → H' p = some (.lst us) → Paired (Told H') (rs.filter notNil) us → Q (.ref p) H'
theorem join_size {ks : List Key} (h : wsOk ks) : ((ks.map txt).map (·.length)).sum + (ks.map txt).length * (" " : Str).length ≤ 16777216 := by
  have e : (" " : Str).length = 1 := by decide +kernel
  rw [e, List.length_map]
  have q : ∀ l : List Key, (∀ k ∈ l, fine k) → ((l.map txt).map (·.length)).sum ≤ l.length * 61 := by
    intro l
    induction l with
    | nil => intro _; exact Nat.le_refl _
    | cons a r ih =>
      intro hf
      have h1 := (hf a (List.mem_cons_self ..)).2.1
      have h2 := ih fun k hk => hf k (List.mem_cons_of_mem _ hk)
      rw [List.map_cons, List.map_cons, List.sum_cons, List.length_cons]
      omega
  have := q ks h.2
  have := h.1
  omega
section
variable {P : Program} {w : World} {K : PySem.W.Frag} {mg : Str → Option Value} {base : Heap}
theorem sc_joined : FnScope ["words", "word"] ["words"] (defScope s_joined) := ⟨rfl, rfl, rfl, by decide +kernel, rfl, by decide +kernel, by decide +kernel⟩
theorem ok_joined (T : Txt K mg)  {f : Addr} {fd : FuncData} (F : FnP K "joined" s_joined f fd) : FnOk P w K mg base CX0 1 f fd ["words"] (sp_joined K) := by
  refine F.ok sc_joined (fun vs H Q E h => ?_) (fun cdv A outer s H vs Q E hr h => ⟨_, PSs.nox ((pss_one (ps_ret (kx_join K pe_str (pe_lc (own := [("word", 1)]) rfl sc_joined.nd (kx_piL K (pv 0)) (blkOk_by (own := [("word", 1)]) (N := ["words", "word"]) (sc := defScope s_joined) (by decide +kernel)) (fun _ _ _ _ _ => by exact (pg_name (i := 1) sc_joined.nd rfl (Or.inl rfl))) (fun _ _ _ _ _ => pts_nil) (fun _ _ _ _ _ => by exact (pe_callTy cq_str (by rfl) T.str_ (by decide +kernel) (pa_cons (pv 1) pa_nil)))))))), ?_⟩)
  · obtain ⟨a, ks, rfl, _⟩ := h
    rfl
  · obtain ⟨a, ks, rfl, hS, hk, k⟩ := h
    walk_at "pc"
    refine ⟨a, rfl, ⟨_, hS⟩, fun D hD => ?_⟩
    refine lc_pure (walk_list (xs := ks.map kV)) (fun _ => true) txt (ds := ks) (Src := SrcK kV) (Out := OutS) hD (List.length_map _).symm (by rw [List.length_map]; have := hk.1; omega) (fun H2 s => s.seq hS) (gives_at (paired_map _ ks) fun _ _ _ _ h => h) (fun _ _ _ _ _ h => h) (fun c x H2 N1 N2 hc s hs n1 n2 => ?_) (fun H2 ys s hy hp => ?_)
    · cases hs
      walk_at "pc"
      refine ⟨rfl, ?_⟩
      walk_at "pc"
      exact i_strK (hk.2 c hc).2.2 (n1 rfl _ _ (Same.refl _) rfl)
    rw [List.filter_eq_self.mpr (fun _ _ => rfl)] at hp
    have e := paired_fn (F := V.str) (fun b v h => h) hp
    subst e
    exact i_join (SqL.of hy) (join_size hk) (k _ s)
theorem sc_rows_told : FnScope ["text", "found", "at", "row", "told"] ["text"] (defScope s_rows_told) := ⟨rfl, rfl, rfl, by decide +kernel, rfl, by decide +kernel, by decide +kernel⟩
theorem ok_rows_told (T : Txt K mg) (C_row_told : Callee P w K mg base "row_told" 5 ["words"] (sp_row_told K)) {f : Addr} {fd : FuncData} (F : FnP K "rows_told" s_rows_told f fd) : FnOk P w K mg base CX0 6 f fd ["text"] (sp_rows_told K) := by
  refine F.ok sc_rows_told (fun vs H Q E h => ?_) (fun cdv A outer s H vs Q E hr h => ⟨_, PSs.nox ((pss_cons (ps_set (i := 1) sc_rows_told.nd rfl (Or.inl rfl) (pe_lst pa_nil))
  (pss_cons (ps_for PassesOwn.never rfl (kx_enum K (by rfl) T.enumerate_ (pa_cons (peq_split (pv 0) pe_str) pa_nil)) (kx_pgT K 2 rfl (pgs_cons (pg_name (i := 2) sc_rows_told.nd rfl (Or.inl rfl)) (pgs_cons (pg_name (i := 3) sc_rows_told.nd rfl (Or.inl rfl)) pgs_nil)))
   (pss_one (ps_if (pt_cmpR op_ne (pv 3) pe_str (nomark _)) (pss_cons (ps_set (i := 4) sc_rows_told.nd rfl (Or.inl rfl) (pe_cc C_row_told (hr.mono (by decide)) (pa_cons (peq_split (pv 3) pe_str) pa_nil)))
  (pss_cons (ps_if (pt_cmpR oq_non (pv 4) pe_non (nomark _)) (pss_one ps_never) pss_nil)
  (pss_one (ps_expr (kx_app K (pv 1) (pa_cons (pe_tup (pa_cons (pe_op op_add (pv 2) pe_int) (pa_cons (pv 4) pa_nil))) pa_nil)))))) pss_nil)))
  (pss_one (ps_ret (pv 1)))))), ?_⟩)
  · obtain ⟨rs, rfl, _⟩ := h
    rfl
  · obtain ⟨rs, rfl, hne, hrl, hok, k⟩ := h
    have ht := text_len hok
    walk_at "pc"
    refine ⟨Nat.zero_le _, fun f hf => ?_⟩
    walk_at "pc"
    refine i_split (by decide +kernel) (by rw [sizeLine_eq]; omega) fun l hl => ?_
    rw [text_split hok hne]
    walk_at "pc"
    have hfl : f ≠ l := fun q => by
      rw [← q, upd_same] at hl
      cases hl
    refine ⟨l, _, rfl, SqL.of upd_same, for_it walk_enum (fun i σ' H' => ∃ o2 o3 o4, σ' = [some (.str (textOf rs)), some (.ref f), o2, o3, o4] ∧ Same H H' ∧ H' l = some (.lst ((rs.map line).map V.str)) ∧
      ∃ us, H' f = some (.lst us) ∧ us.length ≤ i ∧ Paired (Told H') ((rs.take i).filter notNil) us) ?_ (fun i σ' H' _ ⟨_, _, _, _, _, q, _⟩ => SqL.of q) ?_ ?_⟩
    · exact ⟨none, none, none, rfl, same_new (same_upd hf) ((same_upd hf).free hl), upd_same, [], (upd_ne hfl).trans upd_same, Nat.le_refl _, .nil⟩
    · rintro i x σ' H1 H2 hi ⟨o2, o3, o4, rfl, s1, hl1, us, hf1, hul, hp⟩ ⟨t, x1, y1, rfl, htn, rfl, e1, e2⟩
      have e1 := Option.some.inj e1
      subst e1
      rw [List.length_map, List.length_map] at hi
      obtain ⟨r, hr⟩ : ∃ r, rs[i]? = some r := ⟨rs[i], by rw [List.getElem?_eq_getElem hi]⟩
      have e3 : y1 = .str (line r) := by
        have e2 : ((rs.map line).map V.str)[i]? = some y1 := e2
        rw [List.getElem?_map, List.getElem?_map, hr] at e2
        exact (Option.some.inj e2).symm
      subst e3
      have hro := hok r (List.mem_of_getElem? hr)
      have s2 : Same H1 (upd H1 t (.tup [.int (i : Nat), .str (line r)])) := same_upd htn
      have hl2 := s2 _ _ hl1
      have hf2 := s2 _ _ hf1
      have hp2 := Paired.mapP hp fun a v => Told.mono (r := a) (v := v) (tup_same s2)
      refine i_g2 (SqT.of upd_same) ?_
      generalize upd H1 t (.tup [.int (i : Nat), .str (line r)]) = H2 at s2 hl2 hf2 hp2
      have s3 := s1.trans s2
      walk_at "pc"
      by_cases en : r = .nil
      · subst en
        refine ifN (by rw [line_nil, decide_eq_true rfl]; rfl) ?_
        walk_at "pc"
        refine ⟨_, _, _, rfl, s3, hl2, us, hf2, by omega, ?_⟩
        rw [take_snoc hr, List.filter_append]
        show Paired (Told H2) ((rs.take i).filter notNil ++ []) us
        rw [List.append_nil]
        exact hp2
      · have hnn : notNil r = true := by cases r <;> first | rfl | exact absurd rfl en
        refine ifY (by rw [decide_eq_false (fun q => line_not en (by injection q))]; rfl) ?_
        walk_at "pc"
        refine i_split (by decide +kernel) (by have := line_len hro; rw [sizeLine_eq]; omega) fun q hq => ?_
        rw [line_split hro]
        have s4 : Same H2 (upd H2 q (.lst ((r.lw.map txt).map V.str))) := same_upd hq
        walk_at "pc"
        refine ⟨q, r, rfl, SqL.of (upd_same.trans (by unfold wordsV; rw [List.map_map]; rfl)), hro, en, fun v H3 s5 hv => ?_⟩
        have s6 := s4.trans s5
        have hl3 := s6 _ _ hl2
        have hf3 := s6 _ _ hf2
        have hp3 := Paired.mapP hp2 fun a v => Told.mono (r := a) (v := v) (tup_same s6)
        have hvn : decide (v = .non) = false := by
          have e : ∃ l, toldT r = .t l := by cases r <;> exact ⟨_, rfl⟩
          obtain ⟨l', e⟩ := e
          rw [e] at hv
          obtain ⟨b, _, e2, _⟩ := holds_t.mp hv
          rw [e2]
          rfl
        walk_at "pc"
        refine ifN hvn ?_
        walk_at "pc"
        refine ⟨show 2 ≤ sizeLine by decide, fun u hu => ?_⟩
        have s7 : Same H3 (upd H3 u (.tup [.int ((i : Nat) + 1), v])) := same_upd hu
        have hf4 := s7 _ _ hf3
        have hl4 := s7 _ _ hl3
        walk_at "pc"
        refine i_append hf4 (by rw [sizeLine_eq]; omega) ?_
        have tl5 := tup_lst (o := .lst (us ++ [.ref u])) hf4
        refine ⟨_, _, _, rfl, same_new (s3.trans (s6.trans s7)) hf, (upd_ne (Ne.symm hfl)).trans hl4, _, upd_same, by rw [List.length_append, List.length_singleton]; omega, ?_⟩
        rw [take_snoc hr, List.filter_append, List.filter_cons, if_pos hnn]
        refine Paired.snoc (Paired.mapP hp3 fun a v => Told.mono ((tup_same s7).trans tl5)) ⟨((i : Nat) : Int) + 1, ?_⟩
        exact Holds.tup (tl5 _ _ upd_same) (HoldsL.one (Holds.int _) (HoldsL.one (Holds.mono ((tup_same s7).trans tl5) hv) HoldsL.nil))
    · rintro σ' H1 ⟨o2, o3, o4, rfl, s1, hl1, us, hf1, hul, hp⟩
      walk_at "pc"
      refine k f us H1 s1 hf hf1 ?_
      rw [List.length_map, List.length_map, List.take_length] at hp
      exact hp
end
/-! Books as trees; a dict of lists of deeds. -/
structure Head where
  n : Str
  k : Str
  p : Int
  sh : List Key
def isKind : Row → Bool
  | .kind _ => true
  | _ => false
def isRule : Row → Bool
  | .rule _ _ _ _ => true
  | _ => false
def isDoes : Row → Bool
  | .does _ _ => true
  | _ => false
def kindName : Row → Str
  | .kind n => n
  | _ => ""
def headOf : Row → Head
  | .rule n k p sh => ⟨n, k, p, sh⟩
  | _ => ⟨"", "", 0, []⟩
def doesFor (n : Str) : Row → Bool
  | .does m _ => decide (m = n)
  | _ => false
def deedOf : Row → List Key
  | .does _ d => d
  | _ => []
def kindsOf (rs : List Row) : List Str := (rs.filter isKind).map kindName
def headsOf (rs : List Row) : List Head := (rs.filter isRule).map headOf
def deedsOf (rs : List Row) (n : Str) : List (List Key) := (rs.filter (doesFor n)).map deedOf
abbrev Rule : Type := Head × List (List Key)
abbrev Book : Type := List Str × List Rule
def gv (D : Str → List (List Key)) (seen : List Str) (n : Str) : List (List Key) := if n ∈ seen then [] else D n
def mkRules (D : Str → List (List Key)) : List Str → List Head → List Rule
  | _, [] => []
  | seen, h :: r => (h, gv D seen h.n) :: mkRules D (seen ++ [h.n]) r
def due (rs : List Row) : Book := (kindsOf rs, mkRules (deedsOf rs) [] (headsOf rs))
def headT (h : Head) : Tr := ruleT h.n h.k h.p h.sh
def fullT (x : Rule) : Tr := .t [.w (.inr x.1.n), .w (.inr x.1.k), .w (.inl x.1.p), flatT x.1.sh, .t (x.2.map flatT)]
def bookT (b : Book) : Tr := .t [.t (b.1.map fun k => .w (.inr k)), .t (b.2.map fullT)]
/-- each deed's name is a rule's -/
def named (rs : List Row) : Prop := ∀ n d, Row.does n d ∈ rs → n ∈ (headsOf rs).map (·.n)

theorem filter_not {p : Row → Bool} (h : p .nil = false) (rs : List Row) : (rs.filter notNil).filter p = rs.filter p := by
  rw [List.filter_filter]
  refine List.filter_congr fun r _ => ?_
  cases r with
  | nil => rw [h]; rfl
  | _ => exact Bool.and_true _
theorem kinds_not (rs : List Row) : kindsOf (rs.filter notNil) = kindsOf rs := by unfold kindsOf; rw [filter_not rfl]
theorem heads_not (rs : List Row) : headsOf (rs.filter notNil) = headsOf rs := by unfold headsOf; rw [filter_not rfl]
theorem deeds_not (rs : List Row) (n : Str) : deedsOf (rs.filter notNil) n = deedsOf rs n := by unfold deedsOf; rw [filter_not rfl]
theorem mk_len (D : Str → List (List Key)) : ∀ (hs : List Head) (seen : List Str), (mkRules D seen hs).length = hs.length
  | [], _ => rfl
  | h :: r, seen => by
    show (mkRules D (seen ++ [h.n]) r).length + 1 = r.length + 1
    rw [mk_len D r]
theorem mk_get (D : Str → List (List Key)) : ∀ {hs : List Head} {seen : List Str} {i : Nat} {h : Head}, hs[i]? = some h → (mkRules D seen hs)[i]? = some (h, gv D (seen ++ (hs.take i).map (·.n)) h.n)
  | [], _, i, h, e => by simp at e
  | a :: r, seen, 0, h, e => by
    have e : a = h := Option.some.inj e
    subst e
    show some (a, gv D seen a.n) = some (a, gv D (seen ++ []) a.n)
    rw [List.append_nil]
  | a :: r, seen, i + 1, h, e => by
    have ih := mk_get D (hs := r) (seen := seen ++ [a.n]) (i := i) (h := h) e
    show (mkRules D (seen ++ [a.n]) r)[i]? = some (h, gv D (seen ++ (a.n :: (r.take i).map (·.n))) h.n)
    rw [ih, List.append_assoc]
    rfl

/-! ### the dict of deeds -/
theorem put_len {κ : Type} [DecidableEq κ] (c : List (κ × V)) (k : κ) (x : V) : (putK c k x).length ≤ c.length + 1 := by
  unfold putK
  split
  · rw [List.length_map]
    omega
  · rw [List.length_append, List.length_singleton]
    omega
theorem val_drop (k j : Key) : ∀ kvs : List (Key × V), valV (dropK kvs k) j = if j = k then none else valV kvs j
  | [] => by
    show valV [] j = if j = k then none else valV [] j
    rw [valV_nil]
    split <;> rfl
  | p :: r => by
    have ih := val_drop k j r
    by_cases e : p.1 = k
    · rw [dropK_pos e, ih]
      by_cases e2 : j = k
      · rw [if_pos e2, if_pos e2]
      · rw [if_neg e2, if_neg e2, valV_neg (fun q => e2 (q.symm.trans e))]
    · rw [dropK_neg e]
      by_cases e3 : p.1 = j
      · rw [valV_pos e3, if_neg (fun q => e (e3.trans q)), valV_pos e3]
      · rw [valV_neg e3, valV_neg e3, ih]
def OutD (H : Hp) (d : List Key) (v : V) : Prop := Holds H (flatT d) v
theorem OutD.mono {H H' : Hp} {d : List Key} {v : V} (s : TupLe H H') (h : OutD H d v) : OutD H' d v := Holds.mono s h
/-- at d a dict of lists: for n of names the list at A n, of the deeds L n; B: what else stands -/
structure DI (B H : Hp) (d : Addr) (A : Str → Addr) (names : List Str) (L : Str → List (List Key)) (m : Nat) : Prop where
  at_ : ∃ kvs, H d = some (.dK kvs) ∧ kvs.length ≤ m ∧ ∀ n, valV kvs (.inr n) = if n ∈ names then some (.ref (A n)) else none
  here : ∀ n ∈ names, ∃ vs, H (A n) = some (.lst vs) ∧ vs.length ≤ m ∧ Paired (OutD H) (L n) vs
  inj : ∀ n n', n ∈ names → n' ∈ names → A n = A n' → n = n'
  new : ∀ n ∈ names, B (A n) = none
  dnew : B d = none
theorem DI.mono {B H H' : Hp} {d : Addr} {A : Str → Addr} {names : List Str} {L : Str → List (List Key)} {m m' : Nat} (x : DI B H d A names L m) (s : Same H H') (hm : m ≤ m') : DI B H' d A names L m' := by
  obtain ⟨⟨kvs, h1, h2, h3⟩, h4, h5, h6, h7⟩ := x
  refine ⟨⟨kvs, s _ _ h1, Nat.le_trans h2 hm, h3⟩, fun n hn => ?_, h5, h6, h7⟩
  obtain ⟨vs, e, el, p⟩ := h4 n hn
  exact ⟨vs, s _ _ e, Nat.le_trans el hm, Paired.mapP p fun a v => OutD.mono (tup_same s)⟩
/-- a name's list is made anew -/
theorem DI.put {B H : Hp} {d : Addr} {A : Str → Addr} {names : List Str} {m : Nat} (x : DI B H d A names (fun _ => []) m) {p : Addr} (hp : H p = none) (hB : B p = none) (n : Str) {kvs : List (Key × V)} (hk : H d = some (.dK kvs)) :
    DI B (upd (upd H p (.lst [])) d (.dK (putK kvs (.inr n) (.ref p)))) d (fun k => if k = n then p else A k) (names ++ [n]) (fun _ => []) (m + 1) := by
  obtain ⟨⟨kvs', h1, h2, h3⟩, h4, h5, h6, h7⟩ := x
  rw [hk] at h1
  cases h1
  have hpd : p ≠ d := fun q => by rw [q, hk] at hp; cases hp
  refine ⟨⟨_, upd_same, Nat.le_trans (put_len _ _ _) (Nat.succ_le_succ h2), fun k => ?_⟩, fun k hm => ?_, fun k k' hm hm' e => ?_, fun k hm => ?_, h7⟩
  · rw [valV_put]
    by_cases e : k = n
    · subst e
      rw [if_pos rfl, if_pos (List.mem_append_right _ (List.mem_singleton.mpr rfl)), if_pos rfl]
    · rw [if_neg (fun q => e (Sum.inr.inj q)), h3, if_neg e]
      by_cases e2 : k ∈ names
      · rw [if_pos e2, if_pos (List.mem_append_left _ e2)]
      · rw [if_neg e2, if_neg (fun q => (List.mem_append.mp q).elim e2 fun z => e (List.mem_singleton.mp z))]
  · by_cases e : k = n
    · refine ⟨[], ?_, Nat.zero_le _, .nil⟩
      show upd _ d _ (if k = n then p else A k) = _
      rw [if_pos e, upd_ne hpd, upd_same]
    · have hk' : k ∈ names := (List.mem_append.mp hm).elim id fun z => absurd (List.mem_singleton.mp z) e
      obtain ⟨vs, e1, e2, e3⟩ := h4 k hk'
      have n1 : A k ≠ d := fun q => by rw [q, hk] at e1; cases e1
      have n2 : A k ≠ p := ne_of_none e1 hp
      cases e3
      refine ⟨[], ?_, Nat.zero_le _, .nil⟩
      show upd _ d _ (if k = n then p else A k) = _
      rw [if_neg e, upd_ne n1, upd_ne n2]
      exact e1
  · have e : (if k = n then p else A k) = (if k' = n then p else A k') := e
    have old : ∀ {j : Str}, j ∈ names ++ [n] → ¬ j = n → j ∈ names := fun hj hne => (List.mem_append.mp hj).elim id fun z => absurd (List.mem_singleton.mp z) hne
    have np : ∀ {j : Str}, j ∈ names → A j ≠ p := fun hj => by
      obtain ⟨vs, e1, _⟩ := h4 _ hj
      exact ne_of_none e1 hp
    by_cases c : k = n
    · by_cases c' : k' = n
      · rw [c, c']
      · rw [if_pos c, if_neg c'] at e
        exact absurd e.symm (np (old hm' c'))
    · by_cases c' : k' = n
      · rw [if_neg c, if_pos c'] at e
        exact absurd e (np (old hm c))
      · rw [if_neg c, if_neg c'] at e
        exact h5 k k' (old hm c) (old hm' c') e
  · show B (if k = n then p else A k) = none
    by_cases e : k = n
    · rw [if_pos e]
      exact hB
    · rw [if_neg e]
      exact h6 k ((List.mem_append.mp hm).elim id fun z => absurd (List.mem_singleton.mp z) e)
/-- a deed more for the name n -/
theorem DI.add {B H : Hp} {d : Addr} {A : Str → Addr} {names : List Str} {L : Str → List (List Key)} {m : Nat} (x : DI B H d A names L m) {n : Str} (hn : n ∈ names) {vs : List V} (hv : H (A n) = some (.lst vs)) {e : List Key} {v : V} (he : OutD H e v) :
    DI B (upd H (A n) (.lst (vs ++ [v]))) d A names (fun k => if k = n then L k ++ [e] else L k) (m + 1) := by
  obtain ⟨⟨kvs, h1, h2, h3⟩, h4, h5, h6, h7⟩ := x
  have tl := tup_lst (o := .lst (vs ++ [v])) hv
  have nd : d ≠ A n := fun q => by rw [← q, h1] at hv; cases hv
  refine ⟨⟨kvs, (upd_ne nd).trans h1, by omega, h3⟩, fun k hk => ?_, h5, h6, h7⟩
  obtain ⟨us, e1, e2, e3⟩ := h4 k hk
  by_cases c : k = n
  · subst c
    rw [hv] at e1
    cases e1
    refine ⟨_, upd_same, by rw [List.length_append, List.length_singleton]; omega, ?_⟩
    rw [if_pos rfl]
    exact Paired.snoc (Paired.mapP e3 fun a v => OutD.mono tl) (OutD.mono tl he)
  · refine ⟨us, (upd_ne (fun q => c (h5 k n hk hn q))).trans e1, by omega, ?_⟩
    rw [if_neg c]
    exact Paired.mapP e3 fun a v => OutD.mono tl
/-- a name is taken out -/
theorem DI.drop {B H : Hp} {d : Addr} {A : Str → Addr} {names : List Str} {L : Str → List (List Key)} {m : Nat} (x : DI B H d A names L m) {kvs : List (Key × V)} (hk : H d = some (.dK kvs)) (n : Str) :
    DI B (upd H d (.dK (dropK kvs (.inr n)))) d A (names.filter fun k => decide (k ≠ n)) L m := by
  obtain ⟨⟨kvs', h1, h2, h3⟩, h4, h5, h6, h7⟩ := x
  rw [hk] at h1
  cases h1
  have tl := tup_dk (o := .dK (dropK kvs (.inr n))) hk
  have mem : ∀ {k : Str}, (k ∈ names.filter fun k => decide (k ≠ n)) ↔ k ∈ names ∧ k ≠ n := fun {k} => by rw [List.mem_filter, decide_eq_true_eq]
  refine ⟨⟨_, upd_same, Nat.le_trans (List.length_filter_le _ _) h2, fun k => ?_⟩, fun k hm => ?_, fun k k' hm hm' e => h5 k k' (mem.mp hm).1 (mem.mp hm').1 e, fun k hm => h6 k (mem.mp hm).1, h7⟩
  · rw [val_drop, h3]
    by_cases e : k = n
    · subst e
      rw [if_pos rfl, if_neg (fun q => (mem.mp q).2 rfl)]
    · rw [if_neg (fun q => e (Sum.inr.inj q))]
      by_cases e2 : k ∈ names
      · rw [if_pos e2, if_pos (mem.mpr ⟨e2, e⟩)]
      · rw [if_neg e2, if_neg (fun q => e2 (mem.mp q).1)]
  · obtain ⟨us, e1, e2, e3⟩ := h4 k (mem.mp hm).1
    exact ⟨us, (upd_ne (fun q => by rw [q, hk] at e1; cases e1)).trans e1, e2, Paired.mapP e3 fun a v => OutD.mono tl⟩
theorem DI.base {B H : Hp} {d : Addr} {A : Str → Addr} {names : List Str} {L : Str → List (List Key)} {m : Nat} (x : DI B H d A names L m) {p : Addr} {o : HO} (hp : H p = none) : DI (upd B p o) H d A names L m := by
  refine ⟨x.at_, x.here, x.inj, fun n hn => ?_, ?_⟩
  · obtain ⟨vs, e, _⟩ := x.here n hn
    rw [upd_ne (ne_of_none e hp)]
    exact x.new n hn
  · obtain ⟨kvs, e, _⟩ := x.at_
    rw [upd_ne (ne_of_none e hp)]
    exact x.dnew
theorem DI.names {B H : Hp} {d : Addr} {A : Str → Addr} {names names' : List Str} {L : Str → List (List Key)} {m : Nat} (x : DI B H d A names L m) (h : ∀ k, k ∈ names ↔ k ∈ names') : DI B H d A names' L m := by
  obtain ⟨⟨kvs, h1, h2, h3⟩, h4, h5, h6, h7⟩ := x
  refine ⟨⟨kvs, h1, h2, fun n => ?_⟩, fun n hn => h4 n ((h n).mpr hn), fun n n' hn hn' => h5 n n' ((h n).mpr hn) ((h n').mpr hn'), fun n hn => h6 n ((h n).mpr hn), h7⟩
  rw [h3]
  by_cases c : n ∈ names
  · rw [if_pos c, if_pos ((h n).mp c)]
  · rw [if_neg c, if_neg (fun q => c ((h n).mpr q))]
theorem DI.list {B H : Hp} {d : Addr} {A : Str → Addr} {names : List Str} {L L' : Str → List (List Key)} {m : Nat} (x : DI B H d A names L m) (h : ∀ n, L n = L' n) : DI B H d A names L' m := by
  have e : L = L' := funext h
  exact e ▸ x
theorem DI.other {B H : Hp} {d : Addr} {A : Str → Addr} {names : List Str} {L : Str → List (List Key)} {m : Nat} (x : DI B H d A names L m) {p : Addr} {o o' : HO} {ys : List V} (hB : B p = some o) (hp : H p = some (.lst ys)) : DI B (upd H p o') d A names L m := by
  obtain ⟨⟨kvs, h1, h2, h3⟩, h4, h5, h6, h7⟩ := x
  have tl := tup_lst (o := o') hp
  refine ⟨⟨kvs, (upd_ne (fun q => by rw [q, hB] at h7; cases h7)).trans h1, h2, h3⟩, fun n hn => ?_, h5, h6, h7⟩
  obtain ⟨vs, e, el, q⟩ := h4 n hn
  exact ⟨vs, (upd_ne (fun q => by have := h6 n hn; rw [q, hB] at this; cases this)).trans e, el, Paired.mapP q fun a v => OutD.mono tl⟩
theorem dgot {H : Hp} {d : Addr} {kvs : List (Key × V)} {k : Key} {v : V} (h : H d = some (.dK kvs)) (e : valV kvs k = some v) : DGet H d (kV k) (some v) := e ▸ DGet.k h
/-- what else stands, stands -/
theorem DI.same_add {B H : Hp} {d : Addr} {A : Str → Addr} {names : List Str} {L : Str → List (List Key)} {m : Nat} (x : DI B H d A names L m) {n : Str} (hn : n ∈ names) {o : HO} (s : Same B H) : Same B (upd H (A n) o) := same_new s (x.new n hn)
theorem deeds_snoc (rs : List Row) (n : Str) (d : List Key) (k : Str) : deedsOf (rs ++ [.does n d]) k = if k = n then deedsOf rs k ++ [d] else deedsOf rs k := by
  unfold deedsOf
  rw [List.filter_append, List.map_append]
  by_cases e : k = n
  · subst e
    rw [if_pos rfl, List.filter_cons, if_pos (show doesFor k (.does k d) = true from decide_eq_true rfl)]
    rfl
  · rw [if_neg e, List.filter_cons, if_neg (show ¬ doesFor k (.does n d) = true from fun q => e (of_decide_eq_true q).symm)]
    exact List.append_nil _
theorem deeds_same (rs : List Row) (r : Row) (h : isDoes r = false) (k : Str) : deedsOf (rs ++ [r]) k = deedsOf rs k := by
  unfold deedsOf
  rw [List.filter_append, List.map_append, List.filter_cons, if_neg (by cases r <;> first | exact Bool.false_ne_true | exact absurd (show true = false from h) (by decide))]
  exact List.append_nil _
theorem told_open {H : Hp} {r : Row} {x : V} (h : Told H r x) : ∃ t k b vs l, x = .ref t ∧ H t = some (.tup [.int k, .ref b]) ∧ H b = some (.tup vs) ∧ toldT r = .t l ∧ HoldsL H l vs := by
  obtain ⟨k, h⟩ := h
  obtain ⟨t, us, rfl, ht, hu⟩ := holds_t.mp h
  obtain ⟨v1, u1, rfl, h1, h2⟩ := holdsL_cons.mp hu
  obtain ⟨v2, u2, rfl, h3, h4⟩ := holdsL_cons.mp h2
  rw [holdsL_nil.mp h4, holds_w.mp h1] at ht
  have e : ∃ l, toldT r = .t l := by cases r <;> exact ⟨_, rfl⟩
  obtain ⟨l, e⟩ := e
  rw [e] at h3
  obtain ⟨b, vs, rfl, hb, hl⟩ := holds_t.mp h3
  exact ⟨t, k, b, vs, l, rfl, ht, hb, e, hl⟩
theorem two_keys {H : Hp} {a b : Key} {vs : List V} (h : HoldsL H [.w a, .w b] vs) : vs = [kV a, kV b] := holdsL_w (ks := [a, b]).mp h
theorem holds_map {α : Type} {H : Hp} {f : α → Tr} : ∀ {l : List α} {vs : List V}, Paired (fun a v => Holds H (f a) v) l vs → HoldsL H (l.map f) vs
  | _, _, .nil => HoldsL.nil
  | _, _, .cons h r => HoldsL.one h (holds_map r)
theorem holds_strs {H : Hp} : ∀ ks : List Str, HoldsL H (ks.map fun k => .w (.inr k)) (ks.map V.str)
  | [] => HoldsL.nil
  | _ :: r => HoldsL.one (Holds.str _) (holds_strs r)
def OutR (H : Hp) (h : Head) (v : V) : Prop := Holds H (headT h) v
def OutF (H : Hp) (x : Rule) (v : V) : Prop := Holds H (fullT x) v
theorem OutR.mono {H H' : Hp} {h : Head} {v : V} (s : TupLe H H') (x : OutR H h v) : OutR H' h v := Holds.mono s x
theorem OutF.mono {H H' : Hp} {h : Rule} {v : V} (s : TupLe H H') (x : OutF H h v) : OutF H' h v := Holds.mono s x
/-- a rule as it is told: its tuple -/
theorem head_open {H : Hp} {h : Head} {v : V} (x : OutR H h v) : ∃ a b, v = .ref a ∧ H a = some (.tup [.str h.n, .str h.k, .int h.p, .ref b]) ∧ H b = some (.tup (h.sh.map kV)) := by
  obtain ⟨a, us, rfl, ha, hu⟩ := holds_t.mp x
  obtain ⟨v1, u1, rfl, h1, hu⟩ := holdsL_cons.mp hu
  obtain ⟨v2, u2, rfl, h2, hu⟩ := holdsL_cons.mp hu
  obtain ⟨v3, u3, rfl, h3, hu⟩ := holdsL_cons.mp hu
  obtain ⟨v4, u4, rfl, h4, hu⟩ := holdsL_cons.mp hu
  rw [holdsL_nil.mp hu, holds_w.mp h1, holds_w.mp h2, holds_w.mp h3] at ha
  obtain ⟨b, rfl, hb⟩ := holds_flat.mp h4
  exact ⟨a, b, rfl, ha, hb⟩

def sp_read_book (K : PySem.W.Frag) : Sp := fun vs H Q _ => ∃ rs : List Row, vs = [.str (textOf rs)] ∧ rs ≠ [] ∧ rs.length ≤ 5000 ∧ (∀ r ∈ rs, r.ok) ∧ named rs ∧ ∀ v H', Same H H' → Holds H' (bookT (due rs)) v → Q v H'
section
variable {P : Program} {w : World} {K : PySem.W.Frag} {mg : Str → Option Value} {base : Heap}
theorem sc_read_book : FnScope ["text", "rows", "kinds", "rules", "deeds", "rule", "at", "told"] ["text"] (defScope s_read_book) := ⟨rfl, rfl, rfl, by decide +kernel, rfl, by decide +kernel, by decide +kernel⟩
theorem ok_read_book (T : Txt K mg) (C_rows_told : Callee P w K mg base "rows_told" 6 ["text"] (sp_rows_told K)) {f : Addr} {fd : FuncData} (F : FnP K "read_book" s_read_book f fd) : FnOk P w K mg base CX0 7 f fd ["text"] (sp_read_book K) := by
  refine F.ok sc_read_book (fun vs H Q E h => ?_) (fun cdv A outer s H vs Q E hr h => ⟨_, PSs.nox ((pss_cons (ps_set (i := 1) sc_read_book.nd rfl (Or.inl rfl) (pe_cc C_rows_told (hr.mono (by decide)) (pa_cons (pv 0) pa_nil)))
  (pss_cons (ps_set (i := 2) sc_read_book.nd rfl (Or.inl rfl) (pe_callTy (kx_tuple K) (by rfl) T.tuple_ (by decide +kernel) (pa_cons (pe_lc (own := [("at", 6), ("told", 7)]) rfl sc_read_book.nd (kx_piL K (pv 1)) (blkOk_by (own := [("at", 6), ("told", 7)]) (N := ["text", "rows", "kinds", "rules", "deeds", "rule", "at", "told"]) (sc := defScope s_read_book) (by decide +kernel)) (fun _ _ _ _ _ => by exact (kx_pgT K 2 rfl (pgs_cons (pg_name (i := 6) sc_read_book.nd rfl (Or.inl rfl)) (pgs_cons (pg_name (i := 7) sc_read_book.nd rfl (Or.inl rfl)) pgs_nil)))) (fun _ _ _ _ _ => by exact pts_one (pt_cmpR op_eq (pe_ix (kx_ixT K) (pv 7) pe_int (fun _ _ => rfl)) pe_str (nomark _))) (fun _ _ _ _ _ => by exact (pe_ix (kx_ixT K) (pv 7) pe_int (fun _ _ => rfl)))) pa_nil)))
  (pss_cons (ps_setLc (i := 3) (own := [("at", 6), ("told", 7)]) rfl sc_read_book.nd rfl rfl (sw_true rfl rfl rfl (by decide +kernel)) (kx_piL K (pv 1)) (blkOk_by (own := [("at", 6), ("told", 7)]) (N := ["text", "rows", "kinds", "rules", "deeds", "rule", "at", "told"]) (sc := defScope s_read_book) (by decide +kernel)) (fun _ _ _ _ _ => by exact (kx_pgT K 2 rfl (pgs_cons (pg_name (i := 6) sc_read_book.nd rfl (Or.inl rfl)) (pgs_cons (pg_name (i := 7) sc_read_book.nd rfl (Or.inl rfl)) pgs_nil)))) (fun _ _ _ _ _ => by exact pts_one (pt_cmpR op_eq (pe_ix (kx_ixT K) (pv 7) pe_int (fun _ _ => rfl)) pe_str (nomark _))) (fun _ _ _ _ _ => by exact (pe_ix (kx_ixT K) (pv 7) pe_int (fun _ _ => rfl))))
  (pss_cons (ps_set (i := 4) sc_read_book.nd rfl (Or.inr rfl) pe_dnewK)
  (pss_cons (ps_for PassesOwn.never rfl (kx_piL K (pv 3)) (pg_name (i := 5) sc_read_book.nd rfl (Or.inl rfl))
   (pss_one (ps_dput (hu_of hr) (pv 4) (pe_ix (kx_ixT K) (pv 5) pe_int (fun _ _ => rfl)) (pe_lst pa_nil) rfl)))
  (pss_cons (ps_for PassesOwn.never rfl (kx_piL K (pv 1)) (kx_pgT K 2 rfl (pgs_cons (pg_name (i := 6) sc_read_book.nd rfl (Or.inl rfl)) (pgs_cons (pg_name (i := 7) sc_read_book.nd rfl (Or.inl rfl)) pgs_nil)))
   (pss_one (ps_if (pt_cmpR op_eq (pe_ix (kx_ixT K) (pv 7) pe_int (fun _ _ => rfl)) pe_str (nomark _)) (pss_cons (ps_if (pt_cmp (pc_dnotin (hu_of hr) (pe_ix (kx_ixT K) (pv 7) pe_int (fun _ _ => rfl)) (pv 4))) (pss_one ps_never) pss_nil)
  (pss_one (ps_expr (kx_app K (pe_dget (hu_of hr) (pv 4) (pe_ix (kx_ixT K) (pv 7) pe_int (fun _ _ => rfl)) (fun _ _ => rfl)) (pa_cons (pe_ix (kx_ixT K) (pv 7) pe_int (fun _ _ => rfl)) pa_nil))))) pss_nil)))
  (pss_one (ps_ret (pe_tup (pa_cons (pv 2) (pa_cons (pe_callTy (kx_tuple K) (by rfl) T.tuple_ (by decide +kernel) (pa_cons (pe_lc (own := [("rule", 5)]) rfl sc_read_book.nd (kx_piL K (pv 3)) (blkOk_by (own := [("rule", 5)]) (N := ["text", "rows", "kinds", "rules", "deeds", "rule", "at", "told"]) (sc := defScope s_read_book) (by decide +kernel)) (fun _ _ _ _ _ => by exact (pg_name (i := 5) sc_read_book.nd rfl (Or.inl rfl))) (fun _ _ _ _ _ => pts_nil) (fun _ _ _ _ _ => by exact (pe_op (kx_catA K) (pv 5) (pe_tup (pa_cons (pe_callTy (kx_tuple K) (by rfl) T.tuple_ (by decide +kernel) (pa_cons (pe_dpop2 (pv 4) (pe_ix (kx_ixT K) (pv 5) pe_int (fun _ _ => rfl)) (pe_lst pa_nil) ⟨rfl, rfl, rfl, rfl⟩) pa_nil)) pa_nil))))) pa_nil)) pa_nil)))))))))))), ?_⟩)
  · obtain ⟨rs, rfl, _⟩ := h
    rfl
  · obtain ⟨rs, rfl, hne, hrl, hok, hnm, k⟩ := h
    walk_at "pc"
    refine ⟨rs, rfl, hne, hrl, hok, fun l us H1 s1 hl0 hl hp => ?_⟩
    have hqn : ∀ r ∈ rs.filter notNil, r ≠ .nil := fun r hr e => by
      have q := (List.mem_filter.mp hr).2
      rw [e] at q
      exact Bool.false_ne_true q
    have hql : (rs.filter notNil).length ≤ 5000 := Nat.le_trans (List.length_filter_le _ _) hrl
    have hqd : ∀ n d, Row.does n d ∈ rs.filter notNil → n ∈ (headsOf rs).map (·.n) := fun n d hr => hnm n d (List.mem_filter.mp hr).1
    have ek := kinds_not rs
    have eh := heads_not rs
    have ed := deeds_not rs
    generalize rs.filter notNil = qs at hp hqn hql hqd ek eh ed
    have hul : us.length ≤ 5000 := by rw [← Paired.length hp]; exact hql
    walk_at "pc"
    refine ⟨l, rfl, ⟨_, SqL.of hl⟩, fun D hD => ?_⟩
    refine lc_pure (walk_list (xs := us)) isKind kindName (ds := qs) (Src := Told) (Out := OutS) hD (Paired.length hp) (by omega) (fun H2 s => SqL.of (s _ _ hl)) (gives_at hp fun H a v s => Told.mono (tup_same s)) (fun _ _ _ _ _ h => h) (fun a x H2 N1 N2 ha s hs n1 n2 => ?_) (fun H2 ys s2 hy hyp => ?_)
    · obtain ⟨t, j, b, vs, m, rfl, ht, hb, em, hm⟩ := told_open hs
      refine i_g2 (SqT.of ht) ?_
      refine ⟨rfl, ?_⟩
      cases a with
      | nil => exact absurd rfl (hqn _ ha)
      | kind n =>
        cases em
        have e := two_keys hm
        subst e
        walk_at "pcs"
        exact n1 rfl _ _ (Same.refl _) rfl
      | rule n kd p sh =>
        cases em
        obtain ⟨v1, u1, rfl, h1, _⟩ := holdsL_cons.mp hm
        rw [holds_w.mp h1] at hb
        have hb : H2 b = some (.tup (.str "rule" :: u1)) := hb
        walk_at "pcs"
        exact n2 rfl _ (Same.refl _)
      | does n d =>
        cases em
        obtain ⟨v1, u1, rfl, h1, _⟩ := holdsL_cons.mp hm
        rw [holds_w.mp h1] at hb
        have hb : H2 b = some (.tup (.str "does" :: u1)) := hb
        walk_at "pcs"
        exact n2 rfl _ (Same.refl _)
    have e := paired_fn (F := V.str) (fun b v h => h) hyp
    subst e
    have ekk : (qs.filter isKind).map kindName = kindsOf rs := ek
    rw [ekk] at hy
    clear hyp ekk
    walk_at "pc"
    refine i_tupL (SqL.of hy) fun t1 ht1 => ?_
    have s3 : Same H1 (upd H2 t1 (.tup ((kindsOf rs).map V.str))) := s2.trans (same_upd ht1)
    have hkt : upd H2 t1 (.tup ((kindsOf rs).map V.str)) t1 = some (.tup ((kindsOf rs).map V.str)) := upd_same
    generalize upd H2 t1 (.tup ((kindsOf rs).map V.str)) = H3 at s3 hkt
    clear hy hD s2 ht1 D
    have hl3 := s3 _ _ hl
    have hp3 := Paired.mapP hp fun a v => Told.mono (r := a) (v := v) (tup_same s3)
    walk_at "pc"
    refine ⟨l, rfl, ⟨_, SqL.of hl3⟩, fun D hD => ?_⟩
    refine lc_pure (walk_list (xs := us)) isRule headOf (ds := qs) (Src := Told) (Out := OutR) hD (Paired.length hp) (by omega) (fun H2 s => SqL.of (s _ _ hl3)) (gives_at hp3 fun H a v s => Told.mono (tup_same s)) (fun _ _ _ _ s h => OutR.mono s h) (fun a x H2 N1 N2 ha s hs n1 n2 => ?_) (fun H4 rvs s4 hR hrp => ?_)
    · obtain ⟨t, j, b, vs, m, rfl, ht, hb, em, hm⟩ := told_open hs
      refine i_g2 (SqT.of ht) ?_
      refine ⟨rfl, ?_⟩
      cases a with
      | nil => exact absurd rfl (hqn _ ha)
      | kind n =>
        cases em
        have e := two_keys hm
        subst e
        walk_at "pcs"
        exact n2 rfl _ (Same.refl _)
      | rule n kd p sh =>
        cases em
        obtain ⟨v1, u1, rfl, h1, hm⟩ := holdsL_cons.mp hm
        obtain ⟨v2, u2, rfl, h2, hm⟩ := holdsL_cons.mp hm
        rw [holds_w.mp h1] at hb
        have hb : H2 b = some (.tup (.str "rule" :: v2 :: u2)) := hb
        walk_at "pcs"
        exact n1 rfl _ _ (Same.refl _) h2
      | does n d =>
        cases em
        obtain ⟨v1, u1, rfl, h1, _⟩ := holdsL_cons.mp hm
        rw [holds_w.mp h1] at hb
        have hb : H2 b = some (.tup (.str "does" :: u1)) := hb
        walk_at "pcs"
        exact n2 rfl _ (Same.refl _)
    have ehh : (qs.filter isRule).map headOf = headsOf rs := eh
    rw [ehh] at hrp
    clear ehh
    have hhl : (headsOf rs).length ≤ 5000 := by
      unfold headsOf
      rw [List.length_map]
      exact Nat.le_trans (List.length_filter_le _ _) hrl
    have eD : due rs = (kindsOf rs, mkRules (deedsOf rs) [] (headsOf rs)) := rfl
    rw [eD] at k
    clear eD
    generalize headsOf rs = hs at hrp hhl hqd k
    have hrl2 : rvs.length = hs.length := (Paired.length hrp).symm
    have s5 : Same H H4 := s1.trans (s3.trans s4)
    have hl4 := s4 _ _ hl3
    have hp4 := Paired.mapP hp3 fun a v => Told.mono (r := a) (v := v) (tup_same s4)
    have hkt4 := s4 _ _ hkt
    clear hp3 hl3 hkt hD s4 s3
    walk_at "pc"
    intro d hd
    walk_at "pc"
    have d0 : DI H4 (upd H4 d (.dK [])) d (fun _ => 0) [] (fun _ => []) 0 := ⟨⟨[], upd_same, Nat.le_refl _, fun n => rfl⟩, (fun n hn => nomatch hn), (fun n n' hn => nomatch hn), (fun n hn => nomatch hn), hd⟩
    have sd : Same H4 (upd H4 d (.dK [])) := same_upd hd
    refine ⟨D, rfl, ⟨_, SqL.of (sd _ _ hR)⟩, for_it (walk_list (xs := rvs)) (fun i σ' H' => ∃ o5, σ' = [some (.str (textOf rs)), some (.ref l), some (.ref t1), some (.ref D), some (.ref d), o5, none, none] ∧ Same H4 H' ∧
      ∃ A, DI H4 H' d A ((hs.take i).map (·.n)) (fun _ => []) i) ?_ (fun i σ' H' _ ⟨_, _, s, _⟩ => SqL.of (s _ _ hR)) ?_ ?_⟩
    · exact ⟨none, rfl, sd, _, d0⟩
    · rintro i x σ' H1' H2' hi ⟨o5, rfl, s6, A, x6⟩ ⟨rfl, hx⟩
      obtain ⟨h, hh, ho⟩ := Paired.at2 hrp hx
      obtain ⟨ra, rb, rfl, hra, hrb⟩ := head_open (OutR.mono (tup_same s6) ho)
      walk_at "pc"
      refine ⟨Nat.zero_le _, fun p hpn => ?_⟩
      have hra2 : upd H2' p (.lst []) ra = some (.tup [.str h.n, .str h.k, .int h.p, .ref rb]) := (upd_ne (ne_of_none hra hpn)).trans hra
      obtain ⟨kvs, hk, hkl, _⟩ := id x6.at_
      have hk2 : upd H2' p (.lst []) d = some (.dK kvs) := (upd_ne (ne_of_none hk hpn)).trans hk
      walk_at "pc"
      refine i_dputs (k := .inr h.n) hk2 (by rw [sizeLine_eq]; omega) ?_
      refine ⟨_, rfl, same_new (same_new s6 (s6.free hpn)) x6.dnew, fun k => if k = h.n then p else A k, ?_⟩
      rw [take_snoc hh, List.map_append]
      exact DI.put x6 hpn (s6.free hpn) h.n hk
    · rintro σ' H5 ⟨o5, rfl, s6, A, x6⟩
      rw [hrl2, List.take_length] at x6
      have hl5 := s6 _ _ hl4
      have hp5 := Paired.mapP hp4 fun a v => Told.mono (r := a) (v := v) (tup_same s6)
      walk_at "pc"
      have hD5 := s6 _ _ hR
      refine ⟨l, rfl, ⟨_, SqL.of hl5⟩, for_it (walk_list (xs := us)) (fun i σ' H' => ∃ o5 o6 o7, σ' = [some (.str (textOf rs)), some (.ref l), some (.ref t1), some (.ref D), some (.ref d), o5, o6, o7] ∧ Same H4 H' ∧
        DI H4 H' d A (hs.map (·.n)) (deedsOf (qs.take i)) (5000 + i)) ?_ (fun i σ' H' _ ⟨_, _, _, _, s, _⟩ => SqL.of (s _ _ hl4)) ?_ ?_⟩
      · exact ⟨o5, none, none, rfl, s6, (x6.mono (Same.refl _) (by omega)).list fun n => rfl⟩
      · rintro i x σ' H6 H7 hi ⟨o5, o6, o7, rfl, s7, x7⟩ ⟨rfl, hx⟩
        have hp6 := Paired.mapP hp4 fun a v => Told.mono (r := a) (v := v) (tup_same s7)
        obtain ⟨r, hr, ht⟩ := Paired.at2 hp6 hx
        have hrm := List.mem_of_getElem? hr
        obtain ⟨t, j, b, vs, m, rfl, ht, hb, em, hm⟩ := told_open ht
        refine i_g2 (SqT.of ht) ?_
        cases r with
        | nil => exact absurd rfl (hqn _ hrm)
        | kind n =>
          cases em
          have e := two_keys hm
          subst e
          walk_at "pcs"
          refine ⟨_, _, _, rfl, s7, (x7.mono (Same.refl _) (by omega)).list fun n => ?_⟩
          rw [take_snoc hr, deeds_same _ _ rfl]
        | rule n kd p sh =>
          cases em
          obtain ⟨v1, u1, rfl, h1, _⟩ := holdsL_cons.mp hm
          rw [holds_w.mp h1] at hb
          have hb : H7 b = some (.tup (.str "rule" :: u1)) := hb
          walk_at "pcs"
          refine ⟨_, _, _, rfl, s7, (x7.mono (Same.refl _) (by omega)).list fun n => ?_⟩
          rw [take_snoc hr, deeds_same _ _ rfl]
        | does n de =>
          cases em
          obtain ⟨v1, u1, rfl, h1, hm⟩ := holdsL_cons.mp hm
          obtain ⟨v2, u2, rfl, h2, hm⟩ := holdsL_cons.mp hm
          obtain ⟨v3, u3, rfl, h3, hm⟩ := holdsL_cons.mp hm
          rw [holds_w.mp h1, holds_w.mp h2] at hb
          have hb : H7 b = some (.tup (.str "does" :: .str n :: v3 :: u3)) := hb
          have hn := hqd n de hrm
          obtain ⟨kvs, hk, _, hv⟩ := id x7.at_
          obtain ⟨ws, hw, hwl, hwp⟩ := x7.here n hn
          have hvn := (hv n).trans (if_pos hn)
          walk_at "pcs"
          refine ⟨d, _, rfl, dgot (k := .inr n) hk hvn, ?_⟩
          refine ⟨false, rfl, ?_⟩
          walk_at "pcs"
          refine ⟨d, _, rfl, dgot (k := .inr n) hk hvn, ?_⟩
          walk_at "pcs"
          refine i_append hw (by rw [sizeLine_eq]; omega) ?_
          have hi5 : i < 5000 := by omega
          refine ⟨_, _, _, rfl, x7.same_add hn s7, ((x7.add hn hw h3).mono (Same.refl _) (by omega)).list fun k => ?_⟩
          rw [take_snoc hr, deeds_snoc]
      · rintro σ' H6 ⟨o5, o6, o7, rfl, s7, x7⟩
        rw [← Paired.length hp, List.take_length] at x7
        have x8 := x7.list ed
        have hD6 := s7 _ _ hR
        clear x7 x6 hD5
        walk_at "pc"
        refine ⟨D, rfl, ⟨_, SqL.of hD6⟩, fun D2 hD2 => ?_⟩
        refine lc_it (walk_list (xs := rvs)) (fun i H' => Same H4 H' ∧ DI (upd H4 D2 (.lst [])) H' d A ((hs.map (·.n)).filter fun k => decide (k ∉ (hs.take i).map (·.n))) (deedsOf rs) 20000 ∧
          ∃ ys, H' D2 = some (.lst ys) ∧ ys.length ≤ i ∧ Paired (OutF H') ((mkRules (deedsOf rs) [] hs).take i) ys) ?_ (fun i H' _ q => SqL.of (q.1 _ _ hR)) ?_ ?_
        · refine ⟨same_new s7 (s7.free hD2), ?_, [], upd_same, Nat.le_refl _, .nil⟩
          refine DI.names ((x8.base hD2).mono (same_upd hD2) (by have : qs.length = us.length := Paired.length hp; omega)) fun k => ?_
          rw [List.mem_filter]
          exact ⟨fun q => ⟨q, decide_eq_true (fun z => nomatch z)⟩, fun q => q.1⟩
        · rintro i x H7 H8 hi ⟨s8, x9, ys, hys, hyl, hyp⟩ ⟨rfl, hx⟩
          obtain ⟨h, hh, ho⟩ := Paired.at2 hrp hx
          obtain ⟨ra, rb, rfl, hra, hrb⟩ := head_open (OutR.mono (tup_same s8) ho)
          have hget := mk_get (deedsOf rs) (seen := []) hh
          rw [List.nil_append] at hget
          obtain ⟨kvs, hk, hkl, hkv⟩ := id x9.at_
          walk_at "pc"
          refine ⟨rfl, ?_⟩
          walk_at "pc"
          refine i_isD hk ?_
          walk_at "pc"
          refine ⟨Nat.zero_le _, fun p hpn => ?_⟩
          have sp : Same H8 (upd H8 p (.lst [])) := same_upd hpn
          have hk' := sp _ _ hk
          have x9' := x9.mono sp (Nat.le_refl _)
          have hys' := sp _ _ hys
          have hra' := sp _ _ hra
          have hrb' := sp _ _ hrb
          -- what is behind the list of deeds: a tuple of them, a tuple of that, the rule with it
          have after : ∀ (H9 : Hp) (a : Addr) (vs : List V), TupLe (upd H8 p (.lst [])) H9 → Same H4 H9 → DI (upd H4 D2 (.lst [])) H9 d A (((hs.map (·.n)).filter fun k => decide (k ∉ (hs.take i).map (·.n))).filter fun k => decide (k ≠ h.n)) (deedsOf rs) 20000 →
              H9 D2 = some (.lst ys) → H9 a = some (.lst vs) → vs.length ≤ 20000 → Paired (OutD H9) (gv (deedsOf rs) ((hs.take i).map (·.n)) h.n) vs →
              qTup K [.ref a] H9 fun x H10 => tNil (([some (V.str (textOf rs)), some (.ref l), some (.ref t1), some (.ref D), some (.ref d), none, o6, o7] : L2.St).set 5 (some (.ref ra))) H10 fun xs H11 => (x :: xs).length ≤ sizeLine ∧ ∀ p, H11 p = none →
                rCatA K (.ref ra) (.ref p) (upd H11 p (.tup (x :: xs))) fun y H12 => ∃ acc, H12 D2 = some (.lst acc) ∧ acc.length < sizeLine ∧ Same H4 (upd H12 D2 (.lst (acc ++ [y]))) ∧
                  DI (upd H4 D2 (.lst [])) (upd H12 D2 (.lst (acc ++ [y]))) d A ((hs.map (·.n)).filter fun k => decide (k ∉ (hs.take (i + 1)).map (·.n))) (deedsOf rs) 20000 ∧
                  ∃ ys, upd H12 D2 (.lst (acc ++ [y])) D2 = some (.lst ys) ∧ ys.length ≤ i + 1 ∧ Paired (OutF (upd H12 D2 (.lst (acc ++ [y])))) ((mkRules (deedsOf rs) [] hs).take (i + 1)) ys := by
            intro H9 a vs tl9 s9 x10 hy9 ha hvl hvp
            refine i_tupL (SqL.of ha) fun t ht => ?_
            have sa : Same H9 (upd H9 t (.tup vs)) := same_upd ht
            refine ⟨show 1 ≤ sizeLine by decide, fun q hq => ?_⟩
            have sb : Same (upd H9 t (.tup vs)) (upd (upd H9 t (.tup vs)) q (.tup [.ref t])) := same_upd hq
            refine ⟨ra, q, _, _, rfl, rfl, SqT.of (sb _ _ (sa _ _ (tl9 _ _ hra'))), SqT.of upd_same, show 4 + 1 ≤ sizeLine by decide, (fun e => nomatch e), (fun _ e => nomatch e), fun _ _ u hu => ?_⟩
            have hu' : upd (upd H9 t (.tup vs)) q (.tup [.ref t]) u = none := hu
            have sc : Same (upd (upd H9 t (.tup vs)) q (.tup [.ref t])) (upd (upd (upd H9 t (.tup vs)) q (.tup [.ref t])) u (.tup ([V.str h.n, .str h.k, .int h.p, .ref rb] ++ [V.ref t]))) := same_upd hu'
            have hut : upd (upd (upd H9 t (.tup vs)) q (.tup [.ref t])) u (.tup ([V.str h.n, .str h.k, .int h.p, .ref rb] ++ [V.ref t])) u = some (.tup [.str h.n, .str h.k, .int h.p, .ref rb, .ref t]) := upd_same
            have htt := sc _ _ (sb _ _ (upd_same (H := H9) (a := t) (o := .tup vs)))
            have sd := sa.trans (sb.trans sc)
            show ∃ acc, upd (upd (upd H9 t (.tup vs)) q (.tup [.ref t])) u (.tup ([V.str h.n, .str h.k, .int h.p, .ref rb] ++ [V.ref t])) D2 = some (.lst acc) ∧ _
            generalize upd (upd (upd H9 t (.tup vs)) q (.tup [.ref t])) u (.tup ([V.str h.n, .str h.k, .int h.p, .ref rb] ++ [V.ref t])) = H13 at sd hut htt
            have hy13 := sd _ _ hy9
            have tl14 := tup_lst (o := .lst (ys ++ [V.ref u])) hy13
            refine ⟨ys, hy13, by rw [sizeLine_eq]; omega, same_new (s9.trans sd) (s7.free hD2), ?_, _, upd_same, by rw [List.length_append, List.length_singleton]; omega, ?_⟩
            · refine DI.names (DI.other (x10.mono sd (Nat.le_refl _)) upd_same hy13) fun k => ?_
              rw [List.mem_filter, List.mem_filter, List.mem_filter, take_snoc hh, List.map_append, decide_eq_true_eq, decide_eq_true_eq, decide_eq_true_eq, List.mem_append, List.map_cons, List.map_nil, List.mem_singleton]
              exact ⟨fun z => ⟨z.1.1, fun y => y.elim z.1.2 z.2⟩, fun z => ⟨⟨z.1, fun y => z.2 (.inl y)⟩, fun y => z.2 (.inr y)⟩⟩
            · rw [take_snoc hget]
              refine Paired.snoc (Paired.mapP hyp fun a v z => OutF.mono ((tup_same sp).trans (tl9.trans ((tup_same sd).trans tl14))) z) ?_
              refine OutF.mono tl14 ?_
              exact Holds.tup hut (HoldsL.one (Holds.str _) (HoldsL.one (Holds.str _) (HoldsL.one (Holds.int _) (HoldsL.one (Holds.tup (sd _ _ (tl9 _ _ hrb')) (HoldsL.keys _)) (HoldsL.one (Holds.tup htt (holds_map (Paired.mapP hvp fun a v z => OutD.mono (tup_same sd) z))) HoldsL.nil)))))
          have hmem : h.n ∈ hs.map (·.n) := List.mem_map.mpr ⟨h, List.mem_of_getElem? hh, rfl⟩
          have x9s : h.n ∈ ((hs.map (·.n)).filter fun k => decide (k ∉ (hs.take i).map (·.n))) ↔ h.n ∉ (hs.take i).map (·.n) := by
            rw [List.mem_filter, decide_eq_true_eq]
            exact ⟨fun z => z.2, fun z => ⟨hmem, z⟩⟩
          refine ⟨kvs, .inr h.n, hk', rfl, fun v hv => ?_, fun hv => ?_⟩
          · by_cases c : h.n ∈ ((hs.map (·.n)).filter fun k => decide (k ∉ (hs.take i).map (·.n)))
            · rw [hkv, if_pos c] at hv
              cases hv
              obtain ⟨vs, e1, e2, e3⟩ := x9'.here h.n c
              have nd : A h.n ≠ d := fun z => by rw [z, hk'] at e1; cases e1
              have nd2 : D2 ≠ d := fun z => by rw [z, hk'] at hys'; cases hys'
              have tl := tup_dk (o := .dK (dropK kvs (.inr h.n))) hk'
              have bd : H4 d = none := hd
              refine after _ (A h.n) vs tl (same_new (s8.trans sp) bd) (x9'.drop hk' h.n) ((upd_ne nd2).trans hys') ((upd_ne nd).trans e1) e2 ?_
              have eg : gv (deedsOf rs) ((hs.take i).map (·.n)) h.n = deedsOf rs h.n := if_neg (x9s.mp c)
              rw [eg]
              exact Paired.mapP e3 fun a v z => OutD.mono tl z
            · rw [hkv, if_neg c] at hv
              cases hv
          · by_cases c : h.n ∈ ((hs.map (·.n)).filter fun k => decide (k ∉ (hs.take i).map (·.n)))
            · rw [hkv, if_pos c] at hv
              cases hv
            · have eg : gv (deedsOf rs) ((hs.take i).map (·.n)) h.n = [] := if_pos (Decidable.not_not.mp fun z => c (x9s.mpr z))
              refine after _ p [] (TupLe.refl _) (s8.trans sp) (DI.names x9' fun k => ?_) hys' upd_same (Nat.zero_le _) ?_
              · refine Iff.trans ?_ List.mem_filter.symm
                rw [decide_eq_true_eq]
                exact ⟨fun z => ⟨z, fun y => c (y ▸ z)⟩, fun z => z.1⟩
              · rw [eg]
                exact .nil
        · rintro H7 ⟨s8, x9, ys, hys, hyl, hyp⟩
          have em : (mkRules (deedsOf rs) [] hs).take rvs.length = mkRules (deedsOf rs) [] hs := by
            rw [hrl2, ← mk_len (deedsOf rs) hs [], List.take_length]
          rw [em] at hyp
          walk_at "pc"
          refine i_tupL (SqL.of hys) fun t3 ht3 => ?_
          have s9 : Same H7 (upd H7 t3 (.tup ys)) := same_upd ht3
          walk_at "pc"
          refine ⟨show 2 ≤ sizeLine by decide, fun u hu => ?_⟩
          have s10 : Same (upd H7 t3 (.tup ys)) (upd (upd H7 t3 (.tup ys)) u (.tup [.ref t1, .ref t3])) := same_upd hu
          have s11 := s8.trans (s9.trans s10)
          refine k _ _ (s5.trans s11) (Holds.tup upd_same (HoldsL.one (Holds.tup (s11 _ _ hkt4) (holds_strs _)) (HoldsL.one (Holds.tup (s10 _ _ upd_same) (holds_map (Paired.mapP hyp fun a v q => OutF.mono (tup_same (s9.trans s10)) q))) HoldsL.nil)))
end

def ruleRow (x : Head) : Row := .rule x.n x.k x.p x.sh
def ruleRows (x : Rule) : List Row := ruleRow x.1 :: x.2.map (Row.does x.1.n)
def canon (b : Book) : List Row := b.1.map Row.kind ++ b.2.flatMap ruleRows
structure BookOk (b : Book) : Prop where
  kinds : ∀ k ∈ b.1, isName k = true
  kindsN : b.1.length ≤ 63
  rules : ∀ x ∈ b.2, (ruleRow x.1).ok ∧ (∀ d ∈ x.2, DeedOk d) ∧ x.2.length ≤ 63
  rulesN : b.2.length ≤ 63
theorem canon_ok {b : Book} (h : BookOk b) : ∀ r ∈ canon b, r.ok := by
  intro r hr
  rcases List.mem_append.mp hr with hr | hr
  · obtain ⟨k, hk, rfl⟩ := List.mem_map.mp hr
    exact h.kinds k hk
  · obtain ⟨x, hx, hr⟩ := List.mem_flatMap.mp hr
    obtain ⟨h1, h2, _⟩ := h.rules x hx
    rcases List.mem_cons.mp hr with e | hr
    · rw [e]
      exact h1
    · obtain ⟨d, hd, rfl⟩ := List.mem_map.mp hr
      exact ⟨h1.1, h2 d hd⟩
theorem flat_len : ∀ {l : List Rule}, (∀ x ∈ l, x.2.length ≤ 63) → (l.flatMap ruleRows).length ≤ l.length * 64
  | [], _ => Nat.le_refl _
  | x :: r, h => by
    have h1 := h x (List.mem_cons_self ..)
    have ih := flat_len (l := r) fun y hy => h y (List.mem_cons_of_mem _ hy)
    rw [List.flatMap_cons, List.length_append, List.length_cons]
    show (x.2.map (Row.does x.1.n)).length + 1 + _ ≤ _
    rw [List.length_map]
    omega
theorem canon_len {b : Book} (h : BookOk b) : (canon b).length ≤ 4100 := by
  have q := flat_len (l := b.2) fun x hx => (h.rules x hx).2.2
  have := h.kindsN
  have := h.rulesN
  unfold canon
  rw [List.length_append, List.length_map]
  omega
theorem lines_size {rs : List Row} (h : ∀ r ∈ rs, r.ok) (hl : rs.length ≤ 5000) : ((rs.map line).map (·.length)).sum + (rs.map line).length * ("\n" : Str).length ≤ 16777216 := by
  have e : ("\n" : Str).length = 1 := by decide +kernel
  rw [e, List.length_map]
  have q : ∀ l : List Row, (∀ r ∈ l, r.ok) → ((l.map line).map (·.length)).sum ≤ l.length * 1054 := by
    intro l
    induction l with
    | nil => intro _; exact Nat.le_refl _
    | cons a r ih =>
      intro hf
      have h1 := line_len (hf a (List.mem_cons_self ..))
      have h2 := ih fun k hk => hf k (List.mem_cons_of_mem _ hk)
      rw [List.map_cons, List.map_cons, List.sum_cons, List.length_cons]
      omega
  have := q rs h
  omega
/-- a book as it lies -/
structure BookAt (H : Hp) (b : Book) (v : V) : Prop where
  ex : ∃ a k r rvs, v = .ref a ∧ H a = some (.tup [.ref k, .ref r]) ∧ H k = some (.tup (b.1.map V.str)) ∧ H r = some (.tup rvs) ∧ Paired (OutF H) b.2 rvs
theorem holds_paired {α : Type} {H : Hp} {f : α → Tr} : ∀ {l : List α} {vs : List V}, HoldsL H (l.map f) vs → Paired (fun a v => Holds H (f a) v) l vs
  | [], _, h => by
    rw [holdsL_nil.mp h]
    exact .nil
  | a :: r, vs, h => by
    obtain ⟨v, us, rfl, h1, h2⟩ := holdsL_cons.mp h
    exact .cons h1 (holds_paired h2)
theorem strs_of {H : Hp} : ∀ {ks : List Str} {vs : List V}, HoldsL H (ks.map fun k => .w (.inr k)) vs → vs = ks.map V.str
  | [], _, h => holdsL_nil.mp h
  | k :: r, vs, h => by
    obtain ⟨v, us, rfl, h1, h2⟩ := holdsL_cons.mp h
    rw [holds_w.mp h1, strs_of h2]
    rfl
theorem book_open {H : Hp} {b : Book} {v : V} (h : Holds H (bookT b) v) : BookAt H b v := by
  obtain ⟨a, us, rfl, ha, hu⟩ := holds_t.mp h
  obtain ⟨v1, u1, rfl, h1, hu⟩ := holdsL_cons.mp hu
  obtain ⟨v2, u2, rfl, h2, hu⟩ := holdsL_cons.mp hu
  rw [holdsL_nil.mp hu] at ha
  obtain ⟨k, ks, rfl, hk, hks⟩ := holds_t.mp h1
  obtain ⟨r, rs, rfl, hr, hrs⟩ := holds_t.mp h2
  rw [strs_of hks] at hk
  exact ⟨a, k, r, rs, rfl, ha, hk, hr, holds_paired hrs⟩
/-- a rule with its deeds, as it lies -/
theorem full_open {H : Hp} {x : Rule} {v : V} (h : OutF H x v) : ∃ a b c ds, v = .ref a ∧ H a = some (.tup [.str x.1.n, .str x.1.k, .int x.1.p, .ref b, .ref c]) ∧ H b = some (.tup (x.1.sh.map kV)) ∧ H c = some (.tup ds) ∧ Paired (OutD H) x.2 ds := by
  obtain ⟨a, us, rfl, ha, hu⟩ := holds_t.mp h
  obtain ⟨v1, u1, rfl, h1, hu⟩ := holdsL_cons.mp hu
  obtain ⟨v2, u2, rfl, h2, hu⟩ := holdsL_cons.mp hu
  obtain ⟨v3, u3, rfl, h3, hu⟩ := holdsL_cons.mp hu
  obtain ⟨v4, u4, rfl, h4, hu⟩ := holdsL_cons.mp hu
  obtain ⟨v5, u5, rfl, h5, hu⟩ := holdsL_cons.mp hu
  rw [holdsL_nil.mp hu, holds_w.mp h1, holds_w.mp h2, holds_w.mp h3] at ha
  obtain ⟨b, rfl, hb⟩ := holds_flat.mp h4
  obtain ⟨c, ds, rfl, hc, hds⟩ := holds_t.mp h5
  exact ⟨a, b, c, ds, rfl, ha, hb, hc, holds_paired hds⟩
def SrcS : Hp → Str → V → Prop := fun _ k v => v = .str k
def linesV (rs : List Row) : List V := (rs.map line).map V.str
theorem linesV_snoc (rs : List Row) (r : Row) : linesV rs ++ [.str (line r)] = linesV (rs ++ [r]) := by
  unfold linesV
  rw [List.map_append, List.map_append]
  rfl
theorem linesV_len (rs : List Row) : (linesV rs).length = rs.length := by
  unfold linesV
  rw [List.length_map, List.length_map]
def sp_shown_book (K : PySem.W.Frag) : Sp := fun vs H Q _ => ∃ (v : V) (b : Book), vs = [v] ∧ Holds H (bookT b) v ∧ BookOk b ∧ ∀ H', Same H H' → Q (.str (textOf (canon b))) H'
theorem prefix_len {b : Book} (h : BookOk b) (i : Nat) : (b.1.map Row.kind ++ (b.2.take i).flatMap ruleRows).length ≤ 4100 := by
  have q := flat_len (l := b.2.take i) fun x hx => (h.rules x (List.mem_of_mem_take hx)).2.2
  have := h.kindsN
  have := h.rulesN
  have e : (b.2.take i).length ≤ b.2.length := by rw [List.length_take]; omega
  rw [List.length_append, List.length_map]
  omega
section
variable {P : Program} {w : World} {K : PySem.W.Frag} {mg : Str → Option Value} {base : Heap}
theorem sc_shown_book : FnScope ["book", "rows", "name", "kind", "price", "shape", "deeds", "deed"] ["book"] (defScope s_shown_book) := ⟨rfl, rfl, rfl, by decide +kernel, rfl, by decide +kernel, by decide +kernel⟩
theorem ok_shown_book (T : Txt K mg) (C_joined : Callee P w K mg base "joined" 1 ["words"] (sp_joined K)) {f : Addr} {fd : FuncData} (F : FnP K "shown_book" s_shown_book f fd) : FnOk P w K mg base CX0 2 f fd ["book"] (sp_shown_book K) := by
  refine F.ok sc_shown_book (fun vs H Q E h => ?_) (fun cdv A outer s H vs Q E hr h => ⟨_, PSs.nox ((pss_cons (ps_setLc (i := 1) (own := [("kind", 3)]) rfl sc_shown_book.nd rfl rfl (sw_true rfl rfl rfl (by decide +kernel)) (kx_piT K (pe_ix (kx_ixT K) (pv 0) pe_int (fun _ _ => rfl))) (blkOk_by (own := [("kind", 3)]) (N := ["book", "rows", "name", "kind", "price", "shape", "deeds", "deed"]) (sc := defScope s_shown_book) (by decide +kernel)) (fun _ _ _ _ _ => by exact (pg_name (i := 3) sc_shown_book.nd rfl (Or.inl rfl))) (fun _ _ _ _ _ => pts_nil) (fun _ _ _ _ _ => by exact (pe_cc C_joined (hr.mono (by decide)) (pa_cons (pe_lst (pa_cons pe_str (pa_cons (pv 3) pa_nil))) pa_nil))))
  (pss_cons (ps_for PassesOwn.never rfl (kx_piT K (pe_ix (kx_ixT K) (pv 0) pe_int (fun _ _ => rfl))) (kx_pgT K 5 rfl (pgs_cons (pg_name (i := 2) sc_shown_book.nd rfl (Or.inl rfl)) (pgs_cons (pg_name (i := 3) sc_shown_book.nd rfl (Or.inl rfl)) (pgs_cons (pg_name (i := 4) sc_shown_book.nd rfl (Or.inl rfl)) (pgs_cons (pg_name (i := 5) sc_shown_book.nd rfl (Or.inl rfl)) (pgs_cons (pg_name (i := 6) sc_shown_book.nd rfl (Or.inl rfl)) pgs_nil))))))
   (pss_cons (ps_expr (kx_app K (pv 1) (pa_cons (pe_cc C_joined (hr.mono (by decide)) (pa_cons (pe_op op_cat (pe_lst (pa_cons pe_str (pa_cons (pv 2) (pa_cons (pv 3) (pa_cons (pv 4) (pa_cons pe_str pa_nil)))))) (pe_callTy (kx_list K) (by rfl) T.list_ (by decide +kernel) (pa_cons (pv 5) pa_nil))) pa_nil)) pa_nil)))
  (pss_one (ps_for PassesOwn.never rfl (kx_piT K (pv 6)) (pg_name (i := 7) sc_shown_book.nd rfl (Or.inl rfl))
   (pss_one (ps_expr (kx_app K (pv 1) (pa_cons (pe_cc C_joined (hr.mono (by decide)) (pa_cons (pe_op op_cat (pe_lst (pa_cons pe_str (pa_cons (pv 2) pa_nil))) (pe_callTy (kx_list K) (by rfl) T.list_ (by decide +kernel) (pa_cons (pv 7) pa_nil))) pa_nil)) pa_nil))))))))
  (pss_one (ps_ret (kx_join K pe_str (pv 1))))))), ?_⟩)
  · obtain ⟨v, b, rfl, _⟩ := h
    rfl
  · obtain ⟨v, b, rfl, hb, hbo, k⟩ := h
    obtain ⟨a, ka, ra, rvs, rfl, ha, hka, hra, hrp⟩ := (book_open hb).ex
    walk_at "pc"
    refine ⟨ka, rfl, ⟨_, SqT.of hka⟩, fun D hD => ?_⟩
    refine lc_pure (walk_tup (xs := b.1.map V.str)) (fun _ => true) (fun k => line (.kind k)) (ds := b.1) (Src := SrcS) (Out := OutS) hD (List.length_map _).symm (by rw [List.length_map]; have := hbo.kindsN; omega) (fun H2 s => SqT.of (s _ _ hka)) (gives_at (paired_map V.str b.1) fun _ _ _ _ h => h) (fun _ _ _ _ _ h => h) (fun c x H2 N1 N2 hc s hs n1 n2 => ?_) (fun H2 ys s hy hp => ?_)
    · cases hs
      walk_at "pc"
      refine ⟨rfl, ?_⟩
      walk_at "pc"
      refine ⟨show 2 ≤ sizeLine by decide, fun p hpn => ?_⟩
      walk_at "pc"
      have hkok : (Row.kind c).ok := hbo.kinds c hc
      exact ⟨p, (Row.kind c).lw, rfl, SqL.of upd_same, fine_row hkok, fun H3 s3 => n1 rfl _ _ ((same_upd hpn).trans s3) rfl⟩
    rw [List.filter_eq_self.mpr (fun _ _ => rfl)] at hp
    have e := paired_fn (F := V.str) (fun b v h => h) hp
    subst e
    have hy : H2 D = some (.lst (linesV (b.1.map Row.kind))) := by
      rw [hy]
      unfold linesV
      rw [List.map_map (g := line)]
      rfl
    clear hp
    have ha2 := s _ _ ha
    walk_at "pc"
    refine ⟨ra, rfl, ⟨_, SqT.of (s _ _ hra)⟩, for_it (walk_tup (xs := rvs)) (fun i σ' H' => ∃ o2 o3 o4 o5 o6 o7, σ' = [some (.ref a), some (.ref D), o2, o3, o4, o5, o6, o7] ∧ Same H H' ∧
      H' D = some (.lst (linesV (b.1.map Row.kind ++ (b.2.take i).flatMap ruleRows)))) ?_ (fun i σ' H' _ ⟨_, _, _, _, _, _, _, s, _⟩ => SqT.of (s _ _ hra)) ?_ ?_⟩
    · exact ⟨none, none, none, none, none, none, rfl, s, by rw [hy]; exact congrArg (fun z => some (HO.lst (linesV z))) (List.append_nil _).symm⟩
    · rintro i x σ' H3 H4 hi ⟨o2, o3, o4, o5, o6, o7, rfl, s3, hD3⟩ ⟨rfl, hx⟩
      obtain ⟨rl, hrl, ho⟩ := Paired.at2 hrp hx
      obtain ⟨ta, tb, tc, ds, rfl, hta0, htb0, htc0, hdp⟩ := full_open ho
      have hta := s3 _ _ hta0
      have htb := s3 _ _ htb0
      have htc := s3 _ _ htc0
      obtain ⟨hro, hdo, hdl⟩ := hbo.rules rl (List.mem_of_getElem? hrl)
      have pl := prefix_len hbo i
      have pe : b.1.map Row.kind ++ (b.2.take (i + 1)).flatMap ruleRows = b.1.map Row.kind ++ (b.2.take i).flatMap ruleRows ++ ruleRows rl := by
        rw [take_snoc hrl, List.flatMap_append, List.append_assoc, List.flatMap_cons, List.flatMap_nil, List.append_nil]
      rw [pe]
      generalize b.1.map Row.kind ++ (b.2.take i).flatMap ruleRows = X1 at pl hD3
      refine i_g5 (SqT.of hta) ?_
      walk_at "pc"
      refine ⟨show 5 ≤ sizeLine by decide, fun p hpn => ?_⟩
      have s4 : Same H4 (upd H4 p (.lst [.str "rule", .str rl.1.n, .str rl.1.k, .int rl.1.p, .str "="])) := same_upd hpn
      have htb4 := s4 _ _ htb
      walk_at "pc"
      refine i_lstT (SqT.of htb4) fun q hq => ?_
      have s5 : Same (upd H4 p (.lst [.str "rule", .str rl.1.n, .str rl.1.k, .int rl.1.p, .str "="])) (upd (upd H4 p (.lst [.str "rule", .str rl.1.n, .str rl.1.k, .int rl.1.p, .str "="])) q (.lst (rl.1.sh.map kV))) := same_upd hq
      have hsl : rl.1.sh.length ≤ 12 := hro.2.2.2.2.2.1
      refine i_catL (s5 _ _ upd_same) upd_same (by rw [List.length_map, sizeLine_eq]; show 5 + rl.1.sh.length ≤ _; omega) fun u hu => ?_
      walk_at "pc"
      refine ⟨u, (ruleRow rl.1).lw, rfl, SqL.of upd_same, fine_row hro, fun H5 s7 => ?_⟩
      have s8 : Same H4 H5 := s4.trans (s5.trans ((same_upd hu).trans s7))
      have hD5 := s8 _ _ hD3
      have s9 := s3.trans s8
      clear s4 s5 s7 htb4
      walk_at "pc"
      refine i_append hD5 (by rw [linesV_len, sizeLine_eq]; omega) ?_
      have el : lineOf (ruleRow rl.1).lw = line (ruleRow rl.1) := rfl
      rw [el, linesV_snoc]
      have s10 : Same H (upd H5 D (.lst (linesV (X1 ++ [ruleRow rl.1])))) := same_new s9 hD
      walk_at "pc"
      refine ⟨tc, rfl, ⟨_, SqT.of (s10 _ _ htc0)⟩, for_it (walk_tup (xs := ds)) (fun j σ' H' => ∃ o7, σ' = [some (.ref a), some (.ref D), some (.str rl.1.n), some (.str rl.1.k), some (.int rl.1.p), some (.ref tb), some (.ref tc), o7] ∧ Same H H' ∧
        H' D = some (.lst (linesV (X1 ++ ruleRow rl.1 :: (rl.2.take j).map (Row.does rl.1.n))))) ?_ (fun i σ' H' _ ⟨_, _, s, _⟩ => SqT.of (s _ _ htc0)) ?_ ?_⟩
      · exact ⟨_, rfl, s10, upd_same⟩
      · rintro j x σ' H6 H7 hj ⟨o8, rfl, s11, hD6⟩ ⟨rfl, hxj⟩
        obtain ⟨dd, hdd, hdo2⟩ := Paired.at2 hdp hxj
        obtain ⟨td, rfl, htd⟩ := holds_flat.mp (OutD.mono (tup_same s11) hdo2)
        have hok : (Row.does rl.1.n dd).ok := ⟨hro.1, hdo dd (List.mem_of_getElem? hdd)⟩
        have hjl : ((rl.2.take j).map (Row.does rl.1.n)).length ≤ 63 := by
          rw [List.length_map, List.length_take]
          omega
        walk_at "pc"
        refine ⟨show 2 ≤ sizeLine by decide, fun p2 hpn2 => ?_⟩
        have t4 : Same H7 (upd H7 p2 (.lst [.str "does", .str rl.1.n])) := same_upd hpn2
        have htd4 := t4 _ _ htd
        walk_at "pc"
        refine i_lstT (SqT.of htd4) fun q2 hq2 => ?_
        have t5 : Same (upd H7 p2 (.lst [.str "does", .str rl.1.n])) (upd (upd H7 p2 (.lst [.str "does", .str rl.1.n])) q2 (.lst (dd.map kV))) := same_upd hq2
        have hddl := (fine_deed hok.2).1
        refine i_catL (t5 _ _ upd_same) upd_same (by rw [List.length_map, sizeLine_eq]; show 2 + dd.length ≤ _; omega) fun u2 hu2 => ?_
        walk_at "pc"
        refine ⟨u2, (Row.does rl.1.n dd).lw, rfl, SqL.of upd_same, fine_row hok, fun H8 t7 => ?_⟩
        have t8 : Same H7 H8 := t4.trans (t5.trans ((same_upd hu2).trans t7))
        have hD8 := t8 _ _ hD6
        walk_at "pc"
        refine i_append hD8 (by rw [linesV_len, sizeLine_eq, List.length_append, List.length_cons]; omega) ?_
        have el : lineOf (Row.does rl.1.n dd).lw = line (Row.does rl.1.n dd) := rfl
        rw [el, linesV_snoc]
        refine ⟨_, rfl, same_new (s11.trans t8) hD, ?_⟩
        rw [upd_same, take_snoc hdd, List.map_append, List.append_assoc]
        rfl
      · rintro σ' H6 ⟨o8, rfl, s11, hD6⟩
        have e : rl.2.take ds.length = rl.2 := by rw [← Paired.length hdp, List.take_length]
        rw [e] at hD6
        exact ⟨_, _, _, _, _, _, rfl, s11, hD6⟩
    · rintro σ' H3 ⟨o2, o3, o4, o5, o6, o7, rfl, s3, hD3⟩
      have e : b.2.take rvs.length = b.2 := by rw [← Paired.length hrp, List.take_length]
      rw [e] at hD3
      walk_at "pc"
      exact i_join (SqL.of hD3) (lines_size (canon_ok hbo) (Nat.le_trans (canon_len hbo) (by decide))) (k _ s3)
end

theorem ws_sub {r : Row} {k : Key} (h : k ∈ r.ws) : k ∈ r.lw := by
  cases r with
  | rule n kd p sh =>
    rcases List.mem_cons.mp h with e | h
    · exact e ▸ List.mem_cons_self ..
    refine List.mem_cons_of_mem _ ?_
    rcases List.mem_cons.mp h with e | h
    · exact e ▸ List.mem_cons_self ..
    refine List.mem_cons_of_mem _ ?_
    rcases List.mem_cons.mp h with e | h
    · exact e ▸ List.mem_cons_self ..
    refine List.mem_cons_of_mem _ ?_
    rcases List.mem_cons.mp h with e | h
    · exact e ▸ List.mem_cons_self ..
    exact List.mem_cons_of_mem _ (List.mem_cons_of_mem _ h)
  | kind n => exact h
  | does n d => exact h
  | nil => exact h
theorem ws_len {r : Row} (h : r.ok) : r.ws.length ≤ 17 := by
  have := (fine_row h).1
  cases r with
  | rule n kd p sh =>
    have q : sh.length + 5 ≤ 17 := this
    show sh.length + 4 ≤ 17
    omega
  | kind n => exact this
  | does n d => exact this
  | nil => exact this
def sp_law_line : Sp := fun vs H Q _ => ∃ (v : V) (r : Row), vs = [v] ∧ Holds H (flatT r.ws) v ∧ r.ok ∧ ∀ H', Same H H' → Q (.str (line r)) H'
def sp_law_text (K : PySem.W.Frag) : Sp := fun vs H Q _ => ∃ (v : V) (b : Book), vs = [v] ∧ Holds H (bookT b) v ∧ BookOk b ∧ ∀ H', Same H H' → Q (.str (textOf (canon b))) H'
theorem words_size {r : Row} (h : r.ok) : ((r.lw.map txt).map (·.length)).sum + (r.lw.map txt).length * (" " : Str).length ≤ 16777216 := join_size (fine_row h)
theorem kind_line (k : Str) : line (.kind k) = "kind " ++ k := by
  refine ext_tl ?_
  show tl (lineOf [.inr "kind", .inr k]) = _
  rw [tl_lineOf, tl_append]
  show tl "kind" ++ ([32] ++ tl k) = tl "kind " ++ tl k
  rw [← List.append_assoc]
  congr 1
section
variable {P : Program} {w : World} {K : PySem.W.Frag} {mg : Str → Option Value} {base : Heap}
theorem sc_law_line : FnScope ["row", "words", "word"] ["row"] (defScope s__law_line) := ⟨rfl, rfl, rfl, by decide +kernel, rfl, by decide +kernel, by decide +kernel⟩
theorem ok_law_line (T : Txt K mg)  {f : Addr} {fd : FuncData} (F : FnP K "_law_line" s__law_line f fd) : FnOk P w K mg base CX0 1 f fd ["row"] sp_law_line := by
  refine F.ok sc_law_line (fun vs H Q E h => ?_) (fun cdv A outer s H vs Q E hr h => ⟨_, PSs.nox ((pss_cons (ps_setLc (i := 1) (own := [("word", 2)]) rfl sc_law_line.nd rfl rfl (sw_true rfl rfl rfl (by decide +kernel)) (kx_piT K (pv 0)) (blkOk_by (own := [("word", 2)]) (N := ["row", "words", "word"]) (sc := defScope s__law_line) (by decide +kernel)) (fun _ _ _ _ _ => by exact (pg_name (i := 2) sc_law_line.nd rfl (Or.inl rfl))) (fun _ _ _ _ _ => pts_nil) (fun _ _ _ _ _ => by exact (pe_callTy cq_str (by rfl) T.str_ (by decide +kernel) (pa_cons (pv 2) pa_nil))))
  (pss_cons (ps_if (pt_cmpR op_eq (pe_ix (kx_ixT K) (pv 0) pe_int (fun _ _ => rfl)) pe_str (nomark _)) (pss_one (ps_set (i := 1) sc_law_line.nd rfl (Or.inl rfl) (pe_op op_cat (pe_op op_cat (pe_slice (kx_slL K) (pv 1) po_none (po_some pe_int)) (pe_lst (pa_cons pe_str pa_nil))) (pe_slice (kx_slL K) (pv 1) (po_some pe_int) po_none)))) pss_nil)
  (pss_one (ps_ret (kx_join K pe_str (pv 1))))))), ?_⟩)
  · obtain ⟨v, r, rfl, _⟩ := h
    rfl
  · obtain ⟨v, r, rfl, hv, hok, k⟩ := h
    obtain ⟨a, rfl, ha⟩ := holds_flat.mp hv
    walk_at "pc"
    refine ⟨a, rfl, ⟨_, SqT.of ha⟩, fun D hD => ?_⟩
    refine lc_pure (walk_tup (xs := r.ws.map kV)) (fun _ => true) txt (ds := r.ws) (Src := SrcK kV) (Out := OutS) hD (List.length_map _).symm (by rw [List.length_map]; have := ws_len hok; omega) (fun H2 s => SqT.of (s _ _ ha)) (gives_at (paired_map kV r.ws) fun _ _ _ _ h => h) (fun _ _ _ _ _ h => h) (fun c x H2 N1 N2 hc s hs n1 n2 => ?_) (fun H2 ys s hy hp => ?_)
    · cases hs
      walk_at "pc"
      refine ⟨rfl, ?_⟩
      walk_at "pc"
      exact i_strK ((fine_row hok).2 c (ws_sub hc)).2.2 (n1 rfl _ _ (Same.refl _) rfl)
    rw [List.filter_eq_self.mpr (fun _ _ => rfl)] at hp
    have e := paired_fn (F := V.str) (fun b v h => h) hp
    subst e
    clear hp
    have fin : ∀ H3 p, Same H2 H3 → H3 p = some (.lst ((r.lw.map txt).map V.str)) → qJoin K (.str " ") [.ref p] H3 Q := fun H3 p s3 hp => i_join (SqL.of hp) (words_size hok) (k _ (s.trans s3))
    have ha2 := s _ _ ha
    cases r with
    | kind n =>
      have ha2 : H2 a = some (.tup [.str "kind", .str n]) := ha2
      walk_at "pcs"
      exact fin _ _ (Same.refl _) hy
    | does n d =>
      have ha2 : H2 a = some (.tup (.str "does" :: .str n :: d.map kV)) := ha2
      walk_at "pcs"
      exact fin _ _ (Same.refl _) hy
    | nil =>
      have ha2 : H2 a = some (.tup [.str ""]) := ha2
      walk_at "pcs"
      exact fin _ _ (Same.refl _) hy
    | rule n kd p sh =>
      have ha2 : H2 a = some (.tup (.str "rule" :: .str n :: .str kd :: .int p :: sh.map kV)) := ha2
      have hy : H2 D = some (.lst (.str "rule" :: .str n :: .str kd :: .str (txt (.inl p)) :: wordsV sh)) := by
        rw [hy]
        unfold wordsV
        rw [List.map_map]
        rfl
      have hsl : (wordsV sh).length ≤ 12 := by
        unfold wordsV
        rw [List.length_map]
        exact hok.2.2.2.2.2.1
      walk_at "pcs"
      refine i_slL (SqL.of hy) fun q hq => ?_
      have c1 : cutV (.str "rule" :: .str n :: .str kd :: .str (txt (.inl p)) :: wordsV sh) none (some 4) = [.str "rule", .str n, .str kd, .str (txt (.inl p))] := cutV_to _ 4
      rw [c1]
      walk_at "pc"
      refine ⟨show 1 ≤ sizeLine by decide, fun q2 hq2 => ?_⟩
      have t1 : Same H2 (upd H2 q (.lst [.str "rule", .str n, .str kd, .str (txt (.inl p))])) := same_upd hq
      have t2 : Same (upd H2 q (.lst [.str "rule", .str n, .str kd, .str (txt (.inl p))])) (upd (upd H2 q (.lst [.str "rule", .str n, .str kd, .str (txt (.inl p))])) q2 (.lst [.str "="])) := same_upd hq2
      refine i_catL (t2 _ _ upd_same) upd_same (show 4 + 1 ≤ sizeLine by decide) fun q3 hq3 => ?_
      have t3 := same_upd (o := .lst ([V.str "rule", .str n, .str kd, .str (txt (.inl p))] ++ [V.str "="])) hq3
      have hy3 := t3 _ _ (t2 _ _ (t1 _ _ hy))
      walk_at "pc"
      refine i_slL (SqL.of hy3) fun q4 hq4 => ?_
      have c2 : cutV (.str "rule" :: .str n :: .str kd :: .str (txt (.inl p)) :: wordsV sh) (some 4) none = wordsV sh := cutV_from _ 4
      rw [c2]
      have t4 := same_upd (o := .lst (wordsV sh)) hq4
      refine i_catL (t4 _ _ upd_same) upd_same (by rw [sizeLine_eq]; show 5 + (wordsV sh).length ≤ _; omega) fun q5 hq5 => ?_
      walk_at "pc"
      refine fin _ _ ((t1.trans t2).trans (t3.trans (t4.trans (same_upd hq5)))) ?_
      rw [upd_same]
      unfold wordsV
      rw [List.map_map]
      rfl
theorem sc_law_text : FnScope ["book", "lines", "name", "kind", "price", "shape", "deeds", "deed"] ["book"] (defScope s__law_text) := ⟨rfl, rfl, rfl, by decide +kernel, rfl, by decide +kernel, by decide +kernel⟩
theorem ok_law_text (T : Txt K mg) (C_law_line : Callee P w K mg base "_law_line" 1 ["row"] sp_law_line) {f : Addr} {fd : FuncData} (F : FnP K "_law_text" s__law_text f fd) : FnOk P w K mg base CX0 2 f fd ["book"] (sp_law_text K) := by
  refine F.ok sc_law_text (fun vs H Q E h => ?_) (fun cdv A outer s H vs Q E hr h => ⟨_, PSs.nox ((pss_cons (ps_setLc (i := 1) (own := [("kind", 3)]) rfl sc_law_text.nd rfl rfl (sw_true rfl rfl rfl (by decide +kernel)) (kx_piT K (pe_ix (kx_ixT K) (pv 0) pe_int (fun _ _ => rfl))) (blkOk_by (own := [("kind", 3)]) (N := ["book", "lines", "name", "kind", "price", "shape", "deeds", "deed"]) (sc := defScope s__law_text) (by decide +kernel)) (fun _ _ _ _ _ => by exact (pg_name (i := 3) sc_law_text.nd rfl (Or.inl rfl))) (fun _ _ _ _ _ => pts_nil) (fun _ _ _ _ _ => by exact (pe_op oq_cat pe_str (pv 3))))
  (pss_cons (ps_for PassesOwn.never rfl (kx_piT K (pe_ix (kx_ixT K) (pv 0) pe_int (fun _ _ => rfl))) (kx_pgT K 5 rfl (pgs_cons (pg_name (i := 2) sc_law_text.nd rfl (Or.inl rfl)) (pgs_cons (pg_name (i := 3) sc_law_text.nd rfl (Or.inl rfl)) (pgs_cons (pg_name (i := 4) sc_law_text.nd rfl (Or.inl rfl)) (pgs_cons (pg_name (i := 5) sc_law_text.nd rfl (Or.inl rfl)) (pgs_cons (pg_name (i := 6) sc_law_text.nd rfl (Or.inl rfl)) pgs_nil))))))
   (pss_cons (ps_expr (kx_app K (pv 1) (pa_cons (pe_cc C_law_line (hr.mono (by decide)) (pa_cons (pe_op (kx_catA K) (pe_tup (pa_cons pe_str (pa_cons (pv 2) (pa_cons (pv 3) (pa_cons (pv 4) pa_nil))))) (pv 5)) pa_nil)) pa_nil)))
  (pss_one (ps_for PassesOwn.never rfl (kx_piT K (pv 6)) (pg_name (i := 7) sc_law_text.nd rfl (Or.inl rfl))
   (pss_one (ps_expr (kx_app K (pv 1) (pa_cons (pe_cc C_law_line (hr.mono (by decide)) (pa_cons (pe_op (kx_catA K) (pe_tup (pa_cons pe_str (pa_cons (pv 2) pa_nil))) (pv 7)) pa_nil)) pa_nil))))))))
  (pss_one (ps_ret (kx_join K pe_str (pv 1))))))), ?_⟩)
  · obtain ⟨v, b, rfl, _⟩ := h
    rfl
  · obtain ⟨v, b, rfl, hb, hbo, k⟩ := h
    obtain ⟨a, ka, ra, rvs, rfl, ha, hka, hra, hrp⟩ := (book_open hb).ex
    walk_at "pc"
    refine ⟨ka, rfl, ⟨_, SqT.of hka⟩, fun D hD => ?_⟩
    refine lc_pure (walk_tup (xs := b.1.map V.str)) (fun _ => true) (fun k => line (.kind k)) (ds := b.1) (Src := SrcS) (Out := OutS) hD (List.length_map _).symm (by rw [List.length_map]; have := hbo.kindsN; omega) (fun H2 s => SqT.of (s _ _ hka)) (gives_at (paired_map V.str b.1) fun _ _ _ _ h => h) (fun _ _ _ _ _ h => h) (fun c x H2 N1 N2 hc s hs n1 n2 => ?_) (fun H2 ys s hy hp => ?_)
    · cases hs
      walk_at "pc"
      refine ⟨rfl, ?_⟩
      walk_at "pc"
      have hkl := (name_parts (hbo.kinds c hc)).2.2.1
      have hkl2 : ("kind " : Str).length = 5 := by decide +kernel
      refine i_cat (by rw [hkl2, sizeLine_eq]; omega) ?_
      rw [← kind_line]
      exact n1 rfl _ _ (Same.refl _) rfl
    rw [List.filter_eq_self.mpr (fun _ _ => rfl)] at hp
    have e := paired_fn (F := V.str) (fun b v h => h) hp
    subst e
    have hy : H2 D = some (.lst (linesV (b.1.map Row.kind))) := by
      rw [hy]
      unfold linesV
      rw [List.map_map (g := line)]
      rfl
    clear hp
    have ha2 := s _ _ ha
    walk_at "pc"
    refine ⟨ra, rfl, ⟨_, SqT.of (s _ _ hra)⟩, for_it (walk_tup (xs := rvs)) (fun i σ' H' => ∃ o2 o3 o4 o5 o6 o7, σ' = [some (.ref a), some (.ref D), o2, o3, o4, o5, o6, o7] ∧ Same H H' ∧
      H' D = some (.lst (linesV (b.1.map Row.kind ++ (b.2.take i).flatMap ruleRows)))) ?_ (fun i σ' H' _ ⟨_, _, _, _, _, _, _, s, _⟩ => SqT.of (s _ _ hra)) ?_ ?_⟩
    · exact ⟨none, none, none, none, none, none, rfl, s, by rw [hy]; exact congrArg (fun z => some (HO.lst (linesV z))) (List.append_nil _).symm⟩
    · rintro i x σ' H3 H4 hi ⟨o2, o3, o4, o5, o6, o7, rfl, s3, hD3⟩ ⟨rfl, hx⟩
      obtain ⟨rl, hrl, ho⟩ := Paired.at2 hrp hx
      obtain ⟨ta, tb, tc, ds, rfl, hta0, htb0, htc0, hdp⟩ := full_open ho
      have hta := s3 _ _ hta0
      have htb := s3 _ _ htb0
      have htc := s3 _ _ htc0
      obtain ⟨hro, hdo, hdl⟩ := hbo.rules rl (List.mem_of_getElem? hrl)
      have pl := prefix_len hbo i
      have pe : b.1.map Row.kind ++ (b.2.take (i + 1)).flatMap ruleRows = b.1.map Row.kind ++ (b.2.take i).flatMap ruleRows ++ ruleRows rl := by
        rw [take_snoc hrl, List.flatMap_append, List.append_assoc, List.flatMap_cons, List.flatMap_nil, List.append_nil]
      rw [pe]
      generalize b.1.map Row.kind ++ (b.2.take i).flatMap ruleRows = X1 at pl hD3
      refine i_g5 (SqT.of hta) ?_
      walk_at "pc"
      refine ⟨show 4 ≤ sizeLine by decide, fun p hpn => ?_⟩
      have s4 : Same H4 (upd H4 p (.tup [.str "rule", .str rl.1.n, .str rl.1.k, .int rl.1.p])) := same_upd hpn
      have htb4 := s4 _ _ htb
      have hsl : rl.1.sh.length ≤ 12 := hro.2.2.2.2.2.1
      have hsn : 1 ≤ rl.1.sh.length := hro.2.2.2.2.1
      walk_at "pc"
      refine i_catA (SqT.of upd_same) (SqT.of htb4) (by rw [List.length_map, sizeLine_eq]; show 4 + rl.1.sh.length ≤ _; omega) (fun z => nomatch z) (fun z => by rw [List.map_eq_nil_iff.mp z] at hsn; exact absurd hsn (by decide)) fun u hu => ?_
      walk_at "pc"
      refine ⟨.ref u, ruleRow rl.1, rfl, holds_flat.mpr ⟨u, rfl, upd_same⟩, hro, fun H5 s7 => ?_⟩
      have s8 : Same H4 H5 := s4.trans ((same_upd hu).trans s7)
      have hD5 := s8 _ _ hD3
      have s9 := s3.trans s8
      clear s4 s7 htb4
      walk_at "pc"
      refine i_append hD5 (by rw [linesV_len, sizeLine_eq]; omega) ?_
      rw [linesV_snoc]
      have s10 : Same H (upd H5 D (.lst (linesV (X1 ++ [ruleRow rl.1])))) := same_new s9 hD
      walk_at "pc"
      refine ⟨tc, rfl, ⟨_, SqT.of (s10 _ _ htc0)⟩, for_it (walk_tup (xs := ds)) (fun j σ' H' => ∃ o7, σ' = [some (.ref a), some (.ref D), some (.str rl.1.n), some (.str rl.1.k), some (.int rl.1.p), some (.ref tb), some (.ref tc), o7] ∧ Same H H' ∧
        H' D = some (.lst (linesV (X1 ++ ruleRow rl.1 :: (rl.2.take j).map (Row.does rl.1.n))))) ?_ (fun i σ' H' _ ⟨_, _, s, _⟩ => SqT.of (s _ _ htc0)) ?_ ?_⟩
      · exact ⟨_, rfl, s10, upd_same⟩
      · rintro j x σ' H6 H7 hj ⟨o8, rfl, s11, hD6⟩ ⟨rfl, hxj⟩
        obtain ⟨dd, hdd, hdo2⟩ := Paired.at2 hdp hxj
        obtain ⟨td, rfl, htd⟩ := holds_flat.mp (OutD.mono (tup_same s11) hdo2)
        have hok : (Row.does rl.1.n dd).ok := ⟨hro.1, hdo dd (List.mem_of_getElem? hdd)⟩
        have hjl : ((rl.2.take j).map (Row.does rl.1.n)).length ≤ 63 := by
          rw [List.length_map, List.length_take]
          omega
        walk_at "pc"
        refine ⟨show 2 ≤ sizeLine by decide, fun p2 hpn2 => ?_⟩
        have t4 : Same H7 (upd H7 p2 (.tup [.str "does", .str rl.1.n])) := same_upd hpn2
        have htd4 := t4 _ _ htd
        have hddl := (fine_deed hok.2).1
        have hddn : dd ≠ [] := by
          intro z
          have := hok.2
          rw [z] at this
          nomatch this
        walk_at "pc"
        refine i_catA (SqT.of upd_same) (SqT.of htd4) (by rw [List.length_map, sizeLine_eq]; show 2 + dd.length ≤ _; omega) (fun z => nomatch z) (fun z => hddn (List.map_eq_nil_iff.mp z)) fun u2 hu2 => ?_
        walk_at "pc"
        refine ⟨.ref u2, .does rl.1.n dd, rfl, holds_flat.mpr ⟨u2, rfl, upd_same⟩, hok, fun H8 t7 => ?_⟩
        have t8 : Same H7 H8 := t4.trans ((same_upd hu2).trans t7)
        have hD8 := t8 _ _ hD6
        walk_at "pc"
        refine i_append hD8 (by rw [linesV_len, sizeLine_eq, List.length_append, List.length_cons]; omega) ?_
        rw [linesV_snoc]
        refine ⟨_, rfl, same_new (s11.trans t8) hD, ?_⟩
        rw [upd_same, take_snoc hdd, List.map_append, List.append_assoc]
        rfl
      · rintro σ' H6 ⟨o8, rfl, s11, hD6⟩
        have e : rl.2.take ds.length = rl.2 := by rw [← Paired.length hdp, List.take_length]
        rw [e] at hD6
        exact ⟨_, _, _, _, _, _, rfl, s11, hD6⟩
    · rintro σ' H3 ⟨o2, o3, o4, o5, o6, o7, rfl, s3, hD3⟩
      have e : b.2.take rvs.length = b.2 := by rw [← Paired.length hrp, List.take_length]
      rw [e] at hD3
      walk_at "pc"
      exact i_join (SqL.of hD3) (lines_size (canon_ok hbo) (Nat.le_trans (canon_len hbo) (by decide))) (k _ s3)
end

def RowAt (H : Hp) (r : Row) (v : V) : Prop := Holds H (flatT r.ws) v
theorem RowAt.mono {H H' : Hp} {r : Row} {v : V} (s : TupLe H H') (h : RowAt H r v) : RowAt H' r v := Holds.mono s h
def sp_law_due (K : PySem.W.Frag) : Sp := fun vs H Q _ => ∃ (a : Addr) (rs : List Row) (us : List V), vs = [.ref a] ∧ H a = some (.lst us) ∧ Paired (RowAt H) rs us ∧ (∀ r ∈ rs, r.ok) ∧ rs.length ≤ 63 ∧ ∀ v H', Same H H' → Holds H' (bookT (due rs)) v → Q v H'
theorem mk_snoc (D : Str → List (List Key)) : ∀ (hs : List Head) (seen : List Str) (h : Head), mkRules D seen (hs ++ [h]) = mkRules D seen hs ++ [(h, gv D (seen ++ hs.map (·.n)) h.n)]
  | [], seen, h => by
    show [(h, gv D seen h.n)] = [(h, gv D (seen ++ []) h.n)]
    rw [List.append_nil]
  | a :: r, seen, h => by
    show (a, gv D seen a.n) :: mkRules D (seen ++ [a.n]) (r ++ [h]) = (a, gv D seen a.n) :: (mkRules D (seen ++ [a.n]) r ++ [(h, gv D (seen ++ (a.n :: r.map (·.n))) h.n)])
    rw [mk_snoc D r, List.append_assoc]
    rfl
theorem heads_same (rs : List Row) (r : Row) (h : isRule r = false) : headsOf (rs ++ [r]) = headsOf rs := by
  unfold headsOf
  rw [List.filter_append, List.map_append, List.filter_cons, if_neg (by rw [h]; exact Bool.false_ne_true)]
  exact List.append_nil _
theorem heads_snoc (rs : List Row) (n k : Str) (p : Int) (sh : List Key) : headsOf (rs ++ [.rule n k p sh]) = headsOf rs ++ [⟨n, k, p, sh⟩] := by
  unfold headsOf
  rw [List.filter_append, List.map_append]
  rfl
theorem cut_14 (a b c d : V) (r : List V) : cutV (a :: b :: c :: d :: r) (some 1) (some 4) = [b, c, d] := by
  show ((a :: b :: c :: d :: r).drop (HT.sIx _ 0 (some ((1 : Nat) : Int)))).take (HT.sIx _ _ (some ((4 : Nat) : Int)) - HT.sIx _ 0 (some ((1 : Nat) : Int))) = _
  rw [HT.sIx_nat, HT.sIx_nat]
  have e1 : min 1 (a :: b :: c :: d :: r).length = 1 := Nat.min_eq_left (by simp only [List.length_cons]; omega)
  have e2 : min 4 (a :: b :: c :: d :: r).length = 4 := Nat.min_eq_left (by simp only [List.length_cons]; omega)
  rw [e1, e2]
  rfl
theorem not_whole (n : Nat) (a : V) (xs : List V) (hi : Option Int) : ¬ (HT.sIx (a :: xs).length 0 (some ((n + 1 : Nat) : Int)) = 0 ∧ HT.sIx (a :: xs).length (a :: xs).length hi = (a :: xs).length) := by
  rintro ⟨e, _⟩
  rw [HT.sIx_nat, List.length_cons] at e
  omega
theorem dec_strs (a b : Str) : decide (V.str a = V.str b) = decide (a = b) := by
  by_cases h : a = b
  · rw [h, decide_eq_true rfl, decide_eq_true rfl]
  · rw [decide_eq_false h, decide_eq_false (fun q => h (by injection q))]
section
variable {P : Program} {w : World} {K : PySem.W.Frag} {mg : Str → Option Value} {base : Heap}
theorem sc_law_due : FnScope ["rows", "kinds", "rules", "seen", "row", "deeds", "other"] ["rows"] (defScope s__law_due) := ⟨rfl, rfl, rfl, by decide +kernel, rfl, by decide +kernel, by decide +kernel⟩
theorem ok_law_due (T : Txt K mg)  {f : Addr} {fd : FuncData} (F : FnP K "_law_due" s__law_due f fd) : FnOk P w K mg base CX0 1 f fd ["rows"] (sp_law_due K) := by
  refine F.ok sc_law_due (fun vs H Q E h => ?_) (fun cdv A outer s H vs Q E hr h => ⟨_, PSs.nox ((pss_cons (ps_set (i := 1) sc_law_due.nd rfl (Or.inl rfl) (pe_callTy (kx_tuple K) (by rfl) T.tuple_ (by decide +kernel) (pa_cons (pe_lc (own := [("row", 4)]) rfl sc_law_due.nd (kx_piL K (pv 0)) (blkOk_by (own := [("row", 4)]) (N := ["rows", "kinds", "rules", "seen", "row", "deeds", "other"]) (sc := defScope s__law_due) (by decide +kernel)) (fun _ _ _ _ _ => by exact (pg_name (i := 4) sc_law_due.nd rfl (Or.inl rfl))) (fun _ _ _ _ _ => by exact pts_one (pt_cmpR op_eq (pe_ix (kx_ixT K) (pv 4) pe_int (fun _ _ => rfl)) pe_str (nomark _))) (fun _ _ _ _ _ => by exact (pe_ix (kx_ixT K) (pv 4) pe_int (fun _ _ => rfl)))) pa_nil)))
  (pss_cons (ps_set (i := 2) sc_law_due.nd rfl (Or.inl rfl) (pe_lst pa_nil))
  (pss_cons (ps_set (i := 3) sc_law_due.nd rfl (Or.inl rfl) (pe_lst pa_nil))
  (pss_cons (ps_for PassesOwn.never rfl (kx_piL K (pv 0)) (pg_name (i := 4) sc_law_due.nd rfl (Or.inr rfl))
   (pss_one (ps_if (pt_cmpR op_eq (pe_ix (kx_ixT K) (pv 4) pe_int (fun _ _ => rfl)) pe_str (nomark _)) (pss_cons (ps_set (i := 5) sc_law_due.nd rfl (Or.inl rfl) (pe_tup pa_nil))
  (pss_mid (ps_if (pt_cmpR (kx_nin K) (pe_ix (kx_ixT K) (pv 4) pe_int (fun _ _ => rfl)) (pv 3) (by rfl)) (pss_one (ps_set (i := 5) sc_law_due.nd rfl (Or.inl rfl) (pe_callTy (kx_tuple K) (by rfl) T.tuple_ (by decide +kernel) (pa_cons (pe_lc (own := [("other", 6)]) rfl sc_law_due.nd (kx_piL K (pv 0)) (blkOk_by (own := [("other", 6)]) (N := ["rows", "kinds", "rules", "seen", "row", "deeds", "other"]) (sc := defScope s__law_due) (by decide +kernel)) (fun _ _ _ _ _ => by exact (pg_name (i := 6) sc_law_due.nd rfl (Or.inl rfl))) (fun _ _ _ _ _ => by exact pts_one (PW.pt (pw_and (pt_cmpR op_eq (pe_ix (kx_ixT K) (pv 6) pe_int (fun _ _ => rfl)) pe_str (nomark _)) (pw_and1 (pt_cmpR op_eq (pe_ix (kx_ixT K) (pv 6) pe_int (fun _ _ => rfl)) (pe_ix (kx_ixT K) (pv 4) pe_int (fun _ _ => rfl)) (nomark _)))))) (fun _ _ _ _ _ => by exact (pe_slice (kx_slA K) (pv 6) (po_some pe_int) po_none))) pa_nil)))) pss_nil)
  (pss_cons (ps_expr (kx_app K (pv 3) (pa_cons (pe_ix (kx_ixT K) (pv 4) pe_int (fun _ _ => rfl)) pa_nil)))
  (pss_one (ps_expr (kx_app K (pv 2) (pa_cons (pe_op (kx_catA K) (pe_slice (kx_slA K) (pv 4) (po_some pe_int) (po_some pe_int)) (pe_tup (pa_cons (pe_slice (kx_slA K) (pv 4) (po_some pe_int) po_none) (pa_cons (pv 5) pa_nil)))) pa_nil))))))) pss_nil)))
  (pss_one (ps_ret (pe_tup (pa_cons (pv 1) (pa_cons (pe_callTy (kx_tuple K) (by rfl) T.tuple_ (by decide +kernel) (pa_cons (pv 2) pa_nil)) pa_nil)))))))))), ?_⟩)
  · obtain ⟨a, rs, us, rfl, _⟩ := h
    rfl
  · obtain ⟨a, rs, us, rfl, ha, hp, hok, hrl, k⟩ := h
    have hul : us.length = rs.length := (Paired.length hp).symm
    walk_at "pc"
    refine ⟨a, rfl, ⟨_, SqL.of ha⟩, fun D hD => ?_⟩
    refine lc_pure (walk_list (xs := us)) isKind kindName (ds := rs) (Src := RowAt) (Out := OutS) hD (Paired.length hp) (by omega) (fun H2 s => SqL.of (s _ _ ha)) (gives_at hp fun H a v s => RowAt.mono (tup_same s)) (fun _ _ _ _ _ h => h) (fun r x H2 N1 N2 hr s hs n1 n2 => ?_) (fun H2 ys s2 hy hyp => ?_)
    · obtain ⟨ra, rfl, hra⟩ := holds_flat.mp hs
      walk_at "pc"
      refine ⟨rfl, ?_⟩
      cases r with
      | nil =>
        have hra : H2 ra = some (.tup [.str ""]) := hra
        walk_at "pcs"
        exact n2 rfl _ (Same.refl _)
      | kind n =>
        have hra : H2 ra = some (.tup [.str "kind", .str n]) := hra
        walk_at "pcs"
        exact n1 rfl _ _ (Same.refl _) rfl
      | rule n kd p sh =>
        have hra : H2 ra = some (.tup (.str "rule" :: .str n :: .str kd :: .int p :: sh.map kV)) := hra
        walk_at "pcs"
        exact n2 rfl _ (Same.refl _)
      | does n d =>
        have hra : H2 ra = some (.tup (.str "does" :: .str n :: d.map kV)) := hra
        walk_at "pcs"
        exact n2 rfl _ (Same.refl _)
    have e := paired_fn (F := V.str) (fun b v h => h) hyp
    subst e
    have ekk : (rs.filter isKind).map kindName = kindsOf rs := rfl
    rw [ekk] at hy
    clear hyp ekk
    walk_at "pc"
    refine i_tupL (SqL.of hy) fun t1 ht1 => ?_
    have s3 : Same H (upd H2 t1 (.tup ((kindsOf rs).map V.str))) := s2.trans (same_upd ht1)
    have hkt : upd H2 t1 (.tup ((kindsOf rs).map V.str)) t1 = some (.tup ((kindsOf rs).map V.str)) := upd_same
    generalize upd H2 t1 (.tup ((kindsOf rs).map V.str)) = H1 at s3 hkt
    clear hy hD s2 ht1 D
    have ha1 := s3 _ _ ha
    have hp1 := Paired.mapP hp fun a v => RowAt.mono (r := a) (v := v) (tup_same s3)
    walk_at "pc"
    refine ⟨Nat.zero_le _, fun rl hrl0 => ?_⟩
    walk_at "pc"
    refine ⟨Nat.zero_le _, fun sn hsn0 => ?_⟩
    have hrs : rl ≠ sn := fun q => by rw [← q, upd_same] at hsn0; cases hsn0
    have hsn1 : H1 sn = none := by rw [upd_ne (Ne.symm hrs)] at hsn0; exact hsn0
    have s4 : Same H1 (upd (upd H1 rl (.lst [])) sn (.lst [])) := same_new (same_upd hrl0) hsn1
    walk_at "pc"
    refine ⟨a, rfl, ⟨_, SqL.of (s4 _ _ ha1)⟩, for_it (walk_list (xs := us)) (fun i σ' H' => ∃ o4 o5, σ' = [some (.ref a), some (.ref t1), some (.ref rl), some (.ref sn), o4, o5, none] ∧ Same H1 H' ∧
      H' sn = some (.lst (((headsOf (rs.take i)).map (·.n)).map V.str)) ∧ ∃ ys, H' rl = some (.lst ys) ∧ ys.length ≤ i ∧ Paired (OutF H') (mkRules (deedsOf rs) [] (headsOf (rs.take i))) ys) ?_ (fun i σ' H' _ ⟨_, _, _, s, _⟩ => SqL.of (s _ _ ha1)) ?_ ?_⟩
    · exact ⟨none, none, rfl, s4, upd_same, [], (upd_ne hrs).trans upd_same, Nat.le_refl _, .nil⟩
    · rintro i x σ' H2' H2 hi ⟨o4, o5, rfl, s5, hsn, ys, hrl1, hyl, hyp⟩ ⟨rfl, hx⟩
      obtain ⟨r, hr, hrow⟩ := Paired.at2 hp1 hx
      obtain ⟨ra, rfl, hra1⟩ := holds_flat.mp hrow
      have hra := s5 _ _ hra1
      have hnl : ((headsOf (rs.take i)).map (·.n)).length ≤ 63 := by
        unfold headsOf
        rw [List.length_map, List.length_map]
        have := List.length_filter_le isRule (rs.take i)
        rw [List.length_take] at this
        omega
      walk_at "pc"
      cases r with
      | nil =>
        have hra : H2 ra = some (.tup [.str ""]) := hra
        walk_at "pcs"
        refine ⟨_, _, rfl, s5, ?_, ys, hrl1, by omega, ?_⟩
        · rw [take_snoc hr, heads_same _ _ rfl]; exact hsn
        · rw [take_snoc hr, heads_same _ _ rfl]; exact hyp
      | kind n =>
        have hra : H2 ra = some (.tup [.str "kind", .str n]) := hra
        walk_at "pcs"
        refine ⟨_, _, rfl, s5, ?_, ys, hrl1, by omega, ?_⟩
        · rw [take_snoc hr, heads_same _ _ rfl]; exact hsn
        · rw [take_snoc hr, heads_same _ _ rfl]; exact hyp
      | does n d =>
        have hra : H2 ra = some (.tup (.str "does" :: .str n :: d.map kV)) := hra
        walk_at "pcs"
        refine ⟨_, _, rfl, s5, ?_, ys, hrl1, by omega, ?_⟩
        · rw [take_snoc hr, heads_same _ _ rfl]; exact hsn
        · rw [take_snoc hr, heads_same _ _ rfl]; exact hyp
      | rule n kd p sh =>
        have hra : H2 ra = some (.tup (.str "rule" :: .str n :: .str kd :: .int p :: sh.map kV)) := hra
        have hsh := (hok _ (List.mem_of_getElem? hr))
        walk_at "pcs"
        refine ⟨Nat.zero_le _, fun t0 ht0 => ?_⟩
        have s6 : Same H2 (upd H2 t0 (.tup [])) := same_upd ht0
        have h0t : upd H2 t0 (.tup []) t0 = some (.tup []) := upd_same
        walk_at "pc"
        generalize upd H2 t0 (.tup []) = H3 at s6 h0t
        have hra3 := s6 _ _ hra
        have hsn3 := s6 _ _ hsn
        refine i_mid (fun σ'' H'' => ∃ td ds, σ'' = [some (.ref a), some (.ref t1), some (.ref rl), some (.ref sn), some (.ref ra), some (.ref td), none] ∧ Same H3 H'' ∧ H'' td = some (.tup ds) ∧
          Paired (OutD H'') (gv (deedsOf rs) ((headsOf (rs.take i)).map (·.n)) n) ds) ?_ ?_
        · walk_at "pc"
          refine i_niL (SqL.of hsn3) rfl (flat_strs _) ?_
          rw [inV_strs]
          walk_at "pc"
          by_cases c : n ∈ (headsOf (rs.take i)).map (·.n)
          · rw [decide_eq_true c]
            walk_at "pc"
            refine ⟨t0, [], rfl, Same.refl _, h0t, ?_⟩
            rw [show gv (deedsOf rs) ((headsOf (rs.take i)).map (·.n)) n = [] from if_pos c]
            exact .nil
          · rw [decide_eq_false c]
            have s35 := s5.trans s6
            have ha3 := s35 _ _ ha1
            have hp3 := Paired.mapP hp1 fun a v => RowAt.mono (r := a) (v := v) (tup_same s35)
            walk_at "pc"
            refine ⟨a, rfl, ⟨_, SqL.of ha3⟩, fun D hD => ?_⟩
            refine lc_pure (walk_list (xs := us)) (doesFor n) deedOf (ds := rs) (Src := RowAt) (Out := OutD) hD (Paired.length hp) (by omega) (fun H2 s => SqL.of (s _ _ ha3)) (gives_at hp3 fun H a v s => RowAt.mono (tup_same s)) (fun _ _ _ _ s h => OutD.mono s h) (fun r x H4 N1 N2 hr' s hs n1 n2 => ?_) (fun H4 zs s7 hz hzp => ?_)
            · obtain ⟨rb, rfl, hrb⟩ := holds_flat.mp hs
              have hra4 := s _ _ hra3
              walk_at "pc"
              refine ⟨rfl, ?_⟩
              cases r with
              | nil =>
                have hrb : H4 rb = some (.tup [.str ""]) := hrb
                walk_at "pcs"
                exact n2 rfl _ (Same.refl _)
              | kind m =>
                have hrb : H4 rb = some (.tup [.str "kind", .str m]) := hrb
                walk_at "pcs"
                exact n2 rfl _ (Same.refl _)
              | rule m kd p sh =>
                have hrb : H4 rb = some (.tup (.str "rule" :: .str m :: .str kd :: .int p :: sh.map kV)) := hrb
                walk_at "pcs"
                exact n2 rfl _ (Same.refl _)
              | does m d =>
                have hrb : H4 rb = some (.tup (.str "does" :: .str m :: d.map kV)) := hrb
                walk_at "pcs"
                rw [dec_strs]
                refine ifB (fun e => ?_) (fun e => ?_)
                · walk_at "pc"
                  refine i_slA (SqT.of hrb) (not_whole 1 _ _ _) fun q hq => ?_
                  have c2 : cutV (.str "does" :: .str m :: d.map kV) (some 2) none = d.map kV := cutV_from _ 2
                  rw [c2]
                  exact n1 e _ _ (same_upd hq) (holds_flat.mpr ⟨q, rfl, upd_same⟩)
                · exact n2 e _ (Same.refl _)
            have ezz : (rs.filter (doesFor n)).map deedOf = deedsOf rs n := rfl
            rw [ezz] at hzp
            walk_at "pc"
            refine i_tupL (SqL.of hz) fun td htd => ?_
            walk_at "pc"
            refine ⟨td, zs, rfl, s7.trans (same_upd htd), upd_same, ?_⟩
            rw [show gv (deedsOf rs) ((headsOf (rs.take i)).map (·.n)) n = deedsOf rs n from if_neg c]
            exact Paired.mapP hzp fun a v h => OutD.mono (tup_new htd) h
        · rintro σ'' H4 ⟨td, ds, rfl, s7, htd, hdp⟩
          have s8 := s6.trans s7
          have hra4 := s8 _ _ hra
          have hsn4 := s8 _ _ hsn
          have hrl4 := s8 _ _ hrl1
          have hyp4 := Paired.mapP hyp fun a v h => OutF.mono (x := h) (tup_same s8)
          walk_at "pc"
          refine i_append hsn4 (by rw [List.length_map, sizeLine_eq]; omega) ?_
          have tl5 := tup_lst (o := .lst (((headsOf (rs.take i)).map (·.n)).map V.str ++ [V.str n])) hsn4
          have s9 : Same H1 (upd H4 sn (.lst (((headsOf (rs.take i)).map (·.n)).map V.str ++ [V.str n]))) := same_new (s5.trans s8) hsn1
          have hrl5 : upd H4 sn (.lst (((headsOf (rs.take i)).map (·.n)).map V.str ++ [V.str n])) rl = some (.lst ys) := (upd_ne hrs).trans hrl4
          have hsn5 : upd H4 sn (.lst (((headsOf (rs.take i)).map (·.n)).map V.str ++ [V.str n])) sn = some (.lst (((headsOf (rs.take i)).map (·.n)).map V.str ++ [V.str n])) := upd_same
          have hra5 := tl5 _ _ hra4
          have htd5 := tl5 _ _ htd
          have hyp5 := Paired.mapP hyp4 fun a v h => OutF.mono (x := h) tl5
          have hdp5 := Paired.mapP hdp fun a v h => OutD.mono (d := a) tl5 h
          generalize upd H4 sn (.lst (((headsOf (rs.take i)).map (·.n)).map V.str ++ [V.str n])) = H5 at s9 hrl5 hsn5 hra5 htd5 hyp5 hdp5
          clear tl5 hyp4 hrl4 hsn4 hra4 s8 s7 hra3 hsn3
          walk_at "pc"
          refine i_slA (SqT.of hra5) (not_whole 0 _ _ _) fun p1 hp1n => ?_
          rw [cut_14]
          have u1 : Same H5 (upd H5 p1 (.tup [.str n, .str kd, .int p])) := same_upd hp1n
          have hra6 := u1 _ _ hra5
          walk_at "pc"
          refine i_slA (SqT.of hra6) (not_whole 3 _ _ _) fun p2 hp2n => ?_
          have c4 : cutV (.str "rule" :: .str n :: .str kd :: .int p :: sh.map kV) (some 4) none = sh.map kV := cutV_from _ 4
          rw [c4]
          have u2 := same_upd (o := .tup (sh.map kV)) hp2n
          walk_at "pc"
          refine ⟨show 2 ≤ sizeLine by decide, fun p3 hp3n => ?_⟩
          have u3 := same_upd (o := .tup [V.ref p2, .ref td]) hp3n
          have u12 := u1.trans (u2.trans u3)
          have g1 := u3 _ _ (u2 _ _ (upd_same (H := H5) (a := p1) (o := .tup [.str n, .str kd, .int p])))
          have g2 := u3 _ _ (upd_same (H := upd H5 p1 (.tup [.str n, .str kd, .int p])) (a := p2) (o := .tup (sh.map kV)))
          refine i_catA (SqT.of g1) (SqT.of upd_same) (show 3 + 2 ≤ sizeLine by decide) (fun z => nomatch z) (fun z => nomatch z) fun p4 hp4n => ?_
          have u4 := same_upd (o := .tup ([V.str n, .str kd, .int p] ++ [V.ref p2, .ref td])) hp4n
          have u14 := u12.trans u4
          have g2' := u4 _ _ g2
          have hrl6 := u14 _ _ hrl5
          have g4 : upd _ p4 (.tup ([V.str n, .str kd, .int p] ++ [V.ref p2, .ref td])) p4 = some (.tup ([V.str n, .str kd, .int p] ++ [V.ref p2, .ref td])) := upd_same (H := upd (upd (upd H5 p1 (.tup [.str n, .str kd, .int p])) p2 (.tup (sh.map kV))) p3 (.tup [V.ref p2, .ref td]))
          walk_at "pc"
          generalize upd (upd (upd (upd H5 p1 (.tup [.str n, .str kd, .int p])) p2 (.tup (sh.map kV))) p3 (.tup [V.ref p2, .ref td])) p4 (.tup ([V.str n, .str kd, .int p] ++ [V.ref p2, .ref td])) = H6 at u14 g2' hrl6 g4
          refine i_append hrl6 (by rw [sizeLine_eq]; omega) ?_
          have tl7 := tup_lst (o := .lst (ys ++ [V.ref p4])) hrl6
          refine ⟨_, _, rfl, same_new (s9.trans u14) hrl0, ?_, _, upd_same, by rw [List.length_append, List.length_singleton]; omega, ?_⟩
          · rw [upd_ne (Ne.symm hrs), u14 _ _ hsn5, take_snoc hr, heads_snoc, List.map_append, List.map_append]
            rfl
          · rw [take_snoc hr, heads_snoc, mk_snoc]
            refine Paired.snoc (Paired.mapP hyp5 fun a v h => OutF.mono (x := h) ((tup_same u14).trans tl7)) (OutF.mono tl7 ?_)
            exact Holds.tup g4 (HoldsL.one (Holds.str _) (HoldsL.one (Holds.str _) (HoldsL.one (Holds.int _) (HoldsL.one (Holds.tup g2' (HoldsL.keys _)) (HoldsL.one (Holds.tup (u14 _ _ htd5) (holds_map (Paired.mapP hdp5 fun a v h => OutD.mono (tup_same u14) h))) HoldsL.nil)))))
    · rintro σ' H2 ⟨o4, o5, rfl, s5, hsn, ys, hrl1, hyl, hyp⟩
      rw [hul, List.take_length] at hyp
      walk_at "pc"
      refine i_tupL (SqL.of hrl1) fun t3 ht3 => ?_
      have s9 : Same H2 (upd H2 t3 (.tup ys)) := same_upd ht3
      walk_at "pc"
      refine ⟨show 2 ≤ sizeLine by decide, fun u hu => ?_⟩
      have s10 : Same (upd H2 t3 (.tup ys)) (upd (upd H2 t3 (.tup ys)) u (.tup [.ref t1, .ref t3])) := same_upd hu
      have s11 := s5.trans (s9.trans s10)
      refine k _ _ (s3.trans s11) (Holds.tup upd_same (HoldsL.one (Holds.tup (s11 _ _ hkt) (holds_strs _)) (HoldsL.one (Holds.tup (s10 _ _ upd_same) (holds_map (Paired.mapP hyp fun a v q => OutF.mono (tup_same (s9.trans s10)) q))) HoldsL.nil)))
end

/-- of a depth below n, not too wide -/
def Deep : Nat → Tr → Prop
  | _, .w _ => True
  | 0, .t _ => False
  | n + 1, .t l => l.length ≤ 5000 ∧ ∀ d ∈ l, Deep n d
def sp_law_same : Nat → Sp
  | 0 => fun _ _ _ _ => False
  | n + 1 => fun vs H Q _ => ∃ (u v : V) (d : Tr), vs = [u, v] ∧ Holds H d u ∧ Holds H d v ∧ Deep n d ∧ ∀ H', Same H H' → Q (.bl true) H'
theorem holds_at {H : Hp} : ∀ {l : List Tr} {vs : List V} {i : Nat} {d : Tr}, HoldsL H l vs → l[i]? = some d → ∃ v, vs[i]? = some v ∧ Holds H d v
  | [], _, i, d, _, e => by simp at e
  | a :: l, vs, i, d, h, e => by
    obtain ⟨v, us, rfl, h1, h2⟩ := holdsL_cons.mp h
    cases i with
    | zero =>
      have e : a = d := Option.some.inj e
      subst e
      exact ⟨v, rfl, h1⟩
    | succ i =>
      obtain ⟨x, h3, h4⟩ := holds_at h2 (show l[i]? = some d from e)
      exact ⟨x, h3, h4⟩
theorem all_true (n : Nat) : (((List.range n).filter fun _ => true).map fun _ => true).all id = true := by
  rw [List.all_eq_true]
  intro b hb
  obtain ⟨_, _, e⟩ := List.mem_map.mp hb
  exact e ▸ rfl
section
variable {P : Program} {w : World} {K : PySem.W.Frag} {mg : Str → Option Value} {base : Heap}
theorem sc_law_same : FnScope ["found", "due", "k"] ["found", "due"] (defScope s__law_same) := ⟨rfl, rfl, rfl, by decide +kernel, rfl, by decide +kernel, by decide +kernel⟩
theorem ok_law_same0 {f : Addr} {fd : FuncData} (F : FnP K "_law_same" s__law_same f fd) : FnOk P w K mg base CX0 1 f fd ["found", "due"] (sp_law_same 0) := by
  refine F.ok sc_law_same (fun vs H Q E h => h.elim) (fun cdv A outer s H vs Q E hr h => h.elim)
theorem ok_law_sameS (T : Txt K mg) (n : Nat) (hn : n < 30) (C_law_same : Callee P w K mg base "_law_same" (n + 1) ["found", "due"] (sp_law_same n)) {f : Addr} {fd : FuncData} (F : FnP K "_law_same" s__law_same f fd) : FnOk P w K mg base CX0 (n + 2) f fd ["found", "due"] (sp_law_same (n + 1)) := by
  refine F.ok sc_law_same (fun vs H Q E h => ?_) (fun cdv A outer s H vs Q E hr h => ⟨_, PSs.nox ((pss_cons (ps_if (pt_val (pe_callB (kx_isi K) (by rfl) T.isinstance_ (by decide +kernel) (pa_cons (pv 1) (pa_cons (pe_bltn (v := .ty "tuple") (by rfl) T.tuple_ (by decide +kernel) rfl) pa_nil)))) (pss_cons (ps_if (PW.pt (pw_or (pt_not (pt_val (pe_callB (kx_isi K) (by rfl) T.isinstance_ (by decide +kernel) (pa_cons (pv 0) (pa_cons (pe_bltn (v := .ty "tuple") (by rfl) T.tuple_ (by decide +kernel) rfl) pa_nil))))) (pw_or1 (pt_cmpR op_ne (pe_callB (kx_len K) (by rfl) T.len_ PySem.boot_len (pa_cons (pv 0) pa_nil)) (pe_callB (kx_len K) (by rfl) T.len_ PySem.boot_len (pa_cons (pv 1) pa_nil)) (nomark _))))) (pss_one (ps_ret pe_bl)) pss_nil)
  (pss_one (ps_ret (pe_callB (kx_all K rfl) (by rfl) T.all_ (by decide +kernel) (pa_cons (pe_lc (own := [("k", 2)]) rfl sc_law_same.nd (pi_range1 rfl T.range_ (pa_cons (pe_callB (kx_len K) (by rfl) T.len_ PySem.boot_len (pa_cons (pv 1) pa_nil)) pa_nil)) (blkOk_by (own := [("k", 2)]) (N := ["found", "due", "k"]) (sc := defScope s__law_same) (by decide +kernel)) (fun _ _ _ _ _ => by exact (pg_name (i := 2) sc_law_same.nd rfl (Or.inl rfl))) (fun _ _ _ _ _ => pts_nil) (fun _ _ _ _ _ => by exact (pe_cc C_law_same (hr) (pa_cons (pe_ix (kx_ixT K) (pv 0) (pv 2) (fun _ _ => rfl)) (pa_cons (pe_ix (kx_ixT K) (pv 1) (pv 2) (fun _ _ => rfl)) pa_nil))))) pa_nil))))) pss_nil)
  (pss_cons (ps_if (pt_val (pe_callB (kx_isi K) (by rfl) T.isinstance_ (by decide +kernel) (pa_cons (pv 1) (pa_cons (pe_bltn (v := .ty "str") (by rfl) T.str_ (by decide +kernel) rfl) pa_nil)))) (pss_one (ps_ret (pe_and (pe_callB (kx_isi K) (by rfl) T.isinstance_ (by decide +kernel) (pa_cons (pv 0) (pa_cons (pe_bltn (v := .ty "str") (by rfl) T.str_ (by decide +kernel) rfl) pa_nil))) (pe_one (pe_cmpR op_eq (pv 0) (pv 1) (nomark _)))))) pss_nil)
  (pss_one (ps_ret (pe_and (pe_callB (kx_isi K) (by rfl) T.isinstance_ (by decide +kernel) (pa_cons (pv 0) (pa_cons (pe_bltn (v := .ty "int") (by rfl) T.int_ (by decide +kernel) rfl) pa_nil))) (pe_and (pe_not (pe_callB (kx_isi K) (by rfl) T.isinstance_ (by decide +kernel) (pa_cons (pv 0) (pa_cons (pe_bltn (v := .ty "bool") (by rfl) T.bool_ (by decide +kernel) rfl) pa_nil)))) (pe_one (pe_cmpR op_eq (pv 0) (pv 1) (nomark _)))))))))), ?_⟩)
  · obtain ⟨u, v, d, rfl, _⟩ := h
    rfl
  · obtain ⟨u, v, d, rfl, hu, hv, hd, k⟩ := h
    cases d with
    | w x =>
      have eu := holds_w.mp hu
      have ev := holds_w.mp hv
      subst eu ev
      cases x with
      | inl i =>
        walk_at "pc"
        refine i_isi (.base (.int i)) (b := false) (by decide +kernel) ?_
        walk_at "pc"
        refine i_isi (.base (.int i)) (b := false) (by decide +kernel) ?_
        walk_at "pc"
        refine i_isi (.base (.int i)) (b := true) (by decide +kernel) ?_
        walk_at "pc"
        refine i_isi (.base (.int i)) (b := false) (by decide +kernel) ?_
        walk_at "pc"
        rw [decide_eq_true rfl]
        exact k H (Same.refl H)
      | inr z =>
        walk_at "pc"
        refine i_isi (.base (.str z)) (b := false) (by decide +kernel) ?_
        walk_at "pc"
        refine i_isi (.base (.str z)) (b := true) (by decide +kernel) ?_
        walk_at "pc"
        refine i_isi (.base (.str z)) (b := true) (by decide +kernel) ?_
        walk_at "pc"
        rw [decide_eq_true rfl]
        exact k H (Same.refl H)
    | t l =>
      cases n with
      | zero => exact hd.elim
      | succ m =>
        obtain ⟨hl, hd⟩ := hd
        obtain ⟨au, us, rfl, hau, hus⟩ := holds_t.mp hu
        obtain ⟨av, vs, rfl, hav, hvs⟩ := holds_t.mp hv
        have e1 := hus.length
        have e2 := hvs.length
        walk_at "pc"
        refine i_isi (.base (.tup hav)) (b := true) (by decide +kernel) ?_
        walk_at "pc"
        refine i_isi (.base (.tup hau)) (b := true) (by decide +kernel) ?_
        walk_at "pc"
        rw [e1, e2, decide_eq_true rfl]
        walk_at "pc"
        refine ⟨_, rfl, by rw [e2]; omega, by rw [e2]; omega, fun D hD => ?_⟩
        have en : ((vs.length : Nat) : Int).toNat = l.length := by rw [e2]; rfl
        rw [en]
        refine lc_pure (walk_range (lo := 0) (n := l.length)) (fun _ => true) (fun _ => true) (ds := List.range l.length) (Src := SrcN) (Out := OutB) hD List.length_range (by omega) (fun _ _ => trivial) gives_range (fun _ _ _ _ _ h => h) (fun c x H2 N1 N2 hc s hs n1 n2 => ?_) (fun H2 ys s hy hp => ?_)
        · cases hs
          have hcl : c < l.length := List.mem_range.mp hc
          have hl1 : l[c]? = some l[c] := List.getElem?_eq_getElem hcl
          obtain ⟨x1, hx1, hx2⟩ := holds_at hus hl1
          obtain ⟨y1, hy1, hy2⟩ := holds_at hvs hl1
          walk_at "pc"
          refine ⟨rfl, ?_⟩
          walk_at "pc"
          refine i_ixT (SqT.of (s _ _ hau)) (atI_nat hx1) ?_
          walk_at "pc"
          refine i_ixT (SqT.of (s _ _ hav)) (atI_nat hy1) ?_
          walk_at "pc"
          exact ⟨x1, y1, l[c], rfl, Holds.mono (tup_same s) hx2, Holds.mono (tup_same s) hy2, hd _ (List.getElem_mem hcl), fun H3 s3 => n1 rfl _ _ s3 rfl⟩
        have e := paired_fn (F := V.bl) (fun b v h => h) hp
        subst e
        walk_at "pc"
        refine i_all (SqL.of hy) ?_
        rw [all_true]
        exact k _ s
end

/-- a hand that is drawn from -/
def HandOk (H : Hp) (a : Addr) : Prop := ∃ c s z : Int, H a = some (.lst [.int c, .int s, .int z]) ∧ 0 ≤ s ∧ s < 1000000007
theorem HandOk.mono {H H' : Hp} {a : Addr} (s : Same H H') (h : HandOk H a) : HandOk H' a := by
  obtain ⟨c, x, z, h1, h2⟩ := h
  exact ⟨c, x, z, s _ _ h1, h2⟩
theorem HandOk.lst {H : Hp} {a : Addr} (h : HandOk H a) : ∃ xs, H a = some (.lst xs) := by
  obtain ⟨c, x, z, h1, h2⟩ := h
  exact ⟨_, h1⟩
theorem HandOk.tup {H H' : Hp} {a : Addr} (h : HandOk H a) (s : But a H H') : TupLe H H' := by
  obtain ⟨xs, e⟩ := h.lst
  exact tup_but e s
theorem HandOk.new {H : Hp} {a p : Addr} {o : HO} (h : HandOk H a) (hp : H p = none) : HandOk (upd H p o) a := h.mono (same_upd hp)
theorem HandOk.ne {H : Hp} {a p : Addr} (h : HandOk H a) (hp : H p = none) : p ≠ a := by
  obtain ⟨xs, e⟩ := h.lst
  exact Ne.symm (ne_of_none e hp)
/-- what the caller wants of a hand's call -/
def HandQ (a : Addr) (H : Hp) (P : V → Hp → Prop) (Q : VK) : Prop := ∀ v H', But a H H' → HandOk H' a → P v H' → Q v H'
def sp_law_hand : Sp := fun vs H Q _ => ∃ c k : Int, vs = [.int c, .int k] ∧ ∀ p H', Same H H' → H p = none → HandOk H' p → Q (.ref p) H'
def sp_law_draw : Sp := fun vs H Q _ => ∃ (a : Addr) (lim : Int), vs = [.ref a, .int lim] ∧ HandOk H a ∧ 0 < lim ∧ lim ≤ 10 ^ 60 ∧ ∀ (r : Int) H', 0 ≤ r → r < lim → But a H H' → HandOk H' a → Q (.int r) H'
theorem pow60i : (10 : Int) ^ 60 < 2 ^ 200 := by decide +kernel
theorem div_ok {z lim : Int} (h0 : 0 < lim) (h1 : lim ≤ 10 ^ 60) : CDivW z lim := by
  refine wide_div h0 (b := 200) ?_ (by decide) (by decide)
  have e := Int.lt_of_le_of_lt h1 pow60i
  have e2 : ((lim.natAbs : Nat) : Int) < ((2 ^ 200 : Nat) : Int) := by
    rw [Int.natAbs_of_nonneg (Int.le_of_lt h0)]
    exact Int.lt_of_lt_of_le e (by decide +kernel)
  exact Int.ofNat_lt.mp e2
def sp_law_number : Sp := fun vs H Q _ => ∃ a : Addr, vs = [.ref a] ∧ HandOk H a ∧ ∀ (n : Int) H', n.natAbs < 10 ^ 60 → But a H H' → HandOk H' a → Q (.int n) H'
section
variable {P : Program} {w : World} {K : PySem.W.Frag} {mg : Str → Option Value} {base : Heap}
theorem sc_law_hand : FnScope ["cell", "k"] ["cell", "k"] (defScope s__law_hand) := ⟨rfl, rfl, rfl, by decide +kernel, rfl, by decide +kernel, by decide +kernel⟩
theorem ok_law_hand (T : Txt K mg)  {f : Addr} {fd : FuncData} (F : FnP K "_law_hand" s__law_hand f fd) : FnOk P w K mg base CX0 1 f fd ["cell", "k"] sp_law_hand := by
  refine F.ok sc_law_hand (fun vs H Q E h => ?_) (fun cdv A outer s H vs Q E hr h => ⟨_, PSs.nox ((pss_one (ps_ret (pe_lst (pa_cons pe_int (pa_cons (pe_op op_mod (pe_op op_mul (pe_op op_add (pe_op op_add (pe_op op_mod (pv 0) pe_int) (pe_op op_mul pe_int (pv 1))) pe_int) pe_int) pe_int) (pa_cons (pv 0) pa_nil))))))), ?_⟩)
  · obtain ⟨c, k, rfl, _⟩ := h
    rfl
  · obtain ⟨c, j, rfl, k⟩ := h
    walk_at "pc"
    refine ⟨show 3 ≤ sizeLine by decide, fun p hp => ?_⟩
    exact k p _ (same_upd hp) hp ⟨_, _, _, upd_same, Int.emod_nonneg _ (by decide), Int.emod_lt_of_pos _ (by decide)⟩
theorem sc_law_draw : FnScope ["hand", "limit", "found"] ["hand", "limit"] (defScope s__law_draw) := ⟨rfl, rfl, rfl, by decide +kernel, rfl, by decide +kernel, by decide +kernel⟩
theorem ok_law_draw (T : Txt K mg)  {f : Addr} {fd : FuncData} (F : FnP K "_law_draw" s__law_draw f fd) : FnOk P w K mg base CX0 1 f fd ["hand", "limit"] sp_law_draw := by
  refine F.ok sc_law_draw (fun vs H Q E h => ?_) (fun cdv A outer s H vs Q E hr h => ⟨_, PSs.nox ((pss_cons (ps_if (PW.pt (pw_or (pt_cmpR op_ge (pe_ix (kx_ixL K) (pv 0) pe_int (fun _ _ => rfl)) pe_int (nomark _)) (pw_or1 (pt_cmpR op_lt (pe_ix (kx_ixL K) (pv 0) pe_int (fun _ _ => rfl)) (pe_un un_neg pe_int) (nomark _))))) (pss_cons (ps_set (i := 2) sc_law_draw.nd rfl (Or.inl rfl) (pe_op op_mod (pe_ix (kx_ixL K) (pv 0) pe_int (fun _ _ => rfl)) (pv 1)))
  (pss_cons (ps_asg (pe_op op_fdivW (pe_ix (kx_ixL K) (pv 0) pe_int (fun _ _ => rfl)) (pv 1)) (pg_sub (pv 0) pe_int set_list))
  (pss_one (ps_ret (pv 2))))) pss_nil)
  (pss_cons (ps_asg (pe_op op_add (pe_ix (kx_ixL K) (pv 0) pe_int (fun _ _ => rfl)) pe_int) (pg_sub (pv 0) pe_int set_list))
  (pss_cons (ps_asg (pe_op op_mod (pe_op op_add (pe_op op_add (pe_op op_mul (pe_ix (kx_ixL K) (pv 0) pe_int (fun _ _ => rfl)) (pe_ix (kx_ixL K) (pv 0) pe_int (fun _ _ => rfl))) (pe_op op_mul pe_int (pe_ix (kx_ixL K) (pv 0) pe_int (fun _ _ => rfl)))) pe_int) pe_int) (pg_sub (pv 0) pe_int set_list))
  (pss_one (ps_ret (pe_op op_mod (pe_op op_fdivW (pe_ix (kx_ixL K) (pv 0) pe_int (fun _ _ => rfl)) pe_int) (pv 1)))))))), ?_⟩)
  · obtain ⟨a, lim, rfl, _⟩ := h
    rfl
  · obtain ⟨a, lim, rfl, ⟨c, x, z, ha, hx0, hx1⟩, h0, h1, k⟩ := h
    walk_at "pc"
    have big : ∀ (D : Ends), D.rt = Q → tSeq (tAsg (tOp (rI (fun _ j => 0 < j) fun i j => .int (i % j)) (tOp (rIxL K) (tVar 0) (tC (.int 2))) (tVar 1)) (gName 2)) (tSeq (tAsg (tOp (rI CDivW fun i j => .int (i / j)) (tOp (rIxL K) (tVar 0) (tC (.int 2))) (tVar 1)) (gSub (tVar 0) (tC (.int 2)) rSetL)) (tRet (tVar 2))) D [some (.ref a), some (.int lim), none] H := by
      rintro D rfl
      walk_at "pc"
      refine i_int h0 ?_
      walk_at "pc"
      refine i_int (div_ok h0 h1) ?_
      walk_at "pc"
      refine i_setL ha (j := 2) rfl ?_
      walk_at "pc"
      exact k _ _ (Int.emod_nonneg _ (by omega)) (Int.emod_lt_of_pos _ h0) (but_upd (But.refl a H)) ⟨c, x, _, upd_same, hx0, hx1⟩
    refine ifB (fun e => ?_) (fun e => ?_)
    · walk_at "pc1"
      exact big _ rfl
    walk_at "pc"
    refine ifB (fun e2 => ?_) (fun e2 => ?_)
    · exact big _ rfl
    walk_at "pc"
    refine i_setL ha (j := 0) rfl ?_
    have ha2 : upd H a (.lst ([V.int c, V.int x, V.int z].set 0 (V.int (c + 1)))) a = some (.lst [.int (c + 1), .int x, .int z]) := upd_same
    walk_at "pc"
    refine i_int (.inl ⟨by omega, by omega⟩) ?_
    walk_at "pc"
    refine i_setL ha2 (j := 1) rfl ?_
    walk_at "pc"
    have ha3 : upd (upd H a (.lst ([V.int c, V.int x, V.int z].set 0 (V.int (c + 1))))) a (.lst ([V.int (c + 1), V.int x, V.int z].set 1 (V.int ((x * x + 7 * (c + 1) + 11) % 1000000007)))) a = some (.lst [.int (c + 1), .int ((x * x + 7 * (c + 1) + 11) % 1000000007), .int z]) := upd_same
    walk_at "pc"
    refine i_int (wide_div (b := 2) (by decide) (by decide) (by decide) (by decide)) ?_
    walk_at "pc"
    refine i_int h0 ?_
    exact k _ _ (Int.emod_nonneg _ (by omega)) (Int.emod_lt_of_pos _ h0) (but_upd (but_upd (But.refl a H))) ⟨_, _, _, ha3, Int.emod_nonneg _ (by decide), Int.emod_lt_of_pos _ (by decide)⟩
theorem sc_law_number : FnScope ["hand", "style", "number"] ["hand"] (defScope s__law_number) := ⟨rfl, rfl, rfl, by decide +kernel, rfl, by decide +kernel, by decide +kernel⟩
theorem ok_law_number (T : Txt K mg) (C_law_draw : Callee P w K mg base "_law_draw" 1 ["hand", "limit"] sp_law_draw) {f : Addr} {fd : FuncData} (F : FnP K "_law_number" s__law_number f fd) : FnOk P w K mg base CX0 2 f fd ["hand"] sp_law_number := by
  refine F.ok sc_law_number (fun vs H Q E h => ?_) (fun cdv A outer s H vs Q E hr h => ⟨_, PSs.nox ((pss_cons (ps_set (i := 1) sc_law_number.nd rfl (Or.inl rfl) (pe_cc C_law_draw (hr.mono (by decide)) (pa_cons (pv 0) (pa_cons pe_int pa_nil))))
  (pss_cons (ps_set (i := 2) sc_law_number.nd rfl (Or.inl rfl) (pe_cc C_law_draw (hr.mono (by decide)) (pa_cons (pv 0) (pa_cons (pe_ix (kx_ixL K) (pe_lst (pa_cons pe_int (pa_cons pe_int (pa_cons (pe_op op_pow pe_int pe_int) (pa_cons (pe_op op_pow pe_int pe_int) pa_nil))))) (pe_op op_mod (pv 1) pe_int) (fun _ _ => rfl)) pa_nil))))
  (pss_one (ps_ret (pe_ix (kx_ixL K) (pe_lst (pa_cons (pv 2) (pa_cons (pe_un un_neg (pv 2)) pa_nil))) (pe_op op_fdivW (pv 1) pe_int) (fun _ _ => rfl))))))), ?_⟩)
  · obtain ⟨a, rfl, _⟩ := h
    rfl
  · obtain ⟨a, rfl, ha, k⟩ := h
    walk_at "pc"
    refine ⟨a, 8, rfl, ha, by decide, by decide +kernel, fun st H1 hs0 hs1 b1 ha1 => ?_⟩
    walk_at "pc"
    refine i_int ⟨by decide, by decide, by decide +kernel⟩ ?_
    walk_at "pc"
    refine i_int ⟨by decide, by decide, by decide +kernel⟩ ?_
    walk_at "pc"
    refine ⟨show 4 ≤ sizeLine by decide, fun p hp => ?_⟩
    walk_at "pc"
    have lim : ∃ lim : Int, atI [V.int 4, V.int 1000, V.int (10 ^ (12 : Int).toNat), V.int (10 ^ (60 : Int).toNat)] (st % 4) = some (.int lim) ∧ 0 < lim ∧ lim ≤ 10 ^ 60 := by
      have c : st % 4 = 0 ∨ st % 4 = 1 ∨ st % 4 = 2 ∨ st % 4 = 3 := by omega
      rcases c with c | c | c | c <;> rw [c]
      · exact ⟨_, at_0, by decide, by decide +kernel⟩
      · exact ⟨_, at_1, by decide, by decide +kernel⟩
      · exact ⟨_, at_2, by decide +kernel, by decide +kernel⟩
      · exact ⟨_, at_3, by decide +kernel, by decide +kernel⟩
    obtain ⟨lim, hlim, l0, l1⟩ := lim
    refine i_ixL (SqL.of upd_same) hlim ?_
    walk_at "pc"
    refine ⟨a, lim, rfl, ha1.new hp, l0, l1, fun r H2 r0 r1 b2 ha2 => ?_⟩
    walk_at "pc"
    refine ⟨show 2 ≤ sizeLine by decide, fun q hq => ?_⟩
    walk_at "pc"
    refine i_int (wide_div (b := 3) (by decide) (by decide) (by decide) (by decide)) ?_
    have small : ∀ x : Int, 0 ≤ x → x < lim → x.natAbs < 10 ^ 60 := by
      intro x x0 x1
      have e : ((x.natAbs : Nat) : Int) < ((10 ^ 60 : Nat) : Int) := by
        rw [Int.natAbs_of_nonneg x0]
        exact Int.lt_of_lt_of_le x1 (Int.le_trans l1 (by decide +kernel))
      exact Int.ofNat_lt.mp e
    have res : ∃ n : Int, atI [V.int r, V.int (-r)] (st / 4) = some (.int n) ∧ n.natAbs < 10 ^ 60 := by
      have c : st / 4 = 0 ∨ st / 4 = 1 := by omega
      rcases c with c | c <;> rw [c]
      · exact ⟨_, at_0, small r r0 r1⟩
      · refine ⟨_, at_1, ?_⟩
        rw [Int.natAbs_neg]
        exact small r r0 r1
    obtain ⟨n, hn, hs⟩ := res
    refine i_ixL (SqL.of upd_same) hn ?_
    obtain ⟨ys, hys⟩ := ha1.lst
    have hfree : H1 p = none := hp
    refine k n _ hs ?_ (ha2.new hq)
    have b3 : But a H1 H2 := fun b o nb e => b2 b o nb (by rw [upd_ne (ne_of_none e hp)]; exact e)
    exact fun b o nb e => by
      rw [upd_ne (ne_of_none (b3 b o nb (b1 b o nb e)) hq)]
      exact b3 b o nb (b1 b o nb e)
end

theorem but_skip {a p : Addr} {H H1 H2 : Hp} {o : HO} (b1 : But a H H1) (hp : H1 p = none) (b2 : But a (upd H1 p o) H2) : But a H H2 := fun b x nb e => b2 b x nb (by
  have e1 := b1 b x nb e
  rw [upd_ne (ne_of_none e1 hp)]
  exact e1)
def letL (l : List Nat) : Prop := ∀ c ∈ l, 97 ≤ c ∧ c ≤ 122
theorem letters_at (i : Int) (h0 : 0 ≤ i) (h1 : i < 26) : ∃ c, atI lettersS.cps.toList i = some c ∧ 97 ≤ c ∧ c ≤ 122 := by
  have el : lettersS.cps.toList.length = 26 := by decide +kernel
  have hi : i.toNat < lettersS.cps.toList.length := by rw [el]; omega
  have e := atI_nat (List.getElem?_eq_getElem hi)
  rw [Int.toNat_of_nonneg h0] at e
  exact ⟨_, e, letter_iff.mp (List.getElem_mem hi)⟩
theorem letters_len : lettersS.length ≤ sizeLine := by decide +kernel
theorem tl_empty2 : tl ("" : Str) = [] := tl_empty
theorem join_ones : ∀ (ys : List Str), (∀ y ∈ ys, ∃ c, (97 ≤ c ∧ c ≤ 122) ∧ y = ⟨#[c]⟩) → letL (tl (Txt.join "" ys)) ∧ (Txt.join "" ys).length = ys.length := by
  intro ys h
  have e : tl (Txt.join "" ys) = joinL [] (ys.map tl) := by rw [join_eq, tl_join, tl_empty]
  have q : ∀ zs : List Str, (∀ y ∈ zs, ∃ c, (97 ≤ c ∧ c ≤ 122) ∧ y = ⟨#[c]⟩) → (joinL [] (zs.map tl)).length = zs.length := by
    intro zs
    induction zs with
    | nil => intro _; rfl
    | cons z r ih =>
      intro hz
      obtain ⟨c, _, ez⟩ := hz z (List.mem_cons_self ..)
      have i2 := ih fun y hy => hz y (List.mem_cons_of_mem _ hy)
      cases r with
      | nil =>
        subst ez
        rfl
      | cons z2 r2 =>
        show (tl z ++ ([] ++ joinL [] ((z2 :: r2).map tl))).length = (z2 :: r2).length + 1
        rw [List.nil_append, List.length_append, i2, ez]
        show 1 + _ = _
        omega
  refine ⟨fun c hc => ?_, ?_⟩
  · rw [e] at hc
    rcases mem_joinL hc with m | ⟨l, hl, m⟩
    · cases m
    · obtain ⟨y, hy, rfl⟩ := List.mem_map.mp hl
      obtain ⟨c2, h2, ey⟩ := h y hy
      rw [ey] at m
      have : c = c2 := List.mem_singleton.mp m
      omega
  · rw [len_tl, e, q ys h]
theorem cut_to_s (z : Str) (n : Nat) : tl (cutS z none (some (n : Int))) = (tl z).take n := by
  show ((tl z).drop (HT.sIx z.length 0 none)).take (HT.sIx z.length z.length (some ((n : Nat) : Int)) - HT.sIx z.length 0 none) = _
  rw [HT.sIx_nat, HT.sIx_none, List.drop_zero, len_tl, Nat.sub_zero]
  by_cases h : n ≤ (tl z).length
  · rw [Nat.min_eq_left h]
  · rw [Nat.min_eq_right (by omega), List.take_length, List.take_of_length_le (by omega)]
theorem cut_from_s (z : Str) (n : Nat) : tl (cutS z (some (n : Int)) none) = (tl z).drop n := by
  show ((tl z).drop (HT.sIx z.length 0 (some ((n : Nat) : Int)))).take (HT.sIx z.length z.length none - HT.sIx z.length 0 (some ((n : Nat) : Int))) = _
  rw [HT.sIx_nat, HT.sIx_none, len_tl]
  by_cases h : n ≤ (tl z).length
  · rw [Nat.min_eq_left h]
    exact List.take_of_length_le (by rw [List.length_drop]; omega)
  · rw [Nat.min_eq_right (by omega), List.drop_length, List.drop_eq_nil_of_le (by omega)]
    exact List.take_nil
theorem name_of {z : Str} (h : letL (tl z)) (h1 : 1 ≤ z.length) (h2 : z.length ≤ 8) (hk : z ∉ keptW) : isName z = true := by
  unfold isName
  rw [decide_eq_false hk, decide_eq_true h1, decide_eq_true h2, Bool.not_false, Bool.true_and, Bool.true_and, Bool.true_and, List.all_eq_true]
  exact fun c hc => decide_eq_true (letter_iff.mpr (h c hc))
theorem kept_more : ∀ z ∈ keptW, isName (z ++ "x") = true ∧ z.length ≤ 8 := by decide +kernel
def sp_law_names (K : PySem.W.Frag) : Sp := fun vs H Q _ => ∃ a : Addr, vs = [.ref a, .int 20] ∧ HandOk H a ∧ ∀ p (ns : List Str) H', But a H H' → HandOk H' a → H p = none → H' p = some (.lst (ns.map V.str)) → ns.length = 20 → (∀ n ∈ ns, isName n = true) → Q (.ref p) H'
def sp_law_any_word (K : PySem.W.Frag) : Sp := fun vs H Q _ => ∃ (a nm : Addr) (ns : List Str), vs = [.ref a, .ref nm] ∧ HandOk H a ∧ SqL K H nm (ns.map V.str) ∧ nm ≠ a ∧ ns.length = 20 ∧ (∀ n ∈ ns, isName n = true) ∧
  ∀ k H', shOk k → But a H H' → HandOk H' a → Q (kV k) H'
section
variable {P : Program} {w : World} {K : PySem.W.Frag} {mg : Str → Option Value} {base : Heap}
theorem sc_law_names : FnScope ["hand", "size", "letters", "base", "at", "shift", "names", "k", "middle", "name"] ["hand", "size"] (defScope s__law_names) := ⟨rfl, rfl, rfl, by decide +kernel, rfl, by decide +kernel, by decide +kernel⟩
theorem ok_law_names (T : Txt K mg) (C_law_draw : Callee P w K mg base "_law_draw" 1 ["hand", "limit"] sp_law_draw) {f : Addr} {fd : FuncData} (F : FnP K "_law_names" s__law_names f fd) : FnOk P w K mg base CX0 2 f fd ["hand", "size"] (sp_law_names K) := by
  refine F.ok sc_law_names (fun vs H Q E h => ?_) (fun cdv A outer s H vs Q E hr h => ⟨_, PSs.nox ((pss_cons (ps_set (i := 2) sc_law_names.nd rfl (Or.inr rfl) pe_str)
  (pss_cons (ps_set (i := 3) sc_law_names.nd rfl (Or.inl rfl) (kx_join K pe_str (pe_lc (own := [("k", 7)]) rfl sc_law_names.nd (pi_range1 rfl T.range_ (pa_cons (pe_cc C_law_draw (hr.mono (by decide)) (pa_cons (pv 0) (pa_cons pe_int pa_nil))) pa_nil)) (blkOk_by (own := [("k", 7)]) (N := ["hand", "size", "letters", "base", "at", "shift", "names", "k", "middle", "name"]) (sc := defScope s__law_names) (by decide +kernel)) (fun _ _ _ _ _ => by exact (pg_name (i := 7) sc_law_names.nd rfl (Or.inl rfl))) (fun _ _ _ _ _ => pts_nil) (fun _ _ _ _ _ => by exact (pe_ix ix_str (pv 2) (pe_cc C_law_draw (hr.mono (by decide)) (pa_cons (pv 0) (pa_cons pe_int pa_nil))) (fun _ _ => rfl))))))
  (pss_cons (ps_set (i := 4) sc_law_names.nd rfl (Or.inl rfl) (pe_cc C_law_draw (hr.mono (by decide)) (pa_cons (pv 0) (pa_cons (pe_op op_add (pe_callB cq_lenS (by rfl) T.len_ PySem.boot_len (pa_cons (pv 3) pa_nil)) pe_int) pa_nil))))
  (pss_cons (ps_set (i := 5) sc_law_names.nd rfl (Or.inl rfl) (pe_cc C_law_draw (hr.mono (by decide)) (pa_cons (pv 0) (pa_cons pe_int pa_nil))))
  (pss_cons (ps_set (i := 6) sc_law_names.nd rfl (Or.inl rfl) (pe_lst pa_nil))
  (pss_cons (ps_for PassesOwn.never rfl (pi_range1 rfl T.range_ (pa_cons (pv 1) pa_nil)) (pg_name (i := 7) sc_law_names.nd rfl (Or.inl rfl))
   (pss_cons (ps_set (i := 8) sc_law_names.nd rfl (Or.inl rfl) (pe_op oq_cat (pe_ix ix_str (pv 2) (pe_op op_mod (pe_op op_add (pv 7) (pv 5)) pe_int) (fun _ _ => rfl)) (pe_ix ix_str (pv 2) (pe_op op_mod (pe_op op_add (pe_op op_fdivW (pv 7) pe_int) (pv 5)) pe_int) (fun _ _ => rfl))))
  (pss_cons (ps_set (i := 9) sc_law_names.nd rfl (Or.inl rfl) (pe_op oq_cat (pe_op oq_cat (pe_slice sl_str (pv 3) po_none (po_some (pv 4))) (pv 8)) (pe_slice sl_str (pv 3) (po_some (pv 4)) po_none)))
  (pss_mid (ps_if (pt_cmpR (kx_in K) (pv 9) (pe_tup (pa_cons pe_str (pa_cons pe_str (pa_cons pe_str (pa_cons pe_str (pa_cons pe_str (pa_cons pe_str (pa_cons pe_str (pa_cons pe_str (pa_cons pe_str pa_nil)))))))))) (by rfl)) (pss_one (ps_set (i := 9) sc_law_names.nd rfl (Or.inl rfl) (pe_op oq_cat (pv 9) pe_str))) pss_nil)
  (pss_one (ps_expr (kx_app K (pv 6) (pa_cons (pv 9) pa_nil))))))))
  (pss_one (ps_ret (pv 6)))))))))), ?_⟩)
  · obtain ⟨a, rfl, _⟩ := h
    rfl
  · obtain ⟨a, rfl, ha, k⟩ := h
    walk_at "pc"
    refine ⟨a, 7, rfl, ha, by decide, by decide +kernel, fun n1 H1 h0 h1 b1 ha1 => ?_⟩
    walk_at "pc"
    refine ⟨n1, rfl, by omega, by omega, fun D hD => ?_⟩
    have hDa : D ≠ a := ha1.ne hD
    refine lc_it (walk_range (lo := 0) (n := n1.toNat)) (fun i H' => But a H1 H' ∧ HandOk H' a ∧ ∃ ys : List Str, H' D = some (.lst (ys.map V.str)) ∧ ys.length = i ∧ ∀ y ∈ ys, ∃ c, (97 ≤ c ∧ c ≤ 122) ∧ y = ⟨#[c]⟩) ?_ (fun _ _ _ _ => trivial) ?_ ?_
    · exact ⟨but_new (But.refl a H1) hD, ha1.new hD, [], upd_same, rfl, fun y hy => by cases hy⟩
    · rintro i x H2 H3 hi ⟨b2, ha2, ys, hy, hyl, hys⟩ ⟨rfl, rfl⟩
      walk_at "pc"
      refine ⟨rfl, ?_⟩
      walk_at "pc"
      refine ⟨a, 26, rfl, ha2, by decide, by decide +kernel, fun r H4 r0 r1 b4 ha4 => ?_⟩
      obtain ⟨c, hc, hc1⟩ := letters_at r r0 r1
      refine i_ixS (z := lettersS) letters_len hc ?_
      have hy4 := b4 _ _ hDa hy
      refine ⟨_, hy4, by rw [List.length_map, sizeLine_eq]; omega, ?_, ?_, ys ++ [⟨#[c]⟩], ?_, ?_, ?_⟩
      · exact but_new (b2.trans b4) hD
      · obtain ⟨c1, x1, z1, e1, e2⟩ := ha4
        exact ⟨c1, x1, z1, (upd_ne (Ne.symm hDa)).trans e1, e2⟩
      · rw [upd_same, List.map_append]
        rfl
      · rw [List.length_append, List.length_singleton, hyl]
      · intro y hym
        rcases List.mem_append.mp hym with m | m
        · exact hys y m
        · exact ⟨c, hc1, List.mem_singleton.mp m⟩
    rintro H2 ⟨b2, ha2, ys, hy, hyl, hys⟩
    obtain ⟨hbl, hblen⟩ := join_ones ys hys
    refine i_join (SqL.of hy) ?_ ?_
    · have q : ∀ zs : List Str, (∀ y ∈ zs, ∃ c, (97 ≤ c ∧ c ≤ 122) ∧ y = ⟨#[c]⟩) → (zs.map (·.length)).sum = zs.length := by
        intro zs
        induction zs with
        | nil => intro _; rfl
        | cons z r ih =>
          intro hz
          obtain ⟨c, _, ez⟩ := hz z (List.mem_cons_self ..)
          rw [List.map_cons, List.sum_cons, ih fun y hy => hz y (List.mem_cons_of_mem _ hy), ez, List.length_cons]
          show 1 + r.length = r.length + 1
          omega
      have e0 : ("" : Str).length = 0 := by decide +kernel
      rw [q ys hys, e0]
      omega
    have hb6 : (Txt.join "" ys).length ≤ 6 := by omega
    generalize Txt.join "" ys = base at hbl hblen hb6
    have hbase : base.length ≤ sizeLine := by rw [sizeLine_eq]; omega
    have b12 := b1.trans b2
    clear hy hys b2 hD hyl ha1
    walk_at "pc"
    refine ⟨a, _, rfl, ha2, by omega, ?_, fun at_ H3 at0 at1 b3 ha3 => ?_⟩
    · have : (10 : Int) ≤ 10 ^ 60 := by decide +kernel
      omega
    obtain ⟨an, rfl⟩ : ∃ n : Nat, at_ = (n : Int) := ⟨at_.toNat, (Int.toNat_of_nonneg at0).symm⟩
    walk_at "pc"
    refine ⟨a, 26, rfl, ha3, by decide, by decide +kernel, fun sh H4 sh0 sh1 b4 ha4 => ?_⟩
    have b14 := b12.trans (b3.trans b4)
    clear b3 b4 ha3 ha2 b1 b12
    walk_at "pc"
    refine ⟨Nat.zero_le _, fun nl hnl => ?_⟩
    have hnla : nl ≠ a := ha4.ne hnl
    have hnl0 : H nl = none := But.free b14 (ha4.lst.choose_spec) hnl
    walk_at "pc"
    refine ⟨20, rfl, by decide, by decide, ?_⟩
    refine for_it (walk_range (lo := 0) (n := (20 : Int).toNat)) (fun i σ' H' => ∃ o7 o8 o9, σ' = [some (.ref a), some (.int 20), some (.str lettersS), some (.str base), some (.int (an : Int)), some (.int sh), some (.ref nl), o7, o8, o9] ∧ But a H H' ∧ HandOk H' a ∧
      ∃ ns : List Str, H' nl = some (.lst (ns.map V.str)) ∧ ns.length = i ∧ ∀ n ∈ ns, isName n = true) ?_ (fun _ _ _ _ _ => trivial) ?_ ?_
    · exact ⟨none, none, none, rfl, but_new b14 hnl0, ha4.new hnl, [], upd_same, rfl, fun n hn => by cases hn⟩
    · rintro i x σ' H5 H6 hi ⟨o7, o8, o9, rfl, b5, ha5, ns, hns, hnsl, hnsn⟩ ⟨rfl, rfl⟩
      have hi20 : i < 20 := hi
      obtain ⟨c1, hc1, hc1b⟩ := letters_at ((0 + (i : Int) + sh) % 26) (Int.emod_nonneg _ (by decide)) (Int.emod_lt_of_pos _ (by decide))
      obtain ⟨c2, hc2, hc2b⟩ := letters_at (((0 + (i : Int)) / 26 + sh) % 26) (Int.emod_nonneg _ (by decide)) (Int.emod_lt_of_pos _ (by decide))
      walk_at "pc"
      refine i_ixS (z := lettersS) letters_len hc1 ?_
      walk_at "pc"
      refine i_int (wide_div (b := 5) (by decide) (by decide) (by decide) (by decide)) ?_
      walk_at "pc"
      refine i_ixS (z := lettersS) letters_len hc2 ?_
      have l1 : ∀ c : Nat, (⟨#[c]⟩ : Str).length = 1 := fun _ => rfl
      have lap : ∀ x y : Str, (x ++ y).length = x.length + y.length := fun x y => by rw [len_tl, tl_append, List.length_append, ← len_tl, ← len_tl]
      have lc1 := cutS_length base none (some (an : Int))
      have lc2 := cutS_length base (some (an : Int)) none
      refine i_cat (by rw [l1, l1, sizeLine_eq]; omega) ?_
      walk_at "pc"
      refine i_cat (by rw [lap, l1, l1, sizeLine_eq]; omega) ?_
      walk_at "pc"
      refine i_cat (by rw [lap, lap, l1, l1, sizeLine_eq]; omega) ?_
      have tlw : tl (cutS base none (some (an : Int)) ++ ((⟨#[c1]⟩ : Str) ++ ⟨#[c2]⟩) ++ cutS base (some (an : Int)) none) = (tl base).take an ++ [c1, c2] ++ (tl base).drop an := by
        rw [tl_append, tl_append, cut_to_s, cut_from_s]
        rfl
      have hlen : (cutS base none (some (an : Int)) ++ ((⟨#[c1]⟩ : Str) ++ ⟨#[c2]⟩) ++ cutS base (some (an : Int)) none).length = base.length + 2 := by
        rw [len_tl, tlw, List.length_append, List.length_append, List.length_take, List.length_drop, ← len_tl]
        show min an base.length + 2 + _ = _
        omega
      have hlet : letL (tl (cutS base none (some (an : Int)) ++ ((⟨#[c1]⟩ : Str) ++ ⟨#[c2]⟩) ++ cutS base (some (an : Int)) none)) := by
        intro c hc
        rw [tlw] at hc
        rcases List.mem_append.mp hc with hc | hc
        · rcases List.mem_append.mp hc with hc | hc
          · exact hbl c (List.mem_of_mem_take hc)
          · rcases List.mem_cons.mp hc with e | e
            · exact e ▸ hc1b
            · exact List.mem_singleton.mp e ▸ hc2b
        · exact hbl c (List.mem_of_mem_drop hc)
      generalize cutS base none (some (an : Int)) ++ ((⟨#[c1]⟩ : Str) ++ ⟨#[c2]⟩) ++ cutS base (some (an : Int)) none = nm at hlen hlet
      walk_at "pc"
      refine i_mid (fun σ'' H'' => ∃ o7 o8 nm, σ'' = [some (.ref a), some (.int 20), some (.str lettersS), some (.str base), some (.int (an : Int)), some (.int sh), some (.ref nl), o7, o8, some (.str nm)] ∧ Same H6 H'' ∧ isName nm = true) ?_ ?_
      · walk_at "pc"
        refine ⟨show 9 ≤ sizeLine by decide, fun p hp => ?_⟩
        have sp := same_upd (o := .tup (keptW.map V.str)) hp
        refine i_isT (xs := keptW.map V.str) (SqT.of upd_same) rfl (flat_strs _) ?_
        rw [inV_strs]
        walk_at "pc"
        refine ifB (fun e => ?_) (fun e => ?_)
        · have hx := kept_more nm (of_decide_eq_true e)
          walk_at "pc"
          refine i_cat (by have : ("x" : Str).length = 1 := by decide +kernel
                           rw [this, sizeLine_eq]; omega) ?_
          exact ⟨_, _, _, rfl, sp, hx.1⟩
        · walk_at "pc"
          exact ⟨_, _, _, rfl, sp, name_of hlet (by omega) (by omega) (of_decide_eq_false e)⟩
      · rintro σ'' H7 ⟨o7, o8, nm, rfl, s7, hnm⟩
        have hns7 := s7 _ _ hns
        walk_at "pc"
        refine i_append hns7 (by rw [List.length_map, sizeLine_eq]; omega) ?_
        refine ⟨_, _, _, rfl, but_new (b5.trans (but_same s7)) hnl0, ?_, ns ++ [nm], ?_, ?_, ?_⟩
        · obtain ⟨c1, x1, z1, e1, e2⟩ := ha5
          exact ⟨c1, x1, z1, (upd_ne (Ne.symm hnla)).trans (s7 _ _ e1), e2⟩
        · rw [upd_same, List.map_append]
          rfl
        · rw [List.length_append, List.length_singleton, hnsl]
        · intro y hym
          rcases List.mem_append.mp hym with m | m
          · exact hnsn y m
          · exact List.mem_singleton.mp m ▸ hnm
    · rintro σ' H5 ⟨o7, o8, o9, rfl, b5, ha5, ns, hns, hnsl, hnsn⟩
      walk_at "pc"
      exact k nl ns H5 b5 ha5 hnl0 hns hnsl hnsn
theorem sc_law_any_word : FnScope ["hand", "names", "style"] ["hand", "names"] (defScope s__law_any_word) := ⟨rfl, rfl, rfl, by decide +kernel, rfl, by decide +kernel, by decide +kernel⟩
theorem ok_law_any_word (T : Txt K mg) (C_law_draw : Callee P w K mg base "_law_draw" 1 ["hand", "limit"] sp_law_draw) (C_law_number : Callee P w K mg base "_law_number" 2 ["hand"] sp_law_number) {f : Addr} {fd : FuncData} (F : FnP K "_law_any_word" s__law_any_word f fd) : FnOk P w K mg base CX0 3 f fd ["hand", "names"] (sp_law_any_word K) := by
  refine F.ok sc_law_any_word (fun vs H Q E h => ?_) (fun cdv A outer s H vs Q E hr h => ⟨_, PSs.nox ((pss_cons (ps_set (i := 2) sc_law_any_word.nd rfl (Or.inl rfl) (pe_cc C_law_draw (hr.mono (by decide)) (pa_cons (pv 0) (pa_cons pe_int pa_nil))))
  (pss_cons (ps_if (pt_cmpR op_lt (pv 2) pe_int (nomark _)) (pss_one (ps_ret (pe_ix (kx_ixL K) (pe_lst (pa_cons pe_str (pa_cons pe_str (pa_cons pe_str (pa_cons pe_str (pa_cons pe_str (pa_cons pe_str pa_nil))))))) (pv 2) (fun _ _ => rfl)))) pss_nil)
  (pss_cons (ps_if (pt_cmpR op_eq (pv 2) pe_int (nomark _)) (pss_one (ps_ret (pe_cc C_law_number (hr.mono (by decide)) (pa_cons (pv 0) pa_nil)))) pss_nil)
  (pss_one (ps_ret (pe_ix (kx_ixL K) (pv 1) (pe_cc C_law_draw (hr.mono (by decide)) (pa_cons (pv 0) (pa_cons (pe_callB (kx_len K) (by rfl) T.len_ PySem.boot_len (pa_cons (pv 1) pa_nil)) pa_nil))) (fun _ _ => rfl)))))))), ?_⟩)
  · obtain ⟨a, nm, ns, rfl, _⟩ := h
    rfl
  · obtain ⟨a, nm, ns, rfl, ha, hnm, hne, hnl, hnn, k⟩ := h
    walk_at "pc"
    refine ⟨a, 9, rfl, ha, by decide, by decide +kernel, fun st H1 h0 h1 b1 ha1 => ?_⟩
    have hnm1 := But.seq b1 hne hnm
    walk_at "pc"
    refine ifB (fun e => ?_) (fun e => ?_)
    · have hst := of_decide_eq_true e
      walk_at "pc"
      refine ⟨show 6 ≤ sizeLine by decide, fun p hp => ?_⟩
      have res : ∃ z : Str, atI [V.str "add", V.str "sub", V.str "mul", V.str "neg", V.str "any", V.str "var"] st = some (.str z) ∧ shOk (.inr z) := by
        have c : st = 0 ∨ st = 1 ∨ st = 2 ∨ st = 3 ∨ st = 4 ∨ st = 5 := by omega
        rcases c with c | c | c | c | c | c <;> rw [c]
        · exact ⟨_, at_0, .inl (.inr (by decide +kernel))⟩
        · exact ⟨_, at_1, .inl (.inr (by decide +kernel))⟩
        · exact ⟨_, at_2, .inl (.inr (by decide +kernel))⟩
        · exact ⟨_, at_3, .inl (.inr (by decide +kernel))⟩
        · exact ⟨_, at_4, .inr (.inl rfl)⟩
        · exact ⟨_, atI_nat (j := 5) rfl, .inr (.inr rfl)⟩
      obtain ⟨z, hz, hzs⟩ := res
      walk_at "pc"
      refine i_ixL (SqL.of upd_same) hz ?_
      exact k (.inr z) _ hzs (but_same (same_upd hp) |> fun q => b1.trans q) (ha1.new hp)
    walk_at "pc"
    refine ifB (fun e2 => ?_) (fun e2 => ?_)
    · walk_at "pc"
      refine ⟨a, rfl, ha1, fun n H2 hn b2 ha2 => ?_⟩
      exact k (.inl n) _ (.inl hn) (b1.trans b2) ha2
    walk_at "pc"
    have hl20 : (((ns.map V.str).length : Nat) : Int) = 20 := by rw [List.length_map, hnl]; rfl
    rw [hl20]
    refine ⟨a, 20, rfl, ha1, by decide, by decide +kernel, fun r H2 r0 r1 b2 ha2 => ?_⟩
    have hr : r.toNat < ns.length := by omega
    have hat : atI (ns.map V.str) r = some (.str ns[r.toNat]) := by
      have e := atI_nat (xs := ns.map V.str) (j := r.toNat) (v := .str ns[r.toNat]) (by rw [List.getElem?_map, List.getElem?_eq_getElem hr]; rfl)
      rw [Int.toNat_of_nonneg r0] at e
      exact e
    refine i_ixL (But.seq b2 hne hnm1) hat ?_
    exact k (.inr ns[r.toNat]) _ (.inl (.inl (hnn _ (List.getElem_mem hr)))) (b1.trans b2) ha2
end

def sp_law_any_deed : Sp := fun vs H Q _ => ∃ a : Addr, vs = [.ref a] ∧ HandOk H a ∧ ∀ d v H', DeedOk d → Holds H' (flatT d) v → But a H H' → HandOk H' a → Q v H'
theorem marks (c k : Nat) (h1 : 1 ≤ k) (h2 : k ≤ 9) : (⟨#[c]⟩ : Str) ++ txt (.inl (k : Int)) = ⟨#[c, 48 + k]⟩ := by
  refine ext_tl ?_
  rw [tl_append, tl_int, if_neg (by omega)]
  show [c] ++ numL ((k : Int).natAbs) = [c, 48 + k]
  have e : (k : Int).natAbs = k := by omega
  rw [e, numL_lt (by omega)]
  rfl
theorem mark_of (c : Nat) (z : Str) (hz : z = ⟨#[c]⟩) (k : Int) (h1 : 1 ≤ k) (h2 : k ≤ 9) : mark c (z ++ txt (.inl k)) := by
  obtain ⟨n, rfl⟩ : ∃ n : Nat, k = (n : Int) := ⟨k.toNat, by omega⟩
  rw [hz, marks c n (by omega) (by omega)]
  exact ⟨48 + n, by omega, by omega, rfl⟩
theorem tl_h : ("h" : Str) = ⟨#[104]⟩ := by decide +kernel
theorem tl_n : ("n" : Str) = ⟨#[110]⟩ := by decide +kernel
theorem tl_v : ("v" : Str) = ⟨#[118]⟩ := by decide +kernel
theorem box_at (i : Int) (h0 : 0 ≤ i) (h1 : i < 4) : ∃ b : Str, atI [V.str "out", V.str "t1", V.str "t2", V.str "t3"] i = some (.str b) ∧ b ∈ boxesW := by
  have c : i = 0 ∨ i = 1 ∨ i = 2 ∨ i = 3 := by omega
  rcases c with c | c | c | c <;> rw [c]
  · exact ⟨_, at_0, by decide +kernel⟩
  · exact ⟨_, at_1, by decide +kernel⟩
  · exact ⟨_, at_2, by decide +kernel⟩
  · exact ⟨_, at_3, by decide +kernel⟩
theorem pair_at (i : Int) (h0 : 0 ≤ i) (h1 : i < 3) : ∃ b : Str, atI [V.str "add", V.str "sub", V.str "mul"] i = some (.str b) ∧ b ∈ pairsW := by
  have c : i = 0 ∨ i = 1 ∨ i = 2 := by omega
  rcases c with c | c | c <;> rw [c]
  · exact ⟨_, at_0, by decide +kernel⟩
  · exact ⟨_, at_1, by decide +kernel⟩
  · exact ⟨_, at_2, by decide +kernel⟩
theorem strs_at (fs : List Str) (i : Int) (h0 : 0 ≤ i) (h1 : i < fs.length) : ∃ b : Str, atI (fs.map V.str) i = some (.str b) ∧ b ∈ fs := by
  have hr : i.toNat < fs.length := by omega
  have e := atI_nat (xs := fs.map V.str) (j := i.toNat) (v := .str fs[i.toNat]) (by rw [List.getElem?_map, List.getElem?_eq_getElem hr]; rfl)
  rw [Int.toNat_of_nonneg h0] at e
  exact ⟨_, e, List.getElem_mem hr⟩
theorem int_bits (k : Int) (h0 : 0 ≤ k) (h1 : k ≤ 1000) : k.natAbs.log2 < 1920 := num_bits (Nat.lt_of_le_of_lt (show k.natAbs ≤ 1000 by omega) (by decide +kernel))
theorem int_len (k : Int) (h0 : 0 ≤ k) (h1 : k ≤ 1000) : (txt (.inl k)).length ≤ 61 := num_len (Nat.lt_of_le_of_lt (show k.natAbs ≤ 1000 by omega) (by decide +kernel))
theorem gives_range1 {H1 : Hp} {n : Nat} : ∀ i H x H', i < n → Same H1 H → YFn (fun i => V.int (1 + (i : Int))) i H x H' → H' = H ∧ ∃ a, (List.range n)[i]? = some a ∧ (fun (_ : Hp) (k : Nat) (v : V) => v = V.int (1 + (k : Int))) H a x := by
  rintro i H x H' hi _ ⟨rfl, rfl⟩
  exact ⟨rfl, i, by rw [List.getElem?_range hi], rfl⟩
section
variable {P : Program} {w : World} {K : PySem.W.Frag} {mg : Str → Option Value} {base : Heap}
theorem sc_law_any_deed : FnScope ["hand", "box", "some", "style", "word", "k"] ["hand"] (defScope s__law_any_deed) := ⟨rfl, rfl, rfl, by decide +kernel, rfl, by decide +kernel, by decide +kernel⟩
theorem ok_law_any_deed (T : Txt K mg) (C_law_draw : Callee P w K mg base "_law_draw" 1 ["hand", "limit"] sp_law_draw) (C_law_number : Callee P w K mg base "_law_number" 2 ["hand"] sp_law_number) {f : Addr} {fd : FuncData} (F : FnP K "_law_any_deed" s__law_any_deed f fd) : FnOk P w K mg base CX0 3 f fd ["hand"] sp_law_any_deed := by
  refine F.ok sc_law_any_deed (fun vs H Q E h => ?_) (fun cdv A outer s H vs Q E hr h => ⟨_, PSs.nox ((pss_cons (ps_set (i := 1) sc_law_any_deed.nd rfl (Or.inl rfl) (pe_ix (kx_ixL K) (pe_lst (pa_cons pe_str (pa_cons pe_str (pa_cons pe_str (pa_cons pe_str pa_nil))))) (pe_cc C_law_draw (hr.mono (by decide)) (pa_cons (pv 0) (pa_cons pe_int pa_nil))) (fun _ _ => rfl)))
  (pss_cons (ps_set (i := 2) sc_law_any_deed.nd rfl (Or.inl rfl) (pe_op op_cat (pe_lst (pa_cons pe_str (pa_cons pe_str (pa_cons pe_str (pa_cons pe_str pa_nil))))) (pe_lc (own := [("k", 5)]) rfl sc_law_any_deed.nd (pi_range2 rfl T.range_ (pa_cons pe_int (pa_cons pe_int pa_nil))) (blkOk_by (own := [("k", 5)]) (N := ["hand", "box", "some", "style", "word", "k"]) (sc := defScope s__law_any_deed) (by decide +kernel)) (fun _ _ _ _ _ => by exact (pg_name (i := 5) sc_law_any_deed.nd rfl (Or.inl rfl))) (fun _ _ _ _ _ => pts_nil) (fun _ _ _ _ _ => by exact (pe_op oq_cat pe_str (pe_callTy cq_str (by rfl) T.str_ (by decide +kernel) (pa_cons (pv 5) pa_nil)))))))
  (pss_cons (ps_set (i := 3) sc_law_any_deed.nd rfl (Or.inl rfl) (pe_cc C_law_draw (hr.mono (by decide)) (pa_cons (pv 0) (pa_cons pe_int pa_nil))))
  (pss_cons (ps_if (pt_cmpR op_eq (pv 3) pe_int (nomark _)) (pss_one (ps_ret (pe_tup (pa_cons pe_str (pa_cons (pv 1) (pa_cons (pe_cc C_law_number (hr.mono (by decide)) (pa_cons (pv 0) pa_nil)) pa_nil)))))) pss_nil)
  (pss_cons (ps_if (pt_cmpR op_eq (pv 3) pe_int (nomark _)) (pss_one (ps_ret (pe_tup (pa_cons pe_str (pa_cons (pv 1) (pa_cons (pe_op oq_cat pe_str (pe_callTy cq_str (by rfl) T.str_ (by decide +kernel) (pa_cons (pe_op op_add pe_int (pe_cc C_law_draw (hr.mono (by decide)) (pa_cons (pv 0) (pa_cons pe_int pa_nil)))) pa_nil))) pa_nil)))))) pss_nil)
  (pss_cons (ps_if (pt_cmpR op_eq (pv 3) pe_int (nomark _)) (pss_one (ps_ret (pe_tup (pa_cons pe_str (pa_cons (pv 1) (pa_cons (pe_op oq_cat pe_str (pe_callTy cq_str (by rfl) T.str_ (by decide +kernel) (pa_cons (pe_op op_add pe_int (pe_cc C_law_draw (hr.mono (by decide)) (pa_cons (pv 0) (pa_cons pe_int pa_nil)))) pa_nil))) pa_nil)))))) pss_nil)
  (pss_cons (ps_if (pt_cmpR op_eq (pv 3) pe_int (nomark _)) (pss_one (ps_ret (pe_tup (pa_cons pe_str (pa_cons (pv 1) (pa_cons (pe_ix (kx_ixL K) (pv 2) (pe_cc C_law_draw (hr.mono (by decide)) (pa_cons (pv 0) (pa_cons pe_int pa_nil))) (fun _ _ => rfl)) pa_nil)))))) pss_nil)
  (pss_cons (ps_set (i := 4) sc_law_any_deed.nd rfl (Or.inl rfl) (pe_ix (kx_ixL K) (pe_lst (pa_cons pe_str (pa_cons pe_str (pa_cons pe_str pa_nil)))) (pe_cc C_law_draw (hr.mono (by decide)) (pa_cons (pv 0) (pa_cons pe_int pa_nil))) (fun _ _ => rfl)))
  (pss_one (ps_ret (pe_tup (pa_cons (pv 4) (pa_cons (pv 1) (pa_cons (pe_ix (kx_ixL K) (pv 2) (pe_cc C_law_draw (hr.mono (by decide)) (pa_cons (pv 0) (pa_cons pe_int pa_nil))) (fun _ _ => rfl)) (pa_cons (pe_ix (kx_ixL K) (pv 2) (pe_cc C_law_draw (hr.mono (by decide)) (pa_cons (pv 0) (pa_cons pe_int pa_nil))) (fun _ _ => rfl)) pa_nil)))))))))))))))), ?_⟩)
  · obtain ⟨a, rfl, _⟩ := h
    rfl
  · obtain ⟨a, rfl, ha, k⟩ := h
    walk_at "pc"
    refine ⟨show 4 ≤ sizeLine by decide, fun p1 hp1 => ?_⟩
    walk_at "pc"
    refine ⟨a, 4, rfl, ha.new hp1, by decide, by decide +kernel, fun r1 H1 r10 r11 b1 ha1 => ?_⟩
    obtain ⟨bx, hbx, hbm⟩ := box_at r1 r10 r11
    have hp11 := b1 _ _ (ha.ne hp1) upd_same
    have bb1 : But a H H1 := but_skip (But.refl a H) hp1 b1
    refine i_ixL (SqL.of hp11) hbx ?_
    walk_at "pc"
    refine ⟨show 4 ≤ sizeLine by decide, fun p2 hp2 => ?_⟩
    have s2 : Same H1 (upd H1 p2 (.lst [.str "out", .str "t1", .str "t2", .str "t3"])) := same_upd hp2
    walk_at "pc"
    refine ⟨1, 10, rfl, by decide, fun D hD => ?_⟩
    have en : ((10 : Int) - 1).toNat = 9 := rfl
    rw [en]
    refine lc_pure (walk_range (lo := 1) (n := 9)) (fun _ => true) (fun k => (⟨#[104]⟩ : Str) ++ txt (.inl (1 + (k : Int)))) (ds := List.range 9) (Src := fun _ k v => v = V.int (1 + (k : Int))) (Out := OutS) hD List.length_range (by decide) (fun _ _ => trivial) gives_range1 (fun _ _ _ _ _ h => h) (fun c x H2 N1 N2 hc s hs n1 n2 => ?_) (fun H2 ys s3 hy hp => ?_)
    · cases hs
      have hc9 := List.mem_range.mp hc
      walk_at "pc"
      refine ⟨rfl, ?_⟩
      walk_at "pc"
      refine i_strI (int_bits _ (by omega) (by omega)) ?_
      have hl := int_len (1 + (c : Int)) (by omega) (by omega)
      have h1l : ("h" : Str).length = 1 := by decide +kernel
      refine i_cat (by rw [h1l, sizeLine_eq]; omega) ?_
      exact n1 rfl _ _ (Same.refl _) (by rw [tl_h]; rfl)
    rw [List.filter_eq_self.mpr (fun _ _ => rfl)] at hp
    have e := paired_fn (F := V.str) (fun b v h => h) hp
    subst e
    clear hp
    refine i_catL (s3 _ _ upd_same) hy (by rw [List.length_map, List.length_map]; decide) fun p3 hp3 => ?_
    have hsm : upd H2 p3 (.lst ([V.str "out", .str "t1", .str "t2", .str "t3"] ++ ((List.range 9).map fun k : Nat => (⟨#[104]⟩ : Str) ++ txt (.inl (1 + (k : Int)))).map V.str)) p3 = some (.lst ((boxesW ++ (List.range 9).map fun k : Nat => (⟨#[104]⟩ : Str) ++ txt (.inl (1 + (k : Int)))).map V.str)) := by
      rw [upd_same, List.map_append]
      rfl
    have s4 : Same H1 (upd H2 p3 (.lst ([V.str "out", .str "t1", .str "t2", .str "t3"] ++ ((List.range 9).map fun k : Nat => (⟨#[104]⟩ : Str) ++ txt (.inl (1 + (k : Int)))).map V.str))) := (s2.trans s3).trans (same_upd hp3)
    have hfs : ∀ f ∈ boxesW ++ (List.range 9).map fun k : Nat => (⟨#[104]⟩ : Str) ++ txt (.inl (1 + (k : Int))), fromOk f := by
      intro f hf
      rcases List.mem_append.mp hf with hf | hf
      · exact .inl hf
      · obtain ⟨j, hj, rfl⟩ := List.mem_map.mp hf
        have := List.mem_range.mp hj
        exact .inr (mark_of 104 _ rfl _ (by omega) (by omega))
    have hfl : (boxesW ++ (List.range 9).map fun k : Nat => (⟨#[104]⟩ : Str) ++ txt (.inl (1 + (k : Int)))).length = 13 := by
      rw [List.length_append, List.length_map, List.length_range]
      rfl
    have hpa3 : p3 ≠ a := (ha1.mono (s2.trans s3)).ne hp3
    generalize boxesW ++ (List.range 9).map (fun k : Nat => (⟨#[104]⟩ : Str) ++ txt (.inl (1 + (k : Int)))) = fs at hsm hfs hfl
    generalize upd H2 p3 (.lst ([V.str "out", .str "t1", .str "t2", .str "t3"] ++ ((List.range 9).map fun k : Nat => (⟨#[104]⟩ : Str) ++ txt (.inl (1 + (k : Int)))).map V.str)) = H3 at hsm s4
    have ha3 := ha1.mono s4
    have bb3 : But a H H3 := bb1.trans (but_same s4)
    clear s4 s3 hy hD s2 hp3 hp2 b1 ha1 hp11 en
    walk_at "pc"
    refine ⟨a, 6, rfl, ha3, by decide, by decide +kernel, fun st H4 st0 st1 b4 ha4 => ?_⟩
    have hsm4 := b4 _ _ hpa3 hsm
    have bb4 := bb3.trans b4
    walk_at "pc"
    refine ifB (fun e => ?_) (fun e0 => ?_)
    · walk_at "pc"
      refine ⟨a, rfl, ha4, fun n H5 hn b5 ha5 => ?_⟩
      walk_at "pc"
      refine ⟨show 3 ≤ sizeLine by decide, fun u hu => ?_⟩
      exact k _ _ _ (.putN hbm hn) (holds_flat.mpr ⟨u, rfl, upd_same⟩) ((bb4.trans b5).trans (but_same (same_upd hu))) (ha5.new hu)
    walk_at "pc"
    refine ifB (fun e => ?_) (fun e1 => ?_)
    · walk_at "pc"
      refine ⟨a, 9, rfl, ha4, by decide, by decide +kernel, fun r H5 r0 r1 b5 ha5 => ?_⟩
      walk_at "pc"
      refine i_strI (int_bits _ (by omega) (by omega)) ?_
      have hl := int_len (1 + r) (by omega) (by omega)
      have h1l : ("n" : Str).length = 1 := by decide +kernel
      refine i_cat (by rw [h1l, sizeLine_eq]; omega) ?_
      walk_at "pc"
      refine ⟨show 3 ≤ sizeLine by decide, fun u hu => ?_⟩
      exact k _ _ _ (.putM hbm (mark_of 110 "n" tl_n (1 + r) (by omega) (by omega))) (holds_flat.mpr ⟨u, rfl, upd_same⟩) ((bb4.trans b5).trans (but_same (same_upd hu))) (ha5.new hu)
    walk_at "pc"
    refine ifB (fun e => ?_) (fun e2 => ?_)
    · walk_at "pc"
      refine ⟨a, 9, rfl, ha4, by decide, by decide +kernel, fun r H5 r0 r1 b5 ha5 => ?_⟩
      walk_at "pc"
      refine i_strI (int_bits _ (by omega) (by omega)) ?_
      have hl := int_len (1 + r) (by omega) (by omega)
      have h1l : ("v" : Str).length = 1 := by decide +kernel
      refine i_cat (by rw [h1l, sizeLine_eq]; omega) ?_
      walk_at "pc"
      refine ⟨show 3 ≤ sizeLine by decide, fun u hu => ?_⟩
      exact k _ _ _ (.load hbm (mark_of 118 "v" tl_v (1 + r) (by omega) (by omega))) (holds_flat.mpr ⟨u, rfl, upd_same⟩) ((bb4.trans b5).trans (but_same (same_upd hu))) (ha5.new hu)
    walk_at "pc"
    refine ifB (fun e => ?_) (fun e3 => ?_)
    · walk_at "pc"
      refine ⟨a, 13, rfl, ha4, by decide, by decide +kernel, fun r H5 r0 r1 b5 ha5 => ?_⟩
      obtain ⟨fr, hfr, hfm⟩ := strs_at fs r r0 (by rw [hfl]; exact r1)
      have hsm5 := b5 _ _ hpa3 hsm4
      refine i_ixL (SqL.of hsm5) hfr ?_
      walk_at "pc"
      refine ⟨show 3 ≤ sizeLine by decide, fun u hu => ?_⟩
      exact k _ _ _ (.neg hbm (hfs _ hfm)) (holds_flat.mpr ⟨u, rfl, upd_same⟩) ((bb4.trans b5).trans (but_same (same_upd hu))) (ha5.new hu)
    walk_at "pc"
    refine ⟨show 3 ≤ sizeLine by decide, fun p5 hp5 => ?_⟩
    walk_at "pc"
    refine ⟨a, 3, rfl, ha4.new hp5, by decide, by decide +kernel, fun r H5 r0 r1 b5 ha5 => ?_⟩
    obtain ⟨pw, hpw, hpm⟩ := pair_at r r0 r1
    have hp55 := b5 _ _ (ha4.ne hp5) upd_same
    have b45 : But a H4 H5 := but_skip (But.refl a H4) hp5 b5
    refine i_ixL (SqL.of hp55) hpw ?_
    have hsm5 := b45 _ _ hpa3 hsm4
    walk_at "pc"
    refine ⟨a, 13, rfl, ha5, by decide, by decide +kernel, fun r2 H6 r20 r21 b6 ha6 => ?_⟩
    obtain ⟨f1, hf1, hf1m⟩ := strs_at fs r2 r20 (by rw [hfl]; exact r21)
    have hsm6 := b6 _ _ hpa3 hsm5
    refine i_ixL (SqL.of hsm6) hf1 ?_
    walk_at "pc"
    refine ⟨a, 13, rfl, ha6, by decide, by decide +kernel, fun r3 H7 r30 r31 b7 ha7 => ?_⟩
    obtain ⟨f2, hf2, hf2m⟩ := strs_at fs r3 r30 (by rw [hfl]; exact r31)
    have hsm7 := b7 _ _ hpa3 hsm6
    refine i_ixL (SqL.of hsm7) hf2 ?_
    walk_at "pc"
    refine ⟨show 4 ≤ sizeLine by decide, fun u hu => ?_⟩
    exact k _ _ _ (.op hpm hbm (hfs _ hf1m) (hfs _ hf2m)) (holds_flat.mpr ⟨u, rfl, upd_same⟩) ((bb4.trans (b45.trans (b6.trans b7))).trans (but_same (same_upd hu))) (ha7.new hu)
end

/-- a row as it is drawn: a deed's rule is a number yet -/
inductive Drawn : List Key → Prop
  | row (r : Row) (h : r.ok) (hd : isDoes r = false) : Drawn r.ws
  | does (i : Int) (d : List Key) (h0 : 0 ≤ i) (h1 : i < 1000) (hd : DeedOk d) : Drawn (.inr "does" :: .inl i :: d)
def sp_law_row (K : PySem.W.Frag) : Sp := fun vs H Q _ => ∃ (a nm : Addr) (ns : List Str), vs = [.ref a, .ref nm] ∧ HandOk H a ∧ SqL K H nm (ns.map V.str) ∧ nm ≠ a ∧ ns.length = 20 ∧ (∀ n ∈ ns, isName n = true) ∧
  ∀ ws v H', Drawn ws → Holds H' (flatT ws) v → But a H H' → HandOk H' a → Q v H'
section
variable {P : Program} {w : World} {K : PySem.W.Frag} {mg : Str → Option Value} {base : Heap}
theorem sc_law_row : FnScope ["hand", "names", "style", "some", "price", "j"] ["hand", "names"] (defScope s__law_row) := ⟨rfl, rfl, rfl, by decide +kernel, rfl, by decide +kernel, by decide +kernel⟩
theorem ok_law_row (T : Txt K mg) (C_law_draw : Callee P w K mg base "_law_draw" 1 ["hand", "limit"] sp_law_draw) (C_law_any_deed : Callee P w K mg base "_law_any_deed" 3 ["hand"] sp_law_any_deed) (C_law_any_word : Callee P w K mg base "_law_any_word" 3 ["hand", "names"] (sp_law_any_word K)) {f : Addr} {fd : FuncData} (F : FnP K "_law_row" s__law_row f fd) : FnOk P w K mg base CX0 4 f fd ["hand", "names"] (sp_law_row K) := by
  refine F.ok sc_law_row (fun vs H Q E h => ?_) (fun cdv A outer s H vs Q E hr h => ⟨_, PSs.nox ((pss_cons (ps_set (i := 2) sc_law_row.nd rfl (Or.inl rfl) (pe_cc C_law_draw (hr.mono (by decide)) (pa_cons (pv 0) (pa_cons pe_int pa_nil))))
  (pss_cons (ps_if (pt_cmpR op_eq (pv 2) pe_int (nomark _)) (pss_one (ps_ret (pe_tup (pa_cons pe_str (pa_cons (pe_ix (kx_ixL K) (pv 1) (pe_cc C_law_draw (hr.mono (by decide)) (pa_cons (pv 0) (pa_cons pe_int pa_nil))) (fun _ _ => rfl)) pa_nil))))) pss_nil)
  (pss_cons (ps_if (pt_cmpR op_lt (pv 2) pe_int (nomark _)) (pss_cons (ps_setLc (i := 3) (own := [("j", 5)]) rfl sc_law_row.nd rfl rfl (sw_true rfl rfl rfl (by decide +kernel)) (pi_range1 rfl T.range_ (pa_cons (pe_op op_add pe_int (pe_cc C_law_draw (hr.mono (by decide)) (pa_cons (pv 0) (pa_cons pe_int pa_nil)))) pa_nil)) (blkOk_by (own := [("j", 5)]) (N := ["hand", "names", "style", "some", "price", "j"]) (sc := defScope s__law_row) (by decide +kernel)) (fun _ _ _ _ _ => by exact (pg_name (i := 5) sc_law_row.nd rfl (Or.inl rfl))) (fun _ _ _ _ _ => pts_nil) (fun _ _ _ _ _ => by exact (pe_cc C_law_any_word (hr.mono (by decide)) (pa_cons (pv 0) (pa_cons (pv 1) pa_nil)))))
  (pss_cons (ps_set (i := 4) sc_law_row.nd rfl (Or.inl rfl) (pe_ix (kx_ixL K) (pe_lst (pa_cons (pe_op op_add pe_int (pe_cc C_law_draw (hr.mono (by decide)) (pa_cons (pv 0) (pa_cons pe_int pa_nil)))) (pa_cons (pe_op op_add pe_int (pe_cc C_law_draw (hr.mono (by decide)) (pa_cons (pv 0) (pa_cons pe_int pa_nil)))) (pa_cons pe_int pa_nil)))) (pe_cc C_law_draw (hr.mono (by decide)) (pa_cons (pv 0) (pa_cons pe_int pa_nil))) (fun _ _ => rfl)))
  (pss_one (ps_ret (pe_op (kx_catA K) (pe_tup (pa_cons pe_str (pa_cons (pe_ix (kx_ixL K) (pv 1) (pe_op op_add pe_int (pe_cc C_law_draw (hr.mono (by decide)) (pa_cons (pv 0) (pa_cons pe_int pa_nil)))) (fun _ _ => rfl)) (pa_cons (pe_ix (kx_ixL K) (pv 1) (pe_cc C_law_draw (hr.mono (by decide)) (pa_cons (pv 0) (pa_cons pe_int pa_nil))) (fun _ _ => rfl)) (pa_cons (pv 4) pa_nil))))) (pe_callTy (kx_tuple K) (by rfl) T.tuple_ (by decide +kernel) (pa_cons (pv 3) pa_nil))))))) pss_nil)
  (pss_cons (ps_if (pt_cmpR op_eq (pv 2) pe_int (nomark _)) (pss_one (ps_ret (pe_tup (pa_cons pe_str pa_nil)))) pss_nil)
  (pss_one (ps_ret (pe_op (kx_catA K) (pe_tup (pa_cons pe_str (pa_cons (pe_cc C_law_draw (hr.mono (by decide)) (pa_cons (pv 0) (pa_cons pe_int pa_nil))) pa_nil))) (pe_cc C_law_any_deed (hr.mono (by decide)) (pa_cons (pv 0) pa_nil)))))))))), ?_⟩)
  · obtain ⟨a, nm, ns, rfl, _⟩ := h
    rfl
  · obtain ⟨a, nm, ns, rfl, ha, hnm, hne, hnl, hnn, k⟩ := h
    walk_at "pc"
    refine ⟨a, 8, rfl, ha, by decide, by decide +kernel, fun st H1 st0 st1 b1 ha1 => ?_⟩
    have hnm1 := But.seq b1 hne hnm
    walk_at "pc"
    refine ifB (fun e => ?_) (fun e0 => ?_)
    · walk_at "pc"
      refine ⟨a, 20, rfl, ha1, by decide, by decide +kernel, fun r H2 r0 r1 b2 ha2 => ?_⟩
      obtain ⟨n, hn, hm⟩ := strs_at ns r r0 (by rw [hnl]; exact r1)
      refine i_ixL (But.seq b2 hne hnm1) hn ?_
      walk_at "pc"
      refine ⟨show 2 ≤ sizeLine by decide, fun u hu => ?_⟩
      exact k _ _ _ (.row (.kind n) (hnn n hm) rfl) (holds_flat.mpr ⟨u, rfl, upd_same⟩) ((b1.trans b2).trans (but_same (same_upd hu))) (ha2.new hu)
    walk_at "pc"
    refine ifB (fun e => ?_) (fun e1 => ?_)
    · walk_at "pc"
      refine ⟨a, 12, rfl, ha1, by decide, by decide +kernel, fun r H2 r0 r1 b2 ha2 => ?_⟩
      walk_at "pc"
      refine ⟨1 + r, rfl, by omega, by omega, fun D hD => ?_⟩
      have hDa : D ≠ a := ha2.ne hD
      have hnm2 := But.seq b2 hne hnm1
      refine lc_it (walk_range (lo := 0) (n := (1 + r).toNat)) (fun i H' => But a H2 H' ∧ HandOk H' a ∧ ∃ ks : List Key, H' D = some (.lst (ks.map kV)) ∧ ks.length = i ∧ ∀ k ∈ ks, shOk k) ?_ (fun _ _ _ _ => trivial) ?_ ?_
      · exact ⟨but_new (But.refl a H2) hD, ha2.new hD, [], upd_same, rfl, fun y hy => by cases hy⟩
      · rintro i x H3 H4 hi ⟨b3, ha3, ks, hy, hyl, hks⟩ ⟨rfl, rfl⟩
        walk_at "pc"
        refine ⟨rfl, ?_⟩
        walk_at "pc"
        refine ⟨a, nm, ns, rfl, ha3, But.seq b3 hne hnm2, hne, hnl, hnn, fun kk H5 hkk b5 ha5 => ?_⟩
        have hy5 := b5 _ _ hDa hy
        refine ⟨_, hy5, by rw [List.length_map, sizeLine_eq]; omega, ?_, ?_, ks ++ [kk], ?_, ?_, ?_⟩
        · exact but_new (b3.trans b5) hD
        · obtain ⟨c1, x1, z1, e1, e2⟩ := ha5
          exact ⟨c1, x1, z1, (upd_ne (Ne.symm hDa)).trans e1, e2⟩
        · rw [upd_same, List.map_append]
          rfl
        · rw [List.length_append, List.length_singleton, hyl]
        · intro y hym
          rcases List.mem_append.mp hym with m | m
          · exact hks y m
          · exact List.mem_singleton.mp m ▸ hkk
      rintro H3 ⟨b3, ha3, ks, hks, hkl, hko⟩
      have bb3 := b1.trans (b2.trans b3)
      have hnm3 := But.seq b3 hne hnm2
      have hkl1 : 1 ≤ ks.length := by omega
      have hkl2 : ks.length ≤ 12 := by omega
      clear hkl b1 b2 b3 ha1 ha2 hnm1 hnm2 hD
      walk_at "pc"
      refine ⟨a, 3, rfl, ha3, by decide, by decide +kernel, fun p1 H4 p10 p11 b4 ha4 => ?_⟩
      walk_at "pc"
      refine ⟨a, 999999, rfl, ha4, by decide, by decide +kernel, fun p2 H5 p20 p21 b5 ha5 => ?_⟩
      walk_at "pc"
      refine ⟨show 3 ≤ sizeLine by decide, fun q hq => ?_⟩
      walk_at "pc"
      refine ⟨a, 3, rfl, ha5.new hq, by decide, by decide +kernel, fun r3 H6 r30 r31 b6 ha6 => ?_⟩
      have hq6 := b6 _ _ (ha5.ne hq) upd_same
      have b56 : But a H5 H6 := but_skip (But.refl a H5) hq b6
      have b36 : But a H3 H6 := b4.trans (b5.trans b56)
      have hpr : ∃ p : Int, atI [V.int (1 + p1), V.int (1 + p2), V.int 999999] r3 = some (.int p) ∧ 1 ≤ p ∧ p ≤ 999999 := by
        have c : r3 = 0 ∨ r3 = 1 ∨ r3 = 2 := by omega
        rcases c with c | c | c <;> rw [c]
        · exact ⟨_, at_0, by omega, by omega⟩
        · exact ⟨_, at_1, by omega, by omega⟩
        · exact ⟨_, at_2, by decide, by decide⟩
      obtain ⟨pr, hpr, pr0, pr1⟩ := hpr
      refine i_ixL (SqL.of hq6) hpr ?_
      have hnm6 := But.seq b36 hne hnm3
      have hks6 := b36 _ _ hDa hks
      have bb6 := bb3.trans b36
      walk_at "pc"
      refine ⟨a, 12, rfl, ha6, by decide, by decide +kernel, fun r4 H7 r40 r41 b7 ha7 => ?_⟩
      obtain ⟨n1, hn1, hm1⟩ := strs_at ns (8 + r4) (by omega) (by rw [hnl]; omega)
      have hnm7 := But.seq b7 hne hnm6
      walk_at "pc"
      refine i_ixL hnm7 hn1 ?_
      walk_at "pc"
      refine ⟨a, 20, rfl, ha7, by decide, by decide +kernel, fun r5 H8 r50 r51 b8 ha8 => ?_⟩
      obtain ⟨n2, hn2, hm2⟩ := strs_at ns r5 r50 (by rw [hnl]; exact r51)
      have hnm8 := But.seq b8 hne hnm7
      refine i_ixL hnm8 hn2 ?_
      have b68 := b7.trans b8
      have hks8 := b68 _ _ hDa hks6
      walk_at "pc"
      refine ⟨show 4 ≤ sizeLine by decide, fun u hu => ?_⟩
      have su := same_upd (o := .tup [V.str "rule", .str n1, .str n2, .int pr]) hu
      have hks9 := su _ _ hks8
      walk_at "pc"
      refine i_tupL (SqL.of hks9) fun t ht => ?_
      have sv := same_upd (o := .tup (ks.map kV)) ht
      refine i_catA (SqT.of (sv _ _ upd_same)) (SqT.of upd_same) (by rw [List.length_map, sizeLine_eq]; show 4 + ks.length ≤ _; omega) (fun z => nomatch z) (fun z => by rw [List.map_eq_nil_iff.mp z] at hkl1; exact absurd hkl1 (by decide)) fun x hx => ?_
      exact k _ _ _ (.row (.rule n1 n2 pr ks) ⟨hnn n1 hm1, hnn n2 hm2, pr0, pr1, hkl1, hkl2, hko⟩ rfl) (holds_flat.mpr ⟨x, rfl, upd_same⟩) ((bb6.trans b68).trans (but_same ((su.trans sv).trans (same_upd hx)))) ((ha8.mono (su.trans sv)).new hx)
    walk_at "pc"
    refine ifB (fun e => ?_) (fun e2 => ?_)
    · walk_at "pc"
      refine ⟨show 1 ≤ sizeLine by decide, fun u hu => ?_⟩
      exact k _ _ _ (.row .nil trivial rfl) (holds_flat.mpr ⟨u, rfl, upd_same⟩) (b1.trans (but_same (same_upd hu))) (ha1.new hu)
    walk_at "pc"
    refine ⟨a, 1000, rfl, ha1, by decide, by decide +kernel, fun r H2 r0 r1 b2 ha2 => ?_⟩
    walk_at "pc"
    refine ⟨show 2 ≤ sizeLine by decide, fun u hu => ?_⟩
    walk_at "pc"
    refine ⟨a, rfl, ha2.new hu, fun d v H3 hd hv b3 ha3 => ?_⟩
    obtain ⟨t, rfl, ht⟩ := holds_flat.mp hv
    have hu3 := b3 _ _ (ha2.ne hu) upd_same
    have b23 : But a H2 H3 := but_skip (But.refl a H2) hu b3
    have hdl := (fine_deed hd).1
    refine i_catA (SqT.of hu3) (SqT.of ht) (by rw [List.length_map, sizeLine_eq]; show 2 + d.length ≤ _; omega) (fun z => nomatch z) (fun z => by rw [List.map_eq_nil_iff.mp z] at hd; nomatch hd) fun x hx => ?_
    exact k _ _ _ (.does r d r0 r1 hd) (holds_flat.mpr ⟨x, rfl, upd_same⟩) ((b1.trans (b2.trans b23)).trans (but_same (same_upd hx))) (ha3.new hx)
end

def isRuleW : List Key → Bool
  | .inr t :: _ => decide (t = "rule")
  | _ => false
def secondW : List Key → Str
  | _ :: .inr n :: _ => n
  | _ => ""
theorem irw : ∀ r : Row, isRuleW r.ws = isRule r
  | .kind n => show decide (("kind" : Str) = "rule") = false by decide +kernel
  | .rule n k p sh => show decide (("rule" : Str) = "rule") = true by decide +kernel
  | .does n d => show decide (("does" : Str) = "rule") = false by decide +kernel
  | .nil => show decide (("" : Str) = "rule") = false by decide +kernel
theorem irw_does (k : Key) (d : List Key) : isRuleW (.inr "does" :: k :: d) = false := show decide (("does" : Str) = "rule") = false by decide +kernel
def DrawnAt (H : Hp) (ws : List Key) (v : V) : Prop := Holds H (flatT ws) v
theorem DrawnAt.mono {H H' : Hp} {ws : List Key} {v : V} (s : TupLe H H') (h : DrawnAt H ws v) : DrawnAt H' ws v := Holds.mono s h
/-- a dict of numbers -/
def Many (H : Hp) (m : Addr) (i : Nat) : Prop := ∃ kvs : List (Key × V), H m = some (.dK kvs) ∧ kvs.length ≤ i ∧ ∀ k v, valV kvs k = some v → ∃ z, v = .int z
theorem Many.mono {H H' : Hp} {m : Addr} {i j : Nat} (h : Many H m i) (s : Same H H') (hij : i ≤ j) : Many H' m j := by
  obtain ⟨kvs, h1, h2, h3⟩ := h
  exact ⟨kvs, s _ _ h1, Nat.le_trans h2 hij, h3⟩
def sp_law_settled (K : PySem.W.Frag) : Sp := fun vs H Q _ => ∃ (a : Addr) (ds : List (List Key)) (us : List V), vs = [.ref a] ∧ H a = some (.lst us) ∧ Paired (DrawnAt H) ds us ∧ (∀ ws ∈ ds, Drawn ws) ∧ ds.length ≤ 63 ∧
  ∀ p rs zs H', Same H H' → H' p = some (.lst zs) → Paired (RowAt H') rs zs → (∀ r ∈ rs, r.ok) → rs.length ≤ 63 → named rs → Q (.ref p) H'
/-- what stands when a row is settled and not yet kept -/
def SetMid (a rl fo mn : Addr) (H1 H2 : Hp) (i : Nat) (zs : List V) (ws : List Key) (rn : List Str) : L2.St → Hp → Prop := fun σ H => ∃ rv o5 r, σ = [some (.ref a), some (.ref rl), some (.ref fo), some (.ref mn), some (.ref rv), o5] ∧ Same H1 H ∧ Many H mn (i + 1) ∧
  H fo = some (.lst zs) ∧ TupLe H2 H ∧ H rv = some (.tup (r.ws.map kV)) ∧ r.ok ∧ (headsOf [r]).map (·.n) = ([ws].filter isRuleW).map secondW ∧ ∀ n d, r = .does n d → n ∈ rn
section
variable {P : Program} {w : World} {K : PySem.W.Frag} {mg : Str → Option Value} {base : Heap}
theorem sc_law_settled : FnScope ["rows", "rules", "found", "many", "row", "name"] ["rows"] (defScope s__law_settled) := ⟨rfl, rfl, rfl, by decide +kernel, rfl, by decide +kernel, by decide +kernel⟩
theorem ok_law_settled (T : Txt K mg)  {f : Addr} {fd : FuncData} (F : FnP K "_law_settled" s__law_settled f fd) : FnOk P w K mg base CX0 1 f fd ["rows"] (sp_law_settled K) := by
  refine F.ok sc_law_settled (fun vs H Q E h => ?_) (fun cdv A outer s H vs Q E hr h => ⟨_, PSs.nox ((pss_cons (ps_setLc (i := 1) (own := [("row", 4)]) rfl sc_law_settled.nd rfl rfl (sw_true rfl rfl rfl (by decide +kernel)) (kx_piL K (pv 0)) (blkOk_by (own := [("row", 4)]) (N := ["rows", "rules", "found", "many", "row", "name"]) (sc := defScope s__law_settled) (by decide +kernel)) (fun _ _ _ _ _ => by exact (pg_name (i := 4) sc_law_settled.nd rfl (Or.inl rfl))) (fun _ _ _ _ _ => by exact pts_one (pt_cmpR op_eq (pe_ix (kx_ixT K) (pv 4) pe_int (fun _ _ => rfl)) pe_str (nomark _))) (fun _ _ _ _ _ => by exact (pe_ix (kx_ixT K) (pv 4) pe_int (fun _ _ => rfl))))
  (pss_cons (ps_set (i := 2) sc_law_settled.nd rfl (Or.inl rfl) (pe_lst pa_nil))
  (pss_cons (ps_set (i := 3) sc_law_settled.nd rfl (Or.inl rfl) pe_dnewK)
  (pss_cons (ps_for PassesOwn.never rfl (kx_piL K (pv 0)) (pg_name (i := 4) sc_law_settled.nd rfl (Or.inl rfl))
   (pss_mid (ps_if (PW.pt (pw_and (pt_cmpR op_eq (pe_ix (kx_ixT K) (pv 4) pe_int (fun _ _ => rfl)) pe_str (nomark _)) (pw_and1 (pt_cmpR op_eq (pe_callB (kx_len K) (by rfl) T.len_ PySem.boot_len (pa_cons (pv 1) pa_nil)) pe_int (nomark _))))) (pss_one (ps_set (i := 4) sc_law_settled.nd rfl (Or.inl rfl) (pe_tup (pa_cons pe_str pa_nil)))) pss_nil)
  (pss_mid (ps_if (pt_cmpR op_eq (pe_ix (kx_ixT K) (pv 4) pe_int (fun _ _ => rfl)) pe_str (nomark _)) (pss_cons (ps_set (i := 5) sc_law_settled.nd rfl (Or.inl rfl) (pe_ix (kx_ixL K) (pv 1) (pe_op op_mod (pe_ix (kx_ixT K) (pv 4) pe_int (fun _ _ => rfl)) (pe_callB (kx_len K) (by rfl) T.len_ PySem.boot_len (pa_cons (pv 1) pa_nil))) (fun _ _ => rfl)))
  (pss_cons (ps_dput (hu_of hr) (pv 3) (pv 5) (pe_op op_add (pe_dget2 (hu_of hr) (pv 3) (pv 5) pe_int ⟨rfl, rfl, rfl, rfl⟩) pe_int) rfl)
  (pss_cons (ps_set (i := 4) sc_law_settled.nd rfl (Or.inl rfl) (pe_op (kx_catA K) (pe_tup (pa_cons pe_str (pa_cons (pv 5) pa_nil))) (pe_slice (kx_slA K) (pv 4) (po_some pe_int) po_none)))
  (pss_one (ps_if (pt_cmpR op_gt (pe_dget (hu_of hr) (pv 3) (pv 5) (fun _ _ => rfl)) pe_int (nomark _)) (pss_one (ps_set (i := 4) sc_law_settled.nd rfl (Or.inl rfl) (pe_tup (pa_cons pe_str pa_nil)))) pss_nil))))) pss_nil)
  (pss_one (ps_expr (kx_app K (pv 2) (pa_cons (pv 4) pa_nil)))))))
  (pss_one (ps_ret (pv 2)))))))), ?_⟩)
  · obtain ⟨a, ds, us, rfl, _⟩ := h
    rfl
  · obtain ⟨a, ds, us, rfl, ha, hp, hdr, hdl, k⟩ := h
    have hul : us.length = ds.length := (Paired.length hp).symm
    walk_at "pc"
    refine ⟨a, rfl, ⟨_, SqL.of ha⟩, fun rl hrl0 => ?_⟩
    refine lc_pure (walk_list (xs := us)) isRuleW secondW (ds := ds) (Src := DrawnAt) (Out := OutS) hrl0 (Paired.length hp) (by omega) (fun H2 s => SqL.of (s _ _ ha)) (gives_at hp fun H a v s => DrawnAt.mono (tup_same s)) (fun _ _ _ _ _ h => h) (fun ws x H2 N1 N2 hws s hs n1 n2 => ?_) (fun H1 ys s1 hrl hyp => ?_)
    · obtain ⟨ra, rfl, hra⟩ := holds_flat.mp hs
      walk_at "pc"
      refine ⟨rfl, ?_⟩
      cases hdr ws hws with
      | does j d h0 h1 hd =>
        have hra : H2 ra = some (.tup (.str "does" :: .int j :: d.map kV)) := hra
        walk_at "pcs"
        exact n2 (irw_does _ _) _ (Same.refl _)
      | row r h hd =>
        cases r with
        | nil =>
          have hra : H2 ra = some (.tup [.str ""]) := hra
          walk_at "pcs"
          exact n2 (by decide +kernel) _ (Same.refl _)
        | kind n =>
          have hra : H2 ra = some (.tup [.str "kind", .str n]) := hra
          walk_at "pcs"
          exact n2 (show decide (("kind" : Str) = "rule") = false by decide +kernel) _ (Same.refl _)
        | rule n kd p sh =>
          have hra : H2 ra = some (.tup (.str "rule" :: .str n :: .str kd :: .int p :: sh.map kV)) := hra
          walk_at "pcs"
          exact n1 (show decide (("rule" : Str) = "rule") = true by decide +kernel) _ _ (Same.refl _) rfl
        | does n d => exact absurd (show true = false from hd) (by decide)
    have e := paired_fn (F := V.str) (fun b v h => h) hyp
    subst e
    clear hyp
    obtain ⟨rn, ern⟩ : ∃ rn, rn = (ds.filter isRuleW).map secondW := ⟨_, rfl⟩
    rw [← ern] at hrl
    have ha1 := s1 _ _ ha
    have hp1 := Paired.mapP hp fun a v => DrawnAt.mono (ws := a) (v := v) (tup_same s1)
    walk_at "pc"
    refine ⟨Nat.zero_le _, fun fo hfo => ?_⟩
    walk_at "pc"
    intro mn hmn
    have hfm : fo ≠ mn := fun q => by rw [← q, upd_same] at hmn; cases hmn
    have hmn1 : H1 mn = none := by rw [upd_ne (Ne.symm hfm)] at hmn; exact hmn
    have s4 : Same H1 (upd (upd H1 fo (.lst [])) mn (.dK [])) := same_new (same_upd hfo) hmn1
    walk_at "pc"
    refine ⟨a, rfl, ⟨_, SqL.of (s4 _ _ ha1)⟩, for_it (walk_list (xs := us)) (fun i σ' H' => ∃ o4 o5, σ' = [some (.ref a), some (.ref rl), some (.ref fo), some (.ref mn), o4, o5] ∧ Same H1 H' ∧ Many H' mn i ∧
      ∃ rs zs, H' fo = some (.lst zs) ∧ rs.length = i ∧ Paired (RowAt H') rs zs ∧ (∀ r ∈ rs, r.ok) ∧ (headsOf rs).map (·.n) = ((ds.take i).filter isRuleW).map secondW ∧ ∀ n d, Row.does n d ∈ rs → n ∈ rn) ?_ (fun i σ' H' _ ⟨_, _, _, s, _⟩ => SqL.of (s _ _ ha1)) ?_ ?_⟩
    · exact ⟨none, none, rfl, s4, ⟨[], upd_same, Nat.le_refl _, fun k v e => nomatch e⟩, [], [], (upd_ne hfm).trans upd_same, rfl, .nil, (fun r hr => nomatch hr), rfl, fun n d hr => nomatch hr⟩
    · rintro i x σ' H2' H2 hi ⟨o4, o5, rfl, s5, hmany, rs, zs, hzs, hrl, hrp, hro, hrh, hrd⟩ ⟨rfl, hx⟩
      obtain ⟨ws, hws, hrow⟩ := Paired.at2 hp1 hx
      obtain ⟨ra, rfl, hra1⟩ := holds_flat.mp hrow
      have hra := s5 _ _ hra1
      have hrl2 : H2 rl = some (.lst (rn.map V.str)) := s5 _ _ ‹H1 rl = some (.lst (rn.map V.str))›
      have hzl : zs.length = i := (Paired.length hrp).symm.trans hrl
      walk_at "pc"
      -- what is kept, from the settled row
      have keep : ∀ (D : Ends), D.nx = (fun σ' H' => ∃ o4 o5, σ' = [some (.ref a), some (.ref rl), some (.ref fo), some (.ref mn), o4, o5] ∧ Same H1 H' ∧ Many H' mn (i + 1) ∧
          ∃ rs zs, H' fo = some (.lst zs) ∧ rs.length = i + 1 ∧ Paired (RowAt H') rs zs ∧ (∀ r ∈ rs, r.ok) ∧ (headsOf rs).map (·.n) = ((ds.take (i + 1)).filter isRuleW).map secondW ∧ ∀ n d, Row.does n d ∈ rs → n ∈ rn) →
          ∀ σ'' H'', SetMid a rl fo mn H1 H2 i zs ws rn σ'' H'' → tDrop (tBM K "list" rAppend (tVar 2) (tCons (tVar 4) tNil)) D σ'' H'' := by
        rintro ⟨nx, rt, bk, ct⟩ eD σ'' H3 ⟨rv, o5, r, rfl, s6, hm6, hz6, tl6, hrv, hok, hhd, hdn⟩
        have eD : nx = _ := eD
        subst eD
        walk_at "pc"
        refine i_append hz6 (by rw [sizeLine_eq]; omega) ?_
        have tl7 := tup_lst (o := .lst (zs ++ [V.ref rv])) hz6
        obtain ⟨kvs, m1, m2, m3⟩ := hm6
        refine ⟨_, _, rfl, same_new s6 hfo, ⟨kvs, (upd_ne (Ne.symm hfm)).trans m1, m2, m3⟩, rs ++ [r], _, upd_same, by rw [List.length_append, List.length_singleton, hrl], ?_, ?_, ?_, ?_⟩
        · exact Paired.snoc (Paired.mapP hrp fun a v h => RowAt.mono (r := a) (tl6.trans tl7) h) (holds_flat.mpr ⟨rv, rfl, tl7 _ _ hrv⟩)
        · intro y hy
          rcases List.mem_append.mp hy with m | m
          · exact hro y m
          · exact List.mem_singleton.mp m ▸ hok
        · have eh : headsOf (rs ++ [r]) = headsOf rs ++ headsOf [r] := by
            unfold headsOf
            rw [List.filter_append, List.map_append]
          rw [eh, List.map_append, hrh, hhd, take_snoc hws, List.filter_append, List.map_append]
        · intro n d hy
          rcases List.mem_append.mp hy with m | m
          · exact hrd n d m
          · exact hdn n d (List.mem_singleton.mp m).symm
      have plain : ∀ (r : Row), r.ws = ws → r.ok → isDoes r = false → (headsOf [r]).map (·.n) = ([ws].filter isRuleW).map secondW → SetMid a rl fo mn H1 H2 i zs ws rn [some (.ref a), some (.ref rl), some (.ref fo), some (.ref mn), some (.ref ra), o5] H2 := by
        intro r er hok hd hh
        exact ⟨ra, _, r, rfl, s5, hmany.mono (Same.refl _) (by omega), hzs, TupLe.refl _, by rw [er]; exact hra, hok, hh, fun n d e => by rw [e] at hd; exact absurd (show true = false from hd) (by decide)⟩
      cases hdr ws (List.mem_of_getElem? hws) with
      | row r h hd =>
        cases r with
        | nil =>
          have hra : H2 ra = some (.tup [.str ""]) := hra
          refine i_mid (fun σ'' H'' => σ'' = [some (.ref a), some (.ref rl), some (.ref fo), some (.ref mn), some (.ref ra), o5] ∧ H2 = H'') ?_ ?_
          · walk_at "pcs"
            exact ⟨rfl, rfl⟩
          rintro σ'' H'' ⟨rfl, rfl⟩
          refine i_mid _ ?_ (keep _ rfl)
          walk_at "pcs"
          exact plain .nil rfl trivial rfl rfl
        | kind n =>
          have hra : H2 ra = some (.tup [.str "kind", .str n]) := hra
          refine i_mid (fun σ'' H'' => σ'' = [some (.ref a), some (.ref rl), some (.ref fo), some (.ref mn), some (.ref ra), o5] ∧ H2 = H'') ?_ ?_
          · walk_at "pcs"
            exact ⟨rfl, rfl⟩
          rintro σ'' H'' ⟨rfl, rfl⟩
          refine i_mid _ ?_ (keep _ rfl)
          walk_at "pcs"
          refine plain (.kind n) rfl h rfl ?_
          rw [List.filter_cons, if_neg (by rw [irw]; exact Bool.false_ne_true)]
          rfl
        | rule n kd p sh =>
          have hra : H2 ra = some (.tup (.str "rule" :: .str n :: .str kd :: .int p :: sh.map kV)) := hra
          refine i_mid (fun σ'' H'' => σ'' = [some (.ref a), some (.ref rl), some (.ref fo), some (.ref mn), some (.ref ra), o5] ∧ H2 = H'') ?_ ?_
          · walk_at "pcs"
            exact ⟨rfl, rfl⟩
          rintro σ'' H'' ⟨rfl, rfl⟩
          refine i_mid _ ?_ (keep _ rfl)
          walk_at "pcs"
          refine plain (.rule n kd p sh) rfl h rfl ?_
          rw [List.filter_cons, if_pos (show isRuleW (Row.rule n kd p sh).ws = true from irw (.rule n kd p sh))]
          rfl
        | does n d => exact absurd (show true = false from hd) (by decide)
      | does j d h0 h1 hd =>
        have hra : H2 ra = some (.tup (.str "does" :: .int j :: d.map kV)) := hra
        have hdl4 := (fine_deed hd).1
        have hnr : ([(.inr "does" :: .inl j :: d : List Key)].filter isRuleW) = [] := by
          rw [List.filter_cons, if_neg (by rw [irw_does]; exact Bool.false_ne_true)]
          rfl
        by_cases c : rn = []
        · subst c
          refine i_mid (fun σ'' H'' => ∃ rv, σ'' = [some (.ref a), some (.ref rl), some (.ref fo), some (.ref mn), some (.ref rv), o5] ∧ Same H2 H'' ∧ H'' rv = some (.tup [.str ""])) ?_ ?_
          · walk_at "pcs"
            refine ⟨show 1 ≤ sizeLine by decide, fun rv hrv => ?_⟩
            walk_at "pc"
            exact ⟨rv, rfl, same_upd hrv, upd_same⟩
          rintro σ'' H3 ⟨rv, rfl, s6, hrv⟩
          refine i_mid _ ?_ (keep _ rfl)
          walk_at "pcs"
          refine ⟨rv, _, .nil, rfl, s5.trans s6, hmany.mono s6 (by omega), s6 _ _ hzs, tup_same s6, hrv, trivial, ?_, fun n d e => nomatch e⟩
          rw [hnr]
          rfl
        · have hrn0 : 0 < rn.length := List.length_pos_iff.mpr c
          refine i_mid (fun σ'' H'' => σ'' = [some (.ref a), some (.ref rl), some (.ref fo), some (.ref mn), some (.ref ra), o5] ∧ H2 = H'') ?_ ?_
          · walk_at "pcs"
            refine ifN (decide_eq_false (fun q => by
              have q2 : ((rn.map V.str).length : Int) = 0 := by injection q
              rw [List.length_map] at q2
              omega)) ?_
            walk_at "pc"
            exact ⟨rfl, rfl⟩
          rintro σ'' H'' ⟨rfl, rfl⟩
          refine i_mid _ ?_ (keep _ rfl)
          walk_at "pcs"
          refine i_int (show (0 : Int) < ((rn.map V.str).length : Nat) by rw [List.length_map]; omega) ?_
          obtain ⟨n, hn, hnm⟩ := strs_at rn (j % ((rn.map V.str).length : Nat)) (Int.emod_nonneg _ (by rw [List.length_map]; omega)) (by
            have := Int.emod_lt_of_pos j (show (0 : Int) < ((rn.map V.str).length : Nat) by rw [List.length_map]; omega)
            rw [List.length_map] at this ⊢
            exact this)
          refine i_ixL (SqL.of hrl2) hn ?_
          obtain ⟨kvs, hk, hkl, hkv⟩ := id hmany
          walk_at "pc"
          refine i_isD hk ?_
          walk_at "pc"
          refine ⟨_, DGet.k (k := .inr n) hk, ?_⟩
          obtain ⟨z, hz⟩ : ∃ z, (valV kvs (.inr n)).getD (.int 0) = .int z := by
            cases q : valV kvs (.inr n) with
            | none => exact ⟨0, rfl⟩
            | some v =>
              obtain ⟨z, hz⟩ := hkv _ _ q
              exact ⟨z, hz⟩
          rw [hz]
          walk_at "pc"
          refine i_dputs (k := .inr n) hk (by rw [sizeLine_eq]; omega) ?_
          have hk6 : upd H2 mn (.dK (putK kvs (.inr n) (.int (z + 1)))) mn = some (.dK (putK kvs (.inr n) (.int (z + 1)))) := upd_same
          have tl6 := tup_dk (o := .dK (putK kvs (.inr n) (.int (z + 1)))) hk
          have s6 : Same H1 (upd H2 mn (.dK (putK kvs (.inr n) (.int (z + 1))))) := same_new s5 hmn1
          have hz6 : upd H2 mn (.dK (putK kvs (.inr n) (.int (z + 1)))) fo = some (.lst zs) := (upd_ne hfm).trans hzs
          have hm6 : Many (upd H2 mn (.dK (putK kvs (.inr n) (.int (z + 1))))) mn (i + 1) := by
            refine ⟨_, hk6, Nat.le_trans (put_len _ _ _) (by omega), fun k v e => ?_⟩
            rw [valV_put] at e
            split at e
            · exact ⟨_, (Option.some.inj e).symm⟩
            · exact hkv _ _ e
          have hra6 := tl6 _ _ hra
          have hvn : valV (putK kvs (.inr n) (.int (z + 1))) (.inr n) = some (.int (z + 1)) := by rw [valV_put, if_pos rfl]
          generalize putK kvs (.inr n) (.int (z + 1)) = kvs6 at hk6 tl6 s6 hz6 hm6 hra6 hvn
          generalize upd H2 mn (.dK kvs6) = H6 at hk6 tl6 s6 hz6 hm6 hra6
          walk_at "pc"
          refine ⟨show 2 ≤ sizeLine by decide, fun u hu => ?_⟩
          have su := same_upd (o := .tup [V.str "does", .str n]) hu
          have hra7 := su _ _ hra6
          walk_at "pc"
          refine i_slA (SqT.of hra7) (not_whole 1 _ _ _) fun q hq => ?_
          have c2 : cutV (.str "does" :: .int j :: d.map kV) (some 2) none = d.map kV := cutV_from _ 2
          rw [c2]
          have sq := same_upd (o := .tup (d.map kV)) hq
          refine i_catA (SqT.of (sq _ _ upd_same)) (SqT.of upd_same) (by rw [List.length_map, sizeLine_eq]; show 2 + d.length ≤ _; omega) (fun z => nomatch z) (fun z => by rw [List.map_eq_nil_iff.mp z] at hd; nomatch hd) fun x hx => ?_
          have sx := su.trans (sq.trans (same_upd (o := .tup ([V.str "does", .str n] ++ d.map kV)) hx))
          have hx8 : upd _ x (.tup ([V.str "does", .str n] ++ d.map kV)) x = some (.tup ((Row.does n d).ws.map kV)) := upd_same (H := upd (upd H6 u (.tup [V.str "does", .str n])) q (.tup (d.map kV)))
          generalize upd (upd (upd H6 u (.tup [V.str "does", .str n])) q (.tup (d.map kV))) x (.tup ([V.str "does", .str n] ++ d.map kV)) = H8 at sx hx8
          have hk8 := sx _ _ hk6
          walk_at "pc"
          refine ⟨mn, _, rfl, dgot (k := .inr n) hk8 hvn, ?_⟩
          walk_at "pc"
          have hnok : isName n = true := by
            have hnm2 : n ∈ (ds.filter isRuleW).map secondW := ern ▸ hnm
            obtain ⟨ws2, hw2, e2⟩ := List.mem_map.mp hnm2
            obtain ⟨hw3, hw4⟩ := List.mem_filter.mp hw2
            subst e2
            cases hdr ws2 hw3 with
            | row r h hd =>
              cases r with
              | nil => exact absurd (show decide (("" : Str) = "rule") = true from hw4) (by decide +kernel)
              | kind m => exact absurd (show decide (("kind" : Str) = "rule") = true from hw4) (by decide +kernel)
              | rule m kd p sh => exact h.1
              | does m d => exact absurd (show true = false from hd) (by decide)
            | does j d h0 h1 hd => exact absurd (show decide (("does" : Str) = "rule") = true from hw4) (by decide +kernel)
          refine ifB (fun e => ?_) (fun e => ?_)
          · walk_at "pc"
            refine ⟨show 1 ≤ sizeLine by decide, fun y hy => ?_⟩
            have sy := sx.trans (same_upd (o := .tup [V.str ""]) hy)
            walk_at "pc"
            refine ⟨y, _, .nil, rfl, s6.trans sy, hm6.mono sy (Nat.le_refl _), sy _ _ hz6, tl6.trans (tup_same sy), upd_same, trivial, ?_, fun n d e => nomatch e⟩
            rw [hnr]
            rfl
          · walk_at "pc"
            refine ⟨x, _, .does n d, rfl, s6.trans sx, hm6.mono sx (Nat.le_refl _), sx _ _ hz6, tl6.trans (tup_same sx), hx8, ⟨hnok, hd⟩, ?_, fun n' d' e => by cases e; exact hnm⟩
            rw [hnr]
            rfl
    · rintro σ' H2 ⟨o4, o5, rfl, s5, hmany, rs, zs, hzs, hrl, hrp, hro, hrh, hrd⟩
      walk_at "pc"
      refine k fo rs zs H2 (s1.trans s5) hzs hrp hro (by omega) ?_
      intro n d hr
      rw [hrh, hul, List.take_length, ← ern]
      exact hrd n d hr
end

def tagsW : List Str := ["kind", "rule", "does", ""]
theorem drawn_tag {ws : List Key} (h : Drawn ws) : ∃ t r, ws = .inr t :: r ∧ t ∈ tagsW := by
  cases h with
  | row r h hd =>
    cases r with
    | kind n => exact ⟨_, _, rfl, by decide +kernel⟩
    | rule n k p sh => exact ⟨_, _, rfl, by decide +kernel⟩
    | does n d => exact ⟨_, _, rfl, by decide +kernel⟩
    | nil => exact ⟨_, _, rfl, by decide +kernel⟩
  | does i d h0 h1 hd => exact ⟨_, _, rfl, by decide +kernel⟩
theorem drawn_fine {ws : List Key} (h : Drawn ws) : ws.length ≤ 17 ∧ ∀ k ∈ ws, fine k := by
  cases h with
  | row r h hd => exact ⟨ws_len h, fun k hk => (fine_row h).2 k (ws_sub hk)⟩
  | does i d h0 h1 hd =>
    have q := fine_deed hd
    refine ⟨show d.length + 2 ≤ 17 by omega, fun k hk => ?_⟩
    rcases List.mem_cons.mp hk with e | hk
    · rw [e]
      exact fine_lit (by decide +kernel)
    rcases List.mem_cons.mp hk with e | hk
    · rw [e]
      exact fine_int (Nat.lt_of_le_of_lt (show i.natAbs ≤ 1000 by omega) (by decide +kernel))
    exact q.2 k hk
def Counts (H : Hp) (c : Addr) (m : Nat) : Prop := ∃ kvs : List (Key × V), H c = some (.dK kvs) ∧ kvs.length ≤ m ∧ ∀ t ∈ tagsW, ∃ z, valV kvs (.inr t) = some (.int z)
theorem Counts.mono {H H' : Hp} {c : Addr} {i j : Nat} (h : Counts H c i) (s : Same H H') (hij : i ≤ j) : Counts H' c j := by
  obtain ⟨kvs, h1, h2, h3⟩ := h
  exact ⟨kvs, s _ _ h1, Nat.le_trans h2 hij, h3⟩
def four (a b c d : Int) : List (Key × V) := [(.inr "kind", .int a), (.inr "rule", .int b), (.inr "does", .int c), (.inr "", .int d)]
theorem four_ok1 : (mergeK [] (four 0 0 0 0)).length ≤ 4 ∧ ∀ t ∈ tagsW, valV (mergeK [] (four 0 0 0 0)) (.inr t) = some (.int 0) := by decide +kernel
theorem four_ok2 : ∀ t ∈ tagsW, valV (mergeK [] (four 8 40 60 60)) (.inr t) = some (.int 8) ∨ valV (mergeK [] (four 8 40 60 60)) (.inr t) = some (.int 40) ∨ valV (mergeK [] (four 8 40 60 60)) (.inr t) = some (.int 60) := by decide +kernel
theorem same_hand {H H1 H2 : Hp} {p : Addr} (s : Same H H1) (hp : H p = none) (b : But p H1 H2) : Same H H2 := fun x o e => b x o (ne_of_none e hp) (s x o e)
def sp_law_rows (K : PySem.W.Frag) : Sp := fun vs H Q _ => ∃ (a nm : Addr) (is : List Int) (ns : List Str), vs = [.ref a, .ref nm] ∧ SqL K H a (is.map V.int) ∧ is.length ≤ 63 ∧ H nm = some (.lst (ns.map V.str)) ∧ ns.length = 20 ∧ (∀ n ∈ ns, isName n = true) ∧
  ∀ p rs zs H', Same H H' → H' p = some (.lst zs) → Paired (RowAt H') rs zs → (∀ r ∈ rs, r.ok) → rs.length ≤ 63 → named rs → Q (.ref p) H'
section
variable {P : Program} {w : World} {K : PySem.W.Frag} {mg : Str → Option Value} {base : Heap}
theorem sc_law_rows : FnScope ["script", "names", "rows", "size", "counts", "k", "cell", "row", "cost", "word"] ["script", "names"] (defScope s__law_rows) := ⟨rfl, rfl, rfl, by decide +kernel, rfl, by decide +kernel, by decide +kernel⟩
theorem ok_law_rows (T : Txt K mg) (C_law_settled : Callee P w K mg base "_law_settled" 1 ["rows"] (sp_law_settled K)) (C_law_row : Callee P w K mg base "_law_row" 4 ["hand", "names"] (sp_law_row K)) (C_law_hand : Callee P w K mg base "_law_hand" 1 ["cell", "k"] sp_law_hand) {f : Addr} {fd : FuncData} (F : FnP K "_law_rows" s__law_rows f fd) : FnOk P w K mg base CX0 5 f fd ["script", "names"] (sp_law_rows K) := by
  refine F.ok sc_law_rows (fun vs H Q E h => ?_) (fun cdv A outer s H vs Q E hr h => ⟨_, PSs.nox ((pss_cons (ps_set (i := 2) sc_law_rows.nd rfl (Or.inl rfl) (pe_lst pa_nil))
  (pss_cons (ps_set (i := 3) sc_law_rows.nd rfl (Or.inl rfl) pe_int)
  (pss_cons (ps_set (i := 4) sc_law_rows.nd rfl (Or.inl rfl) (pe_disp (pps_cons pe_str pe_int (pps_cons pe_str pe_int (pps_cons pe_str pe_int (pps_cons pe_str pe_int pps_nil)))) (by rfl) (by rfl) (fun z => by cases z) (by decide)))
  (pss_cons (ps_for PassesOwn.never rfl (kx_enum K (by rfl) T.enumerate_ (pa_cons (pe_slice (kx_slL K) (pv 0) po_none (po_some pe_int)) pa_nil)) (kx_pgT K 2 rfl (pgs_cons (pg_name (i := 5) sc_law_rows.nd rfl (Or.inl rfl)) (pgs_cons (pg_name (i := 6) sc_law_rows.nd rfl (Or.inl rfl)) pgs_nil)))
   (pss_cons (ps_set (i := 7) sc_law_rows.nd rfl (Or.inl rfl) (pe_cc C_law_row (hr.mono (by decide)) (pa_cons (pe_cc C_law_hand (hr.mono (by decide)) (pa_cons (pv 6) (pa_cons (pv 5) pa_nil))) (pa_cons (pv 1) pa_nil))))
  (pss_cons (ps_set (i := 8) sc_law_rows.nd rfl (Or.inl rfl) (pe_op op_add (pe_callB (kx_sum K rfl) (by rfl) T.sum_ (by decide +kernel) (pa_cons (pe_lc (own := [("word", 9)]) rfl sc_law_rows.nd (kx_piT K (pv 7)) (blkOk_by (own := [("word", 9)]) (N := ["script", "names", "rows", "size", "counts", "k", "cell", "row", "cost", "word"]) (sc := defScope s__law_rows) (by decide +kernel)) (fun _ _ _ _ _ => by exact (pg_name (i := 9) sc_law_rows.nd rfl (Or.inl rfl))) (fun _ _ _ _ _ => pts_nil) (fun _ _ _ _ _ => by exact (pe_op op_add pe_int (pe_callB cq_lenS (by rfl) T.len_ PySem.boot_len (pa_cons (pe_callTy cq_str (by rfl) T.str_ (by decide +kernel) (pa_cons (pv 9) pa_nil)) pa_nil))))) pa_nil)) pe_int))
  (pss_one (ps_if (PW.pt (pw_and (pt_cmpR op_lt (pe_op op_add (pv 3) (pv 8)) pe_int (nomark _)) (pw_and1 (pt_cmpR op_lt (pe_dget (hu_of hr) (pv 4) (pe_ix (kx_ixT K) (pv 7) pe_int (fun _ _ => rfl)) (fun _ _ => rfl)) (pe_dget (hu_of hr) (pe_disp (pps_cons pe_str pe_int (pps_cons pe_str pe_int (pps_cons pe_str pe_int (pps_cons pe_str pe_int pps_nil)))) (by rfl) (by rfl) (fun z => by cases z) (by decide)) (pe_ix (kx_ixT K) (pv 7) pe_int (fun _ _ => rfl)) (fun _ _ => rfl)) (nomark _))))) (pss_cons (ps_expr (kx_app K (pv 2) (pa_cons (pv 7) pa_nil)))
  (pss_cons (ps_set (i := 3) sc_law_rows.nd rfl (Or.inl rfl) (pe_op op_add (pv 3) (pv 8)))
  (pss_one (ps_dput (hu_of hr) (pv 4) (pe_ix (kx_ixT K) (pv 7) pe_int (fun _ _ => rfl)) (pe_op op_add (pe_dget (hu_of hr) (pv 4) (pe_ix (kx_ixT K) (pv 7) pe_int (fun _ _ => rfl)) (fun _ _ => rfl)) pe_int) rfl)))) pss_nil)))))
  (pss_one (ps_ret (pe_cc C_law_settled (hr.mono (by decide)) (pa_cons (pv 2) pa_nil))))))))), ?_⟩)
  · obtain ⟨a, nm, is, ns, rfl, _⟩ := h
    rfl
  · obtain ⟨a, nm, is, ns, rfl, hS, hil, hnm, hnl, hnn, k⟩ := h
    walk_at "pc"
    refine ⟨Nat.zero_le _, fun ro hro => ?_⟩
    walk_at "pc"
    intro co hco
    walk_at "pc"
    refine ⟨upd_same, four 0 0 0 0, rfl, by decide, ?_⟩
    have s1 : Same H (upd H ro (.lst [])) := same_upd hro
    have hco0 : H co = none := s1.free hco
    have hrc : ro ≠ co := fun q => by rw [← q, upd_same] at hco; cases hco
    have s2 : Same H (upd (upd (upd H ro (.lst [])) co (.dK [])) co (.dK (mergeK [] (four 0 0 0 0)))) := same_new (same_new s1 hco0) hco0
    have hc2 : Counts (upd (upd (upd H ro (.lst [])) co (.dK [])) co (.dK (mergeK [] (four 0 0 0 0)))) co 4 := ⟨_, upd_same, four_ok1.1, fun t ht => ⟨0, four_ok1.2 t ht⟩⟩
    have hr2 : upd (upd (upd H ro (.lst [])) co (.dK [])) co (.dK (mergeK [] (four 0 0 0 0))) ro = some (.lst []) := (upd_ne hrc).trans ((upd_ne hrc).trans upd_same)
    generalize upd (upd (upd H ro (.lst [])) co (.dK [])) co (.dK (mergeK [] (four 0 0 0 0))) = H2 at s2 hc2 hr2
    walk_at "pc"
    refine i_slL (s2.seq hS) fun lo hlo => ?_
    have hlo0 : H lo = none := s2.free hlo
    have hrl : ro ≠ lo := ne_of_none hr2 hlo
    have hcl : co ≠ lo := ne_of_none hc2.choose_spec.1 hlo
    have hls : (cutV (is.map V.int) none (some 63)) = (is.take 63).map V.int := by
      have e : cutV (is.map V.int) none (some ((63 : Nat) : Int)) = _ := cutV_to _ 63
      exact e.trans List.map_take.symm
    rw [hls]
    have hll : ((is.take 63).map V.int).length ≤ 63 := by rw [List.length_map, List.length_take]; omega
    walk_at "pc"
    refine ⟨lo, _, rfl, SqL.of upd_same, for_it walk_enum (fun i σ' H' => ∃ sz o5 o6 o7 o8, σ' = [some (.ref a), some (.ref nm), some (.ref ro), some (.int sz), some (.ref co), o5, o6, o7, o8, none] ∧ Same H H' ∧ H' lo = some (.lst ((is.take 63).map V.int)) ∧ Counts H' co (4 + i) ∧
      ∃ ds us, H' ro = some (.lst us) ∧ us.length ≤ i ∧ Paired (DrawnAt H') ds us ∧ ∀ ws ∈ ds, Drawn ws) ?_ (fun i σ' H' _ ⟨_, _, _, _, _, _, _, q, _⟩ => SqL.of q) ?_ ?_⟩
    · exact ⟨0, none, none, none, none, rfl, same_new s2 hlo0, upd_same, hc2.mono (same_upd hlo) (Nat.le_refl _), [], [], (upd_ne hrl).trans hr2, Nat.le_refl _, .nil, fun ws hws => nomatch hws⟩
    · rintro i x σ' H3 H4 hi ⟨sz, o5, o6, o7, o8, rfl, s3, hl3, hc3, ds, us, hr3, hul, hp, hdr⟩ ⟨t, x1, y1, rfl, htn, rfl, e1, e2⟩
      have e1 := Option.some.inj e1
      subst e1
      obtain ⟨cell, e3⟩ : ∃ cell, y1 = V.int cell := by
        have e2 : ((is.take 63).map V.int)[i]? = some y1 := e2
        rw [List.getElem?_map] at e2
        cases q : (is.take 63)[i]? with
        | none => rw [q] at e2; cases e2
        | some c => rw [q] at e2; exact ⟨c, (Option.some.inj e2).symm⟩
      subst e3
      have hi63 : i < 63 := by omega
      have s4 : Same H3 (upd H3 t (.tup [.int (i : Nat), .int cell])) := same_upd htn
      refine i_g2 (SqT.of upd_same) ?_
      generalize upd H3 t (.tup [.int (i : Nat), .int cell]) = H4 at s4
      have s34 := s3.trans s4
      have hl4 := s4 _ _ hl3
      have hc4 := hc3.mono s4 (Nat.le_refl _)
      have hr4 := s4 _ _ hr3
      have hp4 := Paired.mapP hp fun a v => DrawnAt.mono (ws := a) (v := v) (tup_same s4)
      clear hp hr3 hc3 hl3 s3 e2 htn
      walk_at "pc"
      refine ⟨cell, (i : Nat), rfl, fun hp H5 s5 hpn hok => ?_⟩
      walk_at "pc"
      have hnm5 := s5 _ _ (s34 _ _ hnm)
      refine ⟨hp, nm, ns, rfl, hok, SqL.of hnm5, ne_of_none (s34 _ _ hnm) hpn, hnl, hnn, fun ws v H6 hw hv b6 h6 => ?_⟩
      have s6 : Same H4 H6 := same_hand s5 hpn b6
      obtain ⟨wa, rfl, hwa⟩ := holds_flat.mp hv
      obtain ⟨hwl, hwf⟩ := drawn_fine hw
      obtain ⟨tg, wr, ewt, htg⟩ := drawn_tag hw
      have s36 := s34.trans s6
      have hl6 := s6 _ _ hl4
      have hc6 := hc4.mono s6 (Nat.le_refl _)
      have hr6 := s6 _ _ hr4
      have hp6 := Paired.mapP hp4 fun a v => DrawnAt.mono (ws := a) (v := v) (tup_same s6)
      clear hp4 hr4 hc4 hl4 s5 hok hpn b6 h6 hnm5 hv s6 s34
      walk_at "pc"
      refine ⟨wa, rfl, ⟨_, SqT.of hwa⟩, fun D hD => ?_⟩
      refine lc_pure (walk_tup (xs := ws.map kV)) (fun _ => true) (fun k => 1 + ((txt k).length : Int)) (ds := ws) (Src := SrcK kV) (Out := OutI) hD (List.length_map _).symm (by rw [List.length_map]; omega) (fun H2 s => SqT.of (s _ _ hwa)) (gives_at (paired_map kV ws) fun _ _ _ _ h => h) (fun _ _ _ _ _ h => h) (fun c x H2 N1 N2 hc s hs n1 n2 => ?_) (fun H7 ys s7 hy hyp => ?_)
      · cases hs
        walk_at "pc"
        refine ⟨rfl, ?_⟩
        walk_at "pc"
        refine i_strK (hwf c hc).2.2 ?_
        walk_at "pc"
        have hcl := (hwf c hc).2.1
        refine i_lenS (by rw [sizeLine_eq]; omega) ?_
        walk_at "pc"
        exact n1 rfl _ _ (Same.refl _) rfl
      have e := paired_fn (F := V.int) (fun b v h => h) hyp
      subst e
      walk_at "pc"
      refine i_sum (SqL.of hy) ?_
      generalize ((ws.filter fun _ => true).map fun k => 1 + ((txt k).length : Int)).sum = cost
      have s37 := s36.trans s7
      have hl7 := s7 _ _ hl6
      have hc7 := hc6.mono s7 (Nat.le_refl _)
      have hr7 := s7 _ _ hr6
      have hp7 := Paired.mapP hp6 fun a v => DrawnAt.mono (ws := a) (v := v) (tup_same s7)
      have hwa7 := s7 _ _ hwa
      clear hyp hy hp6 hr6 hc6 hl6 s7 s36 hwa hD
      have hwa8 : H7 wa = some (.tup (.str tg :: wr.map kV)) := by rw [hwa7, ewt]; rfl
      walk_at "pc"
      refine ifB (fun e => ?_) (fun e => ?_)
      · obtain ⟨kvs, hk, hkl, hkv⟩ := id hc7
        obtain ⟨z, hz⟩ := hkv tg htg
        walk_at "pc"
        refine ⟨co, _, rfl, dgot (k := .inr tg) hk hz, ?_⟩
        walk_at "pc"
        intro q hq
        walk_at "pc"
        refine ⟨upd_same, four 8 40 60 60, rfl, by decide, ?_⟩
        have s8 : Same H7 (upd (upd H7 q (.dK [])) q (.dK (mergeK [] (four 8 40 60 60)))) := same_new (same_upd hq) hq
        have hwa9 := s8 _ _ hwa8
        walk_at "pc"
        have hmx : ∃ m : Int, valV (mergeK [] (four 8 40 60 60)) (.inr tg) = some (.int m) := by
          rcases four_ok2 tg htg with e | e | e
          · exact ⟨_, e⟩
          · exact ⟨_, e⟩
          · exact ⟨_, e⟩
        obtain ⟨m, hm⟩ := hmx
        refine ⟨q, _, rfl, dgot (k := .inr tg) upd_same hm, ?_⟩
        have hk9 := s8 _ _ hk
        have s38 := s37.trans s8
        have hl8 := s8 _ _ hl7
        have hc8 := hc7.mono s8 (Nat.le_refl _)
        have hr8 := s8 _ _ hr7
        have hp8 := Paired.mapP hp7 fun a v => DrawnAt.mono (ws := a) (v := v) (tup_same s8)
        have hwa10 := s8 _ _ hwa7
        generalize upd (upd H7 q (.dK [])) q (.dK (mergeK [] (four 8 40 60 60))) = H8 at hwa9 hk9 s38 hl8 hc8 hr8 hp8 hwa10
        walk_at "pc"
        refine ifB (fun e => ?_) (fun e => ?_)
        · walk_at "pc"
          refine i_append hr8 (by rw [sizeLine_eq]; omega) ?_
          have tl9 := tup_lst (o := .lst (us ++ [V.ref wa])) hr8
          have hwa11 := tl9 _ _ hwa9
          have hk10 : upd H8 ro (.lst (us ++ [V.ref wa])) co = some (.dK kvs) := (upd_ne (Ne.symm hrc)).trans hk9
          walk_at "pc"
          refine ⟨co, _, rfl, dgot (k := .inr tg) hk10 hz, ?_⟩
          walk_at "pc"
          refine i_dputs (k := .inr tg) hk10 (by rw [sizeLine_eq]; omega) ?_
          have tl10 := tup_dk (o := .dK (putK kvs (.inr tg) (.int (z + 1)))) hk10
          refine ⟨_, _, _, _, _, rfl, same_new (same_new s38 hro) hco0, (upd_ne (Ne.symm hcl)).trans ((upd_ne (Ne.symm hrl)).trans hl8), ⟨_, upd_same, Nat.le_trans (put_len _ _ _) (by omega), fun t ht => ?_⟩, ds ++ [ws], us ++ [V.ref wa], (upd_ne hrc).trans upd_same, by rw [List.length_append, List.length_singleton]; omega, ?_, ?_⟩
          · rw [valV_put]
            split
            · exact ⟨_, rfl⟩
            · exact hkv t ht
          · exact Paired.snoc (Paired.mapP hp8 fun a v h => DrawnAt.mono (ws := a) (tl9.trans tl10) h) (holds_flat.mpr ⟨wa, rfl, tl10 _ _ (tl9 _ _ hwa10)⟩)
          · intro y hy
            rcases List.mem_append.mp hy with mm | mm
            · exact hdr y mm
            · exact List.mem_singleton.mp mm ▸ hw
        · walk_at "pc"
          exact ⟨_, _, _, _, _, rfl, s38, hl8, hc8.mono (Same.refl _) (by omega), ds, us, hr8, by omega, hp8, hdr⟩
      · walk_at "pc"
        exact ⟨_, _, _, _, _, rfl, s37, hl7, hc7.mono (Same.refl _) (by omega), ds, us, hr7, by omega, hp7, hdr⟩
    · rintro σ' H3 ⟨sz, o5, o6, o7, o8, rfl, s3, hl3, hc3, ds, us, hr3, hul, hp, hdr⟩
      have hdl : ds.length ≤ 63 := by rw [Paired.length hp]; omega
      walk_at "pc"
      exact ⟨ro, ds, us, rfl, hr3, hp, hdr, hdl, fun p rs zs H' s hp hrp hok hrl hnm => k p rs zs H' (s3.trans s) hp hrp hok hrl hnm⟩
end
/-! The plain law: a book shown is read as it was, and the text's rows in any order tell the same; no program in sight. -/
theorem mk_mem {D : Str → List (List Key)} : ∀ {hs : List Head} {seen : List Str} {x : Rule}, x ∈ mkRules D seen hs → x.1 ∈ hs ∧ (x.2 = [] ∨ x.2 = D x.1.n)
  | [], _, x, h => nomatch h
  | a :: r, seen, x, h => by
    rcases List.mem_cons.mp h with e | h
    · subst e
      refine ⟨List.mem_cons_self .., ?_⟩
      show gv D seen a.n = [] ∨ gv D seen a.n = D a.n
      unfold gv
      split
      · exact .inl rfl
      · exact .inr rfl
    · have ih := mk_mem h
      exact ⟨List.mem_cons_of_mem _ ih.1, ih.2⟩
theorem mk_fst (D : Str → List (List Key)) : ∀ (hs : List Head) (seen : List Str), (mkRules D seen hs).map (·.1) = hs
  | [], _ => rfl
  | a :: r, seen => by
    show a :: (mkRules D (seen ++ [a.n]) r).map (·.1) = a :: r
    rw [mk_fst D r]
theorem mk_congr {D D' : Str → List (List Key)} : ∀ {hs : List Head} {seen : List Str}, (∀ h ∈ hs, D h.n = D' h.n) → mkRules D seen hs = mkRules D' seen hs
  | [], _, _ => rfl
  | a :: r, seen, h => by
    have e := h a (List.mem_cons_self ..)
    have ih := mk_congr (hs := r) (seen := seen ++ [a.n]) fun x hx => h x (List.mem_cons_of_mem _ hx)
    have eg : gv D seen a.n = gv D' seen a.n := by
      unfold gv
      rw [e]
    show (a, gv D seen a.n) :: _ = (a, gv D' seen a.n) :: _
    rw [eg, ih]
theorem deeds_ok {rs : List Row} (h : ∀ r ∈ rs, r.ok) (n : Str) : ∀ d ∈ deedsOf rs n, DeedOk d := by
  intro d hd
  obtain ⟨r, hr, rfl⟩ := List.mem_map.mp hd
  obtain ⟨hr1, hr2⟩ := List.mem_filter.mp hr
  cases r with
  | does m d => exact (h _ hr1).2
  | kind m => exact absurd hr2 Bool.false_ne_true
  | rule m k p sh => exact absurd hr2 Bool.false_ne_true
  | nil => exact absurd hr2 Bool.false_ne_true
theorem due_ok {rs : List Row} (h : ∀ r ∈ rs, r.ok) (hl : rs.length ≤ 63) : BookOk (due rs) := by
  refine ⟨fun k hk => ?_, ?_, fun x hx => ?_, ?_⟩
  · obtain ⟨r, hr, rfl⟩ := List.mem_map.mp hk
    obtain ⟨hr1, hr2⟩ := List.mem_filter.mp hr
    cases r with
    | kind m => exact h _ hr1
    | does m d => exact absurd hr2 Bool.false_ne_true
    | rule m k p sh => exact absurd hr2 Bool.false_ne_true
    | nil => exact absurd hr2 Bool.false_ne_true
  · show (kindsOf rs).length ≤ 63
    unfold kindsOf
    rw [List.length_map]
    exact Nat.le_trans (List.length_filter_le _ _) hl
  · obtain ⟨h1, h2⟩ := mk_mem hx
    refine ⟨?_, fun d hd => ?_, ?_⟩
    · obtain ⟨r, hr, er⟩ := List.mem_map.mp h1
      obtain ⟨hr1, hr2⟩ := List.mem_filter.mp hr
      cases r with
      | rule m k p sh =>
        rw [← er]
        exact h _ hr1
      | does m d => exact absurd hr2 Bool.false_ne_true
      | kind m => exact absurd hr2 Bool.false_ne_true
      | nil => exact absurd hr2 Bool.false_ne_true
    · rcases h2 with e | e
      · rw [e] at hd
        cases hd
      · rw [e] at hd
        exact deeds_ok h _ d hd
    · rcases h2 with e | e
      · rw [e]
        exact Nat.zero_le _
      · rw [e]
        unfold deedsOf
        rw [List.length_map]
        exact Nat.le_trans (List.length_filter_le _ _) hl
  · show (mkRules (deedsOf rs) [] (headsOf rs)).length ≤ 63
    rw [mk_len]
    unfold headsOf
    rw [List.length_map]
    exact Nat.le_trans (List.length_filter_le _ _) hl
/-! ### what the shown rows tell -/
theorem kinds_rules : ∀ l : List Rule, (l.flatMap ruleRows).filter isKind = []
  | [] => rfl
  | x :: r => by
    have e : (ruleRows x).filter isKind = [] := by
      rw [List.filter_eq_nil_iff]
      intro y hy
      rcases List.mem_cons.mp hy with e | hy
      · rw [e]; exact Bool.false_ne_true
      · obtain ⟨d, _, rfl⟩ := List.mem_map.mp hy
        exact Bool.false_ne_true
    rw [List.flatMap_cons, List.filter_append, e, kinds_rules r]
    rfl
theorem kinds_kinds : ∀ l : List Str, ((l.map Row.kind).filter isKind).map kindName = l
  | [] => rfl
  | k :: r => by
    show k :: ((r.map Row.kind).filter isKind).map kindName = k :: r
    rw [kinds_kinds r]
theorem kinds_canon (b : Book) : kindsOf (canon b) = b.1 := by
  unfold kindsOf canon
  rw [List.filter_append, kinds_rules, List.append_nil, kinds_kinds]
theorem rules_kinds (p : Row → Bool) (hp : ∀ k, p (.kind k) = false) (l : List Str) : (l.map Row.kind).filter p = [] := by
  rw [List.filter_eq_nil_iff]
  intro y hy
  obtain ⟨k, _, rfl⟩ := List.mem_map.mp hy
  rw [hp]
  exact Bool.false_ne_true
theorem heads_rules : ∀ l : List Rule, ((l.flatMap ruleRows).filter isRule).map headOf = l.map (·.1)
  | [] => rfl
  | x :: r => by
    have e : (ruleRows x).filter isRule = [ruleRow x.1] := by
      show (ruleRow x.1 :: x.2.map (Row.does x.1.n)).filter isRule = _
      rw [List.filter_cons, if_pos (show isRule (ruleRow x.1) = true from rfl)]
      have e2 : (x.2.map (Row.does x.1.n)).filter isRule = [] := by
        rw [List.filter_eq_nil_iff]
        intro y hy
        obtain ⟨d, _, rfl⟩ := List.mem_map.mp hy
        exact Bool.false_ne_true
      rw [e2]
    rw [List.flatMap_cons, List.filter_append, e, List.map_append, heads_rules r]
    rfl
theorem heads_canon (b : Book) : headsOf (canon b) = b.2.map (·.1) := by
  unfold headsOf canon
  rw [List.filter_append, rules_kinds isRule (fun _ => rfl), List.nil_append, heads_rules]
theorem deeds_rules (n : Str) : ∀ l : List Rule, ((l.flatMap ruleRows).filter (doesFor n)).map deedOf = (l.filter fun x => decide (x.1.n = n)).flatMap (·.2)
  | [] => rfl
  | x :: r => by
    have ih := deeds_rules n r
    have all : ∀ ds : List (List Key), ((ds.map (Row.does x.1.n)).filter (doesFor n)).map deedOf = if x.1.n = n then ds else [] := by
      intro ds
      induction ds with
      | nil =>
        split <;> rfl
      | cons d q i2 =>
        by_cases c : x.1.n = n
        · rw [if_pos c] at i2 ⊢
          rw [List.map_cons, List.filter_cons, if_pos (show doesFor n (.does x.1.n d) = true from decide_eq_true c), List.map_cons, i2]
          rfl
        · rw [if_neg c] at i2 ⊢
          rw [List.map_cons, List.filter_cons, if_neg (show ¬ doesFor n (.does x.1.n d) = true from fun q => c (of_decide_eq_true q)), i2]
    have e : ((ruleRows x).filter (doesFor n)).map deedOf = if x.1.n = n then x.2 else [] := by
      show ((ruleRow x.1 :: x.2.map (Row.does x.1.n)).filter (doesFor n)).map deedOf = _
      rw [List.filter_cons, if_neg (show ¬ doesFor n (ruleRow x.1) = true from Bool.false_ne_true)]
      exact all x.2
    rw [List.flatMap_cons, List.filter_append, List.map_append, e, ih, List.filter_cons]
    by_cases c : x.1.n = n
    · rw [if_pos c, if_pos (decide_eq_true c), List.flatMap_cons]
    · rw [if_neg c, if_neg (fun q => c (of_decide_eq_true q)), List.nil_append]
theorem deeds_canon (b : Book) (n : Str) : deedsOf (canon b) n = (b.2.filter fun x => decide (x.1.n = n)).flatMap (·.2) := by
  unfold deedsOf canon
  rw [List.filter_append, rules_kinds (doesFor n) (fun _ => rfl), List.nil_append, deeds_rules]
theorem deeds_mk (D : Str → List (List Key)) (n : Str) : ∀ (hs : List Head) (seen : List Str), ((mkRules D seen hs).filter fun x => decide (x.1.n = n)).flatMap (·.2) = if n ∈ seen then [] else if n ∈ hs.map (·.n) then D n else []
  | [], seen => by
    show [] = _
    split
    · rfl
    · rw [if_neg (fun q => nomatch q)]
  | a :: r, seen => by
    have ih := deeds_mk D n r (seen ++ [a.n])
    show ((((a, gv D seen a.n) : Rule) :: mkRules D (seen ++ [a.n]) r).filter fun x => decide (x.1.n = n)).flatMap (·.2) = _
    rw [List.filter_cons]
    by_cases c : a.n = n
    · rw [if_pos (decide_eq_true c), List.flatMap_cons, ih, if_pos (List.mem_append_right _ (List.mem_singleton.mpr c.symm)), List.append_nil]
      show gv D seen a.n = _
      rw [c]
      unfold gv
      by_cases c2 : n ∈ seen
      · rw [if_pos c2, if_pos c2]
      · rw [if_neg c2, if_neg c2, if_pos (List.mem_map.mpr ⟨a, List.mem_cons_self .., c⟩)]
    · rw [if_neg (fun q => c (of_decide_eq_true q)), ih]
      by_cases c2 : n ∈ seen
      · rw [if_pos c2, if_pos (List.mem_append_left _ c2)]
      · rw [if_neg c2, if_neg (fun q => (List.mem_append.mp q).elim c2 fun z => c (List.mem_singleton.mp z).symm)]
        by_cases c3 : n ∈ r.map (·.n)
        · rw [if_pos c3, if_pos (show n ∈ (a :: r).map (·.n) from List.mem_cons_of_mem _ c3)]
        · rw [if_neg c3, if_neg (show ¬ n ∈ (a :: r).map (·.n) from fun q => (List.mem_cons.mp q).elim (fun z => c z.symm) c3)]
/-- what is shown is read as it was -/
theorem due_canon (rs : List Row) : due (canon (due rs)) = due rs := by
  have eh : headsOf (canon (due rs)) = headsOf rs := by
    rw [heads_canon]
    exact mk_fst _ _ _
  have ek : kindsOf (canon (due rs)) = kindsOf rs := kinds_canon _
  show (kindsOf (canon (due rs)), mkRules (deedsOf (canon (due rs))) [] (headsOf (canon (due rs)))) = (kindsOf rs, mkRules (deedsOf rs) [] (headsOf rs))
  rw [ek, eh]
  congr 1
  refine mk_congr fun h hh => ?_
  rw [deeds_canon]
  show ((mkRules (deedsOf rs) [] (headsOf rs)).filter fun x => decide (x.1.n = h.n)).flatMap (·.2) = _
  rw [deeds_mk, if_neg (fun q => nomatch q), if_pos (List.mem_map.mpr ⟨h, hh, rfl⟩)]
theorem named_canon (b : Book) : named (canon b) := by
  intro n d h
  rw [heads_canon, List.map_map]
  rcases List.mem_append.mp h with h | h
  · obtain ⟨k, _, e⟩ := List.mem_map.mp h
    cases e
  · obtain ⟨x, hx, h⟩ := List.mem_flatMap.mp h
    rcases List.mem_cons.mp h with e | h
    · cases e
    · obtain ⟨d2, _, e⟩ := List.mem_map.mp h
      cases e
      exact List.mem_map.mpr ⟨x, hx, rfl⟩
/-- deeds ahead of all else -/
def movedOf (rs : List Row) : List Row := rs.filter isDoes ++ rs.filter fun r => !isDoes r
theorem moved_filter (p : Row → Bool) (rs : List Row) (h : ∀ r, p r = true → isDoes r = false) : (movedOf rs).filter p = rs.filter p := by
  unfold movedOf
  rw [List.filter_append, List.filter_filter, List.filter_filter]
  have e1 : (rs.filter fun r => p r && isDoes r) = [] := by
    rw [List.filter_eq_nil_iff]
    intro r _ q
    rw [Bool.and_eq_true] at q
    rw [h r q.1] at q
    exact Bool.false_ne_true q.2
  rw [e1, List.nil_append]
  refine List.filter_congr fun r _ => ?_
  cases q : p r with
  | false => rfl
  | true => rw [h r q]; rfl
theorem moved_does (n : Str) (rs : List Row) : (movedOf rs).filter (doesFor n) = rs.filter (doesFor n) := by
  unfold movedOf
  have hd : ∀ r, doesFor n r = true → isDoes r = true := by
    intro r h
    cases r with
    | does m d => rfl
    | kind m => exact h
    | rule m k p sh => exact h
    | nil => exact h
  rw [List.filter_append, List.filter_filter, List.filter_filter]
  have e1 : (rs.filter fun r => doesFor n r && !isDoes r) = [] := by
    rw [List.filter_eq_nil_iff]
    intro r _ q
    rw [Bool.and_eq_true, Bool.not_eq_true'] at q
    rw [hd r q.1] at q
    exact Bool.false_ne_true q.2.symm
  rw [e1, List.append_nil]
  refine List.filter_congr fun r _ => ?_
  cases q : doesFor n r with
  | false => rfl
  | true => rw [hd r q]; rfl
theorem heads_moved (rs : List Row) : headsOf (movedOf rs) = headsOf rs := by
  unfold headsOf
  rw [moved_filter isRule rs (fun r h => by cases r <;> first | rfl | exact absurd h Bool.false_ne_true)]
theorem due_moved (rs : List Row) : due (movedOf rs) = due rs := by
  have ek : kindsOf (movedOf rs) = kindsOf rs := by
    unfold kindsOf
    rw [moved_filter isKind rs (fun r h => by cases r <;> first | rfl | exact absurd h Bool.false_ne_true)]
  have ed : deedsOf (movedOf rs) = deedsOf rs := by
    funext n
    unfold deedsOf
    rw [moved_does]
  show (kindsOf (movedOf rs), mkRules (deedsOf (movedOf rs)) [] (headsOf (movedOf rs))) = (kindsOf rs, mkRules (deedsOf rs) [] (headsOf rs))
  rw [ek, ed, heads_moved]
theorem moved_mem {rs : List Row} {r : Row} (h : r ∈ movedOf rs) : r ∈ rs := by
  rcases List.mem_append.mp h with h | h
  · exact (List.mem_filter.mp h).1
  · exact (List.mem_filter.mp h).1
theorem named_moved {rs : List Row} (h : named rs) : named (movedOf rs) := by
  intro n d hd
  rw [heads_moved]
  exact h n d (moved_mem hd)
theorem moved_len (rs : List Row) : (movedOf rs).length ≤ rs.length * 2 := by
  unfold movedOf
  rw [List.length_append]
  have h1 := List.length_filter_le isDoes rs
  have h2 := List.length_filter_le (fun r => !isDoes r) rs
  omega
/-- no rows at all, and one without signs, are one text and tell one book -/
def some1 (rs : List Row) : List Row := if rs.isEmpty then [.nil] else rs
theorem some1_ne (rs : List Row) : some1 rs ≠ [] := by
  unfold some1
  cases rs with
  | nil => exact fun q => nomatch q
  | cons a r => exact fun q => nomatch q
theorem text_nil : textOf [] = "" := by decide +kernel
theorem text_none : textOf [.nil] = "" := by decide +kernel
theorem some1_text (rs : List Row) : textOf (some1 rs) = textOf rs := by
  cases rs with
  | nil => exact text_none.trans text_nil.symm
  | cons a r => rfl
theorem some1_due (rs : List Row) : due (some1 rs) = due rs := by
  cases rs with
  | nil =>
    show (kindsOf [.nil], mkRules (deedsOf [.nil]) [] (headsOf [.nil])) = (kindsOf [], mkRules (deedsOf []) [] (headsOf []))
    rfl
  | cons a r => rfl
theorem some1_ok {rs : List Row} (h : ∀ r ∈ rs, r.ok) : ∀ r ∈ some1 rs, r.ok := by
  cases rs with
  | nil =>
    intro r hr
    rw [List.mem_singleton.mp hr]
    trivial
  | cons a r => exact h
theorem some1_named {rs : List Row} (h : named rs) : named (some1 rs) := by
  cases rs with
  | nil =>
    intro n d hd
    nomatch (List.mem_singleton.mp hd)
  | cons a r => exact h
theorem some1_len {rs : List Row} (h : rs.length ≤ 5000) : (some1 rs).length ≤ 5000 := by
  cases rs with
  | nil => exact show 1 ≤ 5000 by decide
  | cons a r => exact h
theorem deep_flat {ks : List Key} (h : ks.length ≤ 5000) (n : Nat) : Deep (n + 1) (flatT ks) := by
  refine ⟨by rw [List.length_map]; exact h, fun d hd => ?_⟩
  obtain ⟨k, _, rfl⟩ := List.mem_map.mp hd
  cases n <;> trivial
theorem deep_w (n : Nat) (k : Key) : Deep n (.w k) := by cases n <;> trivial
theorem deep_book {b : Book} (h : BookOk b) : Deep 5 (bookT b) := by
  refine ⟨show 2 ≤ 5000 by decide, fun d hd => ?_⟩
  rcases List.mem_cons.mp hd with e | hd
  · rw [e]
    refine ⟨by rw [List.length_map]; have := h.kindsN; omega, fun d hd => ?_⟩
    obtain ⟨k, _, rfl⟩ := List.mem_map.mp hd
    exact deep_w _ _
  rw [List.mem_singleton.mp hd]
  refine ⟨by rw [List.length_map]; have := h.rulesN; omega, fun d hd => ?_⟩
  obtain ⟨x, hx, rfl⟩ := List.mem_map.mp hd
  obtain ⟨h1, h2, h3⟩ := h.rules x hx
  refine ⟨show 5 ≤ 5000 by decide, fun d hd => ?_⟩
  rcases List.mem_cons.mp hd with e | hd
  · rw [e]; exact deep_w _ _
  rcases List.mem_cons.mp hd with e | hd
  · rw [e]; exact deep_w _ _
  rcases List.mem_cons.mp hd with e | hd
  · rw [e]; exact deep_w _ _
  rcases List.mem_cons.mp hd with e | hd
  · rw [e]
    exact deep_flat (by have := h1.2.2.2.2.2.1; exact Nat.le_trans this (by decide)) 1
  rw [List.mem_singleton.mp hd]
  refine ⟨by rw [List.length_map]; omega, fun d hd => ?_⟩
  obtain ⟨y, hy, rfl⟩ := List.mem_map.mp hd
  exact deep_flat (Nat.le_trans (fine_deed (h2 y hy)).1 (by decide)) 0

def sp_law (K : PySem.W.Frag) : Sp := fun vs H Q _ => ∃ (a : Addr) (zs : List Int), vs = [.ref a] ∧ SqL K H a (zs.map V.int) ∧ zs.length ≤ 63 ∧ ∀ H', Q (.bl true) H'
section
variable {P : Program} {w : World} {K : PySem.W.Frag} {mg : Str → Option Value} {base : Heap}
theorem sc_law : FnScope ["script", "rows", "book", "text", "found", "moved", "told", "row"] ["script"] (defScope s_law) := ⟨rfl, rfl, rfl, by decide +kernel, rfl, by decide +kernel, by decide +kernel⟩
theorem ok_law (T : Txt K mg) (C_law_rows : Callee P w K mg base "_law_rows" 5 ["script", "names"] (sp_law_rows K)) (C_law_due : Callee P w K mg base "_law_due" 1 ["rows"] (sp_law_due K)) (C_law_text : Callee P w K mg base "_law_text" 2 ["book"] (sp_law_text K)) (C_shown_book : Callee P w K mg base "shown_book" 2 ["book"] (sp_shown_book K)) (C_read_book : Callee P w K mg base "read_book" 7 ["text"] (sp_read_book K)) (C_law_names : Callee P w K mg base "_law_names" 2 ["hand", "size"] (sp_law_names K)) (C_law_same : Callee P w K mg base "_law_same" 7 ["found", "due"] (sp_law_same 6)) (C_law_hand : Callee P w K mg base "_law_hand" 1 ["cell", "k"] sp_law_hand) (C_law_line : Callee P w K mg base "_law_line" 1 ["row"] sp_law_line) {f : Addr} {fd : FuncData} (F : FnP K "law" s_law f fd) : FnOk P w K mg base CX0 10 f fd ["script"] (sp_law K) := by
  refine F.ok sc_law (fun vs H Q E h => ?_) (fun cdv A outer s H vs Q E hr h => ⟨_, PSs.nox ((pss_cons (ps_set (i := 1) sc_law.nd rfl (Or.inl rfl) (pe_cc C_law_rows (hr.mono (by decide)) (pa_cons (pv 0) (pa_cons (pe_cc C_law_names (hr.mono (by decide)) (pa_cons (pe_cc C_law_hand (hr.mono (by decide)) (pa_cons (pe_callB (kx_sum K rfl) (by rfl) T.sum_ (by decide +kernel) (pa_cons (pv 0) pa_nil)) (pa_cons pe_int pa_nil))) (pa_cons pe_int pa_nil))) pa_nil))))
  (pss_cons (ps_set (i := 2) sc_law.nd rfl (Or.inl rfl) (pe_cc C_law_due (hr.mono (by decide)) (pa_cons (pv 1) pa_nil)))
  (pss_cons (ps_set (i := 3) sc_law.nd rfl (Or.inl rfl) (pe_cc C_law_text (hr.mono (by decide)) (pa_cons (pv 2) pa_nil)))
  (pss_cons (ps_set (i := 4) sc_law.nd rfl (Or.inl rfl) (pe_cc C_shown_book (hr.mono (by decide)) (pa_cons (pv 2) pa_nil)))
  (pss_cons (ps_if (PW.pt (pw_or (pt_not (pt_val (pe_callB (kx_isi K) (by rfl) T.isinstance_ (by decide +kernel) (pa_cons (pv 4) (pa_cons (pe_bltn (v := .ty "str") (by rfl) T.str_ (by decide +kernel) rfl) pa_nil))))) (pw_or (pt_cmpR op_ne (pv 4) (pv 3) (nomark _)) (pw_or1 (pt_not (pt_val (pe_cc C_law_same (hr.mono (by decide)) (pa_cons (pe_cc C_read_book (hr.mono (by decide)) (pa_cons (pv 4) pa_nil)) (pa_cons (pv 2) pa_nil))))))))) (pss_one (ps_ret pe_bl)) pss_nil)
  (pss_cons (ps_set (i := 5) sc_law.nd rfl (Or.inl rfl) (pe_op op_cat (pe_lc (own := [("row", 7)]) rfl sc_law.nd (kx_piL K (pv 1)) (blkOk_by (own := [("row", 7)]) (N := ["script", "rows", "book", "text", "found", "moved", "told", "row"]) (sc := defScope s_law) (by decide +kernel)) (fun _ _ _ _ _ => by exact (pg_name (i := 7) sc_law.nd rfl (Or.inl rfl))) (fun _ _ _ _ _ => by exact pts_one (pt_cmpR op_eq (pe_ix (kx_ixT K) (pv 7) pe_int (fun _ _ => rfl)) pe_str (nomark _))) (fun _ _ _ _ _ => by exact (pv 7))) (pe_lc (own := [("row", 7)]) rfl sc_law.nd (kx_piL K (pv 1)) (blkOk_by (own := [("row", 7)]) (N := ["script", "rows", "book", "text", "found", "moved", "told", "row"]) (sc := defScope s_law) (by decide +kernel)) (fun _ _ _ _ _ => by exact (pg_name (i := 7) sc_law.nd rfl (Or.inl rfl))) (fun _ _ _ _ _ => by exact pts_one (pt_cmpR op_ne (pe_ix (kx_ixT K) (pv 7) pe_int (fun _ _ => rfl)) pe_str (nomark _))) (fun _ _ _ _ _ => by exact (pv 7)))))
  (pss_cons (ps_set (i := 6) sc_law.nd rfl (Or.inl rfl) (pe_cc C_read_book (hr.mono (by decide)) (pa_cons (kx_join K pe_str (pe_lc (own := [("row", 7)]) rfl sc_law.nd (kx_piL K (pv 5)) (blkOk_by (own := [("row", 7)]) (N := ["script", "rows", "book", "text", "found", "moved", "told", "row"]) (sc := defScope s_law) (by decide +kernel)) (fun _ _ _ _ _ => by exact (pg_name (i := 7) sc_law.nd rfl (Or.inl rfl))) (fun _ _ _ _ _ => pts_nil) (fun _ _ _ _ _ => by exact (pe_cc C_law_line (hr.mono (by decide)) (pa_cons (pv 7) pa_nil))))) pa_nil)))
  (pss_one (ps_ret (pe_and (pe_cc C_law_same (hr.mono (by decide)) (pa_cons (pv 6) (pa_cons (pv 2) pa_nil))) (pe_and (pe_cmpR op_eq (pe_cc C_shown_book (hr.mono (by decide)) (pa_cons (pv 6) pa_nil)) (pv 3) (nomark _)) (pe_one (pe_cmpR op_eq (pe_cc C_shown_book (hr.mono (by decide)) (pa_cons (pe_tup (pa_cons (pe_tup pa_nil) (pa_cons (pe_tup pa_nil) pa_nil))) pa_nil)) pe_str (nomark _))))))))))))))), ?_⟩)
  · obtain ⟨a, zs, rfl, _⟩ := h
    rfl
  · obtain ⟨a, zs, rfl, hS, hzl, k⟩ := h
    walk_at "pc"
    refine i_sum hS ?_
    walk_at "pc"
    refine ⟨_, _, rfl, fun hp H1 s1 hp0 hok => ?_⟩
    walk_at "pc"
    refine ⟨hp, rfl, hok, fun nm ns H2 b2 h2 hnm0 hnm hnl hnn => ?_⟩
    have s2 : Same H H2 := same_hand s1 hp0 b2
    walk_at "pc"
    refine ⟨a, nm, zs, ns, rfl, s2.seq hS, hzl, hnm, hnl, hnn, fun ro rs us H3 s3 hro hrp hrok hrl hrn => ?_⟩
    walk_at "pc"
    refine ⟨ro, rs, us, rfl, hro, hrp, hrok, hrl, fun bv H4 s4 hb => ?_⟩
    have hbo := due_ok hrok hrl
    have hro4 := s4 _ _ hro
    have hrp4 := Paired.mapP hrp fun a v => RowAt.mono (r := a) (v := v) (tup_same s4)
    walk_at "pc"
    refine ⟨bv, due rs, rfl, hb, hbo, fun H5 s5 => ?_⟩
    have hb5 := Holds.mono (tup_same s5) hb
    walk_at "pc"
    refine ⟨bv, due rs, rfl, hb5, hbo, fun H6 s6 => ?_⟩
    have hb6 := Holds.mono (tup_same s6) hb5
    walk_at "pc"
    refine i_isi (.base (.str _)) (b := true) (by decide +kernel) ?_
    walk_at "pc"
    rw [decide_eq_true rfl]
    walk_at "pc"
    have hcl := canon_len hbo
    refine ⟨some1 (canon (due rs)), by rw [some1_text]; rfl, some1_ne _, some1_len (Nat.le_trans hcl (by decide)), some1_ok (canon_ok hbo), some1_named (named_canon _), fun tv H7 s7 htv => ?_⟩
    rw [some1_due, due_canon] at htv
    have hb7 := Holds.mono (tup_same s7) hb6
    walk_at "pc"
    refine ⟨tv, bv, bookT (due rs), rfl, htv, hb7, deep_book hbo, fun H8 s8 => ?_⟩
    have hb8 := Holds.mono (tup_same s8) hb7
    have s48 := s5.trans (s6.trans (s7.trans s8))
    have hro8 := s48 _ _ hro4
    have hrp8 := Paired.mapP hrp4 fun a v => RowAt.mono (r := a) (v := v) (tup_same s48)
    have hul : us.length ≤ 63 := by rw [← Paired.length hrp]; exact hrl
    clear htv hrp4 hro4 s5 s6 s7 s8 hb5 hb6 hb7 hb
    walk_at "pc"
    refine ⟨ro, rfl, ⟨_, SqL.of hro8⟩, fun D1 hD1 => ?_⟩
    refine lc_pure (walk_list (xs := us)) isDoes (fun r => r) (ds := rs) (Src := RowAt) (Out := RowAt) hD1 (Paired.length hrp) (by omega) (fun H2 s => SqL.of (s _ _ hro8)) (gives_at hrp8 fun H a v s => RowAt.mono (tup_same s)) (fun _ _ _ _ s h => RowAt.mono s h) (fun r x H9 N1 N2 hr s hs n1 n2 => ?_) (fun H9 y1 s9 hy1 hp1 => ?_)
    · obtain ⟨ra, rfl, hra⟩ := holds_flat.mp hs
      walk_at "pc"
      refine ⟨rfl, ?_⟩
      cases r with
      | nil =>
        have hra : H9 ra = some (.tup [.str ""]) := hra
        walk_at "pcs"
        exact n2 rfl _ (Same.refl _)
      | kind n =>
        have hra : H9 ra = some (.tup [.str "kind", .str n]) := hra
        walk_at "pcs"
        exact n2 rfl _ (Same.refl _)
      | rule n kd p sh =>
        have hra : H9 ra = some (.tup (.str "rule" :: .str n :: .str kd :: .int p :: sh.map kV)) := hra
        walk_at "pcs"
        exact n2 rfl _ (Same.refl _)
      | does n d =>
        have hra : H9 ra = some (.tup (.str "does" :: .str n :: d.map kV)) := hra
        walk_at "pcs"
        exact n1 rfl _ _ (Same.refl _) hs
    rw [List.map_id'] at hp1
    have hro9 := s9 _ _ hro8
    have hrp9 := Paired.mapP hrp8 fun a v => RowAt.mono (r := a) (v := v) (tup_same s9)
    have hb9 := Holds.mono (tup_same s9) hb8
    clear hro8 hrp8 hb8
    walk_at "pc"
    refine ⟨ro, rfl, ⟨_, SqL.of hro9⟩, fun D2 hD2 => ?_⟩
    refine lc_pure (walk_list (xs := us)) (fun r => !isDoes r) (fun r => r) (ds := rs) (Src := RowAt) (Out := RowAt) hD2 (Paired.length hrp) (by omega) (fun H2 s => SqL.of (s _ _ hro9)) (gives_at hrp9 fun H a v s => RowAt.mono (tup_same s)) (fun _ _ _ _ s h => RowAt.mono s h) (fun r x H10 N1 N2 hr s hs n1 n2 => ?_) (fun H10 y2 s10 hy2 hp2 => ?_)
    · obtain ⟨ra, rfl, hra⟩ := holds_flat.mp hs
      walk_at "pc"
      refine ⟨rfl, ?_⟩
      cases r with
      | nil =>
        have hra : H10 ra = some (.tup [.str ""]) := hra
        walk_at "pcs"
        exact n1 rfl _ _ (Same.refl _) hs
      | kind n =>
        have hra : H10 ra = some (.tup [.str "kind", .str n]) := hra
        walk_at "pcs"
        exact n1 rfl _ _ (Same.refl _) hs
      | rule n kd p sh =>
        have hra : H10 ra = some (.tup (.str "rule" :: .str n :: .str kd :: .int p :: sh.map kV)) := hra
        walk_at "pcs"
        exact n1 rfl _ _ (Same.refl _) hs
      | does n d =>
        have hra : H10 ra = some (.tup (.str "does" :: .str n :: d.map kV)) := hra
        walk_at "pcs"
        exact n2 rfl _ (Same.refl _)
    rw [List.map_id'] at hp2
    have hp1' := Paired.mapP hp1 fun a v => RowAt.mono (r := a) (v := v) (tup_same s10)
    have hy1' := s10 _ _ hy1
    have hb10 := Holds.mono (tup_same s10) hb9
    have hml := moved_len rs
    have hmp : Paired (RowAt H10) (movedOf rs) (y1 ++ y2) := by
      have app : ∀ {l l' : List Row} {m m' : List V}, Paired (RowAt H10) l m → Paired (RowAt H10) l' m' → Paired (RowAt H10) (l ++ l') (m ++ m') := by
        intro l l' m m' x y
        induction x with
        | nil => exact y
        | cons a _ ih => exact .cons a ih
      exact app hp1' hp2
    have hyl : (y1 ++ y2).length ≤ 126 := by rw [← Paired.length hmp]; omega
    refine i_catL hy1' hy2 (by rw [List.length_append] at hyl; rw [sizeLine_eq]; omega) fun D3 hD3 => ?_
    have s11 : Same H10 (upd H10 D3 (.lst (y1 ++ y2))) := same_upd hD3
    have hmp11 := Paired.mapP hmp fun a v => RowAt.mono (r := a) (v := v) (tup_same s11)
    have hb11 := Holds.mono (tup_same s11) hb10
    have hm11 : upd H10 D3 (.lst (y1 ++ y2)) D3 = some (.lst (y1 ++ y2)) := upd_same
    generalize upd H10 D3 (.lst (y1 ++ y2)) = H11 at hmp11 hb11 hm11
    have hmok : ∀ r ∈ movedOf rs, r.ok := fun r hr => hrok r (moved_mem hr)
    walk_at "pc"
    refine ⟨D3, rfl, ⟨_, SqL.of hm11⟩, fun D4 hD4 => ?_⟩
    refine lc_pure (walk_list (xs := y1 ++ y2)) (fun _ => true) line (ds := movedOf rs) (Src := RowAt) (Out := OutS) hD4 (Paired.length hmp) (by omega) (fun H2 s => SqL.of (s _ _ hm11)) (gives_at hmp11 fun H a v s => RowAt.mono (tup_same s)) (fun _ _ _ _ _ h => h) (fun r x H12 N1 N2 hr s hs n1 n2 => ?_) (fun H12 y4 s12 hy4 hp4 => ?_)
    · walk_at "pc"
      refine ⟨rfl, ?_⟩
      walk_at "pc"
      exact ⟨x, r, rfl, hs, hmok r hr, fun H13 s13 => n1 rfl _ _ s13 rfl⟩
    rw [List.filter_eq_self.mpr (fun _ _ => rfl)] at hp4
    have e4 := paired_fn (F := V.str) (fun b v h => h) hp4
    subst e4
    refine i_join (SqL.of hy4) (lines_size hmok (by omega)) ?_
    have hb12 := Holds.mono (tup_same s12) hb11
    walk_at "pc"
    refine ⟨some1 (movedOf rs), by rw [some1_text]; rfl, some1_ne _, some1_len (by omega), some1_ok hmok, some1_named (named_moved hrn), fun t2 H13 s13 ht2 => ?_⟩
    rw [some1_due, due_moved] at ht2
    have hb13 := Holds.mono (tup_same s13) hb12
    walk_at "pc"
    refine ⟨t2, bv, bookT (due rs), rfl, ht2, hb13, deep_book hbo, fun H14 s14 => ?_⟩
    have ht14 := Holds.mono (tup_same s14) ht2
    walk_at "pc"
    refine ⟨t2, due rs, rfl, ht14, hbo, fun H15 s15 => ?_⟩
    walk_at "pc"
    rw [decide_eq_true rfl]
    walk_at "pc"
    refine ⟨Nat.zero_le _, fun e1 he1 => ?_⟩
    walk_at "pc"
    refine ⟨Nat.zero_le _, fun e2 he2 => ?_⟩
    have se2 := same_upd (o := .tup []) he2
    have g1 := se2 _ _ (upd_same (H := H15) (a := e1) (o := .tup []))
    have g2 : upd (upd H15 e1 (.tup [])) e2 (.tup []) e2 = some (.tup []) := upd_same
    generalize upd (upd H15 e1 (.tup [])) e2 (.tup []) = H16 at g1 g2
    walk_at "pc"
    refine ⟨show 2 ≤ sizeLine by decide, fun e3 he3 => ?_⟩
    have se3 := same_upd (o := .tup [V.ref e1, .ref e2]) he3
    walk_at "pc"
    have hb0 : Holds (upd H16 e3 (.tup [V.ref e1, .ref e2])) (bookT ([], [])) (.ref e3) := Holds.tup upd_same (HoldsL.one (Holds.tup (se3 _ _ g1) HoldsL.nil) (HoldsL.one (Holds.tup (se3 _ _ g2) HoldsL.nil) HoldsL.nil))
    refine ⟨.ref e3, ([], []), rfl, hb0, ⟨(fun k hk => nomatch hk), Nat.zero_le _, (fun x hx => nomatch hx), Nat.zero_le _⟩, fun H17 s17 => ?_⟩
    have ez : textOf (canon ([], [])) = "" := text_nil
    rw [ez]
    walk_at "pc"
    rw [decide_eq_true rfl]
    exact k _
end
/-! The head by facts. -/
end PC
namespace PC
set_option maxHeartbeats 0
open PySem PySem.Spec PyProof.Rows L2
def d_is_name : He.DefD := ⟨("is_name", none), "is_name", "is_name", defArgs s_is_name, defBody s_is_name, defScope s_is_name, [], []⟩
def d_is_number : He.DefD := ⟨("is_number", none), "is_number", "is_number", defArgs s_is_number, defBody s_is_number, defScope s_is_number, [], []⟩
def d_wanted_by : He.DefD := ⟨("wanted_by", none), "wanted_by", "wanted_by", defArgs s_wanted_by, defBody s_wanted_by, defScope s_wanted_by, [], []⟩
def d_word_of : He.DefD := ⟨("word_of", none), "word_of", "word_of", defArgs s_word_of, defBody s_word_of, defScope s_word_of, [], []⟩
def d_is_mark : He.DefD := ⟨("is_mark", none), "is_mark", "is_mark", defArgs s_is_mark, defBody s_is_mark, defScope s_is_mark, [], []⟩
def d_is_from : He.DefD := ⟨("is_from", none), "is_from", "is_from", defArgs s_is_from, defBody s_is_from, defScope s_is_from, [], []⟩
def d_deed_told : He.DefD := ⟨("deed_told", none), "deed_told", "deed_told", defArgs s_deed_told, defBody s_deed_told, defScope s_deed_told, [], []⟩
def d_price_told : He.DefD := ⟨("price_told", none), "price_told", "price_told", defArgs s_price_told, defBody s_price_told, defScope s_price_told, [], []⟩
def d_shape_word : He.DefD := ⟨("shape_word", none), "shape_word", "shape_word", defArgs s_shape_word, defBody s_shape_word, defScope s_shape_word, [], []⟩
def d_rule_told : He.DefD := ⟨("rule_told", none), "rule_told", "rule_told", defArgs s_rule_told, defBody s_rule_told, defScope s_rule_told, [], []⟩
def d_row_told : He.DefD := ⟨("row_told", none), "row_told", "row_told", defArgs s_row_told, defBody s_row_told, defScope s_row_told, [], []⟩
def d_rows_told : He.DefD := ⟨("rows_told", none), "rows_told", "rows_told", defArgs s_rows_told, defBody s_rows_told, defScope s_rows_told, [], []⟩
def d_read_book : He.DefD := ⟨("read_book", none), "read_book", "read_book", defArgs s_read_book, defBody s_read_book, defScope s_read_book, [], []⟩
def d_joined : He.DefD := ⟨("joined", none), "joined", "joined", defArgs s_joined, defBody s_joined, defScope s_joined, [], []⟩
def d_shown_book : He.DefD := ⟨("shown_book", none), "shown_book", "shown_book", defArgs s_shown_book, defBody s_shown_book, defScope s_shown_book, [], []⟩
def d__law_hand : He.DefD := ⟨("_law_hand", none), "_law_hand", "_law_hand", defArgs s__law_hand, defBody s__law_hand, defScope s__law_hand, [], []⟩
def d__law_draw : He.DefD := ⟨("_law_draw", none), "_law_draw", "_law_draw", defArgs s__law_draw, defBody s__law_draw, defScope s__law_draw, [], []⟩
def d__law_names : He.DefD := ⟨("_law_names", none), "_law_names", "_law_names", defArgs s__law_names, defBody s__law_names, defScope s__law_names, [], []⟩
def d__law_number : He.DefD := ⟨("_law_number", none), "_law_number", "_law_number", defArgs s__law_number, defBody s__law_number, defScope s__law_number, [], []⟩
def d__law_any_word : He.DefD := ⟨("_law_any_word", none), "_law_any_word", "_law_any_word", defArgs s__law_any_word, defBody s__law_any_word, defScope s__law_any_word, [], []⟩
def d__law_any_deed : He.DefD := ⟨("_law_any_deed", none), "_law_any_deed", "_law_any_deed", defArgs s__law_any_deed, defBody s__law_any_deed, defScope s__law_any_deed, [], []⟩
def d__law_row : He.DefD := ⟨("_law_row", none), "_law_row", "_law_row", defArgs s__law_row, defBody s__law_row, defScope s__law_row, [], []⟩
def d__law_rows : He.DefD := ⟨("_law_rows", none), "_law_rows", "_law_rows", defArgs s__law_rows, defBody s__law_rows, defScope s__law_rows, [], []⟩
def d__law_settled : He.DefD := ⟨("_law_settled", none), "_law_settled", "_law_settled", defArgs s__law_settled, defBody s__law_settled, defScope s__law_settled, [], []⟩
def d__law_line : He.DefD := ⟨("_law_line", none), "_law_line", "_law_line", defArgs s__law_line, defBody s__law_line, defScope s__law_line, [], []⟩
def d__law_due : He.DefD := ⟨("_law_due", none), "_law_due", "_law_due", defArgs s__law_due, defBody s__law_due, defScope s__law_due, [], []⟩
def d__law_same : He.DefD := ⟨("_law_same", none), "_law_same", "_law_same", defArgs s__law_same, defBody s__law_same, defScope s__law_same, [], []⟩
def d__law_text : He.DefD := ⟨("_law_text", none), "_law_text", "_law_text", defArgs s__law_text, defBody s__law_text, defScope s__law_text, [], []⟩
def d_law : He.DefD := ⟨("law", none), "law", "law", defArgs s_law, defBody s_law, defScope s_law, [], []⟩
def fns : List He.DefD := [d_is_name, d_is_number, d_wanted_by, d_word_of, d_is_mark, d_is_from, d_deed_told, d_price_told, d_shape_word, d_rule_told, d_row_told, d_rows_told, d_read_book, d_joined, d_shown_book, d__law_hand, d__law_draw, d__law_names, d__law_number, d__law_any_word, d__law_any_deed, d__law_row, d__law_rows, d__law_settled, d__law_line, d__law_due, d__law_same, d__law_text, d_law]
def fas : List He.Fa := [.glo "is_name", .glo "is_number", .glo "wanted_by", .glo "word_of", .glo "is_mark", .glo "is_from", .glo "deed_told", .glo "price_told", .glo "shape_word", .glo "rule_told", .glo "row_told", .glo "rows_told", .glo "read_book", .glo "joined", .glo "shown_book", .glo "_law_hand", .glo "_law_draw", .glo "_law_names", .glo "_law_number", .glo "_law_any_word", .glo "_law_any_deed", .glo "_law_row", .glo "_law_rows", .glo "_law_settled", .glo "_law_line", .glo "_law_due", .glo "_law_same", .glo "_law_text", .glo "law", .free "len", .free "all", .free "int", .free "tuple", .free "enumerate", .free "str", .free "range", .free "sum", .free "list", .free "isinstance", .free "bool", .str "LETTERS" "abcdefghijklmnopqrstuvwxyz", .str "FIGURES" "123456789", .int "DEAREST" 999999, .int "MOST_WORDS" 12, .glo "KEPT", .glo "PAIRS", .glo "BOXES"]
def exB (K : PySem.W.Frag) : Bool := He.tupB K "KEPT" [.str "add", .str "sub", .str "mul", .str "neg", .str "any", .str "var", .str "put", .str "load", .str "out"] && He.tupB K "PAIRS" [.str "add", .str "sub", .str "mul"] && He.tupB K "BOXES" [.str "out", .str "t1", .str "t2", .str "t3"]
abbrev AlM : Type := He.AlD × Bool
def obsM (n : Nat) (g : Addr → Option Obj) : AlM := (He.obsD fas fns (He.frG g (He.asD g n)), exB (He.frG g (He.asD g n)))
def hookM (n : Nat) : PySem.W.Hook where
  α := AlM
  obs := fun s => obsM n s.heap.get?
  val := fun _ => (He.valD fns, true)
  says := fun _ h => ∃ K : PySem.W.Frag, K.In h ∧ He.SaysD fas fns K ∧ exB K = true
  of := fun _ _ e => ⟨_, He.frG_in, (Prod.mk.inj e).1, (Prod.mk.inj e).2⟩
  keeps := fun _ _ _ ⟨K, hK, c⟩ k => ⟨K, PySem.W.Frag.In.keeps hK k, c⟩
abbrev RR : PySem.W.OpenRow := PySem.W.OpenLaw.row PySem.Challenge.rw_pricecover_k33_whole_shown_and_read
abbrev hk : PySem.W.Hook := hookM 4
def ob (s : PySem.W.SharedT) : AlM := obsM 4 (HandSHeadRun.getT s)
theorem ob_eq (s : PySem.W.SharedT) : ob s = hk.obs s.abs := by
  have e : HandSHeadRun.getT s = s.abs.heap.get? := funext (HandSHeadRun.getT_eq s)
  show obsM 4 (HandSHeadRun.getT s) = obsM 4 s.abs.heap.get?
  rw [e]
def looseA : List Str := ["CoverError", "BadRow", "LETTERS", "KEPT", "PAIRS", "is_name", "is_number", "wanted_by", "word_of", "BOXES", "FIGURES", "DEAREST", "MOST_WORDS", "is_mark", "is_from", "deed_told", "price_told", "shape_word", "rule_told", "row_told"]
def looseB : List Str := ["rows_told", "read_book", "joined", "shown_book", "_law_hand", "_law_draw", "_law_names", "_law_number", "_law_any_word", "_law_any_deed", "_law_row", "_law_rows", "_law_settled", "_law_line", "_law_due", "_law_same", "_law_text", "__name__"]
def loose1 : List Str := looseA ++ looseB
theorem run (w : World) : HandSHeadRun.RunEq RR (PySem.W.view RR.prog [41]) hk ob 3000 loose1 w := by
  intro os
  kernel_rfl
/-! The head's facts joined with the walks: the row. -/
section
variable {P : Program} {w : World} {K : PySem.W.Frag} {h : Heap} {mg : Str → Option Value} {base : Heap}
theorem txt_of (KX : K.In h) (G : h.Ns mainGlobals mg) (c : He.SaysD fas fns K) (ex : exB K = true) : Txt K mg := by
  have e2 : (He.tupB K "KEPT" [.str "add", .str "sub", .str "mul", .str "neg", .str "any", .str "var", .str "put", .str "load", .str "out"] && He.tupB K "PAIRS" [.str "add", .str "sub", .str "mul"] && He.tupB K "BOXES" [.str "out", .str "t1", .str "t2", .str "t3"]) = true := ex
  rw [Bool.and_eq_true, Bool.and_eq_true] at e2
  exact {
    len_ := He.free_ok KX G (c.fact 29 (f := .free "len") rfl)
    all_ := He.free_ok KX G (c.fact 30 (f := .free "all") rfl)
    int_ := He.free_ok KX G (c.fact 31 (f := .free "int") rfl)
    tuple_ := He.free_ok KX G (c.fact 32 (f := .free "tuple") rfl)
    enumerate_ := He.free_ok KX G (c.fact 33 (f := .free "enumerate") rfl)
    str_ := He.free_ok KX G (c.fact 34 (f := .free "str") rfl)
    range_ := He.free_ok KX G (c.fact 35 (f := .free "range") rfl)
    sum_ := He.free_ok KX G (c.fact 36 (f := .free "sum") rfl)
    list_ := He.free_ok KX G (c.fact 37 (f := .free "list") rfl)
    isinstance_ := He.free_ok KX G (c.fact 38 (f := .free "isinstance") rfl)
    bool_ := He.free_ok KX G (c.fact 39 (f := .free "bool") rfl)
    letters := He.str_ok KX G (c.fact 40 (f := .str "LETTERS" "abcdefghijklmnopqrstuvwxyz") rfl)
    figures := He.str_ok KX G (c.fact 41 (f := .str "FIGURES" "123456789") rfl)
    dearest := He.int_ok KX G (c.fact 42 (f := .int "DEAREST" 999999) rfl)
    most := He.int_ok KX G (c.fact 43 (f := .int "MOST_WORDS" 12) rfl)
    kept := He.glo_ok KX G (c.fact 44 (f := .glo "KEPT") rfl)
    pairs := He.glo_ok KX G (c.fact 45 (f := .glo "PAIRS") rfl)
    boxes := He.glo_ok KX G (c.fact 46 (f := .glo "BOXES") rfl)
    keptT := fun H => He.tupB_ok e2.1.1 H
    pairsT := fun H => He.tupB_ok e2.1.2 H
    boxesT := fun H => He.tupB_ok e2.2 H }
theorem law_ok (KX : K.In h) (G : h.Ns mainGlobals mg) (c : He.SaysD fas fns K) (ex : exB K = true) {fd : FuncData} (F : FnP K "law" s_law (He.ga K "law") fd) : FnOk P w K mg base CX0 10 (He.ga K "law") fd ["script"] (sp_law K) := by
  have T : Txt K mg := txt_of KX G c ex
  obtain ⟨fd_is_name, F_is_name⟩ := c.def_ 0 (d := d_is_name) rfl
  have C_is_name : Callee P w K mg base "is_name" 1 ["word"] sp_is_name := ⟨_, fd_is_name, ok_is_name T  F_is_name, He.glo_ok KX G (c.fact 0 (f := .glo "is_name") rfl), F_is_name.kp, F_is_name.bindsN fun _ _ _ _ _ _ us hl => match us, hl with | [_], _ => rfl⟩
  obtain ⟨fd_is_number, F_is_number⟩ := c.def_ 1 (d := d_is_number) rfl
  have C_is_number : Callee P w K mg base "is_number" 1 ["word"] sp_is_number := ⟨_, fd_is_number, ok_is_number T  F_is_number, He.glo_ok KX G (c.fact 1 (f := .glo "is_number") rfl), F_is_number.kp, F_is_number.bindsN fun _ _ _ _ _ _ us hl => match us, hl with | [_], _ => rfl⟩
  obtain ⟨fd_wanted_by, F_wanted_by⟩ := c.def_ 2 (d := d_wanted_by) rfl
  have C_wanted_by : Callee P w K mg base "wanted_by" 1 ["word"] sp_wanted_by := ⟨_, fd_wanted_by, ok_wanted_by T  F_wanted_by, He.glo_ok KX G (c.fact 2 (f := .glo "wanted_by") rfl), F_wanted_by.kp, F_wanted_by.bindsN fun _ _ _ _ _ _ us hl => match us, hl with | [_], _ => rfl⟩
  obtain ⟨fd_word_of, F_word_of⟩ := c.def_ 3 (d := d_word_of) rfl
  have C_word_of : Callee P w K mg base "word_of" 2 ["text"] sp_word_of := ⟨_, fd_word_of, ok_word_of T C_is_number C_is_name C_wanted_by F_word_of, He.glo_ok KX G (c.fact 3 (f := .glo "word_of") rfl), F_word_of.kp, F_word_of.bindsN fun _ _ _ _ _ _ us hl => match us, hl with | [_], _ => rfl⟩
  obtain ⟨fd_is_mark, F_is_mark⟩ := c.def_ 4 (d := d_is_mark) rfl
  have C_is_mark : Callee P w K mg base "is_mark" 1 ["word", "sign"] sp_is_mark := ⟨_, fd_is_mark, ok_is_mark T  F_is_mark, He.glo_ok KX G (c.fact 4 (f := .glo "is_mark") rfl), F_is_mark.kp, F_is_mark.bindsN fun _ _ _ _ _ _ us hl => match us, hl with | [_, _], _ => rfl⟩
  obtain ⟨fd_is_from, F_is_from⟩ := c.def_ 5 (d := d_is_from) rfl
  have C_is_from : Callee P w K mg base "is_from" 2 ["word"] sp_is_from := ⟨_, fd_is_from, ok_is_from T C_is_mark F_is_from, He.glo_ok KX G (c.fact 5 (f := .glo "is_from") rfl), F_is_from.kp, F_is_from.bindsN fun _ _ _ _ _ _ us hl => match us, hl with | [_], _ => rfl⟩
  obtain ⟨fd_deed_told, F_deed_told⟩ := c.def_ 6 (d := d_deed_told) rfl
  have C_deed_told : Callee P w K mg base "deed_told" 3 ["words"] (sp_deed_told K) := ⟨_, fd_deed_told, ok_deed_told T C_is_number C_is_mark C_is_from F_deed_told, He.glo_ok KX G (c.fact 6 (f := .glo "deed_told") rfl), F_deed_told.kp, F_deed_told.bindsN fun _ _ _ _ _ _ us hl => match us, hl with | [_], _ => rfl⟩
  obtain ⟨fd_price_told, F_price_told⟩ := c.def_ 7 (d := d_price_told) rfl
  have C_price_told : Callee P w K mg base "price_told" 2 ["word"] sp_price_told := ⟨_, fd_price_told, ok_price_told T C_is_number F_price_told, He.glo_ok KX G (c.fact 7 (f := .glo "price_told") rfl), F_price_told.kp, F_price_told.bindsN fun _ _ _ _ _ _ us hl => match us, hl with | [_], _ => rfl⟩
  obtain ⟨fd_shape_word, F_shape_word⟩ := c.def_ 8 (d := d_shape_word) rfl
  have C_shape_word : Callee P w K mg base "shape_word" 3 ["text"] sp_shape_word := ⟨_, fd_shape_word, ok_shape_word T C_word_of F_shape_word, He.glo_ok KX G (c.fact 8 (f := .glo "shape_word") rfl), F_shape_word.kp, F_shape_word.bindsN fun _ _ _ _ _ _ us hl => match us, hl with | [_], _ => rfl⟩
  obtain ⟨fd_rule_told, F_rule_told⟩ := c.def_ 9 (d := d_rule_told) rfl
  have C_rule_told : Callee P w K mg base "rule_told" 4 ["words"] (sp_rule_told K) := ⟨_, fd_rule_told, ok_rule_told T C_price_told C_shape_word C_is_name F_rule_told, He.glo_ok KX G (c.fact 9 (f := .glo "rule_told") rfl), F_rule_told.kp, F_rule_told.bindsN fun _ _ _ _ _ _ us hl => match us, hl with | [_], _ => rfl⟩
  obtain ⟨fd_row_told, F_row_told⟩ := c.def_ 10 (d := d_row_told) rfl
  have C_row_told : Callee P w K mg base "row_told" 5 ["words"] (sp_row_told K) := ⟨_, fd_row_told, ok_row_told T C_is_name C_rule_told C_deed_told F_row_told, He.glo_ok KX G (c.fact 10 (f := .glo "row_told") rfl), F_row_told.kp, F_row_told.bindsN fun _ _ _ _ _ _ us hl => match us, hl with | [_], _ => rfl⟩
  obtain ⟨fd_rows_told, F_rows_told⟩ := c.def_ 11 (d := d_rows_told) rfl
  have C_rows_told : Callee P w K mg base "rows_told" 6 ["text"] (sp_rows_told K) := ⟨_, fd_rows_told, ok_rows_told T C_row_told F_rows_told, He.glo_ok KX G (c.fact 11 (f := .glo "rows_told") rfl), F_rows_told.kp, F_rows_told.bindsN fun _ _ _ _ _ _ us hl => match us, hl with | [_], _ => rfl⟩
  obtain ⟨fd_read_book, F_read_book⟩ := c.def_ 12 (d := d_read_book) rfl
  have C_read_book : Callee P w K mg base "read_book" 7 ["text"] (sp_read_book K) := ⟨_, fd_read_book, ok_read_book T C_rows_told F_read_book, He.glo_ok KX G (c.fact 12 (f := .glo "read_book") rfl), F_read_book.kp, F_read_book.bindsN fun _ _ _ _ _ _ us hl => match us, hl with | [_], _ => rfl⟩
  obtain ⟨fd_joined, F_joined⟩ := c.def_ 13 (d := d_joined) rfl
  have C_joined : Callee P w K mg base "joined" 1 ["words"] (sp_joined K) := ⟨_, fd_joined, ok_joined T  F_joined, He.glo_ok KX G (c.fact 13 (f := .glo "joined") rfl), F_joined.kp, F_joined.bindsN fun _ _ _ _ _ _ us hl => match us, hl with | [_], _ => rfl⟩
  obtain ⟨fd_shown_book, F_shown_book⟩ := c.def_ 14 (d := d_shown_book) rfl
  have C_shown_book : Callee P w K mg base "shown_book" 2 ["book"] (sp_shown_book K) := ⟨_, fd_shown_book, ok_shown_book T C_joined F_shown_book, He.glo_ok KX G (c.fact 14 (f := .glo "shown_book") rfl), F_shown_book.kp, F_shown_book.bindsN fun _ _ _ _ _ _ us hl => match us, hl with | [_], _ => rfl⟩
  obtain ⟨fd_law_hand, F_law_hand⟩ := c.def_ 15 (d := d__law_hand) rfl
  have C_law_hand : Callee P w K mg base "_law_hand" 1 ["cell", "k"] sp_law_hand := ⟨_, fd_law_hand, ok_law_hand T  F_law_hand, He.glo_ok KX G (c.fact 15 (f := .glo "_law_hand") rfl), F_law_hand.kp, F_law_hand.bindsN fun _ _ _ _ _ _ us hl => match us, hl with | [_, _], _ => rfl⟩
  obtain ⟨fd_law_draw, F_law_draw⟩ := c.def_ 16 (d := d__law_draw) rfl
  have C_law_draw : Callee P w K mg base "_law_draw" 1 ["hand", "limit"] sp_law_draw := ⟨_, fd_law_draw, ok_law_draw T  F_law_draw, He.glo_ok KX G (c.fact 16 (f := .glo "_law_draw") rfl), F_law_draw.kp, F_law_draw.bindsN fun _ _ _ _ _ _ us hl => match us, hl with | [_, _], _ => rfl⟩
  obtain ⟨fd_law_names, F_law_names⟩ := c.def_ 17 (d := d__law_names) rfl
  have C_law_names : Callee P w K mg base "_law_names" 2 ["hand", "size"] (sp_law_names K) := ⟨_, fd_law_names, ok_law_names T C_law_draw F_law_names, He.glo_ok KX G (c.fact 17 (f := .glo "_law_names") rfl), F_law_names.kp, F_law_names.bindsN fun _ _ _ _ _ _ us hl => match us, hl with | [_, _], _ => rfl⟩
  obtain ⟨fd_law_number, F_law_number⟩ := c.def_ 18 (d := d__law_number) rfl
  have C_law_number : Callee P w K mg base "_law_number" 2 ["hand"] sp_law_number := ⟨_, fd_law_number, ok_law_number T C_law_draw F_law_number, He.glo_ok KX G (c.fact 18 (f := .glo "_law_number") rfl), F_law_number.kp, F_law_number.bindsN fun _ _ _ _ _ _ us hl => match us, hl with | [_], _ => rfl⟩
  obtain ⟨fd_law_any_word, F_law_any_word⟩ := c.def_ 19 (d := d__law_any_word) rfl
  have C_law_any_word : Callee P w K mg base "_law_any_word" 3 ["hand", "names"] (sp_law_any_word K) := ⟨_, fd_law_any_word, ok_law_any_word T C_law_draw C_law_number F_law_any_word, He.glo_ok KX G (c.fact 19 (f := .glo "_law_any_word") rfl), F_law_any_word.kp, F_law_any_word.bindsN fun _ _ _ _ _ _ us hl => match us, hl with | [_, _], _ => rfl⟩
  obtain ⟨fd_law_any_deed, F_law_any_deed⟩ := c.def_ 20 (d := d__law_any_deed) rfl
  have C_law_any_deed : Callee P w K mg base "_law_any_deed" 3 ["hand"] sp_law_any_deed := ⟨_, fd_law_any_deed, ok_law_any_deed T C_law_draw C_law_number F_law_any_deed, He.glo_ok KX G (c.fact 20 (f := .glo "_law_any_deed") rfl), F_law_any_deed.kp, F_law_any_deed.bindsN fun _ _ _ _ _ _ us hl => match us, hl with | [_], _ => rfl⟩
  obtain ⟨fd_law_row, F_law_row⟩ := c.def_ 21 (d := d__law_row) rfl
  have C_law_row : Callee P w K mg base "_law_row" 4 ["hand", "names"] (sp_law_row K) := ⟨_, fd_law_row, ok_law_row T C_law_draw C_law_any_deed C_law_any_word F_law_row, He.glo_ok KX G (c.fact 21 (f := .glo "_law_row") rfl), F_law_row.kp, F_law_row.bindsN fun _ _ _ _ _ _ us hl => match us, hl with | [_, _], _ => rfl⟩
  obtain ⟨fd_law_settled, F_law_settled⟩ := c.def_ 23 (d := d__law_settled) rfl
  have C_law_settled : Callee P w K mg base "_law_settled" 1 ["rows"] (sp_law_settled K) := ⟨_, fd_law_settled, ok_law_settled T  F_law_settled, He.glo_ok KX G (c.fact 23 (f := .glo "_law_settled") rfl), F_law_settled.kp, F_law_settled.bindsN fun _ _ _ _ _ _ us hl => match us, hl with | [_], _ => rfl⟩
  obtain ⟨fd_law_rows, F_law_rows⟩ := c.def_ 22 (d := d__law_rows) rfl
  have C_law_rows : Callee P w K mg base "_law_rows" 5 ["script", "names"] (sp_law_rows K) := ⟨_, fd_law_rows, ok_law_rows T C_law_settled C_law_row C_law_hand F_law_rows, He.glo_ok KX G (c.fact 22 (f := .glo "_law_rows") rfl), F_law_rows.kp, F_law_rows.bindsN fun _ _ _ _ _ _ us hl => match us, hl with | [_, _], _ => rfl⟩
  obtain ⟨fd_law_line, F_law_line⟩ := c.def_ 24 (d := d__law_line) rfl
  have C_law_line : Callee P w K mg base "_law_line" 1 ["row"] sp_law_line := ⟨_, fd_law_line, ok_law_line T  F_law_line, He.glo_ok KX G (c.fact 24 (f := .glo "_law_line") rfl), F_law_line.kp, F_law_line.bindsN fun _ _ _ _ _ _ us hl => match us, hl with | [_], _ => rfl⟩
  obtain ⟨fd_law_due, F_law_due⟩ := c.def_ 25 (d := d__law_due) rfl
  have C_law_due : Callee P w K mg base "_law_due" 1 ["rows"] (sp_law_due K) := ⟨_, fd_law_due, ok_law_due T  F_law_due, He.glo_ok KX G (c.fact 25 (f := .glo "_law_due") rfl), F_law_due.kp, F_law_due.bindsN fun _ _ _ _ _ _ us hl => match us, hl with | [_], _ => rfl⟩
  obtain ⟨fd_law_same, F_law_same⟩ := c.def_ 26 (d := d__law_same) rfl
  have B_law_same : Binds K fd_law_same ["found", "due"] [] := F_law_same.bindsN fun _ _ _ _ _ _ us hl => match us, hl with | [_, _], _ => rfl
  have M_law_same : mg "_law_same" = some (.ref (He.ga K "_law_same")) := He.glo_ok KX G (c.fact 26 (f := .glo "_law_same") rfl)
  have S0 : Callee P w K mg base "_law_same" 1 ["found", "due"] (sp_law_same 0) := ⟨_, fd_law_same, ok_law_same0 F_law_same, M_law_same, F_law_same.kp, B_law_same⟩
  have S1 : Callee P w K mg base "_law_same" 2 ["found", "due"] (sp_law_same 1) := ⟨_, fd_law_same, ok_law_sameS T 0 (by decide) S0 F_law_same, M_law_same, F_law_same.kp, B_law_same⟩
  have S2 : Callee P w K mg base "_law_same" 3 ["found", "due"] (sp_law_same 2) := ⟨_, fd_law_same, ok_law_sameS T 1 (by decide) S1 F_law_same, M_law_same, F_law_same.kp, B_law_same⟩
  have S3 : Callee P w K mg base "_law_same" 4 ["found", "due"] (sp_law_same 3) := ⟨_, fd_law_same, ok_law_sameS T 2 (by decide) S2 F_law_same, M_law_same, F_law_same.kp, B_law_same⟩
  have S4 : Callee P w K mg base "_law_same" 5 ["found", "due"] (sp_law_same 4) := ⟨_, fd_law_same, ok_law_sameS T 3 (by decide) S3 F_law_same, M_law_same, F_law_same.kp, B_law_same⟩
  have S5 : Callee P w K mg base "_law_same" 6 ["found", "due"] (sp_law_same 5) := ⟨_, fd_law_same, ok_law_sameS T 4 (by decide) S4 F_law_same, M_law_same, F_law_same.kp, B_law_same⟩
  have C_law_same : Callee P w K mg base "_law_same" 7 ["found", "due"] (sp_law_same 6) := ⟨_, fd_law_same, ok_law_sameS T 5 (by decide) S5 F_law_same, M_law_same, F_law_same.kp, B_law_same⟩
  obtain ⟨fd_law_text, F_law_text⟩ := c.def_ 27 (d := d__law_text) rfl
  have C_law_text : Callee P w K mg base "_law_text" 2 ["book"] (sp_law_text K) := ⟨_, fd_law_text, ok_law_text T C_law_line F_law_text, He.glo_ok KX G (c.fact 27 (f := .glo "_law_text") rfl), F_law_text.kp, F_law_text.bindsN fun _ _ _ _ _ _ us hl => match us, hl with | [_], _ => rfl⟩
  exact ok_law T C_law_rows C_law_due C_law_text C_shown_book C_read_book C_law_names C_law_same C_law_hand C_law_line F
theorem law_facts {f : Addr} (KX : K.In h) (G : h.Ns mainGlobals mg) (hf : mg ("law" : Str) = some (.ref f)) (c : He.SaysD fas fns K) (ex : exB K = true) :
    ∃ fd : FuncData, (∀ (s : Shared) (v : Value), BindsTo s fd ⟨[v], []⟩ [("script", v)]) ∧ ∀ b : Heap, FnOk P w K mg b CX0 10 f fd ["script"] (sp_law K) := by
  obtain ⟨fd, F⟩ := c.def_ 28 (d := d_law) rfl
  have e := hf.symm.trans (He.glo_ok KX G (c.fact 28 (f := .glo "law") rfl))
  cases e
  have b := FunD.bindsA (ps := ["script"]) F fun _ _ _ _ _ _ us hl => match us, hl with | [_], _ => rfl
  exact ⟨fd, fun s v => b s [v] rfl, fun _ => law_ok KX G c ex F⟩
end
end PC
open PySem PySem.W PySem.Calls PyProof.Rows
theorem PySem.Challenge.cw_pricecover_k33_whole_shown_and_read_holds : PySem.Challenge.rw_pricecover_k33_whole_shown_and_read.Holds := by
  w_on; o_law
  refine HandSHeadRun.head_any (r := PC.RR) (q := view PC.RR.prog [41]) (H := PC.hk) (ob := PC.ob) (M := 3000) (loose := PC.loose1) (d := HandSHeadRun.topDef PC.RR.prog 41) (kwd := []) PC.ob_eq
    (by kernel_rfl) (fun s => by kernel_rfl) PC.run (by kernel_rfl) (by kernel_rfl) (by kernel_rfl) (by rfl) (by first | assumption | decide +kernel) (by decide +kernel) ⟨rfl, rfl, rfl, rfl, rfl, by decide +kernel⟩ ?hw ?hc
  case hw => w_witness2
  case hc =>
    refine L2.walk_ofE (l := PySem.Challenge.rw_pricecover_k33_whole_shown_and_read) (n := 63) (k := 10) (x := "script") (CX := L2.CX0) rfl (by decide) (by kernel_rfl) ⟨rfl, by decide, by decide⟩ ?F (fun _ _ _ _ z => z)
    intro w mg fa h Y G hmg0
    obtain ⟨K, KX, c, ex⟩ := Y
    have hmg : mg ("law" : PySem.Str) = some (.ref fa) := by
      have e : (HandSHeadRun.topDef PC.RR.prog 41).name = ("law" : PySem.Str) := by kernel_rfl
      rw [← e]
      exact hmg0
    obtain ⟨fd, hb, hF⟩ := PC.law_facts (P := PySem.Challenge.rw_pricecover_k33_whole_shown_and_read.prog) (w := w) KX G hmg c ex
    exact ⟨K, fd, PC.sp_law K, KX, hb, fun H a ns hl _ hS => ⟨a, ns, rfl, hS, hl, fun _ => rfl⟩, fun base _ _ => hF base⟩
