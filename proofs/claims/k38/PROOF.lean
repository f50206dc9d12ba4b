import PyProof.Rows.All
import Wide.All
import OpenK.AllK
import Wide.FinOn
import HandS.ForMost
import HandS.ForExc
import HandS.Walk
import HandS.IsInst
import HandS.SortInts
import HandS.SortRule
import HandS.Wide
import HandS.WideBits
import HandS.Deep
import HandS.Style
import HandS.More
import HandS.Strs
import HandS.Conv
import HandS.Text
import HandS.List
import HandS.ExcOwn
import HandS.ExcIs
import HandS.HotCalls
import HandS.More
import HandS.DictTup
import KE.KDictCopyH
import KE.KDictDisplayH
import KE.KDictOf
import KE.KDictPairs
import KE.DataCmp
import KE.SortData
import HandS.Deep
import KE.GoesRaise
import HandS.ExcCtx
import KE.GoesRaise
import PySem.Challenge.RW_restsums_k38_texts_of_no_row
set_option Elab.async false
set_option linter.all false
set_option maxRecDepth 100000
set_option maxHeartbeats 2000000
/-! RL: readings by data. A frozen part G of the heap H; a value read as a datum in G; rules that compose as terms. -/
namespace RL
open PySem PySem.Spec PyProof.Rows L2
abbrev St := L2.St

/-! ### worlds -/
structure Ext (G H G' H' : Hp) : Prop where
  h : Same H H'
  g : Same G G'
  s : Same G' H'
  n : ∀ b o, G' b = some o → G b = some o ∨ H b = none ∨ ∃ xs, o = .tup xs
section
variable {G H G1 H1 G2 H2 : Hp} {p : Addr} {o : HO}
theorem Ext.refl (s : Same G H) : Ext G H G H := ⟨Same.refl _, Same.refl _, s, fun _ _ e => .inl e⟩
theorem Ext.trans (a : Ext G H G1 H1) (b : Ext G1 H1 G2 H2) : Ext G H G2 H2 :=
  ⟨a.h.trans b.h, a.g.trans b.g, b.s, fun c o e => by
    rcases b.n c o e with e1 | e1 | e1
    · exact a.n c o e1
    · exact .inr (.inl (a.h.free e1))
    · exact .inr (.inr e1)⟩
theorem same_new (h : H p = none) : Same H (upd H p o) := fun b x e => by
  rw [upd_ne (ne_of_none e h)]
  exact e
theorem Ext.new (a : Ext G H G1 H1) (hp : H1 p = none) : Ext G H (upd G1 p o) (upd H1 p o) := by
  refine ⟨a.h.trans (same_new hp), a.g.trans (same_new (a.s.free hp)), fun b x e => ?_, fun b x e => ?_⟩
  · by_cases hb : b = p
    · subst hb
      rw [upd_same] at e ⊢
      exact e
    · rw [upd_ne hb] at e ⊢
      exact a.s _ _ e
  · by_cases hb : b = p
    · subst hb
      exact .inr (.inl (a.h.free hp))
    · rw [upd_ne hb] at e
      exact a.n _ _ e
theorem Ext.newH (a : Ext G H G1 H1) (hp : H1 p = none) : Ext G H G1 (upd H1 p o) :=
  ⟨a.h.trans (same_new hp), a.g, a.s.trans (same_new hp), a.n⟩
theorem Ext.wr (a : Ext G H G1 H1) (h0 : H p = none) (g : G1 p = none) : Ext G H G1 (upd H1 p o) := by
  refine ⟨fun b x e => ?_, a.g, fun b x e => ?_, a.n⟩
  · rw [upd_ne (ne_of_none e h0)]
    exact a.h _ _ e
  · rw [upd_ne (ne_of_none e g)]
    exact a.s _ _ e
theorem Ext.frz (a : Ext G H G1 H1) (h0 : H p = none) (e : H1 p = some o) : Ext G H (upd G1 p o) H1 := by
  refine ⟨a.h, fun b x q => ?_, fun b x q => ?_, fun b x q => ?_⟩
  · by_cases hb : b = p
    · subst hb
      rw [upd_same, ← e]
      exact a.s _ _ (a.g _ _ q)
    · rw [upd_ne hb]
      exact a.g _ _ q
  · by_cases hb : b = p
    · subst hb
      rw [upd_same] at q
      rw [e, q]
    · rw [upd_ne hb] at q
      exact a.s _ _ q
  · by_cases hb : b = p
    · subst hb
      exact .inr (.inl h0)
    · rw [upd_ne hb] at q
      exact a.n _ _ q
/-- a tuple that stands in the heap may be told of at once -/
theorem Ext.tup (a : Ext G H G1 H1) {xs : List V} (e : H1 p = some (.tup xs)) : ∃ G2, Ext G H G2 H1 ∧ Same G1 G2 ∧ G2 p = some (.tup xs) := by
  refine ⟨upd G1 p (.tup xs), ⟨a.h, fun b x q => ?_, fun b x q => ?_, fun b x q => ?_⟩, fun b x q => ?_, upd_same⟩
  · by_cases hb : b = p
    · subst hb
      rw [upd_same, ← e]
      exact a.s _ _ (a.g _ _ q)
    · rw [upd_ne hb]
      exact a.g _ _ q
  · by_cases hb : b = p
    · subst hb
      rw [upd_same] at q
      rw [e, q]
    · rw [upd_ne hb] at q
      exact a.s _ _ q
  · by_cases hb : b = p
    · subst hb
      rw [upd_same] at q
      exact .inr (.inr ⟨xs, (Option.some.inj q).symm⟩)
    · rw [upd_ne hb] at q
      exact a.n _ _ q
  · by_cases hb : b = p
    · subst hb
      rw [upd_same, ← e]
      exact a.s _ _ q
    · rw [upd_ne hb]
      exact q
/-- what is not frozen stays so -/
theorem Ext.off (a : Ext G H G1 H1) (g : G p = none) (e : H p = some o) (ht : ∀ xs, o ≠ .tup xs := by intro _ z; cases z) : G1 p = none := by
  cases q : G1 p with
  | none => rfl
  | some x =>
    rcases a.n _ _ q with z | z | ⟨xs, z⟩
    · rw [g] at z
      cases z
    · rw [e] at z
      cases z
    · have z1 := a.h _ _ e
      have z2 := a.s _ _ q
      rw [z1] at z2
      exact absurd ((Option.some.inj z2).trans z) (ht xs)
end

/-- what is tracked has its size in the line -/
def szO : HO → Nat
  | .lst xs => xs.length
  | .tup xs => xs.length
  | .dK kvs => kvs.length
  | .dT kvs => kvs.length
  | .frz _ u => szO u
  | _ => 0
def HLen (H : Hp) : Prop := ∀ a o, H a = some o → szO o ≤ sizeLine
theorem hlen_o {P : Program} {w : World} {H : Hp} {h : Heap} {a : Addr} (o : HO) (k : ObjOk P w H h a o) : szO o ≤ sizeLine := by
  induction o with
  | lst xs => exact k.1
  | tup xs => exact k.1
  | dK kvs => exact k.1
  | dT kvs => exact k.1
  | frz ob u ih => exact ih k.2
  | _ => exact Nat.zero_le _
theorem hlen {X : Cx} {pins : List (Addr × Obj)} {σ : St} {H : Hp} {s : Shared} (I : Inv X pins σ H s) : HLen H := fun a o e => hlen_o o (I.hok a o e)
theorem sql_len {K : PySem.W.Frag} {H : Hp} {a : Addr} {us : List V} (l : HLen H) (h : SqL K H a us) : us.length ≤ sizeLine := by
  rcases h with (h | ⟨o, h⟩) | ⟨o, its, n, _, _, _, _, hz, r⟩
  · exact l _ _ h
  · exact l _ _ h
  · have e := r.length
    simp only [Array.length_toList] at e
    omega

/-! ### values as data -/
class Rep (α : Type) where
  rep : PySem.W.Frag → Hp → V → α → Prop
  up : ∀ {K : PySem.W.Frag} {G G' : Hp} {v : V} {x : α}, Same G G' → rep K G v x → rep K G' v x
open Rep (rep up)
instance instRepInt : Rep Int := ⟨fun _ _ v i => v = .int i, fun _ h => h⟩
instance instRepBool : Rep Bool := ⟨fun _ _ v i => v = .bl i, fun _ h => h⟩
instance instRepStr : Rep Str := ⟨fun _ _ v i => v = .str i, fun _ h => h⟩
instance : Rep Unit := ⟨fun _ _ v _ => v = .non, fun _ h => h⟩
/-- a value of the layer, as it is (built-in classes, for one) -/
instance : Rep V := ⟨fun _ _ v i => v = i, fun _ h => h⟩
theorem pair_up {α : Type} [Rep α] {K : PySem.W.Frag} {G G' : Hp} (s : Same G G') : ∀ {vs : List V} {xs : List α}, Paired (rep K G) vs xs → Paired (rep K G') vs xs
  | _, _, .nil => .nil
  | _, _, .cons h t => .cons (up s h) (pair_up s t)
instance instRepOption {α : Type} [Rep α] : Rep (Option α) where
  rep K G v o := match o with
    | none => v = .non
    | some x => rep K G v x
  up {K G G' v x} s h := match x, h with
    | none, h => h
    | some _, h => up (α := α) s h
instance instRepList {α : Type} [Rep α] : Rep (List α) where
  rep K G v xs := ∃ a vs, v = .ref a ∧ G a = some (.lst vs) ∧ Paired (rep K G) vs xs
  up s h := let ⟨a, vs, e, g, p⟩ := h; ⟨a, vs, e, s _ _ g, pair_up s p⟩
instance instRepProd {α β : Type} [Rep α] [Rep β] : Rep (α × β) where
  rep K G v x := ∃ a u w, v = .ref a ∧ G a = some (.tup [u, w]) ∧ rep K G u x.1 ∧ rep K G w x.2
  up s h := let ⟨a, u, w, e, g, p, q⟩ := h; ⟨a, u, w, e, s _ _ g, up s p, up s q⟩
/-- the script: a list that is read alone -/
structure Scr where
  ns : List Int
instance : Rep Scr where
  rep K G v x := ∃ a, v = .ref a ∧ SqL K G a (x.ns.map V.int)
  up s h := let ⟨a, e, q⟩ := h; ⟨a, e, s.seq q⟩

theorem paired_len {α β : Type} {F : α → β → Prop} : ∀ {xs : List α} {ys : List β}, Paired F xs ys → xs.length = ys.length
  | _, _, .nil => rfl
  | _, _, .cons _ t => by rw [List.length_cons, List.length_cons, paired_len t]
theorem paired_get {α β : Type} {F : α → β → Prop} : ∀ {xs : List α} {ys : List β} {i : Nat} {y : β}, Paired F xs ys → ys[i]? = some y → ∃ x, xs[i]? = some x ∧ F x y
  | _, _, _, _, .nil, e => by simp at e
  | _, _, 0, _, .cons r _, e => by simp at e; subst e; exact ⟨_, rfl, r⟩
  | _, _, i + 1, y, .cons _ t, e => by
    obtain ⟨u, h1, h2⟩ := paired_get (i := i) (y := y) t (by simpa using e)
    exact ⟨u, by simpa using h1, h2⟩
theorem paired_get' {α β : Type} {F : α → β → Prop} : ∀ {xs : List α} {ys : List β} {i : Nat} {x : α}, Paired F xs ys → xs[i]? = some x → ∃ y, ys[i]? = some y ∧ F x y
  | _, _, _, _, .nil, e => by simp at e
  | _, _, 0, _, .cons r _, e => by simp at e; subst e; exact ⟨_, rfl, r⟩
  | _, _, i + 1, x, .cons _ t, e => by
    obtain ⟨u, h1, h2⟩ := paired_get' (i := i) (x := x) t (by simpa using e)
    exact ⟨u, by simpa using h1, h2⟩
theorem paired_app {α β : Type} {F : α → β → Prop} : ∀ {xs us : List α} {ys ws : List β}, Paired F xs ys → Paired F us ws → Paired F (xs ++ us) (ys ++ ws)
  | _, _, _, _, .nil, s => s
  | _, _, _, _, .cons r t, s => .cons r (paired_app t s)
theorem paired_take {α β : Type} {F : α → β → Prop} : ∀ (n : Nat) {xs : List α} {ys : List β}, Paired F xs ys → Paired F (xs.take n) (ys.take n)
  | 0, _, _, _ => .nil
  | _ + 1, _, _, .nil => .nil
  | n + 1, _, _, .cons r t => .cons r (paired_take n t)
theorem paired_drop {α β : Type} {F : α → β → Prop} : ∀ (n : Nat) {xs : List α} {ys : List β}, Paired F xs ys → Paired F (xs.drop n) (ys.drop n)
  | 0, _, _, h => h
  | _ + 1, _, _, .nil => .nil
  | n + 1, _, _, .cons _ t => paired_drop n t
theorem paired_ints {K : PySem.W.Frag} {G : Hp} : ∀ {vs : List V} {ns : List Int}, Paired (rep K G) vs ns → vs = ns.map V.int
  | _, _, .nil => rfl
  | _, _, .cons (h : _ = _) t => by rw [h, paired_ints t]; rfl
theorem ints_paired {K : PySem.W.Frag} {G : Hp} : ∀ (ns : List Int), Paired (rep K G) (ns.map V.int) ns
  | [] => .nil
  | _ :: r => .cons rfl (ints_paired r)

/-! ### the judgements, by what is to hold of the value -/
/-- of a value: in the frozen part, in the heap -/
abbrev PV := Hp → Hp → V → Prop
def Mono (P : PV) : Prop := ∀ G H G1 H1 v, Ext G H G1 H1 → P G H v → P G1 H1 v
/-- it is x -/
def Is {α : Type} [Rep α] (K : PySem.W.Frag) (x : α) : PV := fun G _ v => rep K G v x
/-- a list that may be read now -/
def LstAt {α : Type} [Rep α] (K : PySem.W.Frag) (xs : List α) : PV := fun G H v => ∃ a vs, v = .ref a ∧ SqL K H a vs ∧ Paired (rep K G) vs xs
theorem mono_is {α : Type} [Rep α] {K : PySem.W.Frag} {x : α} : Mono (Is K x) := fun _ _ _ _ _ x h => up x.g h
theorem mono_lst {α : Type} [Rep α] {K : PySem.W.Frag} {xs : List α} : Mono (LstAt K xs) := fun _ _ _ _ _ x ⟨a, vs, e, g, p⟩ => ⟨a, vs, e, x.h.seq g, pair_up x.g p⟩

section
variable {X : Cx}
structure tE (X : Cx) (e : Expr) (σ : St) (H : Hp) (Q : VK) : Prop where
  run : ∀ (pins : List (Addr × Obj)) (s : Shared), Inv X pins σ H s → wpAny (model X.prog X.w) X.A (eval e X.env) (EP X pins σ Q) X.xe s
structure tT (X : Cx) (e : Expr) (σ : St) (H : Hp) (Q : Bool → Hp → Prop) : Prop where
  run : ∀ (pins : List (Addr × Obj)) (s : Shared), Inv X pins σ H s → wpAny (model X.prog X.w) X.A (isTrue e X.env (eval e X.env)) (TP X pins σ Q) X.xe s
structure tW (X : Cx) (e : Expr) (σ : St) (H : Hp) (Q : Bool → Hp → Prop) : Prop where
  run : ∀ (whole : Sem Value) (pins : List (Addr × Obj)) (s : Shared), Inv X pins σ H s → wpAny (model X.prog X.w) X.A (isTrue e X.env whole) (TP X pins σ Q) X.xe s
structure tA (X : Cx) (es : List Expr) (σ : St) (H : Hp) (Q : List V → Hp → Prop) : Prop where
  run : ∀ (pos : Pos) (pins : List (Addr × Obj)) (s : Shared), Inv X pins σ H s → wpAny (model X.prog X.w) X.A (spliced (backTo pos (starEach es X.env))) (AP X pins σ Q) X.xe s
structure tS (X : Cx) (st : Stmt) (D : Ends) (σ : St) (H : Hp) : Prop where
  run : ∀ (pins : List (Addr × Obj)) (s : Shared), Inv X pins σ H s → wpAny (model X.prog X.w) X.A (exec st X.env) (SP X pins D) X.xe s
structure tSs (X : Cx) (st : List Stmt) (D : Ends) (σ : St) (H : Hp) : Prop where
  run : ∀ (pins : List (Addr × Obj)) (s : Shared), Inv X pins σ H s → wpAny (model X.prog X.w) X.A (execs st X.env) (SP X pins D) X.xe s
theorem pe_sem {e : Expr} : PE X e (tE X e) := ⟨fun pins s _ _ _ I h => h.run pins s I⟩
theorem pt_sem {e : Expr} : PT X e (tT X e) := ⟨fun pins s _ _ _ I h => h.run pins s I⟩
theorem pw_sem {e : Expr} : PW X e (tW X e) := ⟨fun wh pins s _ _ _ I h => h.run wh pins s I⟩
theorem pa_sem {es : List Expr} : PA X es (tA X es) := ⟨fun pos pins s _ _ _ I h => h.run pos pins s I⟩
theorem ps_sem {st : Stmt} : PS X st (tS X st) := ⟨fun pins s _ _ _ I h => h.run pins s I⟩
theorem pss_sem {st : List Stmt} : PSs X st (tSs X st) := ⟨fun pins s _ _ _ I h => h.run pins s I⟩
theorem tE_len {e : Expr} {σ : St} {H : Hp} {Q : VK} (h : tE X e σ H fun v H' => HLen H' → Q v H') : tE X e σ H Q := ⟨fun pins s I => thn (h.run pins s I) fun _ _ ⟨v, H', I', r, q⟩ => ⟨v, H', I', r, q (hlen I')⟩⟩
theorem tT_len {e : Expr} {σ : St} {H : Hp} {Q : Bool → Hp → Prop} (h : tT X e σ H fun v H' => HLen H' → Q v H') : tT X e σ H Q := ⟨fun pins s I => thn (h.run pins s I) fun _ _ ⟨H', I', q⟩ => ⟨H', I', q (hlen I')⟩⟩
theorem tW_len {e : Expr} {σ : St} {H : Hp} {Q : Bool → Hp → Prop} (h : tW X e σ H fun v H' => HLen H' → Q v H') : tW X e σ H Q := ⟨fun wh pins s I => thn (h.run wh pins s I) fun _ _ ⟨H', I', q⟩ => ⟨H', I', q (hlen I')⟩⟩
theorem tA_len {es : List Expr} {σ : St} {H : Hp} {Q : List V → Hp → Prop} (h : tA X es σ H fun v H' => HLen H' → Q v H') : tA X es σ H Q := ⟨fun pos pins s I => thn (h.run pos pins s I) fun _ _ ⟨v, H', I', r, q⟩ => ⟨v, H', I', r, q (hlen I')⟩⟩

theorem tE_lenF {e : Expr} {σ : St} {H : Hp} {Q : VK} (h : ∀ (pins : List (Addr × Obj)) (s : Shared), Inv X pins σ H s → wpAny (model X.prog X.w) X.A (eval e X.env) (EP X pins σ fun v H' => HLen H' → Q v H') X.xe s) : tE X e σ H Q := tE_len ⟨h⟩
theorem tT_lenF {e : Expr} {σ : St} {H : Hp} {Q : Bool → Hp → Prop} (h : ∀ (pins : List (Addr × Obj)) (s : Shared), Inv X pins σ H s → wpAny (model X.prog X.w) X.A (isTrue e X.env (eval e X.env)) (TP X pins σ fun v H' => HLen H' → Q v H') X.xe s) : tT X e σ H Q := tT_len ⟨h⟩
theorem tW_lenF {e : Expr} {σ : St} {H : Hp} {Q : Bool → Hp → Prop} (h : ∀ (whole : Sem Value) (pins : List (Addr × Obj)) (s : Shared), Inv X pins σ H s → wpAny (model X.prog X.w) X.A (isTrue e X.env whole) (TP X pins σ fun v H' => HLen H' → Q v H') X.xe s) : tW X e σ H Q := tW_len ⟨h⟩
theorem tA_lenF {es : List Expr} {σ : St} {H : Hp} {Q : List V → Hp → Prop} (h : ∀ (pos : Pos) (pins : List (Addr × Obj)) (s : Shared), Inv X pins σ H s → wpAny (model X.prog X.w) X.A (spliced (backTo pos (starEach es X.env))) (AP X pins σ fun v H' => HLen H' → Q v H') X.xe s) : tA X es σ H Q := tA_len ⟨h⟩
/-- an expression, from the world G, H on: its value is told by P -/
def EvP (X : Cx) (e : Expr) (σ : St) (G H : Hp) (P : PV) : Prop :=
  ∀ G1 H1, Ext G H G1 H1 → ∀ Q : VK, (∀ G2 H2 v, Ext G1 H1 G2 H2 → HLen H2 → P G2 H2 v → Q v H2) → tE X e σ H1 Q
/-- .. it is the datum x -/
abbrev Ev {α : Type} [Rep α] (X : Cx) (e : Expr) (σ : St) (G H : Hp) (x : α) : Prop := EvP X e σ G H (Is X.K x)
/-- .. a list that may be read -/
abbrev EvL {α : Type} [Rep α] (X : Cx) (e : Expr) (σ : St) (G H : Hp) (xs : List α) : Prop := EvP X e σ G H (LstAt X.K xs)
/-- a test -/
def EvT (X : Cx) (e : Expr) (σ : St) (G H : Hp) (b : Bool) : Prop :=
  ∀ G1 H1, Ext G H G1 H1 → ∀ Q : Bool → Hp → Prop, (∀ G2 H2, Ext G1 H1 G2 H2 → HLen H2 → Q b H2) → tT X e σ H1 Q
def EvW (X : Cx) (e : Expr) (σ : St) (G H : Hp) (b : Bool) : Prop :=
  ∀ G1 H1, Ext G H G1 H1 → ∀ Q : Bool → Hp → Prop, (∀ G2 H2, Ext G1 H1 G2 H2 → HLen H2 → Q b H2) → tW X e σ H1 Q
/-- arguments -/
def EvA (X : Cx) (es : List Expr) (σ : St) (G H : Hp) (A : Hp → Hp → List V → Prop) : Prop :=
  ∀ G1 H1, Ext G H G1 H1 → ∀ Q : List V → Hp → Prop, (∀ G2 H2 vs, Ext G1 H1 G2 H2 → HLen H2 → A G2 H2 vs → Q vs H2) → tA X es σ H1 Q

variable {σ : St} {G H G' H' : Hp} {P Pa Pb : PV} {e a b c : Expr} {es : List Expr} {pos : Pos}
theorem EvP.mono (x : Ext G H G' H') (h : EvP X e σ G H P) : EvP X e σ G' H' P := fun G1 H1 x1 Q q => h G1 H1 (x.trans x1) Q q
theorem EvT.mono {b : Bool} (x : Ext G H G' H') (h : EvT X e σ G H b) : EvT X e σ G' H' b := fun G1 H1 x1 Q q => h G1 H1 (x.trans x1) Q q
theorem EvP.imp {P' : PV} (h : EvP X e σ G H P) (k : ∀ G1 H1 v, Ext G H G1 H1 → HLen H1 → P G1 H1 v → P' G1 H1 v) : EvP X e σ G H P' := fun G1 H1 x1 Q q =>
  h G1 H1 x1 Q fun G2 H2 v x2 l p => q G2 H2 v x2 l (k G2 H2 v (x1.trans x2) l p)
theorem evP_of {t : TE} (hp : PE X e t) (k : ∀ G1 H1, Ext G H G1 H1 → ∀ Q : VK, (∀ G2 H2 v, Ext G1 H1 G2 H2 → P G2 H2 v → Q v H2) → t σ H1 Q) : EvP X e σ G H P :=
  fun G1 H1 x1 _ q => tE_lenF fun pins s I => hp.run pins s σ H1 _ I (k G1 H1 x1 _ fun G2 H2 v x2 p hl => q G2 H2 v x2 hl p)
theorem evT_of {t : TT} {b : Bool} (hp : PT X e t) (k : ∀ G1 H1, Ext G H G1 H1 → ∀ Q : Bool → Hp → Prop, (∀ G2 H2, Ext G1 H1 G2 H2 → Q b H2) → t σ H1 Q) : EvT X e σ G H b :=
  fun G1 H1 x1 _ q => tT_lenF fun pins s I => hp.run pins s σ H1 _ I (k G1 H1 x1 _ fun G2 H2 x2 hl => q G2 H2 x2 hl)
theorem evW_of {t : TT} {b : Bool} (hp : PW X e t) (k : ∀ G1 H1, Ext G H G1 H1 → ∀ Q : Bool → Hp → Prop, (∀ G2 H2, Ext G1 H1 G2 H2 → Q b H2) → t σ H1 Q) : EvW X e σ G H b :=
  fun G1 H1 x1 _ q => tW_lenF fun wh pins s I => hp.run wh pins s σ H1 _ I (k G1 H1 x1 _ fun G2 H2 x2 hl => q G2 H2 x2 hl)
theorem evA_of {t : TA} {A : Hp → Hp → List V → Prop} (hp : PA X es t) (k : ∀ G1 H1, Ext G H G1 H1 → ∀ Q : List V → Hp → Prop, (∀ G2 H2 vs, Ext G1 H1 G2 H2 → A G2 H2 vs → Q vs H2) → t σ H1 Q) : EvA X es σ G H A :=
  fun G1 H1 x1 _ q => tA_lenF fun pos pins s I => hp.run pos pins s σ H1 _ I (k G1 H1 x1 _ fun G2 H2 vs x2 p hl => q G2 H2 vs x2 hl p)
/-- the datum may be told otherwise -/
theorem Ev.to {α : Type} [Rep α] {x y : α} (h : Ev X e σ G H x) (q : x = y) : Ev X e σ G H y := q ▸ h
theorem EvT.to {x y : Bool} (h : EvT X e σ G H x) (q : x = y) : EvT X e σ G H y := q ▸ h
theorem ev_l {α : Type} [Rep α] {xs : List α} (h : Ev X e σ G H xs) : EvL X e σ G H xs := h.imp fun _ _ _ x _ ⟨a, vs, e, g, p⟩ => ⟨a, vs, e, SqL.of (x.s _ _ g), p⟩
theorem ev_scr {xs : Scr} (h : Ev X e σ G H xs) : EvL X e σ G H xs.ns := h.imp fun _ _ _ x _ ⟨a, e, g⟩ => ⟨a, _, e, x.s.seq g, ints_paired _⟩

/-! ### names, constants -/
/-- a plain name -/
structure Nm (x : Str) : Prop where
  hd : (x == ("__debug__" : Str)) = false
  hcd : (x == ("__classdict__" : Str)) = false
  hn : x ≠ "__name__"
/-- the name x stands in the i-th slot -/
structure Sl (X : Cx) (i : Nat) (x : Str) : Prop where
  hN : X.N[i]? = some x
  hv : Vis X.env.scope x
  nm : Nm x
end
end RL

namespace RL
open PySem PySem.Spec PyProof.Rows L2 Rep
class MonoC (P : PV) : Prop where
  m : Mono P
instance {α : Type} [Rep α] {K : PySem.W.Frag} {x : α} : MonoC (Is K x) := ⟨mono_is⟩
instance {α : Type} [Rep α] {K : PySem.W.Frag} {xs : List α} : MonoC (LstAt K xs) := ⟨mono_lst⟩
/-- a list, a tuple of one kind, the script: what may be read -/
def SeqAt {α : Type} [Rep α] (K : PySem.W.Frag) (xs : List α) : PV := fun G H v => ∃ a vs, v = .ref a ∧ SqL K H a vs ∧ Paired (rep K G) vs xs
/-- .. that the program made -/
def OwnAt {α : Type} [Rep α] (K : PySem.W.Frag) (xs : List α) : PV := fun G H v => ∃ a vs, v = .ref a ∧ H a = some (.lst vs) ∧ Paired (rep K G) vs xs
instance {α : Type} [Rep α] {K : PySem.W.Frag} {xs : List α} : MonoC (SeqAt K xs) := ⟨fun _ _ _ _ _ x ⟨a, vs, e, g, p⟩ => ⟨a, vs, e, x.h.seq g, pair_up x.g p⟩⟩
instance {α : Type} [Rep α] {K : PySem.W.Frag} {xs : List α} : MonoC (OwnAt K xs) := ⟨fun _ _ _ _ _ x ⟨a, vs, e, g, p⟩ => ⟨a, vs, e, x.h _ _ g, pair_up x.g p⟩⟩
/-- P tells a list that may be read -/
class AsSeq (K : PySem.W.Frag) (P : PV) (α : outParam Type) (inst : outParam (Rep α)) (xs : outParam (List α)) : Prop where
  seq : ∀ G H v, Same G H → P G H v → SeqAt K xs G H v
class AsOwn (K : PySem.W.Frag) (P : PV) (α : outParam Type) (inst : outParam (Rep α)) (xs : outParam (List α)) : Prop where
  own : ∀ G H v, Same G H → P G H v → OwnAt K xs G H v
instance {α : Type} [i : Rep α] {K : PySem.W.Frag} {xs : List α} : AsSeq K (SeqAt K xs) α i xs := ⟨fun _ _ _ _ h => h⟩
instance {α : Type} [i : Rep α] {K : PySem.W.Frag} {xs : List α} : AsOwn K (OwnAt K xs) α i xs := ⟨fun _ _ _ _ h => h⟩
instance {α : Type} [i : Rep α] {K : PySem.W.Frag} {xs : List α} : AsOwn K (Is K xs) α i xs := ⟨fun _ _ _ s ⟨a, vs, e, g, p⟩ => ⟨a, vs, e, s _ _ g, p⟩⟩
instance {α : Type} [i : Rep α] {K : PySem.W.Frag} {xs : List α} : AsSeq K (Is K xs) α i xs := ⟨fun _ _ _ s ⟨a, vs, e, g, p⟩ => ⟨a, vs, e, .of (s _ _ g), p⟩⟩
instance {α : Type} [i : Rep α] {K : PySem.W.Frag} {xs : List α} : AsSeq K (OwnAt K xs) α i xs := ⟨fun _ _ _ _ ⟨a, vs, e, g, p⟩ => ⟨a, vs, e, .of g, p⟩⟩
instance {K : PySem.W.Frag} {x : Scr} : AsSeq K (Is K x) Int instRepInt x.ns := ⟨fun _ _ _ s ⟨a, e, g⟩ => ⟨a, _, e, s.seq g, ints_paired _⟩⟩

section
variable {X : Cx} {σ : St} {G H : Hp} {P Pa Pb : PV} {e a b c : Expr} {es : List Expr} {pos : Pos}
/-! ### names, constants -/
theorem ev_vP {i : Nat} {n : Str} {p : Pos} {v : V} [m : MonoC P] (s : Sl X i n) (r : P G H v) (h : σ[i]? = some (some v) := by rfl) : EvP X (.Name n p) σ G H P :=
  evP_of (pe_var s.hN s.hv s.nm.hd s.nm.hcd) fun G1 H1 x1 Q q => ⟨v, h, q G1 H1 v (Ext.refl x1.s) (m.m _ _ _ _ _ x1 r)⟩
theorem ev_v {α : Type} [Rep α] {x : α} {i : Nat} {n : Str} {p : Pos} {v : V} (s : Sl X i n) (r : rep X.K G v x) (h : σ[i]? = some (some v) := by rfl) : Ev X (.Name n p) σ G H x := ev_vP s (P := Is X.K x) r h
theorem ev_c {v : V} {t : TE} (h : PE X e (tC v)) (r : ∀ G1 H1, Ext G H G1 H1 → P G1 H1 v) : EvP X e σ G H P := evP_of h fun G1 H1 x1 Q q => q G1 H1 v (Ext.refl x1.s) (r G1 H1 x1)
theorem ev_int {i : Int} {j p} : Ev X (.Constant (.int i) j p) σ G H i := ev_c (t := tC .non) pe_int fun _ _ _ => rfl
theorem ev_bl {i : Bool} {j p} : Ev X (.Constant (.bool i) j p) σ G H i := ev_c (t := tC .non) pe_bl fun _ _ _ => rfl
theorem ev_str {i : Str} {j p} : Ev X (.Constant (.str i) j p) σ G H i := ev_c (t := tC .non) pe_str fun _ _ _ => rfl
theorem ev_none {α : Type} [Rep α] {j p} : Ev X (.Constant .none j p) σ G H (none : Option α) := ev_c (t := tC .non) pe_non fun _ _ _ => rfl
theorem ev_unit {j p} : Ev X (.Constant .none j p) σ G H () := ev_c (t := tC .non) pe_non fun _ _ _ => rfl
theorem ev_some {α : Type} [Rep α] {x : α} (h : Ev X e σ G H x) : Ev X e σ G H (some x) := h.imp fun _ _ _ _ _ r => r
theorem ev_glob {α : Type} [Rep α] {x : α} {n : Str} {p : Pos} {v : V} {u : Value} (hg : Gl X n) (hm : X.mg n = some u) (r : RelV v u) (q : ∀ G, rep X.K G v x) (hd : (n == ("__debug__" : Str)) = false := by decide) : Ev X (.Name n p) σ G H x :=
  ev_c (t := tC .non) (pe_glob hg hm r hd) fun _ _ _ => q _
/-- a built-in class, as a value -/
theorem ev_ty {n : Str} {p : Pos} {T : String} (hg : Gl X n) (hm : X.mg n = none) (hv : bootBuiltins n = some (.type T)) (hn : n ≠ "__name__" := by decide) (hd : (n == ("__debug__" : Str)) = false := by decide) : Ev X (.Name n p) σ G H (V.ty T) :=
  ev_c (t := tC .non) (pe_bltn (v := .ty T) hg hm hv rfl hn hd) fun _ _ _ => rfl

/-! ### two operands -/
/-- f of two values, told by data -/
def Bin (X : Cx) (f : Value → Value → Sem Value) (Pa Pb P : PV) (G H : Hp) : Prop :=
  ∃ r : R2, OpR X f r ∧ ∀ G1 H1 v u, Ext G H G1 H1 → HLen H1 → Pa G1 H1 v → Pb G1 H1 u → ∀ Q : VK, (∀ G2 H2 w, Ext G1 H1 G2 H2 → P G2 H2 w → Q w H2) → r v u H1 Q
theorem bin_go {f : R2} [m : MonoC Pa] (ha : EvP X a σ G H Pa) (hb : EvP X b σ G H Pb)
    (k : ∀ G1 H1 v u, Ext G H G1 H1 → HLen H1 → Pa G1 H1 v → Pb G1 H1 u → ∀ Q : VK, (∀ G2 H2 w, Ext G1 H1 G2 H2 → P G2 H2 w → Q w H2) → f v u H1 Q) :
    ∀ G1 H1, Ext G H G1 H1 → ∀ Q : VK, (∀ G2 H2 v, Ext G1 H1 G2 H2 → P G2 H2 v → Q v H2) → tOp f (tE X a) (tE X b) σ H1 Q := fun G1 H1 x1 Q q =>
  ha G1 H1 x1 _ fun G2 H2 v x2 _ pv => hb G2 H2 (x1.trans x2) _ fun G3 H3 u x3 l3 pu => k G3 H3 v u ((x1.trans x2).trans x3) l3 (m.m _ _ _ _ _ x3 pv) pu Q fun G4 H4 w x4 pw => q G4 H4 w ((x2.trans x3).trans x4) pw
theorem ev_bin {op : Operator} [m : MonoC Pa] (k : Bin X (binaryOp op) Pa Pb P G H) (ha : EvP X a σ G H Pa) (hb : EvP X b σ G H Pb) : EvP X (.BinOp a op b pos) σ G H P :=
  let ⟨_, ho, k⟩ := k; evP_of (pe_op ho pe_sem pe_sem) (bin_go ha hb k)
theorem ev_cmp {op : CmpOp} [m : MonoC Pa] (k : Bin X (compareOp op) Pa Pb P G H) (ha : EvP X a σ G H Pa) (hb : EvP X b σ G H Pb) (hm : behindInMarks op b = false := by first | exact nomark _ | rfl) : EvP X (.Compare a [op] [b] pos) σ G H P :=
  let ⟨_, ho, k⟩ := k; evP_of (pe_cmpR ho pe_sem pe_sem hm) (bin_go ha hb k)
theorem et_cmp {op : CmpOp} {d : Bool} [m : MonoC Pa] (k : Bin X (compareOp op) Pa Pb (Is X.K d) G H) (ha : EvP X a σ G H Pa) (hb : EvP X b σ G H Pb) (hm : behindInMarks op b = false := by first | exact nomark _ | rfl) : EvT X (.Compare a [op] [b] pos) σ G H d :=
  let ⟨_, ho, k⟩ := k; evT_of (pt_cmpR ho pe_sem pe_sem hm) fun G1 H1 x1 Q q => bin_go ha hb k G1 H1 x1 _ fun G2 H2 _ x2 r => ⟨d, r, q G2 H2 x2⟩
theorem bin_I {f : Value → Value → Sem Value} {C : Int → Int → Prop} {g : Int → Int → Int} {i j : Int} (ho : OpR X f (rI C fun i j => .int (g i j))) (hc : C i j) : Bin X f (Is X.K i) (Is X.K j) (Is X.K (g i j)) G H :=
  ⟨_, ho, fun G1 H1 _ _ x _ e1 e2 _ q => ⟨i, j, e1, e2, hc, q G1 H1 _ (Ext.refl x.s) rfl⟩⟩
theorem bin_I0 {f : Value → Value → Sem Value} {g : Int → Int → Int} {i j : Int} (ho : OpR X f (rI0 fun i j => .int (g i j))) : Bin X f (Is X.K i) (Is X.K j) (Is X.K (g i j)) G H :=
  ⟨_, ho, fun G1 H1 _ _ x _ e1 e2 _ q => ⟨i, j, e1, e2, q G1 H1 _ (Ext.refl x.s) rfl⟩⟩
theorem bin_B0 {f : Value → Value → Sem Value} {g : Int → Int → Bool} {i j : Int} (ho : OpR X f (rI0 fun i j => .bl (g i j))) : Bin X f (Is X.K i) (Is X.K j) (Is X.K (g i j)) G H :=
  ⟨_, ho, fun G1 H1 _ _ x _ e1 e2 _ q => ⟨i, j, e1, e2, q G1 H1 _ (Ext.refl x.s) rfl⟩⟩
variable {i j : Int}
theorem b_add : Bin X (binaryOp .Add) (Is X.K i) (Is X.K j) (Is X.K (i + j)) G H := bin_I0 (g := fun i j => i + j) op_add
theorem b_sub : Bin X (binaryOp .Sub) (Is X.K i) (Is X.K j) (Is X.K (i - j)) G H := bin_I0 (g := fun i j => i - j) op_sub
theorem b_mul (h : CMul i j) : Bin X (binaryOp .Mult) (Is X.K i) (Is X.K j) (Is X.K (i * j)) G H := bin_I (g := fun i j => i * j) op_mul h
theorem b_mulW (h : CMulW i j) : Bin X (binaryOp .Mult) (Is X.K i) (Is X.K j) (Is X.K (i * j)) G H := bin_I (g := fun i j => i * j) op_mulW h
theorem b_div (h : CDiv i j) : Bin X (binaryOp .FloorDiv) (Is X.K i) (Is X.K j) (Is X.K (i / j)) G H := bin_I (g := fun i j => i / j) op_fdiv h
theorem b_divW (h : CDivW i j) : Bin X (binaryOp .FloorDiv) (Is X.K i) (Is X.K j) (Is X.K (i / j)) G H := bin_I (g := fun i j => i / j) op_fdivW h
theorem b_mod (h : 0 < j) : Bin X (binaryOp .Mod) (Is X.K i) (Is X.K j) (Is X.K (i % j)) G H := bin_I (g := fun i j => i % j) op_mod h
theorem b_pow (h : CPow i j) : Bin X (binaryOp .Pow) (Is X.K i) (Is X.K j) (Is X.K (i ^ j.toNat)) G H := bin_I (g := fun i j => i ^ j.toNat) op_pow h
theorem b_shr (h : 0 ≤ j) : Bin X (binaryOp .RShift) (Is X.K i) (Is X.K j) (Is X.K (i / 2 ^ j.toNat)) G H := bin_I (g := fun i j => i / 2 ^ j.toNat) op_shr h
theorem b_shl (h : CPow i j) : Bin X (binaryOp .LShift) (Is X.K i) (Is X.K j) (Is X.K (i * 2 ^ j.toNat)) G H := bin_I (g := fun i j => i * 2 ^ j.toNat) op_shl h
theorem b_and : Bin X (binaryOp .BitAnd) (Is X.K i) (Is X.K j) (Is X.K (Builtin.bitAnd i j)) G H := bin_I0 (g := fun i j => Builtin.bitAnd i j) op_and
theorem b_or : Bin X (binaryOp .BitOr) (Is X.K i) (Is X.K j) (Is X.K (Builtin.bitOr i j)) G H := bin_I0 (g := fun i j => Builtin.bitOr i j) op_or
theorem i_add : Bin X (inplaceOp .Add) (Is X.K i) (Is X.K j) (Is X.K (i + j)) G H := bin_I0 (g := fun i j => i + j) iop_add
theorem i_sub : Bin X (inplaceOp .Sub) (Is X.K i) (Is X.K j) (Is X.K (i - j)) G H := bin_I0 (g := fun i j => i - j) iop_sub
theorem c_lt : Bin X (compareOp .Lt) (Is X.K i) (Is X.K j) (Is X.K (decide (i < j))) G H := bin_B0 (g := fun i j => decide (i < j)) op_lt
theorem c_le : Bin X (compareOp .LtE) (Is X.K i) (Is X.K j) (Is X.K (decide (i ≤ j))) G H := bin_B0 (g := fun i j => decide (i ≤ j)) op_le
theorem c_gt : Bin X (compareOp .Gt) (Is X.K i) (Is X.K j) (Is X.K (decide (i > j))) G H := bin_B0 (g := fun i j => decide (i > j)) op_gt
theorem c_ge : Bin X (compareOp .GtE) (Is X.K i) (Is X.K j) (Is X.K (decide (i ≥ j))) G H := bin_B0 (g := fun i j => decide (i ≥ j)) op_ge
theorem dec_i : decide (V.int i = V.int j) = decide (i = j) := by
  by_cases h : i = j
  · rw [decide_eq_true h, decide_eq_true (congrArg V.int h)]
  · rw [decide_eq_false h, decide_eq_false fun z => h (V.int.inj z)]
theorem c_eq : Bin X (compareOp .Eq) (Is X.K i) (Is X.K j) (Is X.K (decide (i = j))) G H :=
  ⟨_, op_eq, fun G1 H1 v u x _ e1 e2 Q q => by
    rw [show v = V.int i from e1, show u = V.int j from e2]
    refine ⟨rfl, ?_⟩
    rw [dec_i]
    exact q G1 H1 _ (Ext.refl x.s) rfl⟩
theorem c_ne : Bin X (compareOp .NotEq) (Is X.K i) (Is X.K j) (Is X.K (!decide (i = j))) G H :=
  ⟨_, op_ne, fun G1 H1 v u x _ e1 e2 Q q => by
    rw [show v = V.int i from e1, show u = V.int j from e2]
    refine ⟨rfl, ?_⟩
    rw [dec_i]
    exact q G1 H1 _ (Ext.refl x.s) rfl⟩
theorem dec_b {i j : Bool} : decide (V.bl i = V.bl j) = decide (i = j) := by
  by_cases h : i = j
  · rw [decide_eq_true h, decide_eq_true (congrArg V.bl h)]
  · rw [decide_eq_false h, decide_eq_false fun z => h (V.bl.inj z)]
theorem c_eqB {i j : Bool} : Bin X (compareOp .Eq) (Is X.K i) (Is X.K j) (Is X.K (decide (i = j))) G H :=
  ⟨_, op_eq, fun G1 H1 v u x _ e1 e2 Q q => by
    rw [show v = V.bl i from e1, show u = V.bl j from e2]
    refine ⟨rfl, ?_⟩
    rw [dec_b]
    exact q G1 H1 _ (Ext.refl x.s) rfl⟩
theorem c_neB {i j : Bool} : Bin X (compareOp .NotEq) (Is X.K i) (Is X.K j) (Is X.K (!decide (i = j))) G H :=
  ⟨_, op_ne, fun G1 H1 v u x _ e1 e2 Q q => by
    rw [show v = V.bl i from e1, show u = V.bl j from e2]
    refine ⟨rfl, ?_⟩
    rw [dec_b]
    exact q G1 H1 _ (Ext.refl x.s) rfl⟩
/-- is None -/
class NonV (α : Type) [Rep α] : Prop where
  nn : ∀ {K : PySem.W.Frag} {G : Hp} {v : V} {x : α}, rep K G v x → v ≠ .non
instance : NonV Int := ⟨fun h z => by rw [show _ = V.int _ from h] at z; cases z⟩
instance : NonV Bool := ⟨fun h z => by rw [show _ = V.bl _ from h] at z; cases z⟩
instance : NonV Str := ⟨fun h z => by rw [show _ = V.str _ from h] at z; cases z⟩
instance {α : Type} [Rep α] : NonV (List α) := ⟨fun ⟨a, _, e, _⟩ z => by rw [e] at z; cases z⟩
instance {α β : Type} [Rep α] [Rep β] : NonV (α × β) := ⟨fun ⟨a, _, _, e, _⟩ z => by rw [e] at z; cases z⟩
theorem opt_non {α : Type} [Rep α] [n : NonV α] {K : PySem.W.Frag} {G : Hp} {v : V} {x : Option α} (h : rep K G v x) : decide (v = .non) = x.isNone := by
  cases x with
  | none => exact decide_eq_true h
  | some y => exact decide_eq_false (n.nn (x := y) h)
theorem c_isN {α : Type} [Rep α] [NonV α] {x : Option α} : Bin X (compareOp .Is) (Is X.K x) (Is X.K ()) (Is X.K x.isNone) G H :=
  ⟨_, op_isN, fun G1 H1 v u x _ e1 e2 Q q => ⟨e2, by rw [opt_non e1]; exact q G1 H1 _ (Ext.refl x.s) rfl⟩⟩
theorem c_notN {α : Type} [Rep α] [NonV α] {x : Option α} : Bin X (compareOp .IsNot) (Is X.K x) (Is X.K ()) (Is X.K (!x.isNone)) G H :=
  ⟨_, op_notN, fun G1 H1 v u x _ e1 e2 Q q => ⟨e2, by rw [opt_non e1]; exact q G1 H1 _ (Ext.refl x.s) rfl⟩⟩
theorem ev_neg (h : Ev X a σ G H i) : Ev X (.UnaryOp .USub a pos) σ G H (-i) :=
  evP_of (pe_un un_neg pe_sem) fun G1 H1 x1 Q q => h G1 H1 x1 _ fun G2 H2 v x2 _ r => ⟨i, r, q G2 H2 _ x2 rfl⟩

/-! ### tests -/
variable {x y : Bool}
theorem et_val (h : Ev X e σ G H x) (he : ∀ whole, isTrue e X.env whole = (do let v ← whole; standAt e.pos; holding [v] (truthy v)) := by intro _; rfl) : EvT X e σ G H x :=
  evT_of (pt_val pe_sem he) fun G1 H1 x1 Q q => h G1 H1 x1 _ fun G2 H2 _ x2 _ r => ⟨x, r, q G2 H2 x2⟩
theorem et_w (h : EvW X e σ G H x) : EvT X e σ G H x := evT_of pw_sem.pt h'
  where h' := fun G1 H1 x1 Q q => h G1 H1 x1 Q fun G2 H2 x2 _ => q G2 H2 x2
theorem et_not (h : EvT X e σ G H x) : EvT X (.UnaryOp .Not e pos) σ G H (!x) :=
  evT_of (pt_not pt_sem) fun G1 H1 x1 Q q => h G1 H1 x1 _ fun G2 H2 x2 _ => q G2 H2 x2
theorem ew_and1 (h : EvT X e σ G H x) : EvW X (.BoolOp .And [e] pos) σ G H x := evW_of (pw_and1 pt_sem) fun G1 H1 x1 Q q => h G1 H1 x1 Q fun G2 H2 x2 _ => q G2 H2 x2
theorem ew_or1 (h : EvT X e σ G H x) : EvW X (.BoolOp .Or [e] pos) σ G H x := evW_of (pw_or1 pt_sem) fun G1 H1 x1 Q q => h G1 H1 x1 Q fun G2 H2 x2 _ => q G2 H2 x2
theorem ew_and (h : EvT X a σ G H x) (k : x = true → EvW X (.BoolOp .And (b :: es) pos) σ G H y) : EvW X (.BoolOp .And (a :: b :: es) pos) σ G H (x && y) :=
  evW_of (pw_and pt_sem pw_sem) fun G1 H1 x1 Q q => h G1 H1 x1 _ fun G2 H2 x2 _ => by
    cases x with
    | true =>
      show tW X _ σ H2 Q
      exact k rfl G2 H2 (x1.trans x2) Q fun G3 H3 x3 _ => q G3 H3 (x2.trans x3)
    | false =>
      show Q false H2
      exact q G2 H2 x2
theorem ew_or (h : EvT X a σ G H x) (k : x = false → EvW X (.BoolOp .Or (b :: es) pos) σ G H y) : EvW X (.BoolOp .Or (a :: b :: es) pos) σ G H (x || y) :=
  evW_of (pw_or pt_sem pw_sem) fun G1 H1 x1 Q q => h G1 H1 x1 _ fun G2 H2 x2 _ => by
    cases x with
    | true =>
      show Q true H2
      exact q G2 H2 x2
    | false =>
      show tW X _ σ H2 Q
      exact k rfl G2 H2 (x1.trans x2) Q fun G3 H3 x3 _ => q G3 H3 (x2.trans x3)
/-- .. as values -/
theorem ev_bo1 {op} (h : Ev X e σ G H x) : Ev X (.BoolOp op [e] pos) σ G H x := evP_of (pe_one pe_sem) fun G1 H1 x1 Q q => h G1 H1 x1 Q fun G2 H2 v x2 _ => q G2 H2 v x2
theorem ev_and (h : Ev X a σ G H x) (k : x = true → Ev X (.BoolOp .And (b :: es) pos) σ G H y) : Ev X (.BoolOp .And (a :: b :: es) pos) σ G H (x && y) :=
  evP_of (pe_and pe_sem pe_sem) fun G1 H1 x1 Q q => h G1 H1 x1 _ fun G2 H2 v x2 _ r => ⟨x, r, by
    cases x with
    | true =>
      show tE X _ σ H2 Q
      exact k rfl G2 H2 (x1.trans x2) Q fun G3 H3 w x3 _ => q G3 H3 w (x2.trans x3)
    | false =>
      show Q (.bl false) H2
      exact q G2 H2 _ x2 rfl⟩
theorem ev_or (h : Ev X a σ G H x) (k : x = false → Ev X (.BoolOp .Or (b :: es) pos) σ G H y) : Ev X (.BoolOp .Or (a :: b :: es) pos) σ G H (x || y) :=
  evP_of (pe_or pe_sem pe_sem) fun G1 H1 x1 Q q => h G1 H1 x1 _ fun G2 H2 v x2 _ r => ⟨x, r, by
    cases x with
    | true =>
      show Q (.bl true) H2
      exact q G2 H2 _ x2 rfl
    | false =>
      show tE X _ σ H2 Q
      exact k rfl G2 H2 (x1.trans x2) Q fun G3 H3 w x3 _ => q G3 H3 w (x2.trans x3)⟩
theorem ev_not (h : Ev X e σ G H x) : Ev X (.UnaryOp .Not e pos) σ G H (!x) := evP_of (pe_not pe_sem) fun G1 H1 x1 Q q => h G1 H1 x1 _ fun G2 H2 v x2 _ r => ⟨x, r, q G2 H2 _ x2 rfl⟩
theorem ev_ifP (h : EvT X c σ G H x) (h1 : x = true → EvP X a σ G H P) (h2 : x = false → EvP X b σ G H P) : EvP X (.IfExp c a b pos) σ G H P :=
  evP_of (pe_ifExp pt_sem pe_sem pe_sem) fun G1 H1 x1 Q q => h G1 H1 x1 _ fun G2 H2 x2 _ => by
    cases x with
    | true =>
      show tE X a σ H2 Q
      exact h1 rfl G2 H2 (x1.trans x2) Q fun G3 H3 w x3 _ => q G3 H3 w (x2.trans x3)
    | false =>
      show tE X b σ H2 Q
      exact h2 rfl G2 H2 (x1.trans x2) Q fun G3 H3 w x3 _ => q G3 H3 w (x2.trans x3)
theorem ev_if {α : Type} [Rep α] {u w : α} (h : EvT X c σ G H x) (h1 : x = true → Ev X a σ G H u) (h2 : x = false → Ev X b σ G H w) : Ev X (.IfExp c a b pos) σ G H (if x = true then u else w) :=
  ev_ifP h (fun z => (h1 z).to (by rw [if_pos z])) (fun z => (h2 z).to (by rw [if_neg (by rw [z]; decide)]))
/-- a op1 b op2 c, of ints -/
theorem ch_go {f g : R2} {Pc : PV} [ma : MonoC Pa] [mb : MonoC Pb] (ha : EvP X a σ G H Pa) (hb : EvP X b σ G H Pb) (hc : x = true → EvP X c σ G H Pc)
    (k : ∀ G1 H1 v u, Ext G H G1 H1 → HLen H1 → Pa G1 H1 v → Pb G1 H1 u → ∀ Q : VK, (∀ G2 H2 w, Ext G1 H1 G2 H2 → Is X.K x G2 H2 w → Q w H2) → f v u H1 Q)
    (k' : ∀ G1 H1 v u, Ext G H G1 H1 → HLen H1 → Pb G1 H1 v → Pc G1 H1 u → ∀ Q : VK, (∀ G2 H2 w, Ext G1 H1 G2 H2 → Is X.K y G2 H2 w → Q w H2) → g v u H1 Q) :
    ∀ G1 H1, Ext G H G1 H1 → ∀ Q : VK, (∀ G2 H2 v, Ext G1 H1 G2 H2 → Is X.K (x && y) G2 H2 v → Q v H2) → tChain f g (tE X a) (tE X b) (tE X c) σ H1 Q := fun G1 H1 x1 Q q =>
  ha G1 H1 x1 _ fun G2 H2 v x2 _ pv => hb G2 H2 (x1.trans x2) _ fun G3 H3 u x3 l3 pu => k G3 H3 v u ((x1.trans x2).trans x3) l3 (ma.m _ _ _ _ _ x3 pv) pu _ fun G4 H4 w x4 pw => ⟨x, pw, by
    have x14 := (x1.trans x2).trans (x3.trans x4)
    cases x with
    | true =>
      show tE X c σ H4 _
      exact hc rfl G4 H4 x14 _ fun G5 H5 t x5 l5 pt => k' G5 H5 u t (x14.trans x5) l5 (mb.m _ _ _ _ _ x5 (mb.m _ _ _ _ _ x4 pu)) pt Q fun G6 H6 r x6 pr => q G6 H6 r (((x2.trans x3).trans x4).trans (x5.trans x6)) pr
    | false =>
      show Q (.bl false) H4
      exact q G4 H4 _ ((x2.trans x3).trans x4) rfl⟩
theorem ev_chain {op op' : CmpOp} {Pc : PV} [ma : MonoC Pa] [mb : MonoC Pb] (k : Bin X (compareOp op) Pa Pb (Is X.K x) G H) (k' : Bin X (compareOp op') Pb Pc (Is X.K y) G H)
    (ha : EvP X a σ G H Pa) (hb : EvP X b σ G H Pb) (hc : x = true → EvP X c σ G H Pc) (hm : lastMarks [op, op'] [b, c] = false := by with_unfolding_all rfl) : Ev X (.Compare a [op, op'] [b, c] pos) σ G H (x && y) :=
  let ⟨_, ho, k⟩ := k; let ⟨_, ho', k'⟩ := k'; evP_of (pe_chain ho ho' pe_sem pe_sem pe_sem hm) (ch_go ha hb hc k k')
theorem et_chain {op op' : CmpOp} {Pc : PV} [ma : MonoC Pa] [mb : MonoC Pb] (k : Bin X (compareOp op) Pa Pb (Is X.K x) G H) (k' : Bin X (compareOp op') Pb Pc (Is X.K y) G H)
    (ha : EvP X a σ G H Pa) (hb : EvP X b σ G H Pb) (hc : x = true → EvP X c σ G H Pc) (hm : lastMarks [op, op'] [b, c] = false := by with_unfolding_all rfl) : EvT X (.Compare a [op, op'] [b, c] pos) σ G H (x && y) :=
  let ⟨_, ho, k⟩ := k; let ⟨_, ho', k'⟩ := k'; evT_of (pt_chain ho ho' pe_sem pe_sem pe_sem hm) fun G1 H1 x1 Q q => ch_go ha hb hc k k' G1 H1 x1 _ fun G2 H2 _ x2 r => ⟨_, r, q G2 H2 x2⟩

/-! ### arguments, displays -/
theorem ea_nil : EvA X [] σ G H (fun _ _ vs => vs = []) := evA_of pa_nil fun G1 H1 x1 Q q => q G1 H1 [] (Ext.refl x1.s) rfl
def ACons (P : PV) (A : Hp → Hp → List V → Prop) : Hp → Hp → List V → Prop := fun G H vs => ∃ v r, vs = v :: r ∧ P G H v ∧ A G H r
theorem ea_cons {A : Hp → Hp → List V → Prop} [m : MonoC P] (h : EvP X e σ G H P) (hr : EvA X es σ G H A) (hs : starEach (e :: es) X.env = (false, eval e X.env) :: starEach es X.env := by rfl) : EvA X (e :: es) σ G H (ACons P A) :=
  evA_of (pa_cons pe_sem pa_sem hs) fun G1 H1 x1 Q q => h G1 H1 x1 _ fun G2 H2 v x2 _ pv => hr G2 H2 (x1.trans x2) _ fun G3 H3 vs x3 _ pa => q G3 H3 _ (x2.trans x3) ⟨v, vs, rfl, m.m _ _ _ _ _ x3 pv, pa⟩
/-- items of one kind -/
def AAll {α : Type} [Rep α] (K : PySem.W.Frag) (xs : List α) : Hp → Hp → List V → Prop := fun G _ vs => Paired (rep K G) vs xs
theorem es_nil {α : Type} [Rep α] : EvA X [] σ G H (AAll X.K ([] : List α)) := evA_of pa_nil fun G1 H1 x1 Q q => q G1 H1 [] (Ext.refl x1.s) .nil
theorem es_cons {α : Type} [Rep α] {x : α} {xs : List α} (h : Ev X e σ G H x) (hr : EvA X es σ G H (AAll X.K xs)) (hs : starEach (e :: es) X.env = (false, eval e X.env) :: starEach es X.env := by rfl) : EvA X (e :: es) σ G H (AAll X.K (x :: xs)) :=
  evA_of (pa_cons pe_sem pa_sem hs) fun G1 H1 x1 Q q => h G1 H1 x1 _ fun G2 H2 v x2 _ pv => hr G2 H2 (x1.trans x2) _ fun G3 H3 vs x3 _ pa => q G3 H3 _ (x2.trans x3) (.cons (up x3.g pv) pa)
/-- it is x, and new -/
theorem frz_new {G H G1 H1 : Hp} {p : Addr} {o : HO} (x : Ext G H G1 H1) (hp : H1 p = none) : (upd G1 p o) p = some o := upd_same
theorem ev_list {α : Type} [Rep α] {xs : List α} (h : EvA X es σ G H (AAll X.K xs)) (hl : xs.length ≤ 1000 := by exact Nat.le_of_ble_eq_true rfl) : Ev X (.List es pos) σ G H xs :=
  evP_of (pe_lst pa_sem) fun G1 H1 x1 Q q => h G1 H1 x1 _ fun G2 H2 vs x2 _ pa => ⟨by rw [paired_len pa]; exact Nat.le_of_lt (small1000 hl), fun p hp =>
    q (upd G2 p (.lst vs)) _ _ (x2.new hp) ⟨p, vs, rfl, upd_same, pair_up (same_new (x2.s.free hp)) pa⟩⟩
theorem ev_tup {α β : Type} [Rep α] [Rep β] {x : α} {y : β} {k : Nat} (ha : Ev X a σ G H x) (hb : Ev X b σ G H y) (hs : starEach [a, b] X.env = (false, eval a X.env) :: starEach [b] X.env := by rfl) (hs' : starEach [b] X.env = (false, eval b X.env) :: starEach [] X.env := by rfl) :
    Ev X (.Tuple [a, b] k pos) σ G H (x, y) :=
  evP_of (pe_tup (pa_cons pe_sem (pa_cons pe_sem pa_nil hs') hs)) fun G1 H1 x1 Q q => ha G1 H1 x1 _ fun G2 H2 v x2 _ pv => hb G2 H2 (x1.trans x2) _ fun G3 H3 u x3 _ pu =>
    ⟨by show 2 ≤ sizeLine; decide, fun p hp => q (upd G3 p (.tup [v, u])) _ _ ((x2.trans x3).new hp) ⟨p, v, u, rfl, upd_same, up (same_new (x3.s.free hp)) (up x3.g pv), up (same_new (x3.s.free hp)) pu⟩⟩

/-! ### calls -/
/-- a def of the text that keeps its promise -/
structure Cal (P : Program) (w : World) (K : PySem.W.Frag) (mg : Str → Option Value) (base : Heap) (k : Nat) (x : Str) (sp : Sp) : Prop where
  ex : ∃ (f : Addr) (fd : FuncData) (ps : List Str), FnOk P w K mg base (L2.CX P w) k f fd ps sp ∧ mg x = some (.ref f) ∧ PySem.W.keepIn K (.ref f) = true ∧ Binds K fd ps []
theorem ev_call {k : Nat} {n : Str} {p : Pos} {sp : Sp} {A : Hp → Hp → List V → Prop} (C : Cal X.prog X.w X.K X.mg X.base k n sp) (hr : Room k X.A) (hg : Gl X n) (ha : EvA X (e :: es) σ G H A)
    (h : ∀ G1 H1 vs, Ext G H G1 H1 → HLen H1 → A G1 H1 vs → ∀ Q : VK, (∀ G2 H2 v, Ext G1 H1 G2 H2 → P G2 H2 v → Q v H2) → sp vs H1 Q E0) (hdb : (n == ("__debug__" : Str)) = false := by decide)
    (he : starEach (e :: es) X.env = (false, eval e X.env) :: starEach es X.env := by rfl) (hpl : (backTo pos (starEach es X.env)).any (·.1) = false := by rfl) : EvP X (.Call (.Name n p) (e :: es) [] pos) σ G H P := by
  obtain ⟨f, fd, ps, F, hm, hk, hb⟩ := C.ex
  exact evP_of (pe_call F hr hg hm hk hb .nil passL pa_sem hdb he hpl) fun G1 H1 x1 Q q => ha G1 H1 x1 _ fun G2 H2 vs x2 l2 pa => by
    show sp (vs ++ []) H2 Q E0
    rw [List.append_nil]
    exact h G2 H2 vs (x1.trans x2) l2 pa Q fun G3 H3 v x3 r => q G3 H3 v (x2.trans x3) r
/-- what is new, behind H -/
def New (H : Hp) (v : V) : Prop := ∀ p, v = .ref p → H p = none
section sps
variable {α β γ δ ε ζ : Type} [Rep α] [Rep β] [Rep γ] [Rep δ] [Rep ε] [Rep ζ]
/-- a def of one, two, .. arguments that hands back f of them; fr: a new object -/
def Sp1 (K : PySem.W.Frag) (fr : Bool) (pre : α → Prop) (f : α → ζ) : Sp := fun vs H Q _ => ∃ (G : Hp) (v1 : V) (x1 : α), vs = [v1] ∧ Same G H ∧ rep K G v1 x1 ∧ pre x1 ∧
  ∀ G2 H2 w, Ext G H G2 H2 → rep K G2 w (f x1) → (fr = true → New H w) → Q w H2
def Sp2 (K : PySem.W.Frag) (fr : Bool) (pre : α → β → Prop) (f : α → β → ζ) : Sp := fun vs H Q _ => ∃ (G : Hp) (v1 v2 : V) (x1 : α) (x2 : β), vs = [v1, v2] ∧ Same G H ∧ rep K G v1 x1 ∧ rep K G v2 x2 ∧ pre x1 x2 ∧
  ∀ G2 H2 w, Ext G H G2 H2 → rep K G2 w (f x1 x2) → (fr = true → New H w) → Q w H2
def Sp3 (K : PySem.W.Frag) (fr : Bool) (pre : α → β → γ → Prop) (f : α → β → γ → ζ) : Sp := fun vs H Q _ => ∃ (G : Hp) (v1 v2 v3 : V) (x1 : α) (x2 : β) (x3 : γ), vs = [v1, v2, v3] ∧ Same G H ∧ rep K G v1 x1 ∧ rep K G v2 x2 ∧ rep K G v3 x3 ∧ pre x1 x2 x3 ∧
  ∀ G2 H2 w, Ext G H G2 H2 → rep K G2 w (f x1 x2 x3) → (fr = true → New H w) → Q w H2
def Sp4 (K : PySem.W.Frag) (fr : Bool) (pre : α → β → γ → δ → Prop) (f : α → β → γ → δ → ζ) : Sp := fun vs H Q _ => ∃ (G : Hp) (v1 v2 v3 v4 : V) (x1 : α) (x2 : β) (x3 : γ) (x4 : δ), vs = [v1, v2, v3, v4] ∧ Same G H ∧ rep K G v1 x1 ∧ rep K G v2 x2 ∧ rep K G v3 x3 ∧ rep K G v4 x4 ∧ pre x1 x2 x3 x4 ∧
  ∀ G2 H2 w, Ext G H G2 H2 → rep K G2 w (f x1 x2 x3 x4) → (fr = true → New H w) → Q w H2
def Sp5 (K : PySem.W.Frag) (fr : Bool) (pre : α → β → γ → δ → ε → Prop) (f : α → β → γ → δ → ε → ζ) : Sp := fun vs H Q _ => ∃ (G : Hp) (v1 v2 v3 v4 v5 : V) (x1 : α) (x2 : β) (x3 : γ) (x4 : δ) (x5 : ε), vs = [v1, v2, v3, v4, v5] ∧ Same G H ∧ rep K G v1 x1 ∧ rep K G v2 x2 ∧ rep K G v3 x3 ∧ rep K G v4 x4 ∧ rep K G v5 x5 ∧ pre x1 x2 x3 x4 x5 ∧
  ∀ G2 H2 w, Ext G H G2 H2 → rep K G2 w (f x1 x2 x3 x4 x5) → (fr = true → New H w) → Q w H2
variable {k : Nat} {n : Str} {p : Pos} {fr : Bool} {e1 e2 e3 e4 e5 : Expr} {x1 : α} {x2 : β} {x3 : γ} {x4 : δ} {x5 : ε}
theorem ev_c1 {pre : α → Prop} {f : α → ζ} (C : Cal X.prog X.w X.K X.mg X.base k n (Sp1 X.K fr pre f)) (hr : Room k X.A) (hg : Gl X n) (h1 : Ev X e1 σ G H x1) (hp : pre x1) (hdb : (n == ("__debug__" : Str)) = false := by decide)
    (he : starEach [e1] X.env = (false, eval e1 X.env) :: starEach [] X.env := by rfl) : Ev X (.Call (.Name n p) [e1] [] pos) σ G H (f x1) :=
  ev_call C hr hg (ea_cons h1 ea_nil he) (fun G1 H1 vs x l ⟨v, r, e, rv, e'⟩ Q q => ⟨G1, v, x1, by rw [e, e'], x.s, rv, hp, fun G2 H2 w x r _ => q G2 H2 w x r⟩) hdb he rfl
theorem ev_c2 {pre : α → β → Prop} {f : α → β → ζ} (C : Cal X.prog X.w X.K X.mg X.base k n (Sp2 X.K fr pre f)) (hr : Room k X.A) (hg : Gl X n) (h1 : Ev X e1 σ G H x1) (h2 : Ev X e2 σ G H x2) (hp : pre x1 x2) (hdb : (n == ("__debug__" : Str)) = false := by decide)
    (he : starEach [e1, e2] X.env = (false, eval e1 X.env) :: starEach [e2] X.env := by rfl) (he2 : starEach [e2] X.env = (false, eval e2 X.env) :: starEach [] X.env := by rfl) (hpl : (backTo pos (starEach [e2] X.env)).any (·.1) = false := by rfl) : Ev X (.Call (.Name n p) [e1, e2] [] pos) σ G H (f x1 x2) :=
  ev_call C hr hg (ea_cons h1 (ea_cons h2 ea_nil he2) he) (fun G1 H1 vs x l ⟨v, r, e, rv, v2, r2, e', rv2, e''⟩ Q q => ⟨G1, v, v2, x1, x2, by rw [e, e', e''], x.s, rv, rv2, hp, fun G2 H2 w x r _ => q G2 H2 w x r⟩) hdb he hpl
theorem ev_c3 {pre : α → β → γ → Prop} {f : α → β → γ → ζ} (C : Cal X.prog X.w X.K X.mg X.base k n (Sp3 X.K fr pre f)) (hr : Room k X.A) (hg : Gl X n) (h1 : Ev X e1 σ G H x1) (h2 : Ev X e2 σ G H x2) (h3 : Ev X e3 σ G H x3) (hp : pre x1 x2 x3) (hdb : (n == ("__debug__" : Str)) = false := by decide)
    (he : starEach [e1, e2, e3] X.env = (false, eval e1 X.env) :: starEach [e2, e3] X.env := by rfl) (he2 : starEach [e2, e3] X.env = (false, eval e2 X.env) :: starEach [e3] X.env := by rfl) (he3 : starEach [e3] X.env = (false, eval e3 X.env) :: starEach [] X.env := by rfl) (hpl : (backTo pos (starEach [e2, e3] X.env)).any (·.1) = false := by rfl) : Ev X (.Call (.Name n p) [e1, e2, e3] [] pos) σ G H (f x1 x2 x3) :=
  ev_call C hr hg (ea_cons h1 (ea_cons h2 (ea_cons h3 ea_nil he3) he2) he) (fun G1 H1 vs x l ⟨v, r, e, rv, v2, r2, e', rv2, v3, r3, e'', rv3, e'''⟩ Q q => ⟨G1, v, v2, v3, x1, x2, x3, by rw [e, e', e'', e'''], x.s, rv, rv2, rv3, hp, fun G2 H2 w x r _ => q G2 H2 w x r⟩) hdb he hpl
theorem ev_c4 {pre : α → β → γ → δ → Prop} {f : α → β → γ → δ → ζ} (C : Cal X.prog X.w X.K X.mg X.base k n (Sp4 X.K fr pre f)) (hr : Room k X.A) (hg : Gl X n) (h1 : Ev X e1 σ G H x1) (h2 : Ev X e2 σ G H x2) (h3 : Ev X e3 σ G H x3) (h4 : Ev X e4 σ G H x4) (hp : pre x1 x2 x3 x4) (hdb : (n == ("__debug__" : Str)) = false := by decide)
    (he : starEach [e1, e2, e3, e4] X.env = (false, eval e1 X.env) :: starEach [e2, e3, e4] X.env := by rfl) (he2 : starEach [e2, e3, e4] X.env = (false, eval e2 X.env) :: starEach [e3, e4] X.env := by rfl) (he3 : starEach [e3, e4] X.env = (false, eval e3 X.env) :: starEach [e4] X.env := by rfl) (he4 : starEach [e4] X.env = (false, eval e4 X.env) :: starEach [] X.env := by rfl) (hpl : (backTo pos (starEach [e2, e3, e4] X.env)).any (·.1) = false := by rfl) : Ev X (.Call (.Name n p) [e1, e2, e3, e4] [] pos) σ G H (f x1 x2 x3 x4) :=
  ev_call C hr hg (ea_cons h1 (ea_cons h2 (ea_cons h3 (ea_cons h4 ea_nil he4) he3) he2) he) (fun G1 H1 vs x l ⟨v, r, e, rv, v2, r2, e', rv2, v3, r3, e'', rv3, v4, r4, e3', rv4, e4'⟩ Q q => ⟨G1, v, v2, v3, v4, x1, x2, x3, x4, by rw [e, e', e'', e3', e4'], x.s, rv, rv2, rv3, rv4, hp, fun G2 H2 w x r _ => q G2 H2 w x r⟩) hdb he hpl
end sps
/-- a built-in by name -/
theorem ev_callB {id : String} {r : List V → Hp → VK → Prop} {n : Str} {p : Pos} {A : Hp → Hp → List V → Prop} (hc : CallR X (.builtin id) r) (hg : Gl X n) (hm : X.mg n = none) (hv : bootBuiltins n = some (.builtin id)) (ha : EvA X (e :: es) σ G H A)
    (k : ∀ G1 H1 vs, Ext G H G1 H1 → HLen H1 → A G1 H1 vs → ∀ Q : VK, (∀ G2 H2 w, Ext G1 H1 G2 H2 → P G2 H2 w → Q w H2) → r vs H1 Q)
    (hn : n ≠ "__name__" := by decide) (hdb : (n == ("__debug__" : Str)) = false := by decide) (he : starEach (e :: es) X.env = (false, eval e X.env) :: starEach es X.env := by rfl) (hpl : (backTo pos (starEach es X.env)).any (·.1) = false := by rfl) : EvP X (.Call (.Name n p) (e :: es) [] pos) σ G H P :=
  evP_of (pe_callB hc hg hm hv pa_sem hn hdb he hpl) fun G1 H1 x1 Q q => ha G1 H1 x1 _ fun G2 H2 vs x2 l2 pa => k G2 H2 vs (x1.trans x2) l2 pa Q fun G3 H3 w x3 pw => q G3 H3 w (x2.trans x3) pw
theorem ev_callTy {T : String} {r : List V → Hp → VK → Prop} {n : Str} {p : Pos} {A : Hp → Hp → List V → Prop} (hc : CallR X (.type T) r) (hg : Gl X n) (hm : X.mg n = none) (hv : bootBuiltins n = some (.type T)) (ha : EvA X (e :: es) σ G H A)
    (k : ∀ G1 H1 vs, Ext G H G1 H1 → HLen H1 → A G1 H1 vs → ∀ Q : VK, (∀ G2 H2 w, Ext G1 H1 G2 H2 → P G2 H2 w → Q w H2) → r vs H1 Q)
    (hn : n ≠ "__name__" := by decide) (hdb : (n == ("__debug__" : Str)) = false := by decide) (he : starEach (e :: es) X.env = (false, eval e X.env) :: starEach es X.env := by rfl) (hpl : (backTo pos (starEach es X.env)).any (·.1) = false := by rfl) : EvP X (.Call (.Name n p) (e :: es) [] pos) σ G H P :=
  evP_of (pe_callTy hc hg hm hv pa_sem hn hdb he hpl) fun G1 H1 x1 Q q => ha G1 H1 x1 _ fun G2 H2 vs x2 l2 pa => k G2 H2 vs (x1.trans x2) l2 pa Q fun G3 H3 w x3 pw => q G3 H3 w (x2.trans x3) pw
/-- a name that is the built-in still -/
structure Bl (X : Cx) (n : Str) : Prop where
  g : Gl X n
  m : X.mg n = none
variable {p : Pos}
theorem ev_len {α : Type} {inst : Rep α} {xs : List α} [MonoC P] [s : AsSeq X.K P α inst xs] (B : Bl X "len") (h : EvP X e σ G H P) (he : starEach [e] X.env = (false, eval e X.env) :: starEach [] X.env := by rfl) : Ev X (.Call (.Name "len" p) [e] [] pos) σ G H (xs.length : Int) :=
  ev_callB call_len_seq B.g B.m PySem.boot_len (ea_cons h ea_nil he) (fun G1 H1 vs x l ⟨v, r, e1, pv, e2⟩ Q q => by
    obtain ⟨a, us, e, g, pr⟩ := s.seq _ _ _ x.s pv
    exact ⟨a, us, by rw [e1, e2, e], .inl g, q G1 H1 _ (Ext.refl x.s) (by rw [paired_len pr]; rfl)⟩) (by decide) (by decide) he rfl
theorem ev_max (B : Bl X "max") (hc : X.calm = true) (h1 : Ev X a σ G H i) (h2 : Ev X b σ G H j) (he : starEach [a, b] X.env = (false, eval a X.env) :: starEach [b] X.env := by rfl) (he2 : starEach [b] X.env = (false, eval b X.env) :: starEach [] X.env := by rfl)
    (hpl : (backTo pos (starEach [b] X.env)).any (·.1) = false := by rfl) : Ev X (.Call (.Name "max" p) [a, b] [] pos) σ G H (if j > i then j else i) :=
  ev_callB (call_max2 hc) B.g B.m boot_max (ea_cons h1 (ea_cons h2 ea_nil he2) he) (fun G1 H1 vs x l ⟨v, r, e1, pv, v2, r2, e2, pv2, e3⟩ Q q =>
    ⟨i, j, by rw [e1, e2, e3, show v = _ from pv, show v2 = _ from pv2], q G1 H1 _ (Ext.refl x.s) rfl⟩) (by decide) (by decide) he hpl
theorem ev_min (B : Bl X "min") (hc : X.calm = true) (h1 : Ev X a σ G H i) (h2 : Ev X b σ G H j) (he : starEach [a, b] X.env = (false, eval a X.env) :: starEach [b] X.env := by rfl) (he2 : starEach [b] X.env = (false, eval b X.env) :: starEach [] X.env := by rfl)
    (hpl : (backTo pos (starEach [b] X.env)).any (·.1) = false := by rfl) : Ev X (.Call (.Name "min" p) [a, b] [] pos) σ G H (if j < i then j else i) :=
  ev_callB (call_min2 hc) B.g B.m boot_min (ea_cons h1 (ea_cons h2 ea_nil he2) he) (fun G1 H1 vs x l ⟨v, r, e1, pv, v2, r2, e2, pv2, e3⟩ Q q =>
    ⟨i, j, by rw [e1, e2, e3, show v = _ from pv, show v2 = _ from pv2], q G1 H1 _ (Ext.refl x.s) rfl⟩) (by decide) (by decide) he hpl
theorem ev_sum {xs : List Int} [MonoC P] [s : AsSeq X.K P Int instRepInt xs] (B : Bl X "sum") (hc : X.calm = true) (h : EvP X e σ G H P) (he : starEach [e] X.env = (false, eval e X.env) :: starEach [] X.env := by rfl) : Ev X (.Call (.Name "sum" p) [e] [] pos) σ G H xs.sum :=
  ev_callB (cr_sum hc) B.g B.m boot_sum (ea_cons h ea_nil he) (fun G1 H1 vs x l ⟨v, r, e1, pv, e2⟩ Q q => by
    obtain ⟨a, us, e, g, pr⟩ := s.seq _ _ _ x.s pv
    rw [paired_ints pr] at g
    exact ⟨a, xs, by rw [e1, e2, e], g, q G1 H1 _ (Ext.refl x.s) rfl⟩) (by decide) (by decide) he rfl
/-- list(xs): a copy -/
theorem ev_copy {α : Type} {inst : Rep α} {xs : List α} [MonoC P] [s : AsSeq X.K P α inst xs] (B : Bl X "list") (h : EvP X e σ G H P) (he : starEach [e] X.env = (false, eval e X.env) :: starEach [] X.env := by rfl) : Ev X (.Call (.Name "list" p) [e] [] pos) σ G H xs :=
  ev_callTy call_list_of B.g B.m PyProof.Rows.boot_list (ea_cons h ea_nil he) (fun G1 H1 vs x l ⟨v, r, e1, pv, e2⟩ Q q => by
    obtain ⟨a, us, e, g, pr⟩ := s.seq _ _ _ x.s pv
    exact ⟨a, us, by rw [e1, e2, e], .inl g, fun p hp => q (upd G1 p (.lst us)) _ _ ((Ext.refl x.s).new hp) ⟨p, us, rfl, upd_same, pair_up (same_new (x.s.free hp)) pr⟩⟩) (by decide) (by decide) he rfl
theorem ev_intB (B : Bl X "int") (h : Ev X e σ G H x) (he : starEach [e] X.env = (false, eval e X.env) :: starEach [] X.env := by rfl) : Ev X (.Call (.Name "int" p) [e] [] pos) σ G H (if x = true then 1 else 0 : Int) :=
  ev_callTy call_int1 B.g B.m PyProof.Rows.boot_int (ea_cons h ea_nil he) (fun G1 H1 vs y l ⟨v, r, e1, pv, e2⟩ Q q => .inr ⟨x, by rw [e1, e2, show v = _ from pv], q G1 H1 _ (Ext.refl y.s) rfl⟩) (by decide) (by decide) he rfl

/-! ### lists -/
theorem b_cat {α : Type} {ia : Rep α} {xs ys : List α} [sa : AsOwn X.K Pa α ia xs] [sb : AsOwn X.K Pb α ia ys] (hl : xs.length + ys.length ≤ sizeLine) : Bin X (binaryOp .Add) Pa Pb (Is X.K (xs ++ ys)) G H :=
  ⟨_, op_cat, fun G1 H1 v u x _ h1 h2 Q q => by
    obtain ⟨a, us, e, g, pr⟩ := sa.own _ _ _ x.s h1
    obtain ⟨a2, us2, e2, g2, pr2⟩ := sb.own _ _ _ x.s h2
    exact ⟨a, a2, us, us2, e, e2, g, g2, by rw [paired_len pr, paired_len pr2]; exact hl, fun p hp => q (upd G1 p (.lst (us ++ us2))) _ _ ((Ext.refl x.s).new hp) ⟨p, _, rfl, upd_same, pair_up (same_new (x.s.free hp)) (paired_app pr pr2)⟩⟩⟩
theorem b_rep {α : Type} {ia : Rep α} {xs : List α} {k : Int} [sa : AsOwn X.K Pa α ia xs] (h1 : -(2 ^ 63) ≤ k) (h2 : k < 2 ^ 63) (hl : xs.length * k.toNat ≤ sizeLine) : Bin X (binaryOp .Mult) Pa (Is X.K k) (Is X.K (List.replicate k.toNat xs).flatten) G H :=
  ⟨_, op_rep, fun G1 H1 v u x _ e1 e2 Q q => by
    obtain ⟨a, us, e, g, pr⟩ := sa.own _ _ _ x.s e1
    refine ⟨a, k, us, e, e2, g, h1, h2, by rw [paired_len pr]; exact hl, fun p hp => q (upd G1 p (.lst _)) _ _ ((Ext.refl x.s).new hp) ⟨p, _, rfl, upd_same, pair_up (same_new (x.s.free hp)) ?_⟩⟩
    have z : ∀ n : Nat, Paired (rep X.K G1) (List.replicate n us).flatten (List.replicate n xs).flatten := fun n => by
      induction n with
      | zero => exact .nil
      | succ n ih =>
        rw [List.replicate_succ, List.replicate_succ, List.flatten_cons, List.flatten_cons]
        exact paired_app pr ih
    exact z _⟩
theorem ixN_of {n : Nat} {i : Int} (h0 : 0 ≤ i) (h1 : i < n) : ixN n i = some i.toNat := by
  unfold ixN
  rw [if_pos h0, if_pos h1]
theorem ixN_neg {n : Nat} {i : Int} (h0 : i < 0) (h1 : -(n : Int) ≤ i) : ixN n i = some (i + n).toNat := by
  unfold ixN
  rw [if_neg (by omega), if_pos h1]
theorem ixN_lt {n : Nat} {i : Int} {j : Nat} (h : ixN n i = some j) : j < n := (ixN_seq h).2.1
theorem ev_ixN {α : Type} {inst : Rep α} {xs : List α} [MonoC P] [s : AsSeq X.K P α inst xs] (d : α) {j : Nat} (h : EvP X a σ G H P) (hi : Ev X b σ G H i) (hj : ixN xs.length i = some j) (hs : PlainIx b := by intro _ _; rfl) : Ev X (.Subscript a b pos) σ G H (xs.getD j d) :=
  evP_of (pe_ix ix_list pe_sem pe_sem hs) (bin_go h hi fun G1 H1 v u x _ e1 e2 Q q => by
    obtain ⟨a, us, e, g, pr⟩ := s.seq _ _ _ x.s e1
    have hlt := ixN_lt hj
    have hg : xs[j]? = some (xs.getD j d) := by
      rw [List.getD_eq_getElem?_getD, List.getElem?_eq_getElem hlt]
      rfl
    obtain ⟨w, hw, rw'⟩ := paired_get pr hg
    refine ⟨a, us, i, w, e, e2, g, ?_, q G1 H1 w (Ext.refl x.s) rw'⟩
    unfold atI
    rw [paired_len pr, hj]
    exact hw)
theorem ev_ix {α : Type} {inst : Rep α} {xs : List α} [MonoC P] [s : AsSeq X.K P α inst xs] (d : α) (h : EvP X a σ G H P) (hi : Ev X b σ G H i) (h0 : 0 ≤ i) (h1 : i < (xs.length : Int)) (hs : PlainIx b := by intro _ _; rfl) : Ev X (.Subscript a b pos) σ G H (xs.getD i.toNat d) := ev_ixN d h hi (ixN_of h0 h1) hs
/-- t[0], t[1] of a pair -/
theorem ev_fst {α β : Type} [Rep α] [Rep β] {x : α × β} (h : Ev X a σ G H x) (hi : Ev X b σ G H (0 : Int)) (hs : PlainIx b := by intro _ _; rfl) : Ev X (.Subscript a b pos) σ G H x.1 :=
  evP_of (pe_ix ix_tup pe_sem pe_sem hs) (bin_go h hi fun G1 H1 v u y _ e1 e2 Q q => by
    obtain ⟨a, u1, w, e, g, p1, p2⟩ := e1
    exact ⟨a, _, 0, u1, e, e2, SqT.of (y.s _ _ g), rfl, q G1 H1 _ (Ext.refl y.s) p1⟩)
theorem ev_snd {α β : Type} [Rep α] [Rep β] {x : α × β} (h : Ev X a σ G H x) (hi : Ev X b σ G H (1 : Int)) (hs : PlainIx b := by intro _ _; rfl) : Ev X (.Subscript a b pos) σ G H x.2 :=
  evP_of (pe_ix ix_tup pe_sem pe_sem hs) (bin_go h hi fun G1 H1 v u y _ e1 e2 Q q => by
    obtain ⟨a, u1, w, e, g, p1, p2⟩ := e1
    exact ⟨a, _, 1, w, e, e2, SqT.of (y.s _ _ g), rfl, q G1 H1 _ (Ext.refl y.s) p2⟩)
/-- a slice's part -/
def EvO (X : Cx) (e : Option Expr) (σ : St) (G H : Hp) (o : Option Int) : Prop := ∃ t, PO X e t ∧ ∀ G1 H1, Ext G H G1 H1 → ∀ Q : Option Int → Hp → Prop, (∀ G2 H2, Ext G1 H1 G2 H2 → Q o H2) → t σ H1 Q
theorem eo_none : EvO X none σ G H none := ⟨_, po_none, fun G1 H1 x1 Q q => q G1 H1 (Ext.refl x1.s)⟩
theorem eo_some (h : Ev X e σ G H i) : EvO X (some e) σ G H (some i) := ⟨_, po_some pe_sem, fun G1 H1 x1 Q q => h G1 H1 x1 _ fun G2 H2 v x2 _ r => ⟨i, r, q G2 H2 x2⟩⟩
def cut {α : Type} (xs : List α) (lo hi : Option Int) : List α := (xs.drop (HT.sIx xs.length 0 lo)).take (HT.sIx xs.length xs.length hi - HT.sIx xs.length 0 lo)
theorem cut_le {α : Type} (xs : List α) (lo hi : Option Int) : (cut xs lo hi).length ≤ xs.length := by
  unfold cut
  rw [List.length_take, List.length_drop]
  omega
theorem getD_bd {xs : List Int} {d lo hi : Int} (i : Nat) (h : ∀ x ∈ xs, lo ≤ x ∧ x ≤ hi) (hd : lo ≤ d ∧ d ≤ hi) : lo ≤ xs.getD i d ∧ xs.getD i d ≤ hi := by
  rw [List.getD_eq_getElem?_getD]
  cases e : xs[i]? with
  | none => exact hd
  | some y => exact h y (List.mem_of_getElem? e)
theorem getD_bd' {xs : List Int} {d lo hi : Int} {i : Nat} (hl : i < xs.length) (h : ∀ x ∈ xs, lo ≤ x ∧ x ≤ hi) : lo ≤ xs.getD i d ∧ xs.getD i d ≤ hi := by
  rw [List.getD_eq_getElem?_getD, List.getElem?_eq_getElem hl]
  exact h _ (List.getElem_mem hl)
theorem paired_cut {α : Type} {F : V → α → Prop} {vs : List V} {xs : List α} {lo hi : Option Int} (h : Paired F vs xs) : Paired F (cutV vs lo hi) (cut xs lo hi) := by
  unfold cutV cut
  rw [paired_len h]
  exact paired_take _ (paired_drop _ h)
theorem ev_sl {α : Type} {inst : Rep α} {xs : List α} {lo hi : Option Expr} {l u : Option Int} {p2 : Pos} [m : MonoC P] [s : AsSeq X.K P α inst xs] (h : EvP X a σ G H P) (h1 : EvO X lo σ G H l) (h2 : EvO X hi σ G H u) : Ev X (.Subscript a (.Slice lo hi none p2) pos) σ G H (cut xs l u) := by
  obtain ⟨t1, p1, k1⟩ := h1
  obtain ⟨t2, p2, k2⟩ := h2
  exact evP_of (pe_slice sl_list pe_sem p1 p2) fun G1 H1 x1 Q q => h G1 H1 x1 _ fun G2 H2 v x2 _ pv => k1 G2 H2 (x1.trans x2) _ fun G3 H3 x3 => k2 G3 H3 ((x1.trans x2).trans x3) _ fun G4 H4 x4 => by
    obtain ⟨a, us, e, g, pr⟩ := s.seq _ _ _ x4.s (m.m _ _ _ _ _ (x3.trans x4) pv)
    exact ⟨a, us, e, g, fun p hp => q (upd G4 p (.lst _)) _ _ ((x2.trans (x3.trans x4)).new hp) ⟨p, _, rfl, upd_same, pair_up (same_new (x4.s.free hp)) (paired_cut pr)⟩⟩
end
end RL

namespace RL
open PySem PySem.Spec PyProof.Rows L2 Rep
/-! ### what is walked -/
/-- while the frozen part stands, J gives the data xs, one after another -/
def WalkOf {α : Type} [Rep α] (K : PySem.W.Frag) (J : It) (G : Hp) (xs : List α) : Prop :=
  ∀ G' H', Same G G' → Same G' H' → (∀ i, i < xs.length → J.go i H') ∧ J.stop xs.length H' ∧ ∀ i x v H'', xs[i]? = some x → J.yld i H' v H'' → ∃ G'', Ext G' H' G'' H'' ∧ rep K G'' v x
def EvI {α : Type} [Rep α] (X : Cx) (tg iter : Expr) (σ : St) (G H : Hp) (xs : List α) : Prop :=
  ∃ wi : TI, PI X tg iter wi ∧ ∀ G1 H1, Ext G H G1 H1 → ∀ R : It → Hp → Prop, (∀ J G2 H2, Ext G1 H1 G2 H2 → xs.length ≤ sizeLine → WalkOf X.K J G2 xs → R J H2) → wi σ H1 R
/-- P tells a list that stands still -/
class AsFrz (K : PySem.W.Frag) (P : PV) (α : outParam Type) (inst : outParam (Rep α)) (xs : outParam (List α)) : Prop where
  frz : ∀ G H v, Same G H → P G H v → SeqAt K xs G G v
instance {α : Type} [i : Rep α] {K : PySem.W.Frag} {xs : List α} : AsFrz K (Is K xs) α i xs := ⟨fun _ _ _ s ⟨a, vs, e, g, p⟩ => ⟨a, vs, e, .of g, p⟩⟩
instance {K : PySem.W.Frag} {x : Scr} : AsFrz K (Is K x) Int instRepInt x.ns := ⟨fun _ _ _ s ⟨a, e, g⟩ => ⟨a, _, e, g, ints_paired _⟩⟩
/-- lo, lo + 1, .. below hi -/
def rng (lo hi : Int) : List Int := (List.range (hi - lo).toNat).map fun (k : Nat) => lo + (k : Int)
theorem rng_len {lo hi : Int} : (rng lo hi).length = (hi - lo).toNat := by simp [rng]
theorem rng_get {lo hi : Int} {i : Nat} {x : Int} (h : (rng lo hi)[i]? = some x) : i < (hi - lo).toNat ∧ x = lo + (i : Int) := by
  unfold rng at h
  rw [List.getElem?_map] at h
  by_cases hi : i < (hi - lo).toNat
  · rw [List.getElem?_range hi] at h
    exact ⟨hi, (Option.some.inj h).symm⟩
  · rw [List.getElem?_eq_none (by simpa using hi)] at h
    cases h
theorem mem_rng {lo hi x : Int} : x ∈ rng lo hi ↔ lo ≤ x ∧ x < hi := by
  unfold rng
  rw [List.mem_map]
  constructor
  · rintro ⟨k, hk, e⟩
    have := List.mem_range.mp hk
    omega
  · intro h
    exact ⟨(x - lo).toNat, List.mem_range.mpr (by omega), by omega⟩
def enum {α : Type} (xs : List α) : List (Int × α) := xs.zipIdx.map fun p => ((p.2 : Int), p.1)
theorem enum_len {α : Type} (xs : List α) : (enum xs).length = xs.length := by simp [enum]
theorem enum_get {α : Type} {xs : List α} {i : Nat} {p : Int × α} (h : (enum xs)[i]? = some p) : p.1 = (i : Int) ∧ xs[i]? = some p.2 := by
  unfold enum at h
  rw [List.getElem?_map, List.getElem?_zipIdx] at h
  cases q : xs[i]? with
  | none =>
    rw [q] at h
    cases h
  | some x =>
    rw [q] at h
    have e := Option.some.inj h
    rw [← e]
    exact ⟨by simp, rfl⟩
section
variable {X : Cx} {σ : St} {G H : Hp} {P Pa Pb : PV} {e a b c tg : Expr} {es : List Expr} {pos p : Pos} {i j k : Int}
theorem ei_list {α : Type} {inst : Rep α} {xs : List α} [s : AsFrz X.K P α inst xs] (h : EvP X e σ G H P) : EvI X tg e σ G H xs :=
  ⟨_, pi_list pe_sem, fun G1 H1 x1 R r => h G1 H1 x1 _ fun G2 H2 v x2 l2 pv => by
    obtain ⟨a, us, e, g, pr⟩ := s.frz _ _ _ x2.s pv
    refine ⟨a, e, ⟨us, x2.s.seq g⟩, r _ G2 H2 x2 (by rw [← paired_len pr]; exact sql_len l2 (x2.s.seq g)) fun G' H' s1 s2 => ?_⟩
    have hq : SqL X.K H' a us := s2.seq (s1.seq g)
    refine ⟨fun i hi => ?_, ⟨us, hq, by rw [paired_len pr]; exact Nat.le_refl _⟩, fun i x v H'' hx y => ?_⟩
    · rw [← paired_len pr] at hi
      exact ⟨us, us[i], hq, List.getElem?_eq_getElem hi⟩
    · obtain ⟨rfl, y⟩ := y
      obtain ⟨w, hw, rw'⟩ := paired_get pr hx
      have e : w = v := Option.some.inj (hw.symm.trans (y us hq))
      exact ⟨G', Ext.refl s2, up s1 (e ▸ rw')⟩⟩
theorem walk_rng {K : PySem.W.Frag} {lo : Int} {n : Nat} {hi : Int} (e : n = (hi - lo).toNat) : WalkOf K (Itr lo n) G (rng lo hi) := fun G' H' s1 s2 => by
  subst e
  refine ⟨fun i h => by rw [rng_len] at h; exact h, by rw [rng_len]; exact Nat.le_refl _, fun i x v H'' hx y => ?_⟩
  obtain ⟨rfl, y⟩ := y
  obtain ⟨_, e⟩ := rng_get hx
  rw [e]
  exact ⟨G', Ext.refl s2, y⟩
theorem ei_range1 (B : Bl X "range") (h : Ev X a σ G H j) (h1 : -(2 ^ 62) ≤ j) (h2 : j ≤ 16777216) (he : starEach [a] X.env = (false, eval a X.env) :: starEach [] X.env := by rfl) (hs : starEach [a] X.env = [(false, eval a X.env)] := by rfl) :
    EvI X tg (.Call (.Name "range" p) [a] [] pos) σ G H (rng 0 j) :=
  ⟨_, pi_range1 B.g B.m (pa_cons pe_sem pa_nil he) hs, fun G1 H1 x1 R r => h G1 H1 x1 _ fun G2 H2 v x2 _ pv => ⟨j, by rw [show v = _ from pv], h1, by omega, r _ G2 H2 x2 (by rw [rng_len, sizeLine_eq]; omega) (walk_rng (by rw [Int.sub_zero]))⟩⟩
theorem ei_range2 (B : Bl X "range") (h : Ev X a σ G H i) (h' : Ev X b σ G H j) (hb : (-(2 ^ 62) ≤ i ∧ i < 2 ^ 62) ∧ -(2 ^ 62) ≤ j ∧ j < 2 ^ 62 ∧ j - i ≤ 16777216) (he : starEach [a, b] X.env = (false, eval a X.env) :: starEach [b] X.env := by rfl) (he2 : starEach [b] X.env = (false, eval b X.env) :: starEach [] X.env := by rfl)
    (hs : starEach [a, b] X.env = [(false, eval a X.env), (false, eval b X.env)] := by rfl) (hs2 : starEach [b] X.env = [(false, eval b X.env)] := by rfl) :
    EvI X tg (.Call (.Name "range" p) [a, b] [] pos) σ G H (rng i j) :=
  ⟨_, pi_range2 B.g B.m (pa_cons pe_sem (pa_cons pe_sem pa_nil he2) he) hs hs2, fun G1 H1 x1 R r => h G1 H1 x1 _ fun G2 H2 v x2 _ pv => h' G2 H2 (x1.trans x2) _ fun G3 H3 u x3 _ pu =>
    ⟨i, j, by rw [show v = _ from pv, show u = _ from pu], ⟨hb.1.1, hb.1.2, hb.2.1, hb.2.2.1⟩, r _ G3 H3 (x2.trans x3) (by rw [rng_len, sizeLine_eq]; omega) (walk_rng rfl)⟩⟩
theorem pair_new {α β : Type} [Rep α] [Rep β] {K : PySem.W.Frag} {G H : Hp} {T : Addr} {v u : V} {x : α} {y : β} (s : Same G H) (hT : H T = none) (hv : rep K G v x) (hu : rep K G u y) :
    ∃ G'', Ext G H G'' (upd H T (.tup [v, u])) ∧ rep K G'' (V.ref T) (x, y) :=
  ⟨upd G T (.tup [v, u]), (Ext.refl s).new hT, ⟨T, v, u, rfl, upd_same, up (same_new (s.free hT)) hv, up (same_new (s.free hT)) hu⟩⟩
theorem ei_enum {α : Type} {inst : Rep α} {xs : List α} {elts : List Expr} {kk : Nat} {tpos : Pos} [s : AsFrz X.K P α inst xs] (B : Bl X "enumerate") (h : EvP X e σ G H P) (he : starEach [e] X.env = (false, eval e X.env) :: starEach [] X.env := by rfl) (hs : starEach [e] X.env = [(false, eval e X.env)] := by rfl) :
    EvI X (.Tuple elts kk tpos) (.Call (.Name "enumerate" p) [e] [] pos) σ G H (enum xs) :=
  ⟨_, pi_enum B.g B.m (pa_cons pe_sem pa_nil he) hs, fun G1 H1 x1 R r => h G1 H1 x1 _ fun G2 H2 v x2 l2 pv => by
    obtain ⟨a, us, e, g, pr⟩ := s.frz _ _ _ x2.s pv
    refine ⟨a, us, by rw [e], x2.s.seq g, r _ G2 H2 x2 (by rw [enum_len, ← paired_len pr]; exact sql_len l2 (x2.s.seq g)) fun G' H' s1 s2 => ?_⟩
    have hq : SqL X.K H' a us := s2.seq (s1.seq g)
    refine ⟨fun i hi => ?_, ⟨us, hq, by rw [enum_len, paired_len pr]; exact Nat.le_refl _⟩, fun i x v H'' hx y => ?_⟩
    · rw [enum_len, ← paired_len pr] at hi
      exact ⟨us, us[i], hq, List.getElem?_eq_getElem hi⟩
    · obtain ⟨T, w, rfl, hT, rfl, y⟩ := y
      obtain ⟨e1, e2⟩ := enum_get hx
      obtain ⟨w', hw, rw'⟩ := paired_get pr e2
      have e : w' = w := Option.some.inj (hw.symm.trans (y us hq))
      subst e
      obtain ⟨x1, x2⟩ := x
      have e1 : x1 = (i : Int) := e1
      subst e1
      exact pair_new (x := (i : Int)) (y := x2) (K := X.K) s2 hT rfl (up s1 rw')⟩
theorem ei_zip {α β : Type} {ia : Rep α} {ib : Rep β} {xs : List α} {ys : List β} {elts : List Expr} {kk : Nat} {tpos : Pos} [m : MonoC Pa] [sa : AsFrz X.K Pa α ia xs] [sb : AsFrz X.K Pb β ib ys] (B : Bl X "zip") (h : EvP X a σ G H Pa) (h' : EvP X b σ G H Pb)
    (he : starEach [a, b] X.env = (false, eval a X.env) :: starEach [b] X.env := by rfl) (he2 : starEach [b] X.env = (false, eval b X.env) :: starEach [] X.env := by rfl) (hpl : (backTo pos (starEach [b] X.env)).any (·.1) = false := by rfl) :
    EvI X (.Tuple elts kk tpos) (.Call (.Name "zip" p) [a, b] [] pos) σ G H (xs.zip ys) :=
  ⟨_, pi_zip B.g B.m (pa_cons pe_sem (pa_cons pe_sem pa_nil he2) he) he hpl, fun G1 H1 x1 R r => h G1 H1 x1 _ fun G2 H2 v x2 _ pv => h' G2 H2 (x1.trans x2) _ fun G3 H3 u x3 l3 pu => by
    obtain ⟨a1, us, e, g, pr⟩ := sa.frz _ _ _ x3.s (m.m _ _ _ _ _ x3 pv)
    obtain ⟨a2, us2, e', g', pr'⟩ := sb.frz _ _ _ x3.s pu
    refine ⟨a1, a2, us, us2, by rw [e, e'], x3.s.seq g, x3.s.seq g', r _ G3 H3 (x2.trans x3) (by have z := sql_len l3 (x3.s.seq g); rw [paired_len pr] at z; rw [List.length_zip]; omega) fun G' H' s1 s2 => ?_⟩
    have hq : SqL X.K H' a1 us := s2.seq (s1.seq g)
    have hq' : SqL X.K H' a2 us2 := s2.seq (s1.seq g')
    refine ⟨fun i hi => ?_, ⟨us, us2, hq, hq', ?_⟩, fun i x v H'' hx y => ?_⟩
    · rw [List.length_zip, ← paired_len pr, ← paired_len pr'] at hi
      have h1 : i < us.length := by omega
      have h2 : i < us2.length := by omega
      exact ⟨us, us2, us[i], us2[i], hq, hq', List.getElem?_eq_getElem h1, List.getElem?_eq_getElem h2⟩
    · rw [List.length_zip, ← paired_len pr, ← paired_len pr']
      omega
    · obtain ⟨T, w, w2, rfl, hT, rfl, y, y2⟩ := y
      obtain ⟨e1, e2⟩ := List.getElem?_zip_eq_some.mp hx
      obtain ⟨w', hw, rw'⟩ := paired_get pr e1
      obtain ⟨w2', hw2, rw2'⟩ := paired_get pr' e2
      have e : w' = w := Option.some.inj (hw.symm.trans (y us hq))
      have e2 : w2' = w2 := Option.some.inj (hw2.symm.trans (y2 us2 hq'))
      subst e e2
      exact pair_new (x := x.1) (y := x.2) (K := X.K) s2 hT (up s1 rw') (up s1 rw2')⟩
theorem ei_rev {α : Type} {inst : Rep α} {xs : List α} [s : AsFrz X.K P α inst xs] (B : Bl X "reversed") (h : EvP X e σ G H P) (he : starEach [e] X.env = (false, eval e X.env) :: starEach [] X.env := by rfl) (hs : starEach [e] X.env = [(false, eval e X.env)] := by rfl) :
    EvI X tg (.Call (.Name "reversed" p) [e] [] pos) σ G H xs.reverse :=
  ⟨_, pi_reversed B.g B.m (pa_cons pe_sem pa_nil he) hs, fun G1 H1 x1 R r => h G1 H1 x1 _ fun G2 H2 v x2 l2 pv => by
    obtain ⟨a, us, e, g, pr⟩ := s.frz _ _ _ x2.s pv
    refine ⟨a, us, by rw [e], x2.s.seq g, r _ G2 H2 x2 (by rw [List.length_reverse, ← paired_len pr]; exact sql_len l2 (x2.s.seq g)) fun G' H' s1 s2 => ?_⟩
    have hq : SqL X.K H' a us := s2.seq (s1.seq g)
    refine ⟨fun i hi => ?_, by rw [List.length_reverse, paired_len pr]; exact Nat.le_refl _, fun i x v H'' hx y => ?_⟩
    · rw [List.length_reverse, ← paired_len pr] at hi
      exact ⟨hi, us, us[us.length - 1 - i]'(by omega), hq, List.getElem?_eq_getElem (by omega)⟩
    · obtain ⟨rfl, y⟩ := y
      have hi : i < xs.length := by
        have := (List.getElem?_eq_some_iff.mp hx).1
        rwa [List.length_reverse] at this
      rw [List.getElem?_reverse hi, ← paired_len pr] at hx
      obtain ⟨w, hw, rw'⟩ := paired_get pr hx
      have e : w = v := Option.some.inj (hw.symm.trans (y us hq))
      exact ⟨G', Ext.refl s2, up s1 (e ▸ rw')⟩⟩
theorem paired_rev {α β : Type} {F : α → β → Prop} : ∀ {vs : List α} {ys : List β}, Paired F vs ys → Paired F vs.reverse ys.reverse
  | _, _, .nil => .nil
  | _, _, .cons r t => by
    rw [List.reverse_cons, List.reverse_cons]
    exact paired_app (paired_rev t) (.cons r .nil)
theorem ev_revsl {α : Type} {inst : Rep α} {xs : List α} {k0 : Nat} {p1 p2 p3 : Pos} [s : AsSeq X.K P α inst xs] (h : EvP X e σ G H P) : Ev X (.Subscript e (.Slice none none (some (.UnaryOp .USub (.Constant (.int 1) k0 p1) p2)) p3) pos) σ G H xs.reverse :=
  evP_of (pe_revL pe_sem) fun G1 H1 x1 Q q => h G1 H1 x1 _ fun G2 H2 v x2 _ pv => by
    obtain ⟨a, us, e, g, pr⟩ := s.seq _ _ _ x2.s pv
    refine ⟨a, us, e, g, fun p hp => q (upd G2 p (.lst _)) _ _ (x2.new hp) ⟨p, _, rfl, upd_same, pair_up (same_new (x2.s.free hp)) ?_⟩⟩
    exact paired_rev pr

/-! ### comprehensions -/
/-- the tests of a clause -/
def EvTs (X : Cx) (ifs : List Expr) (σ : St) (G H : Hp) (b : Bool) : Prop := ∀ G1 H1, Ext G H G1 H1 → ∀ Q : Bool → Hp → Prop, (∀ G2 H2, Ext G1 H1 G2 H2 → Q b H2) →
  ∀ (pins : List (Addr × Obj)) (s : Shared), Inv X pins σ H1 s → wpAny (model X.prog X.w) X.A (forIn ifs true fun c r => if r = true then do let ok ← isTrue c X.env (eval c X.env); pure (ForInStep.yield ok) else pure (ForInStep.yield r)) (TP X pins σ Q) X.xe s
theorem ets_nil : EvTs X [] σ G H true := fun G1 H1 x1 Q q pins s I => pts_nil.run pins s σ H1 Q I (q G1 H1 (Ext.refl x1.s))
theorem ets_one {x : Bool} (h : EvT X e σ G H x) : EvTs X [e] σ G H x := fun G1 H1 x1 Q q pins s I => (pts_one pt_sem).run pins s σ H1 Q I (h G1 H1 x1 Q fun G2 H2 x2 _ => q G2 H2 x2)
/-- the context of a comprehension's block -/
abbrev InB (X : Cx) (scope : Scope) (s : Shared) (H0 : Hp) (C : Addr) (cl : List (Str × Addr)) (fp : List Addr) : Cx := X.blk s H0 scope (compEnvC scope cl C X.env) fp
def lcT (X : Cx) (scope : Scope) (ifs : List Expr) : TT := fun σ H Q => ∀ s H0 C cl fp (pins : List (Addr × Obj)) (s' : Shared), Inv (InB X scope s H0 C cl fp) pins σ H s' →
  wpAny (model X.prog X.w) X.A (forIn ifs true fun c r => if r = true then do let ok ← isTrue c (compEnvC scope cl C X.env) (eval c (compEnvC scope cl C X.env)); pure (ForInStep.yield ok) else pure (ForInStep.yield r)) (TP (InB X scope s H0 C cl fp) pins σ Q) (fun _ _ => False) s'
def lcE (X : Cx) (scope : Scope) (elt : Expr) : TE := fun σ H Q => ∀ s H0 C cl fp, tE (InB X scope s H0 C cl fp) elt σ H Q
theorem pts_lc {scope : Scope} {ifs : List Expr} : ∀ (s : Shared) (H : Hp) (C : Addr) (cl : List (Str × Addr)) (fp : List Addr), PTs (X.blk s H scope (compEnvC scope cl C X.env) fp) ifs (lcT X scope ifs) := fun s H C cl fp => ⟨fun pins s' _ _ _ I h => h s H C cl fp pins s' I⟩
theorem pe_lcE {scope : Scope} {elt : Expr} : ∀ (s : Shared) (H : Hp) (C : Addr) (cl : List (Str × Addr)) (fp : List Addr), PE (X.blk s H scope (compEnvC scope cl C X.env) fp) elt (lcE X scope elt) := fun s H C cl fp => ⟨fun pins s' _ _ _ I h => (h s H C cl fp).run pins s' I⟩
/-- what a target does with a datum: the slots behind it -/
abbrev TgT (α : Type) := Hp → α → St → St → Prop
def T1 {α : Type} [Rep α] (K : PySem.W.Frag) (i : Nat) : TgT α := fun G x σ σ' => ∃ v, rep K G v x ∧ σ' = σ.set i (some v)
def T2 {α β : Type} [Rep α] [Rep β] (K : PySem.W.Frag) (i j : Nat) : TgT (α × β) := fun G x σ σ' => ∃ u w, rep K G u x.1 ∧ rep K G w x.2 ∧ σ' = (σ.set i (some u)).set j (some w)
def Acts {α : Type} [Rep α] (K : PySem.W.Frag) (g : TG) (T : TgT α) : Prop := ∀ x v G H σ (Q : St → Hp → Prop), Same G H → rep K G v x → (∀ σ', T G x σ σ' → Q σ' H) → g v σ H Q
theorem acts1 {α : Type} [Rep α] {K : PySem.W.Frag} {i : Nat} : Acts K (gName i) (T1 (α := α) K i) := fun x v G H σ Q s r q => q _ ⟨v, r, rfl⟩
theorem acts2 {α β : Type} [Rep α] [Rep β] {K : PySem.W.Frag} {i j : Nat} : Acts K (gTup K 2 (gCons (gName i) (gCons (gName j) gNil))) (T2 (α := α) (β := β) K i j) := fun x v G H σ Q s r q => by
  obtain ⟨a, u, w, e, g, p1, p2⟩ := r
  exact ⟨a, _, e, .of (s _ _ g), rfl, u, [w], rfl, w, [], rfl, rfl, q _ ⟨u, w, p1, p2, rfl⟩⟩
theorem lc_go {α β : Type} [Rep α] [Rep β] {xs : List α} {f : α → β} {t : α → Bool} {elt : Expr} {ifs : List Expr} {scope : Scope} {vs : List Nat} {g : TG} {T : TgT α} {wi : TI}
    (hi : ∀ G1 H1, Ext G H G1 H1 → ∀ R : It → Hp → Prop, (∀ J G2 H2, Ext G1 H1 G2 H2 → xs.length ≤ sizeLine → WalkOf X.K J G2 xs → R J H2) → wi σ H1 R) (hg : Acts X.K g T) (hw : ∀ G x σ', T G x (wipe σ vs) σ' → wipe σ' vs = wipe σ vs)
    (ht : ∀ x G1 H1 σ', x ∈ xs → Ext G H G1 H1 → T G1 x (wipe σ vs) σ' → ∀ s H0 C cl fp, EvTs (InB X scope s H0 C cl fp) ifs σ' G1 H1 (t x))
    (he : ∀ x G1 H1 σ', x ∈ xs → t x = true → Ext G H G1 H1 → T G1 x (wipe σ vs) σ' → ∀ s H0 C cl fp, Ev (InB X scope s H0 C cl fp) elt σ' G1 H1 (f x))
    (hm : ∀ G1 H1 G2 H2 x σ', Ext G1 H1 G2 H2 → T G1 x (wipe σ vs) σ' → T G2 x (wipe σ vs) σ') :
    ∀ G1 H1, Ext G H G1 H1 → ∀ Q : VK, (∀ G2 H2 v, Ext G1 H1 G2 H2 → Is X.K ((xs.filter t).map f) G2 H2 v → New H1 v → Q v H2) → tLc wi g (lcT X scope ifs) (lcE X scope elt) vs σ H1 Q := by
  intro G1 H1 x1 Q q
  refine hi G1 H1 x1 _ fun J G2 H2 x2 hl hwk D hD => ?_
  -- the state behind i turns
  let Pv : Nat → Hp → Prop := fun i H' => ∃ G' acc, Ext G1 H1 G' H' ∧ Same G2 G' ∧ G' D = none ∧ H' D = some (.lst acc) ∧ acc.length ≤ i ∧ Paired (rep X.K G') acc (((xs.take i).filter t).map f)
  have hD1 : H1 D = none := x2.h.free hD
  refine ⟨fun i m H' => m = xs.length - i ∧ i ≤ xs.length ∧ Pv i H', ⟨xs.length, rfl, Nat.zero_le _, G2, [], x2.newH hD, Same.refl _, x2.s.free hD, upd_same, Nat.zero_le _, .nil⟩, ?_⟩
  rintro i m H' ⟨rfl, hi', G', acc, x', sg, gD, eD, hacc, pr⟩
  obtain ⟨go, stop, yld⟩ := hwk G' H' sg x'.s
  by_cases hlt : i < xs.length
  · have hx : xs[i]? = some xs[i] := List.getElem?_eq_getElem hlt
    have hmem : xs[i] ∈ xs := List.getElem_mem hlt
    refine .inr ⟨go i hlt, Pv (i + 1), fun H'' p => ⟨_, by omega, rfl, hlt, p⟩, fun v H'' y => ?_⟩
    obtain ⟨G'', x'', rv⟩ := yld i _ v H'' hx y
    have ek : xs.take (i + 1) = xs.take i ++ [xs[i]] := by rw [List.take_add_one, hx]; rfl
    have gD2 : G'' D = none := x''.off gD eD
    have eD2 : H'' D = some (.lst acc) := x''.h _ _ eD
    refine hg _ v G'' H'' _ _ x''.s rv fun σ' hst => ⟨hw _ _ _ hst, fun s H0 C cl fp pins s' I => ?_⟩
    refine ht _ G'' H'' σ' hmem (x1.trans (x'.trans x'')) hst s H0 C cl fp G'' H'' (Ext.refl x''.s) _ (fun G3 H3 x3 => ?_) pins s' I
    have gD3 : G3 D = none := x3.off gD2 eD2
    have eD3 : H3 D = some (.lst acc) := x3.h _ _ eD2
    by_cases hb : t xs[i] = true
    · rw [hb, if_pos rfl]
      intro s1 H01 C1 cl1 fp1
      refine he _ G3 H3 σ' hmem hb (x1.trans (x'.trans (x''.trans x3))) (hm _ _ _ _ _ _ x3 hst) s1 H01 C1 cl1 fp1 G3 H3 (Ext.refl x3.s) _ fun G4 H4 w x4 _ rw' => ?_
      have gD4 : G4 D = none := x4.off gD3 eD3
      refine ⟨acc, x4.h _ _ eD3, Nat.lt_of_le_of_lt hacc (Nat.lt_of_lt_of_le hlt hl), G4, acc ++ [w], (x'.trans (x''.trans (x3.trans x4))).wr hD1 gD4, (sg.trans x''.g).trans (x3.g.trans x4.g), gD4, upd_same, by rw [List.length_append]; exact Nat.succ_le_succ hacc, ?_⟩
      rw [ek, List.filter_append, List.map_append, List.filter_cons_of_pos hb]
      exact paired_app (pair_up (x''.g.trans (x3.g.trans x4.g)) pr) (.cons rw' .nil)
    · rw [if_neg hb]
      refine ⟨G3, acc, x'.trans (x''.trans x3), (sg.trans x''.g).trans x3.g, gD3, eD3, Nat.le_succ_of_le hacc, ?_⟩
      rw [ek, List.filter_append, List.filter_cons_of_neg hb, List.filter_nil, List.append_nil]
      exact pair_up (x''.g.trans x3.g) pr
  · have e : i = xs.length := by omega
    subst e
    refine .inl ⟨stop, q (upd G' D (.lst acc)) H' _ (x'.frz hD1 eD) ⟨D, acc, rfl, upd_same, ?_⟩ fun p e => by cases e; exact hD1⟩
    rw [List.take_length] at pr
    exact pair_up (same_new gD) pr
theorem t1_up {α : Type} [Rep α] {K : PySem.W.Frag} {i : Nat} {σ : St} : ∀ G1 H1 G2 H2 (x : α) σ', Ext G1 H1 G2 H2 → T1 K i G1 x σ σ' → T1 K i G2 x σ σ' := fun _ _ _ _ _ _ x ⟨v, r, e⟩ => ⟨v, up x.g r, e⟩
theorem t2_up {α β : Type} [Rep α] [Rep β] {K : PySem.W.Frag} {i j : Nat} {σ : St} : ∀ G1 H1 G2 H2 (x : α × β) σ', Ext G1 H1 G2 H2 → T2 K i j G1 x σ σ' → T2 K i j G2 x σ σ' := fun _ _ _ _ _ _ x ⟨u, w, r, r', e⟩ => ⟨u, w, up x.g r, up x.g r', e⟩
variable {α β γ : Type} [Rep α] [Rep β] [Rep γ] {iter elt : Expr} {ifs : List Expr} {scope : Scope} {own : List (Str × Nat)}
/-- [elt for n in iter if ..]; a name in slot i -/
theorem ev_lc1 {xs : List α} {n : Str} {np : Pos} {i : Nat} (f : α → β) (t : α → Bool) (hc : X.calm = true) (hN : X.N.Nodup) (hi : EvI X (.Name n np) iter σ G H xs) (own : List (Str × Nat)) (ok : BlkOk X.N X.env.scope scope own)
    (hg : ∀ (s : Shared) (H : Hp) (C : Addr) (cl : List (Str × Addr)) (fp : List Addr), PG (X.blk s H scope (compEnvC scope cl C X.env) fp) (.Name n np) (gName i))
    (ht : ∀ x v G1 H1, x ∈ xs → Ext G H G1 H1 → rep X.K G1 v x → ∀ s H0 C cl fp, EvTs (InB X scope s H0 C cl fp) ifs ((wipe σ (own.map (·.2))).set i (some v)) G1 H1 (t x))
    (he : ∀ x v G1 H1, x ∈ xs → t x = true → Ext G H G1 H1 → rep X.K G1 v x → ∀ s H0 C cl fp, Ev (InB X scope s H0 C cl fp) elt ((wipe σ (own.map (·.2))).set i (some v)) G1 H1 (f x))
    (hw : ∀ v, wipe ((wipe σ (own.map (·.2))).set i (some v)) (own.map (·.2)) = wipe σ (own.map (·.2)) := by intro _; rfl) (hs : ∀ x, foldedSetIterable iter X.env x = pure x := by intro _; rfl) :
    Ev X (.ListComp elt [⟨.Name n np, iter, ifs, 0⟩] scope pos) σ G H ((xs.filter t).map f) := by
  obtain ⟨wi, pi, hi⟩ := hi
  exact evP_of (pe_lc hc hN pi ok hg pts_lc pe_lcE hs) fun G1 H1 x1 Q q => lc_go (T := T1 X.K i) (f := f) (t := t) hi acts1 (fun G x σ' ⟨v, _, e⟩ => by rw [e]; exact hw v)
    (fun x G1 H1 σ' hx e ⟨v, r, e'⟩ => e' ▸ ht x v G1 H1 hx e r) (fun x G1 H1 σ' hx hb e ⟨v, r, e'⟩ => e' ▸ he x v G1 H1 hx hb e r) t1_up G1 H1 x1 Q fun G2 H2 v x2 r _ => q G2 H2 v x2 r
/-- [elt for a, b in iter if ..] -/
theorem ev_lc2 {xs : List (α × γ)} {tg : Expr} {i j : Nat} (f : α × γ → β) (t : α × γ → Bool) (hc : X.calm = true) (hN : X.N.Nodup) (hi : EvI X tg iter σ G H xs) (own : List (Str × Nat)) (ok : BlkOk X.N X.env.scope scope own)
    (hg : ∀ (s : Shared) (H : Hp) (C : Addr) (cl : List (Str × Addr)) (fp : List Addr), PG (X.blk s H scope (compEnvC scope cl C X.env) fp) tg (gTup X.K 2 (gCons (gName i) (gCons (gName j) gNil))))
    (ht : ∀ x u w G1 H1, x ∈ xs → Ext G H G1 H1 → rep X.K G1 u x.1 → rep X.K G1 w x.2 → ∀ s H0 C cl fp, EvTs (InB X scope s H0 C cl fp) ifs (((wipe σ (own.map (·.2))).set i (some u)).set j (some w)) G1 H1 (t x))
    (he : ∀ x u w G1 H1, x ∈ xs → t x = true → Ext G H G1 H1 → rep X.K G1 u x.1 → rep X.K G1 w x.2 → ∀ s H0 C cl fp, Ev (InB X scope s H0 C cl fp) elt (((wipe σ (own.map (·.2))).set i (some u)).set j (some w)) G1 H1 (f x))
    (hw : ∀ u w, wipe (((wipe σ (own.map (·.2))).set i (some u)).set j (some w)) (own.map (·.2)) = wipe σ (own.map (·.2)) := by intro _ _; rfl) (hs : ∀ x, foldedSetIterable iter X.env x = pure x := by intro _; rfl) :
    Ev X (.ListComp elt [⟨tg, iter, ifs, 0⟩] scope pos) σ G H ((xs.filter t).map f) := by
  obtain ⟨wi, pi, hi⟩ := hi
  exact evP_of (pe_lc hc hN pi ok hg pts_lc pe_lcE hs) fun G1 H1 x1 Q q => lc_go (T := T2 X.K i j) (f := f) (t := t) hi acts2 (fun G x σ' ⟨u, w, _, _, e⟩ => by rw [e]; exact hw u w)
    (fun x G1 H1 σ' hx e ⟨u, w, r, r', e'⟩ => e' ▸ ht x u w G1 H1 hx e r r') (fun x G1 H1 σ' hx hb e ⟨u, w, r, r', e'⟩ => e' ▸ he x u w G1 H1 hx hb e r r') t2_up G1 H1 x1 Q fun G2 H2 v x2 r _ => q G2 H2 v x2 r
end
end RL

namespace RL
open PySem PySem.Spec PyProof.Rows L2 Rep
/-! ### statements -/
section
variable {X : Cx} {σ : St} {G H : Hp} {P Pa Pb : PV} {e a b c tg : Expr} {es : List Expr} {st : Stmt} {sts sts' : List Stmt} {pos p : Pos} {D : Ends}
theorem tS_len (h : tS X st { D with nx := fun σ' H' => HLen H' → D.nx σ' H', rt := fun v H' => HLen H' → D.rt v H' } σ H) : tS X st D σ H := .mk fun pins s I => thn (h.run pins s I) fun f s' q => by
  cases f with
  | next =>
    obtain ⟨σ', H', I', q⟩ := q
    exact ⟨σ', H', I', q (hlen I')⟩
  | ret u =>
    obtain ⟨v, σ', H', I', r, q⟩ := q
    exact ⟨v, σ', H', I', r, q (hlen I')⟩
  | brk => exact q
  | cont => exact q
theorem tSs_lenI (h : HLen H → tSs X sts D σ H) : tSs X sts D σ H := .mk fun pins s I => (h (hlen I)).run pins s I
theorem s_of {t : TS} (h : PS X st t) (q : t D σ H) : tS X st D σ H := ⟨fun pins s I => h.run pins s σ H D I q⟩
theorem ss_of {t : TS} (h : PSs X sts t) (q : t D σ H) : tSs X sts D σ H := ⟨fun pins s I => h.run pins s σ H D I q⟩
theorem b_nil (h : D.nx σ H) : tSs X [] D σ H := ss_of pss_nil h
theorem b_cons (h : tS X st { D with nx := tSs X sts D } σ H) : tSs X (st :: sts) D σ H := ss_of (pss_cons ps_sem pss_sem) h
theorem b_one (h : tS X st D σ H) : tSs X [st] D σ H := ss_of (pss_one ps_sem) h
theorem s_pass (h : D.nx σ H) : tS X (.Pass pos) D σ H := s_of ps_pass h
theorem s_break (h : D.bk σ H) : tS X (.Break pos) D σ H := s_of ps_break h
theorem s_continue (h : D.ct σ H) : tS X (.Continue pos) D σ H := s_of ps_continue h
theorem s_ret (s0 : Same G H) (h : EvP X e σ G H P) (k : ∀ G1 H1 v, Ext G H G1 H1 → HLen H1 → P G1 H1 v → D.rt v H1) : tS X (.Return (some e) pos) D σ H :=
  s_of (ps_ret pe_sem) (h G H (Ext.refl s0) _ fun G1 H1 v x l r => k G1 H1 v x l r)
theorem s_retN (h : D.rt .non H) : tS X (.Return none pos) D σ H := s_of ps_retN h
theorem s_expr (s0 : Same G H) (h : EvP X e σ G H P) (k : ∀ G1 H1 v, Ext G H G1 H1 → HLen H1 → P G1 H1 v → D.nx σ H1) (hs : swapsWith e none pos.line X.env = pure false := by rfl) : tS X (.Expr e pos) D σ H :=
  s_of (ps_expr pe_sem hs) (h G H (Ext.refl s0) _ fun G1 H1 v x l r => k G1 H1 v x l r)
theorem s_if {x : Bool} (s0 : Same G H) (h : EvT X c σ G H x) (h1 : x = true → ∀ G1 H1, Ext G H G1 H1 → HLen H1 → tSs X sts D σ H1) (h2 : x = false → ∀ G1 H1, Ext G H G1 H1 → HLen H1 → tSs X sts' D σ H1) : tS X (.If c sts sts' pos) D σ H :=
  s_of (ps_if pt_sem pss_sem pss_sem) (h G H (Ext.refl s0) _ fun G1 H1 x1 l => by
    cases x with
    | true =>
      show tSs X sts D σ H1
      exact h1 rfl G1 H1 x1 l
    | false =>
      show tSs X sts' D σ H1
      exact h2 rfl G1 H1 x1 l)
/-- a name that may be stored -/
structure Ss (X : Cx) (i : Nat) (n : Str) : Prop where
  hN : X.N[i]? = some n
  hx : Loc X.env.scope n
  hf : X.fn n = true ∨ X.env.scope.names.lookup n = some .local
theorem s_set {i : Nat} {n : Str} (hN : X.N.Nodup) (sl : Ss X i n) (s0 : Same G H) (h : EvP X e σ G H P) (k : ∀ G1 H1 v, Ext G H G1 H1 → HLen H1 → P G1 H1 v → D.nx (σ.set i (some v)) H1)
    (hs : swapsWith e (some (.Name n p)) pos.line X.env = pure false := by rfl) : tS X (.Assign [.Name n p] e pos) D σ H :=
  s_of (ps_set hN sl.hN sl.hx pe_sem hs sl.hf) (h G H (Ext.refl s0) _ fun G1 H1 v x l r => k G1 H1 v x l r)
/-- .. a new object that no frozen part knows -/
def EvN (X : Cx) (e : Expr) (σ : St) (G H : Hp) (P : PV) : Prop :=
  ∀ G1 H1, Ext G H G1 H1 → ∀ Q : VK, (∀ G2 H2 v, Ext G1 H1 G2 H2 → HLen H2 → P G2 H2 v → New H1 v → Q v H2) → tE X e σ H1 Q
theorem EvN.ev (h : EvN X e σ G H P) : EvP X e σ G H P := fun G1 H1 x1 Q q => h G1 H1 x1 Q fun G2 H2 v x2 l r _ => q G2 H2 v x2 l r
theorem s_setN {i : Nat} {n : Str} (hN : X.N.Nodup) (sl : Ss X i n) (s0 : Same G H) (h : EvN X e σ G H P) (k : ∀ G1 H1 v, Ext G H G1 H1 → HLen H1 → P G1 H1 v → New H v → D.nx (σ.set i (some v)) H1)
    (hs : swapsWith e (some (.Name n p)) pos.line X.env = pure false := by rfl) : tS X (.Assign [.Name n p] e pos) D σ H :=
  s_of (ps_set hN sl.hN sl.hx pe_sem hs sl.hf) (h G H (Ext.refl s0) _ fun G1 H1 v x l r n => k G1 H1 v x l r n)
theorem evN_of {t : TE} (hp : PE X e t) (k : ∀ G1 H1, Ext G H G1 H1 → ∀ Q : VK, (∀ G2 H2 v, Ext G1 H1 G2 H2 → P G2 H2 v → New H1 v → Q v H2) → t σ H1 Q) : EvN X e σ G H P :=
  fun G1 H1 x1 _ q => tE_lenF fun pins s I => hp.run pins s σ H1 _ I (k G1 H1 x1 _ fun G2 H2 v x2 p n hl => q G2 H2 v x2 hl p n)
theorem evN_list {α : Type} [Rep α] {xs : List α} (h : EvA X es σ G H (AAll X.K xs)) (hl : xs.length ≤ 1000 := by exact Nat.le_of_ble_eq_true rfl) : EvN X (.List es pos) σ G H (Is X.K xs) :=
  evN_of (pe_lst pa_sem) fun G1 H1 x1 Q q => h G1 H1 x1 _ fun G2 H2 vs x2 _ pa => ⟨by rw [paired_len pa]; exact Nat.le_of_lt (small1000 hl), fun p hp =>
    q (upd G2 p (.lst vs)) _ _ (x2.new hp) ⟨p, vs, rfl, upd_same, pair_up (same_new (x2.s.free hp)) pa⟩ fun p' e => by cases e; exact x2.h.free hp⟩
/-- n op= e -/
theorem s_aug {i : Nat} {n : Str} {op : Operator} {v0 : V} [m : MonoC Pa] (hN : X.N.Nodup) (sl : Ss X i n) (s0 : Same G H) (k : Bin X (inplaceOp op) Pa Pb P G H) (r0 : Pa G H v0) (h : EvP X e σ G H Pb) (kn : ∀ G1 H1 v, Ext G H G1 H1 → HLen H1 → P G1 H1 v → D.nx (σ.set i (some v)) H1)
    (h0 : σ[i]? = some (some v0) := by rfl) : tS X (.AugAssign (.Name n p) op e pos) D σ H := by
  obtain ⟨r, ho, k⟩ := k
  refine tS_len (s_of (ps_aug hN sl.hN sl.hx pe_sem (ti := r) ho sl.hf) ⟨v0, h0, h G H (Ext.refl s0) _ fun G1 H1 u x l pu => k G1 H1 v0 u x l (m.m _ _ _ _ _ x r0) pu _ fun G2 H2 w x2 pw l2 => kn G2 H2 w (x.trans x2) l2 pw⟩)
/-- a list of the def's own: tracked, not frozen -/
structure Own {α : Type} [Rep α] (K : PySem.W.Frag) (G H : Hp) (q : Addr) (xs : List α) : Prop where
  at_ : ∃ vs, H q = some (.lst vs) ∧ Paired (rep K G) vs xs
  off : G q = none
theorem Own.mono {α : Type} [Rep α] {K : PySem.W.Frag} {G H G1 H1 : Hp} {q : Addr} {xs : List α} (o : Own K G H q xs) (x : Ext G H G1 H1) : Own K G1 H1 q xs :=
  let ⟨vs, e, p⟩ := o.at_; ⟨⟨vs, x.h _ _ e, pair_up x.g p⟩, x.off o.off e⟩
theorem Own.pv {α : Type} [Rep α] {K : PySem.W.Frag} {q : Addr} {xs : List α} (o : Own K G H q xs) : OwnAt K xs G H (.ref q) := let ⟨vs, e, p⟩ := o.at_; ⟨q, vs, rfl, e, p⟩
theorem Own.len {α : Type} [Rep α] {K : PySem.W.Frag} {q : Addr} {xs : List α} (o : Own K G H q xs) (l : HLen H) : xs.length ≤ sizeLine := by
  obtain ⟨vs, e, p⟩ := o.at_
  rw [← paired_len p]
  exact l _ _ e
/-- behind a store to another own object -/
theorem Own.wr {α : Type} [Rep α] {K : PySem.W.Frag} {q q' : Addr} {xs : List α} {o' : HO} (o : Own K G H q xs) (h : q ≠ q') : Own K G (upd H q' o') q xs :=
  let ⟨vs, e, p⟩ := o.at_; ⟨⟨vs, by rw [upd_ne h]; exact e, p⟩, o.off⟩
theorem Own.ex {α : Type} [Rep α] {K : PySem.W.Frag} {q : Addr} {xs : List α} (o : Own K G H q xs) : ∃ u, H q = some u := let ⟨_, e, _⟩ := o.at_; ⟨_, e⟩
/-- values that no heap tells -/
class Flat (α : Type) [Rep α] : Prop where
  flat : ∀ {K : PySem.W.Frag} {G G' : Hp} {v : V} {x : α}, rep K G v x → rep K G' v x
instance : Flat Int := ⟨fun h => h⟩
instance : Flat Bool := ⟨fun h => h⟩
instance : Flat Str := ⟨fun h => h⟩
/-- from a new list of flat things: own it; the frozen part as it was ahead -/
theorem own_new {α : Type} [Rep α] [Flat α] {K : PySem.W.Frag} {G H G1 H1 : Hp} {v : V} {xs : List α} (s0 : Same G H) (x : Ext G H G1 H1) (n : New H v) (r : Is K xs G1 H1 v) : ∃ q, v = .ref q ∧ H q = none ∧ Own K G H1 q xs ∧ Ext G H G H1 := by
  obtain ⟨q, vs, rfl, e, p⟩ := r
  have hq : H q = none := n q rfl
  refine ⟨q, rfl, hq, ⟨⟨vs, x.s _ _ e, ?_⟩, s0.free hq⟩, ⟨x.h, Same.refl _, fun b o h => x.s _ _ (x.g _ _ h), fun b o h => .inl h⟩⟩
  clear e
  induction p with
  | nil => exact .nil
  | cons h t ih => exact .cons (Flat.flat h) ih
/-- an own list without items -/
theorem evO_nil : EvN X (.List [] pos) σ G H (fun G H v => ∃ q, v = .ref q ∧ H q = some (.lst []) ∧ G q = none) :=
  evN_of (pe_lst pa_nil) fun G1 H1 x1 Q q => ⟨Nat.zero_le _, fun p hp => q G1 _ _ ((Ext.refl x1.s).newH hp) ⟨p, rfl, upd_same, x1.s.free hp⟩ fun p' e => by cases e; exact hp⟩
theorem s_nil {α : Type} [Rep α] {i : Nat} {n : Str} {lp : Pos} (hN : X.N.Nodup) (sl : Ss X i n) (s0 : Same G H) (k : ∀ H1 q, Ext G H G H1 → HLen H1 → H q = none → Own X.K G H1 q ([] : List α) → D.nx (σ.set i (some (.ref q))) H1)
    (hs : swapsWith (.List [] lp) (some (.Name n p)) pos.line X.env = pure false := by rfl) : tS X (.Assign [.Name n p] (.List [] lp) pos) D σ H :=
  s_of (ps_set hN sl.hN sl.hx pe_sem hs sl.hf) (tE_len (tE_of' s0 k))
  where tE_of' (s0 : Same G H) (k : ∀ H1 q, Ext G H G H1 → HLen H1 → H q = none → Own X.K G H1 q ([] : List α) → D.nx (σ.set i (some (.ref q))) H1) : tE X (.List [] lp) σ H (fun v H' => HLen H' → D.nx (σ.set i (some v)) H') :=
    ⟨fun pins s I => (pe_lst pa_nil).run pins s σ H _ I ⟨Nat.zero_le _, fun q hq l => k _ q ((Ext.refl s0).newH hq) l hq ⟨⟨[], upd_same, .nil⟩, s0.free hq⟩⟩⟩
/-- q.append(e) -/
theorem s_append {α : Type} [Rep α] {xs : List α} {y : α} {i : Nat} {n : Str} {q : Addr} {ap cp np : Pos} (sl : Sl X i n) (s0 : Same G H) (o : Own X.K G H q xs) (h : Ev X e σ G H y) (hz : xs.length < sizeLine)
    (k : ∀ G1 H1 vs', Ext G H G1 H1 → HLen H1 → Own X.K G1 (upd H1 q (.lst vs')) q (xs ++ [y]) → D.nx σ (upd H1 q (.lst vs'))) (h0 : σ[i]? = some (some (.ref q)) := by rfl)
    (hbase : attributeBase (.Name n np) "append" X.env (eval (.Name n np) X.env) = eval (.Name n np) X.env := by rfl)
    (hfew : ((backTo cp (starEach [e] X.env)).all (fun x => !x.1) && (backToKw cp (keywordEach [] X.env)).all (fun x => x.1.isSome)
      && decide ([e].length + ([] : List Keyword).length + (if ([] : List Keyword).isEmpty then 0 else 1) < 30)) = true := by rfl)
    (hline : (ap.endLine == cp.line) = true := by rfl) (he : starEach [e] X.env = (false, eval e X.env) :: starEach [] X.env := by rfl) (hplain : (backTo cp (starEach [] X.env)).any (·.1) = false := by rfl)
    (hsw : swapsWith (.Call (.Attribute (.Name n np) "append" ap) [e] [] cp) none pos.line X.env = pure false := by rfl) :
    tS X (.Expr (.Call (.Attribute (.Name n np) "append" ap) [e] [] cp) pos) D σ H := by
  obtain ⟨vs, eq, pr⟩ := o.at_
  refine s_of (ps_expr (pe_bm PySem.F.plainAttrs_list PySem.F.slot_list_append PySem.F.type_list_append mt_append (pe_var sl.hN sl.hv sl.nm.hd sl.nm.hcd) (pa_cons pe_sem pa_nil he) hbase hfew hline he hplain) hsw) ?_
  refine ⟨_, h0, .inl ⟨rfl, _, SqL.of eq⟩, h G H (Ext.refl s0) _ fun G1 H1 w x l rw' => ?_⟩
  have e1 : H1 q = some (.lst vs) := x.h _ _ eq
  exact ⟨q, vs, w, rfl, rfl, e1, by rw [paired_len pr]; exact hz, k G1 H1 _ x l ⟨⟨_, upd_same, paired_app (pair_up x.g pr) (.cons rw' .nil)⟩, x.off o.off eq⟩⟩
/-- an own list handed on: frozen from now on -/
theorem Own.frz {α : Type} [Rep α] {K : PySem.W.Frag} {G0 H0 : Hp} {q : Addr} {xs : List α} (o : Own K G H q xs) (x0 : Ext G0 H0 G H) (n : H0 q = none) : ∃ G', Ext G0 H0 G' H ∧ Same G G' ∧ rep K G' (.ref q) xs :=
  let ⟨vs, e, p⟩ := o.at_; ⟨upd G q (.lst vs), x0.frz n e, same_new o.off, q, vs, rfl, upd_same, pair_up (same_new o.off) p⟩
/-- for: I tells what is left to be walked, the slots and the world -/
theorem s_for {α : Type} [Rep α] {xs : List α} {T : TgT α} {g : TG} {iter : Expr} {body : List Stmt} (hp : PassesOwn (model X.prog X.w) X.A X.env X.xe) (hc : X.calm = true) (hg : PG X tg g) (ha : Acts X.K g T) (s0 : Same G H) (hi : EvI X tg iter σ G H xs)
    (I : List α → St → Hp → Hp → Prop) (h0 : ∀ G1 H1, Ext G H G1 H1 → I xs σ G1 H1)
    (hs : ∀ x rest σ1 G1 H1 G2 H2 σ2, (∃ l, l ++ x :: rest = xs) ∧ xs.length ≤ sizeLine → Same G G1 → Same G1 H1 → I (x :: rest) σ1 G1 H1 → Ext G1 H1 G2 H2 → HLen H2 → T G2 x σ1 σ2 →
      tSs X body { D with nx := fun σ' H' => ∃ G', Same G2 G' ∧ Same G' H' ∧ I rest σ' G' H', ct := fun σ' H' => ∃ G', Same G2 G' ∧ Same G' H' ∧ I rest σ' G' H', bk := D.nx } σ2 H2)
    (hd : ∀ σ1 G1 H1, Same G G1 → Same G1 H1 → I [] σ1 G1 H1 → D.nx σ1 H1) (hsf : ∀ x, foldedSetIterable iter X.env x = pure x := by intro _; rfl) : tS X (.For tg iter body [] pos) D σ H := by
  obtain ⟨wi, pi, hi⟩ := hi
  refine s_of (ps_for hp hc pi hg pss_sem hsf) (hi G H (Ext.refl s0) _ fun J Gs Hs xs0 hl hw => ?_)
  refine ⟨fun i m σ' H' => m = xs.length - i ∧ i ≤ xs.length ∧ ∃ G', Same Gs G' ∧ Same G' H' ∧ I (xs.drop i) σ' G' H', ⟨xs.length, rfl, Nat.zero_le _, Gs, Same.refl _, xs0.s, h0 Gs Hs xs0⟩, ?_⟩
  rintro i m σ' H' ⟨rfl, hi', G', sg, sh, Iv⟩
  obtain ⟨go, stop, yld⟩ := hw G' H' sg sh
  by_cases hlt : i < xs.length
  · have hx : xs[i]? = some xs[i] := List.getElem?_eq_getElem hlt
    have ed : xs.drop i = xs[i] :: xs.drop (i + 1) := List.drop_eq_getElem_cons hlt
    rw [ed] at Iv
    refine .inr ⟨go i hlt, fun σ2 H2 => ∃ G2, Same Gs G2 ∧ Same G2 H2 ∧ I (xs.drop (i + 1)) σ2 G2 H2, fun σ2 H2 q => ⟨_, by omega, rfl, hlt, q⟩, fun v H'' y => ?_⟩
    obtain ⟨G'', x'', rv⟩ := yld i _ v H'' hx y
    refine ha _ v G'' H'' _ _ x''.s rv fun σ2 hT => tSs_lenI fun l => ?_
    refine .mk fun pins s Iv' => ?_
    refine thn ((hs xs[i] (xs.drop (i + 1)) σ' G' H' G'' H'' σ2 ⟨⟨xs.take i, by rw [← ed, List.take_append_drop]⟩, hl⟩ (xs0.g.trans sg) sh Iv x'' l hT).run pins s Iv') fun f s' q => ?_
    have fin : ∀ {H3 : Hp} {σ3 : St}, (∃ G3, Same G'' G3 ∧ Same G3 H3 ∧ I (xs.drop (i + 1)) σ3 G3 H3) → ∃ G2, Same Gs G2 ∧ Same G2 H3 ∧ I (xs.drop (i + 1)) σ3 G2 H3 := fun ⟨G3, a, b, c⟩ => ⟨G3, sg.trans (x''.g.trans a), b, c⟩
    cases f with
    | next =>
      obtain ⟨σ3, H3, I3, q⟩ := q
      exact ⟨σ3, H3, I3, fin q⟩
    | cont =>
      obtain ⟨σ3, H3, I3, q⟩ := q
      exact ⟨σ3, H3, I3, fin q⟩
    | brk => exact q
    | ret u => exact q
  · have e : i = xs.length := by omega
    subst e
    rw [List.drop_length] at Iv
    exact .inl ⟨stop, hd σ' G' H' (xs0.g.trans sg) sh Iv⟩
end

/-! ### what a loop's turns come to -/
inductive LR (R S : Type) where
  | ret (r : R) | nxt (s : S) | brk (s : S)
def lrun {α R S : Type} (step : α → S → LR R S) : List α → S → LR R S
  | [], s => .nxt s
  | x :: xs, s => match step x s with
    | .nxt s' => lrun step xs s'
    | .brk s' => .nxt s'
    | .ret r => .ret r
theorem lrun_nxt {α R S : Type} {step : α → S → LR R S} {x : α} {xs : List α} {s s' : S} {y : LR R S} (e : lrun step (x :: xs) s = y) (h : step x s = .nxt s') : lrun step xs s' = y := by
  rw [← e]
  show _ = match step x s with | .nxt s' => lrun step xs s' | .brk s' => .nxt s' | .ret r => .ret r
  rw [h]
theorem lrun_brk {α R S : Type} {step : α → S → LR R S} {x : α} {xs : List α} {s s' : S} {y : LR R S} (e : lrun step (x :: xs) s = y) (h : step x s = .brk s') : y = .nxt s' := by
  rw [← e]
  show (match step x s with | .nxt s' => lrun step xs s' | .brk s' => .nxt s' | .ret r => .ret r) = _
  rw [h]
theorem lrun_ret {α R S : Type} {step : α → S → LR R S} {x : α} {xs : List α} {s : S} {r : R} {y : LR R S} (e : lrun step (x :: xs) s = y) (h : step x s = .ret r) : y = .ret r := by
  rw [← e]
  show (match step x s with | .nxt s' => lrun step xs s' | .brk s' => .nxt s' | .ret r => .ret r) = _
  rw [h]
/-- behind a loop: what it handed back, or what follows it -/
def LR.out {R S : Type} (y : LR R S) (k : S → R) : R := match y with
  | .ret r => r
  | .nxt s => k s
  | .brk s => k s
def LR.andThen {R S S' : Type} (y : LR R S) (k : S → LR R S') : LR R S' := match y with
  | .ret r => .ret r
  | .nxt s => k s
  | .brk s => k s

/-! ### defs -/
section
variable {P : Program} {w : World} {K : PySem.W.Frag} {mg : Str → Option Value} {base : Heap} {x : Str} {st : Stmt} {f : Addr} {fd : FuncData} {N ps : List Str} {k : Nat}
theorem cal_of {sp : Sp} (F : Fun K x x st f fd) (hm : mg x = some (.ref f)) (hb : Binds K fd ps []) (S : FnScope N ps (defScope st)) (len : ∀ vs H Q E, sp vs H Q E → vs.length = ps.length)
    (body : ∀ (cdv : Value) (A : Around) (outer : List Env) (s : Shared) (H : Hp) (vs : List V) (Q : VK) (E : XK), Room k (A.deeper (envOfC x (defScope st) s.heap.objs.size f cdv)) → sp vs H Q E →
      tSs (cxOf (L2.CX P w) P w K mg base N x (defScope st) f cdv A outer s H E) (defBody st) { nx := fun _ H' => Q .non H', rt := Q } (start N vs) H) : Cal P w K mg base (k + 1) x sp :=
  ⟨f, fd, ps, F.okX S len fun cdv A outer s H vs Q E hr h => ⟨_, pss_sem, body cdv A outer s H vs Q E hr h⟩, hm, F.kp, hb⟩
theorem fok_of {sp : Sp} (F : Fun K x x st f fd) (S : FnScope N ps (defScope st)) (len : ∀ vs H Q E, sp vs H Q E → vs.length = ps.length)
    (body : ∀ (cdv : Value) (A : Around) (outer : List Env) (s : Shared) (H : Hp) (vs : List V) (Q : VK) (E : XK), Room k (A.deeper (envOfC x (defScope st) s.heap.objs.size f cdv)) → sp vs H Q E →
      tSs (cxOf (L2.CX P w) P w K mg base N x (defScope st) f cdv A outer s H E) (defBody st) { nx := fun _ H' => Q .non H', rt := Q } (start N vs) H) : FnOk P w K mg base (L2.CX P w) (k + 1) f fd ps sp :=
  F.okX S len fun cdv A outer s H vs Q E hr h => ⟨_, pss_sem, body cdv A outer s H vs Q E hr h⟩
variable {α β γ δ ε ζ : Type} [Rep α] [Rep β] [Rep γ] [Rep δ] [Rep ε] [Rep ζ] {fr : Bool}
/-- what a def's end wants: y, from G, H on -/
structure End (K : PySem.W.Frag) (fr : Bool) (G H : Hp) (y : ζ) (D : Ends) : Prop where
  rt : ∀ G2 H2 w, Ext G H G2 H2 → rep K G2 w y → (fr = true → New H w) → D.rt w H2
  nx : ∀ G2 H2 σ, Ext G H G2 H2 → rep K G2 .non y → D.nx σ H2
theorem End.to {K : PySem.W.Frag} {G H : Hp} {y z : ζ} {D : Ends} (h : End K fr G H y D) (e : y = z) : End K fr G H z D := e ▸ h
theorem End.tt {K : PySem.W.Frag} {G H : Hp} {x : Bool} {y z : ζ} {D : Ends} (h : End K fr G H (if x = true then y else z) D) (e : x = true) : End K fr G H y D := by rwa [if_pos e] at h
theorem End.ff {K : PySem.W.Frag} {G H : Hp} {x : Bool} {y z : ζ} {D : Ends} (h : End K fr G H (if x = true then y else z) D) (e : x = false) : End K fr G H z D := by rwa [if_neg (by rw [e]; decide)] at h
theorem End.outR {K : PySem.W.Frag} {G H : Hp} {S : Type} {y : LR ζ S} {k : S → ζ} {r : ζ} {D : Ends} (h : End K fr G H (y.out k) D) (e : y = .ret r) : End K fr G H r D := by rwa [e] at h
theorem End.outN {K : PySem.W.Frag} {G H : Hp} {S : Type} {y : LR ζ S} {k : S → ζ} {s : S} {D : Ends} (h : End K fr G H (y.out k) D) (e : y = .nxt s) : End K fr G H (k s) D := by rwa [e] at h
theorem end_of {K : PySem.W.Frag} {G H : Hp} {y : ζ} {Q : VK} (q : ∀ G2 H2 w, Ext G H G2 H2 → rep K G2 w y → (fr = true → New H w) → Q w H2) : End K fr G H y { nx := fun _ H' => Q .non H', rt := Q } :=
  ⟨q, fun G2 H2 _ x r => q G2 H2 _ x r fun _ p e => nomatch e⟩
theorem fn1 {pre : α → Prop} {m : α → ζ} (F : Fun K x x st f fd) (hm : mg x = some (.ref f)) (hb : Binds K fd ps []) (S : FnScope N ps (defScope st)) (hl : ps.length = 1)
    (body : ∀ (cdv : Value) (A : Around) (outer : List Env) (s : Shared) (H : Hp) (E : XK), Room k (A.deeper (envOfC x (defScope st) s.heap.objs.size f cdv)) → ∀ (G : Hp) (v1 : V) (x1 : α) (D : Ends), Same G H → rep K G v1 x1 → pre x1 → End K fr G H (m x1) D →
      tSs (cxOf (L2.CX P w) P w K mg base N x (defScope st) f cdv A outer s H E) (defBody st) D (start N [v1]) H) : Cal P w K mg base (k + 1) x (Sp1 K fr pre m) :=
  cal_of F hm hb S (fun vs H Q E h => by obtain ⟨_, _, _, rfl, _⟩ := h; exact hl.symm) fun cdv A outer s H vs Q E hr h => by
    obtain ⟨G, v1, x1, rfl, s0, r1, hp, q⟩ := h
    exact body cdv A outer s H E hr G v1 x1 _ s0 r1 hp (end_of q)
theorem fn1F {pre : α → Prop} {m : α → ζ} (F : Fun K x x st f fd) (hm : mg x = some (.ref f)) (hb : Binds K fd ps []) (S : FnScope N ps (defScope st)) (hl : ps.length = 1)
    (body : ∀ (cdv : Value) (A : Around) (outer : List Env) (s : Shared) (H : Hp) (E : XK), Room k (A.deeper (envOfC x (defScope st) s.heap.objs.size f cdv)) → ∀ (G : Hp) (v1 : V) (x1 : α) (D : Ends), Same G H → rep K G v1 x1 → pre x1 → End K fr G H (m x1) D →
      tSs (cxOf (L2.CX P w) P w K mg base N x (defScope st) f cdv A outer s H E) (defBody st) D (start N [v1]) H) : FnOk P w K mg base (L2.CX P w) (k + 1) f fd ps (Sp1 K fr pre m) :=
  fok_of F S (fun vs H Q E h => by obtain ⟨_, _, _, rfl, _⟩ := h; exact hl.symm) fun cdv A outer s H vs Q E hr h => by
    obtain ⟨G, v1, x1, rfl, s0, r1, hp, q⟩ := h
    exact body cdv A outer s H E hr G v1 x1 _ s0 r1 hp (end_of q)
theorem fn2 {pre : α → β → Prop} {m : α → β → ζ} (F : Fun K x x st f fd) (hm : mg x = some (.ref f)) (hb : Binds K fd ps []) (S : FnScope N ps (defScope st)) (hl : ps.length = 2)
    (body : ∀ (cdv : Value) (A : Around) (outer : List Env) (s : Shared) (H : Hp) (E : XK), Room k (A.deeper (envOfC x (defScope st) s.heap.objs.size f cdv)) → ∀ (G : Hp) (v1 v2 : V) (x1 : α) (x2 : β) (D : Ends), Same G H → rep K G v1 x1 → rep K G v2 x2 → pre x1 x2 → End K fr G H (m x1 x2) D →
      tSs (cxOf (L2.CX P w) P w K mg base N x (defScope st) f cdv A outer s H E) (defBody st) D (start N [v1, v2]) H) : Cal P w K mg base (k + 1) x (Sp2 K fr pre m) :=
  cal_of F hm hb S (fun vs H Q E h => by obtain ⟨_, _, _, _, _, rfl, _⟩ := h; exact hl.symm) fun cdv A outer s H vs Q E hr h => by
    obtain ⟨G, v1, v2, x1, x2, rfl, s0, r1, r2, hp, q⟩ := h
    exact body cdv A outer s H E hr G v1 v2 x1 x2 _ s0 r1 r2 hp (end_of q)
theorem fn3 {pre : α → β → γ → Prop} {m : α → β → γ → ζ} (F : Fun K x x st f fd) (hm : mg x = some (.ref f)) (hb : Binds K fd ps []) (S : FnScope N ps (defScope st)) (hl : ps.length = 3)
    (body : ∀ (cdv : Value) (A : Around) (outer : List Env) (s : Shared) (H : Hp) (E : XK), Room k (A.deeper (envOfC x (defScope st) s.heap.objs.size f cdv)) → ∀ (G : Hp) (v1 v2 v3 : V) (x1 : α) (x2 : β) (x3 : γ) (D : Ends), Same G H → rep K G v1 x1 → rep K G v2 x2 → rep K G v3 x3 → pre x1 x2 x3 → End K fr G H (m x1 x2 x3) D →
      tSs (cxOf (L2.CX P w) P w K mg base N x (defScope st) f cdv A outer s H E) (defBody st) D (start N [v1, v2, v3]) H) : Cal P w K mg base (k + 1) x (Sp3 K fr pre m) :=
  cal_of F hm hb S (fun vs H Q E h => by obtain ⟨_, _, _, _, _, _, _, rfl, _⟩ := h; exact hl.symm) fun cdv A outer s H vs Q E hr h => by
    obtain ⟨G, v1, v2, v3, x1, x2, x3, rfl, s0, r1, r2, r3, hp, q⟩ := h
    exact body cdv A outer s H E hr G v1 v2 v3 x1 x2 x3 _ s0 r1 r2 r3 hp (end_of q)
theorem fn4 {pre : α → β → γ → δ → Prop} {m : α → β → γ → δ → ζ} (F : Fun K x x st f fd) (hm : mg x = some (.ref f)) (hb : Binds K fd ps []) (S : FnScope N ps (defScope st)) (hl : ps.length = 4)
    (body : ∀ (cdv : Value) (A : Around) (outer : List Env) (s : Shared) (H : Hp) (E : XK), Room k (A.deeper (envOfC x (defScope st) s.heap.objs.size f cdv)) → ∀ (G : Hp) (v1 v2 v3 v4 : V) (x1 : α) (x2 : β) (x3 : γ) (x4 : δ) (D : Ends), Same G H → rep K G v1 x1 → rep K G v2 x2 → rep K G v3 x3 → rep K G v4 x4 → pre x1 x2 x3 x4 → End K fr G H (m x1 x2 x3 x4) D →
      tSs (cxOf (L2.CX P w) P w K mg base N x (defScope st) f cdv A outer s H E) (defBody st) D (start N [v1, v2, v3, v4]) H) : Cal P w K mg base (k + 1) x (Sp4 K fr pre m) :=
  cal_of F hm hb S (fun vs H Q E h => by obtain ⟨_, _, _, _, _, _, _, _, _, rfl, _⟩ := h; exact hl.symm) fun cdv A outer s H vs Q E hr h => by
    obtain ⟨G, v1, v2, v3, v4, x1, x2, x3, x4, rfl, s0, r1, r2, r3, r4, hp, q⟩ := h
    exact body cdv A outer s H E hr G v1 v2 v3 v4 x1 x2 x3 x4 _ s0 r1 r2 r3 r4 hp (end_of q)
end
end RL

namespace RL
open PySem PySem.Spec PyProof.Rows L2 Rep
section
variable {α : Type}
theorem rep_of [Rep α] {K : PySem.W.Frag} {G : Hp} {v : V} {x y : α} (e : x = y) (r : rep K G v y) : rep K G v x := e ▸ r
theorem tk_tt {a y z : α} {x : Bool} (h : a = if x = true then y else z) (e : x = true) : a = y := by rwa [if_pos e] at h
theorem tk_ff {a y z : α} {x : Bool} (h : a = if x = true then y else z) (e : x = false) : a = z := by rwa [if_neg (by rw [e]; decide)] at h
theorem tk_outR {S : Type} {a : α} {y : LR α S} {k : S → α} {r : α} (h : a = y.out k) (e : y = .ret r) : a = r := by rw [e] at h; exact h
theorem tk_outN {S : Type} {a : α} {y : LR α S} {k : S → α} {s : S} (h : a = y.out k) (e : LR.nxt s = y) : a = k s := by rw [← e] at h; exact h
theorem tk_anR {S S' : Type} {a : LR α S'} {y : LR α S} {k : S → LR α S'} {r : α} (h : a = y.andThen k) (e : y = .ret r) : a = .ret r := by rw [e] at h; exact h
theorem tk_anN {S S' : Type} {a : LR α S'} {y : LR α S} {k : S → LR α S'} {s : S} (h : a = y.andThen k) (e : LR.nxt s = y) : a = k s := by rw [← e] at h; exact h
theorem tk_fold {S : Type} {a : α} {y s : S} {k : S → α} (h : a = k y) (e : s = y) : a = k s := by rw [e]; exact h
def lfold {S : Type} (step : α → S → S) : List α → S → S
  | [], s => s
  | x :: xs, s => lfold step xs (step x s)
theorem lfold_nxt {S : Type} {step : α → S → S} {x : α} {xs : List α} {s s' y : S} (e : lfold step (x :: xs) s = y) (h : step x s = s') : lfold step xs s' = y := by
  rw [← e, ← h]
  rfl
theorem mem_of {x : α} {rest xs : List α} (h : ∃ l, l ++ x :: rest = xs) : x ∈ xs := by
  obtain ⟨l, rfl⟩ := h
  simp
end
theorem mem_len {α : Type} {x : α} {rest xs : List α} (h : ∃ l, l ++ x :: rest = xs) : rest.length < xs.length := by
  obtain ⟨l, rfl⟩ := h
  rw [List.length_append, List.length_cons]
  omega
/-- a new list of flat things is the def's own from some moment on -/
theorem thaw {α : Type} [Rep α] [Flat α] {K : PySem.W.Frag} {G0 H0 Ga Ha Gb Hb Gw Hw : Hp} {v : V} {xs : List α} (xa : Ext G0 H0 Ga Ha) (x : Ext Ga Ha Gb Hb) (n : New Ha v) (xw : Ext G0 H0 Gw Hw) (s : Same Hb Hw) (r : rep K Gb v xs) :
    ∃ q, v = .ref q ∧ H0 q = none ∧ Own K Ga Hw q xs ∧ Ext G0 H0 Ga Hw := by
  obtain ⟨q, vs, rfl, e, p⟩ := r
  have hq : Ha q = none := n q rfl
  refine ⟨q, rfl, xa.h.free hq, ⟨⟨vs, s _ _ (x.s _ _ e), ?_⟩, xa.s.free hq⟩, ⟨xw.h, xa.g, fun b o h => s _ _ (x.h _ _ (xa.s _ _ h)), xa.n⟩⟩
  clear e
  induction p with
  | nil => exact .nil
  | cons h t ih => exact .cons (Flat.flat h) ih

section
variable {X : Cx} {σ : St} {G H : Hp} {P Pa Pb : PV} {e a b c tg : Expr} {es : List Expr} {st : Stmt} {sts sts' : List Stmt} {pos p : Pos} {D : Ends}
theorem s_retN_ (s0 : Same G H) (h : EvN X e σ G H P) (k : ∀ G1 H1 v, Ext G H G1 H1 → HLen H1 → P G1 H1 v → New H v → D.rt v H1) : tS X (.Return (some e) pos) D σ H :=
  s_of (ps_ret pe_sem) (h G H (Ext.refl s0) _ fun G1 H1 v x l r n => k G1 H1 v x l r n)
/-- the very value of a name -/
theorem s_retV {i : Nat} {n : Str} {np : Pos} {v : V} (sl : Sl X i n) (s0 : Same G H) (k : D.rt v H) (h : σ[i]? = some (some v) := by rfl) : tS X (.Return (some (.Name n np)) pos) D σ H :=
  s_of (ps_ret (pe_var sl.hN sl.hv sl.nm.hd sl.nm.hcd)) ⟨v, h, k⟩

/-! ### comprehensions, as a value and as a statement -/
def LcOk (X : Cx) (elt : Expr) (gen : Comprehension) (scope : Scope) (σ : St) (G H : Hp) (P : PV) : Prop :=
  ∃ (tg iter : Expr) (ifs : List Expr) (wi : TI) (g : TG) (own : List (Str × Nat)), gen = ⟨tg, iter, ifs, 0⟩ ∧ X.calm = true ∧ X.N.Nodup ∧ PI X tg iter wi ∧ BlkOk X.N X.env.scope scope own ∧
    (∀ (s : Shared) (H : Hp) (C : Addr) (cl : List (Str × Addr)) (fp : List Addr), PG (X.blk s H scope (compEnvC scope cl C X.env) fp) tg g) ∧ (∀ x, foldedSetIterable iter X.env x = pure x) ∧
    ∀ G1 H1, Ext G H G1 H1 → ∀ Q : VK, (∀ G2 H2 v, Ext G1 H1 G2 H2 → P G2 H2 v → New H1 v → Q v H2) → tLc wi g (lcT X scope ifs) (lcE X scope elt) (own.map (·.2)) σ H1 Q
theorem evN_lc {elt : Expr} {gen : Comprehension} {scope : Scope} (h : LcOk X elt gen scope σ G H P) : EvN X (.ListComp elt [gen] scope pos) σ G H P := by
  obtain ⟨tg, iter, ifs, wi, g, own, rfl, hc, hN, pi, ok, hg, hs, k⟩ := h
  exact evN_of (pe_lc hc hN pi ok hg pts_lc pe_lcE hs) k
theorem ev_lc {elt : Expr} {gen : Comprehension} {scope : Scope} (h : LcOk X elt gen scope σ G H P) : EvP X (.ListComp elt [gen] scope pos) σ G H P := (evN_lc h).ev
theorem s_setLc {elt : Expr} {gen : Comprehension} {scope : Scope} {pos' : Pos} {i : Nat} {n : Str} (hN : X.N.Nodup) (sl : Ss X i n) (s0 : Same G H) (h : LcOk X elt gen scope σ G H P) (k : ∀ G1 H1 v, Ext G H G1 H1 → HLen H1 → P G1 H1 v → New H v → D.nx (σ.set i (some v)) H1)
    (hl : X.env.scope.names.lookup n = some .local := by rfl) (hsw : swapsWith (.ListComp elt [gen] scope pos) (some (.Name n p)) pos'.line X.env = pure true := by exact sw_true rfl rfl rfl (by decide +kernel)) :
    tS X (.Assign [.Name n p] (.ListComp elt [gen] scope pos) pos') D σ H := by
  obtain ⟨tg, iter, ifs, wi, g, own, rfl, hc, hN', pi, ok, hg, hs, k'⟩ := h
  exact tS_len (s_of (ps_setLc hc hN sl.hN hl hsw pi ok hg pts_lc pe_lcE hs) (k' G H (Ext.refl s0) _ fun G1 H1 v x r n l => k G1 H1 v x l r n))
variable {α β γ : Type} [Rep α] [Rep β] [Rep γ] {iter elt : Expr} {ifs : List Expr} {scope : Scope}
theorem lc1 {xs : List α} {n : Str} {np : Pos} {i : Nat} (f : α → β) (t : α → Bool) (hc : X.calm = true) (hN : X.N.Nodup) (hi : EvI X (.Name n np) iter σ G H xs) (own : List (Str × Nat)) (ok : BlkOk X.N X.env.scope scope own)
    (hg : ∀ (s : Shared) (H : Hp) (C : Addr) (cl : List (Str × Addr)) (fp : List Addr), PG (X.blk s H scope (compEnvC scope cl C X.env) fp) (.Name n np) (gName i))
    (ht : ∀ x v G1 H1, x ∈ xs → Ext G H G1 H1 → rep X.K G1 v x → ∀ s H0 C cl fp, EvTs (InB X scope s H0 C cl fp) ifs ((wipe σ (own.map (·.2))).set i (some v)) G1 H1 (t x))
    (he : ∀ x v G1 H1, x ∈ xs → t x = true → Ext G H G1 H1 → rep X.K G1 v x → ∀ s H0 C cl fp, Ev (InB X scope s H0 C cl fp) elt ((wipe σ (own.map (·.2))).set i (some v)) G1 H1 (f x))
    (hw : ∀ v, wipe ((wipe σ (own.map (·.2))).set i (some v)) (own.map (·.2)) = wipe σ (own.map (·.2)) := by intro _; rfl) (hs : ∀ x, foldedSetIterable iter X.env x = pure x := by intro _; rfl) :
    LcOk X elt ⟨.Name n np, iter, ifs, 0⟩ scope σ G H (Is X.K ((xs.filter t).map f)) := by
  obtain ⟨wi, pi, hi⟩ := hi
  exact ⟨_, _, _, wi, _, own, rfl, hc, hN, pi, ok, hg, hs, fun G1 H1 x1 Q q => lc_go (T := T1 X.K i) (f := f) (t := t) hi acts1 (fun G x σ' ⟨v, _, e⟩ => by rw [e]; exact hw v)
    (fun x G1 H1 σ' hx e ⟨v, r, e'⟩ => e' ▸ ht x v G1 H1 hx e r) (fun x G1 H1 σ' hx hb e ⟨v, r, e'⟩ => e' ▸ he x v G1 H1 hx hb e r) t1_up G1 H1 x1 Q q⟩
theorem filter_tt {xs : List α} : xs.filter (fun _ => true) = xs := List.filter_eq_self.mpr fun _ _ => rfl
theorem lc1A {xs : List α} {n : Str} {np : Pos} {i : Nat} (f : α → β) (hc : X.calm = true) (hN : X.N.Nodup) (hi : EvI X (.Name n np) iter σ G H xs) (own : List (Str × Nat)) (ok : BlkOk X.N X.env.scope scope own)
    (hg : ∀ (s : Shared) (H : Hp) (C : Addr) (cl : List (Str × Addr)) (fp : List Addr), PG (X.blk s H scope (compEnvC scope cl C X.env) fp) (.Name n np) (gName i))
    (he : ∀ x v G1 H1, x ∈ xs → Ext G H G1 H1 → rep X.K G1 v x → ∀ s H0 C cl fp, Ev (InB X scope s H0 C cl fp) elt ((wipe σ (own.map (·.2))).set i (some v)) G1 H1 (f x))
    (hw : ∀ v, wipe ((wipe σ (own.map (·.2))).set i (some v)) (own.map (·.2)) = wipe σ (own.map (·.2)) := by intro _; rfl) (hs : ∀ x, foldedSetIterable iter X.env x = pure x := by intro _; rfl) :
    LcOk X elt ⟨.Name n np, iter, [], 0⟩ scope σ G H (Is X.K (xs.map f)) := by
  have h := lc1 (ifs := []) f (fun _ => true) hc hN hi own ok hg (fun _ _ _ _ _ _ _ _ _ _ _ _ => ets_nil) (fun x v G1 H1 hx _ => he x v G1 H1 hx) hw hs
  rwa [filter_tt] at h
theorem lc2 {xs : List (α × γ)} {tg : Expr} {i j : Nat} (f : α × γ → β) (t : α × γ → Bool) (hc : X.calm = true) (hN : X.N.Nodup) (hi : EvI X tg iter σ G H xs) (own : List (Str × Nat)) (ok : BlkOk X.N X.env.scope scope own)
    (hg : ∀ (s : Shared) (H : Hp) (C : Addr) (cl : List (Str × Addr)) (fp : List Addr), PG (X.blk s H scope (compEnvC scope cl C X.env) fp) tg (gTup X.K 2 (gCons (gName i) (gCons (gName j) gNil))))
    (ht : ∀ x u w G1 H1, x ∈ xs → Ext G H G1 H1 → rep X.K G1 u x.1 → rep X.K G1 w x.2 → ∀ s H0 C cl fp, EvTs (InB X scope s H0 C cl fp) ifs (((wipe σ (own.map (·.2))).set i (some u)).set j (some w)) G1 H1 (t x))
    (he : ∀ x u w G1 H1, x ∈ xs → t x = true → Ext G H G1 H1 → rep X.K G1 u x.1 → rep X.K G1 w x.2 → ∀ s H0 C cl fp, Ev (InB X scope s H0 C cl fp) elt (((wipe σ (own.map (·.2))).set i (some u)).set j (some w)) G1 H1 (f x))
    (hw : ∀ u w, wipe (((wipe σ (own.map (·.2))).set i (some u)).set j (some w)) (own.map (·.2)) = wipe σ (own.map (·.2)) := by intro _ _; rfl) (hs : ∀ x, foldedSetIterable iter X.env x = pure x := by intro _; rfl) :
    LcOk X elt ⟨tg, iter, ifs, 0⟩ scope σ G H (Is X.K ((xs.filter t).map f)) := by
  obtain ⟨wi, pi, hi⟩ := hi
  exact ⟨_, _, _, wi, _, own, rfl, hc, hN, pi, ok, hg, hs, fun G1 H1 x1 Q q => lc_go (T := T2 X.K i j) (f := f) (t := t) hi acts2 (fun G x σ' ⟨u, w, _, _, e⟩ => by rw [e]; exact hw u w)
    (fun x G1 H1 σ' hx e ⟨u, w, r, r', e'⟩ => e' ▸ ht x u w G1 H1 hx e r r') (fun x G1 H1 σ' hx hb e ⟨u, w, r, r', e'⟩ => e' ▸ he x u w G1 H1 hx hb e r r') t2_up G1 H1 x1 Q q⟩
theorem lc2A {xs : List (α × γ)} {tg : Expr} {i j : Nat} (f : α × γ → β) (hc : X.calm = true) (hN : X.N.Nodup) (hi : EvI X tg iter σ G H xs) (own : List (Str × Nat)) (ok : BlkOk X.N X.env.scope scope own)
    (hg : ∀ (s : Shared) (H : Hp) (C : Addr) (cl : List (Str × Addr)) (fp : List Addr), PG (X.blk s H scope (compEnvC scope cl C X.env) fp) tg (gTup X.K 2 (gCons (gName i) (gCons (gName j) gNil))))
    (he : ∀ x u w G1 H1, x ∈ xs → Ext G H G1 H1 → rep X.K G1 u x.1 → rep X.K G1 w x.2 → ∀ s H0 C cl fp, Ev (InB X scope s H0 C cl fp) elt (((wipe σ (own.map (·.2))).set i (some u)).set j (some w)) G1 H1 (f x))
    (hw : ∀ u w, wipe (((wipe σ (own.map (·.2))).set i (some u)).set j (some w)) (own.map (·.2)) = wipe σ (own.map (·.2)) := by intro _ _; rfl) (hs : ∀ x, foldedSetIterable iter X.env x = pure x := by intro _; rfl) :
    LcOk X elt ⟨tg, iter, [], 0⟩ scope σ G H (Is X.K (xs.map f)) := by
  have h := lc2 (ifs := []) f (fun _ => true) hc hN hi own ok hg (fun _ _ _ _ _ _ _ _ _ _ _ _ _ _ => ets_nil) (fun x u w G1 H1 hx _ => he x u w G1 H1 hx) hw hs
  rwa [filter_tt] at h
/-! ### sorted, in, of ints -/
def ins (x : Int) : List Int → List Int
  | [] => [x]
  | y :: ys => if x ≤ y then x :: y :: ys else y :: ins x ys
def isort : List Int → List Int
  | [] => []
  | x :: xs => ins x (isort xs)
theorem ins_perm (x : Int) : ∀ ys, (ins x ys).Perm (x :: ys)
  | [] => .refl _
  | y :: ys => by
    unfold ins
    split
    · exact .refl _
    · exact ((ins_perm x ys).cons y).trans (.swap x y ys)
theorem isort_perm : ∀ xs, (isort xs).Perm xs
  | [] => .refl _
  | x :: xs => (ins_perm x _).trans ((isort_perm xs).cons x)
theorem mem_ins {x z : Int} {ys : List Int} : z ∈ ins x ys ↔ z = x ∨ z ∈ ys := by
  rw [(ins_perm x ys).mem_iff, List.mem_cons]
theorem ins_sorted (x : Int) : ∀ ys, ys.Pairwise (· ≤ ·) → (ins x ys).Pairwise (· ≤ ·)
  | [], _ => List.pairwise_singleton _ _
  | y :: ys, h => by
    unfold ins
    have h' := List.pairwise_cons.mp h
    split
    · rename_i hx
      exact List.pairwise_cons.mpr ⟨fun z hz => by
        rcases List.mem_cons.mp hz with rfl | hz
        · exact hx
        · exact Int.le_trans hx (h'.1 z hz), h⟩
    · rename_i hx
      exact List.pairwise_cons.mpr ⟨fun z hz => by
        rcases mem_ins.mp hz with rfl | hz
        · omega
        · exact h'.1 z hz, ins_sorted x ys h'.2⟩
theorem isort_sorted : ∀ xs, (isort xs).Pairwise (· ≤ ·)
  | [] => List.Pairwise.nil
  | x :: xs => ins_sorted x _ (isort_sorted xs)
theorem sorted_one : ∀ {xs ys : List Int}, xs.Perm ys → xs.Pairwise (· ≤ ·) → ys.Pairwise (· ≤ ·) → xs = ys
  | [], ys, p, _, _ => (List.nil_perm.mp p).symm
  | x :: xs, [], p, _, _ => absurd p.symm (List.not_perm_nil_cons _ _)
  | x :: xs, y :: ys, p, h1, h2 => by
    have a := List.pairwise_cons.mp h1
    have b := List.pairwise_cons.mp h2
    have e : x = y := by
      have m1 : x ∈ y :: ys := p.mem_iff.mp List.mem_cons_self
      have m2 : y ∈ x :: xs := p.mem_iff.mpr List.mem_cons_self
      rcases List.mem_cons.mp m1 with z | z
      · exact z
      · rcases List.mem_cons.mp m2 with w | w
        · exact w.symm
        · have := b.1 x z
          have := a.1 y w
          omega
    subst e
    rw [sorted_one (List.Perm.cons_inv p) a.2 b.2]
/-! ### new objects -/
theorem evN_bin {op : Operator} {ha' : MonoC Pa} (k : ∃ r : R2, OpR X (binaryOp op) r ∧ ∀ G1 H1 v u, Ext G H G1 H1 → HLen H1 → Pa G1 H1 v → Pb G1 H1 u → ∀ Q : VK, (∀ G2 H2 w, Ext G1 H1 G2 H2 → P G2 H2 w → New H1 w → Q w H2) → r v u H1 Q) (ha : EvP X a σ G H Pa) (hb : EvP X b σ G H Pb) : EvN X (.BinOp a op b pos) σ G H P :=
  let ⟨_, ho, k⟩ := k; evN_of (pe_op ho pe_sem pe_sem) fun G1 H1 x1 Q q => ha G1 H1 x1 _ fun G2 H2 v x2 _ pv => hb G2 H2 (x1.trans x2) _ fun G3 H3 u x3 l3 pu =>
    k G3 H3 v u ((x1.trans x2).trans x3) l3 (ha'.m _ _ _ _ _ x3 pv) pu Q fun G4 H4 w x4 pw n => q G4 H4 w ((x2.trans x3).trans x4) pw fun p e => (x2.trans x3).h.free (n p e)
theorem evN_sl {xs : List α} {inst : Rep α} {lo hi : Option Expr} {l u : Option Int} {p2 : Pos} [m : MonoC P] [s : AsSeq X.K P α inst xs] (h : EvP X a σ G H P) (h1 : EvO X lo σ G H l) (h2 : EvO X hi σ G H u) : EvN X (.Subscript a (.Slice lo hi none p2) pos) σ G H (Is X.K (cut xs l u)) := by
  obtain ⟨t1, p1, k1⟩ := h1
  obtain ⟨t2, p2, k2⟩ := h2
  exact evN_of (pe_slice sl_list pe_sem p1 p2) fun G1 H1 x1 Q q => h G1 H1 x1 _ fun G2 H2 v x2 _ pv => k1 G2 H2 (x1.trans x2) _ fun G3 H3 x3 => k2 G3 H3 ((x1.trans x2).trans x3) _ fun G4 H4 x4 => by
    obtain ⟨a, us, e, g, pr⟩ := s.seq _ _ _ x4.s (m.m _ _ _ _ _ (x3.trans x4) pv)
    exact ⟨a, us, e, g, fun p hp => q (upd G4 p (.lst _)) _ _ ((x2.trans (x3.trans x4)).new hp) ⟨p, _, rfl, upd_same, pair_up (same_new (x4.s.free hp)) (paired_cut pr)⟩ fun p' e => by cases e; exact (x2.trans (x3.trans x4)).h.free hp⟩
theorem ev_cat {xs ys : List α} {ia : Rep α} [m : MonoC Pa] [sa : AsOwn X.K Pa α ia xs] [sb : AsOwn X.K Pb α ia ys] (hl : xs.length + ys.length ≤ sizeLine) (ha : EvP X a σ G H Pa) (hb : EvP X b σ G H Pb) : Ev X (.BinOp a .Add b pos) σ G H (xs ++ ys) := ev_bin (b_cat hl) ha hb
theorem evN_cat {xs ys : List α} {ia : Rep α} [m : MonoC Pa] [sa : AsOwn X.K Pa α ia xs] [sb : AsOwn X.K Pb α ia ys] (hl : xs.length + ys.length ≤ sizeLine) (ha : EvP X a σ G H Pa) (hb : EvP X b σ G H Pb) : EvN X (.BinOp a .Add b pos) σ G H (Is X.K (xs ++ ys)) :=
  evN_bin (ha' := m) ⟨_, op_cat, fun G1 H1 v u x _ h1 h2 Q q => by
    obtain ⟨a, us, e, g, pr⟩ := sa.own _ _ _ x.s h1
    obtain ⟨a2, us2, e2, g2, pr2⟩ := sb.own _ _ _ x.s h2
    exact ⟨a, a2, us, us2, e, e2, g, g2, by rw [paired_len pr, paired_len pr2]; exact hl, fun p hp => q (upd G1 p (.lst (us ++ us2))) _ _ ((Ext.refl x.s).new hp) ⟨p, _, rfl, upd_same, pair_up (same_new (x.s.free hp)) (paired_app pr pr2)⟩ fun p' e => by cases e; exact hp⟩⟩ ha hb
theorem evN_revsl {xs : List α} {inst : Rep α} {k0 : Nat} {p1 p2 p3 : Pos} [s : AsSeq X.K P α inst xs] (h : EvP X e σ G H P) : EvN X (.Subscript e (.Slice none none (some (.UnaryOp .USub (.Constant (.int 1) k0 p1) p2)) p3) pos) σ G H (Is X.K xs.reverse) :=
  evN_of (pe_revL pe_sem) fun G1 H1 x1 Q q => h G1 H1 x1 _ fun G2 H2 v x2 _ pv => by
    obtain ⟨a, us, e, g, pr⟩ := s.seq _ _ _ x2.s pv
    exact ⟨a, us, e, g, fun p hp => q (upd G2 p (.lst _)) _ _ (x2.new hp) ⟨p, _, rfl, upd_same, pair_up (same_new (x2.s.free hp)) (paired_rev pr)⟩ fun p' e => by cases e; exact x2.h.free hp⟩
theorem evN_sorted {xs : List Int} [MonoC P] [s : AsSeq X.K P Int instRepInt xs] (B : Bl X "sorted") (h : EvP X e σ G H P) (he : starEach [e] X.env = (false, eval e X.env) :: starEach [] X.env := by rfl) : EvN X (.Call (.Name "sorted" p) [e] [] pos) σ G H (Is X.K (isort xs)) :=
  evN_of (pe_callB cr_sortedI B.g B.m PyProof.Rows.boot_sorted (pa_cons pe_sem pa_nil he) (by decide) (by decide) he rfl) fun G1 H1 x1 Q q => h G1 H1 x1 _ fun G2 H2 v x2 _ pv => by
    obtain ⟨a, us, e, g, pr⟩ := s.seq _ _ _ x2.s pv
    rw [paired_ints pr] at g
    refine ⟨a, xs, by rw [e], g, fun ns' p perm srt hp => ?_⟩
    have e : ns' = isort xs := sorted_one (perm.trans (isort_perm xs).symm) srt (isort_sorted xs)
    subst e
    exact q (upd G2 p (.lst _)) _ _ (x2.new hp) ⟨p, _, rfl, upd_same, ints_paired _⟩ fun p' e => by cases e; exact x2.h.free hp
theorem evN_copy {xs : List α} {inst : Rep α} [MonoC P] [s : AsSeq X.K P α inst xs] (B : Bl X "list") (h : EvP X e σ G H P) (he : starEach [e] X.env = (false, eval e X.env) :: starEach [] X.env := by rfl) : EvN X (.Call (.Name "list" p) [e] [] pos) σ G H (Is X.K xs) :=
  evN_of (pe_callTy call_list_of B.g B.m PyProof.Rows.boot_list (pa_cons pe_sem pa_nil he) (by decide) (by decide) he rfl) fun G1 H1 x1 Q q => h G1 H1 x1 _ fun G2 H2 v x2 _ pv => by
    obtain ⟨a, us, e, g, pr⟩ := s.seq _ _ _ x2.s pv
    exact ⟨a, us, by rw [e], .inl g, fun p hp => q (upd G2 p (.lst us)) _ _ (x2.new hp) ⟨p, us, rfl, upd_same, pair_up (same_new (x2.s.free hp)) pr⟩ fun p' e => by cases e; exact x2.h.free hp⟩
theorem evN_call {k : Nat} {n : Str} {p : Pos} {sp : Sp} {A : Hp → Hp → List V → Prop} (C : Cal X.prog X.w X.K X.mg X.base k n sp) (hr : Room k X.A) (hg : Gl X n) (ha : EvA X (e :: es) σ G H A)
    (h : ∀ G1 H1 vs, Ext G H G1 H1 → HLen H1 → A G1 H1 vs → ∀ Q : VK, (∀ G2 H2 v, Ext G1 H1 G2 H2 → P G2 H2 v → New H1 v → Q v H2) → sp vs H1 Q E0) (hdb : (n == ("__debug__" : Str)) = false := by decide)
    (he : starEach (e :: es) X.env = (false, eval e X.env) :: starEach es X.env := by rfl) (hpl : (backTo pos (starEach es X.env)).any (·.1) = false := by rfl) : EvN X (.Call (.Name n p) (e :: es) [] pos) σ G H P := by
  obtain ⟨f, fd, ps, F, hm, hk, hb⟩ := C.ex
  exact evN_of (pe_call F hr hg hm hk hb .nil passL pa_sem hdb he hpl) fun G1 H1 x1 Q q => ha G1 H1 x1 _ fun G2 H2 vs x2 l2 pa => by
    show sp (vs ++ []) H2 Q E0
    rw [List.append_nil]
    exact h G2 H2 vs (x1.trans x2) l2 pa Q fun G3 H3 v x3 r n => q G3 H3 v (x2.trans x3) r fun p e => x2.h.free (n p e)
variable {δ ζ : Type} [Rep δ] [Rep ζ] {k : Nat} {n : Str} {e1 e2 e3 e4 : Expr} {x1 : α} {x2 : β} {x3 : γ} {x4 : δ}
theorem evN_c1 {pre : α → Prop} {f : α → ζ} (C : Cal X.prog X.w X.K X.mg X.base k n (Sp1 X.K true pre f)) (hr : Room k X.A) (hg : Gl X n) (h1 : Ev X e1 σ G H x1) (hp : pre x1) (hdb : (n == ("__debug__" : Str)) = false := by decide)
    (he : starEach [e1] X.env = (false, eval e1 X.env) :: starEach [] X.env := by rfl) : EvN X (.Call (.Name n p) [e1] [] pos) σ G H (Is X.K (f x1)) :=
  evN_call C hr hg (ea_cons h1 ea_nil he) (fun G1 H1 vs x l ⟨v, r, e, rv, e'⟩ Q q => ⟨G1, v, x1, by rw [e, e'], x.s, rv, hp, fun G2 H2 w x r n => q G2 H2 w x r (n rfl)⟩) hdb he rfl
theorem evN_c2 {pre : α → β → Prop} {f : α → β → ζ} (C : Cal X.prog X.w X.K X.mg X.base k n (Sp2 X.K true pre f)) (hr : Room k X.A) (hg : Gl X n) (h1 : Ev X e1 σ G H x1) (h2 : Ev X e2 σ G H x2) (hp : pre x1 x2) (hdb : (n == ("__debug__" : Str)) = false := by decide)
    (he : starEach [e1, e2] X.env = (false, eval e1 X.env) :: starEach [e2] X.env := by rfl) (he2 : starEach [e2] X.env = (false, eval e2 X.env) :: starEach [] X.env := by rfl) (hpl : (backTo pos (starEach [e2] X.env)).any (·.1) = false := by rfl) : EvN X (.Call (.Name n p) [e1, e2] [] pos) σ G H (Is X.K (f x1 x2)) :=
  evN_call C hr hg (ea_cons h1 (ea_cons h2 ea_nil he2) he) (fun G1 H1 vs x l ⟨v, r, e, rv, v2, r2, e', rv2, e''⟩ Q q => ⟨G1, v, v2, x1, x2, by rw [e, e', e''], x.s, rv, rv2, hp, fun G2 H2 w x r n => q G2 H2 w x r (n rfl)⟩) hdb he hpl
theorem evN_c3 {pre : α → β → γ → Prop} {f : α → β → γ → ζ} (C : Cal X.prog X.w X.K X.mg X.base k n (Sp3 X.K true pre f)) (hr : Room k X.A) (hg : Gl X n) (h1 : Ev X e1 σ G H x1) (h2 : Ev X e2 σ G H x2) (h3 : Ev X e3 σ G H x3) (hp : pre x1 x2 x3) (hdb : (n == ("__debug__" : Str)) = false := by decide)
    (he : starEach [e1, e2, e3] X.env = (false, eval e1 X.env) :: starEach [e2, e3] X.env := by rfl) (he2 : starEach [e2, e3] X.env = (false, eval e2 X.env) :: starEach [e3] X.env := by rfl) (he3 : starEach [e3] X.env = (false, eval e3 X.env) :: starEach [] X.env := by rfl) (hpl : (backTo pos (starEach [e2, e3] X.env)).any (·.1) = false := by rfl) : EvN X (.Call (.Name n p) [e1, e2, e3] [] pos) σ G H (Is X.K (f x1 x2 x3)) :=
  evN_call C hr hg (ea_cons h1 (ea_cons h2 (ea_cons h3 ea_nil he3) he2) he) (fun G1 H1 vs x l ⟨v, r, e, rv, v2, r2, e', rv2, v3, r3, e'', rv3, e'''⟩ Q q => ⟨G1, v, v2, v3, x1, x2, x3, by rw [e, e', e'', e'''], x.s, rv, rv2, rv3, hp, fun G2 H2 w x r n => q G2 H2 w x r (n rfl)⟩) hdb he hpl

/-! ### data compared -/
class Dat (α : Type) [Rep α] [DecidableEq α] where
  toD : α → PyData
  dp : ∀ {K : PySem.W.Frag} {G H : Hp} {v : V} {x : α}, Same G H → rep K G v x → Dp K H v (toD x)
  ok : ∀ x, (toD x).canLay0 = true
  deep : Nat
  dep : ∀ x, (toD x).depth ≤ deep
  eqv : ∀ x y, PyData.eqv (toD x) (toD y) = decide (x = y)
class DatN (α : Type) [Rep α] [DecidableEq α] [Dat α] : Prop where
  l : ∀ x : α, PyData.eqv .none (Dat.toD x) = false
  r : ∀ x : α, PyData.eqv (Dat.toD x) .none = false
instance : Dat Int := ⟨fun i => .int i, fun s h => by rw [show _ = V.int _ from h]; exact .int _, fun _ => rfl, 0, fun _ => Nat.le_refl _, fun x y => by show (x == y) = _; by_cases h : x = y <;> simp [h]⟩
instance : Dat Bool := ⟨fun i => .bool i, fun s h => by rw [show _ = V.bl _ from h]; exact .bl _, fun _ => rfl, 0, fun _ => Nat.le_refl _, fun x y => by show (x == y) = _; by_cases h : x = y <;> simp [h]⟩
instance : DatN Int := ⟨fun _ => rfl, fun _ => rfl⟩
instance : DatN Bool := ⟨fun _ => rfl, fun _ => rfl⟩
theorem dp_all {α : Type} [Rep α] [DecidableEq α] [Dat α] {K : PySem.W.Frag} {G H : Hp} (s : Same G H) : ∀ {vs : List V} {xs : List α}, Paired (rep K G) vs xs → DpAll K H vs (xs.map Dat.toD)
  | _, _, .nil => .nil
  | _, _, .cons r t => .cons (Dat.dp s r) (dp_all s t)
theorem ok_all {α : Type} [Rep α] [DecidableEq α] [Dat α] : ∀ xs : List α, PyData.canLayAll0 (xs.map Dat.toD) = true
  | [] => rfl
  | x :: xs => by
    show (PyData.canLay0 (Dat.toD x) && PyData.canLayAll0 (xs.map Dat.toD)) = true
    rw [Dat.ok, ok_all xs]
    rfl
theorem dep_all {α : Type} [Rep α] [DecidableEq α] [Dat α] : ∀ xs : List α, PyData.depthAll (xs.map Dat.toD) ≤ Dat.deep α
  | [] => Nat.zero_le _
  | x :: xs => by
    show max (PyData.depth (Dat.toD x)) (PyData.depthAll (xs.map Dat.toD)) ≤ _
    exact Nat.max_le.mpr ⟨Dat.dep x, dep_all xs⟩
theorem eqv_all {α : Type} [Rep α] [DecidableEq α] [Dat α] : ∀ xs ys : List α, PyData.eqvAll (xs.map Dat.toD) (ys.map Dat.toD) = decide (xs = ys)
  | [], [] => by simp [PyData.eqvAll]
  | [], _ :: _ => by simp [PyData.eqvAll]
  | _ :: _, [] => by simp [PyData.eqvAll]
  | x :: xs, y :: ys => by
    show (PyData.eqv (Dat.toD x) (Dat.toD y) && PyData.eqvAll (xs.map Dat.toD) (ys.map Dat.toD)) = _
    rw [Dat.eqv, eqv_all xs ys, ← Bool.decide_and]
    exact decide_eq_decide.mpr (by rw [List.cons.injEq])
instance {α : Type} [Rep α] [DecidableEq α] [Dat α] : Dat (List α) := ⟨fun xs => .list (xs.map Dat.toD), fun s ⟨a, vs, e, g, p⟩ => by rw [e]; exact .lst (.of (s _ _ g)) (dp_all s p), ok_all, Dat.deep α + 1, fun xs => Nat.succ_le_succ (dep_all xs), fun xs ys => eqv_all xs ys⟩
instance {α : Type} [Rep α] [DecidableEq α] [Dat α] : DatN (List α) := ⟨fun _ => rfl, fun _ => rfl⟩
instance {α β : Type} [Rep α] [Rep β] [DecidableEq α] [DecidableEq β] [Dat α] [Dat β] : Dat (α × β) :=
  ⟨fun x => .tuple [Dat.toD x.1, Dat.toD x.2], fun s ⟨a, u, w, e, g, p, q⟩ => by rw [e]; exact .tup (.of (s _ _ g)) (.cons (Dat.dp s p) (.cons (Dat.dp s q) .nil)),
    fun x => by
      show (PyData.canLay0 (Dat.toD x.1) && (PyData.canLay0 (Dat.toD x.2) && true)) = true
      rw [Dat.ok, Dat.ok]; rfl, max (Dat.deep α) (Dat.deep β) + 1, fun x => by
      show max (PyData.depth (Dat.toD x.1)) (max (PyData.depth (Dat.toD x.2)) 0) + 1 ≤ _
      have h1 := Dat.dep x.1
      have h2 := Dat.dep x.2
      omega, fun x y => by
      show (PyData.eqv (Dat.toD x.1) (Dat.toD y.1) && (PyData.eqv (Dat.toD x.2) (Dat.toD y.2) && true)) = _
      rw [Dat.eqv, Dat.eqv, Bool.and_true, ← Bool.decide_and]
      exact decide_eq_decide.mpr (by rw [Prod.ext_iff])⟩
instance {α β : Type} [Rep α] [Rep β] [DecidableEq α] [DecidableEq β] [Dat α] [Dat β] : DatN (α × β) := ⟨fun _ => rfl, fun _ => rfl⟩
instance {α : Type} [Rep α] [DecidableEq α] [Dat α] [DatN α] : Dat (Option α) :=
  ⟨fun o => match o with
    | none => .none
    | some x => Dat.toD x, fun {K G H v x} s h => match x, h with
    | none, h => by rw [show v = .non from h]; exact .non
    | some x, h => Dat.dp (α := α) s h, fun o => match o with
    | none => rfl
    | some x => Dat.ok x, Dat.deep α, fun o => match o with
    | none => Nat.zero_le _
    | some x => Dat.dep x, fun x y => match x, y with
    | none, none => by simp [PyData.eqv]
    | none, some y => by simp [DatN.l]
    | some x, none => by simp [DatN.r]
    | some x, some y => by simp [Dat.eqv]⟩
theorem hu64 {A : Around} {k : Nat} (hr : Room k A) : A.units + 64 < cLine := hr.units
theorem hu_of64 {A : Around} {k : Nat} (hr : Room k A) : A.units + 64 < cLine := hr.units
/-- P tells a datum to be compared -/
class AsDat (K : PySem.W.Frag) (P : PV) (α : outParam Type) (ir : outParam (Rep α)) (id : outParam (DecidableEq α)) (dd : outParam (Dat α)) (x : outParam α) : Prop where
  dp : ∀ G H v, Same G H → P G H v → Dp K H v (Dat.toD x)
instance {K : PySem.W.Frag} {α : Type} [ir : Rep α] [id : DecidableEq α] [dd : Dat α] {x : α} : AsDat K (Is K x) α ir id dd x := ⟨fun _ _ _ s h => Dat.dp s h⟩
instance {K : PySem.W.Frag} {α : Type} [ir : Rep α] [id : DecidableEq α] [dd : Dat α] {x : List α} : AsDat K (OwnAt K x) (List α) inferInstance inferInstance inferInstance x := ⟨fun _ _ _ s ⟨a, vs, e, g, p⟩ => by rw [e]; exact .lst (.of g) (dp_all s p)⟩
theorem shaped_d {α : Type} [Rep α] [DecidableEq α] [Dat α] (h : Dat.deep α ≤ 64) (x : α) : SeqAt.shaped (Dat.toD x) = true := by
  unfold SeqAt.shaped
  rw [Dat.ok, decide_eq_true (Nat.le_trans (Dat.dep x) h)]
  rfl
theorem c_eqD {α : Type} {ir : Rep α} {id : DecidableEq α} {dd : Dat α} {x y : α} [A1 : AsDat X.K Pa α ir id dd x] [A2 : AsDat X.K Pb α ir id dd y] (hu : X.A.units + 64 < cLine) (h : Dat.deep α ≤ 64 := by decide) : Bin X (compareOp .Eq) Pa Pb (Is X.K (decide (x = y))) G H :=
  ⟨_, op_eqD hu, fun G1 H1 v u z _ e1 e2 Q q => ⟨_, _, A1.dp _ _ _ z.s e1, A2.dp _ _ _ z.s e2, shaped_d h x, shaped_d h y, by rw [Dat.eqv]; exact q G1 H1 _ (Ext.refl z.s) rfl⟩⟩
theorem c_neD {α : Type} {ir : Rep α} {id : DecidableEq α} {dd : Dat α} {x y : α} [A1 : AsDat X.K Pa α ir id dd x] [A2 : AsDat X.K Pb α ir id dd y] (hu : X.A.units + 64 < cLine) (h : Dat.deep α ≤ 64 := by decide) : Bin X (compareOp .NotEq) Pa Pb (Is X.K (!decide (x = y))) G H :=
  ⟨_, op_neD hu, fun G1 H1 v u z _ e1 e2 Q q => ⟨_, _, A1.dp _ _ _ z.s e1, A2.dp _ _ _ z.s e2, shaped_d h x, shaped_d h y, by rw [Dat.eqv]; exact q G1 H1 _ (Ext.refl z.s) rfl⟩⟩
theorem any_d {α : Type} [Rep α] [DecidableEq α] [Dat α] (x : α) : ∀ xs : List α, ((xs.map Dat.toD).any fun z => PyData.eqv z (Dat.toD x)) = decide (x ∈ xs)
  | [] => by simp
  | y :: ys => by
    rw [List.map_cons, List.any_cons, Dat.eqv, any_d x ys]
    by_cases h : y = x
    · simp [h]
    · have h' : ¬ x = y := fun z => h z.symm
      simp [h, h']
/-! ### is, isinstance -/
theorem c_isX {α : Type} [Rep α] [NonV α] {x : α} : Bin X (compareOp .Is) (Is X.K x) (Is X.K ()) (Is X.K false) G H :=
  ⟨_, op_isN, fun G1 H1 v u y _ e1 e2 Q q => ⟨e2, by rw [decide_eq_false (NonV.nn e1)]; exact q G1 H1 _ (Ext.refl y.s) rfl⟩⟩
theorem c_notX {α : Type} [Rep α] [NonV α] {x : α} : Bin X (compareOp .IsNot) (Is X.K x) (Is X.K ()) (Is X.K true) G H :=
  ⟨_, op_notN, fun G1 H1 v u y _ e1 e2 Q q => ⟨e2, by rw [decide_eq_false (NonV.nn e1)]; exact q G1 H1 _ (Ext.refl y.s) rfl⟩⟩
theorem c_isU : Bin X (compareOp .Is) (Is X.K ()) (Is X.K ()) (Is X.K true) G H :=
  ⟨_, op_isN, fun G1 H1 v u y _ e1 e2 Q q => ⟨e2, by rw [decide_eq_true (show v = .non from e1)]; exact q G1 H1 _ (Ext.refl y.s) rfl⟩⟩
theorem c_notU : Bin X (compareOp .IsNot) (Is X.K ()) (Is X.K ()) (Is X.K false) G H :=
  ⟨_, op_notN, fun G1 H1 v u y _ e1 e2 Q q => ⟨e2, by rw [decide_eq_true (show v = .non from e1)]; exact q G1 H1 _ (Ext.refl y.s) rfl⟩⟩
theorem c_isB {i j : Bool} : Bin X (compareOp .Is) (Is X.K i) (Is X.K j) (Is X.K (decide (i = j))) G H :=
  ⟨_, op_isBl, fun G1 H1 v u y _ e1 e2 Q q => ⟨i, j, e1, e2, q G1 H1 _ (Ext.refl y.s) rfl⟩⟩
theorem c_isnB {i j : Bool} : Bin X (compareOp .IsNot) (Is X.K i) (Is X.K j) (Is X.K (!decide (i = j))) G H :=
  ⟨_, op_notBl, fun G1 H1 v u y _ e1 e2 Q q => ⟨i, j, e1, e2, q G1 H1 _ (Ext.refl y.s) rfl⟩⟩
/-- P tells a value of the built-in type T -/
class AsTy (K : PySem.W.Frag) (P : PV) (T : outParam String) : Prop where
  ty : ∀ G H v, Same G H → P G H v → TyX K H v (.type T)
instance {K : PySem.W.Frag} {x : Int} : AsTy K (Is K x) "int" := ⟨fun _ _ _ _ h => by rw [show _ = V.int _ from h]; exact .base (.int _)⟩
instance {K : PySem.W.Frag} {x : Bool} : AsTy K (Is K x) "bool" := ⟨fun _ _ _ _ h => by rw [show _ = V.bl _ from h]; exact .base (.bl _)⟩
instance {K : PySem.W.Frag} {x : Str} : AsTy K (Is K x) "str" := ⟨fun _ _ _ _ h => by rw [show _ = V.str _ from h]; exact .base (.str _)⟩
instance {K : PySem.W.Frag} {x : Unit} : AsTy K (Is K x) "NoneType" := ⟨fun _ _ _ _ h => by rw [show _ = V.non from h]; exact .base .non⟩
instance {K : PySem.W.Frag} {α : Type} [Rep α] {x : List α} : AsTy K (Is K x) "list" := ⟨fun _ _ _ s ⟨a, vs, e, g, _⟩ => by rw [e]; exact .base (.lst (s _ _ g))⟩
instance {K : PySem.W.Frag} {α : Type} [Rep α] {x : List α} : AsTy K (OwnAt K x) "list" := ⟨fun _ _ _ s ⟨a, vs, e, g, _⟩ => by rw [e]; exact .base (.lst g)⟩
instance {K : PySem.W.Frag} {α β : Type} [Rep α] [Rep β] {x : α × β} : AsTy K (Is K x) "tuple" := ⟨fun _ _ _ s ⟨a, u, w, e, g, _⟩ => by rw [e]; exact .base (.tup (s _ _ g))⟩
theorem ev_isi {T T' : String} {r : Bool} [MonoC P] [t : AsTy X.K P T] (B : Bl X "isinstance") (h : EvP X a σ G H P) (hT : Ev X b σ G H (V.ty T')) (k : kitB T T' = some r) (he : starEach [a, b] X.env = (false, eval a X.env) :: starEach [b] X.env := by rfl) (he2 : starEach [b] X.env = (false, eval b X.env) :: starEach [] X.env := by rfl)
    (hpl : (backTo pos (starEach [b] X.env)).any (·.1) = false := by rfl) : Ev X (.Call (.Name "isinstance" p) [a, b] [] pos) σ G H r :=
  ev_callB call_isi B.g B.m PyProof.Rows.boot_isinstance (ea_cons h (ea_cons hT ea_nil he2) he) (fun G1 H1 vs y l ⟨v, r', e1, pv, v2, r2, e2, pv2, e3⟩ Q q =>
    ⟨v, v2, .type T, .type T', r, by rw [e1, e2, e3], by rw [show v2 = _ from pv2]; exact .ty T', t.ty _ _ _ y.s pv, kit_ty k, q G1 H1 _ (Ext.refl y.s) rfl⟩) (by decide) (by decide) he hpl
/-- isinstance(x, (T1, T2)) -/
theorem ev_isiT {T T1 T2 : String} {r1 r2 : Bool} {c1 c2 : Expr} {kk : Nat} {tp : Pos} [MonoC P] [t : AsTy X.K P T] (B : Bl X "isinstance") (h : EvP X a σ G H P) (h1 : Ev X c1 σ G H (V.ty T1)) (h2 : Ev X c2 σ G H (V.ty T2)) (k : kitB T T1 = some r1 ∧ kitB T T2 = some r2)
    (he : starEach [a, .Tuple [c1, c2] kk tp] X.env = (false, eval a X.env) :: starEach [.Tuple [c1, c2] kk tp] X.env := by rfl) (he2 : starEach [.Tuple [c1, c2] kk tp] X.env = (false, eval (.Tuple [c1, c2] kk tp) X.env) :: starEach [] X.env := by rfl)
    (hpl : (backTo pos (starEach [.Tuple [c1, c2] kk tp] X.env)).any (·.1) = false := by rfl) (hs : starEach [c1, c2] X.env = (false, eval c1 X.env) :: starEach [c2] X.env := by rfl) (hs' : starEach [c2] X.env = (false, eval c2 X.env) :: starEach [] X.env := by rfl) :
    Ev X (.Call (.Name "isinstance" p) [a, .Tuple [c1, c2] kk tp] [] pos) σ G H (r1 || r2) :=
  ev_callB call_isiT B.g B.m PyProof.Rows.boot_isinstance (ea_cons h (ea_cons (ev_tup (k := kk) h1 h2 hs hs') ea_nil he2) he) (fun G1 H1 vs y l ⟨v, r', e1, pv, v2, r2', e2, pv2, e3⟩ Q q => by
    obtain ⟨ta, w1, w2, rfl, g, p1, p2⟩ := pv2
    have p1 : w1 = V.ty T1 := p1
    have p2 : w2 = V.ty T2 := p2
    subst p1 p2
    refine ⟨v, ta, _, .type T, [.type T1, .type T2], r1 || r2, by rw [e1, e2, e3], y.s _ _ g, .cons (.ty _) (.cons (.ty _) .nil), t.ty _ _ _ y.s pv, ?_, q G1 H1 _ (Ext.refl y.s) rfl⟩
    refine kitAny_cons (kit_ty k.1) (fun z => ?_) fun z => by rw [z]; rfl
    rw [z, Bool.false_or]
    refine kitAny_cons (kit_ty k.2) (fun z' => ?_) fun z' => z'
    rw [z']
    exact kitAny_nil) (by decide) (by decide) he hpl
theorem boot_int' : bootBuiltins "int" = some (.type "int") := PyProof.Rows.boot_int
theorem boot_bool' : bootBuiltins "bool" = some (.type "bool") := by decide +kernel
theorem boot_str' : bootBuiltins "str" = some (.type "str") := PyProof.Rows.boot_str
theorem boot_list' : bootBuiltins "list" = some (.type "list") := PyProof.Rows.boot_list
theorem boot_tuple' : bootBuiltins "tuple" = some (.type "tuple") := by decide +kernel

theorem ev_sorted {xs : List Int} [MonoC P] [s : AsSeq X.K P Int instRepInt xs] (B : Bl X "sorted") (h : EvP X e σ G H P) (he : starEach [e] X.env = (false, eval e X.env) :: starEach [] X.env := by rfl) : Ev X (.Call (.Name "sorted" p) [e] [] pos) σ G H (isort xs) :=
  ev_callB cr_sortedI B.g B.m PyProof.Rows.boot_sorted (ea_cons h ea_nil he) (fun G1 H1 vs x l ⟨v, r, e1, pv, e2⟩ Q q => by
    obtain ⟨a, us, e, g, pr⟩ := s.seq _ _ _ x.s pv
    rw [paired_ints pr] at g
    refine ⟨a, xs, by rw [e1, e2, e], g, fun ns' p perm srt hp => ?_⟩
    have e : ns' = isort xs := sorted_one (perm.trans (isort_perm xs).symm) srt (isort_sorted xs)
    subst e
    exact q (upd G1 p (.lst _)) _ _ ((Ext.refl x.s).new hp) ⟨p, _, rfl, upd_same, ints_paired _⟩) (by decide) (by decide) he rfl
theorem inV_ints {i : Int} : ∀ ns : List Int, inV (.int i) (ns.map V.int) = decide (i ∈ ns)
  | [] => by simp [inV]
  | n :: ns => by
    have ih := inV_ints (i := i) ns
    unfold inV at ih ⊢
    rw [List.map_cons, List.any_cons, ih]
    show (n == i || _) = _
    by_cases h : n = i
    · simp [h]
    · have h' : ¬ i = n := fun z => h z.symm
      simp [h, h']
theorem flat_ints (ns : List Int) : (ns.map V.int).all flatV = true := by
  rw [List.all_eq_true]
  intro x hx
  obtain ⟨i, _, rfl⟩ := List.mem_map.mp hx
  rfl
theorem c_in {i : Int} {xs : List Int} [s : AsSeq X.K Pb Int instRepInt xs] : Bin X (compareOp .In) (Is X.K i) Pb (Is X.K (decide (i ∈ xs))) G H :=
  ⟨_, op_in_seq, fun G1 H1 v u y _ e1 e2 Q q => by
    obtain ⟨a, us, e, g, pr⟩ := s.seq _ _ _ y.s e2
    rw [paired_ints pr] at g
    refine ⟨a, _, e, .inl g, by rw [show v = _ from e1]; rfl, flat_ints xs, ?_⟩
    rw [show v = _ from e1, inV_ints]
    exact q G1 H1 _ (Ext.refl y.s) rfl⟩
theorem c_nin {i : Int} {xs : List Int} [s : AsSeq X.K Pb Int instRepInt xs] : Bin X (compareOp .NotIn) (Is X.K i) Pb (Is X.K (!decide (i ∈ xs))) G H :=
  ⟨_, op_notIn_seq, fun G1 H1 v u y _ e1 e2 Q q => by
    obtain ⟨a, us, e, g, pr⟩ := s.seq _ _ _ y.s e2
    rw [paired_ints pr] at g
    refine ⟨a, _, e, .inl g, by rw [show v = _ from e1]; rfl, flat_ints xs, ?_⟩
    rw [show v = _ from e1, inV_ints]
    exact q G1 H1 _ (Ext.refl y.s) rfl⟩
end
end RL

namespace RL
open PySem PySem.Spec PyProof.Rows L2 Rep
theorem ixN_neg' {n : Nat} {i : Int} (h0 : i < 0) (h1 : -(n : Int) ≤ i) {j : Nat} (h : (j : Int) = i + n := by omega) : ixN n i = some j := by
  rw [ixN_neg h0 h1, ← h]
  rfl
/-! ### a law's end -/
theorem law_sp {K : PySem.W.Frag} {H : Hp} {a : Addr} {ns : List Int} {m : Scr → Bool} (ht : ∀ s : Scr, s.ns.length ≤ 63 → m s = true) (hl : ns.length ≤ 63) (hS : SqL K H a (ns.map V.int)) :
    Sp1 K false (fun (script : Scr) => script.ns.length ≤ 63) m [.ref a] H (fun v _ => v = .bl true) fun _ _ _ => False :=
  ⟨H, .ref a, ⟨ns⟩, rfl, Same.refl _, ⟨a, rfl, hS⟩, hl, fun G2 H2 w _ r _ => by rw [ht ⟨ns⟩ hl] at r; exact r⟩
theorem law_cx {P : Program} {w : World} {H : Hp} {s s' : Shared} {e : Value} (h : L2.CX P w [] H s (fun _ _ _ => False) e s') : False := by
  obtain ⟨_, _, _, _, _, _, _, _, _, _, _, _, z⟩ := h
  exact z
end RL

namespace RL
/-! ### loops, plainly -/
theorem lrun_cons {α R S : Type} (step : α → S → LR R S) (x : α) (xs : List α) (s : S) : lrun step (x :: xs) s = match step x s with | .nxt s' => lrun step xs s' | .brk s' => .nxt s' | .ret r => .ret r := rfl
theorem lrun_unit {α R : Type} {step : α → Unit → LR R Unit} : ∀ {xs : List α}, (∀ x ∈ xs, step x () = .nxt ()) → lrun step xs () = .nxt ()
  | [], _ => rfl
  | x :: xs, h => by
    rw [lrun_cons, h x List.mem_cons_self]
    exact lrun_unit fun y hy => h y (List.mem_cons_of_mem _ hy)
theorem lrun_inv {α R S : Type} {step : α → S → LR R S} (I : S → Prop) : ∀ {xs : List α} {s : S}, I s → (∀ x ∈ xs, ∀ s, I s → ∃ s', step x s = .nxt s' ∧ I s') → ∃ s', lrun step xs s = .nxt s' ∧ I s'
  | [], s, h, _ => ⟨s, rfl, h⟩
  | x :: xs, s, h, k => by
    obtain ⟨s', e, h'⟩ := k x List.mem_cons_self s h
    obtain ⟨t, e2, h2⟩ := lrun_inv I (xs := xs) h' fun y hy => k y (List.mem_cons_of_mem _ hy)
    refine ⟨t, ?_, h2⟩
    rw [lrun_cons, e]
    exact e2
theorem lfold_foldl {α S : Type} (step : α → S → S) : ∀ (xs : List α) (s : S), lfold step xs s = xs.foldl (fun s x => step x s) s
  | [], _ => rfl
  | x :: xs, s => lfold_foldl step xs (step x s)
theorem lfold_len {α β : Type} {step : α → List β → List β} {c : Nat} (h : ∀ x s, (step x s).length = s.length + c) : ∀ (xs : List α) (s : List β), (lfold step xs s).length = s.length + c * xs.length
  | [], s => by simp [lfold]
  | x :: xs, s => by
    rw [lfold, lfold_len h xs, h, List.length_cons, Nat.mul_add]
    omega
/-- a list that is filled by a loop is a map -/
theorem lfold_map {α β : Type} {step : α → List β → List β} {f : α → β} (h : ∀ x s, step x s = s ++ [f x]) : ∀ (xs : List α) (s : List β), lfold step xs s = s ++ xs.map f
  | [], s => by simp [lfold]
  | x :: xs, s => by rw [lfold, h, lfold_map h xs, List.map_cons, List.append_assoc]; rfl
end RL

namespace RL
open PySem PySem.Spec PyProof.Rows L2 Rep
/-! ### dicts -/
/-- a dict, its pairs in order -/
structure Dct (κ α : Type) where
  kvs : List (κ × α)
def dlook {κ α : Type} [DecidableEq κ] (kvs : List (κ × α)) (k : κ) : Option α := (kvs.find? fun kv => decide (kv.1 = k)).map (·.2)
def dput {κ α : Type} [DecidableEq κ] (kvs : List (κ × α)) (k : κ) (v : α) : List (κ × α) :=
  if (kvs.any fun kv => decide (kv.1 = k)) = true then kvs.map (fun kv => if kv.1 = k then (kv.1, v) else kv) else kvs ++ [(k, v)]
/-- what may be a key: how such a dict stands in the heap -/
class DKey (κ : Type) [Rep κ] [DecidableEq κ] where
  obj : List (κ × V) → HO
  get : ∀ {K : PySem.W.Frag} {G H : Hp} {a : Addr} {y : V} {k : κ} {ps : List (κ × V)}, Same G H → rep K G y k → Rd H a (obj ps) → DGet H a y (valV ps k)
  put : ∀ {K : PySem.W.Frag} {G H : Hp} {a : Addr} {y v : V} {k : κ} {ps : List (κ × V)}, Same G H → rep K G y k → H a = some (obj ps) → ps.length < sizeLine → DPut H a y v (upd H a (obj (putK ps k v)))
  isD : ∀ {H : Hp} {a : Addr} {ps : List (κ × V)}, Rd H a (obj ps) → IsD H a
  new : ∀ {X : Cx} {pos : Pos}, PE X (.Dict [] [] pos) (fun _ H Q => ∀ p, H p = none → Q (.ref p) (upd H p (obj [])))
  len : ∀ ps : List (κ × V), szO (obj ps) = ps.length
  isM : ∀ ps : List (κ × V), Mut (some (obj ps))
  inj : ∀ ps qs : List (κ × V), obj ps = obj qs → ps = qs
theorem map_put {κ κ' : Type} [DecidableEq κ] [DecidableEq κ'] {f : κ → κ'} (hf : ∀ a b, f a = f b → a = b) (ps : List (κ × V)) (k : κ) (v : V) : putK (ps.map fun p => (f p.1, p.2)) (f k) v = (putK ps k v).map fun p => (f p.1, p.2) := by
  have e : ∀ a, (f a = f k) = (a = k) := fun a => propext ⟨hf a k, fun h => by rw [h]⟩
  unfold putK
  rw [List.any_map]
  have ea : (ps.any ((fun kv => decide (kv.1 = f k)) ∘ fun p => (f p.1, p.2))) = ps.any fun kv => decide (kv.1 = k) := by
    congr 1
    funext p
    exact decide_eq_decide.mpr (by rw [e])
  rw [ea]
  split
  · rw [List.map_map, List.map_map]
    refine List.map_congr_left fun p _ => ?_
    show (if f p.1 = f k then (f p.1, v) else (f p.1, p.2)) = (f (if p.1 = k then (p.1, v) else p).1, (if p.1 = k then (p.1, v) else p).2)
    by_cases h : p.1 = k
    · rw [if_pos (by rw [h]), if_pos h]
    · rw [if_neg (fun z => h (hf _ _ z)), if_neg h]
  · rw [List.map_append]
    rfl
theorem map_val {κ κ' : Type} [DecidableEq κ] [DecidableEq κ'] {f : κ → κ'} (hf : ∀ a b, f a = f b → a = b) (k : κ) : ∀ ps : List (κ × V), valV (ps.map fun p => (f p.1, p.2)) (f k) = valV ps k
  | [] => rfl
  | p :: ps => by
    rw [List.map_cons]
    by_cases h : p.1 = k
    · rw [valV_pos h, valV_pos (by show f p.1 = f k; rw [h])]
    · rw [valV_neg h, valV_neg (fun z => h (hf _ _ z)), map_val hf k ps]
instance : DKey Int where
  obj ps := .dK (ps.map fun p => (Sum.inl p.1, p.2))
  get {K G H a y k ps} s r e := by
    have r : y = V.int k := r
    rw [← map_val (f := (Sum.inl : Int → Key)) (fun _ _ => Sum.inl.inj) k ps, r]
    exact .inl ⟨_, Sum.inl k, e, rfl, rfl⟩
  put {K G H a y v k ps} s r e hl := by
    have r : y = V.int k := r
    show DPut H a y v (upd H a (.dK ((putK ps k v).map fun p => (Sum.inl p.1, p.2))))
    rw [← map_put (f := (Sum.inl : Int → Key)) (fun _ _ => Sum.inl.inj) ps k v, r]
    exact DPut.k (k := Sum.inl k) e (by rw [List.length_map]; exact hl)
  isD e := .inl ⟨_, e⟩
  new := pe_dnewK
  len ps := List.length_map _
  isM _ := trivial
  inj ps qs h := List.map_inj_right (f := fun p : Int × V => ((Sum.inl p.1 : Key), p.2)) (fun a b e => Prod.ext (Sum.inl.inj (Prod.ext_iff.mp e).1) (Prod.ext_iff.mp e).2) |>.mp (HO.dK.inj h)
theorem pairK_inj : ∀ a b : Int × Int, [(Sum.inl a.1 : Key), Sum.inl a.2] = [Sum.inl b.1, Sum.inl b.2] → a = b := fun a b h => by
  have h1 := (List.cons.inj h).1
  have h2 := (List.cons.inj (List.cons.inj h).2).1
  exact Prod.ext (Sum.inl.inj h1) (Sum.inl.inj h2)
instance : DKey (Int × Int) where
  obj ps := .dT (ps.map fun p => ([Sum.inl p.1.1, Sum.inl p.1.2], p.2))
  get {K G H a y k ps} s r e := by
    obtain ⟨b, u, w, rfl, g, p1, p2⟩ := r
    have p1 : u = V.int k.1 := p1
    have p2 : w = V.int k.2 := p2
    subst p1 p2
    rw [← map_val (f := fun q : Int × Int => [(Sum.inl q.1 : Key), Sum.inl q.2]) pairK_inj k ps]
    exact .inr ⟨_, [Sum.inl k.1, Sum.inl k.2], b, e, rfl, s _ _ g, rfl⟩
  put {K G H a y v k ps} s r e hl := by
    obtain ⟨b, u, w, rfl, g, p1, p2⟩ := r
    have p1 : u = V.int k.1 := p1
    have p2 : w = V.int k.2 := p2
    subst p1 p2
    show DPut H a _ v (upd H a (.dT ((putK ps k v).map fun p => ([Sum.inl p.1.1, Sum.inl p.1.2], p.2))))
    rw [← map_put (f := fun q : Int × Int => [(Sum.inl q.1 : Key), Sum.inl q.2]) pairK_inj ps k v]
    exact DPut.t (k := [Sum.inl k.1, Sum.inl k.2]) e (s _ _ g) (by rw [List.length_map]; exact hl)
  isD e := .inr ⟨_, e⟩
  new := pe_dnewT
  len ps := List.length_map _
  isM _ := trivial
  inj ps qs h := List.map_inj_right (f := fun p : (Int × Int) × V => ([(Sum.inl p.1.1 : Key), Sum.inl p.1.2], p.2)) (fun a b e => Prod.ext (pairK_inj _ _ (Prod.ext_iff.mp e).1) (Prod.ext_iff.mp e).2) |>.mp (HO.dT.inj h)
/-- the pairs of a dict as data -/
def PairD {κ α : Type} [Rep α] (K : PySem.W.Frag) (G : Hp) : List (κ × V) → List (κ × α) → Prop := Paired fun p e => p.1 = e.1 ∧ rep K G p.2 e.2
theorem pairD_up {κ α : Type} [Rep α] {K : PySem.W.Frag} {G G' : Hp} (s : Same G G') : ∀ {ps : List (κ × V)} {es : List (κ × α)}, PairD K G ps es → PairD K G' ps es
  | _, _, .nil => .nil
  | _, _, .cons h t => .cons ⟨h.1, up s h.2⟩ (pairD_up s t)
theorem pairD_some {κ α : Type} [DecidableEq κ] [Rep α] {K : PySem.W.Frag} {G : Hp} {k : κ} : ∀ {ps : List (κ × V)} {es : List (κ × α)}, PairD K G ps es → ∀ x, dlook es k = some x → ∃ v, valV ps k = some v ∧ rep K G v x
  | _, _, .nil, _, h => by cases h
  | p :: ps, e :: es, .cons h t, x, hx => by
    by_cases hk : e.1 = k
    · rw [dlook, List.find?_cons_of_pos (by simpa using hk)] at hx
      cases hx
      exact ⟨p.2, valV_pos (h.1.trans hk), h.2⟩
    · rw [dlook, List.find?_cons_of_neg (by simpa using hk)] at hx
      obtain ⟨v, e1, e2⟩ := pairD_some t x hx
      exact ⟨v, by rw [valV_neg (by rw [h.1]; exact hk)]; exact e1, e2⟩
theorem pairD_none {κ α : Type} [DecidableEq κ] [Rep α] {K : PySem.W.Frag} {G : Hp} {k : κ} : ∀ {ps : List (κ × V)} {es : List (κ × α)}, PairD K G ps es → dlook es k = none → valV ps k = none
  | _, _, .nil, _ => rfl
  | p :: ps, e :: es, .cons h t, hx => by
    by_cases hk : e.1 = k
    · rw [dlook, List.find?_cons_of_pos (by simpa using hk)] at hx
      cases hx
    · rw [dlook, List.find?_cons_of_neg (by simpa using hk)] at hx
      rw [valV_neg (by rw [h.1]; exact hk)]
      exact pairD_none t hx
theorem pairD_is {κ α : Type} [DecidableEq κ] [Rep α] {K : PySem.W.Frag} {G : Hp} {k : κ} {ps : List (κ × V)} {es : List (κ × α)} (h : PairD K G ps es) : (valV ps k).isSome = (dlook es k).isSome := by
  cases e : dlook es k with
  | none =>
    rw [pairD_none h e]
    rfl
  | some x =>
    obtain ⟨v, e1, _⟩ := pairD_some h x e
    rw [e1]
    rfl
theorem pairD_any {κ α : Type} [DecidableEq κ] [Rep α] {K : PySem.W.Frag} {G : Hp} {k : κ} : ∀ {ps : List (κ × V)} {es : List (κ × α)}, PairD K G ps es → (ps.any fun kv => decide (kv.1 = k)) = es.any fun kv => decide (kv.1 = k)
  | _, _, .nil => rfl
  | p :: ps, e :: es, .cons h t => by rw [List.any_cons, List.any_cons, pairD_any t, h.1]
theorem pairD_map {κ α : Type} [DecidableEq κ] [Rep α] {K : PySem.W.Frag} {G : Hp} {k : κ} {v : V} {x : α} (r : rep K G v x) : ∀ {ps : List (κ × V)} {es : List (κ × α)}, PairD K G ps es → PairD K G (ps.map fun kv => if kv.1 = k then (kv.1, v) else kv) (es.map fun kv => if kv.1 = k then (kv.1, x) else kv)
  | _, _, .nil => .nil
  | p :: ps, e :: es, .cons h t => by
    refine .cons ?_ (pairD_map r t)
    show (if p.1 = k then (p.1, v) else p).1 = (if e.1 = k then (e.1, x) else e).1 ∧ rep K G (if p.1 = k then (p.1, v) else p).2 (if e.1 = k then (e.1, x) else e).2
    by_cases hk : e.1 = k
    · rw [if_pos hk, if_pos (h.1.trans hk)]
      exact ⟨h.1, r⟩
    · rw [if_neg hk, if_neg (by rw [h.1]; exact hk)]
      exact h
theorem pairD_put {κ α : Type} [DecidableEq κ] [Rep α] {K : PySem.W.Frag} {G : Hp} {k : κ} {v : V} {x : α} {ps : List (κ × V)} {es : List (κ × α)} (h : PairD K G ps es) (r : rep K G v x) : PairD K G (putK ps k v) (dput es k x) := by
  unfold putK dput
  rw [pairD_any h]
  split
  · exact pairD_map r h
  · exact paired_app h (.cons ⟨rfl, r⟩ .nil)
instance instRepDct {κ α : Type} [Rep κ] [DecidableEq κ] [DKey κ] [Rep α] : Rep (Dct κ α) where
  rep K G v d := ∃ a o ps, v = .ref a ∧ G a = some (.frz o (DKey.obj ps)) ∧ PairD K G ps d.kvs
  up s h := let ⟨a, o, ps, e, g, p⟩ := h; ⟨a, o, ps, e, s _ _ g, pairD_up s p⟩
def DctAt {κ α : Type} [Rep κ] [DecidableEq κ] [DKey κ] [Rep α] (K : PySem.W.Frag) (d : Dct κ α) : PV := fun G H v => ∃ a ps, v = .ref a ∧ Rd H a (DKey.obj ps) ∧ PairD K G ps d.kvs
theorem rd_up {H H' : Hp} {a : Addr} {u : HO} (s : Same H H') (h : Rd H a u) : Rd H' a u := h.elim (fun z => .inl (s _ _ z)) fun ⟨o, z⟩ => .inr ⟨o, s _ _ z⟩
instance {κ α : Type} [Rep κ] [DecidableEq κ] [DKey κ] [Rep α] {K : PySem.W.Frag} {d : Dct κ α} : MonoC (DctAt K d) := ⟨fun _ _ _ _ _ x ⟨a, ps, e, g, p⟩ => ⟨a, ps, e, rd_up x.h g, pairD_up x.g p⟩⟩
class AsDct (K : PySem.W.Frag) (P : PV) (κ α : outParam Type) (r1 : outParam (Rep κ)) (dk : outParam (DecidableEq κ)) (k1 : outParam (DKey κ)) (r2 : outParam (Rep α)) (d : outParam (Dct κ α)) : Prop where
  dct : ∀ G H v, Same G H → P G H v → DctAt K d G H v
instance {κ α : Type} [r1 : Rep κ] [dk : DecidableEq κ] [k1 : DKey κ] [r2 : Rep α] {K : PySem.W.Frag} {d : Dct κ α} : AsDct K (DctAt K d) κ α r1 dk k1 r2 d := ⟨fun _ _ _ _ h => h⟩
instance {κ α : Type} [r1 : Rep κ] [dk : DecidableEq κ] [k1 : DKey κ] [r2 : Rep α] {K : PySem.W.Frag} {d : Dct κ α} : AsDct K (Is K d) κ α r1 dk k1 r2 d := ⟨fun _ _ _ s ⟨a, o, ps, e, g, p⟩ => ⟨a, ps, e, .inr ⟨o, s _ _ g⟩, p⟩⟩
structure OwnD {κ α : Type} [Rep κ] [DecidableEq κ] [DKey κ] [Rep α] (K : PySem.W.Frag) (G H : Hp) (q : Addr) (d : Dct κ α) : Prop where
  at_ : ∃ ps, H q = some (DKey.obj ps) ∧ PairD K G ps d.kvs
  off : G q = none
section
variable {κ α : Type} [Rep κ] [DecidableEq κ] [DKey κ] [Rep α] {K : PySem.W.Frag} {d : Dct κ α}
theorem OwnD.mono {G H G1 H1 : Hp} {q : Addr} (o : OwnD K G H q d) (x : Ext G H G1 H1) : OwnD K G1 H1 q d := let ⟨vs, e, p⟩ := o.at_; ⟨⟨vs, x.h _ _ e, pairD_up x.g p⟩, x.off o.off e fun xs z => by have := DKey.isM (κ := κ) vs; rw [z] at this; exact this⟩
theorem OwnD.pv {G H : Hp} {q : Addr} (o : OwnD K G H q d) : DctAt K d G H (.ref q) := let ⟨vs, e, p⟩ := o.at_; ⟨q, vs, rfl, .inl e, p⟩
theorem OwnD.ex {G H : Hp} {q : Addr} (o : OwnD K G H q d) : ∃ u, H q = some u := let ⟨_, e, _⟩ := o.at_; ⟨_, e⟩
theorem OwnD.wr {G H : Hp} {q q' : Addr} {o' : HO} (o : OwnD K G H q d) (h : q ≠ q') : OwnD K G (upd H q' o') q d := let ⟨vs, e, p⟩ := o.at_; ⟨⟨vs, by rw [upd_ne h]; exact e, p⟩, o.off⟩
theorem OwnD.len {G H : Hp} {q : Addr} (o : OwnD K G H q d) (l : HLen H) : d.kvs.length ≤ sizeLine := by
  obtain ⟨vs, e, p⟩ := o.at_
  have := l _ _ e
  rw [DKey.len, paired_len p] at this
  exact this
/-- an own dict, from now on as it is: locked, frozen -/
theorem OwnD.lock {X : Cx} {G0 H0 G H : Hp} {q : Addr} {d : Dct κ α} {sts : List Stmt} {D : Ends} {σ : St} (o : OwnD X.K G H q d) (x0 : Ext G0 H0 G H) (n : H0 q = none)
    (k : ∀ u, Ext G0 H0 (upd G q u) (upd H q u) → rep X.K (upd G q u) (.ref q) d → tSs X sts D σ (upd H q u)) : tSs X sts D σ H := .mk fun pins s I => by
  obtain ⟨ps, e, p⟩ := o.at_
  obtain ⟨od, I2⟩ := I.lock e (DKey.isM ps)
  exact k (.frz od (DKey.obj ps)) ((x0.wr n o.off).frz n upd_same) ⟨q, od, ps, rfl, upd_same, pairD_up (same_new o.off) p⟩ |>.run pins s I2
end
section
variable {X : Cx} {σ : St} {G H : Hp} {P Pa Pb : PV} {e a b c : Expr} {pos p : Pos} {D : Ends} {κ α : Type} {r1 : Rep κ} {dk : DecidableEq κ} {k1 : DKey κ} {r2 : Rep α} {d : Dct κ α} {k : κ}
theorem din_go (neg : Bool) [A : AsDct X.K P κ α r1 dk k1 r2 d] (hk : Ev X a σ G H k) (hd : EvP X b σ G H P) : ∀ G1 H1, Ext G H G1 H1 → ∀ Q : VK, (∀ G2 H2 v, Ext G1 H1 G2 H2 → Is X.K (if neg then !(dlook d.kvs k).isSome else (dlook d.kvs k).isSome) G2 H2 v → Q v H2) →
    (if neg then tDNotIn (tE X a) (tE X b) else tDIn (tE X a) (tE X b)) σ H1 Q := fun G1 H1 x1 Q q => by
  cases neg with
  | false =>
    exact hk G1 H1 x1 _ fun G2 H2 y x2 _ ry => hd G2 H2 (x1.trans x2) _ fun G3 H3 v x3 _ pv => by
      obtain ⟨a, ps, e, g, pr⟩ := A.dct _ _ _ x3.s pv
      exact ⟨a, _, e, DKey.get x3.s (up x3.g ry) g, q G3 H3 _ (x2.trans x3) (by rw [pairD_is pr]; rfl)⟩
  | true =>
    exact hk G1 H1 x1 _ fun G2 H2 y x2 _ ry => hd G2 H2 (x1.trans x2) _ fun G3 H3 v x3 _ pv => by
      obtain ⟨a, ps, e, g, pr⟩ := A.dct _ _ _ x3.s pv
      exact ⟨a, _, e, DKey.get x3.s (up x3.g ry) g, q G3 H3 _ (x2.trans x3) (by rw [pairD_is pr]; rfl)⟩
theorem hu1 {A : Around} {k : Nat} (hr : Room k A) : A.units + 1 < cLine := hu_of hr
theorem ev_din [AsDct X.K P κ α r1 dk k1 r2 d] (hu : X.A.units + 1 < cLine) (hk : Ev X a σ G H k) (hd : EvP X b σ G H P) (hm : behindInMarks .In b = false := by rfl) : Ev X (.Compare a [.In] [b] pos) σ G H (dlook d.kvs k).isSome :=
  evP_of (pe_cmp (pc_din hu pe_sem pe_sem) hm) (din_go false hk hd)
theorem et_din [AsDct X.K P κ α r1 dk k1 r2 d] (hu : X.A.units + 1 < cLine) (hk : Ev X a σ G H k) (hd : EvP X b σ G H P) (hm : behindInMarks .In b = false := by rfl) : EvT X (.Compare a [.In] [b] pos) σ G H (dlook d.kvs k).isSome :=
  evT_of (pt_cmp (pc_din hu pe_sem pe_sem) hm) fun G1 H1 x1 Q q => din_go false hk hd G1 H1 x1 _ fun G2 H2 _ x2 r => ⟨_, r, q G2 H2 x2⟩
theorem ev_dnin [AsDct X.K P κ α r1 dk k1 r2 d] (hu : X.A.units + 1 < cLine) (hk : Ev X a σ G H k) (hd : EvP X b σ G H P) (hm : behindInMarks .NotIn b = false := by rfl) : Ev X (.Compare a [.NotIn] [b] pos) σ G H (!(dlook d.kvs k).isSome) :=
  evP_of (pe_cmp (pc_dnotin hu pe_sem pe_sem) hm) (din_go true hk hd)
theorem et_dnin [AsDct X.K P κ α r1 dk k1 r2 d] (hu : X.A.units + 1 < cLine) (hk : Ev X a σ G H k) (hd : EvP X b σ G H P) (hm : behindInMarks .NotIn b = false := by rfl) : EvT X (.Compare a [.NotIn] [b] pos) σ G H (!(dlook d.kvs k).isSome) :=
  evT_of (pt_cmp (pc_dnotin hu pe_sem pe_sem) hm) fun G1 H1 x1 Q q => din_go true hk hd G1 H1 x1 _ fun G2 H2 _ x2 r => ⟨_, r, q G2 H2 x2⟩
/-- d[k], k is there -/
theorem ev_dget (dv : α) [m : MonoC P] [A : AsDct X.K P κ α r1 dk k1 r2 d] (hu : X.A.units + 1 < cLine) (hd : EvP X a σ G H P) (hk : Ev X b σ G H k) (h : (dlook d.kvs k).isSome = true) (hs : NoSl b := by exact fun _ _ => rfl) : Ev X (.Subscript a b pos) σ G H ((dlook d.kvs k).getD dv) :=
  evP_of (pe_dget hu pe_sem pe_sem hs) fun G1 H1 x1 Q q => hd G1 H1 x1 _ fun G2 H2 v x2 _ pv => hk G2 H2 (x1.trans x2) _ fun G3 H3 y x3 _ ry => by
    obtain ⟨a, ps, e, g, pr⟩ := A.dct _ _ _ x3.s (m.m _ _ _ _ _ x3 pv)
    obtain ⟨x, hx⟩ := Option.isSome_iff_exists.mp h
    obtain ⟨w, e1, e2⟩ := pairD_some pr x hx
    exact ⟨a, w, e, e1 ▸ DKey.get x3.s ry g, q G3 H3 w (x2.trans x3) (by rw [hx]; exact e2)⟩
/-- d.get(k, x) -/
theorem ev_dget2 {x : α} {ap cp : Pos} [m : MonoC P] [A : AsDct X.K P κ α r1 dk k1 r2 d] (hu : X.A.units + 1 < cLine) (hd : EvP X a σ G H P) (hk : Ev X b σ G H k) (hx : Ev X c σ G H x) (m2 : M2 X a "get" ap b c cp := by exact ⟨rfl, rfl, rfl, rfl⟩) :
    Ev X (.Call (.Attribute a "get" ap) [b, c] [] cp) σ G H ((dlook d.kvs k).getD x) :=
  evP_of (pe_dget2 hu pe_sem pe_sem pe_sem m2) fun G1 H1 x1 Q q => hd G1 H1 x1 _ fun G2 H2 v x2 _ pv => by
    obtain ⟨a', ps', e', g', _⟩ := A.dct _ _ _ x2.s pv
    refine ⟨a', e', DKey.isD g', hk G2 H2 (x1.trans x2) _ fun G3 H3 y x3 _ ry => hx G3 H3 ((x1.trans x2).trans x3) _ fun G4 H4 z x4 _ rz => ?_⟩
    obtain ⟨a, ps, e, g, pr⟩ := A.dct _ _ _ x4.s (m.m _ _ _ _ _ (x3.trans x4) pv)
    rw [e'] at e
    cases e
    refine ⟨_, DKey.get x4.s (up x4.g ry) g, ?_⟩
    cases hl : dlook d.kvs k with
    | none =>
      rw [pairD_none pr hl]
      exact q G4 H4 _ (x2.trans (x3.trans x4)) (by rw [hl]; exact rz)
    | some t =>
      obtain ⟨w, e1, e2⟩ := pairD_some pr t hl
      rw [e1]
      exact q G4 H4 _ (x2.trans (x3.trans x4)) (by rw [hl]; exact e2)
/-- n = {} -/
theorem s_dnew {i : Nat} {n : Str} {lp : Pos} {κ α : Type} [Rep κ] [DecidableEq κ] [DKey κ] [Rep α] (hN : X.N.Nodup) (sl : Ss X i n) (s0 : Same G H) (k : ∀ H1 q, Ext G H G H1 → HLen H1 → H q = none → OwnD X.K G H1 q (⟨[]⟩ : Dct κ α) → D.nx (σ.set i (some (.ref q))) H1)
    (hs : swapsWith (.Dict [] [] lp) (some (.Name n p)) pos.line X.env = pure false := by rfl) : tS X (.Assign [.Name n p] (.Dict [] [] lp) pos) D σ H :=
  s_of (ps_set hN sl.hN sl.hx pe_sem hs sl.hf) (tE_lenF fun pins s I => (DKey.new (κ := κ)).run pins s σ H _ I fun q hq l => k _ q ((Ext.refl s0).newH hq) l hq ⟨⟨[], upd_same, .nil⟩, s0.free hq⟩)
/-- q[k] = v -/
theorem s_dput {v : α} {i : Nat} {n : Str} {q : Addr} {sp np : Pos} (sl : Sl X i n) (hu : X.A.units + 1 < cLine) (s0 : Same G H) (o : OwnD X.K G H q d) (hv : Ev X c σ G H v) (hk : Ev X b σ G H k) (hz : d.kvs.length < sizeLine)
    (kk : ∀ G1 H1 o', Ext G H G1 H1 → HLen H1 → OwnD X.K G1 (upd H1 q o') q (⟨dput d.kvs k v⟩ : Dct κ α) → D.nx σ (upd H1 q o')) (h0 : σ[i]? = some (some (.ref q)) := by rfl)
    (hs : swapsWith c (some (.Subscript (.Name n np) b sp)) pos.line X.env = pure false := by rfl) : tS X (.Assign [.Subscript (.Name n np) b sp] c pos) D σ H := by
  refine s_of (ps_dput hu (pe_var sl.hN sl.hv sl.nm.hd sl.nm.hcd) pe_sem pe_sem hs) ?_
  refine hv G H (Ext.refl s0) _ fun G1 H1 w x1 _ rw' => ⟨_, h0, hk G1 H1 x1 _ fun G2 H2 y x2 l2 ry => ?_⟩
  obtain ⟨ps, e, pr⟩ := (o.mono (x1.trans x2)).at_
  exact ⟨q, _, rfl, DKey.put x2.s ry e (by rw [paired_len pr]; exact hz), kk G2 H2 _ (x1.trans x2) l2 ⟨⟨_, upd_same, pairD_put pr (up x2.g rw')⟩, (o.mono (x1.trans x2)).off⟩⟩
end
end RL

namespace RL
open PySem PySem.Spec PyProof.Rows L2 Rep
section
variable {X : Cx} {σ : St} {G H : Hp}
theorem ev_vO {α : Type} [Rep α] {xs : List α} {i : Nat} {n : Str} {p : Pos} {q : Addr} (s : Sl X i n) (o : Own X.K G H q xs) (h : σ[i]? = some (some (.ref q)) := by rfl) : EvP X (.Name n p) σ G H (OwnAt X.K xs) := ev_vP s o.pv h
theorem ev_vD {κ α : Type} [Rep κ] [DecidableEq κ] [DKey κ] [Rep α] {d : Dct κ α} {i : Nat} {n : Str} {p : Pos} {q : Addr} (s : Sl X i n) (o : OwnD X.K G H q d) (h : σ[i]? = some (some (.ref q)) := by rfl) : EvP X (.Name n p) σ G H (DctAt X.K d) := ev_vP s o.pv h
end
end RL

namespace RL
open L2
theorem cut_take {α : Type} (xs : List α) {k : Int} (h : 0 ≤ k) : cut xs none (some k) = xs.take k.toNat := by
  unfold cut
  rw [HT.sIx_none, List.drop_zero, Nat.sub_zero]
  show xs.take (if k < 0 then _ else min k.toNat xs.length) = _
  rw [if_neg (by omega)]
  by_cases hk : k.toNat ≤ xs.length
  · rw [Nat.min_eq_left hk]
  · rw [Nat.min_eq_right (by omega), List.take_of_length_le (Nat.le_refl _), List.take_of_length_le (by omega)]
theorem cut_drop {α : Type} (xs : List α) {k : Int} (h : 0 ≤ k) : cut xs (some k) none = xs.drop k.toNat := by
  unfold cut
  rw [HT.sIx_none]
  show (xs.drop (if k < 0 then _ else min k.toNat xs.length)).take (xs.length - (if k < 0 then _ else min k.toNat xs.length)) = _
  rw [if_neg (by omega)]
  have e : xs.drop (min k.toNat xs.length) = xs.drop k.toNat := by
    by_cases hk : k.toNat ≤ xs.length
    · rw [Nat.min_eq_left hk]
    · rw [Nat.min_eq_right (by omega), List.drop_of_length_le (Nat.le_refl _), List.drop_of_length_le (by omega)]
  rw [e]
  exact List.take_of_length_le (by rw [List.length_drop]; omega)
theorem cut_mid {α : Type} (xs : List α) {j k : Int} (h : 0 ≤ j) (h' : 0 ≤ k) : cut xs (some j) (some k) = (xs.drop j.toNat).take (k.toNat - j.toNat) := by
  unfold cut
  show (xs.drop (if j < 0 then _ else min j.toNat xs.length)).take ((if k < 0 then _ else min k.toNat xs.length) - (if j < 0 then _ else min j.toNat xs.length)) = _
  rw [if_neg (by omega), if_neg (by omega)]
  by_cases hj : j.toNat ≤ xs.length
  · rw [Nat.min_eq_left hj]
    by_cases hk : k.toNat ≤ xs.length
    · rw [Nat.min_eq_left hk]
    · rw [Nat.min_eq_right (show xs.length ≤ k.toNat by omega), List.take_of_length_le (by rw [List.length_drop]; omega), List.take_of_length_le (by rw [List.length_drop]; omega)]
  · rw [Nat.min_eq_right (show xs.length ≤ j.toNat by omega), List.drop_of_length_le (Nat.le_refl _), List.drop_of_length_le (by omega), List.take_nil, List.take_nil]
theorem rng_map {β : Type} (n : Nat) (f : Int → β) : (rng 0 (n : Int)).map f = (List.range n).map fun (k : Nat) => f (k : Int) := by
  unfold rng
  rw [List.map_map, Int.sub_zero, Int.toNat_natCast]
  exact List.map_congr_left fun k _ => by
    show f (0 + (k : Int)) = f k
    rw [Int.zero_add]
end RL

namespace RL
theorem dput_len {κ α : Type} [DecidableEq κ] (kvs : List (κ × α)) (k : κ) (v : α) : (dput kvs k v).length ≤ kvs.length + 1 := by
  unfold dput
  split
  · rw [List.length_map]; omega
  · rw [List.length_append]; exact Nat.le_refl _
theorem dlook_nil {κ α : Type} [DecidableEq κ] (k : κ) : dlook ([] : List (κ × α)) k = none := rfl
theorem dlook_cons {κ α : Type} [DecidableEq κ] (p : κ × α) (r : List (κ × α)) (k : κ) : dlook (p :: r) k = if p.1 = k then some p.2 else dlook r k := by
  unfold dlook
  by_cases h : p.1 = k
  · rw [List.find?_cons_of_pos (by simpa using h), if_pos h]; rfl
  · rw [List.find?_cons_of_neg (by simpa using h), if_neg h]
theorem dlook_map {κ α : Type} [DecidableEq κ] {k j : κ} {v : α} : ∀ (kvs : List (κ × α)), (kvs.any fun kv => decide (kv.1 = k)) = true → dlook (kvs.map fun kv => if kv.1 = k then (kv.1, v) else kv) j = if j = k then some v else dlook kvs j
  | [], h => by cases h
  | p :: r, h => by
    rw [List.map_cons, dlook_cons, dlook_cons]
    by_cases hk : p.1 = k
    · rw [if_pos hk]
      show (if p.1 = j then some v else _) = _
      by_cases hj : j = k
      · rw [if_pos (hk.trans hj.symm), if_pos hj]
      · have hj' : ¬ p.1 = j := fun z => hj (z.symm.trans hk)
        simp only [if_neg hj, if_neg hj']
        by_cases ha : (r.any fun kv => decide (kv.1 = k)) = true
        · simp only [dlook_map r ha, if_neg hj]
        · have e : (r.map fun kv => if kv.1 = k then (kv.1, v) else kv) = r := by
            conv => rhs; rw [← List.map_id r]
            refine List.map_congr_left fun q hq => ?_
            have : ¬ q.1 = k := fun z => ha (List.any_eq_true.mpr ⟨q, hq, by simpa using z⟩)
            rw [if_neg this]; rfl
          rw [e]
    · rw [if_neg hk]
      have ha : (r.any fun kv => decide (kv.1 = k)) = true := by
        rw [List.any_cons] at h
        simpa [hk] using h
      rw [dlook_map r ha]
      by_cases hj : j = k
      · have : ¬ p.1 = j := fun z => hk (z.trans hj)
        simp only [if_pos hj, if_neg this]
      · simp only [if_neg hj]
theorem dlook_app {κ α : Type} [DecidableEq κ] {k j : κ} {v : α} : ∀ (kvs : List (κ × α)), (kvs.any fun kv => decide (kv.1 = k)) = false → dlook (kvs ++ [(k, v)]) j = if j = k then some v else dlook kvs j
  | [], _ => by
    rw [List.nil_append, dlook_cons, dlook_nil]
    by_cases hj : j = k
    · rw [if_pos hj.symm, if_pos hj]
    · rw [if_neg (fun z => hj z.symm), if_neg hj]
  | p :: r, h => by
    rw [List.any_cons, Bool.or_eq_false_iff] at h
    have hk : ¬ p.1 = k := by simpa using h.1
    rw [List.cons_append, dlook_cons, dlook_cons, dlook_app r h.2]
    by_cases hj : j = k
    · rw [if_pos hj, if_pos hj, if_neg (fun z => hk (z.trans hj))]
    · rw [if_neg hj, if_neg hj]
theorem dlook_dput {κ α : Type} [DecidableEq κ] (kvs : List (κ × α)) (k j : κ) (v : α) : dlook (dput kvs k v) j = if j = k then some v else dlook kvs j := by
  unfold dput
  by_cases h : (kvs.any fun kv => decide (kv.1 = k)) = true
  · rw [if_pos h]; exact dlook_map kvs h
  · rw [if_neg h]; exact dlook_app kvs (by simpa only [Bool.not_eq_true] using h)
end RL
namespace RL
theorem rng_nat (a b : Nat) : rng (a : Int) (b : Int) = (List.range' a (b - a)).map fun (k : Nat) => (k : Int) := by
  have e : ((b : Int) - (a : Int)).toNat = b - a := by omega
  unfold rng
  rw [e, List.range'_eq_map_range, List.map_map]
  exact List.map_congr_left fun k _ => by show (a : Int) + (k : Int) = ((a + k : Nat) : Int); omega
theorem rng0_nat (b : Nat) : rng 0 (b : Int) = (List.range b).map fun (k : Nat) => (k : Int) := by
  have := rng_nat 0 b
  rw [List.range_eq_range']
  exact this
theorem lfold_cons {α S : Type} (step : α → S → S) (x : α) (xs : List α) (s : S) : lfold step (x :: xs) s = lfold step xs (step x s) := rfl
theorem lfold_nil {α S : Type} (step : α → S → S) (s : S) : lfold step [] s = s := rfl
theorem lfold_mapL {α β S : Type} (step : β → S → S) (g : α → β) : ∀ (xs : List α) (s : S), lfold step (xs.map g) s = lfold (fun x => step (g x)) xs s
  | [], _ => rfl
  | x :: xs, s => lfold_mapL step g xs (step (g x) s)
theorem lfold_flat {α β : Type} {step : α → List β → List β} {g : α → List β} : ∀ {xs : List α} {s : List β}, (∀ x ∈ xs, ∀ s, step x s = s ++ g x) → lfold step xs s = s ++ xs.flatMap g
  | [], s, _ => by rw [lfold_nil, List.flatMap_nil, List.append_nil]
  | x :: xs, s, h => by
    rw [lfold_cons, h x List.mem_cons_self, lfold_flat fun y hy => h y (List.mem_cons_of_mem _ hy), List.flatMap_cons, List.append_assoc]
theorem lfold_inv {α S : Type} {step : α → S → S} (I : S → Prop) : ∀ {xs : List α} {s : S}, I s → (∀ x ∈ xs, ∀ s, I s → I (step x s)) → I (lfold step xs s)
  | [], _, h, _ => h
  | x :: xs, s, h, g => lfold_inv I (xs := xs) (g x List.mem_cons_self s h) fun y hy => g y (List.mem_cons_of_mem _ hy)
theorem lrun_nil {α R S : Type} (step : α → S → LR R S) (s : S) : lrun step [] s = .nxt s := rfl
theorem lrun_mapL {α β R S : Type} (step : β → S → LR R S) (g : α → β) : ∀ (xs : List α) (s : S), lrun step (xs.map g) s = lrun (fun x => step (g x)) xs s
  | [], _ => rfl
  | x :: xs, s => by
    rw [List.map_cons, lrun_cons, lrun_cons]
    cases step (g x) s with
    | nxt s' => exact lrun_mapL step g xs s'
    | brk s' => rfl
    | ret r => rfl
theorem getD_take_sum (row : List Int) (k : Nat) (h : k < row.length) : (row.take (k + 1)).sum = (row.take k).sum + row.getD k 0 := by
  rw [List.take_succ_eq_append_getElem h, List.sum_append, List.getD_eq_getElem?_getD, List.getElem?_eq_getElem h]
  simp
end RL
namespace RL
open PySem PySem.Spec PyProof.Rows L2 Rep
/-! ### what may be None -/
theorem rep_get {α : Type} [Rep α] {K : PySem.W.Frag} {G : Hp} {v : V} {x : Option α} (d : α) (h : x.isNone = false) (r : rep K G v x) : rep K G v (x.getD d) := by
  cases x with
  | none => cases h
  | some y => exact r
theorem rep_unit {α : Type} [Rep α] {K : PySem.W.Frag} {G : Hp} {v : V} {x : Option α} (h : x.isNone = true) (r : rep K G v x) : rep K G v () := by
  cases x with
  | none => exact r
  | some y => cases h
section
variable {X : Cx} {σ : St} {G H : Hp} {P Pa Pb : PV} {e a b c : Expr} {es : List Expr} {pos p : Pos} {α β γ : Type} [Rep α] [Rep β] [Rep γ]
theorem ev_get {x : Option α} (d : α) (h : x.isNone = false) (r : Ev X e σ G H x) : Ev X e σ G H (x.getD d) := r.imp fun _ _ _ _ _ q => rep_get d h q
/-- isinstance of what may be None -/
theorem ev_isiO {x : Option α} {T T' : String} {r : Bool} [t : ∀ y : α, AsTy X.K (Is X.K y) T] (B : Bl X "isinstance") (h : Ev X a σ G H x) (hT : Ev X b σ G H (V.ty T')) (k : kitB T T' = some r) (k0 : kitB "NoneType" T' = some false) (he : starEach [a, b] X.env = (false, eval a X.env) :: starEach [b] X.env := by rfl) (he2 : starEach [b] X.env = (false, eval b X.env) :: starEach [] X.env := by rfl)
    (hpl : (backTo pos (starEach [b] X.env)).any (·.1) = false := by rfl) : Ev X (.Call (.Name "isinstance" p) [a, b] [] pos) σ G H (!x.isNone && r) := by
  cases x with
  | none => exact ev_isi (P := Is X.K ()) B (h.imp fun _ _ _ _ _ q => q) hT k0 he he2 hpl
  | some y => exact (ev_isi (P := Is X.K y) B (h.imp fun _ _ _ _ _ q => q) hT k he he2 hpl).to (by simp)
theorem ev_isiTO {x : Option α} {T T1 T2 : String} {r1 r2 : Bool} {c1 c2 : Expr} {kk : Nat} {tp : Pos} [t : ∀ y : α, AsTy X.K (Is X.K y) T] (B : Bl X "isinstance") (h : Ev X a σ G H x) (h1 : Ev X c1 σ G H (V.ty T1)) (h2 : Ev X c2 σ G H (V.ty T2)) (k : kitB T T1 = some r1 ∧ kitB T T2 = some r2)
    (k0 : kitB "NoneType" T1 = some false ∧ kitB "NoneType" T2 = some false)
    (he : starEach [a, .Tuple [c1, c2] kk tp] X.env = (false, eval a X.env) :: starEach [.Tuple [c1, c2] kk tp] X.env := by rfl) (he2 : starEach [.Tuple [c1, c2] kk tp] X.env = (false, eval (.Tuple [c1, c2] kk tp) X.env) :: starEach [] X.env := by rfl)
    (hpl : (backTo pos (starEach [.Tuple [c1, c2] kk tp] X.env)).any (·.1) = false := by rfl) (hs : starEach [c1, c2] X.env = (false, eval c1 X.env) :: starEach [c2] X.env := by rfl) (hs' : starEach [c2] X.env = (false, eval c2 X.env) :: starEach [] X.env := by rfl) :
    Ev X (.Call (.Name "isinstance" p) [a, .Tuple [c1, c2] kk tp] [] pos) σ G H (!x.isNone && (r1 || r2)) := by
  cases x with
  | none => exact ev_isiT (P := Is X.K ()) B (h.imp fun _ _ _ _ _ q => q) h1 h2 k0 he he2 hpl hs hs'
  | some y => exact (ev_isiT (P := Is X.K y) B (h.imp fun _ _ _ _ _ q => q) h1 h2 k he he2 hpl hs hs').to (by simp)
/-! ### pairs as they stand -/
theorem ev_lenP {x : β × γ} (B : Bl X "len") (h : Ev X e σ G H x) (he : starEach [e] X.env = (false, eval e X.env) :: starEach [] X.env := by rfl) : Ev X (.Call (.Name "len" p) [e] [] pos) σ G H (2 : Int) :=
  ev_callB call_len_seq B.g B.m PySem.boot_len (ea_cons h ea_nil he) (fun G1 H1 vs y l ⟨v, r, e1, pv, e2⟩ Q q => by
    obtain ⟨t, u, w, e, g, _⟩ := pv
    exact ⟨t, [u, w], by rw [e1, e2, e], .inr (.of (y.s _ _ g)), q G1 H1 _ (Ext.refl y.s) rfl⟩) (by decide) (by decide) he rfl
/-! ### sorted, of pairs of ints -/
def leP (x y : Int × Int) : Prop := x.1 < y.1 ∨ (x.1 = y.1 ∧ x.2 ≤ y.2)
instance (x y : Int × Int) : Decidable (leP x y) := inferInstanceAs (Decidable (_ ∨ _))
def insP (x : Int × Int) : List (Int × Int) → List (Int × Int)
  | [] => [x]
  | y :: ys => if leP x y then x :: y :: ys else y :: insP x ys
def psort : List (Int × Int) → List (Int × Int)
  | [] => []
  | x :: xs => insP x (psort xs)
theorem insP_perm (x : Int × Int) : ∀ ys, (insP x ys).Perm (x :: ys)
  | [] => .refl _
  | y :: ys => by
    unfold insP
    split
    · exact .refl _
    · exact ((insP_perm x ys).cons y).trans (.swap x y ys)
theorem psort_perm : ∀ xs, (psort xs).Perm xs
  | [] => .refl _
  | x :: xs => (insP_perm x _).trans ((psort_perm xs).cons x)
theorem leP_tr {x y z : Int × Int} (h : leP x y) (h' : leP y z) : leP x z := by unfold leP at *; omega
theorem leP_tot {x y : Int × Int} (h : ¬ leP x y) : leP y x := by unfold leP at *; omega
theorem leP_anti {x y : Int × Int} (h : leP x y) (h' : leP y x) : x = y := by
  unfold leP at *
  exact Prod.ext (by omega) (by omega)
theorem insP_sorted (x : Int × Int) : ∀ ys, ys.Pairwise leP → (insP x ys).Pairwise leP
  | [], _ => List.pairwise_singleton _ _
  | y :: ys, h => by
    unfold insP
    have h' := List.pairwise_cons.mp h
    split
    · rename_i hx
      exact List.pairwise_cons.mpr ⟨fun z hz => by
        rcases List.mem_cons.mp hz with rfl | hz
        · exact hx
        · exact leP_tr hx (h'.1 z hz), h⟩
    · rename_i hx
      exact List.pairwise_cons.mpr ⟨fun z hz => by
        rcases List.mem_cons.mp ((insP_perm x ys).mem_iff.mp hz) with rfl | hz
        · exact leP_tot hx
        · exact h'.1 z hz, insP_sorted x ys h'.2⟩
theorem psort_sorted : ∀ xs, (psort xs).Pairwise leP
  | [] => List.Pairwise.nil
  | x :: xs => insP_sorted x _ (psort_sorted xs)
theorem psorted_one : ∀ {xs ys : List (Int × Int)}, xs.Perm ys → xs.Pairwise leP → ys.Pairwise leP → xs = ys
  | [], ys, p, _, _ => (List.nil_perm.mp p).symm
  | x :: xs, [], p, _, _ => absurd p.symm (List.not_perm_nil_cons _ _)
  | x :: xs, y :: ys, p, h1, h2 => by
    have a := List.pairwise_cons.mp h1
    have b := List.pairwise_cons.mp h2
    have e : x = y := by
      have m1 : x ∈ y :: ys := p.mem_iff.mp List.mem_cons_self
      have m2 : y ∈ x :: xs := p.mem_iff.mpr List.mem_cons_self
      rcases List.mem_cons.mp m1 with z | z
      · exact z
      · rcases List.mem_cons.mp m2 with w | w
        · exact w.symm
        · exact leP_anti (a.1 y w) (b.1 x z)
    subst e
    rw [psorted_one (List.Perm.cons_inv p) a.2 b.2]
/-- the two ints of a tuple -/
def keyP (H : Hp) : V → Int × Int
  | .ref t => match H t with
    | some (.tup [.int i, .int j]) => (i, j)
    | _ => (0, 0)
  | _ => (0, 0)
theorem keyP_of {K : PySem.W.Frag} {G H : Hp} (s : Same G H) {v : V} {x : Int × Int} (r : rep K G v x) : keyP H v = x ∧ ∃ t, v = V.ref t ∧ H t = some (.tup [.int x.1, .int x.2]) := by
  obtain ⟨t, u, w, e, g, p1, p2⟩ := r
  have p1 : u = V.int x.1 := p1
  have p2 : w = V.int x.2 := p2
  subst p1 p2 e
  have g := s _ _ g
  exact ⟨by simp only [keyP, g], t, rfl, g⟩
theorem keyP_map {K : PySem.W.Frag} {G H : Hp} (s : Same G H) : ∀ {us : List V} {xs : List (Int × Int)}, Paired (rep K G) us xs → us.map (keyP H) = xs
  | _, _, .nil => rfl
  | _, _, .cons r t => by rw [List.map_cons, (keyP_of s r).1, keyP_map s t]
theorem keyP_mem {K : PySem.W.Frag} {G : Hp} : ∀ {us : List V} {xs : List (Int × Int)}, Paired (rep K G) us xs → ∀ u ∈ us, ∃ x : Int × Int, rep K G u x
  | _, _, .nil, _, h => by cases h
  | _, _, .cons r t, u, h => by
    rcases List.mem_cons.mp h with rfl | h
    · exact ⟨_, r⟩
    · exact keyP_mem t u h
theorem keyP_pair {K : PySem.W.Frag} {G H : Hp} (s : Same G H) : ∀ (ys : List V), (∀ y ∈ ys, ∃ x : Int × Int, rep K G y x) → Paired (rep K G) ys (ys.map (keyP H))
  | [], _ => .nil
  | y :: ys, h => by
    obtain ⟨x, r⟩ := h y List.mem_cons_self
    refine .cons ?_ (keyP_pair s ys fun z hz => h z (List.mem_cons_of_mem _ hz))
    rw [(keyP_of s r).1]
    exact r
theorem psort_go {K : PySem.W.Frag} {G H : Hp} (s : Same G H) {us ys : List V} {xs : List (Int × Int)} (pr : Paired (rep K G) us xs) (h : SrtO.Srtd (ltP (keyP H)) ys) (hb : SrtO.Stb (ltP (keyP H)) ys us) : Paired (rep K G) ys (psort xs) := by
  have e : ys.map (keyP H) = psort xs := by
    refine psorted_one ?_ ?_ (psort_sorted xs)
    · have := hb.perm.map (keyP H)
      rw [keyP_map s pr] at this
      exact this.trans (psort_perm xs).symm
    · refine List.pairwise_map.mpr (List.Pairwise.imp (fun {x y} hxy => ?_) h)
      have := SrtO.lexB_no.mp hxy
      unfold leP
      omega
  rw [← e]
  exact keyP_pair s ys fun y hy => keyP_mem pr y (hb.perm.mem_iff.mp hy)
theorem ev_sortedP {xs : List (Int × Int)} [m : MonoC P] [s : AsSeq X.K P (Int × Int) instRepProd xs] (B : Bl X "sorted") (h : EvP X e σ G H P) (he : starEach [e] X.env = (false, eval e X.env) :: starEach [] X.env := by rfl) : Ev X (.Call (.Name "sorted" p) [e] [] pos) σ G H (psort xs) :=
  ev_callB cr_sortedPO B.g B.m PyProof.Rows.boot_sorted (ea_cons h ea_nil he) (fun G1 H1 vs y l ⟨v, r, e1, pv, e2⟩ Q q => by
    obtain ⟨a, us, e, g, pr⟩ := s.seq _ _ _ y.s pv
    refine ⟨a, us, keyP H1, by rw [e1, e2, e], g, fun u hu => ?_, fun ys p srt stb hp => ?_⟩
    · obtain ⟨x, rx⟩ := keyP_mem pr u hu
      obtain ⟨k, t, e, g⟩ := keyP_of y.s rx
      exact ⟨t, e, by rw [k]; exact g⟩
    · exact q (upd G1 p (.lst ys)) _ _ ((Ext.refl y.s).new hp) ⟨p, _, rfl, upd_same, pair_up (same_new (y.s.free hp)) (psort_go y.s pr srt stb)⟩) (by decide) (by decide) he rfl
theorem evN_sortedP {xs : List (Int × Int)} [m : MonoC P] [s : AsSeq X.K P (Int × Int) instRepProd xs] (B : Bl X "sorted") (h : EvP X e σ G H P) (he : starEach [e] X.env = (false, eval e X.env) :: starEach [] X.env := by rfl) : EvN X (.Call (.Name "sorted" p) [e] [] pos) σ G H (Is X.K (psort xs)) :=
  evN_of (pe_callB cr_sortedPO B.g B.m PyProof.Rows.boot_sorted (pa_cons pe_sem pa_nil he) (by decide) (by decide) he rfl) fun G1 H1 x1 Q q => h G1 H1 x1 _ fun G2 H2 v x2 _ pv => by
    obtain ⟨a, us, e, g, pr⟩ := s.seq _ _ _ x2.s pv
    refine ⟨a, us, keyP H2, by rw [e], g, fun u hu => ?_, fun ys p srt stb hp => ?_⟩
    · obtain ⟨x, rx⟩ := keyP_mem pr u hu
      obtain ⟨k, t, e, g⟩ := keyP_of x2.s rx
      exact ⟨t, e, by rw [k]; exact g⟩
    · exact q (upd G2 p (.lst ys)) _ _ (x2.new hp) ⟨p, _, rfl, upd_same, pair_up (same_new (x2.s.free hp)) (psort_go x2.s pr srt stb)⟩ fun p' e => by cases e; exact x2.h.free hp
end
end RL
namespace RL
theorem psort_len (xs : List (Int × Int)) : (psort xs).length = xs.length := (psort_perm xs).length_eq
theorem isort_len (xs : List Int) : (isort xs).length = xs.length := (isort_perm xs).length_eq
theorem flat_len {α β : Type} {g : α → List β} {c : Nat} : ∀ (xs : List α), (∀ x ∈ xs, (g x).length ≤ c) → (xs.flatMap g).length ≤ c * xs.length
  | [], _ => Nat.zero_le _
  | x :: xs, h => by
    have h1 := h x List.mem_cons_self
    have h2 := flat_len xs fun y hy => h y (List.mem_cons_of_mem _ hy)
    rw [List.flatMap_cons, List.length_append, List.length_cons, Nat.mul_succ]
    omega
end RL
namespace RL
theorem enum_range {α : Type} (f : Nat → α) (n : Nat) : enum ((List.range n).map f) = (List.range n).map fun (k : Nat) => ((k : Int), f k) := by
  unfold enum
  refine List.ext_getElem (by simp) fun i h1 h2 => ?_
  simp
theorem psort_head {x : Int × Int} {xs : List (Int × Int)} (h : x ∈ xs) (hm : ∀ y ∈ xs, leP x y) : ∃ r, psort xs = x :: r := by
  have p := psort_perm xs
  have s := psort_sorted xs
  cases e : psort xs with
  | nil => rw [e] at p; rw [List.nil_perm.mp p] at h; cases h
  | cons y r =>
    rw [e] at p s
    have hx : x ∈ y :: r := p.mem_iff.mpr h
    have hy : leP x y := hm y (p.mem_iff.mp List.mem_cons_self)
    rcases List.mem_cons.mp hx with rfl | hx
    · exact ⟨r, rfl⟩
    · exact ⟨r, by rw [leP_anti hy ((List.pairwise_cons.mp s).1 x hx)]⟩
end RL
namespace RL
open PySem PySem.Spec PyProof.Rows L2 Rep
theorem paired_set {α β : Type} {F : α → β → Prop} {w : α} {y : β} (h : F w y) : ∀ {xs : List α} {ys : List β} (j : Nat), Paired F xs ys → Paired F (xs.set j w) (ys.set j y)
  | _, _, _, .nil => .nil
  | _, _, 0, .cons _ t => .cons h t
  | _, _, j + 1, .cons r t => .cons r (paired_set h j t)
section
variable {X : Cx} {σ : St} {G H : Hp} {D : Ends} {P Pa Pb : PV} {e a b c : Expr} {es : List Expr} {pos p : Pos} {α β γ : Type} [Rep α] [Rep β] [Rep γ]
/-- xs[i] = v, of an own list -/
theorem s_setix {xs : List α} {y : α} {k : Nat} {n : Str} {q : Addr} {i : Int} {np sp : Pos} (sl : Sl X k n) (s0 : Same G H) (o : Own X.K G H q xs) (hv : Ev X c σ G H y) (hi : Ev X a σ G H i) (h0 : 0 ≤ i) (h1 : i < (xs.length : Int))
    (kk : ∀ G1 H1 vs', Ext G H G1 H1 → HLen H1 → Own X.K G1 (upd H1 q (.lst vs')) q (xs.set i.toNat y) → D.nx σ (upd H1 q (.lst vs'))) (hq : σ[k]? = some (some (.ref q)) := by rfl)
    (hs : swapsWithSole [.Subscript (.Name n np) a sp] c pos.line X.env = pure false := by rfl) (hw : swappedStores [.Subscript (.Name n np) a sp] c X.env = pure none := by rfl)
    (hh : (assignEach [.Subscript (.Name n np) a sp] X.env).map (·.2) = [assign (.Subscript (.Name n np) a sp) X.env] := by rfl)
    (ha : ∀ v, assign (.Subscript (.Name n np) a sp) X.env v = (do
      let ov ← holding [v] (eval (.Name n np) X.env)
      let iv ← holding [v, ov] (eval a X.env)
      standAt sp
      holding [v, ov, iv] (setItem ov iv v)
      release [v, ov, iv] []) := by intro _; rfl) : tS X (.Assign [.Subscript (.Name n np) a sp] c pos) D σ H := by
  refine s_of (ps_asg pe_sem (pg_sub (pe_var sl.hN sl.hv sl.nm.hd sl.nm.hcd) pe_sem set_list ha) hs hw hh) ?_
  refine hv G H (Ext.refl s0) _ fun G1 H1 w x1 _ rw' => ⟨_, hq, hi G1 H1 x1 _ fun G2 H2 u x2 l2 ru => ?_⟩
  obtain ⟨vs, e, pr⟩ := (o.mono (x1.trans x2)).at_
  have ru : u = V.int i := ru
  exact ⟨q, vs, i, i.toNat, rfl, ru, e, by rw [paired_len pr]; exact ixN_of h0 h1, kk G2 H2 _ (x1.trans x2) l2 ⟨⟨_, upd_same, paired_set (up x2.g rw') _ pr⟩, (o.mono (x1.trans x2)).off⟩⟩
/-- xs[i], xs[j] = v, w, of an own list, i and j plain names -/
theorem s_swapix {xs : List α} {y z : α} {k k1 k2 : Nat} {n n1 n2 : Str} {q : Addr} {i j : Int} {np np2 sp sp2 tp tp2 ap ap2 : Pos} {kt kt2 : Nat} {c2 : Expr} (sl : Sl X k n) (sl1 : Sl X k1 n1) (sl2 : Sl X k2 n2) (s0 : Same G H) (o : Own X.K G H q xs) (hc : X.calm = true) (hv : Ev X c σ G H y) (hv2 : Ev X c2 σ G H z)
    {vi vj : V} (ri : rep X.K G vi i) (rj : rep X.K G vj j) (h0 : 0 ≤ i) (h1 : i < (xs.length : Int)) (h2 : 0 ≤ j) (h3 : j < (xs.length : Int))
    (kk : ∀ G1 H1 vs', Ext G H G1 H1 → HLen H1 → Own X.K G1 (upd H1 q (.lst vs')) q ((xs.set i.toNat y).set j.toNat z) → D.nx σ (upd H1 q (.lst vs'))) (hq : σ[k]? = some (some (.ref q)) := by rfl) (hqi : σ[k1]? = some (some vi) := by rfl) (hqj : σ[k2]? = some (some vj) := by rfl)
    (he : starEach [c, c2] X.env = (false, eval c X.env) :: starEach [c2] X.env := by rfl) (he2 : starEach [c2] X.env = (false, eval c2 X.env) :: starEach [] X.env := by rfl)
    (hs : swapsWithSole [.Tuple [.Subscript (.Name n np) (.Name n1 ap) sp, .Subscript (.Name n np2) (.Name n2 ap2) sp2] kt tp] (.Tuple [c, c2] kt2 tp2) pos.line X.env = pure false := by rfl) (hw : swappedStores [.Tuple [.Subscript (.Name n np) (.Name n1 ap) sp, .Subscript (.Name n np2) (.Name n2 ap2) sp2] kt tp] (.Tuple [c, c2] kt2 tp2) X.env = pure none := by rfl)
    (hh : (assignEach [.Tuple [.Subscript (.Name n np) (.Name n1 ap) sp, .Subscript (.Name n np2) (.Name n2 ap2) sp2] kt tp] X.env).map (·.2) = [assign (.Tuple [.Subscript (.Name n np) (.Name n1 ap) sp, .Subscript (.Name n np2) (.Name n2 ap2) sp2] kt tp) X.env] := by rfl) :
    tS X (.Assign [.Tuple [.Subscript (.Name n np) (.Name n1 ap) sp, .Subscript (.Name n np2) (.Name n2 ap2) sp2] kt tp] (.Tuple [c, c2] kt2 tp2) pos) D σ H := by
  have ri : vi = V.int i := ri
  have rj : vj = V.int j := rj
  have hg := pg_tup (k := kt) (pos := tp) hc (pgs_cons (pg_sub (pos := sp) (pe_var (pos := np) sl.hN sl.hv sl.nm.hd sl.nm.hcd) (pe_var (pos := ap) sl1.hN sl1.hv sl1.nm.hd sl1.nm.hcd) set_list) (pgs_cons (pg_sub (pos := sp2) (pe_var (pos := np2) sl.hN sl.hv sl.nm.hd sl.nm.hcd) (pe_var (pos := ap2) sl2.hN sl2.hv sl2.nm.hd sl2.nm.hcd) set_list) pgs_nil))
  refine tS_len (s_of (ps_asg pe_sem hg hs hw hh) ?_)
  refine ev_tup hv hv2 he he2 G H (Ext.refl s0) _ fun G1 H1 w x1 l1 ⟨t, u1, u2, e, gt, r1, r2⟩ => ?_
  obtain ⟨vs, e1, pr⟩ := (o.mono x1).at_
  have pr1 : Paired (rep X.K G1) (vs.set i.toNat u1) (xs.set i.toNat y) := paired_set r1 _ pr
  refine ⟨t, [u1, u2], e, .of (x1.s _ _ gt), rfl, u1, [u2], rfl, _, hq, _, hqi, q, vs, i, i.toNat, rfl, ri, e1, by rw [paired_len pr]; exact ixN_of h0 h1, u2, [], rfl, _, hq, _, hqj, q, _, j, j.toNat, rfl, rj, upd_same, ?_, rfl, ?_⟩
  · rw [paired_len pr1, List.length_set]; exact ixN_of h2 h3
  · rw [upd_upd]
    exact fun l => kk G1 H1 _ x1 l1 ⟨⟨_, upd_same, paired_set r2 _ pr1⟩, (o.mono x1).off⟩
/-- x, y = a, b: plain names -/
theorem s_par {x : α} {y : β} {i j : Nat} {n1 n2 : Str} {p1 p2 tp tp2 : Pos} {kt kt2 : Nat} (hc : X.calm = true) (hN : X.N.Nodup) (s1 : Ss X i n1) (s2 : Ss X j n2) (hij : i ≠ j) (s0 : Same G H) (ha : Ev X a σ G H x) (hb : Ev X b σ G H y)
    (kk : ∀ G1 H1 v w, Ext G H G1 H1 → HLen H1 → rep X.K G1 v x → rep X.K G1 w y → D.nx ((σ.set i (some v)).set j (some w)) H1)
    (hx : X.env.scope.names.lookup n1 = some .local := by rfl) (hy : X.env.scope.names.lookup n2 = some .local := by rfl)
    (he : starEach [a, b] X.env = (false, eval a X.env) :: starEach [b] X.env := by rfl) (he2 : starEach [b] X.env = (false, eval b X.env) :: starEach [] X.env := by rfl)
    (hw : swappedStores [.Tuple [.Name n1 p1, .Name n2 p2] kt tp] (.Tuple [a, b] kt2 tp2) X.env = pure (some [n1, n2]) := by rfl)
    (hs : swapsWithSole [.Tuple [.Name n1 p1, .Name n2 p2] kt tp] (.Tuple [a, b] kt2 tp2) pos.line X.env = pure false := by rfl) :
    tS X (.Assign [.Tuple [.Name n1 p1, .Name n2 p2] kt tp] (.Tuple [a, b] kt2 tp2) pos) D σ H := by
  refine s_of (ps_par hc hN s1.hN s2.hN hij hx hy pa_sem hw hs) ?_
  refine ea_cons ha (ea_cons hb ea_nil he2) he G H (Ext.refl s0) _ fun G1 H1 vs x1 l ⟨v, r, e, rv, v2, r2, e2, rv2, e3⟩ => ?_
  exact ⟨v, v2, by rw [e, e2, e3], kk G1 H1 v v2 x1 l rv rv2⟩
/-- x, y = e, a pair -/
theorem s_unp {x : α × β} {i j : Nat} {n1 n2 : Str} {p1 p2 tp : Pos} {kt : Nat} (hc : X.calm = true) (hN : X.N.Nodup) (s1 : Ss X i n1) (s2 : Ss X j n2) (s0 : Same G H) (h : Ev X e σ G H x)
    (kk : ∀ G1 H1 v w, Ext G H G1 H1 → HLen H1 → rep X.K G1 v x.1 → rep X.K G1 w x.2 → D.nx ((σ.set i (some v)).set j (some w)) H1)
    (hs : swapsWithSole [.Tuple [.Name n1 p1, .Name n2 p2] kt tp] e pos.line X.env = pure false := by rfl) (hw : swappedStores [.Tuple [.Name n1 p1, .Name n2 p2] kt tp] e X.env = pure none := by rfl)
    (hh : (assignEach [.Tuple [.Name n1 p1, .Name n2 p2] kt tp] X.env).map (·.2) = [assign (.Tuple [.Name n1 p1, .Name n2 p2] kt tp) X.env] := by rfl) :
    tS X (.Assign [.Tuple [.Name n1 p1, .Name n2 p2] kt tp] e pos) D σ H := by
  refine s_of (ps_asg pe_sem (pg_tup hc (pgs_cons (pg_name hN s1.hN s1.hx s1.hf) (pgs_cons (pg_name hN s2.hN s2.hx s2.hf) pgs_nil))) hs hw hh) ?_
  refine h G H (Ext.refl s0) _ fun G1 H1 v x1 l ⟨t, u1, u2, e, gt, r1, r2⟩ => ?_
  exact ⟨t, [u1, u2], e, .of (x1.s _ _ gt), rfl, u1, [u2], rfl, u2, [], rfl, rfl, kk G1 H1 u1 u2 x1 l r1 r2⟩
theorem rgV_pair {K : PySem.W.Frag} {G : Hp} (a b : Int) : Paired (rep K G) (rgV a b) (rng a b) := by
  have : rgV a b = (rng a b).map V.int := by
    unfold rgV rng
    rw [List.map_map]
    rfl
  rw [this]
  exact ints_paired _
/-- list(range(..)) -/
theorem evN_lrg1 {j : Int} {p2 pos2 : Pos} (hc : X.calm = true) (B : Bl X "list") (B2 : Bl X "range") (h : Ev X a σ G H j) (hs : RgOk 0 j) (na : starEach [a] X.env = (false, eval a X.env) :: starEach [] X.env := by rfl) (na2 : starEach [.Call (.Name "range" p2) [a] [] pos2] X.env = (false, eval (.Call (.Name "range" p2) [a] [] pos2) X.env) :: starEach [] X.env := by rfl) :
    EvN X (.Call (.Name "list" p) [.Call (.Name "range" p2) [a] [] pos2] [] pos) σ G H (Is X.K (rng 0 j)) :=
  evN_of (pe_listRg hc B.g B.m (prg_1 B2.g B2.m pe_sem na) na2) fun G1 H1 x1 Q q => h G1 H1 x1 _ fun G2 H2 v x2 _ pv =>
    ⟨j, pv, hs, fun l hl => q (upd G2 l (.lst (rgV 0 j))) _ _ (x2.new hl) ⟨l, _, rfl, upd_same, rgV_pair _ _⟩ fun p' e => by cases e; exact x2.h.free hl⟩
theorem evN_lrg2 {i j : Int} {p2 pos2 : Pos} (hc : X.calm = true) (B : Bl X "list") (B2 : Bl X "range") (h : Ev X a σ G H i) (h' : Ev X b σ G H j) (hs : RgOk i j) (na : starEach [a, b] X.env = (false, eval a X.env) :: starEach [b] X.env := by rfl) (nb : starEach [b] X.env = (false, eval b X.env) :: starEach [] X.env := by rfl) (hp : (backTo pos2 (starEach [b] X.env)).any (·.1) = false := by rfl) (na2 : starEach [.Call (.Name "range" p2) [a, b] [] pos2] X.env = (false, eval (.Call (.Name "range" p2) [a, b] [] pos2) X.env) :: starEach [] X.env := by rfl) :
    EvN X (.Call (.Name "list" p) [.Call (.Name "range" p2) [a, b] [] pos2] [] pos) σ G H (Is X.K (rng i j)) :=
  evN_of (pe_listRg hc B.g B.m (prg_2 B2.g B2.m pe_sem pe_sem na nb hp) na2) fun G1 H1 x1 Q q => h G1 H1 x1 _ fun G2 H2 v x2 _ pv => h' G2 H2 (x1.trans x2) _ fun G3 H3 u x3 _ pu =>
    ⟨i, j, pv, pu, hs, fun l hl => q (upd G3 l (.lst (rgV i j))) _ _ ((x2.trans x3).new hl) ⟨l, _, rfl, upd_same, rgV_pair _ _⟩ fun p' e => by cases e; exact (x2.trans x3).h.free hl⟩
theorem ev_lrg1 {j : Int} {p2 pos2 : Pos} (hc : X.calm = true) (B : Bl X "list") (B2 : Bl X "range") (h : Ev X a σ G H j) (hs : RgOk 0 j) (na : starEach [a] X.env = (false, eval a X.env) :: starEach [] X.env := by rfl) (na2 : starEach [.Call (.Name "range" p2) [a] [] pos2] X.env = (false, eval (.Call (.Name "range" p2) [a] [] pos2) X.env) :: starEach [] X.env := by rfl) :
    Ev X (.Call (.Name "list" p) [.Call (.Name "range" p2) [a] [] pos2] [] pos) σ G H (rng 0 j) := (evN_lrg1 hc B B2 h hs na na2).ev
theorem ev_lrg2 {i j : Int} {p2 pos2 : Pos} (hc : X.calm = true) (B : Bl X "list") (B2 : Bl X "range") (h : Ev X a σ G H i) (h' : Ev X b σ G H j) (hs : RgOk i j) (na : starEach [a, b] X.env = (false, eval a X.env) :: starEach [b] X.env := by rfl) (nb : starEach [b] X.env = (false, eval b X.env) :: starEach [] X.env := by rfl) (hp : (backTo pos2 (starEach [b] X.env)).any (·.1) = false := by rfl) (na2 : starEach [.Call (.Name "range" p2) [a, b] [] pos2] X.env = (false, eval (.Call (.Name "range" p2) [a, b] [] pos2) X.env) :: starEach [] X.env := by rfl) :
    Ev X (.Call (.Name "list" p) [.Call (.Name "range" p2) [a, b] [] pos2] [] pos) σ G H (rng i j) := (evN_lrg2 hc B B2 h h' hs na nb hp na2).ev
end
end RL
namespace RL
open PySem PySem.Spec PyProof.Rows L2 Rep
section
variable {X : Cx} {σ : St} {G H : Hp} {D : Ends} {P : PV} {e : Expr} {pos p : Pos} {α : Type} [Rep α]
theorem flat_paired [Flat α] {K : PySem.W.Frag} {G G' : Hp} : ∀ {vs : List V} {xs : List α}, Paired (rep K G) vs xs → Paired (rep K G') vs xs
  | _, _, .nil => .nil
  | _, _, .cons h t => .cons (Flat.flat h) (flat_paired t)
/-- name = a new list, the def's own from here on -/
theorem s_setO [Flat α] {xs : List α} {i : Nat} {n : Str} (hN : X.N.Nodup) (sl : Ss X i n) (s0 : Same G H) (h : EvN X e σ G H (Is X.K xs)) (k : ∀ G1 H1 q, Ext G H G1 H1 → HLen H1 → H q = none → Own X.K G1 H1 q xs → D.nx (σ.set i (some (.ref q))) H1)
    (hs : swapsWith e (some (.Name n p)) pos.line X.env = pure false := by rfl) : tS X (.Assign [.Name n p] e pos) D σ H :=
  s_setN hN sl s0 h (fun G1 H1 v x l r nw => by
    obtain ⟨q, vs, rfl, g, pr⟩ := r
    have hq : H q = none := nw q rfl
    refine k (fun a => if a = q then none else G1 a) H1 q ⟨x.h, fun a o e => ?_, fun a o e => ?_, fun a o e => ?_⟩ l hq ⟨⟨vs, x.s _ _ g, ?_⟩, if_pos rfl⟩
    · by_cases ha : a = q
      · subst ha; rw [s0 _ _ e] at hq; cases hq
      · show (if a = q then none else G1 a) = _
        rw [if_neg ha]; exact x.g _ _ e
    · by_cases ha : a = q
      · have e : (if a = q then none else G1 a) = some o := e
        rw [if_pos ha] at e; cases e
      · have e : (if a = q then none else G1 a) = some o := e
        rw [if_neg ha] at e; exact x.s _ _ e
    · by_cases ha : a = q
      · have e : (if a = q then none else G1 a) = some o := e
        rw [if_pos ha] at e; cases e
      · have e : (if a = q then none else G1 a) = some o := e
        rw [if_neg ha] at e; exact x.n _ _ e
    · exact flat_paired pr) hs
theorem ev_abs {i : Int} (B : Bl X "abs") (h : Ev X e σ G H i) (he : starEach [e] X.env = (false, eval e X.env) :: starEach [] X.env := by rfl) : Ev X (.Call (.Name "abs" p) [e] [] pos) σ G H (if i < 0 then -i else i) :=
  ev_callB call_abs B.g B.m PyProof.Rows.boot_abs (ea_cons h ea_nil he) (fun G1 H1 vs y l ⟨v, r, e1, pv, e2⟩ Q q => ⟨i, by rw [e1, e2, show v = _ from pv], q G1 H1 _ (Ext.refl y.s) rfl⟩) (by decide) (by decide) he rfl
theorem rep_of2 {ζ : Type} [Rep ζ] {K : PySem.W.Frag} {G : Hp} {v : V} {y z : ζ × List Int} (e : y = z) (r : rep K G v z.1) : rep K G v y.1 := e ▸ r
theorem own_of {ζ : Type} {K : PySem.W.Frag} {G H : Hp} {q : Addr} {y z : ζ × List Int} (e : y = z) (o : Own K G H q z.2) : Own K G H q y.2 := e ▸ o
end
end RL
namespace RL
theorem cut_but {α : Type} (xs : List α) : cut xs none (some (-1)) = xs.dropLast := by
  have e : cut xs none (some (-1)) = xs.take (xs.length - 1) := by
    unfold cut
    have h1 : HT.sIx xs.length 0 none = 0 := rfl
    have h2 : HT.sIx xs.length xs.length (some (-1)) = xs.length - 1 := by
      simp only [HT.sIx]
      rw [if_pos (by decide)]
      omega
    rw [h1, h2, List.drop_zero, Nat.sub_zero]
  rw [e, List.dropLast_eq_take]
end RL
namespace RL
open PySem PySem.Spec PyProof.Rows L2 Rep
/-- i, i + c, .. below j -/
def rng3 (i j c : Int) : List Int := (List.range (if i < j then (j - i - 1) / c + 1 else 0).toNat).map fun (k : Nat) => i + (k : Int) * c
theorem rng3_len {i j c : Int} : (rng3 i j c).length = (if i < j then (j - i - 1) / c + 1 else 0).toNat := by simp [rng3]
theorem small_pos {a b c : Int} (ha : -(2 ^ 62) ≤ a) (ha' : a < 2 ^ 62) (hb : -(2 ^ 62) ≤ b) (hb' : b < 2 ^ 62) (hc : 1 ≤ c) (hc' : c < 1073741824) : Builtin.Range.small a b c = true := by
  unfold Builtin.Range.small
  have h0 : Builtin.Range.rangeSize a b c = if a < b then (b - a - 1) / c + 1 else 0 := by
    unfold Builtin.Range.rangeSize
    rw [if_pos (by omega)]
  rw [h0]
  simp only [Builtin.Range.rangeFitsLong, Bool.and_eq_true, Bool.or_eq_true, decide_eq_true_eq, beq_iff_eq, show c > 0 by omega, if_true]
  by_cases h : a < b
  · rw [if_pos h]
    have h1 : (b - a - 1) / c ≤ b - a - 1 := Int.ediv_le_self c (by omega)
    have h2 : 0 ≤ (b - a - 1) / c := Int.ediv_nonneg (by omega) (by omega)
    omega
  · rw [if_neg h]
    omega
theorem walk_rng3 {K : PySem.W.Frag} {G : Hp} {lo hi c : Int} {n : Nat} (e : n = (if lo < hi then (hi - lo - 1) / c + 1 else 0).toNat) : WalkOf K (Itc lo c n) G (rng3 lo hi c) := fun G' H' s1 s2 => by
  subst e
  refine ⟨fun i h => by rw [rng3_len] at h; exact h, by rw [rng3_len]; exact Nat.le_refl _, fun i x v H'' hx y => ?_⟩
  obtain ⟨rfl, y⟩ := y
  unfold rng3 at hx
  rw [List.getElem?_map] at hx
  cases hq : (List.range (if lo < hi then (hi - lo - 1) / c + 1 else 0).toNat)[i]? with
  | none => rw [hq] at hx; cases hx
  | some t =>
    rw [hq] at hx
    obtain ⟨ht, he⟩ := List.getElem?_eq_some_iff.mp hq
    simp at he
    subst he
    cases hx
    exact ⟨G', Ext.refl s2, y⟩
section
variable {X : Cx} {σ : St} {G H : Hp} {D : Ends} {P : PV} {a b c tg : Expr} {pos p : Pos} {i j k : Int}
theorem ei_range3 (B : Bl X "range") (h : Ev X a σ G H i) (h' : Ev X b σ G H j) (h'' : Ev X c σ G H k) (hb : (-(2 ^ 62) ≤ i ∧ i < 2 ^ 62) ∧ -(2 ^ 62) ≤ j ∧ j < 2 ^ 62 ∧ j - i ≤ 16777216) (hk : 1 ≤ k) (hk' : k < 1073741824)
    (he : starEach [a, b, c] X.env = (false, eval a X.env) :: starEach [b, c] X.env := by rfl) (he2 : starEach [b, c] X.env = (false, eval b X.env) :: starEach [c] X.env := by rfl) (he3 : starEach [c] X.env = (false, eval c X.env) :: starEach [] X.env := by rfl) (hpl : (backTo pos (starEach [b, c] X.env)).any (·.1) = false := by rfl) :
    EvI X tg (.Call (.Name "range" p) [a, b, c] [] pos) σ G H (rng3 i j k) :=
  ⟨_, pi_range3 B.g B.m (pa_cons pe_sem (pa_cons pe_sem (pa_cons pe_sem pa_nil he3) he2) he) he hpl, fun G1 H1 x1 R r => h G1 H1 x1 _ fun G2 H2 v x2 _ pv => h' G2 H2 (x1.trans x2) _ fun G3 H3 u x3 _ pu => h'' G3 H3 ((x1.trans x2).trans x3) _ fun G4 H4 w x4 _ pw => by
    have h0 : Builtin.Range.rangeSize i j k = if i < j then (j - i - 1) / k + 1 else 0 := by
      unfold Builtin.Range.rangeSize
      rw [if_pos (by omega)]
    have h1 : (j - i - 1) / k ≤ j - i - 1 ∨ ¬ i < j := by
      by_cases z : i < j
      · exact .inl (Int.ediv_le_self k (by omega))
      · exact .inr z
    have h2 : 0 ≤ (j - i - 1) / k ∨ ¬ i < j := by
      by_cases z : i < j
      · exact .inl (Int.ediv_nonneg (by omega) (by omega))
      · exact .inr z
    refine ⟨i, j, k, (if i < j then (j - i - 1) / k + 1 else 0).toNat, by rw [show v = _ from pv, show u = _ from pu, show w = _ from pw], ⟨by omega, by omega, small_pos hb.1.1 hb.1.2 hb.2.1 hb.2.2.1 hk hk', ?_⟩, r _ G4 H4 ((x2.trans x3).trans x4) ?_ (walk_rng3 rfl)⟩
    · rw [h0]; split <;> omega
    · rw [rng3_len, sizeLine_eq]; split <;> omega⟩
/-! ### while -/
def wrun {S : Type} (c : S → Bool) (f : S → S) : Nat → S → S
  | 0, s => s
  | n + 1, s => if c s = true then wrun c f n (f s) else s
theorem wrun_step {S : Type} {c : S → Bool} {f : S → S} {m : Nat} {s s' y : S} (e : wrun c f m s = y) (hc : c s = true) (hm : 1 ≤ m) (hs : f s = s') : wrun c f (m - 1) s' = y := by
  cases m with
  | zero => omega
  | succ m =>
    rw [wrun, if_pos hc, hs] at e
    exact e
theorem wrun_stop {S : Type} {c : S → Bool} {f : S → S} {m : Nat} {s y : S} (e : wrun c f m s = y) (hc : c s = false) : s = y := by
  cases m with
  | zero => exact e
  | succ m =>
    rw [wrun, if_neg (by rw [hc]; decide)] at e
    exact e
theorem tk_whl {α S : Type} {a : α} {k : S → α} {c : S → Bool} {f : S → S} {m M : Nat} {s s0 : S} (h : a = k (wrun c f M s0)) (e : wrun c f m s = wrun c f M s0) (hc : c s = false) : a = k s := by
  rw [h, ← e, ← wrun_stop rfl hc]
theorem s_while {body : List Stmt} (hp : PassesOwn (model X.prog X.w) X.A X.env X.xe) (s0 : Same G H) (I : Nat → St → Hp → Hp → Prop) (M : Nat) (h0 : I M σ G H)
    (ht : ∀ m σ1 G1 H1, Same G G1 → Same G1 H1 → I m σ1 G1 H1 → ∃ b, EvT X c σ1 G1 H1 b ∧
      (b = true → ∀ G2 H2, Ext G1 H1 G2 H2 → HLen H2 → tSs X body { D with nx := fun σ' H' => ∃ m' G', m' < m ∧ Same G2 G' ∧ Same G' H' ∧ I m' σ' G' H', ct := fun σ' H' => ∃ m' G', m' < m ∧ Same G2 G' ∧ Same G' H' ∧ I m' σ' G' H', bk := D.nx } σ1 H2) ∧
      (b = false → ∀ G2 H2, Ext G1 H1 G2 H2 → HLen H2 → D.nx σ1 H2)) : tS X (.While c body [] pos) D σ H := by
  refine s_of (ps_while hp pt_sem pss_sem) ⟨fun m σ' H' => ∃ G', Same G G' ∧ Same G' H' ∧ I m σ' G' H', ⟨M, G, Same.refl _, s0, h0⟩, ?_⟩
  rintro m σ1 H1 ⟨G1, sg, sh, Iv⟩
  obtain ⟨b, hc, h1, h2⟩ := ht m σ1 G1 H1 sg sh Iv
  refine hc G1 H1 (Ext.refl sh) _ fun G2 H2 x2 l => ?_
  cases b with
  | false => exact h2 rfl G2 H2 x2 l
  | true =>
    refine ⟨fun σ2 H2 => ∃ m' G', m' < m ∧ Same G G' ∧ Same G' H2 ∧ I m' σ2 G' H2, fun σ2 H2 ⟨m', G', hm, a, b, c⟩ => ⟨m', hm, G', a, b, c⟩, ?_⟩
    refine .mk fun pins s Iv' => ?_
    refine thn ((h1 rfl G2 H2 x2 l).run pins s Iv') fun f s' q => ?_
    have fin : ∀ {H3 : Hp} {σ3 : St}, (∃ m' G', m' < m ∧ Same G2 G' ∧ Same G' H3 ∧ I m' σ3 G' H3) → ∃ m' G', m' < m ∧ Same G G' ∧ Same G' H3 ∧ I m' σ3 G' H3 := fun ⟨m', G', hm, a, b, c⟩ => ⟨m', G', hm, sg.trans (x2.g.trans a), b, c⟩
    cases f with
    | next =>
      obtain ⟨σ3, H3, I3, q⟩ := q
      exact ⟨σ3, H3, I3, fin q⟩
    | cont =>
      obtain ⟨σ3, H3, I3, q⟩ := q
      exact ⟨σ3, H3, I3, fin q⟩
    | brk => exact q
    | ret u => exact q
end
end RL
namespace RL
theorem enum_mem {α : Type} {z : Int × α} {xs : List α} (h : z ∈ enum xs) : 0 ≤ z.1 ∧ z.1 < (xs.length : Int) := by
  obtain ⟨i, hi, e⟩ := List.getElem_of_mem h
  have e2 : (enum xs)[i]? = some z := by rw [List.getElem?_eq_getElem hi, e]
  obtain ⟨e1, _⟩ := enum_get e2
  rw [enum_len] at hi
  omega
theorem rep_len {α : Type} (n : Nat) (a : α) : (List.replicate n [a]).flatten.length = n := by simp
theorem rep_len2 {α : Type} (n : Nat) (a b : α) : (List.replicate n [a, b]).flatten.length = n * 2 := by simp
end RL
namespace RL
theorem getD_set {xs : List Int} {i : Nat} {v : Int} (h : i < xs.length) : (xs.set i v).getD i 0 = v := by
  rw [List.getD_eq_getElem?_getD, List.getElem?_set_self h]
  rfl
end RL
namespace RL
open PySem PySem.Spec PyProof.Rows L2 Rep
section
variable {X : Cx} {σ : St} {G H : Hp} {p : Pos}
/-- a constant of the text -/
theorem ev_globI {n : Str} {i : Int} (hg : Gl X n) (h : ∃ t, X.mg n = some (.int i t)) (hd : (n == ("__debug__" : Str)) = false := by decide) : Ev X (.Name n p) σ G H i :=
  let ⟨t, h⟩ := h; ev_glob (v := .int i) hg h ⟨t, rfl⟩ (fun _ => rfl) hd
theorem ev_globS {n x : Str} (hg : Gl X n) (h : ∃ t, X.mg n = some (.str x t)) (hd : (n == ("__debug__" : Str)) = false := by decide) : Ev X (.Name n p) σ G H x :=
  let ⟨t, h⟩ := h; ev_glob (v := .str x) hg h ⟨t, rfl⟩ (fun _ => rfl) hd
end
end RL
namespace RL
open PySem PySem.Spec PyProof.Rows L2 Rep
section
variable {X : Cx} {σ : St} {G H : Hp} {es : List Expr} {pos p lp : Pos} {D : Ends}
/-- n = [..]: the def's own at once, whatever its items -/
theorem s_listO {α : Type} [Rep α] {xs : List α} {i : Nat} {n : Str} (hN : X.N.Nodup) (sl : Ss X i n) (s0 : Same G H) (h : EvA X es σ G H (AAll X.K xs)) (k : ∀ G1 H1 q, Ext G H G1 H1 → HLen H1 → H q = none → Own X.K G1 H1 q xs → D.nx (σ.set i (some (.ref q))) H1)
    (hl : xs.length ≤ 1000 := by exact Nat.le_of_ble_eq_true rfl) (hs : swapsWith (.List es lp) (some (.Name n p)) pos.line X.env = pure false := by rfl) : tS X (.Assign [.Name n p] (.List es lp) pos) D σ H :=
  s_of (ps_set hN sl.hN sl.hx pe_sem hs sl.hf) (tE_lenF fun pins s I => (pe_lst pa_sem).run pins s σ H _ I (h G H (Ext.refl s0) _ fun G1 H1 vs x _ pa => ⟨by rw [paired_len pa]; exact Nat.le_of_lt (small1000 hl), fun q hq l =>
    k G1 _ q (x.newH hq) l (x.h.free hq) ⟨⟨vs, upd_same, pa⟩, x.s.free hq⟩⟩))
end
end RL
namespace RL
open PySem PySem.Spec PyProof.Rows L2
/-- names of a block within a block -/
def relS (scope sc0 : Scope) : Scope := { scope with names := scope.names.map fun (n, k) => if (k == NameKind.free && sc0.kind == .function && sc0.names.lookup n == some NameKind.cell) then (n, NameKind.cell) else (n, k) }
theorem blk_in {X : Cx} {N : List Str} {sc0 scope scope2 : Scope} {own : List (Str × Nat)} {s : Shared} {H0 : Hp} {C : Addr} {cl : List (Str × Addr)} {fp : List Addr} (hs : X.env.scope = sc0) (h : blkC N (relS scope sc0) scope2 own = true) : BlkOk N (InB X scope s H0 C cl fp).env.scope scope2 own := by
  subst hs
  exact blkOk_by h
end RL
namespace RL
open PySem PySem.Spec PyProof.Rows L2 Rep
section
variable {X : Cx} {σ : St} {G H : Hp} {pos p : Pos} {α β γ δ ζ : Type} [Rep α] [Rep β] [Rep γ] [Rep δ] [Rep ζ] {k : Nat} {n : Str} {e1 e2 e3 e4 : Expr} {x1 : α} {x2 : β} {x3 : γ} {x4 : δ}
theorem evN_c4 {pre : α → β → γ → δ → Prop} {f : α → β → γ → δ → ζ} (C : Cal X.prog X.w X.K X.mg X.base k n (Sp4 X.K true pre f)) (hr : Room k X.A) (hg : Gl X n) (h1 : Ev X e1 σ G H x1) (h2 : Ev X e2 σ G H x2) (h3 : Ev X e3 σ G H x3) (h4 : Ev X e4 σ G H x4) (hp : pre x1 x2 x3 x4) (hdb : (n == ("__debug__" : Str)) = false := by decide)
    (he : starEach [e1, e2, e3, e4] X.env = (false, eval e1 X.env) :: starEach [e2, e3, e4] X.env := by rfl) (he2 : starEach [e2, e3, e4] X.env = (false, eval e2 X.env) :: starEach [e3, e4] X.env := by rfl) (he3 : starEach [e3, e4] X.env = (false, eval e3 X.env) :: starEach [e4] X.env := by rfl) (he4 : starEach [e4] X.env = (false, eval e4 X.env) :: starEach [] X.env := by rfl) (hpl : (backTo pos (starEach [e2, e3, e4] X.env)).any (·.1) = false := by rfl) : EvN X (.Call (.Name n p) [e1, e2, e3, e4] [] pos) σ G H (Is X.K (f x1 x2 x3 x4)) :=
  evN_call C hr hg (ea_cons h1 (ea_cons h2 (ea_cons h3 (ea_cons h4 ea_nil he4) he3) he2) he) (fun G1 H1 vs x l ⟨v, r, e, rv, v2, r2, e', rv2, v3, r3, e'', rv3, v4, r4, e3', rv4, e4'⟩ Q q => ⟨G1, v, v2, v3, v4, x1, x2, x3, x4, by rw [e, e', e'', e3', e4'], x.s, rv, rv2, rv3, rv4, hp, fun G2 H2 w x r n => q G2 H2 w x r (n rfl)⟩) hdb he hpl
end
end RL
namespace RL
open PySem PySem.Spec PyProof.Rows L2 Rep
section
variable {α β : Type} [Rep α] [Rep β] {K : PySem.W.Frag} {G H G0 H0 : Hp} {q p : Addr} {xs : List α} {ys : List β}
/-- an own list frozen beside others -/
theorem Own.frzK (o : Own K G H q xs) (x0 : Ext G0 H0 G H) (n : H0 q = none) : ∃ G', Ext G0 H0 G' H ∧ Same G G' ∧ rep K G' (.ref q) xs ∧ ∀ b, b ≠ q → G' b = G b :=
  let ⟨vs, e, p⟩ := o.at_; ⟨upd G q (.lst vs), x0.frz n e, same_new o.off, ⟨q, vs, rfl, upd_same, pair_up (same_new o.off) p⟩, fun _ h => upd_ne h⟩
theorem Own.reK {G' : Hp} (o : Own K G H p ys) (s : Same G G') (k : ∀ b, b ≠ q → G' b = G b) (h : p ≠ q) : Own K G' H p ys :=
  let ⟨vs, e, r⟩ := o.at_; ⟨⟨vs, e, pair_up s r⟩, (k p h).trans o.off⟩
end
end RL

set_option Elab.async false
set_option linter.all false
set_option maxRecDepth 100000
set_option maxHeartbeats 4000000
/-! RS: texts. -/
namespace RL
open PySem PySem.Spec PyProof.Rows L2 Rep
theorem strs_of {K : PySem.W.Frag} {G : Hp} : ∀ {vs : List V} {ys : List Str}, Paired (rep K G) vs ys → vs = ys.map V.str
  | _, _, .nil => rfl
  | _, _, .cons (h : _ = _) t => by rw [h, strs_of t]; rfl
theorem of_strs {K : PySem.W.Frag} {G : Hp} : ∀ (ys : List Str), Paired (rep K G) (ys.map V.str) ys
  | [] => .nil
  | _ :: r => .cons rfl (of_strs r)
theorem dec_s {a b : Str} : decide (V.str a = V.str b) = decide (a = b) := by
  by_cases h : a = b
  · rw [decide_eq_true h, decide_eq_true (congrArg V.str h)]
  · rw [decide_eq_false h, decide_eq_false fun z => h (V.str.inj z)]
/-- one sign -/
structure Chr where
  c : Nat
  ok : c < 0x110000
  deriving DecidableEq
def Chr.s (x : Chr) : Str := ⟨#[x.c]⟩
theorem Chr.inj {x y : Chr} (h : x.s = y.s) : x = y := by
  obtain ⟨a, ha⟩ := x
  obtain ⟨b, hb⟩ := y
  have e : a = b := by simpa [Chr.s] using h
  subst e
  rfl
instance : Rep Chr := ⟨fun _ _ v x => v = .str x.s, fun _ h => h⟩
instance : Dat Chr := ⟨fun x => .str x.s, fun s h => by rw [show _ = V.str _ from h]; exact .str _, fun x => by
  show PyData.strOk x.s = true
  unfold PyData.strOk Chr.s
  simpa using x.ok, 0, fun _ => Nat.le_refl _, fun x y => by
  show (x.s == y.s) = _
  by_cases h : x = y
  · subst h; simp
  · have : ¬ x.s = y.s := fun z => h (Chr.inj z)
    simp [h, this]⟩
def mkC (c : Nat) : Chr := if h : c < 0x110000 then ⟨c, h⟩ else ⟨48, by decide⟩
theorem mkC_c {c : Nat} (h : c < 0x110000) : (mkC c).c = c := by
  unfold mkC
  rw [dif_pos h]
def sgns (z : Str) : List Chr := z.cps.toList.map mkC
section
variable {X : Cx} {σ : St} {G H : Hp} {P Pa Pb : PV} {e a b c o tg : Expr} {es : List Expr} {pos p : Pos}
theorem c_eqS {x y : Str} : Bin X (compareOp .Eq) (Is X.K x) (Is X.K y) (Is X.K (decide (x = y))) G H :=
  ⟨_, op_eq, fun G1 H1 v u z _ e1 e2 Q q => by
    rw [show v = V.str x from e1, show u = V.str y from e2]
    refine ⟨rfl, ?_⟩
    rw [dec_s]
    exact q G1 H1 _ (Ext.refl z.s) rfl⟩
theorem c_neS {x y : Str} : Bin X (compareOp .NotEq) (Is X.K x) (Is X.K y) (Is X.K (!decide (x = y))) G H :=
  ⟨_, op_ne, fun G1 H1 v u z _ e1 e2 Q q => by
    rw [show v = V.str x from e1, show u = V.str y from e2]
    refine ⟨rfl, ?_⟩
    rw [dec_s]
    exact q G1 H1 _ (Ext.refl z.s) rfl⟩
theorem c_inC {x : Chr} {y : Str} : Bin X (compareOp .In) (Is X.K x) (Is X.K y) (Is X.K (decide (x.c ∈ y.cps.toList))) G H :=
  ⟨_, op_in_sign, fun G1 H1 v u z _ e1 e2 Q q => ⟨x.c, y, e1, e2, q G1 H1 _ (Ext.refl z.s) rfl⟩⟩
theorem c_ninC {x : Chr} {y : Str} : Bin X (compareOp .NotIn) (Is X.K x) (Is X.K y) (Is X.K (!decide (x.c ∈ y.cps.toList))) G H :=
  ⟨_, op_notIn_sign, fun G1 H1 v u z _ e1 e2 Q q => ⟨x.c, y, e1, e2, q G1 H1 _ (Ext.refl z.s) rfl⟩⟩
theorem b_catS {x y : Str} (h : x.length + y.length ≤ sizeLine) : Bin X (binaryOp .Add) (Is X.K x) (Is X.K y) (Is X.K (x ++ y)) G H :=
  ⟨_, op_add_str, fun G1 H1 v u z _ e1 e2 Q q => ⟨x, y, e1, e2, h, q G1 H1 _ (Ext.refl z.s) rfl⟩⟩
/-- the text of a number -/
def tos (i : Int) : Str := Str.ofString (toString i)
theorem ev_strI {i : Int} (B : Bl X "str") (hz : i.natAbs.log2 < 1920) (h : Ev X e σ G H i) (he : starEach [e] X.env = (false, eval e X.env) :: starEach [] X.env := by rfl) : Ev X (.Call (.Name "str" p) [e] [] pos) σ G H (tos i) :=
  ev_callTy call_str_int B.g B.m PyProof.Rows.boot_str (ea_cons h ea_nil he) (fun G1 H1 vs y l ⟨v, r, e1, pv, e2⟩ Q q => ⟨i, by rw [e1, e2, show v = _ from pv], hz, q G1 H1 _ (Ext.refl y.s) rfl⟩) (by decide) (by decide) he rfl
theorem ev_intS {x : Str} (B : Bl X "int") (hn : (PySem.intText? x).isSome = true) (hl : x.length ≤ 640) (h : Ev X e σ G H x) (he : starEach [e] X.env = (false, eval e X.env) :: starEach [] X.env := by rfl) : Ev X (.Call (.Name "int" p) [e] [] pos) σ G H ((PySem.intText? x).getD 0) :=
  ev_callTy call_int_str B.g B.m PyProof.Rows.boot_int (ea_cons h ea_nil he) (fun G1 H1 vs y l ⟨v, r, e1, pv, e2⟩ Q q => by
    obtain ⟨n, hn⟩ := Option.isSome_iff_exists.mp hn
    refine ⟨x, n, by rw [e1, e2, show v = _ from pv], hn, hl, q G1 H1 _ (Ext.refl y.s) ?_⟩
    rw [hn]
    rfl) (by decide) (by decide) he rfl
theorem ev_lenS {x : Str} (B : Bl X "len") (hl : x.length ≤ sizeLine) (h : Ev X e σ G H x) (he : starEach [e] X.env = (false, eval e X.env) :: starEach [] X.env := by rfl) : Ev X (.Call (.Name "len" p) [e] [] pos) σ G H (x.length : Int) :=
  ev_callB call_len_str B.g B.m PySem.boot_len (ea_cons h ea_nil he) (fun G1 H1 vs y l ⟨v, r, e1, pv, e2⟩ Q q => ⟨x, by rw [e1, e2, show v = _ from pv], hl, q G1 H1 _ (Ext.refl y.s) rfl⟩) (by decide) (by decide) he rfl
theorem ev_join {x : Str} {ys : List Str} {ap : Pos} [s : AsSeq X.K P Str instRepStr ys] (hz : (ys.map (·.length)).sum + ys.length * x.length ≤ 16777216) (ho : Ev X o σ G H x) (h : EvP X e σ G H P) (hs : starEach [e] X.env = [(false, eval e X.env)] := by rfl)
    (hbase : attributeBase o "join" X.env (eval o X.env) = eval o X.env := by rfl) (hline : (ap.endLine == pos.line) = true := by rfl) : Ev X (.Call (.Attribute o "join" ap) [e] [] pos) σ G H (Txt.join x ys) :=
  evP_of (pe_join pe_sem pe_sem hs hbase hline) fun G1 H1 x1 Q q => ho G1 H1 x1 _ fun G2 H2 v x2 _ pv => ⟨⟨x, pv⟩, h G2 H2 (x1.trans x2) _ fun G3 H3 u x3 _ pu => by
    obtain ⟨t, us, rfl, g, pr⟩ := s.seq _ _ _ x3.s pu
    rw [strs_of pr] at g
    exact ⟨x, t, ys, pv, rfl, .inl g, hz, q G3 H3 _ (x2.trans x3) rfl⟩⟩
theorem ev_split {x y : Str} {ap : Pos} (hy : (y.length == 0) = false) (hz : x.length + 2 ≤ sizeLine) (ho : Ev X o σ G H x) (h : Ev X e σ G H y) (hs : starEach [e] X.env = [(false, eval e X.env)] := by rfl)
    (hbase : attributeBase o "split" X.env (eval o X.env) = eval o X.env := by rfl) (hline : (ap.endLine == pos.line) = true := by rfl) : Ev X (.Call (.Attribute o "split" ap) [e] [] pos) σ G H (Txt.split x y) :=
  evP_of (pe_m1 F.slot_str_split F.type_str_split mt_split pe_sem pe_sem hs hbase hline) fun G1 H1 x1 Q q => ho G1 H1 x1 _ fun G2 H2 v x2 _ pv => ⟨⟨x, pv⟩, h G2 H2 (x1.trans x2) _ fun G3 H3 u x3 _ pu =>
    ⟨x, y, pv, by rw [show u = _ from pu], hy, hz, fun p hp => q (upd G3 p (.lst _)) _ _ ((x2.trans x3).new hp) ⟨p, _, rfl, upd_same, of_strs _⟩⟩⟩
theorem ev_slS {z : Str} {lo hi : Option Expr} {l u : Option Int} {p2 : Pos} (hz : z.length ≤ sizeLine) (h : Ev X a σ G H z) (h1 : EvO X lo σ G H l) (h2 : EvO X hi σ G H u) : Ev X (.Subscript a (.Slice lo hi none p2) pos) σ G H (cutS z l u) := by
  obtain ⟨t1, p1, k1⟩ := h1
  obtain ⟨t2, p2, k2⟩ := h2
  exact evP_of (pe_slice sl_str pe_sem p1 p2) fun G1 H1 x1 Q q => h G1 H1 x1 _ fun G2 H2 v x2 _ pv => k1 G2 H2 (x1.trans x2) _ fun G3 H3 x3 => k2 G3 H3 ((x1.trans x2).trans x3) _ fun G4 H4 x4 =>
    ⟨z, pv, hz, q G4 H4 _ (x2.trans (x3.trans x4)) rfl⟩
/-- a text some times -/
def strRep (x : Str) (k : Int) : Str := ⟨(List.replicate k.toNat x.cps).foldl (· ++ ·) #[]⟩
theorem b_repS {x : Str} {k : Int} (h2 : 2 ≤ k) (h3 : k < 2 ^ 20) (h1 : 1 ≤ x.length) (h4 : x.length ≤ 16) (hz : (strRep x k).length ≤ sizeLine) : Bin X (binaryOp .Mult) (Is X.K x) (Is X.K k) (Is X.K (strRep x k)) G H :=
  ⟨fun a b H Q => a = .str x ∧ b = .int k ∧ Q (.str (strRep x k)) H, fun pins s σ H a b v u Q I ra rb h => by
    obtain ⟨rfl, rfl, q⟩ := h
    obtain ⟨t, rfl⟩ := ra
    obtain ⟨t', rfl⟩ := rb
    have e : ¬ (k == 1 || x.length == 0) = true := by simp; omega
    refine PySem.P.mul_str (by simp; omega) (fun _ _ => ?_) (fun _ _ => ?_) ?_
    · have : (16 : Int) ≤ (2 ^ 63 - 1) / k := (Int.le_ediv_iff_mul_le (by omega)).mpr (by omega)
      omega
    · unfold Builtin.Str.tooLong
      rw [decide_eq_false]
      have z : x.length * k.toNat ≤ 16 * 2 ^ 20 := Nat.mul_le_mul h4 (by omega)
      rw [sizeLine_eq]
      omega
    · rw [if_neg (by omega), if_neg e]
      exact ⟨by first | exact hz | (rw [decide_eq_true hz]) | trivial, ⟨.str _, H, I.tok _, ⟨_, rfl⟩, q⟩⟩, fun G1 H1 v u z _ e1 e2 Q q => ⟨e1, e2, q G1 H1 _ (Ext.refl z.s) rfl⟩⟩
/-- the sign at a place -/
def sgn (z : Str) (i : Int) : Str := ⟨#[z.cps.toList.getD i.toNat 0]⟩
theorem ev_ixS {z : Str} {i : Int} (hz : z.length ≤ sizeLine) (h0 : 0 ≤ i) (h1 : i < (z.length : Int)) (h : Ev X a σ G H z) (hi : Ev X b σ G H i) (hs : PlainIx b := by intro _ _; rfl) : Ev X (.Subscript a b pos) σ G H (sgn z i) :=
  evP_of (pe_ix ix_str pe_sem pe_sem hs) (bin_go h hi fun G1 H1 v u x _ e1 e2 Q q => by
    have hl : z.cps.toList.length = z.length := Array.length_toList
    have hj := ixN_of (n := z.cps.toList.length) h0 (by rw [hl]; exact h1)
    refine ⟨z, i, z.cps.toList.getD i.toNat 0, e1, e2, hz, ?_, q G1 H1 _ (Ext.refl x.s) rfl⟩
    unfold atI
    rw [hj]
    have hlt := ixN_lt hj
    rw [List.getD_eq_getElem?_getD, Option.bind_some, List.getElem?_eq_getElem hlt]
    rfl)
theorem ei_str {z : Str} (hz : z.length ≤ sizeLine) (hk : ∀ c ∈ z.cps.toList, c < 0x110000) (h : Ev X e σ G H z) : EvI X tg e σ G H (sgns z) :=
  ⟨_, pi_str pe_sem, fun G1 H1 x1 R r => h G1 H1 x1 _ fun G2 H2 v x2 l2 pv => by
    have hl : (sgns z).length = z.cps.size := by unfold sgns; rw [List.length_map, Array.length_toList]
    refine ⟨z, pv, r _ G2 H2 x2 (by rw [hl]; exact hz) fun G' H' s1 s2 => ⟨fun i hi => by rw [hl] at hi; exact hi, by rw [hl]; exact Nat.le_refl _, fun i x v H'' hx y => ?_⟩⟩
    obtain ⟨rfl, c, hc, rfl⟩ := y
    refine ⟨G', Ext.refl s2, ?_⟩
    have e : x = mkC c := by
      unfold sgns at hx
      rw [List.getElem?_map, Array.getElem?_toList, hc] at hx
      exact (Option.some.inj hx).symm
    subst e
    show V.str ⟨#[c]⟩ = V.str ⟨#[(mkC c).c]⟩
    rw [mkC_c (hk c (by rw [← Array.getElem?_toList] at hc; exact List.mem_of_getElem? hc))]⟩
end
end RL

set_option Elab.async false
set_option linter.all false
set_option maxRecDepth 100000
set_option maxHeartbeats 4000000
/-! RX: own errors: defs that refuse, try .. except .. as e, a def that is asked of the error in hand. -/
namespace RL
open PySem PySem.Spec PyProof.Rows L2 Rep
theorem cx_no {P : Program} {w : World} {outer : List Env} {H : Hp} {s s' : Shared} {e : Value} (h : L2.CX P w outer H s (fun _ _ _ => False) e s') : False := by
  obtain ⟨_, _, _, _, _, _, _, _, _, _, _, _, z⟩ := h
  exact z
theorem roomS {k : Nat} {A : Around} {v : Option Value} (r : Room k A) : L2H.RoomH k (A.mark v) := ⟨r.dp, r.un⟩
/-- an error class of the text without own __init__, over ValueError -/
structure XC (K : PySem.W.Frag) (mg : Str → Option Value) (x : Str) (C : Addr) : Prop where
  g : mg x = some (.ref C)
  k : PySem.W.keepIn K (.ref C) = true
  q : PySem.W.excIn K C [.type "ValueError", .type "Exception", .type "BaseException", .type "object"] "ValueError.__new__" = true
  s : PySem.W.subIn K (.ref C) (.type "BaseException") = some true
  t : PySem.W.typeIn K (.ref C) = some (.type "type")
  c : ExcC K C
section
variable {X : Cx} {σ : St} {G H : Hp} {P : PV} {W : WX} {D : Ends} {e a b tg : Expr} {es : List Expr} {st : Stmt} {sts body suite : List Stmt} {b0 : Stmt} {pos p p2 p3 : Pos}
/-! ### what never comes to a value -/
def EvR (X : Cx) (e : Expr) (σ : St) (H : Hp) : Prop := ∀ Q : VK, tE X e σ H Q
theorem s_raise {x m : Str} {C : Addr} {j : Nat} (hc : X.calm = true) (tk : Takes X W) (c : XC X.K X.mg x C) (hg : Gl X x) (h : W (.ref C) none σ H) (hdb : (x == ("__debug__" : Str)) = false := by decide) :
    tS X (.Raise (some (.Call (.Name x p) [.Constant (.str m) j p2] [] p3)) none pos) D σ H :=
  s_of (ps_raise hc tk (pmk_own PySem.F.excBase_ValueError c.q c.g c.k (raises_own c.s c.t) hg hdb)) h
theorem s_exprR (h : EvR X e σ H) (hs : swapsWith e none pos.line X.env = pure false := by rfl) : tS X (.Expr e pos) D σ H := s_of (ps_expr pe_sem hs) (h _)
theorem s_retR (h : EvR X e σ H) : tS X (.Return (some e) pos) D σ H := s_of (ps_ret pe_sem) (h _)
theorem s_setR {i : Nat} {n : Str} (hN : X.N.Nodup) (sl : Ss X i n) (h : EvR X e σ H) (hs : swapsWith e (some (.Name n p)) pos.line X.env = pure false := by rfl) : tS X (.Assign [.Name n p] e pos) D σ H :=
  s_of (ps_set hN sl.hN sl.hx pe_sem hs sl.hf) (h _)
def EiR (X : Cx) (tg iter : Expr) (σ : St) (H : Hp) : Prop := ∃ wi, PI X tg iter wi ∧ ∀ R : It → Hp → Prop, wi σ H R
theorem eir_list (h : EvR X e σ H) : EiR X tg e σ H := ⟨_, pi_list pe_sem, fun _ => h _⟩
theorem eir_enum {elts : List Expr} {kk : Nat} {tpos : Pos} (B : Bl X "enumerate") (h : EvR X e σ H) (he : starEach [e] X.env = (false, eval e X.env) :: starEach [] X.env := by rfl) (hs : starEach [e] X.env = [(false, eval e X.env)] := by rfl) :
    EiR X (.Tuple elts kk tpos) (.Call (.Name "enumerate" p) [e] [] pos) σ H := ⟨_, pi_enum B.g B.m (pa_cons pe_sem pa_nil he) hs, fun _ => h _⟩
theorem s_forR {g : TG} (hp : PassesOwn (model X.prog X.w) X.A X.env X.xe) (hc : X.calm = true) (hg : PG X tg g) (h : EiR X tg e σ H) (hsf : ∀ x, foldedSetIterable e X.env x = pure x := by intro _; rfl) : tS X (.For tg e body [] pos) D σ H :=
  let ⟨_, pi, h⟩ := h; s_of (ps_for hp hc pi hg pss_sem hsf) (h _)
/-! ### defs that refuse -/
section sps
variable {α β γ δ : Type} [Rep α] [Rep β] [Rep γ] [Rep δ]
def SpR1 (K : PySem.W.Frag) (pre : α → Prop) (C : Addr) : Sp := fun vs H _ E => ∃ (G : Hp) (v1 : V) (x1 : α), vs = [v1] ∧ Same G H ∧ rep K G v1 x1 ∧ pre x1 ∧ ∀ G2 H2, Ext G H G2 H2 → E (.ref C) none H2
def SpR2 (K : PySem.W.Frag) (pre : α → β → Prop) (C : Addr) : Sp := fun vs H _ E => ∃ (G : Hp) (v1 v2 : V) (x1 : α) (x2 : β), vs = [v1, v2] ∧ Same G H ∧ rep K G v1 x1 ∧ rep K G v2 x2 ∧ pre x1 x2 ∧ ∀ G2 H2, Ext G H G2 H2 → E (.ref C) none H2
def SpR3 (K : PySem.W.Frag) (pre : α → β → γ → Prop) (C : Addr) : Sp := fun vs H _ E => ∃ (G : Hp) (v1 v2 v3 : V) (x1 : α) (x2 : β) (x3 : γ), vs = [v1, v2, v3] ∧ Same G H ∧ rep K G v1 x1 ∧ rep K G v2 x2 ∧ rep K G v3 x3 ∧ pre x1 x2 x3 ∧ ∀ G2 H2, Ext G H G2 H2 → E (.ref C) none H2
def SpR4 (K : PySem.W.Frag) (pre : α → β → γ → δ → Prop) (C : Addr) : Sp := fun vs H _ E => ∃ (G : Hp) (v1 v2 v3 v4 : V) (x1 : α) (x2 : β) (x3 : γ) (x4 : δ), vs = [v1, v2, v3, v4] ∧ Same G H ∧ rep K G v1 x1 ∧ rep K G v2 x2 ∧ rep K G v3 x3 ∧ rep K G v4 x4 ∧ pre x1 x2 x3 x4 ∧ ∀ G2 H2, Ext G H G2 H2 → E (.ref C) none H2
variable {k : Nat} {n : Str} {e1 e2 e3 e4 : Expr} {x1 : α} {x2 : β} {x3 : γ} {x4 : δ} {C : Addr}
theorem evR_call {sp : Sp} {A : Hp → Hp → List V → Prop} (c : Cal X.prog X.w X.K X.mg X.base k n sp) (hr : Room k X.A) (hg : Gl X n) (tk : Takes X W) (s0 : Same G H) (ha : EvA X (e :: es) σ G H A)
    (h : ∀ G1 H1 vs Q, Ext G H G1 H1 → A G1 H1 vs → sp vs H1 Q (WE W σ)) (hdb : (n == ("__debug__" : Str)) = false := by decide)
    (he : starEach (e :: es) X.env = (false, eval e X.env) :: starEach es X.env := by rfl) (hpl : (backTo pos (starEach es X.env)).any (·.1) = false := by rfl) : EvR X (.Call (.Name n p) (e :: es) [] pos) σ H := by
  obtain ⟨f, fd, ps, F, hm, hk, hb⟩ := c.ex
  refine fun Q => .mk fun pins s I => ?_
  exact (pe_callS F hr hg hm hk hb (fun τ => passAt tk τ) pa_sem hdb he hpl).run pins s σ H Q I (ha G H (Ext.refl s0) _ fun G1 H1 vs x _ q => h G1 H1 vs Q x q)
theorem evR_c1 {pre : α → Prop} (c : Cal X.prog X.w X.K X.mg X.base k n (SpR1 X.K pre C)) (hr : Room k X.A) (hg : Gl X n) (tk : Takes X W) (s0 : Same G H) (h1 : Ev X e1 σ G H x1) (hp : pre x1) (w : ∀ G2 H2, Ext G H G2 H2 → W (.ref C) none σ H2)
    (hdb : (n == ("__debug__" : Str)) = false := by decide) (he : starEach [e1] X.env = (false, eval e1 X.env) :: starEach [] X.env := by rfl) : EvR X (.Call (.Name n p) [e1] [] pos) σ H :=
  evR_call c hr hg tk s0 (ea_cons h1 ea_nil he) (fun G1 H1 vs Q x ⟨v, r, e, rv, e'⟩ => ⟨G1, v, x1, by rw [e, e'], x.s, rv, hp, fun G2 H2 y => w G2 H2 (x.trans y)⟩) hdb he rfl
theorem evR_c2 {pre : α → β → Prop} (c : Cal X.prog X.w X.K X.mg X.base k n (SpR2 X.K pre C)) (hr : Room k X.A) (hg : Gl X n) (tk : Takes X W) (s0 : Same G H) (h1 : Ev X e1 σ G H x1) (h2 : Ev X e2 σ G H x2) (hp : pre x1 x2) (w : ∀ G2 H2, Ext G H G2 H2 → W (.ref C) none σ H2)
    (hdb : (n == ("__debug__" : Str)) = false := by decide) (he : starEach [e1, e2] X.env = (false, eval e1 X.env) :: starEach [e2] X.env := by rfl) (he2 : starEach [e2] X.env = (false, eval e2 X.env) :: starEach [] X.env := by rfl)
    (hpl : (backTo pos (starEach [e2] X.env)).any (·.1) = false := by rfl) : EvR X (.Call (.Name n p) [e1, e2] [] pos) σ H :=
  evR_call c hr hg tk s0 (ea_cons h1 (ea_cons h2 ea_nil he2) he) (fun G1 H1 vs Q x ⟨v, r, e, rv, v2, r2, e', rv2, e''⟩ => ⟨G1, v, v2, x1, x2, by rw [e, e', e''], x.s, rv, rv2, hp, fun G2 H2 y => w G2 H2 (x.trans y)⟩) hdb he hpl
theorem evR_c3 {pre : α → β → γ → Prop} (c : Cal X.prog X.w X.K X.mg X.base k n (SpR3 X.K pre C)) (hr : Room k X.A) (hg : Gl X n) (tk : Takes X W) (s0 : Same G H) (h1 : Ev X e1 σ G H x1) (h2 : Ev X e2 σ G H x2) (h3 : Ev X e3 σ G H x3) (hp : pre x1 x2 x3) (w : ∀ G2 H2, Ext G H G2 H2 → W (.ref C) none σ H2)
    (hdb : (n == ("__debug__" : Str)) = false := by decide) (he : starEach [e1, e2, e3] X.env = (false, eval e1 X.env) :: starEach [e2, e3] X.env := by rfl) (he2 : starEach [e2, e3] X.env = (false, eval e2 X.env) :: starEach [e3] X.env := by rfl)
    (he3 : starEach [e3] X.env = (false, eval e3 X.env) :: starEach [] X.env := by rfl) (hpl : (backTo pos (starEach [e2, e3] X.env)).any (·.1) = false := by rfl) : EvR X (.Call (.Name n p) [e1, e2, e3] [] pos) σ H :=
  evR_call c hr hg tk s0 (ea_cons h1 (ea_cons h2 (ea_cons h3 ea_nil he3) he2) he) (fun G1 H1 vs Q x ⟨v, r, e, rv, v2, r2, e', rv2, v3, r3, e'', rv3, e3'⟩ => ⟨G1, v, v2, v3, x1, x2, x3, by rw [e, e', e'', e3'], x.s, rv, rv2, rv3, hp, fun G2 H2 y => w G2 H2 (x.trans y)⟩) hdb he hpl
theorem evR_c4 {pre : α → β → γ → δ → Prop} (c : Cal X.prog X.w X.K X.mg X.base k n (SpR4 X.K pre C)) (hr : Room k X.A) (hg : Gl X n) (tk : Takes X W) (s0 : Same G H) (h1 : Ev X e1 σ G H x1) (h2 : Ev X e2 σ G H x2) (h3 : Ev X e3 σ G H x3) (h4 : Ev X e4 σ G H x4) (hp : pre x1 x2 x3 x4) (w : ∀ G2 H2, Ext G H G2 H2 → W (.ref C) none σ H2)
    (hdb : (n == ("__debug__" : Str)) = false := by decide) (he : starEach [e1, e2, e3, e4] X.env = (false, eval e1 X.env) :: starEach [e2, e3, e4] X.env := by rfl) (he2 : starEach [e2, e3, e4] X.env = (false, eval e2 X.env) :: starEach [e3, e4] X.env := by rfl)
    (he3 : starEach [e3, e4] X.env = (false, eval e3 X.env) :: starEach [e4] X.env := by rfl) (he4 : starEach [e4] X.env = (false, eval e4 X.env) :: starEach [] X.env := by rfl) (hpl : (backTo pos (starEach [e2, e3, e4] X.env)).any (·.1) = false := by rfl) : EvR X (.Call (.Name n p) [e1, e2, e3, e4] [] pos) σ H :=
  evR_call c hr hg tk s0 (ea_cons h1 (ea_cons h2 (ea_cons h3 (ea_cons h4 ea_nil he4) he3) he2) he) (fun G1 H1 vs Q x ⟨v, r, e, rv, v2, r2, e', rv2, v3, r3, e'', rv3, v4, r4, e3', rv4, e4'⟩ => ⟨G1, v, v2, v3, v4, x1, x2, x3, x4, by rw [e, e', e'', e3', e4'], x.s, rv, rv2, rv3, rv4, hp, fun G2 H2 y => w G2 H2 (x.trans y)⟩) hdb he hpl
end sps
/-! ### try: body / except x as n: suite -/
theorem s_try {x n : Str} {c : Value} {i : Nat} {np pos' : Pos} (hs : X.stack = X.env :: X.outer) (hf : X.env.frame = some X.env.locals) (hN : X.N.Nodup) (hi : X.N[i]? = some n) (hln : X.env.kindOf n = some .local) (hc : Names X x c)
    (h : ∀ (pn : List (Addr × Obj)) (xe : Value → Shared → Prop) (W : WX),
      (∀ cls τ H', PySem.W.exmOne X.K (.ref cls) c = some true → (∀ a oe pn', H' a = none → Zc (.ref cls) none oe → (∃ vs, oe.data = .fields vs) →
        tSs (X.suite a ((a, oe) :: pn')) (b0 :: suite) { nx := fun σ' H' => D.nx (σ'.set i none) H', rt := D.rt, bk := fun σ' H' => D.bk (σ'.set i none) H', ct := fun σ' H' => D.ct (σ'.set i none) H' } (τ.set i (some (.ref a))) H') → W (.ref cls) none τ H') →
      Takes (X.tr pn xe) W → PassesOwn (model X.prog X.w) X.A X.env xe → tSs (X.tr pn xe) body D σ H) :
    tS X (.Try body [.ExceptHandler (some (.Name x np)) (some n) (b0 :: suite) pos'] [] [] pos) D σ H :=
  s_of (ps_try_as (i := i) (c := c) (Wout := fun _ _ _ _ => False)
    (tb := fun W D σ H => ∀ pn xe, Takes (X.tr pn xe) W → PassesOwn (model X.prog X.w) X.A X.env xe → tSs (X.tr pn xe) body D σ H)
    (ts := fun a cls d D σ H => ∀ oe pn, Zc cls d oe → (∃ vs, oe.data = .fields vs) → tSs (X.suite a ((a, oe) :: pn)) (b0 :: suite) D σ H)
    hs hf hN hi hln hc takes0 (fun W pn xe tk po => ⟨fun pins s σ H D I q => (q pn xe tk po).run pins s I⟩) (fun a oe cls d pn hz hv => ⟨fun pins s σ H D I q => (q oe pn hz hv).run pins s I⟩))
    fun pn xe tk po => h pn xe _ (fun cls τ H' hx k => ⟨true, hx, fun _ a ha oe pn' hz hv => k a oe pn' ha hz hv, fun z => nomatch z⟩) tk po
/-! ### the error in hand, asked -/
/-- isinstance(e, c), where e's object is pinned -/
theorem cr_isE {a C : Addr} {oe : Obj} (c : ExcC X.K C) (hz : Zc (.ref C) none oe) (hf : ∃ vs, oe.data = .fields vs) (hp : (a, oe) ∈ X.pn) : CallR X (.builtin "isinstance") (rIsE X.K C a) := by
  rintro pins s σ H xs us Q I r ⟨u, cv, y, rfl, hcv, k, q⟩
  rcases r with _ | ⟨rx, _ | ⟨rt, _ | _⟩⟩
  cases rx
  cases hcv _ rt
  have P := (I.pin (a, oe) (List.mem_append_left _ hp)).1
  rcases oe with ⟨oc, od, oda, osl⟩
  rcases hf with ⟨vs, rfl⟩
  rcases hz with ⟨rfl, rfl⟩
  exact PySem.W.kia_one (PySem.W.handS_kitx_exc c.hg c.hk c.hs c.hd c.ha c.hn c.ht c.hm) I.kIn (⟨P, rfl, rfl, trivial⟩ : PySem.W.InstAt s.heap a _ C none) k (fun z => nomatch z) fun tk => ⟨.bl y, H, I.kept (t' := tk) fun _ _ z => z, rfl, q⟩
theorem ev_isE {a C : Addr} {oe : Obj} {u : V} {cv : Value} {y : Bool} (B : Bl X "isinstance") (c : ExcC X.K C) (hz : Zc (.ref C) none oe) (hf : ∃ vs, oe.data = .fields vs) (hp : (a, oe) ∈ X.pn) (h1 : Ev X e σ G H (V.ref a)) (h2 : Ev X b σ G H u) (hu : ∀ z, RelV u z → z = cv)
    (k : PySem.W.kitOne X.K (.ref C) cv = some y) (he : starEach [e, b] X.env = (false, eval e X.env) :: starEach [b] X.env := by rfl) (he2 : starEach [b] X.env = (false, eval b X.env) :: starEach [] X.env := by rfl)
    (hpl : (backTo pos (starEach [b] X.env)).any (·.1) = false := by rfl) : Ev X (.Call (.Name "isinstance" p) [e, b] [] pos) σ G H y :=
  ev_callB (cr_isE c hz hf hp) B.g B.m PyProof.Rows.boot_isinstance (ea_cons h1 (ea_cons h2 ea_nil he2) he) (fun G1 H1 vs x l ⟨v, r, e1, pv, v2, r2, e2, pv2, e3⟩ Q q =>
    ⟨u, cv, y, by rw [e1, e2, e3, show v = _ from pv, show v2 = _ from pv2], hu, k, q G1 H1 _ (Ext.refl x.s) rfl⟩) (by decide) (by decide) he hpl
/-- a def of one argument, asked of an error of the class C while that is in hand, hands back y -/
structure FlE (P : Program) (w : World) (K : PySem.W.Frag) (mg : Str → Option Value) (base : Heap) (k : Nat) (n : Str) (C : Addr) {β : Type} [Rep β] (y : β) : Prop where
  ex : ∃ (f : Addr) (fd : FuncData) (x : Str), mg n = some (.ref f) ∧ PySem.W.keepIn K (.ref f) = true ∧ Binds K fd [x] [] ∧
    ∀ (A : Around) (outer : List Env) (s : Shared) (H : Hp) (args : Args) (Q : VK) (a : Addr) (oe : Obj), L2H.RoomH k A → L2H.PinOk outer H s (a, oe) → Zc (.ref C) none oe → (∃ vs, oe.data = .fields vs) → Env0 P w K mg base A outer s H → BindsTo s fd args [(x, .ref a)] →
      (∃ G, Same G H ∧ ∀ G2 H2 v, Ext G H G2 H2 → rep K G2 v y → Q v H2) → codeAny (model P w) A (.call (.ref f) args) (CR (L2.CX P w) outer P w H s Q (fun _ _ _ => False)) s
theorem ev_flE {β : Type} [Rep β] {y : β} {k i : Nat} {n en : Str} {a C : Addr} {oe : Obj} {pe : Pos} (c : FlE X.prog X.w X.K X.mg X.base k n C y) (hr : L2H.RoomH k X.A) (hg : Gl X n) (hz : Zc (.ref C) none oe) (hf : ∃ vs, oe.data = .fields vs) (hp : (a, oe) ∈ X.pn)
    (sl : Sl X i en) (h0 : σ[i]? = some (some (.ref a)) := by rfl) (hdb : (n == ("__debug__" : Str)) = false := by decide) (he : starEach [.Name en pe] X.env = (false, eval (.Name en pe) X.env) :: starEach [] X.env := by rfl) :
    Ev X (.Call (.Name n p) [.Name en pe] [] pos) σ G H y := by
  obtain ⟨f, fd, x, hm, hk, hb, run⟩ := c.ex
  intro G1 H1 x1 Q q
  refine tE_lenF fun pins s I => wpAny_Call_Name_kw (ld_glob I hg hm ?_ hdb)
  refine PySem.W.callWith_K (h₀ := X.base) I.ok.mod.kin hk (thn ((pa_cons (pe_var sl.hN sl.hv sl.nm.hd sl.nm.hcd) pa_nil he).run pos pins s σ H1 (fun vs H2 => vs = [.ref a] ∧ H2 = H1) I ⟨_, h0, rfl, rfl⟩) fun us s1 z => ?_) he rfl
  obtain ⟨vs, H2, I2, r, rfl, rfl⟩ := z
  refine ⟨I2.kIn, ?_⟩
  rcases r with _ | ⟨ra, _ | _⟩
  cases ra
  have pk := I2.pin (a, oe) (List.mem_append_left _ hp)
  have b := hb s1 [.ref a] I2.kIn rfl
  refine wpAny_call (codeAny_mono (run X.A X.stack s1 H2 _ (fun v H' => HLen H' → Q v H') a oe hr ⟨pk.1, pk.2.1, fun z => (List.mem_cons.mp (I2.stkSub a z)).elim pk.2.2.1 pk.2.2.2.1, pk.2.2.2.2⟩ hz hf I2.env0 (by simpa using b)
    ⟨G1, x1.s, fun G2 H2 v x2 rv l => q G2 H2 v x2 l rv⟩) fun fr s2 z => ?_)
  rcases fr with e | fl
  · exact (cx_no z).elim
  · rcases fl with _ | u
    all_goals first | exact I2.after z | exact z.elim
end
/-- .. by its body -/
theorem flE_of {P : Program} {w : World} {K : PySem.W.Frag} {mg : Str → Option Value} {base : Heap} {x n : Str} {st : Stmt} {f : Addr} {fd : FuncData} {N : List Str} {k : Nat} {C : Addr} {β : Type} [Rep β] {y : β} (F : Fun K n n st f fd) (hm : mg n = some (.ref f)) (hb : Binds K fd [x] []) (S : FnScope N [x] (defScope st))
    (body : ∀ (cdv : Value) (A : Around) (outer : List Env) (s : Shared) (H : Hp) (a : Addr) (oe : Obj) (G : Hp) (D : Ends), Zc (.ref C) none oe → (∃ vs, oe.data = .fields vs) → Same G H → End K false G H y D →
      tSs (L2H.cxH (L2.CX P w) P w K mg base N n (defScope st) f cdv A outer s H (fun _ _ _ => False) (a, oe)) (defBody st) D (start N [.ref a]) H) : FlE P w K mg base (k + 1) n C y := by
  obtain ⟨oc, od, kV, dc, pm, an, cdv, ct, osl, rfl, lk, hcd⟩ := F.ex
  refine ⟨f, _, x, hm, F.kp, hb, fun A outer s H args Q a oe hr pk hz hv E0 bt ⟨G, s0, q⟩ => ?_⟩
  have kin := E0.mod.kin.keeps fun b o z => (E0.bs b o z).1
  have lim := E0.mod.nolimit.keeps fun b o z => (E0.bs b o z).1
  have knd : ∀ z ∈ [(x, Value.ref a)], (defScope st).names.lookup z.1 = some .local ∨ ((defScope st).names.lookup z.1 = some .cell ∧ ((cellsFrom (s.heap.objs.size + 1) (defScope st).names []).lookup z.1).isSome = true) := fun z hz => by
    cases List.mem_singleton.mp hz
    exact (S.par x (List.mem_singleton.mpr rfl)).imp id fun t => ⟨t, PySem.W.cellsFrom_some _ _ _ (.inl t)⟩
  refine codeAny_call_function hr.depth (kin _ _ lk) rfl S.co S.gen rfl (PySem.W.codeRec_of kin hcd) (bt _ _ _ _ (wpAny_newFunctionEnv_cells S.kind knd fun env en s1 z => ?_))
  subst en
  refine ⟨lim.keeps z.toInCall.keep, codeAny_func ?_⟩
  have I : Inv (L2H.cxH (L2.CX P w) P w K mg base N n (defScope st) f cdv A outer s H (fun _ _ _ => False) (a, oe)) [] (start N [.ref a]) H s1 := L2H.inv_startH S pk E0 (show [V.ref a].length = [x].length from rfl) (.cons rfl .nil) z
  refine wpAny_mono (body cdv A outer s H a oe G _ hz hv s0 (end_of fun G2 H2 v x r _ => q G2 H2 v x r) |>.run [] s1 I) (fun fl s2 t => ?_) fun _ _ t => t
  rcases fl with _ | u | _ | _
  all_goals first
    | (obtain ⟨v, τ, H', J, rv, t⟩ := t; exact ⟨v, H', J.os, J.bare, J.base, J.hok, rv, t⟩)
    | (obtain ⟨τ, H', J, t⟩ := t; exact ⟨.non, H', J.os, J.bare, J.base, J.hok, rfl, t⟩)
    | (obtain ⟨_, _, _, t⟩ := t; exact t.elim)
/-! ### defs that refuse, by their bodies -/
section
variable {P : Program} {w : World} {K : PySem.W.Frag} {mg : Str → Option Value} {base : Heap} {x : Str} {st : Stmt} {f C : Addr} {fd : FuncData} {N ps : List Str} {k : Nat} {α β γ δ : Type} [Rep α] [Rep β] [Rep γ] [Rep δ]
theorem fnR1 {pre : α → Prop} (F : Fun K x x st f fd) (hm : mg x = some (.ref f)) (hb : Binds K fd ps []) (S : FnScope N ps (defScope st)) (hl : ps.length = 1)
    (body : ∀ (cdv : Value) (A : Around) (outer : List Env) (s : Shared) (H : Hp) (E : XK), Room k (A.deeper (envOfC x (defScope st) s.heap.objs.size f cdv)) → ∀ (G : Hp) (v1 : V) (x1 : α) (D : Ends), Same G H → rep K G v1 x1 → pre x1 → (∀ G2 H2, Ext G H G2 H2 → E (.ref C) none H2) →
      tSs (cxOf (L2.CX P w) P w K mg base N x (defScope st) f cdv A outer s H E) (defBody st) D (start N [v1]) H) : Cal P w K mg base (k + 1) x (SpR1 K pre C) :=
  cal_of F hm hb S (fun vs H Q E h => by obtain ⟨_, _, _, rfl, _⟩ := h; exact hl.symm) fun cdv A outer s H vs Q E hr h => by
    obtain ⟨G, v1, x1, rfl, s0, r1, hp, q⟩ := h
    exact body cdv A outer s H E hr G v1 x1 _ s0 r1 hp q
theorem fnR2 {pre : α → β → Prop} (F : Fun K x x st f fd) (hm : mg x = some (.ref f)) (hb : Binds K fd ps []) (S : FnScope N ps (defScope st)) (hl : ps.length = 2)
    (body : ∀ (cdv : Value) (A : Around) (outer : List Env) (s : Shared) (H : Hp) (E : XK), Room k (A.deeper (envOfC x (defScope st) s.heap.objs.size f cdv)) → ∀ (G : Hp) (v1 v2 : V) (x1 : α) (x2 : β) (D : Ends), Same G H → rep K G v1 x1 → rep K G v2 x2 → pre x1 x2 → (∀ G2 H2, Ext G H G2 H2 → E (.ref C) none H2) →
      tSs (cxOf (L2.CX P w) P w K mg base N x (defScope st) f cdv A outer s H E) (defBody st) D (start N [v1, v2]) H) : Cal P w K mg base (k + 1) x (SpR2 K pre C) :=
  cal_of F hm hb S (fun vs H Q E h => by obtain ⟨_, _, _, _, _, rfl, _⟩ := h; exact hl.symm) fun cdv A outer s H vs Q E hr h => by
    obtain ⟨G, v1, v2, x1, x2, rfl, s0, r1, r2, hp, q⟩ := h
    exact body cdv A outer s H E hr G v1 v2 x1 x2 _ s0 r1 r2 hp q
theorem fnR3 {pre : α → β → γ → Prop} (F : Fun K x x st f fd) (hm : mg x = some (.ref f)) (hb : Binds K fd ps []) (S : FnScope N ps (defScope st)) (hl : ps.length = 3)
    (body : ∀ (cdv : Value) (A : Around) (outer : List Env) (s : Shared) (H : Hp) (E : XK), Room k (A.deeper (envOfC x (defScope st) s.heap.objs.size f cdv)) → ∀ (G : Hp) (v1 v2 v3 : V) (x1 : α) (x2 : β) (x3 : γ) (D : Ends), Same G H → rep K G v1 x1 → rep K G v2 x2 → rep K G v3 x3 → pre x1 x2 x3 → (∀ G2 H2, Ext G H G2 H2 → E (.ref C) none H2) →
      tSs (cxOf (L2.CX P w) P w K mg base N x (defScope st) f cdv A outer s H E) (defBody st) D (start N [v1, v2, v3]) H) : Cal P w K mg base (k + 1) x (SpR3 K pre C) :=
  cal_of F hm hb S (fun vs H Q E h => by obtain ⟨_, _, _, _, _, _, _, rfl, _⟩ := h; exact hl.symm) fun cdv A outer s H vs Q E hr h => by
    obtain ⟨G, v1, v2, v3, x1, x2, x3, rfl, s0, r1, r2, r3, hp, q⟩ := h
    exact body cdv A outer s H E hr G v1 v2 v3 x1 x2 x3 _ s0 r1 r2 r3 hp q
theorem fnR4 {pre : α → β → γ → δ → Prop} (F : Fun K x x st f fd) (hm : mg x = some (.ref f)) (hb : Binds K fd ps []) (S : FnScope N ps (defScope st)) (hl : ps.length = 4)
    (body : ∀ (cdv : Value) (A : Around) (outer : List Env) (s : Shared) (H : Hp) (E : XK), Room k (A.deeper (envOfC x (defScope st) s.heap.objs.size f cdv)) → ∀ (G : Hp) (v1 v2 v3 v4 : V) (x1 : α) (x2 : β) (x3 : γ) (x4 : δ) (D : Ends), Same G H → rep K G v1 x1 → rep K G v2 x2 → rep K G v3 x3 → rep K G v4 x4 → pre x1 x2 x3 x4 → (∀ G2 H2, Ext G H G2 H2 → E (.ref C) none H2) →
      tSs (cxOf (L2.CX P w) P w K mg base N x (defScope st) f cdv A outer s H E) (defBody st) D (start N [v1, v2, v3, v4]) H) : Cal P w K mg base (k + 1) x (SpR4 K pre C) :=
  cal_of F hm hb S (fun vs H Q E h => by obtain ⟨_, _, _, _, _, _, _, _, _, rfl, _⟩ := h; exact hl.symm) fun cdv A outer s H vs Q E hr h => by
    obtain ⟨G, v1, v2, v3, v4, x1, x2, x3, x4, rfl, s0, r1, r2, r3, r4, hp, q⟩ := h
    exact body cdv A outer s H E hr G v1 v2 v3 v4 x1 x2 x3 x4 _ s0 r1 r2 r3 r4 hp q
end
end RL
namespace RL
open PySem PySem.Spec PyProof.Rows L2 Rep
theorem evR_sum {X : Cx} {σ : St} {H : Hp} {e : Expr} {pos p : Pos} (B : Bl X "sum") (hc : X.calm = true) (h : EvR X e σ H) (he : starEach [e] X.env = (false, eval e X.env) :: starEach [] X.env := by rfl) : EvR X (.Call (.Name "sum" p) [e] [] pos) σ H := fun Q => .mk fun pins s I =>
  (pe_callB (cr_sum hc) B.g B.m boot_sum (pa_cons pe_sem pa_nil he) (by decide) (by decide) he rfl).run pins s σ H Q I (h _)
end RL

set_option Elab.async false
set_option linter.all false
set_option maxRecDepth 100000
set_option maxHeartbeats 4000000
/-! RD: dicts of ints or of pairs of ints as data: copied, displayed, walked by their keys. -/
namespace L2
open PySem PySem.Spec PyProof.Rows
abbrev edict : Obj := { cls := .type "dict", data := .dict #[] }
theorem upd_twice {H : Hp} {a : Addr} {u v : HO} : upd (upd H a u) a v = upd H a v := by
  funext b
  by_cases h : b = a
  · subst h; rw [upd_same, upd_same]
  · rw [upd_ne h, upd_ne h, upd_ne h]
theorem dt_new {P : Program} {w : World} {H : Hp} {h : Heap} {a : Addr} {kvs : List (List Key × V)} {xs : List (List Key × Addr × Value)} (z : kvs.length ≤ sizeLine) (hd : (a == sysModules) = false) (r : KT H kvs xs) (d : h.DictOfH (tupleKind (mixKind P w)) a xs) : ObjOk P w H h a (.dT kvs) :=
  let ⟨o, es, ep, e1, e2, e3, e4, _, e6⟩ := d; ⟨z, hd, xs, r, o, es, ep, e1, e2, e3, e4, e6⟩
/-- dict(d), d's keys tuples whose hashes differ -/
def rDictT (P : Program) (w : World) : List V → Hp → VK → Prop := fun xs H Q => ∃ (a : Addr) (kvs : List (List Key × V)), xs = [.ref a] ∧ Rd H a (.dT kvs) ∧ (kvs.map fun kv => tupleKeyHash (mixKind P w) kv.1).Nodup ∧ ∀ p, H p = none → Q (.ref p) (upd H p (.dT kvs))
theorem kt_keys {H : Hp} : ∀ {kvs : List (List Key × V)} {xs : List (List Key × Addr × Value)}, KT H kvs xs → xs.map (·.1) = kvs.map (·.1)
  | _, _, .nil => rfl
  | _, _, .cons h t => by rw [List.map_cons, List.map_cons, kt_keys t, h.1]
theorem kt_at {H : Hp} : ∀ {kvs : List (List Key × V)} {xs : List (List Key × Addr × Value)}, KT H kvs xs → ∀ x ∈ xs, H x.2.1 = some (.tup (x.1.map kV))
  | _, _, .nil, _, hx => by cases hx
  | _, _, .cons h t, x, hx => by
    rcases List.mem_cons.mp hx with rfl | hx
    · rw [← h.1]; exact h.2.1
    · exact kt_at t x hx
theorem cr_dictT {X : Cx} (hu : X.A.units + 64 < cLine) : CallR X (.type "dict") (rDictT X.prog X.w) := by
  rintro pins s σ H xs us Q I r ⟨a, kvs, rfl, hd, hh, q⟩
  rw [Vals.ref1 r]
  have nn : H s.heap.objs.size = none := I.hok.fresh (Nat.le_refl _)
  have na : a ≠ s.heap.objs.size := fun z => by rcases hd with h | ⟨o, h⟩ <;> rw [z, nn] at h <;> cases h
  have I1 := I.laid (a := s.heap.objs.size) (o := .dT []) (h' := s.heap.push edict) (t' := s.toks) (fun _ _ q => Heap.get?_push_of_some _ q) (Nat.le_refl _) (dt_empty s.heap I.big)
  have hd1 : Rd (upd H s.heap.objs.size (.dT [])) a (.dT kvs) := hd.imp (fun h => by rw [upd_ne na]; exact h) fun ⟨o, h⟩ => ⟨o, by rw [upd_ne na]; exact h⟩
  obtain ⟨z, lo, vs, rel, dd⟩ := dt_rd I1.hok hd1
  have hm : (s.heap.objs.size == sysModules) = false := beq_eq_false_iff_ne.mpr (Nat.ne_of_gt I.big)
  have n0 := Heap.DictOfH.new (knd := tupleKind (mixKind X.prog X.w)) s.heap
  have hl : vs.length = kvs.length := by have := congrArg List.length (kt_keys rel); simpa using this
  refine callType_codes (Q₁ := fun v t => v = .ref s.heap.objs.size ∧ t = { s with heap := s.heap.push edict }) F.kt_called_dict (F.kt_typeCall_dict_1 _) F.entry_dict_init (kt_code_dict_new _ ⟨rfl, rfl⟩) ?_
  rintro _ _ ⟨rfl, rfl⟩
  refine ⟨n0.typeIs, F.args_dict_init_2 _ _, ?_⟩
  unfold Builtin.«dict.__init__»; refine wpAny_bind ?_; unfold Builtin.Dict.selfAndRest
  refine wpAny_bind (wpAny_notOrdered_dict n0.typeIs ?_)
  show wpAny _ _ (pure (s.heap.objs.size, [Value.ref a])) _ _ _
  refine wpAny_pure ?_
  show wpAny _ X.A.in1.in1 (Builtin.Dict.updateFrom "dict.__init__" s.heap.objs.size (.ref a) [] .none) _ _ _
  refine updateFrom_dictH (A := X.A.in1) (knd := tupleKind (mixKind X.prog X.w)) .none ?_ (Ne.symm na) lo n0 dd (.inr ⟨fun x hx => ?_, ?_⟩) (by rw [hl]; simpa using z) fun h' d' _ sb => ?_
  · show X.A.in1.in1.units < cLine
    simp only [units_in1]
    omega
  · exact (key_of I1.hok (kt_at rel x hx)).typeIs
  · have e : (vs.map fun x => (tupleKind (mixKind X.prog X.w)).hash x.1) = (vs.map (·.1)).map (tupleKeyHash (mixKind X.prog X.w)) := by rw [List.map_map]; rfl
    rw [e, kt_keys rel, List.map_map]
    exact hh
  · rw [storedAllH_nil_of_nodup vs dd.nodup] at d'
    have he : ∃ u, h'.get? s.heap.objs.size = some u := let ⟨u, _, _, g, _⟩ := d'; ⟨u, g⟩
    have rel2 : KT (upd (upd H s.heap.objs.size (.dT [])) s.heap.objs.size (.dT kvs)) kvs vs := KT.keeps rel fun b ys e => by
      rw [upd_ne fun c => by rw [c, upd_same] at e; cases e]; exact e
    have J := d_write (t' := s.toks) I1 (by rw [upd_same]; exact True.intro) sb he (dt_new z hm rel2 d')
    rw [upd_twice] at J
    exact ⟨rfl, .ref s.heap.objs.size, _, J, rfl, q _ nn⟩
/-- {k: v}, k a tuple -/
theorem pe_disp1T {X : Cx} {k v : Expr} {tk tv : TE} {pos : Pos} (hu : X.A.units + 64 < cLine) (hk : PE X k tk) (hv : PE X v tv) : PE X (.Dict [some k] [v] pos) (fun σ H Q => ∀ p, H p = none → tk σ (upd H p (.dT [])) fun x H1 => tv σ H1 fun y H2 =>
    H2 p = some (.dT []) ∧ ∃ (b : Addr) (ks : List Key), x = .ref b ∧ H2 b = some (.tup (ks.map kV)) ∧ Q (.ref p) (upd H2 p (.dT [(ks, y)]))) := by
  refine ⟨fun pins s σ H Q I q => ?_⟩
  have I1 := I.laid (a := s.heap.objs.size) (o := .dT []) (h' := s.heap.push edict) (t' := s.toks) (fun _ _ q => Heap.get?_push_of_some _ q) (Nat.le_refl _) (dt_empty s.heap I.big)
  have hm : (s.heap.objs.size == sysModules) = false := beq_eq_false_iff_ne.mpr (Nat.ne_of_gt I.big)
  rw [arm_eval_Dict, zip_pairTrees [some k] [v] X.env pos rfl rfl, dictDisplay_pairs _ (by simp [pairTrees]) (by simp [pairTrees])]
  refine wpAny_bind (wpAny_standAt (wpAny_bind (wpAny_subDictH (knd := tupleKind (mixKind X.prog X.w)) (Q := fun d s' => wpAny (model X.prog X.w) X.A (pure (Value.ref d)) (EP X pins σ Q) X.xe s') (by show X.A.units < cLine; omega) (by simp [pairTrees]) ?_)))
  refine pairTrees_cons_walk (thn (hk.run pins _ σ _ _ I1 (q _ (I.hok.fresh (Nat.le_refl _)))) fun u s1 ⟨x, H1, I2, rx, q1⟩ => thn (hv.run pins s1 σ H1 _ I2 q1) fun u2 s2 ⟨y, H2, I3, ry, e, b, ks, ex, eb, q2⟩ => pairTrees_nil_walk ?_)
  subst ex
  obtain rfl : u = Value.ref b := rx
  obtain ⟨_, _, vs, rel, dd⟩ := dt_of I3.hok e
  cases rel
  refine ⟨[(ks, b, u2)], ⟨rfl, rfl, key_of I3.hok eb, trivial⟩, dd, fun h' tk d' sb => wpAny_pure ⟨.ref s.heap.objs.size, _, ?_, rfl, q2⟩⟩
  have nb : b ≠ s.heap.objs.size := fun z => by rw [z, e] at eb; cases eb
  have he : ∃ u, h'.get? s.heap.objs.size = some u := let ⟨u, _, _, g, _⟩ := d'; ⟨u, g⟩
  exact d_write I3 (by rw [e]; exact True.intro) sb he (dt_new (by show 1 ≤ sizeLine; rw [sizeLine_eq]; decide) hm (.cons ⟨rfl, by rw [upd_ne nb]; exact eb, ry⟩ .nil) d')
end L2
namespace RL
open PySem PySem.Spec PyProof.Rows L2 Rep
theorem tE_imp {X : Cx} {e : Expr} {σ : St} {H : Hp} {Q Q' : VK} (h : tE X e σ H Q) (k : ∀ v H', Q v H' → Q' v H') : tE X e σ H Q' := ⟨fun pins s I => thn (h.run pins s I) fun _ _ ⟨v, H', I', r, q⟩ => ⟨v, H', I', r, k _ _ q⟩⟩
/-- kinds of keys: how such a dict is copied, displayed, walked -/
class DKeyC (κ : Type) [Rep κ] [DecidableEq κ] [DKey κ] where
  hok : Program → World → List κ → Prop
  copy : ∀ {X : Cx}, X.A.units + 64 < cLine → CallR X (.type "dict") (fun xs H Q => ∃ (a : Addr) (ps : List (κ × V)), xs = [.ref a] ∧ Rd H a (DKey.obj ps) ∧ hok X.prog X.w (ps.map (·.1)) ∧ ∀ p, H p = none → Q (.ref p) (upd H p (DKey.obj ps)))
  disp : ∀ {X : Cx} {k v : Expr} {pos : Pos}, X.A.units + 64 < cLine → PE X (.Dict [some k] [v] pos) (fun σ H Q => ∀ p, H p = none → tE X k σ (upd H p (DKey.obj ([] : List (κ × V)))) fun x H1 => tE X v σ H1 fun y H2 =>
    H2 p = some (DKey.obj ([] : List (κ × V))) ∧ ∃ (G : Hp) (key : κ), Same G H2 ∧ rep X.K G x key ∧ Q (.ref p) (upd H2 p (DKey.obj [(key, y)])))
  it : Addr → Obj → List (κ × V) → It
  lift : ∀ {H : Hp} {a : Addr} {o : Obj} {ps : List (κ × V)} {R : It → Hp → Prop}, H a = some (.frz o (DKey.obj ps)) → R (it a o ps) H → ((∃ kvs, H a = some (.frz o (.dK kvs)) ∧ R (Itk a o kvs) H) ∨ ∃ kvs, H a = some (.frz o (.dT kvs)) ∧ R (Itkt a o kvs) H)
  walk : ∀ {K : PySem.W.Frag} {G : Hp} {a : Addr} {o : Obj} {ps : List (κ × V)}, G a = some (.frz o (DKey.obj ps)) → WalkOf K (it a o ps) G (ps.map (·.1))
instance : DKeyC Int where
  hok _ _ _ := True
  copy _ := by
    rintro pins s σ H xs us Q I r ⟨a, ps, rfl, hd, _, q⟩
    exact call_dictD pins s σ H _ us Q I r ⟨a, _, rfl, hd, q⟩
  disp {X k v pos} hu := ⟨fun pins s σ H Q I q => (pe_disp (keys := [some k]) (values := [v]) (pps_cons pe_sem pe_sem pps_nil) rfl rfl (fun z => by cases z) (by show 1 ≤ 15; decide)).run pins s σ H Q I fun p hp =>
    tE_imp (q p hp) fun x H1 h => tE_imp h fun y H2 ⟨e, G, key, s2, r, q⟩ => ⟨e, [(Sum.inl key, y)], by rw [show x = V.int key from r]; rfl, by show 1 ≤ 15; decide, q⟩⟩
  it a o ps := Itk a o (ps.map fun p => (Sum.inl p.1, p.2))
  lift h r := .inl ⟨_, h, r⟩
  walk {K G a o ps} g := fun G' H' s1 s2 => by
    have e : H' a = some (.frz o (.dK (ps.map fun p => (Sum.inl p.1, p.2)))) := s2 _ _ (s1 _ _ g)
    refine ⟨fun i hi => ⟨e, by simpa using hi⟩, ⟨e, by simp⟩, fun i x v H'' hx y => ?_⟩
    obtain ⟨rfl, k, w, hk, rfl⟩ := y
    refine ⟨G', Ext.refl s2, ?_⟩
    rw [List.getElem?_map] at hx hk
    cases q : ps[i]? with
    | none => rw [q] at hx; cases hx
    | some p =>
      rw [q] at hx hk
      cases hx
      cases hk
      rfl
instance : DKeyC (Int × Int) where
  hok P w ks := (ks.map fun k => tupleKeyHash (mixKind P w) [Sum.inl k.1, Sum.inl k.2]).Nodup
  copy hu := by
    rintro pins s σ H xs us Q I r ⟨a, ps, rfl, hd, hh, q⟩
    refine cr_dictT hu pins s σ H _ us Q I r ⟨a, _, rfl, hd, ?_, q⟩
    rw [List.map_map] at hh ⊢
    exact hh
  disp {X k v pos} hu := ⟨fun pins s σ H Q I q => (pe_disp1T hu pe_sem pe_sem).run pins s σ H Q I fun p hp =>
    tE_imp (q p hp) fun x H1 h => tE_imp h fun y H2 ⟨e, G, key, s2, r, q⟩ => by
      obtain ⟨b, u, w, rfl, g, p1, p2⟩ := r
      have p1 : u = V.int key.1 := p1
      have p2 : w = V.int key.2 := p2
      subst p1 p2
      exact ⟨e, b, [Sum.inl key.1, Sum.inl key.2], rfl, s2 _ _ g, q⟩⟩
  it a o ps := Itkt a o (ps.map fun p => ([Sum.inl p.1.1, Sum.inl p.1.2], p.2))
  lift h r := .inr ⟨_, h, r⟩
  walk {K G a o ps} g := fun G' H' s1 s2 => by
    have e : H' a = some (.frz o (.dT (ps.map fun p => ([Sum.inl p.1.1, Sum.inl p.1.2], p.2)))) := s2 _ _ (s1 _ _ g)
    refine ⟨fun i hi => ⟨e, by simpa using hi⟩, ⟨e, by simp⟩, fun i x v H'' hx y => ?_⟩
    obtain ⟨rfl, k, w, q, hk, rfl, hq⟩ := y
    obtain ⟨G'', x2, _, g2⟩ := (Ext.refl s2).tup hq
    refine ⟨G'', x2, ?_⟩
    rw [List.getElem?_map] at hx hk
    cases z : ps[i]? with
    | none => rw [z] at hx; cases hx
    | some p =>
      rw [z] at hx hk
      cases hx
      cases hk
      exact ⟨q, _, _, rfl, g2, rfl, rfl⟩
section
variable {X : Cx} {σ : St} {G H : Hp} {P : PV} {e a b tg : Expr} {pos p p2 : Pos} {D : Ends} {κ α : Type} {r1 : Rep κ} {dk : DecidableEq κ} {k1 : DKey κ} {r2 : Rep α}
/-- a new thing is locked at once -/
theorem tE_lock {Q : VK} (h : tE X e σ H fun v H' => ∃ d u, v = .ref d ∧ H' d = some u ∧ Mut (some u) ∧ ∀ od, Q v (upd H' d (.frz od u))) : tE X e σ H Q := .mk fun pins s I => thn (h.run pins s I) fun _ _ ⟨v, H', I', r, d, u, _, hd, mu, q⟩ =>
  let ⟨od, I2⟩ := I'.lock hd mu; ⟨v, _, I2, r, q od⟩
/-- {k: v} -/
theorem ev_disp1 [kc : DKeyC κ] {x : κ} {y : α} (hu : X.A.units + 64 < cLine) (ha : Ev X a σ G H x) (hb : Ev X b σ G H y) : Ev X (.Dict [some a] [b] pos) σ G H (⟨[(x, y)]⟩ : Dct κ α) := fun G1 H1 x1 Q q =>
  tE_len (tE_lock <| .mk fun pins s I => (kc.disp hu).run pins s σ H1 _ I fun p hp => by
    have x2 : Ext G1 H1 G1 (upd H1 p (DKey.obj ([] : List (κ × V)))) := (Ext.refl x1.s).newH hp
    refine ha G1 _ (x1.trans x2) _ fun G3 H3 u x3 _ ru => hb G3 H3 ((x1.trans x2).trans x3) _ fun G4 H4 w x4 l4 rw' => ⟨x4.h _ _ (x3.h _ _ upd_same), G4, x, x4.s, up x4.g ru, p, DKey.obj [(x, w)], rfl, upd_same, DKey.isM _, fun od hl => ?_⟩
    have x5 := (x2.trans x3).trans x4
    have g4 : G4 p = none := (x3.trans x4).off (x1.s.free hp) (upd_same (H := H1) (a := p) (o := DKey.obj ([] : List (κ × V)))) fun xs z => by have := DKey.isM (κ := κ) []; rw [z] at this; exact this
    refine q (upd G4 p (.frz od (DKey.obj [(x, w)]))) _ _ (((x5.wr hp g4).wr hp g4).frz hp upd_same) hl ⟨p, od, [(x, w)], rfl, upd_same, .cons ⟨rfl, up (same_new g4) rw'⟩ .nil⟩)
/-- a dict that stands still -/
class AsLkd (K : PySem.W.Frag) (P : PV) (κ α : outParam Type) (r1 : outParam (Rep κ)) (dk : outParam (DecidableEq κ)) (k1 : outParam (DKey κ)) (r2 : outParam (Rep α)) (d : outParam (Dct κ α)) : Prop where
  lkd : ∀ G H v, P G H v → rep K G v d
instance {K : PySem.W.Frag} {d : Dct κ α} : AsLkd K (Is K d) κ α r1 dk k1 r2 d := ⟨fun _ _ _ h => h⟩
theorem pairD_keys {K : PySem.W.Frag} : ∀ {ps : List (κ × V)} {es : List (κ × α)}, PairD K G ps es → ps.map (·.1) = es.map (·.1)
  | _, _, .nil => rfl
  | _, _, .cons h t => by rw [List.map_cons, List.map_cons, pairD_keys t, h.1]
/-- for k in d -/
theorem ei_keys {d : Dct κ α} [kc : DKeyC κ] [A : AsLkd X.K P κ α r1 dk k1 r2 d] (h : EvP X e σ G H P) : EvI X tg e σ G H (d.kvs.map (·.1)) :=
  ⟨_, pi_keys pe_sem, fun G1 H1 x1 R r => h G1 H1 x1 _ fun G2 H2 v x2 l2 pv => by
    obtain ⟨a, o, ps, e, g, pr⟩ := A.lkd _ _ _ pv
    have hl : d.kvs.length ≤ sizeLine := by
      have z := l2 _ _ (x2.s _ _ g)
      rw [← paired_len pr, ← DKey.len ps]
      exact z
    exact ⟨a, o, e, kc.lift (x2.s _ _ g) (r _ G2 H2 x2 (by rw [List.length_map]; exact hl) (by rw [← pairD_keys pr]; exact kc.walk g))⟩⟩
/-- n = dict(e): a copy, the def's own -/
theorem s_dcopy {d : Dct κ α} [kc : DKeyC κ] [mc : MonoC P] [A : AsDct X.K P κ α r1 dk k1 r2 d] {i : Nat} {n : Str} {cp dp np : Pos} (hN : X.N.Nodup) (sl : Ss X i n) (B : Bl X "dict") (s0 : Same G H) (hu : X.A.units + 64 < cLine) (hok : kc.hok X.prog X.w (d.kvs.map (·.1))) (h : EvP X e σ G H P)
    (k : ∀ G1 H1 q, Ext G H G1 H1 → HLen H1 → H q = none → OwnD X.K G1 H1 q d → D.nx (σ.set i (some (.ref q))) H1) (he : starEach [e] X.env = (false, eval e X.env) :: starEach [] X.env := by rfl)
    (hs : swapsWith (.Call (.Name "dict" dp) [e] [] cp) (some (.Name n np)) pos.line X.env = pure false := by rfl) : tS X (.Assign [.Name n np] (.Call (.Name "dict" dp) [e] [] cp) pos) D σ H :=
  s_of (ps_set hN sl.hN sl.hx pe_sem hs sl.hf) (tE_lenF fun pins s I => (pe_callTy (kc.copy hu) B.g B.m PyProof.Rows.boot_dict (pa_cons pe_sem pa_nil he) (by decide) (by decide) he rfl).run pins s σ H _ I (h G H (Ext.refl s0) _ fun G1 H1 v x _ pv => by
    obtain ⟨a, ps, e, g, pr⟩ := A.dct _ _ _ x.s pv
    refine ⟨a, ps, by rw [e], g, by rw [pairD_keys pr]; exact hok, fun q hq l => ?_⟩
    exact k G1 _ q (x.newH hq) l (x.h.free hq) ⟨⟨ps, upd_same, pr⟩, x.s.free hq⟩))
end
/-- what such a dict's keys hash to -/
def hP (k : Int × Int) : Int := reduceHash (Builtin.Tuple.tupleHashOf [PySem.hashInt k.1, PySem.hashInt k.2])
def boxI (n m : Nat) : List (Int × Int) := (List.range n).flatMap fun (i : Nat) => (List.range m).map fun (j : Nat) => (Int.ofNat i, Int.ofNat j)
def nodupB : List Int → Bool
  | [] => true
  | x :: r => !r.contains x && nodupB r
theorem nodupB_nd : ∀ {l : List Int}, nodupB l = true → l.Nodup
  | [], _ => List.nodup_nil
  | x :: r, h => by
    simp only [nodupB, Bool.and_eq_true, Bool.not_eq_true'] at h
    exact List.nodup_cons.mpr ⟨fun z => (by have := List.contains_iff_mem.mpr z; rw [h.1] at this; cases this), nodupB_nd h.2⟩
theorem box_hash : ((boxI 16 8).map hP).Nodup := nodupB_nd (by decide +kernel)
theorem mem_boxI {n m : Nat} {k : Int × Int} (h1 : 0 ≤ k.1) (h2 : k.1 < n) (h3 : 0 ≤ k.2) (h4 : k.2 < m) : k ∈ boxI n m := by
  refine List.mem_flatMap.mpr ⟨k.1.toNat, List.mem_range.mpr (by omega), List.mem_map.mpr ⟨k.2.toNat, List.mem_range.mpr (by omega), ?_⟩⟩
  obtain ⟨a, b⟩ := k
  simp only at h1 h3 ⊢
  show (((a.toNat : Nat) : Int), ((b.toNat : Nat) : Int)) = (a, b)
  rw [Int.toNat_of_nonneg h1, Int.toNat_of_nonneg h3]
theorem nodup_inj {α β : Type} {f : α → β} : ∀ {l : List α}, (l.map f).Nodup → ∀ x ∈ l, ∀ y ∈ l, f x = f y → x = y
  | [], _, x, hx, _, _, _ => by cases hx
  | a :: r, h, x, hx, y, hy, e => by
    rw [List.map_cons, List.nodup_cons] at h
    rcases List.mem_cons.mp hx with e1 | hx
    · rcases List.mem_cons.mp hy with e2 | hy
      · rw [e1, e2]
      · rw [e1] at e
        exact absurd (e ▸ List.mem_map_of_mem hy) h.1
    · rcases List.mem_cons.mp hy with e2 | hy
      · rw [e2] at e
        exact absurd (e ▸ List.mem_map_of_mem hx) h.1
      · exact nodup_inj h.2 x hx y hy e
theorem nodup_map_on {α β : Type} {f : α → β} : ∀ {l : List α}, l.Nodup → (∀ x ∈ l, ∀ y ∈ l, f x = f y → x = y) → (l.map f).Nodup
  | [], _, _ => List.nodup_nil
  | a :: r, h, k => by
    rw [List.map_cons, List.nodup_cons]
    rw [List.nodup_cons] at h
    refine ⟨fun z => ?_, nodup_map_on h.2 fun x hx y hy => k x (List.mem_cons_of_mem _ hx) y (List.mem_cons_of_mem _ hy)⟩
    obtain ⟨y, hy, e⟩ := List.mem_map.mp z
    exact h.1 (k y (List.mem_cons_of_mem _ hy) a List.mem_cons_self e ▸ hy)
/-- keys of a small box, each once -/
structure Box (ks : List (Int × Int)) : Prop where
  nd : ks.Nodup
  bd : ∀ k ∈ ks, (0 ≤ k.1 ∧ k.1 < 16) ∧ 0 ≤ k.2 ∧ k.2 < 8
theorem Box.hok {P : Program} {w : World} {ks : List (Int × Int)} (h : Box ks) : DKeyC.hok (κ := Int × Int) P w ks :=
  nodup_map_on (f := hP) h.nd fun x hx y hy e =>
    have bx := h.bd x hx
    have by_ := h.bd y hy
    nodup_inj box_hash x (mem_boxI bx.1.1 bx.1.2 bx.2.1 bx.2.2) y (mem_boxI by_.1.1 by_.1.2 by_.2.1 by_.2.2) e
theorem nodup_sub_len {α : Type} [DecidableEq α] : ∀ {l m : List α}, l.Nodup → (∀ x ∈ l, x ∈ m) → l.length ≤ m.length
  | [], _, _, _ => Nat.zero_le _
  | a :: r, m, h, k => by
    rw [List.nodup_cons] at h
    have hm := k a List.mem_cons_self
    have := nodup_sub_len (l := r) (m := m.erase a) h.2 fun x hx => (List.mem_erase_of_ne (show x ≠ a from fun z => h.1 (by rw [← z]; exact hx))).mpr (k x (List.mem_cons_of_mem _ hx))
    rw [List.length_erase_of_mem hm] at this
    have : 0 < m.length := List.length_pos_of_mem hm
    rw [List.length_cons]
    omega
theorem Box.len {ks : List (Int × Int)} (h : Box ks) : ks.length ≤ 128 := nodup_sub_len (m := boxI 16 8) h.nd fun k hk => have b := h.bd k hk; mem_boxI b.1.1 b.1.2 b.2.1 b.2.2
theorem box_one : Box [((0 : Int), (0 : Int))] := ⟨by simp, fun k hk => by rw [List.mem_singleton.mp hk]; decide⟩
theorem dput_keys {κ α : Type} [DecidableEq κ] (kvs : List (κ × α)) (k : κ) (v : α) : (dput kvs k v).map (·.1) = if k ∈ kvs.map (·.1) then kvs.map (·.1) else kvs.map (·.1) ++ [k] := by
  unfold dput
  by_cases h : (kvs.any fun kv => decide (kv.1 = k)) = true
  · have hm : k ∈ kvs.map (·.1) := by
      obtain ⟨p, hp, e⟩ := List.any_eq_true.mp h
      exact List.mem_map.mpr ⟨p, hp, of_decide_eq_true e⟩
    rw [if_pos h, if_pos hm, List.map_map]
    refine List.map_congr_left fun p _ => ?_
    show (if p.1 = k then (p.1, v) else p).1 = p.1
    split <;> rfl
  · have hm : k ∉ kvs.map (·.1) := fun z => by
      obtain ⟨p, hp, e⟩ := List.mem_map.mp z
      exact h (List.any_eq_true.mpr ⟨p, hp, decide_eq_true e⟩)
    rw [if_neg h, if_neg hm, List.map_append]
    rfl
theorem Box.put {α : Type} {kvs : List ((Int × Int) × α)} {k : Int × Int} {v : α} (h : Box (kvs.map (·.1))) (hk : (0 ≤ k.1 ∧ k.1 < 16) ∧ 0 ≤ k.2 ∧ k.2 < 8) : Box ((dput kvs k v).map (·.1)) := by
  rw [dput_keys]
  split
  · exact h
  · rename_i hn
    refine ⟨?_, fun x hx => ?_⟩
    · rw [List.nodup_append]
      refine ⟨h.nd, List.nodup_cons.mpr ⟨by simp, List.nodup_nil⟩, fun a ha b hb z => ?_⟩
      rw [List.mem_singleton.mp hb] at z
      exact hn (z ▸ ha)
    · rcases List.mem_append.mp hx with hx | hx
      · exact h.bd x hx
      · rw [List.mem_singleton.mp hx]; exact hk
end RL

set_option Elab.async false
set_option linter.all false
set_option maxRecDepth 100000
set_option maxHeartbeats 4000000
/-! RG: an own list of own dicts; walks of d.items(); insert. -/
namespace RL
open PySem PySem.Spec PyProof.Rows L2 Rep
theorem gp_imp {α β : Type} {F F' : α → β → Prop} : ∀ {xs : List α} {ys : List β}, (∀ x ∈ xs, ∀ y, F x y → F' x y) → Paired F xs ys → Paired F' xs ys
  | _, _, _, .nil => .nil
  | _, _, h, .cons r t => .cons (h _ List.mem_cons_self _ r) (gp_imp (fun x hx => h x (List.mem_cons_of_mem _ hx)) t)
theorem gp_mem {α β : Type} {F : α → β → Prop} : ∀ {xs : List α} {ys : List β} {x : α}, Paired F xs ys → x ∈ xs → ∃ y, F x y
  | _, _, _, .nil, h => by cases h
  | _, _, _, .cons r t, h => by
    rcases List.mem_cons.mp h with rfl | h
    · exact ⟨_, r⟩
    · exact gp_mem t h
section
variable {κ α : Type} [Rep κ] [DecidableEq κ] [DKey κ] [Rep α] {K : PySem.W.Frag}
theorem OwnD.nl {d : Dct κ α} {G H : Hp} {q : Addr} (o : OwnD K G H q d) : ∀ xs, H q ≠ some (.lst xs) := fun xs z => by
  obtain ⟨ps, e, _⟩ := o.at_
  have l : IsD H q := DKey.isD (κ := κ) (ps := ps) (.inl e)
  rcases l with ⟨kvs, l | ⟨o, l⟩⟩ | ⟨kvs, l | ⟨o, l⟩⟩ <;> rw [z] at l <;> cases l
theorem OwnD.re2 {d : Dct κ α} {G H G' H' : Hp} {q : Addr} (o : OwnD K G H q d) (s : Same G G') (h : H' q = H q) (g : G' q = none) : OwnD K G' H' q d := let ⟨vs, e, p⟩ := o.at_; ⟨⟨vs, h.trans e, pairD_up s p⟩, g⟩
/-- a list of the def's own dicts, the def's own itself -/
structure OwnLD (K : PySem.W.Frag) (H0 G H : Hp) (p : Addr) (ds : List (Dct κ α)) : Prop where
  at_ : ∃ qs : List Addr, H p = some (.lst (qs.map V.ref)) ∧ Paired (fun q d => OwnD K G H q d) qs ds ∧ qs.Nodup ∧ ∀ q ∈ qs, H0 q = none
  off : G p = none
  nw : H0 p = none
variable {ds : List (Dct κ α)} {H0 G H G1 H1 Ha : Hp} {p : Addr}
theorem OwnLD.mono (o : OwnLD K H0 G H p ds) (x : Ext G H G1 H1) : OwnLD K H0 G1 H1 p ds := let ⟨qs, e, pr, nd, nw⟩ := o.at_; ⟨⟨qs, x.h _ _ e, gp_imp (fun _ _ _ r => r.mono x) pr, nd, nw⟩, x.off o.off e, o.nw⟩
theorem OwnLD.back (o : OwnLD K Ha G H p ds) (h : Same H0 Ha) : OwnLD K H0 G H p ds := let ⟨qs, e, pr, nd, nw⟩ := o.at_; ⟨⟨qs, e, pr, nd, fun q hq => h.free (nw q hq)⟩, o.off, h.free o.nw⟩
theorem OwnLD.ex (o : OwnLD K H0 G H p ds) : ∃ u, H p = some u := let ⟨_, e, _⟩ := o.at_; ⟨_, e⟩
/-- .. as it may be read -/
def LDAt (K : PySem.W.Frag) (ds : List (Dct κ α)) : PV := fun G H v => ∃ p qs, v = .ref p ∧ H p = some (.lst (qs.map V.ref)) ∧ Paired (fun q d => OwnD K G H q d) qs ds
instance : MonoC (LDAt K ds) := ⟨fun _ _ _ _ _ x ⟨p, qs, e, g, pr⟩ => ⟨p, qs, e, x.h _ _ g, gp_imp (fun _ _ _ r => r.mono x) pr⟩⟩
theorem OwnLD.pv (o : OwnLD K H0 G H p ds) : LDAt K ds G H (.ref p) := let ⟨qs, e, pr, _⟩ := o.at_; ⟨p, qs, rfl, e, pr⟩
theorem ld_set {G H : Hp} {o' : HO} {d' : Dct κ α} {q : Addr} {qs : List Addr} {ds : List (Dct κ α)} (pr : Paired (fun q d => OwnD K G H q d) qs ds) : ∀ {j : Nat}, qs.Nodup → qs[j]? = some q → OwnD K G (upd H q o') q d' → Paired (fun z d => OwnD K G (upd H q o') z d) qs (ds.set j d') := by
  induction pr with
  | nil => intro j _ h; simp at h
  | cons r t ih =>
    intro j nd h o
    have nd' := List.nodup_cons.mp nd
    cases j with
    | zero =>
      simp only [List.getElem?_cons_zero, Option.some.injEq] at h
      subst h
      exact .cons o (gp_imp (fun z hz d r => r.wr fun e => nd'.1 (by rw [← e]; exact hz)) t)
    | succ j =>
      have h' := List.mem_of_getElem? (show _ = some q by simpa using h)
      exact .cons (r.wr fun e => nd'.1 (by rw [e]; exact h')) (ih nd'.2 (by simpa using h) o)
/-! new dicts, new lists of new dicts -/
def EvND (X : Cx) (e : Expr) (σ : St) (G H : Hp) (d : Dct κ α) : Prop :=
  ∀ G1 H1, Ext G H G1 H1 → ∀ Q : VK, (∀ G2 H2 q, Ext G1 H1 G2 H2 → HLen H2 → H1 q = none → OwnD X.K G2 H2 q d → Q (.ref q) H2) → tE X e σ H1 Q
def EvLD (X : Cx) (e : Expr) (σ : St) (G H : Hp) (ds : List (Dct κ α)) : Prop :=
  ∀ G1 H1, Ext G H G1 H1 → ∀ Q : VK, (∀ G2 H2 p, Ext G1 H1 G2 H2 → HLen H2 → OwnLD X.K H1 G2 H2 p ds → Q (.ref p) H2) → tE X e σ H1 Q
end
section
variable {X : Cx} {σ : St} {G H H0 G0 : Hp} {P : PV} {e a b c tg : Expr} {es : List Expr} {pos : Pos} {D : Ends} {sts : List Stmt} {κ α : Type} {r1 : Rep κ} {dk : DecidableEq κ} {k1 : DKey κ} {r2 : Rep α} {d : Dct κ α} {ds ds2 : List (Dct κ α)} {p : Addr}
theorem ev_vLD {i : Nat} {n : Str} {np : Pos} (s : Sl X i n) (o : OwnLD X.K H0 G H p ds) (h : σ[i]? = some (some (.ref p)) := by rfl) : EvP X (.Name n np) σ G H (LDAt X.K ds) := ev_vP s o.pv h
/-- x[i], a dict of such a list -/
theorem ev_ixLD {i : Int} (h : EvP X a σ G H (LDAt X.K ds)) (hi : Ev X b σ G H i) (h0 : 0 ≤ i) (h1 : i < (ds.length : Int)) (hs : PlainIx b := by intro _ _; rfl) : EvP X (.Subscript a b pos) σ G H (DctAt X.K (ds.getD i.toNat ⟨[]⟩)) :=
  evP_of (pe_ix ix_list pe_sem pe_sem hs) (bin_go h hi fun G1 H1 v u x _ e1 e2 Q q => by
    obtain ⟨p, qs, e, g, pr⟩ := e1
    have hg : ds[i.toNat]? = some (ds.getD i.toNat ⟨[]⟩) := by
      rw [List.getD_eq_getElem?_getD, List.getElem?_eq_getElem (show i.toNat < ds.length by omega)]
      rfl
    obtain ⟨w, hw, o⟩ := paired_get pr hg
    refine ⟨p, _, i, .ref w, e, e2, .of g, ?_, q G1 H1 _ (Ext.refl x.s) o.pv⟩
    unfold atI
    rw [List.length_map, paired_len pr, ixN_of h0 h1]
    show (qs.map V.ref)[i.toNat]? = _
    rw [List.getElem?_map, hw]
    rfl)
/-- x[i][k] = v -/
theorem s_putLD {k : κ} {v : α} {i : Nat} {n : Str} {ix : Int} {sp sp2 np : Pos} (sl : Sl X i n) (hu : X.A.units + 1 < cLine) (s0 : Same G H) (o : OwnLD X.K H0 G H p ds) (hv : Ev X c σ G H v) (hi : Ev X a σ G H ix) (hk : Ev X b σ G H k) (h0 : 0 ≤ ix) (h1 : ix < (ds.length : Int))
    (hz : (ds.getD ix.toNat ⟨[]⟩).kvs.length < sizeLine)
    (kk : ∀ G1 H1 q o', Ext G H G1 H1 → HLen H1 → H0 q = none → G1 q = none → (∀ xs, H1 q ≠ some (.lst xs)) → OwnLD X.K H0 G1 (upd H1 q o') p (ds.set ix.toNat (⟨dput (ds.getD ix.toNat ⟨[]⟩).kvs k v⟩ : Dct κ α)) → D.nx σ (upd H1 q o')) (hq : σ[i]? = some (some (.ref p)) := by rfl) (hps : PlainIx a := by intro _ _; rfl)
    (hs : swapsWith c (some (.Subscript (.Subscript (.Name n np) a sp2) b sp)) pos.line X.env = pure false := by rfl) : tS X (.Assign [.Subscript (.Subscript (.Name n np) a sp2) b sp] c pos) D σ H := by
  refine s_of (ps_dput hu (pe_ix ix_list (pe_var sl.hN sl.hv sl.nm.hd sl.nm.hcd) pe_sem hps) pe_sem pe_sem hs) ?_
  refine hv G H (Ext.refl s0) _ fun G1 H1 w x1 _ rw' => ⟨_, hq, hi G1 H1 x1 _ fun G2 H2 u x2 _ ru => ?_⟩
  obtain ⟨qs, e, pr, nd, nw⟩ := (o.mono (x1.trans x2)).at_
  have hg : ds[ix.toNat]? = some (ds.getD ix.toNat ⟨[]⟩) := by
    rw [List.getD_eq_getElem?_getD, List.getElem?_eq_getElem (show ix.toNat < ds.length by omega)]
    rfl
  obtain ⟨q, hqq, oq⟩ := paired_get pr hg
  refine ⟨p, _, ix, .ref q, rfl, ru, .of e, ?_, ?_⟩
  · unfold atI
    rw [List.length_map, paired_len pr, ixN_of h0 h1]
    show (qs.map V.ref)[ix.toNat]? = _
    rw [List.getElem?_map, hqq]
    rfl
  · refine hk G2 H2 (x1.trans x2) _ fun G3 H3 y x3 l3 ry => ?_
    have oq3 := oq.mono x3
    obtain ⟨ps, eq, prq⟩ := oq3.at_
    have hpq : p ≠ q := fun z => oq3.nl _ (by rw [← z]; exact x3.h _ _ e)
    refine ⟨q, _, rfl, DKey.put (k := k) x3.s ry eq (by rw [paired_len prq]; exact hz), kk G3 H3 q _ ((x1.trans x2).trans x3) l3 (nw q (List.mem_of_getElem? hqq)) oq3.off oq3.nl ?_⟩
    refine ⟨⟨qs, by rw [upd_ne hpq]; exact x3.h _ _ e, ld_set (gp_imp (fun _ _ _ r => r.mono x3) pr) nd hqq ⟨⟨_, upd_same, pairD_put (k := k) prq (up (x2.trans x3).g rw')⟩, oq3.off⟩, nd, nw⟩, (o.mono ((x1.trans x2).trans x3)).off, o.nw⟩
theorem evND_of {t : TE} (hp : PE X e t) (k : ∀ G1 H1, Ext G H G1 H1 → ∀ Q : VK, (∀ G2 H2 q, Ext G1 H1 G2 H2 → H1 q = none → OwnD X.K G2 H2 q d → Q (.ref q) H2) → t σ H1 Q) : EvND X e σ G H d :=
  fun G1 H1 x1 _ q => tE_lenF fun pins s I => hp.run pins s σ H1 _ I (k G1 H1 x1 _ fun G2 H2 a x n o hl => q G2 H2 a x hl n o)
theorem evLD_of {t : TE} (hp : PE X e t) (k : ∀ G1 H1, Ext G H G1 H1 → ∀ Q : VK, (∀ G2 H2 p, Ext G1 H1 G2 H2 → OwnLD X.K H1 G2 H2 p ds → Q (.ref p) H2) → t σ H1 Q) : EvLD X e σ G H ds :=
  fun G1 H1 x1 _ q => tE_lenF fun pins s I => hp.run pins s σ H1 _ I (k G1 H1 x1 _ fun G2 H2 a x o hl => q G2 H2 a x hl o)
/-- dict(d) -/
theorem evND_copy [kc : DKeyC κ] [mc : MonoC P] [A : AsDct X.K P κ α r1 dk k1 r2 d] {dp : Pos} (B : Bl X "dict") (hu : X.A.units + 64 < cLine) (hok : kc.hok X.prog X.w (d.kvs.map (·.1))) (h : EvP X e σ G H P)
    (he : starEach [e] X.env = (false, eval e X.env) :: starEach [] X.env := by rfl) : EvND X (.Call (.Name "dict" dp) [e] [] pos) σ G H d :=
  evND_of (pe_callTy (kc.copy hu) B.g B.m PyProof.Rows.boot_dict (pa_cons pe_sem pa_nil he) (by decide) (by decide) he rfl) fun G1 H1 x1 Q q => h G1 H1 x1 _ fun G2 H2 v x _ pv => by
    obtain ⟨a, ps, e, g, pr⟩ := A.dct _ _ _ x.s pv
    exact ⟨a, ps, by rw [e], g, by rw [pairD_keys pr]; exact hok, fun p hp => q G2 _ p (x.newH hp) (x.h.free hp) ⟨⟨ps, upd_same, pr⟩, x.s.free hp⟩⟩
/-- {} -/
theorem evND_nil : EvND X (.Dict [] [] pos) σ G H (⟨[]⟩ : Dct κ α) :=
  evND_of (DKey.new (κ := κ)) fun G1 H1 x1 Q q p hp => q G1 _ p ((Ext.refl x1.s).newH hp) hp ⟨⟨[], upd_same, .nil⟩, x1.s.free hp⟩
/-- [d] -/
theorem evLD_one (h : EvND X e σ G H d) (he : starEach [e] X.env = (false, eval e X.env) :: starEach [] X.env := by rfl) : EvLD X (.List [e] pos) σ G H [d] :=
  evLD_of (pe_lst (pa_cons pe_sem pa_nil he)) fun G1 H1 x1 Q k => h G1 H1 x1 _ fun G2 H2 q x2 _ hq ow => by
    refine ⟨by show 1 ≤ sizeLine; rw [sizeLine_eq]; decide, fun a ha => ?_⟩
    have hne : q ≠ a := fun z => by obtain ⟨u, hu⟩ := ow.ex; rw [z, ha] at hu; cases hu
    refine k _ _ a (x2.newH ha) ⟨⟨[q], upd_same, .cons (ow.wr hne) .nil, List.nodup_cons.mpr ⟨by simp, List.nodup_nil⟩, fun z hz => by rw [List.mem_singleton.mp hz]; exact hq⟩, x2.s.free ha, x2.h.free ha⟩
/-- a + b -/
theorem evLD_cat (ha : EvLD X a σ G H ds) (hb : EvLD X b σ G H ds2) (hl : ds.length + ds2.length ≤ sizeLine) : EvLD X (.BinOp a .Add b pos) σ G H (ds ++ ds2) :=
  evLD_of (pe_op op_cat pe_sem pe_sem) fun G1 H1 x1 Q k => ha G1 H1 x1 _ fun G2 H2 p1 x2 _ o1 => hb G2 H2 (x1.trans x2) _ fun G3 H3 p2 x3 _ o2 => by
    obtain ⟨qs1, e1, pr1, nd1, nw1⟩ := o1.at_
    obtain ⟨qs2, e2, pr2, nd2, nw2⟩ := o2.at_
    refine ⟨p1, p2, _, _, rfl, rfl, x3.h _ _ e1, e2, by rw [List.length_map, List.length_map, paired_len pr1, paired_len pr2]; exact hl, fun p hp => ?_⟩
    have x4 := x2.trans x3
    have w1 : Paired (fun q d => OwnD X.K G3 (upd H3 p (.lst (qs1.map V.ref ++ qs2.map V.ref))) q d) qs1 ds := gp_imp (fun q hq d r => (r.mono x3).wr fun z => by
      obtain ⟨u, hu⟩ := (r.mono x3).ex
      rw [z, hp] at hu; cases hu) pr1
    have w2 : Paired (fun q d => OwnD X.K G3 (upd H3 p (.lst (qs1.map V.ref ++ qs2.map V.ref))) q d) qs2 ds2 := gp_imp (fun q hq d r => r.wr fun z => by
      obtain ⟨u, hu⟩ := r.ex
      rw [z, hp] at hu; cases hu) pr2
    refine k G3 _ p (x4.newH hp) ⟨⟨qs1 ++ qs2, by rw [List.map_append]; exact upd_same, paired_app w1 w2, ?_, fun q hq => ?_⟩, x4.s.free hp, x4.h.free hp⟩
    · rw [List.nodup_append]
      refine ⟨nd1, nd2, fun a ha b hb z => ?_⟩
      obtain ⟨d1, r1⟩ := gp_mem pr1 ha
      obtain ⟨u, hu⟩ := r1.ex
      rw [z, nw2 b hb] at hu
      cases hu
    · rcases List.mem_append.mp hq with hq | hq
      · exact nw1 q hq
      · exact x2.h.free (nw2 q hq)
theorem ld_goP {β : Type} [Rep β] {elt : Expr} {scope : Scope} {xs : List β} {f : β → Dct κ α} {vs : List Nat} {i : Nat} {wi : TI}
    (hi : ∀ G1 H1, Ext G H G1 H1 → ∀ R : It → Hp → Prop, (∀ J G2 H2, Ext G1 H1 G2 H2 → xs.length ≤ sizeLine → WalkOf X.K J G2 xs → R J H2) → wi σ H1 R) (hw : ∀ v, wipe ((wipe σ vs).set i (some v)) vs = wipe σ vs)
    (he : ∀ x v G1 H1, x ∈ xs → Ext G H G1 H1 → rep X.K G1 v x → ∀ s H0 C cl fp, EvND (InB X scope s H0 C cl fp) elt ((wipe σ vs).set i (some v)) G1 H1 (f x)) :
    ∀ G1 H1, Ext G H G1 H1 → ∀ Q : VK, (∀ G2 H2 p, Ext G1 H1 G2 H2 → OwnLD X.K H1 G2 H2 p (xs.map f) → Q (.ref p) H2) → tLc wi (gName i) (lcT X scope []) (lcE X scope elt) vs σ H1 Q := by
  intro G1 H1 x1 Q k
  refine hi G1 H1 x1 _ fun J G2 H2 x2 hl hwk Dd hD => ?_
  have hD1 : H1 Dd = none := x2.h.free hD
  let Pv : Nat → Hp → Prop := fun n H' => ∃ G' qs, Ext G1 H1 G' H' ∧ Same G2 G' ∧ G' Dd = none ∧ H' Dd = some (.lst (qs.map V.ref)) ∧ qs.length = n ∧ Paired (fun q d => OwnD X.K G' H' q d) qs ((xs.take n).map f) ∧ qs.Nodup ∧ ∀ q ∈ qs, H1 q = none
  refine ⟨fun n m H' => m = xs.length - n ∧ n ≤ xs.length ∧ Pv n H', ⟨xs.length, rfl, Nat.zero_le _, G2, [], x2.newH hD, Same.refl _, x2.s.free hD, upd_same, rfl, .nil, List.nodup_nil, fun z hz => by cases hz⟩, ?_⟩
  rintro n m H' ⟨rfl, hn, G', qs, x', sg, gD, eD, hq, pr, nd, nw⟩
  obtain ⟨go, stop, yld⟩ := hwk G' H' sg x'.s
  by_cases hlt : n < xs.length
  · have hx : xs[n]? = some xs[n] := List.getElem?_eq_getElem hlt
    refine .inr ⟨go n hlt, Pv (n + 1), fun H'' z => ⟨_, by omega, rfl, hlt, z⟩, fun v H'' y => ?_⟩
    obtain ⟨G'', x'', rv⟩ := yld n _ v H'' hx y
    have gD2 : G'' Dd = none := x''.off gD eD
    have eD2 := x''.h _ _ eD
    refine ⟨hw v, fun s H0 C cl fp pins s' I => pts_nil.run pins s' _ H'' _ I fun s1 H01 C1 cl1 fp1 => ?_⟩
    refine he _ v G'' H'' (List.getElem_mem hlt) (x1.trans (x'.trans x'')) rv s1 H01 C1 cl1 fp1 G'' H'' (Ext.refl x''.s) _ fun G3 H3 q x3 _ hq0 oq => ?_
    have x03 := x''.trans x3
    have eD3 := x3.h _ _ eD2
    have gD3 : G3 Dd = none := x3.off gD2 eD2
    have hqD : q ≠ Dd := fun z => by rw [z, eD2] at hq0; cases hq0
    have hqn : q ∉ qs := fun z => by
      obtain ⟨d0, r0⟩ := gp_mem pr z
      obtain ⟨u, hu⟩ := (r0.mono x'').ex
      rw [hq0] at hu; cases hu
    have xx : Ext G1 H1 G3 H3 := (x'.trans x'').trans x3
    have ek : (xs.take (n + 1)).map f = (xs.take n).map f ++ [f xs[n]] := by rw [List.take_add_one, hx, List.map_append]; rfl
    have w1 : Paired (fun z d => OwnD X.K G3 (upd H3 Dd (.lst (qs.map V.ref ++ [V.ref q]))) z d) qs ((xs.take n).map f) := gp_imp (fun q' hq' d r => (r.mono x03).wr fun z => (r.mono x03).nl _ (by rw [z]; exact eD3)) pr
    refine ⟨qs.map V.ref, eD3, by rw [List.length_map, hq]; exact Nat.lt_of_lt_of_le hlt hl, G3, qs ++ [q], xx.wr hD1 gD3, sg.trans x03.g, gD3, by rw [List.map_append]; exact upd_same, by rw [List.length_append, hq]; rfl, ?_, ?_, fun z hz => ?_⟩
    · rw [ek]
      exact paired_app w1 (.cons (oq.wr hqD) .nil)
    · rw [List.nodup_append]
      refine ⟨nd, List.nodup_cons.mpr ⟨by simp, List.nodup_nil⟩, fun a ha b hb z => ?_⟩
      rw [List.mem_singleton.mp hb] at z
      exact hqn (z ▸ ha)
    · rcases List.mem_append.mp hz with hz | hz
      · exact nw z hz
      · rw [List.mem_singleton.mp hz]; exact (x'.trans x'').h.free hq0
  · have e : n = xs.length := by omega
    subst e
    rw [List.take_length] at pr
    exact .inl ⟨stop, k G' H' Dd x' ⟨⟨qs, eD, pr, nd, nw⟩, gD, hD1⟩⟩
/-- [dict(..) for n in iter] -/
theorem evLD_lc {β : Type} [Rep β] {elt iter : Expr} {scope : Scope} {xs : List β} {n : Str} {np : Pos} {i : Nat} (f : β → Dct κ α) (hc : X.calm = true) (hN : X.N.Nodup) (hi : EvI X (.Name n np) iter σ G H xs) (own : List (Str × Nat)) (ok : BlkOk X.N X.env.scope scope own)
    (hg : ∀ (s : Shared) (H : Hp) (C : Addr) (cl : List (Str × Addr)) (fp : List Addr), PG (X.blk s H scope (compEnvC scope cl C X.env) fp) (.Name n np) (gName i))
    (he : ∀ x v G1 H1, x ∈ xs → Ext G H G1 H1 → rep X.K G1 v x → ∀ s H0 C cl fp, EvND (InB X scope s H0 C cl fp) elt ((wipe σ (own.map (·.2))).set i (some v)) G1 H1 (f x))
    (hw : ∀ v, wipe ((wipe σ (own.map (·.2))).set i (some v)) (own.map (·.2)) = wipe σ (own.map (·.2)) := by intro _; rfl) (hs : ∀ x, foldedSetIterable iter X.env x = pure x := by intro _; rfl) :
    EvLD X (.ListComp elt [⟨.Name n np, iter, [], 0⟩] scope pos) σ G H (xs.map f) := by
  obtain ⟨wi, pi, hi⟩ := hi
  exact evLD_of (pe_lc hc hN pi ok hg pts_lc pe_lcE hs) (ld_goP hi hw he)
/-- n = such a list -/
theorem s_setLD {i : Nat} {n : Str} {np : Pos} (hN : X.N.Nodup) (sl : Ss X i n) (s0 : Same G H) (h : EvLD X e σ G H ds) (k : ∀ G1 H1 p, Ext G H G1 H1 → HLen H1 → OwnLD X.K H G1 H1 p ds → D.nx (σ.set i (some (.ref p))) H1)
    (hs : swapsWith e (some (.Name n np)) pos.line X.env = pure false := by rfl) : tS X (.Assign [.Name n np] e pos) D σ H :=
  s_of (ps_set hN sl.hN sl.hx pe_sem hs sl.hf) (h G H (Ext.refl s0) _ fun G1 H1 p x l o => k G1 H1 p x l o)
theorem ld_lockL : ∀ {qs : List Addr} {ds : List (Dct κ α)} {G H : Hp}, Paired (fun q d => OwnD X.K G H q d) qs ds → qs.Nodup → (∀ q ∈ qs, H0 q = none) → Ext G0 H0 G H →
    (∀ G' H', Ext G0 H0 G' H' → Same G G' → (∀ b, b ∉ qs → H' b = H b ∧ G' b = G b) → Paired (fun q d => rep X.K G' (.ref q) d) qs ds → tSs X sts D σ H') → tSs X sts D σ H
  | _, _, G, H, .nil, _, _, x0, k => k G H x0 (Same.refl _) (fun _ _ => ⟨rfl, rfl⟩) .nil
  | _, _, G, H, .cons r t, nd, nw, x0, k => by
    rename_i q d qs ds
    have nd' := List.nodup_cons.mp nd
    refine OwnD.lock r x0 (nw q List.mem_cons_self) fun u x1 r1 => ?_
    refine ld_lockL (gp_imp (fun z hz d' rz => ?_) t) nd'.2 (fun z hz => nw z (List.mem_cons_of_mem _ hz)) x1 fun G' H' x2 sg keep pr => ?_
    · have hne : z ≠ q := fun c => nd'.1 (c ▸ hz)
      exact rz.re2 (same_new r.off) (upd_ne hne) ((upd_ne hne).trans rz.off)
    · refine k G' H' x2 ((same_new r.off).trans sg) (fun b hb => ?_) (.cons (up sg r1) pr)
      have hb1 : b ≠ q := fun c => hb (c ▸ List.mem_cons_self)
      obtain ⟨e1, e2⟩ := keep b fun c => hb (List.mem_cons_of_mem _ c)
      exact ⟨e1.trans (upd_ne hb1), e2.trans (upd_ne hb1)⟩
theorem refs_up {K : PySem.W.Frag} {G' G'' : Hp} (ss : Same G' G'') : ∀ {qs : List Addr} {ds : List (Dct κ α)}, Paired (fun q d => rep K G' (.ref q) d) qs ds → Paired (rep K G'') (qs.map V.ref) ds
  | _, _, .nil => .nil
  | _, _, .cons r t => .cons (up ss r) (refs_up ss t)
/-- .. from now on as it is -/
theorem OwnLD.lock (o : OwnLD X.K H0 G H p ds) (x0 : Ext G0 H0 G H)
    (k : ∀ G' H', Ext G0 H0 G' H' → Same G G' → (∀ {β : Type} [Rep β] {q : Addr} {xs : List β}, q ≠ p → Own X.K G H q xs → Own X.K G' H' q xs) → rep X.K G' (.ref p) ds → tSs X sts D σ H') : tSs X sts D σ H := by
  obtain ⟨qs, e, pr, nd, nw⟩ := o.at_
  refine ld_lockL pr nd nw x0 fun G' H' x1 sg keep pr' => ?_
  have np : p ∉ qs := fun z => by
    obtain ⟨d, r⟩ := gp_mem pr z
    exact r.nl _ e
  obtain ⟨e1, e2⟩ := keep p np
  have hp : G' p = none := e2.trans o.off
  have ss : Same G' (upd G' p (.lst (qs.map V.ref))) := same_new hp
  refine k (upd G' p (.lst (qs.map V.ref))) H' (x1.frz o.nw (e1.trans e)) (sg.trans ss) (fun {β _ q xs} hne oq => ?_) ⟨p, qs.map V.ref, rfl, upd_same, ?_⟩
  · obtain ⟨vs, eq, prq⟩ := oq.at_
    have nq : q ∉ qs := fun z => by
      obtain ⟨d, r⟩ := gp_mem pr z
      exact r.nl _ eq
    obtain ⟨f1, f2⟩ := keep q nq
    exact ⟨⟨vs, f1.trans eq, pair_up (sg.trans ss) prq⟩, by rw [upd_ne hne]; exact f2.trans oq.off⟩
  · exact refs_up ss pr'
/-- for k, v in d.items() -/
theorem ei_items {d : Dct Int α} {elts : List Expr} {kk : Nat} {tpos ap cp : Pos} [A : AsLkd X.K P Int α instRepInt inferInstance inferInstance r2 d] (h : EvP X e σ G H P) (hbase : attributeBase e "items" X.env (eval e X.env) = eval e X.env := by rfl) (hline : (ap.endLine == cp.line) = true := by rfl) : EvI X (.Tuple elts kk tpos) (.Call (.Attribute e "items" ap) [] [] cp) σ G H d.kvs :=
  ⟨_, pi_items pe_sem hbase hline, fun G1 H1 x1 R r => h G1 H1 x1 _ fun G2 H2 v x2 l2 pv => by
    obtain ⟨a, o, ps, e, g, pr⟩ := A.lkd _ _ _ pv
    have hl : d.kvs.length ≤ sizeLine := by
      have z := l2 _ _ (x2.s _ _ g)
      rw [← paired_len pr, ← DKey.len ps]
      exact z
    refine ⟨a, o, _, e, x2.s _ _ g, r _ G2 H2 x2 hl fun G' H' s1 s2 => ?_⟩
    have eq : H' a = some (.frz o (.dK (ps.map fun p => (Sum.inl p.1, p.2)))) := s2 _ _ (s1 _ _ g)
    refine ⟨fun i hi => ⟨eq, by rw [List.length_map, paired_len pr]; exact hi⟩, ⟨eq, by rw [List.length_map, paired_len pr]; exact Nat.le_refl _⟩, fun i x v H'' hx y => ?_⟩
    obtain ⟨z, hz, e1, rz⟩ := paired_get pr hx
    obtain ⟨T, kv, w, hk, rfl, hT, rfl⟩ := y
    rw [List.getElem?_map, hz] at hk
    cases hk
    obtain ⟨x1, x2⟩ := x
    have e1 : z.1 = x1 := e1
    exact pair_new (x := x1) (y := x2) (K := X.K) s2 hT (by rw [← e1]; rfl) (up s1 rz)⟩
/-- x.insert(0, y) -/
theorem s_insert0 {β : Type} [Rep β] {xs : List β} {y : β} {i : Nat} {n : Str} {q : Addr} {kk : Nat} {ap cp np p0 : Pos} (sl : Sl X i n) (s0 : Same G H) (o : Own X.K G H q xs) (h : Ev X e σ G H y) (hz : xs.length < sizeLine)
    (k : ∀ G1 H1 vs', Ext G H G1 H1 → HLen H1 → Own X.K G1 (upd H1 q (.lst vs')) q (y :: xs) → D.nx σ (upd H1 q (.lst vs'))) (h0 : σ[i]? = some (some (.ref q)) := by rfl)
    (hbase : attributeBase (.Name n np) "insert" X.env (eval (.Name n np) X.env) = eval (.Name n np) X.env := by rfl)
    (hfew : ((backTo cp (starEach [.Constant (.int 0) kk p0, e] X.env)).all (fun x => !x.1) && (backToKw cp (keywordEach [] X.env)).all (fun x => x.1.isSome)
      && decide ([.Constant (.int 0) kk p0, e].length + ([] : List Keyword).length + (if ([] : List Keyword).isEmpty then 0 else 1) < 30)) = true := by rfl)
    (hline : (ap.endLine == cp.line) = true := by rfl) (he : starEach [.Constant (.int 0) kk p0, e] X.env = (false, eval (.Constant (.int 0) kk p0) X.env) :: starEach [e] X.env := by rfl) (he2 : starEach [e] X.env = (false, eval e X.env) :: starEach [] X.env := by rfl)
    (hplain : (backTo cp (starEach [e] X.env)).any (·.1) = false := by rfl)
    (hsw : swapsWith (.Call (.Attribute (.Name n np) "insert" ap) [.Constant (.int 0) kk p0, e] [] cp) none pos.line X.env = pure false := by rfl) :
    tS X (.Expr (.Call (.Attribute (.Name n np) "insert" ap) [.Constant (.int 0) kk p0, e] [] cp) pos) D σ H := by
  obtain ⟨vs, eq, pr⟩ := o.at_
  refine s_of (ps_expr (pe_bm PySem.F.plainAttrs_list PySem.F.slot_list_insert PySem.F.type_list_insert mt_insert (pe_var sl.hN sl.hv sl.nm.hd sl.nm.hcd) (pa_cons pe_sem (pa_cons pe_sem pa_nil he2) he) hbase hfew hline he hplain) hsw) ?_
  refine ⟨_, h0, .inl ⟨rfl, _, SqL.of eq⟩, (ev_int (σ := σ) (G := G) (H := H) : Ev X (.Constant (.int 0) kk p0) σ G H (0 : Int)) G H (Ext.refl s0) _ fun G1 H1 w0 x1 _ r0 => h G1 H1 x1 _ fun G2 H2 w x2 l2 rw' => ?_⟩
  obtain ⟨vs, eq, pr⟩ := (o.mono (x1.trans x2)).at_
  have r0 : w0 = V.int 0 := r0
  subst r0
  refine ⟨q, vs, 0, w, rfl, rfl, eq, by rw [paired_len pr]; exact hz, by decide, by decide, ?_⟩
  show D.nx σ (upd H2 q (.lst ([] ++ [w] ++ vs)))
  exact k G2 H2 _ (x1.trans x2) l2 ⟨⟨_, upd_same, .cons rw' pr⟩, (o.mono (x1.trans x2)).off⟩
/-! sorted(d), dict(pairs): int keys -/
theorem rd_dk {ps : List (Int × V)} {a : Addr} (g : Rd H a (DKey.obj ps)) : Rd H a (.dK (ps.map fun p => (Sum.inl p.1, p.2))) := g
theorem evN_sortedDI {p : Pos} {d : Dct Int α} [mc : MonoC P] [A : AsDct X.K P Int α instRepInt inferInstance inferInstance r2 d] (hc : X.calm = true) (B : Bl X "sorted") (h64 : d.kvs.length < 64) (h : EvP X e σ G H P) (he : starEach [e] X.env = (false, eval e X.env) :: starEach [] X.env := by rfl) :
    EvN X (.Call (.Name "sorted" p) [e] [] pos) σ G H (Is X.K (isort (d.kvs.map (·.1)))) :=
  evN_of (pe_callB (call_sortedDI hc) B.g B.m PyProof.Rows.boot_sorted (pa_cons pe_sem pa_nil he) (by decide) (by decide) he rfl) fun G1 H1 x1 Q q => h G1 H1 x1 _ fun G2 H2 v x2 _ pv => by
    obtain ⟨a, ps, e, g, pr⟩ := A.dct _ _ _ x2.s pv
    refine ⟨a, _, d.kvs.map (·.1), by rw [e], rd_dk g, ?_, by rw [List.length_map]; exact h64, fun ns' p perm srt hp => ?_⟩
    · rw [← pairD_keys pr, List.map_map, List.map_map]
      rfl
    have e : ns' = isort (d.kvs.map (·.1)) := sorted_one (perm.trans (isort_perm _).symm) srt (isort_sorted _)
    subst e
    exact q (upd G2 p (.lst _)) _ _ (x2.new hp) ⟨p, _, rfl, upd_same, ints_paired _⟩ fun p' e => by cases e; exact x2.h.free hp
theorem ev_sortedDI {p : Pos} {d : Dct Int α} [mc : MonoC P] [A : AsDct X.K P Int α instRepInt inferInstance inferInstance r2 d] (hc : X.calm = true) (B : Bl X "sorted") (h64 : d.kvs.length < 64) (h : EvP X e σ G H P) (he : starEach [e] X.env = (false, eval e X.env) :: starEach [] X.env := by rfl) :
    Ev X (.Call (.Name "sorted" p) [e] [] pos) σ G H (isort (d.kvs.map (·.1))) := (evN_sortedDI hc B h64 h he).ev
theorem Own.ne_nl {β : Type} [Rep β] {K : PySem.W.Frag} {q q' : Addr} {xs : List β} (o : Own K G H q' xs) (h : ∀ xs, H q ≠ some (.lst xs)) : q' ≠ q := fun z => let ⟨vs, e, _⟩ := o.at_; h vs (by rw [← z]; exact e)
def dmerge {κ α : Type} [DecidableEq κ] (xs : List (κ × α)) : List (κ × α) := xs.foldl (fun acc kv => dput acc kv.1 kv.2) []
theorem merge_pair {K : PySem.W.Frag} : ∀ {ps : List (Int × V)} {xs : List (Int × α)} {qs : List (Int × V)} {ys : List (Int × α)}, PairD K G ps xs → PairD K G qs ys →
    ∃ rs : List (Int × V), mergeK (qs.map fun p => ((Sum.inl p.1 : Key), p.2)) (ps.map fun p => (Sum.inl p.1, p.2)) = rs.map (fun p => (Sum.inl p.1, p.2)) ∧ PairD K G rs (xs.foldl (fun acc kv => dput acc kv.1 kv.2) ys)
  | [], [], qs, ys, .nil, h => ⟨qs, rfl, h⟩
  | p :: ps, x :: xs, qs, ys, .cons r t, h => by
    have e1 : p.1 = x.1 := r.1
    obtain ⟨rs, e, pr⟩ := merge_pair (qs := putK qs p.1 p.2) (ys := dput ys x.1 x.2) t (by rw [e1]; exact pairD_put h r.2)
    refine ⟨rs, ?_, pr⟩
    rw [← e]
    show mergeK (putK (qs.map fun p => ((Sum.inl p.1 : Key), p.2)) (Sum.inl p.1) p.2) _ = _
    rw [map_put (f := (Sum.inl : Int → Key)) (fun _ _ => Sum.inl.inj) qs p.1 p.2]
theorem unpairs {K : PySem.W.Frag} {H : Hp} (s : Same G H) : ∀ {us : List V} {xs : List (Int × α)}, Paired (rep K G) us xs → ∃ (qs : List Addr) (ps : List (Int × V)), us = qs.map V.ref ∧ PairD K G ps xs ∧ Paired (fun p (kv : Key × V) => SqT K H p [kV kv.1, kv.2]) qs (ps.map fun p => (Sum.inl p.1, p.2))
  | _, _, .nil => ⟨[], [], rfl, .nil, .nil⟩
  | _, _, .cons r t => by
    obtain ⟨qs, ps, e1, e2, e3⟩ := unpairs s t
    obtain ⟨q, u, w, e, g, p1, p2⟩ := r
    have p1 : u = V.int _ := p1
    refine ⟨q :: qs, (_, w) :: ps, by rw [e, e1]; rfl, .cons ⟨rfl, p2⟩ e2, .cons (.of ?_) e3⟩
    rw [s _ _ g, p1]
    rfl
/-- dict(e), e a list of pairs (int, ..) -/
theorem evND_pairs {p : Pos} {xs : List (Int × α)} [mc : MonoC P] [S : AsSeq X.K P (Int × α) instRepProd xs] (hc : X.calm = true) (B : Bl X "dict") (h : EvP X e σ G H P) (he : starEach [e] X.env = (false, eval e X.env) :: starEach [] X.env := by rfl) :
    EvND X (.Call (.Name "dict" p) [e] [] pos) σ G H (⟨dmerge xs⟩ : Dct Int α) :=
  evND_of (pe_callTy (call_dictP hc) B.g B.m PyProof.Rows.boot_dict (pa_cons pe_sem pa_nil he) (by decide) (by decide) he rfl) fun G1 H1 x1 Q q => h G1 H1 x1 _ fun G2 H2 v x _ pv => by
    obtain ⟨a, us, e, g, pr⟩ := S.seq _ _ _ x.s pv
    obtain ⟨qs, ps, e1, e2, e3⟩ := unpairs x.s pr
    obtain ⟨rs, e4, e5⟩ := merge_pair (G := G2) (qs := []) (ys := []) e2 .nil
    refine ⟨a, qs, _, by rw [e], by rw [← e1]; exact g, e3, fun p hp => ?_⟩
    rw [show mergeK [] (ps.map fun p => ((Sum.inl p.1 : Key), p.2)) = _ from e4]
    exact q G2 _ p (x.newH hp) (x.h.free hp) ⟨⟨rs, upd_same, e5⟩, x.s.free hp⟩
/-- n = a new dict, the def's own -/
theorem s_setND {i : Nat} {n : Str} {np : Pos} (hN : X.N.Nodup) (sl : Ss X i n) (s0 : Same G H) (h : EvND X e σ G H d) (k : ∀ G1 H1 q, Ext G H G1 H1 → HLen H1 → H q = none → OwnD X.K G1 H1 q d → D.nx (σ.set i (some (.ref q))) H1)
    (hs : swapsWith e (some (.Name n np)) pos.line X.env = pure false := by rfl) : tS X (.Assign [.Name n np] e pos) D σ H :=
  s_of (ps_set hN sl.hN sl.hx pe_sem hs sl.hf) (h G H (Ext.refl s0) _ fun G1 H1 q x l n o => k G1 H1 q x l n o)
end
end RL

set_option Elab.async false
set_option linter.all false
set_option maxRecDepth 100000
set_option maxHeartbeats 4000000
/-! RV: sorted(d) of a dict whose keys are pairs of ints, any number of them. -/
namespace RL
open PySem PySem.Spec PyProof.Rows L2 Rep
theorem call_sortedDT {X : Cx} (hc : X.calm = true) : CallR X (.builtin "sorted") (fun xs H Q => ∃ (a : Addr) (kvs : List (List L2.Key × V)) (k : V → Int × Int), xs = [V.ref a] ∧ Rd H a (.dT kvs) ∧
    (∀ bs : List Addr, IsKeys H kvs bs → ∀ b ∈ bs, H b = some (.tup [.int (k (.ref b)).1, .int (k (.ref b)).2])) ∧
    ∀ (bs : List Addr) ys p, IsKeys H kvs bs → SrtO.Srtd (ltP k) ys → SrtO.Stb (ltP k) ys (bs.map V.ref) → H p = none → Q (.ref p) (upd H p (.lst ys))) := by
  intro pins s σ H xs us Q I r h
  obtain ⟨d, kvs, k, rfl, hd, hk, q⟩ := h
  obtain ⟨u, rfl, rx⟩ := r.one
  cases rx
  obtain ⟨z, hs, ks, pr, o, es, ep, ho, hx, hdt, he, hn⟩ := (show ObjOk X.prog X.w H s.heap d (.dT kvs) from hd.ok I.hok)
  have l1 : es.size = ks.length := size_of_entries he
  have l2 : kvs.length = ks.length := Paired.length pr
  refine Calls.call_function_entry PyProof.Rows.kind_sorted PyProof.Rows.plain_sorted PyProof.Rows.entry_sorted (PyProof.Rows.args_sorted1 _) ?_
  unfold Builtin.«sorted»
  refine wpAny_bind (m := checkCount "sorted" 1 1 _) (wpAny_pure ?_)
  refine wpAny_bind (PySem.W.kdu_collect (A := X.A.in1) (kdl_raw hs hx hdt) (I.ok.hd hc) ho (by omega) fun h' tk acc kp it => ?_)
  have ea : acc.toList = ks.map fun x => Value.ref x.2.1 := by
    have hl : acc.toList.length = ks.length := by rw [Array.length_toList, it.1]; exact l1
    apply List.ext_getElem?
    intro j
    rw [List.getElem?_map]
    cases hj : acc.toList[j]? with
    | none =>
      have h1 := List.getElem?_eq_none_iff.mp hj
      rw [List.getElem?_eq_none (by omega)]
      all_goals rfl
    | some v =>
      obtain ⟨en, hen, hv⟩ := it.2 j v (by rw [← Array.getElem?_toList]; exact hj)
      have qe := entry_at he j
      rw [hen] at qe
      cases hb : ks[j]? with
      | none =>
        rw [hb] at qe
        exact nomatch (show some en = none from qe)
      | some b =>
        rw [hb] at qe
        have e2 : en = entryOfKey (tupleKind (mixKind X.prog X.w)) b := Option.some.inj qe
        rw [hv, e2]
        all_goals rfl
  have eb : acc.toList = (ks.map fun x => x.2.1).map Value.ref := by rw [ea, List.map_map]; all_goals rfl
  have ik := isKeys_of pr
  generalize ks.map (fun x => x.2.1) = bs at eb ik
  have lb : bs.length = ks.length := by rw [← l2]; exact (Paired.length ik).symm
  have I1 : Inv X pins σ H { s with heap := h', toks := tk } := I.kept kp
  have lz : acc.toList.length ≤ sizeLine := by rw [eb, List.length_map, lb]; omega
  refine wpAny_bind (wpAny_newList ?_ lz)
  have hoL : (h'.push (seqObj "list" acc.toList.toArray 0)).get? h'.objs.size = some (seqObj "list" acc.toList.toArray 0) := Heap.get?_push_size _ rfl
  show wpAny _ _ _ _ _ { s with heap := h'.push (seqObj "list" acc.toList.toArray 0), toks := tk }
  have hp : ∀ v ∈ acc.toList, Srt.IsPair (h'.push (seqObj "list" acc.toList.toArray 0)) v (k (backV v)).1 (k (backV v)).2 := fun v hv => by
    rw [eb] at hv
    obtain ⟨b, hb, rfl⟩ := List.mem_map.mp hv
    have ht := hk bs ik b hb
    obtain ⟨_, its2, r2, o, ho, hc, n, hd⟩ := I1.hok _ _ ht
    obtain ⟨u1, u2, rfl, ri, rj⟩ := vals2 r2
    obtain ⟨t1, rfl⟩ := ri
    obtain ⟨t2, rfl⟩ := rj
    exact ⟨b, o, t1, t2, n, rfl, Heap.get?_push_of_some _ ho, hc, hd⟩
  refine wpAny_bind (wpAny_holding (wpAny_call_entry PyProof.Rows.slot_list_sort ⟨_, hoL, rfl⟩ PyProof.Rows.entry_list_sort
    (SrtO.list_sort_ord (s := { s with heap := h'.push (seqObj "list" acc.toList.toArray 0), toks := tk }) (SrtO.swo_lex fun u => k (backV u)) hoL lz (fun h2 => SrtO.pairs_sortableO (by omega) hp fun o e => ?_) fun out h1 h2 => ⟨_, rfl, ?_⟩) (PyProof.Rows.args_list_sort _)))
  · have e' : some o = some (seqObj "list" acc.toList.toArray 0) := e.symm.trans hoL
    cases e'
    intro c
    exact absurd (Value.type.inj c) (by decide)
  obtain ⟨e', he'⟩ := PyProof.Rows.sortedHeap_at (vs := acc.toList) (out := out.toArray) hoL
  have h3 : ∀ u ∈ out, ∃ a, u = Value.ref a := fun u hu => by
    have := h2.perm.mem_iff.mp hu
    rw [eb] at this
    obtain ⟨b, _, e⟩ := List.mem_map.mp this
    exact ⟨b, e.symm⟩
  have hb : SrtO.Stb (ltP k) (out.map backV) (bs.map V.ref) := by
    have := SrtO.Stb.map (ltP_swo k) backV h2
    rw [eb, List.map_map] at this
    exact this
  have hlen : (out.map backV).length ≤ sizeLine := by
    rw [hb.len, List.length_map, lb]
    omega
  refine wpAny_pure ⟨_, rfl, .ref h'.objs.size, upd H h'.objs.size (.lst (out.map backV)), I1.laid (t' := tk) (fun b u e => ?_) (Nat.le_refl _)
    (show ObjOk X.prog X.w _ _ _ (.lst (out.map backV)) from ⟨hlen, out, e', vals_back h3, he'⟩), rfl, q bs _ _ ik (SrtO.srtd_map h1) hb (I1.hok.fresh (Nat.le_refl _))⟩
  have hb : b < h'.objs.size := Heap.lt_size e
  rw [PyProof.Rows.sortedHeap_old (Nat.ne_of_lt hb) (by rw [size_push']; exact Nat.lt_succ_of_lt hb)]
  exact Heap.get?_push_of_some _ e
theorem ext_tups {G H G1 H1 : Hp} : ∀ (bs : List Addr), (∀ b ∈ bs, ∃ xs, H1 b = some (.tup xs)) → Ext G H G1 H1 → ∃ G2, Ext G H G2 H1 ∧ Same G1 G2 ∧ ∀ b ∈ bs, G2 b = H1 b
  | [], _, x => ⟨G1, x, Same.refl _, fun b hb => by cases hb⟩
  | b :: bs, h, x => by
    obtain ⟨xs, e⟩ := h b List.mem_cons_self
    obtain ⟨G2, x2, s2, g2⟩ := ext_tups bs (fun c hc => h c (List.mem_cons_of_mem _ hc)) x
    obtain ⟨G3, x3, s3, g3⟩ := x2.tup e
    refine ⟨G3, x3, s2.trans s3, fun c hc => ?_⟩
    rcases List.mem_cons.mp hc with rfl | hc
    · rw [g3, e]
    · obtain ⟨ys, ey⟩ := h c (List.mem_cons_of_mem _ hc)
      have := g2 c hc
      rw [ey] at this
      rw [s3 _ _ this, ey]
theorem isKeys_pairs {H : Hp} {α : Type} : ∀ {ps : List ((Int × Int) × V)} {bs : List Addr}, IsKeys H (ps.map fun p => ([Sum.inl p.1.1, Sum.inl p.1.2], p.2)) bs → Paired (fun (b : Addr) (k : Int × Int) => H b = some (.tup [.int k.1, .int k.2])) bs (ps.map (·.1))
  | [], [], _ => .nil
  | [], _ :: _, h => by cases h
  | _ :: _, [], h => by cases h
  | p :: ps, b :: bs, .cons h t => .cons h (isKeys_pairs (α := α) t)
theorem pairs_rep {K : PySem.W.Frag} {G : Hp} : ∀ {bs : List Addr} {ks : List (Int × Int)}, Paired (fun (b : Addr) (k : Int × Int) => G b = some (.tup [.int k.1, .int k.2])) bs ks → Paired (rep K G) (bs.map V.ref) ks
  | _, _, .nil => .nil
  | _, _, .cons h t => .cons ⟨_, _, _, rfl, h, rfl, rfl⟩ (pairs_rep t)
theorem pairs_mem {H : Hp} : ∀ {bs : List Addr} {ks : List (Int × Int)}, Paired (fun (b : Addr) (k : Int × Int) => H b = some (.tup [.int k.1, .int k.2])) bs ks → ∀ b ∈ bs, ∃ k : Int × Int, H b = some (.tup [.int k.1, .int k.2])
  | _, _, .nil, _, h => by cases h
  | _, _, .cons r t, b, h => by
    rcases List.mem_cons.mp h with rfl | h
    · exact ⟨_, r⟩
    · exact pairs_mem t b h
theorem pairs_to {G H : Hp} : ∀ {bs : List Addr} {ks : List (Int × Int)}, (∀ b ∈ bs, G b = H b) → Paired (fun (b : Addr) (k : Int × Int) => H b = some (.tup [.int k.1, .int k.2])) bs ks → Paired (fun (b : Addr) (k : Int × Int) => G b = some (.tup [.int k.1, .int k.2])) bs ks
  | _, _, _, .nil => .nil
  | _, _, g, .cons r t => .cons ((g _ List.mem_cons_self).trans r) (pairs_to (fun b hb => g b (List.mem_cons_of_mem _ hb)) t)
section
variable {X : Cx} {σ : St} {G H : Hp} {P : PV} {e : Expr} {pos p : Pos} {α : Type} {r2 : Rep α}
theorem evN_sortedDT {d : Dct (Int × Int) α} [mc : MonoC P] [A : AsDct X.K P (Int × Int) α instRepProd inferInstance inferInstance r2 d] (hc : X.calm = true) (B : Bl X "sorted") (h : EvP X e σ G H P) (he : starEach [e] X.env = (false, eval e X.env) :: starEach [] X.env := by rfl) :
    EvN X (.Call (.Name "sorted" p) [e] [] pos) σ G H (Is X.K (psort (d.kvs.map (·.1)))) :=
  evN_of (pe_callB (call_sortedDT hc) B.g B.m PyProof.Rows.boot_sorted (pa_cons pe_sem pa_nil he) (by decide) (by decide) he rfl) fun G1 H1 x1 Q q => h G1 H1 x1 _ fun G2 H2 v x2 _ pv => by
    obtain ⟨a, ps, e1, g, pr⟩ := A.dct _ _ _ x2.s pv
    refine ⟨a, _, keyP H2, by rw [e1], g, fun bs ik b hb => ?_, fun bs ys p ik srt stb hp => ?_⟩
    · obtain ⟨k, hk⟩ := pairs_mem (isKeys_pairs (α := α) ik) b hb
      simp only [keyP, hk]
    · have pk := isKeys_pairs (α := α) ik
      obtain ⟨G3, x3, s3, g3⟩ := ext_tups bs (fun b hb => let ⟨k, hk⟩ := pairs_mem pk b hb; ⟨_, hk⟩) x2
      have pp := pairs_rep (K := X.K) (pairs_to g3 pk)
      rw [pairD_keys pr] at pp
      exact q (upd G3 p (.lst ys)) _ _ (x3.new hp) ⟨p, _, rfl, upd_same, pair_up (same_new (x3.s.free hp)) (psort_go x3.s pp srt stb)⟩ fun p' e => by cases e; exact x2.h.free hp
theorem ev_sortedDT {d : Dct (Int × Int) α} [mc : MonoC P] [A : AsDct X.K P (Int × Int) α instRepProd inferInstance inferInstance r2 d] (hc : X.calm = true) (B : Bl X "sorted") (h : EvP X e σ G H P) (he : starEach [e] X.env = (false, eval e X.env) :: starEach [] X.env := by rfl) :
    Ev X (.Call (.Name "sorted" p) [e] [] pos) σ G H (psort (d.kvs.map (·.1))) := (evN_sortedDT hc B h he).ev
end
section
variable {X : Cx} {σ : St} {G H : Hp} {D : Ends} {e : Expr} {pos : Pos} {α : Type} [Rep α]
/-- xs.extend(e) -/
theorem s_extend {xs ys : List α} {i : Nat} {n : Str} {q : Addr} {ap cp np : Pos} (sl : Sl X i n) (s0 : Same G H) (o : Own X.K G H q xs) (h : Ev X e σ G H ys) (hz : xs.length + ys.length ≤ sizeLine)
    (k : ∀ G1 H1 vs', Ext G H G1 H1 → HLen H1 → Own X.K G1 (upd H1 q (.lst vs')) q (xs ++ ys) → D.nx σ (upd H1 q (.lst vs'))) (h0 : σ[i]? = some (some (.ref q)) := by rfl)
    (hbase : attributeBase (.Name n np) "extend" X.env (eval (.Name n np) X.env) = eval (.Name n np) X.env := by rfl)
    (hfew : ((backTo cp (starEach [e] X.env)).all (fun x => !x.1) && (backToKw cp (keywordEach [] X.env)).all (fun x => x.1.isSome)
      && decide ([e].length + ([] : List Keyword).length + (if ([] : List Keyword).isEmpty then 0 else 1) < 30)) = true := by rfl)
    (hline : (ap.endLine == cp.line) = true := by rfl) (he : starEach [e] X.env = (false, eval e X.env) :: starEach [] X.env := by rfl) (hplain : (backTo cp (starEach [] X.env)).any (·.1) = false := by rfl)
    (hsw : swapsWith (.Call (.Attribute (.Name n np) "extend" ap) [e] [] cp) none pos.line X.env = pure false := by rfl) :
    tS X (.Expr (.Call (.Attribute (.Name n np) "extend" ap) [e] [] cp) pos) D σ H := by
  obtain ⟨vs, eq, pr⟩ := o.at_
  refine s_of (ps_expr (pe_bm PySem.F.plainAttrs_list PySem.F.slot_list_extend PySem.F.type_list_extend mt_extend (pe_var sl.hN sl.hv sl.nm.hd sl.nm.hcd) (pa_cons pe_sem pa_nil he) hbase hfew hline he hplain) hsw) ?_
  refine ⟨_, h0, .inl ⟨rfl, _, SqL.of eq⟩, h G H (Ext.refl s0) _ fun G1 H1 w x l rw' => ?_⟩
  have e1 : H1 q = some (.lst vs) := x.h _ _ eq
  obtain ⟨b, zs, rfl, g, pz⟩ := rw'
  exact ⟨q, b, vs, zs, rfl, rfl, e1, x.s _ _ g, by rw [paired_len pr, paired_len pz]; exact hz, k G1 H1 _ x l ⟨⟨_, upd_same, paired_app (pair_up x.g pr) pz⟩, x.off o.off eq⟩⟩
end
section
variable {X : Cx} {σ : St} {G H : Hp} {a b : Expr} {pos p : Pos} {D : Ends} {κ α : Type} {r1 : Rep κ} {dk : DecidableEq κ} {k1 : DKey κ} {r2 : Rep α}
/-- n = {k: v}, the def's own -/
theorem s_disp1 [kc : DKeyC κ] {x : κ} {y : α} {i : Nat} {n : Str} {dp : Pos} (hN : X.N.Nodup) (sl : Ss X i n) (s0 : Same G H) (hu : X.A.units + 64 < cLine) (ha : Ev X a σ G H x) (hb : Ev X b σ G H y)
    (k : ∀ G1 H1 q, Ext G H G1 H1 → HLen H1 → H q = none → OwnD X.K G1 H1 q (⟨[(x, y)]⟩ : Dct κ α) → D.nx (σ.set i (some (.ref q))) H1)
    (hs : swapsWith (.Dict [some a] [b] dp) (some (.Name n p)) pos.line X.env = pure false := by rfl) : tS X (.Assign [.Name n p] (.Dict [some a] [b] dp) pos) D σ H :=
  s_of (ps_set hN sl.hN sl.hx pe_sem hs sl.hf) (tE_lenF fun pins s I => (kc.disp hu).run pins s σ H _ I fun p hp => by
    have x2 : Ext G H G (upd H p (DKey.obj ([] : List (κ × V)))) := (Ext.refl s0).newH hp
    refine ha G _ x2 _ fun G3 H3 u x3 _ ru => hb G3 H3 (x2.trans x3) _ fun G4 H4 w x4 l4 rw' => ⟨x4.h _ _ (x3.h _ _ upd_same), G4, x, x4.s, up x4.g ru, fun hl => ?_⟩
    have x5 := (x2.trans x3).trans x4
    have g4 : G4 p = none := (x3.trans x4).off (s0.free hp) (upd_same (H := H) (a := p) (o := DKey.obj ([] : List (κ × V)))) fun xs z => by have := DKey.isM (κ := κ) []; rw [z] at this; exact this
    exact k G4 _ p (x5.wr hp g4) hl hp ⟨⟨[(x, w)], upd_same, .cons ⟨rfl, rw'⟩ .nil⟩, g4⟩)
end
/-- a thing that was frozen for a while only -/
theorem unfrz {G G' H G2 H2 : Hp} (sg : Same G G') (x : Ext G' H G2 H2) : Ext G H G H2 := ⟨x.h, Same.refl _, fun b o e => x.s _ _ (x.g _ _ (sg b o e)), fun _ _ e => .inl e⟩
end RL

set_option Elab.async false
set_option linter.all false
set_option maxRecDepth 100000
set_option maxHeartbeats 4000000
/-! RF: dict(list of pairs), the keys pairs of ints. -/
namespace L2
open PySem PySem.Spec PyProof.Rows
def tripP (X : Cx) (s : Shared) (p : Addr) (q : List Key × Addr × Value) : Prop := ∃ o n, s.heap.get? p = some o ∧ o.cls = .type "tuple" ∧ o.data = .seq #[.ref q.2.1, q.2.2] n
theorem trips_of {X : Cx} {pins : List (Addr × Obj)} {σ : St} {H : Hp} {s : Shared} (I : Inv X pins σ H s) : ∀ {ps : List Addr} {kvs : List (List Key × V)},
    Paired (fun p kv => ∃ b, SqT X.K H p [V.ref b, kv.2] ∧ H b = some (.tup (kv.1.map kV))) ps kvs →
    ∃ tr : List (List Key × Addr × Value), KT H kvs tr ∧ Paired (tripP X s) ps tr
  | _, _, .nil => ⟨[], .nil, .nil⟩
  | _, _, .cons (a := p) (b := kv) h t => by
    obtain ⟨tr, r, hp⟩ := trips_of I t
    obtain ⟨b, h1, h2⟩ := h
    obtain ⟨its, rv, ht, _⟩ := I.tuple h1
    obtain ⟨u, y, ei, ru, ry⟩ := vals2 rv
    subst ei
    obtain rfl : u = Value.ref b := ru
    obtain ⟨o, ho, hc, n, hd⟩ := ht
    exact ⟨(kv.1, b, y) :: tr, .cons ⟨rfl, h2, ry⟩ r, .cons ⟨o, n, ho, hc, hd⟩ hp⟩
def mergeT (kvs more : List (List Key × V)) : List (List Key × V) := more.foldl (fun acc kv => putK acc kv.1 kv.2) kvs
theorem kt_merge {H : Hp} : ∀ {kvs : List (List Key × V)} {tr : List (List Key × Addr × Value)} {acc : List (List Key × V)} {xs : List (List Key × Addr × Value)}, KT H kvs tr → KT H acc xs → KT H (mergeT acc kvs) (storedAllH xs tr)
  | _, _, _, _, .nil, h => h
  | _, _, _, _, .cons (a := p) (b := q) h t, r => by
    obtain ⟨e, g, v⟩ := h
    have r' := r.put p.1 g v
    rw [e] at r'
    have := kt_merge t r'
    show KT H (mergeT (putK _ p.1 p.2) _) (storedAllH (storedH _ q.1 q.2.1 q.2.2) _)
    rw [e]
    exact this
theorem length_mergeT : ∀ (more kvs : List (List Key × V)), (mergeT kvs more).length ≤ kvs.length + more.length
  | [], _ => Nat.le_refl _
  | p :: more, kvs => by
    have h1 := length_mergeT more (putK kvs p.1 p.2)
    have h2 := length_putK kvs p.1 p.2
    show (mergeT (putK kvs p.1 p.2) more).length ≤ _
    rw [List.length_cons]
    omega
theorem paired_at {α β : Type} {R : α → β → Prop} : ∀ {xs : List α} {ys : List β}, Paired R xs ys → ∀ {j : Nat} {y : β}, ys[j]? = some y → ∃ x, xs[j]? = some x ∧ R x y
  | _, _, .nil, j, y, h => by simp at h
  | _, _, .cons (a := a) h t, 0, y, e => by
    have e : _ = y := Option.some.inj e
    subst e
    exact ⟨a, rfl, h⟩
  | _, _, .cons h t, j + 1, y, e => by
    obtain ⟨x, h1, h2⟩ := paired_at t (j := j) (by simpa using e)
    exact ⟨x, by simpa using h1, h2⟩
theorem cr_dictPT {X : Cx} (hcalm : X.calm = true) (hu : X.A.units + 64 < cLine) : CallR X (.type "dict") (fun xs H Q => ∃ (a : Addr) (ps : List Addr) (kvs : List (List Key × V)), xs = [.ref a] ∧ SqL X.K H a (ps.map V.ref) ∧
    Paired (fun p kv => ∃ b, SqT X.K H p [V.ref b, kv.2] ∧ H b = some (.tup (kv.1.map kV))) ps kvs ∧ ∀ p, H p = none → Q (.ref p) (upd H p (.dT (mergeT [] kvs)))) := by
  rintro pins s σ H xs us Q I r ⟨a, ps, kvs, rfl, hq, hp, q⟩
  rw [Vals.ref1 r]
  obtain ⟨its, rv, pl, hz⟩ := I.list hq
  have ei := refs_at rv
  subst ei
  rw [List.length_map] at hz
  obtain ⟨tr, rel, pt⟩ := trips_of I hp
  have hl : ps.length = tr.length := Paired.length pt
  have nn : H s.heap.objs.size = none := I.hok.fresh (Nat.le_refl _)
  have hm : (s.heap.objs.size == sysModules) = false := beq_eq_false_iff_ne.mpr (Nat.ne_of_gt I.big)
  refine call_dict_pairsH (knd := tupleKind (mixKind X.prog X.w)) (ps := tr) (PairArg.list a (ps.map Value.ref).toArray (fun j => ps.getD j 0) (tr.map fun x => (Value.ref x.2.1, x.2.2))) (I.ok.hd hcalm) ?_ ⟨pl, ?_⟩ ⟨by rw [List.length_map], fun i key v h => ?_⟩ (fun h' hk x hx => ?_) (by rw [List.length_map, ← hl]; exact hz) fun h' tk d' k => ?_
  · show X.A.in1.in1.units < cLine
    simp only [units_in1]
    omega
  · refine ⟨by simp [hl], fun j key v h => ?_⟩
    rw [List.getElem?_map] at h
    obtain ⟨x, hx, e⟩ := Option.map_eq_some_iff.mp h
    cases e
    obtain ⟨p, h1, o, n, ho, hc, hd⟩ := paired_at pt hx
    refine ⟨by simp [h1, List.getD], .inl ?_⟩
    have e2 : ps.getD j 0 = p := by rw [List.getD_eq_getElem?_getD, h1]; rfl
    show s.heap.IsTuple (ps.getD j 0) _
    rw [e2]
    exact ⟨o, ho, hc, n, hd⟩
  · have h : (tr.map fun x => (Value.ref x.2.1, x.2.2))[i]? = some (key, v) := h
    rw [List.getElem?_map] at h
    obtain ⟨x, hx, e⟩ := Option.map_eq_some_iff.mp h
    cases e
    exact ⟨x.1, x.2.1, hx, rfl⟩
  · obtain ⟨o, its, n, ho, hc, hd, hi⟩ := key_of I.hok (kt_at rel x hx)
    exact ⟨o, its, n, hk _ _ (Nat.ne_of_lt (Heap.lt_size ho)) (fun z => by cases z) ho, hc, hd, hi⟩
  · have rel2 : KT (upd H s.heap.objs.size (.dT (mergeT [] kvs))) (mergeT [] kvs) (storedAllH [] tr) := KT.keeps (kt_merge rel .nil) fun b ys e => by
      rw [upd_ne fun c => by rw [c, nn] at e; cases e]; exact e
    have hlen : (mergeT [] kvs).length ≤ sizeLine := by
      have := length_mergeT kvs []
      have h2 := Paired.length rel
      rw [List.length_nil] at this
      omega
    exact ⟨.ref s.heap.objs.size, _, I.laid (t' := tk) (fun b o e => k b o (fun z => by cases z) e) (Nat.le_refl _) (dt_new hlen hm rel2 d'), rfl, q _ nn⟩
end L2
namespace RL
open PySem PySem.Spec PyProof.Rows L2 Rep
section
variable {X : Cx} {σ : St} {G H : Hp} {P : PV} {e : Expr} {pos p : Pos} {α : Type} {r2 : Rep α}
theorem merge_pairT {K : PySem.W.Frag} : ∀ {ps : List ((Int × Int) × V)} {xs : List ((Int × Int) × α)} {qs : List ((Int × Int) × V)} {ys : List ((Int × Int) × α)}, PairD K G ps xs → PairD K G qs ys →
    ∃ rs : List ((Int × Int) × V), mergeT (qs.map fun p => (([Sum.inl p.1.1, Sum.inl p.1.2] : List Key), p.2)) (ps.map fun p => ([Sum.inl p.1.1, Sum.inl p.1.2], p.2)) = rs.map (fun p => ([Sum.inl p.1.1, Sum.inl p.1.2], p.2)) ∧ PairD K G rs (xs.foldl (fun acc kv => dput acc kv.1 kv.2) ys)
  | [], [], qs, ys, .nil, h => ⟨qs, rfl, h⟩
  | p :: ps, x :: xs, qs, ys, .cons r t, h => by
    have e1 : p.1 = x.1 := r.1
    obtain ⟨rs, e, pr⟩ := merge_pairT (qs := putK qs p.1 p.2) (ys := dput ys x.1 x.2) t (by rw [e1]; exact pairD_put h r.2)
    refine ⟨rs, ?_, pr⟩
    rw [← e]
    show mergeT (putK (qs.map fun p => (([Sum.inl p.1.1, Sum.inl p.1.2] : List Key), p.2)) [Sum.inl p.1.1, Sum.inl p.1.2] p.2) _ = _
    rw [map_put (f := fun k : Int × Int => ([Sum.inl k.1, Sum.inl k.2] : List Key)) (fun a b h => by
      injection h with h1 h2
      injection h2 with h2 _
      exact Prod.ext (Sum.inl.inj h1) (Sum.inl.inj h2)) qs p.1 p.2]
theorem unpairsT {K : PySem.W.Frag} {H : Hp} (s : Same G H) : ∀ {us : List V} {xs : List ((Int × Int) × α)}, Paired (rep K G) us xs → ∃ (qs : List Addr) (ps : List ((Int × Int) × V)), us = qs.map V.ref ∧ PairD K G ps xs ∧
    Paired (fun p (kv : List Key × V) => ∃ b, SqT K H p [V.ref b, kv.2] ∧ H b = some (.tup (kv.1.map kV))) qs (ps.map fun p => ([Sum.inl p.1.1, Sum.inl p.1.2], p.2))
  | _, _, .nil => ⟨[], [], rfl, .nil, .nil⟩
  | _, _, .cons (b := x) r t => by
    obtain ⟨qs, ps, e1, e2, e3⟩ := unpairsT s t
    obtain ⟨q, u, w, e, g, p1, p2⟩ := r
    obtain ⟨b, u1, u2, e5, g5, p5, p6⟩ := p1
    have p5 : u1 = V.int _ := p5
    have p6 : u2 = V.int _ := p6
    subst e5 p5 p6
    exact ⟨q :: qs, (x.1, w) :: ps, by rw [e, e1]; rfl, .cons ⟨rfl, p2⟩ e2, .cons ⟨b, .of (s _ _ g), s _ _ g5⟩ e3⟩
/-- dict(e), e a list of pairs ((int, int), ..) -/
theorem evND_pairsT {p : Pos} {xs : List ((Int × Int) × α)} [mc : MonoC P] [S : AsSeq X.K P ((Int × Int) × α) instRepProd xs] (hc : X.calm = true) (hu : X.A.units + 64 < cLine) (B : Bl X "dict") (h : EvP X e σ G H P) (he : starEach [e] X.env = (false, eval e X.env) :: starEach [] X.env := by rfl) :
    EvND X (.Call (.Name "dict" p) [e] [] pos) σ G H (⟨dmerge xs⟩ : Dct (Int × Int) α) :=
  evND_of (pe_callTy (cr_dictPT hc hu) B.g B.m PyProof.Rows.boot_dict (pa_cons pe_sem pa_nil he) (by decide) (by decide) he rfl) fun G1 H1 x1 Q q => h G1 H1 x1 _ fun G2 H2 v x _ pv => by
    obtain ⟨a, us, e, g, pr⟩ := S.seq _ _ _ x.s pv
    obtain ⟨qs, ps, e1, e2, e3⟩ := unpairsT x.s pr
    obtain ⟨rs, e4, e5⟩ := merge_pairT (G := G2) (qs := []) (ys := []) e2 .nil
    refine ⟨a, qs, _, by rw [e], by rw [← e1]; exact g, e3, fun p hp => ?_⟩
    rw [show mergeT [] (ps.map fun p => (([Sum.inl p.1.1, Sum.inl p.1.2] : List Key), p.2)) = _ from e4]
    exact q G2 _ p (x.newH hp) (x.h.free hp) ⟨⟨rs, upd_same, e5⟩, x.s.free hp⟩
end
/-- p >= q of pairs -/
def geB (p q : Int × Int) : Bool := !(if p.1 = q.1 then decide (p.2 < q.2) else decide (p.1 < q.1))
theorem dlt_pairF (p q : Int × Int) : PySem.W.dataLt (Dat.toD p) (Dat.toD q) = (if p.1 = q.1 then decide (p.2 < q.2) else decide (p.1 < q.1)) := by
  show PySem.W.dataLt (.tuple [.int p.1, .int p.2]) (.tuple [.int q.1, .int q.2]) = _
  rw [PySem.W.dataLt_pair (by simp [PySem.W.alike]) (by simp [PySem.W.alike])]
  have e : PyData.eqv (.int p.1) (.int q.1) = decide (p.1 = q.1) := Dat.eqv (α := Int) p.1 q.1
  have e2 : PyData.eqv (.int p.2) (.int q.2) = decide (p.2 = q.2) := Dat.eqv (α := Int) p.2 q.2
  rw [e, PySem.W.dataLt_int, PySem.W.dataLt_int]
  by_cases h : p.1 = q.1
  · rw [if_pos (by simpa using h), if_pos h, e2]
    by_cases h2 : p.2 = q.2
    · simp [h2]
    · simp [h2]
  · rw [if_neg (by simpa using h), if_neg h]
theorem op_geP {X : Cx} (hu : X.A.units + 64 < cLine) : OpR X (compareOp .GtE) (fun x y H Q => ∃ p q : Int × Int, Dp X.K H x (Dat.toD p) ∧ Dp X.K H y (Dat.toD q) ∧ Q (.bl (geB p q)) H) := by
  intro pins s σ H x y v u Q I rx ry h
  obtain ⟨p, q, hd, he, k⟩ := h
  obtain ⟨as, r1⟩ := Dp.reads I _ x v hd rx
  obtain ⟨bs, r2⟩ := Dp.reads I _ y u he ry
  refine PySem.W.ge_data r1 r2 (by simp [Dat.toD, PySem.W.alike, PySem.W.alikeAll]) (fun z => by cases z) ?_ ?_
  · have := Dat.dep p
    have e : Dat.deep (Int × Int) ≤ 64 := by decide
    omega
  · rw [dlt_pairF]
    exact ⟨.bl _, H, I, rfl, k⟩
theorem c_geP {X : Cx} {G H : Hp} {x y : Int × Int} (hu : X.A.units + 64 < cLine) : Bin X (compareOp .GtE) (Is X.K x) (Is X.K y) (Is X.K (geB x y)) G H :=
  ⟨_, op_geP hu, fun G1 H1 v u z _ e1 e2 Q q => ⟨x, y, Dat.dp z.s e1, Dat.dp z.s e2, q G1 H1 _ (Ext.refl z.s) rfl⟩⟩
theorem hu65 {A : Around} {k : Nat} (hr : Room k A) : A.units + 65 < cLine := by have := hr.un; omega
section
variable {X : Cx} {G H : Hp} {Pa Pb : PV} {α : Type}
/-- x in a list of data -/
def memD [id : DecidableEq α] (x : α) (xs : List α) : Bool := decide (x ∈ xs)
theorem memD_iff [id : DecidableEq α] {x : α} {xs : List α} : memD x xs = true ↔ x ∈ xs := decide_eq_true_iff
theorem c_inD {ir : Rep α} {id : DecidableEq α} {dd : Dat α} {x : α} {xs : List α} [A1 : AsDat X.K Pa α ir id dd x] [A2 : AsDat X.K Pb (List α) inferInstance inferInstance inferInstance xs] (hu : X.A.units + 65 < cLine) (h : Dat.deep (List α) ≤ 64 := by decide) : Bin X (compareOp .In) Pa Pb (Is X.K (memD x xs)) G H :=
  ⟨_, op_inD hu, fun G1 H1 v u z _ e1 e2 Q q => ⟨_, _, A1.dp _ _ _ z.s e1, A2.dp _ _ _ z.s e2, shaped_d (Nat.le_trans (Nat.le_succ _) h) x, shaped_d h xs, by rw [any_d]; exact q G1 H1 _ (Ext.refl z.s) rfl⟩⟩
theorem c_ninD {ir : Rep α} {id : DecidableEq α} {dd : Dat α} {x : α} {xs : List α} [A1 : AsDat X.K Pa α ir id dd x] [A2 : AsDat X.K Pb (List α) inferInstance inferInstance inferInstance xs] (hu : X.A.units + 65 < cLine) (h : Dat.deep (List α) ≤ 64 := by decide) : Bin X (compareOp .NotIn) Pa Pb (Is X.K (!memD x xs)) G H :=
  ⟨_, op_notInD hu, fun G1 H1 v u z _ e1 e2 Q q => ⟨_, _, A1.dp _ _ _ z.s e1, A2.dp _ _ _ z.s e2, shaped_d (Nat.le_trans (Nat.le_succ _) h) x, shaped_d h xs, by rw [any_d]; exact q G1 H1 _ (Ext.refl z.s) rfl⟩⟩
end
end RL

set_option Elab.async false
set_option linter.all false
set_option maxRecDepth 100000
set_option maxHeartbeats 4000000
/-! RXC: a comprehension whose element is refused at some turn: the error goes out through the block of names. -/
namespace RL
open PySem PySem.Spec PyProof.Rows L2 Rep
section
variable {P : Program} {w : World} {outer : List Env} {H : Hp} {s : Shared} {E : XK} {u : Value} {s' : Shared} {C : Addr} {o : Obj}
theorem cx_and (hC : s.heap.get? C = some o) (nC : H C = none) (c : L2.CX P w outer H s E u s') : L2.CX P w outer H s (fun k d H' => E k d H' ∧ H' C = none) u s' :=
  let ⟨a, B, H', k, d, e, fl, hok, ub, na, os, ag, hE⟩ := c; ⟨a, B, H', k, d, e, fl, hok, ub, na, os, ag, hE, ub.free C o hC nC⟩
theorem cx_keep (hC : s.heap.get? C = some o) (nC : H C = none) (nf : C ∉ frs outer) (c : L2.CX P w outer H s E u s') : s'.heap.get? C = some o :=
  let ⟨_, _, _, _, _, _, fl, _, ub, _⟩ := c; fl.1 C o (ub.keep C o hC nC nf)
end
/-- the object at C exchanged, where one stands -/
def xch (g : Heap) (C : Addr) (o : Obj) : Heap := if (g.get? C).isSome then g.update C (fun _ => o) else g
theorem xch_ne {g : Heap} {C b : Addr} {o : Obj} (h : b ≠ C) : (xch g C o).get? b = g.get? b := by
  unfold xch
  split
  · exact Heap.get?_update_other g _ (Ne.symm h)
  · rfl
theorem xch_at {g : Heap} {C : Addr} {o : Obj} (hf : o.isFreed = false) : (xch g C o).get? C = (g.get? C).map fun _ => o := by
  unfold xch
  cases e : g.get? C with
  | none => exact e
  | some q => exact Heap.get?_update_self (fun _ => o) e hf
section
variable {X : Cx} {W : WX} {ce : Env} {m0 : Str → Option Value} {u : Value} {s' : Shared}
/-- an error in the def's air, let go by the block of names at ce -/
theorem air_comp (tk : Takes X W) (hs : X.stack = X.env :: X.outer) (hf : X.env.frame = some X.env.locals) (hcf : ce.frame = X.env.frame) (hn : s'.heap.Ns ce.locals m0)
    (c1 : ce.locals ≠ X.env.locals) (c2 : ce.locals ∉ X.fs) (c3 : ce.locals ∈ X.ex ∨ X.s_0.heap.objs.size ≤ ce.locals) (c4 : ∀ x c, X.env.cells.lookup x = some c → c ≠ ce.locals) (c5 : ∀ p ∈ X.pn, p.1 ≠ ce.locals)
    (x : XE X (fun k d σ H => W k d σ H ∧ H ce.locals = none) u s') : notedBy (model X.prog X.w) X.A ce (CompFails (model X.prog X.w) X.A X.xe ce) u s' := by
  obtain ⟨a, B, sI, pins, σ, H, k, d, rfl, I, nb, up, sky, na, os, ag, w, nC⟩ := x
  have hfr : X.A.frames = some (X.env :: X.outer) := by rw [I.ok.frames, hs]
  have nst : ce.locals ∉ frs X.stack := fun z => by
    rcases List.mem_cons.mp (I.stkSub _ z) with z | z
    · exact c1 z
    · exact c2 z
  have sky2 := sky
  rw [hs] at sky2
  have key : ∀ h1, HandSPX.HeldZ B (X.env :: X.outer) a (Zc k d) X.env.locals h1 → s'.heap.UpToSlots h1 → CompFails (model X.prog X.w) X.A X.xe ce (.ref a) { s' with heap := h1 } := by
    intro h1 held up1
    obtain ⟨k1, k2, k3, oe, vs, T, oT, ts, he, hz, hd, hv1, hnT, hTe, hT, hdT, hv3⟩ := held
    have hn1 : h1.Ns ce.locals m0 := up1.ns hn
    refine ⟨m0, hn1, fun h2 m2 hn2 sb => ?_⟩
    have notF : ∀ {b : Addr} {o : Obj} {fs : Array Value}, h1.get? b = some o → o.data = .fields fs → b ≠ ce.locals := fun {b o fs} e dd z => by
      obtain ⟨o', es, ep, ho', hd', _⟩ := id hn1
      rw [z, ho'] at e
      cases e
      rw [hd'] at dd
      cases dd
    have aC := notF he hd
    have tC := notF hT hdT
    have he2 : h2.get? a = some oe := (sb.2 a aC).trans he
    have hT2 : h2.get? T = some oT := (sb.2 T tC).trans hT
    obtain ⟨oC, es, ep, hoC, hdC, _⟩ := id hn2
    have fC : oC.isFreed = false := Obj.isFreed_of_dict hdC
    have B1 : (xch B ce.locals oC).StaysIn h2 := fun b o e => by
      by_cases z : b = ce.locals
      · subst z
        rw [xch_at fC] at e
        cases q : B.get? ce.locals with
        | none => rw [q] at e; cases e
        | some _ => rw [q] at e; cases e; exact hoC
      · rw [xch_ne z] at e
        exact (sb.2 b z).trans (k1 b o e)
    have B2 : h2.FunFrames (xch B ce.locals oC) (X.env :: X.outer) := funFrames_none (Heap.FunFrames.sameBut sb hn2 k3) fun L hL => by
      have hL' : L ∈ frs X.stack := by rw [hs]; exact hL
      rw [xch_ne fun z => nst (by rw [← z]; exact hL')]
      exact (k3.mem hL).1
    have held2 : HandSPX.HeldZ (xch B ce.locals oC) (X.env :: X.outer) a (Zc k d) X.env.locals h2 :=
      ⟨B1, by rw [xch_ne aC]; exact k2, B2, oe, vs, T, oT, ts, he2, hz, hd, hv1, by rw [xch_ne tC]; exact hnT, hTe, hT2, hdT, hv3⟩
    unfold PySem.passOn
    refine wpAny_bind (wpAny_field he2 hd hv1 ?_)
    rw [if_neg (by simp), hcf, hf]
    refine wpAny_bind (HandSPX.setFlight_onZ held2 fun h3 held3 up3 => wpAny_throw ?_)
    have I0 : Inv X [] σ H sI := Inv.unpinned (pins := []) (pl := pins) (by simpa using I)
    have I1 : Inv X [] σ H { sI with heap := xch sI.heap ce.locals oC, toks := sI.toks } := I0.turned (it := ce.locals) (t' := sI.toks) (fun b o hb e => by rw [xch_ne hb]; exact e) nC c1 c3 c4 (by simpa using c5)
    refine tk _ _ ⟨a, xch B ce.locals oC, _, [], σ, H, k, d, rfl, I1, fun b o e hb => ?_, fun b o e hnf => ?_, .inr (.inr (by rw [hs]; exact held3)), na, os, ag, w⟩
    · have e : (xch sI.heap ce.locals oC).get? b = some o := e
      by_cases z : b = ce.locals
      · subst z
        rw [xch_at fC] at e ⊢
        cases q : sI.heap.get? ce.locals with
        | none => rw [q] at e; cases e
        | some p => rw [q] at e; cases e; rw [nb _ _ q nst]; rfl
      · rw [xch_ne z] at e ⊢
        exact nb b o e hb
    · have e : (xch sI.heap ce.locals oC).get? b = some o := e
      have go : ∃ sl, h2.get? b = some { o with slots := sl } := by
        by_cases z : b = ce.locals
        · subst z
          rw [xch_at fC] at e
          cases q : sI.heap.get? ce.locals with
          | none => rw [q] at e; cases e
          | some p => rw [q] at e; cases e; exact ⟨_, hoC⟩
        · rw [xch_ne z] at e
          obtain ⟨sl, e1⟩ := (up.trans up1) b o e hnf
          exact ⟨sl, (sb.2 b z).trans e1⟩
      obtain ⟨sl, e1⟩ := go
      obtain ⟨sl2, e2⟩ := up3 b _ e1 hnf
      exact ⟨sl2, e2⟩
  show wpAny _ _ (noteFrame (.ref a) ce) _ _ s'
  rw [noteFrame_env _ hcf]
  rcases sky2 with ⟨hB, hne, hl, oe, vs, he, hz, hd, h1⟩ | fl | hh
  · exact HandSPX.look_newZ Zc.steady hfr hl hf he hB hne hd h1 hz key
  · exact HandSPX.looks_onZ Zc.steady hfr hf fl key
  · exact HandSPX.againZ hf hh.2.2.2 (key s'.heap hh (Heap.UpToSlots.refl _))
end
/-! ### a comprehension whose element is refused at some turn -/
theorem Inv.air {X : Cx} {pins : List (Addr × Obj)} {σ : St} {H : Hp} {s : Shared} {E : Value → Shared → Prop} (I : Inv X pins σ H s) : Inv { X with xe := E } pins σ H s :=
  ⟨⟨I.ok.mod, I.ok.kind, I.ok.glob, I.ok.blt, I.ok.above, I.ok.inj, I.ok.has, I.ok.cab, I.ok.hd, I.ok.frames, I.ok.stk, I.ok.exf, I.ok.bs, I.ok.bsz, I.ok.noex, I.ok.exfs, I.ok.funs, I.ok.frf⟩, I.os, I.bare, I.base, I.loc, I.cell, I.free, I.freeC, I.pin, I.hok, I.len⟩
/-- the block's context, an air of its own -/
abbrev InE (X : Cx) (scope : Scope) (s : Shared) (H0 : Hp) (C : Addr) (cl : List (Str × Addr)) (fp : List Addr) (E : Value → Shared → Prop) : Cx :=
  { X.blk s H0 scope (compEnvC scope cl C X.env) fp with xe := E }
def PassE (X : Cx) (scope : Scope) (s : Shared) (H0 : Hp) (C : Addr) (cl : List (Str × Addr)) (fp : List Addr) (E : Value → Shared → Prop) (E1 : XK) : Prop :=
  ∀ τ, PassesAt (L2.CX X.prog X.w) (InE X scope s H0 C cl fp E) τ E1
def tLcR (wi : TI) (g : TG) (te : TE) (vs : List Nat) (σ : St) (H : Hp) : Prop := wi σ H fun J H1 => ∀ D, H1 D = none → ∃ W : Nat → Nat → Hp → Prop, (∃ m, W 0 m (upd H1 D (.lst []))) ∧ ∀ i m H, W i m H →
  J.go i H ∧ ∃ Nx : Hp → Prop, (∀ H', Nx H' → ∃ m', m' < m ∧ W (i + 1) m' H') ∧ ∀ x H', J.yld i H x H' → g x (wipe σ vs) H' fun σ2 H2 => wipe σ2 vs = wipe σ vs ∧
    te σ2 H2 fun y H4 => ∃ acc, H4 D = some (.lst acc) ∧ acc.length < sizeLine ∧ Nx (upd H4 D (.lst (acc ++ [y])))
section
variable {X : Cx}
theorem lcR_core {pins : List (Addr × Obj)} {s : Shared} {σ : St} {H : Hp} {elt tg iter : Expr} {scope : Scope} {own : List (Str × Nat)} {pos pos' : Pos} {wi : TI} {g : TG} {te : TE} {W0 : WX} {Qf : Value → Shared → Prop}
    (hc : X.calm = true) (hN : X.N.Nodup) (I : Inv X pins σ H s) (hi : PI X tg iter wi) (ok : BlkOk X.N X.env.scope scope own)
    (hg : ∀ (s : Shared) (H : Hp) (C : Addr) (cl : List (Str × Addr)) (fp : List Addr), PG (X.blk s H scope (compEnvC scope cl C X.env) fp) tg g)
    (tk : Takes X W0) (hst : X.stack = X.env :: X.outer) (hfr : X.env.frame = some X.env.locals)
    (he : ∀ (s : Shared) (H : Hp) (C : Addr) (cl : List (Str × Addr)) (fp : List Addr) (E : Value → Shared → Prop), PassE X scope s H C cl fp E (fun k d H => W0 k d σ H) → PE (InE X scope s H C cl fp E) elt te) (hs : ∀ x, foldedSetIterable iter X.env x = pure x)
    (h : tLcR wi g te (own.map (·.2)) σ H) :
    wpAny (model X.prog X.w) X.A (comprehension (.ListComp elt [⟨tg, iter, [], 0⟩] scope pos) scope X.env pos' (newList []) false (eval iter X.env) none) Qf X.xe s := by
  have hfree : ∀ y ∈ scope.names, y.2 = .free → ∃ c, X.env.cells.lookup y.1 = some c := fun y hy e => by
    rcases ok.free y hy e with k | k
    · exact I.ok.has _ (.inl k)
    · exact I.ok.has _ (.inr k)
  refine comprehension_at (use := none) rfl hs (closure_ok hfree) ok.kind (fun y hy e => by rw [ok.uniq y hy, e])
    (thn (hi.run pins s σ H _ I h) fun xv s1 hx => thn hx fun itv s2 h2 => ?_)
  obtain ⟨it, fp, tn, J, H2, e, I2, T, st2, f2, q⟩ := h2
  subst e
  refine wpAny_newObj_type (newEnv_comp ?_) (by show 0 ≤ sizeLine; decide)
  generalize hD : s2.heap.objs.size = D
  have hDn : H2 D = none := I2.hok.fresh (Nat.le_of_eq hD)
  obtain ⟨W, ⟨m0, w0⟩, turn⟩ := q D hDn
  generalize hs3 : ({ s2 with heap := s2.heap.push { cls := .type "list", data := .seq ([] : List Value).toArray } } : Shared) = s3
  have I3 : Inv X pins σ (upd H2 D (.lst [])) s3 := by
    rw [← hs3]
    refine I2.laid (t' := s2.toks) (fun b o e => Heap.get?_push_of_some _ e) (Nat.le_of_eq hD) ⟨Nat.zero_le _, [], 0, .nil, ?_⟩
    rw [← hD]
    exact Heap.get?_push_size _ rfl
  have h3 : s3.heap = s2.heap.push { cls := .type "list", data := .seq ([] : List Value).toArray } := by rw [← hs3]
  have sz : ∀ b ∈ fp, b < s2.heap.objs.size := fun b hb => by
    obtain ⟨o, e, _⟩ := T.obj _ _ st2 b hb
    exact Heap.lt_size e
  have f3 : ∀ b ∈ fp, FpOk X pins (upd H2 D (.lst [])) b ∧ b < s3.heap.objs.size := fun b hb => by
    have hlt := sz b hb
    refine ⟨⟨?_, (f2 b hb).2⟩, by rw [h3, Heap.size_push]; exact Nat.lt_succ_of_lt hlt⟩
    rw [upd_ne (by rw [← hD]; exact Nat.ne_of_lt hlt)]
    exact (f2 b hb).1
  have st3 : tn 0 s3.heap := T.keep _ _ _ st2 fun b _ o e => by rw [h3]; exact Heap.get?_push_of_some _ e
  have I4 := block_start I3 ok hN f3
  have pg := hg s3 (upd H2 D (.lst [])) s3.heap.objs.size (cellsFrom (s3.heap.objs.size + 1) scope.names (cloFrom X.env.cells scope.names [])) fp
  have pe := he s3 (upd H2 D (.lst [])) s3.heap.objs.size (cellsFrom (s3.heap.objs.size + 1) scope.names (cloFrom X.env.cells scope.names [])) fp
    (notedBy (model X.prog X.w) X.A (compEnvC scope (cellsFrom (s3.heap.objs.size + 1) scope.names (cloFrom X.env.cells scope.names [])) s3.heap.objs.size X.env) (CompFails (model X.prog X.w) X.A X.xe (compEnvC scope (cellsFrom (s3.heap.objs.size + 1) scope.names (cloFrom X.env.cells scope.names [])) s3.heap.objs.size X.env)))
  show codeAny _ _ (.compStart (.ListComp elt [⟨tg, iter, [], 0⟩] scope pos) 0 (.ref it) (.ref D) (compEnvC scope (cellsFrom (s3.heap.objs.size + 1) scope.names (cloFrom X.env.cells scope.names [])) s3.heap.objs.size X.env)) (compEnds (model X.prog X.w) X.A X.xe none Qf (.ref D) (compEnvC scope (cellsFrom (s3.heap.objs.size + 1) scope.names (cloFrom X.env.cells scope.names [])) s3.heap.objs.size X.env)) { s3 with heap := pushCells (s3.heap.push { cls := .type "dict", data := .dict #[] }) scope.names }
  have nfp : ∀ b ∈ fp, (upd H2 D (.lst [])) b = none := fun b hb => (f3 b hb).1.1
  have cL : (compEnvC scope (cellsFrom (s3.heap.objs.size + 1) scope.names (cloFrom X.env.cells scope.names [])) s3.heap.objs.size X.env).locals = s3.heap.objs.size := rfl
  have cF : (compEnvC scope (cellsFrom (s3.heap.objs.size + 1) scope.names (cloFrom X.env.cells scope.names [])) s3.heap.objs.size X.env).frame = X.env.frame := rfl
  generalize hcl : cellsFrom (s3.heap.objs.size + 1) scope.names (cloFrom X.env.cells scope.names []) = cl at I4 pg pe cL cF ⊢
  generalize hH3 : upd H2 D (.lst []) = H3 at I3 I4 pg pe w0 nfp f3
  generalize hs4 : ({ s3 with heap := pushCells (s3.heap.push { cls := .type "dict", data := .dict #[] }) scope.names } : Shared) = s4 at I4 ⊢
  have st4 : tn 0 s4.heap := T.keep _ _ _ st3 fun b _ o e => by rw [← hs4]; exact pushCells_keeps _ _ _ _ (Heap.get?_push_of_some _ e)
  have pe := pe (by
    intro τ pins' H' s' e s'' Jv c
    have J7 : Inv X pins σ H' s' := I3.call' (ch := fp) Jv.os Jv.base Jv.hok Jv.bare fun b hb => ⟨(f3 b hb).1.2.2.2.1, (f3 b hb).1.2.1, (f3 b hb).1.2.2.2.2.1, (f3 b hb).1.2.2.2.2.2⟩
    obtain ⟨m, hn, _⟩ := Jv.loc
    obtain ⟨o, es, ep, ho, r⟩ := id hn
    have nC : H' s3.heap.objs.size = none := Jv.free
    obtain ⟨f0, f1, f2', f3', f4, f5⟩ := I3.fpOk (H' := H') (Nat.le_refl _) nC
    have nf : s3.heap.objs.size ∉ frs X.stack := fun z => by
      rcases List.mem_cons.mp (I3.stkSub _ z) with z | z
      · exact f1 z
      · exact f2' z
    have x : XE X (fun k d σ' H => W0 k d σ' H ∧ H s3.heap.objs.size = none) e s'' := XE.of_call J7 (fun _ _ _ h => h) (cx_and (C := s3.heap.objs.size) ho nC c)
    exact air_comp (ce := compEnvC scope cl s3.heap.objs.size X.env) (m0 := m) tk hst hfr rfl ⟨o, es, ep, cx_keep (C := s3.heap.objs.size) ho nC nf c, r⟩ f1 f2' f3' f4 (fun p hp => f5 p (List.mem_append_left _ hp)) x)
  have stat : ∀ {σ' : St} {H' : Hp} {s' : Shared}, Inv (X.blk s3 H3 scope (compEnvC scope cl s3.heap.objs.size X.env) fp) [] σ' H' s' → (∀ b ∈ fp, H' b = none) → ∀ b ∈ fp, FpOk (X.blk s3 H3 scope (compEnvC scope cl s3.heap.objs.size X.env) fp) [] H' b := fun {σ' H' s'} I' hn b hb =>
    ⟨hn b hb, (I'.ok.exf b hb).1, I'.ok.exfs b hb, .inl hb, fun x c e => (I'.ok.exf b hb).2 x c e, fun p hp => absurd (show p ∈ ([] : List (Addr × Obj)) ++ [] from hp) (by simp)⟩
  have loop : codeAny (model X.prog X.w) X.A (.compLoop (.ListComp elt [⟨tg, iter, [], 0⟩] scope pos) 0 (.ref it) (.ref D) (compEnvC scope cl s3.heap.objs.size X.env)) (compEnds (model X.prog X.w) X.A X.xe none Qf (.ref D) (compEnvC scope cl s3.heap.objs.size X.env)) s4 := by
    refine compLoop_any (fun n s' => ∃ i H', Inv (X.blk s3 H3 scope (compEnvC scope cl s3.heap.objs.size X.env) fp) [] (wipe σ (own.map (·.2))) H' s' ∧ tn i s'.heap ∧ (∀ b ∈ fp, H' b = none) ∧ W i n H') ?_ m0 ⟨0, H3, I4, st4, nfp, w0⟩
    rintro n s5 ⟨i, H5, I5, st5, n5, w5⟩
    obtain ⟨go, Nx, hNx, step⟩ := turn i n H5 w5
    have ti := T.item (X.blk s3 H3 scope (compEnvC scope cl s3.heap.objs.size X.env) fp) rfl rfl rfl hc i [] s5 _ H5 (fun _ _ => False) I5 (stat I5 n5) st5 go
    refine thnF ti fun r s6 ⟨u, hr, h6⟩ => ?_
    subst hr
    refine thnF h6 fun _ s7 ⟨x, H7, I7, r7, y7, st7, n7⟩ => ?_
    have I7' := I7.pinned (stat I7 n7) (T.obj _ _ st7)
    refine thnF (pg.run _ s7 _ H7 x u _ I7' r7 (step x H7 y7)) fun _ s8 ⟨σ8, H8, I8, hw8, q8⟩ => ?_
    refine wpAny_tests_nil ?_
    have fin : ∀ {s' : Shared} {H' : Hp}, Inv (X.blk s3 H3 scope (compEnvC scope cl s3.heap.objs.size X.env) fp) ([] ++ pinsAt fp s7.heap) σ8 H' s' → Nx H' → ∃ m, m < n ∧ ∃ i H', Inv (X.blk s3 H3 scope (compEnvC scope cl s3.heap.objs.size X.env) fp) [] (wipe σ (own.map (·.2))) H' s' ∧ tn i s'.heap ∧ (∀ b ∈ fp, H' b = none) ∧ W i m H' := fun {s' H'} I' nx => by
      obtain ⟨m', hm, w'⟩ := hNx H' nx
      have pin' : ∀ b ∈ fp, ∀ o, s7.heap.get? b = some o → s'.heap.get? b = some o ∧ H' b = none := fun b hb o e =>
        let z := I'.pin (b, o) (List.mem_append_right _ (List.mem_append_right _ (mem_pinsAt hb e)))
        ⟨z.1, z.2.1⟩
      have hl : (wipe σ (own.map (·.2))).length = σ8.length := by rw [← hw8, wipe_length]
      refine ⟨m', hm, i + 1, H', (I'.unpinned (pins := [])).weak hl (fun j v e => ?_), T.keep _ _ _ st7 fun b hb o e => (pin' b hb o e).1, fun b hb => ?_, w'⟩
      · rw [← hw8] at e
        exact (wipe_some e).1
      · obtain ⟨o, e, _⟩ := T.obj _ _ st7 b hb
        exact (pin' b hb o e).2
    rw [if_pos rfl]
    refine thn (pe.run _ s8 σ8 H8 _ (RL.Inv.air I8) q8) fun z s10 ⟨yv, H10, I10, r10, acc, hD10, hz10, nx⟩ => ?_
    exact app_ok (X := X.blk s3 H3 scope (compEnvC scope cl s3.heap.objs.size X.env) fp) (RL.Inv.air (E := fun _ _ => False) I10) hD10 hz10 r10 fun s11 I11 => fin I11 nx
  exact codeAny_compStart_list loop (T.self X.A 0 _ _ _ st4 loop)
end
/-! .. over data -/
section
variable {X : Cx} {σ : St} {G H : Hp} {W0 : WX} {elt iter : Expr} {scope : Scope} {own : List (Str × Nat)} {pos p : Pos} {α β : Type} [Rep α] [Rep β]
def lcER (X : Cx) (scope : Scope) (elt : Expr) (W0 : WX) (σ0 : St) : TE := fun σ H Q => ∀ s H0 C cl fp E, PassE X scope s H0 C cl fp E (fun k d H => W0 k d σ0 H) → tE (InE X scope s H0 C cl fp E) elt σ H Q
theorem lc_goR {xs : List α} {k0 i0 : Nat} {f : α → β} {vs : List Nat} {wi : TI} (hk : k0 < xs.length)
    (hi : ∀ G1 H1, Ext G H G1 H1 → ∀ R : It → Hp → Prop, (∀ J G2 H2, Ext G1 H1 G2 H2 → xs.length ≤ sizeLine → WalkOf X.K J G2 xs → R J H2) → wi σ H1 R) (hw : ∀ v, wipe ((wipe σ vs).set i0 (some v)) vs = wipe σ vs)
    (he : ∀ x v G1 H1 j, j < k0 → xs[j]? = some x → Ext G H G1 H1 → rep X.K G1 v x → ∀ s H0 C cl fp E, Ev (InE X scope s H0 C cl fp E) elt ((wipe σ vs).set i0 (some v)) G1 H1 (f x))
    (hr : ∀ x v G1 H1, xs[k0]? = some x → Ext G H G1 H1 → rep X.K G1 v x → ∀ s H0 C cl fp E, PassE X scope s H0 C cl fp E (fun k d H => W0 k d σ H) → EvR (InE X scope s H0 C cl fp E) elt ((wipe σ vs).set i0 (some v)) H1)
    (s0 : Same G H) : tLcR wi (gName i0) (lcER X scope elt W0 σ) vs σ H := by
  refine hi G H (Ext.refl s0) _ fun J G2 H2 x2 hl hwk D hD => ?_
  let Pv : Nat → Hp → Prop := fun i H' => ∃ G' acc, Ext G H G' H' ∧ Same G2 G' ∧ G' D = none ∧ H' D = some (.lst acc) ∧ acc.length ≤ i
  have hD1 : H D = none := x2.h.free hD
  refine ⟨fun i m H' => m = xs.length - i ∧ i ≤ k0 ∧ Pv i H', ⟨xs.length, rfl, Nat.zero_le _, G2, [], x2.newH hD, Same.refl _, x2.s.free hD, upd_same, Nat.zero_le _⟩, ?_⟩
  rintro i m H' ⟨rfl, hi', G', acc, x', sg, gD, eD, hacc⟩
  obtain ⟨go, stop, yld⟩ := hwk G' H' sg x'.s
  have hlt : i < xs.length := Nat.lt_of_le_of_lt hi' hk
  have hx : xs[i]? = some xs[i] := List.getElem?_eq_getElem hlt
  by_cases hik : i < k0
  · refine ⟨go i hlt, Pv (i + 1), fun H'' p => ⟨_, by omega, rfl, hik, p⟩, fun v H'' y => ?_⟩
    obtain ⟨G'', x'', rv⟩ := yld i _ v H'' hx y
    have gD2 : G'' D = none := x''.off gD eD
    have eD2 : H'' D = some (.lst acc) := x''.h _ _ eD
    refine ⟨hw v, fun s1 H01 C1 cl1 fp1 E hp => ?_⟩
    refine he _ v G'' H'' i hik hx (x'.trans x'') rv s1 H01 C1 cl1 fp1 E G'' H'' (Ext.refl x''.s) _ fun G4 H4 w x4 _ rw' => ?_
    have gD4 : G4 D = none := x4.off gD2 eD2
    exact ⟨acc, x4.h _ _ eD2, Nat.lt_of_le_of_lt hacc (Nat.lt_of_lt_of_le hlt hl), G4, acc ++ [w], (x'.trans (x''.trans x4)).wr hD1 gD4, (sg.trans x''.g).trans x4.g, gD4, upd_same, by rw [List.length_append]; exact Nat.succ_le_succ hacc⟩
  · have e : i = k0 := by omega
    subst e
    refine ⟨go i hlt, fun _ => False, fun _ z => z.elim, fun v H'' y => ?_⟩
    obtain ⟨G'', x'', rv⟩ := yld i _ v H'' hx y
    exact ⟨hw v, fun s1 H01 C1 cl1 fp1 E hp => hr _ v G'' H'' hx (x'.trans x'') rv s1 H01 C1 cl1 fp1 E hp _⟩
/-- [elt for n in iter], elt refused at the turn k0 -/
theorem evR_lc {xs : List α} {n : Str} {np : Pos} {i0 : Nat} (f : α → β) (k0 : Nat) (hk : k0 < xs.length) (hc : X.calm = true) (hN : X.N.Nodup) (hi : EvI X (.Name n np) iter σ G H xs) (own : List (Str × Nat)) (ok : BlkOk X.N X.env.scope scope own)
    (hg : ∀ (s : Shared) (H : Hp) (C : Addr) (cl : List (Str × Addr)) (fp : List Addr), PG (X.blk s H scope (compEnvC scope cl C X.env) fp) (.Name n np) (gName i0))
    (tk : Takes X W0) (hst : X.stack = X.env :: X.outer) (hfr : X.env.frame = some X.env.locals) (s0 : Same G H)
    (he : ∀ x v G1 H1 j, j < k0 → xs[j]? = some x → Ext G H G1 H1 → rep X.K G1 v x → ∀ s H0 C cl fp E, Ev (InE X scope s H0 C cl fp E) elt ((wipe σ (own.map (·.2))).set i0 (some v)) G1 H1 (f x))
    (hr : ∀ x v G1 H1, xs[k0]? = some x → Ext G H G1 H1 → rep X.K G1 v x → ∀ s H0 C cl fp E, PassE X scope s H0 C cl fp E (fun k d H => W0 k d σ H) → EvR (InE X scope s H0 C cl fp E) elt ((wipe σ (own.map (·.2))).set i0 (some v)) H1)
    (hw : ∀ v, wipe ((wipe σ (own.map (·.2))).set i0 (some v)) (own.map (·.2)) = wipe σ (own.map (·.2)) := by intro _; rfl) (hs : ∀ x, foldedSetIterable iter X.env x = pure x := by intro _; rfl) :
    EvR X (.ListComp elt [⟨.Name n np, iter, [], 0⟩] scope pos) σ H := by
  obtain ⟨wi, pi, hi⟩ := hi
  refine fun Q => .mk fun pins s I => ?_
  rw [eval_ListComp]
  exact lcR_core hc hN I pi ok hg tk hst hfr (fun s H C cl fp E hp => ⟨fun pins s' _ _ _ I h => (h s H C cl fp E hp).run pins s' I⟩) hs (lc_goR (f := f) hk hi hw he hr s0)
/-- a call that is refused, its error passed on by the place's own rule -/
theorem evR_c1P {γ : Type} [Rep γ] {Y : Cx} {τ : St} {G1 H1 : Hp} {k : Nat} {n : Str} {e1 : Expr} {x1 : γ} {C : Addr} {pre : γ → Prop} {E1 : XK} (c : Cal Y.prog Y.w Y.K Y.mg Y.base k n (SpR1 Y.K pre C)) (hr : Room k Y.A) (hg : Gl Y n)
    (hx : ∀ τ, PassesAt (L2.CX Y.prog Y.w) Y τ E1) (s0 : Same G1 H1) (h1 : Ev Y e1 τ G1 H1 x1) (hp : pre x1) (w : ∀ G2 H2, Ext G1 H1 G2 H2 → E1 (.ref C) none H2)
    (hdb : (n == ("__debug__" : Str)) = false := by decide) (he : starEach [e1] Y.env = (false, eval e1 Y.env) :: starEach [] Y.env := by rfl) : EvR Y (.Call (.Name n p) [e1] [] pos) τ H1 := by
  obtain ⟨f, fd, ps, F, hm, hk, hb⟩ := c.ex
  refine fun Q => .mk fun pins s I => ?_
  exact (pe_callS (E := fun _ => E1) F hr hg hm hk hb hx (pa_cons pe_sem pa_nil he) hdb he rfl).run pins s τ H1 Q I (h1 G1 H1 (Ext.refl s0) _ fun G2 H2 v x2 _ r => ⟨G2, v, x1, rfl, x2.s, r, hp, fun G3 H3 y => w G3 H3 (x2.trans y)⟩)
end
/-! ### by cases that are known -/
section
variable {X : Cx} {σ : St} {G H : Hp} {c a b e : Expr} {pos : Pos} {β : Type} [Rep β]
theorem ev_ifF {x : Bool} {y : β} (t : EvT X c σ G H x) (hx : x = false) (hb : Ev X b σ G H y) : Ev X (.IfExp c a b pos) σ G H y := by
  subst hx
  exact ev_if (u := y) (w := y) t (fun h => by cases h) (fun _ => hb)
theorem ev_ifT {x : Bool} {y : β} (t : EvT X c σ G H x) (hx : x = true) (ha : Ev X a σ G H y) : Ev X (.IfExp c a b pos) σ G H y := by
  subst hx
  exact ev_if (u := y) (w := y) t (fun _ => ha) (fun h => by cases h)
theorem paired_some {K : PySem.W.Frag} {G : Hp} {d : β} : ∀ {us : List V} {xs : List (Option β)}, (∀ x ∈ xs, x.isSome = true) → Paired (rep K G) us xs → Paired (rep K G) us (xs.map (·.getD d))
  | _, _, _, .nil => .nil
  | _, some x :: _, h, .cons r t => .cons r (paired_some (fun y hy => h y (List.mem_cons_of_mem _ hy)) t)
  | _, none :: _, h, .cons _ _ => by
    have := h none List.mem_cons_self
    cases this
/-- a list without None -/
theorem ev_unsome {xs : List (Option β)} {d : β} (hn : ∀ x ∈ xs, x.isSome = true) (h : Ev X e σ G H xs) : Ev X e σ G H (xs.map (·.getD d)) := fun G1 H1 x1 Q q =>
  h G1 H1 x1 Q fun G2 H2 v x2 l r => q G2 H2 v x2 l (let ⟨a, vs, e, g, p⟩ := r; ⟨a, vs, e, g, paired_some hn p⟩)
/-- one def, two promises by cases -/
theorem ev_c1U {α : Type} [Rep α] {fr1 fr2 : Bool} {k1 k2 : Nat} {n : Str} {e1 : Expr} {x1 : α} {p1 p2 : α → Prop} {P : Prop} [Decidable P] {f1 f2 : α → β} {p : Pos} (C1 : Cal X.prog X.w X.K X.mg X.base k1 n (Sp1 X.K fr1 p1 f1)) (r1 : Room k1 X.A) (C2 : Cal X.prog X.w X.K X.mg X.base k2 n (Sp1 X.K fr2 p2 f2)) (r2 : Room k2 X.A)
    (hg : Gl X n) (h1 : Ev X e1 σ G H x1) (hp : P → p1 x1) (hn : ¬ P → p2 x1) (hdb : (n == ("__debug__" : Str)) = false := by decide) (he : starEach [e1] X.env = (false, eval e1 X.env) :: starEach [] X.env := by rfl) : Ev X (.Call (.Name n p) [e1] [] pos) σ G H (if P then f1 x1 else f2 x1) := by
  by_cases h : P
  · rw [if_pos h]
    exact ev_c1 C1 r1 hg h1 (hp h) hdb he
  · rw [if_neg h]
    exact ev_c1 C2 r2 hg h1 (hn h) hdb he
end
/-! ### None, a text or ints -/
inductive TxL where
  | n
  | s (x : Str)
  | l (x : List Int)
instance instRepTxL : Rep TxL where
  rep K G v x := match x with
    | .n => v = V.non
    | .s x => rep K G v x
    | .l x => rep K G v x
  up {K G G' v x} s h := match x, h with
    | .n, h => h
    | .s _, h => up (α := Str) s h
    | .l _, h => up (α := List Int) s h
def TxL.gl : TxL → List Int
  | .l x => x
  | _ => []
def TxL.gs : TxL → Str
  | .s x => x
  | _ => ""
section
variable {X : Cx} {σ : St} {G H : Hp} {e e1 : Expr} {pos p : Pos}
theorem ev_txN (h : Ev X e σ G H ()) : Ev X e σ G H TxL.n := h
theorem ev_txS {x : Str} (h : Ev X e σ G H x) : Ev X e σ G H (TxL.s x) := h
theorem ev_txL {x : List Int} (h : Ev X e σ G H x) : Ev X e σ G H (TxL.l x) := h
theorem ev_gl {x : TxL} (hx : x = .l x.gl) (h : Ev X e σ G H x) : Ev X e σ G H x.gl := by rw [hx] at h; exact h
theorem ev_gs {x : TxL} (hx : x = .s x.gs) (h : Ev X e σ G H x) : Ev X e σ G H x.gs := by rw [hx] at h; exact h
/-- a def of two promises by cases, that answers True in both -/
theorem ev_c1T {α : Type} [Rep α] {fr1 fr2 : Bool} {k1 k2 : Nat} {n : Str} {x1 : α} {p1 p2 : α → Prop} {f1 f2 : α → Bool} (C1 : Cal X.prog X.w X.K X.mg X.base k1 n (Sp1 X.K fr1 p1 f1)) (r1 : Room k1 X.A) (C2 : Cal X.prog X.w X.K X.mg X.base k2 n (Sp1 X.K fr2 p2 f2)) (r2 : Room k2 X.A)
    (hg : Gl X n) (h1 : Ev X e1 σ G H x1) (hp : (p1 x1 ∧ f1 x1 = true) ∨ (p2 x1 ∧ f2 x1 = true)) (hdb : (n == ("__debug__" : Str)) = false := by decide) (he : starEach [e1] X.env = (false, eval e1 X.env) :: starEach [] X.env := by rfl) : Ev X (.Call (.Name n p) [e1] [] pos) σ G H true := by
  rcases hp with ⟨h, e⟩ | ⟨h, e⟩
  · rw [← e]
    exact ev_c1 C1 r1 hg h1 h hdb he
  · rw [← e]
    exact ev_c1 C2 r2 hg h1 h hdb he
end
end RL

set_option Elab.async false
set_option linter.all false
set_option maxRecDepth 100000
set_option maxHeartbeats 4000000
/-! RXH: a comprehension over range where an exception is handled. -/
namespace RL
open PySem PySem.Spec PyProof.Rows L2 Rep
section
variable {X : Cx} {pn pins : List (Addr × Obj)} {σ : St} {H : Hp} {s : Shared}
theorem inv_pn (I : Inv { X with pn := [] } (pn ++ pins) σ H s) : Inv { X with pn := pn } pins σ H s :=
  ⟨⟨I.ok.mod, I.ok.kind, I.ok.glob, I.ok.blt, I.ok.above, I.ok.inj, I.ok.has, I.ok.cab, I.ok.hd, I.ok.frames, I.ok.stk, I.ok.exf, I.ok.bs, I.ok.bsz, I.ok.noex, I.ok.exfs, I.ok.funs, I.ok.frf⟩, I.os, I.bare, I.base, I.loc, I.cell, I.free, I.freeC, fun p hp => I.pin p (List.mem_append_right _ hp), I.hok, I.len⟩
theorem inv_np (I : Inv { X with pn := pn } pins σ H s) : Inv { X with pn := [] } (pn ++ pins) σ H s :=
  ⟨⟨I.ok.mod, I.ok.kind, I.ok.glob, I.ok.blt, I.ok.above, I.ok.inj, I.ok.has, I.ok.cab, I.ok.hd, I.ok.frames, I.ok.stk, I.ok.exf, I.ok.bs, I.ok.bsz, I.ok.noex, I.ok.exfs, I.ok.funs, I.ok.frf⟩, I.os, I.bare, I.base, I.loc, I.cell, I.free, I.freeC, fun p hp => I.pin p (by simpa using hp), I.hok, I.len⟩
end
section
variable {X : Cx}
theorem lcH_core {pins : List (Addr × Obj)} {s : Shared} {σ : St} {H : Hp} {Q : VK} {elt tg iter : Expr} {ifs : List Expr} {scope : Scope} {own : List (Str × Nat)} {pos pos' : Pos} {wi : TI} {g : TG} {tt : TT} {te : TE} {Qf : Value → Shared → Prop}
    (hc : L2H.HotC X) (hN : X.N.Nodup) (I : Inv X pins σ H s) (hi : L2H.PIH X tg iter wi) (ok : BlkOk X.N X.env.scope scope own)
    (hg : ∀ (s : Shared) (H : Hp) (C : Addr) (cl : List (Str × Addr)) (fp : List Addr), PG (X.blk s H scope (compEnvC scope cl C X.env) fp) tg g)
    (ht : ∀ (s : Shared) (H : Hp) (C : Addr) (cl : List (Str × Addr)) (fp : List Addr), PTs (X.blk s H scope (compEnvC scope cl C X.env) fp) ifs tt)
    (he : ∀ (s : Shared) (H : Hp) (C : Addr) (cl : List (Str × Addr)) (fp : List Addr), PE (X.blk s H scope (compEnvC scope cl C X.env) fp) elt te) (hs : ∀ x, foldedSetIterable iter X.env x = pure x)
    (h : tLc wi g tt te (own.map (·.2)) σ H Q)
    (hRR : ∀ D C s' m H', Inv X pins σ H' s' → Q (.ref D) H' → s'.heap.Ns C m → FpOk X pins H' C → compPost (model X.prog X.w) X.A X.xe none Qf (.ref D) C (.ok .next) s') :
    wpAny (model X.prog X.w) X.A (comprehension (.ListComp elt [⟨tg, iter, ifs, 0⟩] scope pos) scope X.env pos' (newList []) false (eval iter X.env) none) Qf X.xe s := by
  have hfree : ∀ y ∈ scope.names, y.2 = .free → ∃ c, X.env.cells.lookup y.1 = some c := fun y hy e => by
    rcases ok.free y hy e with k | k
    · exact I.ok.has _ (.inl k)
    · exact I.ok.has _ (.inr k)
  refine wpAny_comprehension_free (use := none) rfl hs (closure_ok hfree) ok.kind (fun y hy e => by rw [ok.uniq y hy, e])
    (thn (hi.run pins s σ H _ I h) fun xv s1 hx => thn hx fun itv s2 h2 => ?_)
  obtain ⟨it, fp, tn, J, H2, e, I2, T, st2, f2, q⟩ := h2
  subst e
  refine wpAny_newObj_type (newEnv_comp ?_) (by show 0 ≤ sizeLine; decide)
  generalize hD : s2.heap.objs.size = D
  have hDn : H2 D = none := I2.hok.fresh (Nat.le_of_eq hD)
  obtain ⟨W, ⟨m0, w0⟩, turn⟩ := q D hDn
  generalize hs3 : ({ s2 with heap := s2.heap.push { cls := .type "list", data := .seq ([] : List Value).toArray } } : Shared) = s3
  have I3 : Inv X pins σ (upd H2 D (.lst [])) s3 := by
    rw [← hs3]
    refine I2.laid (t' := s2.toks) (fun b o e => Heap.get?_push_of_some _ e) (Nat.le_of_eq hD) ⟨Nat.zero_le _, [], 0, .nil, ?_⟩
    rw [← hD]
    exact Heap.get?_push_size _ rfl
  have h3 : s3.heap = s2.heap.push { cls := .type "list", data := .seq ([] : List Value).toArray } := by rw [← hs3]
  have sz : ∀ b ∈ fp, b < s2.heap.objs.size := fun b hb => by
    obtain ⟨o, e, _⟩ := T.obj _ _ st2 b hb
    exact Heap.lt_size e
  have f3 : ∀ b ∈ fp, FpOk X pins (upd H2 D (.lst [])) b ∧ b < s3.heap.objs.size := fun b hb => by
    have hlt := sz b hb
    refine ⟨⟨?_, (f2 b hb).2⟩, by rw [h3, Heap.size_push]; exact Nat.lt_succ_of_lt hlt⟩
    rw [upd_ne (by rw [← hD]; exact Nat.ne_of_lt hlt)]
    exact (f2 b hb).1
  have st3 : tn 0 s3.heap := T.keep _ _ _ st2 fun b _ o e => by rw [h3]; exact Heap.get?_push_of_some _ e
  have I4 := block_start I3 ok hN f3
  have pg := hg s3 (upd H2 D (.lst [])) s3.heap.objs.size (cellsFrom (s3.heap.objs.size + 1) scope.names (cloFrom X.env.cells scope.names [])) fp
  have pt := ht s3 (upd H2 D (.lst [])) s3.heap.objs.size (cellsFrom (s3.heap.objs.size + 1) scope.names (cloFrom X.env.cells scope.names [])) fp
  have pe := he s3 (upd H2 D (.lst [])) s3.heap.objs.size (cellsFrom (s3.heap.objs.size + 1) scope.names (cloFrom X.env.cells scope.names [])) fp
  show codeAny _ _ (.compStart (.ListComp elt [⟨tg, iter, ifs, 0⟩] scope pos) 0 (.ref it) (.ref D) (compEnvC scope (cellsFrom (s3.heap.objs.size + 1) scope.names (cloFrom X.env.cells scope.names [])) s3.heap.objs.size X.env)) (compPost (model X.prog X.w) X.A X.xe none Qf (.ref D) s3.heap.objs.size) { s3 with heap := pushCells (s3.heap.push { cls := .type "dict", data := .dict #[] }) scope.names }
  have nfp : ∀ b ∈ fp, (upd H2 D (.lst [])) b = none := fun b hb => (f3 b hb).1.1
  generalize hcl : cellsFrom (s3.heap.objs.size + 1) scope.names (cloFrom X.env.cells scope.names []) = cl at I4 pg pt pe ⊢
  generalize hH3 : upd H2 D (.lst []) = H3 at I3 I4 pg pt pe w0 nfp f3
  generalize hs4 : ({ s3 with heap := pushCells (s3.heap.push { cls := .type "dict", data := .dict #[] }) scope.names } : Shared) = s4 at I4 ⊢
  have k34 : ∀ b o, s3.heap.get? b = some o → s4.heap.get? b = some o := fun b o e => by rw [← hs4]; exact pushCells_keeps _ _ _ _ (Heap.get?_push_of_some _ e)
  have st4 : tn 0 s4.heap := T.keep _ _ _ st3 fun b _ o e => k34 b o e
  have pnOk : ∀ p ∈ X.pn, s3.heap.get? p.1 = some p.2 ∧ H3 p.1 = none ∧ p.1 ≠ s3.heap.objs.size ∧ p.1 ∉ frs X.stack ∧ ∀ v, p.2.data ≠ .cell v := fun p hp => by
    obtain ⟨a, b, c, d, e⟩ := I3.pin p (List.mem_append_left _ hp)
    exact ⟨a, b, Nat.ne_of_lt (Heap.lt_size a), fun z => (List.mem_cons.mp (I3.stkSub _ z)).elim c d, e⟩
  have I4' : Inv (X.blk s3 H3 scope (compEnvC scope cl s3.heap.objs.size X.env) fp) X.pn (wipe σ (own.map (·.2))) H3 s4 :=
    ⟨I4.ok, I4.os, I4.bare, I4.base, I4.loc, I4.cell, I4.free, I4.freeC, fun p hp => by
      obtain ⟨a, b, c, d, e⟩ := pnOk p (by simpa using hp)
      exact ⟨k34 _ _ a, b, c, d, e⟩, I4.hok, I4.len⟩
  have fpn : ∀ b ∈ fp, ∀ p ∈ X.pn, p.1 ≠ b := fun b hb p hp => (f3 b hb).1.2.2.2.2.2 p (List.mem_append_left _ hp)
  have stat : ∀ {σ' : St} {H' : Hp} {s' : Shared}, Inv (X.blk s3 H3 scope (compEnvC scope cl s3.heap.objs.size X.env) fp) X.pn σ' H' s' → (∀ b ∈ fp, H' b = none) → ∀ b ∈ fp, FpOk { X.blk s3 H3 scope (compEnvC scope cl s3.heap.objs.size X.env) fp with pn := X.pn } [] H' b := fun {σ' H' s'} I' hn b hb =>
    ⟨hn b hb, (I'.ok.exf b hb).1, I'.ok.exfs b hb, .inl hb, fun x c e => (I'.ok.exf b hb).2 x c e, fun p hp => fpn b hb p (by simpa using hp)⟩
  have hcB : L2H.HotC { X.blk s3 H3 scope (compEnvC scope cl s3.heap.objs.size X.env) fp with pn := X.pn } := hc
  have toB : ∀ {σ' : St} {H' : Hp} {s' : Shared}, Inv (X.blk s3 H3 scope (compEnvC scope cl s3.heap.objs.size X.env) fp) X.pn σ' H' s' → Inv { X.blk s3 H3 scope (compEnvC scope cl s3.heap.objs.size X.env) fp with pn := X.pn } [] σ' H' s' := fun I' => inv_pn (X := X.blk s3 H3 scope (compEnvC scope cl s3.heap.objs.size X.env) fp) (by rw [List.append_nil]; exact I')
  have loop : codeAny (model X.prog X.w) X.A (.compLoop (.ListComp elt [⟨tg, iter, ifs, 0⟩] scope pos) 0 (.ref it) (.ref D) (compEnvC scope cl s3.heap.objs.size X.env)) (compPost (model X.prog X.w) X.A X.xe none Qf (.ref D) s3.heap.objs.size) s4 := by
    refine compLoop_any (fun n s' => ∃ i H', Inv (X.blk s3 H3 scope (compEnvC scope cl s3.heap.objs.size X.env) fp) X.pn (wipe σ (own.map (·.2))) H' s' ∧ tn i s'.heap ∧ (∀ b ∈ fp, H' b = none) ∧ W i n H') ?_ m0 ⟨0, H3, I4', st4, nfp, w0⟩
    rintro n s5 ⟨i, H5, I5, st5, n5, w5⟩
    rcases turn i n H5 w5 with ⟨stop, qq⟩ | ⟨go, Nx, hNx, step⟩
    · have td := T.done { X.blk s3 H3 scope (compEnvC scope cl s3.heap.objs.size X.env) fp with pn := X.pn } rfl rfl rfl hcB i [] s5 _ H5 (fun _ _ => False) (toB I5) (stat I5 n5) st5 stop
      refine thnF td fun r s6 ⟨hr, I6⟩ => ?_
      subst hr
      have I7 : Inv X pins σ H5 s6 := I3.call' (ch := fp) I6.os I6.base I6.hok I6.bare fun b hb => ⟨(f3 b hb).1.2.2.2.1, (f3 b hb).1.2.1, (f3 b hb).1.2.2.2.2.1, (f3 b hb).1.2.2.2.2.2⟩
      have nC : H5 s3.heap.objs.size = none := I6.free
      obtain ⟨m, hn, _⟩ := I6.loc
      exact hRR D s3.heap.objs.size s6 m H5 I7 qq hn (I3.fpOk (Nat.le_refl _) nC)
    · have ti := T.item { X.blk s3 H3 scope (compEnvC scope cl s3.heap.objs.size X.env) fp with pn := X.pn } rfl rfl rfl hcB i [] s5 _ H5 (fun _ _ => False) (toB I5) (stat I5 n5) st5 go
      refine thnF ti fun r s6 ⟨u, hr, h6⟩ => ?_
      subst hr
      refine thnF h6 fun _ s7 ⟨x, H7, I7, r7, y7, st7, n7⟩ => ?_
      have I7b : Inv (X.blk s3 H3 scope (compEnvC scope cl s3.heap.objs.size X.env) fp) X.pn (wipe σ (own.map (·.2))) H7 s7 := by
        have z := inv_np (X := X.blk s3 H3 scope (compEnvC scope cl s3.heap.objs.size X.env) fp) (pn := X.pn) (pins := []) I7
        rw [List.append_nil] at z
        exact z
      have I7' := I7b.pinned (fun b hb => ⟨n7 b hb, (I7b.ok.exf b hb).1, I7b.ok.exfs b hb, .inl hb, fun x c e => (I7b.ok.exf b hb).2 x c e, fun p hp => fpn b hb p (by simpa using hp)⟩) (T.obj _ _ st7)
      refine thnF (pg.run _ s7 _ H7 x u _ I7' r7 (step x H7 y7)) fun _ s8 ⟨σ8, H8, I8, hw8, q8⟩ => ?_
      refine thnF (pt.run _ s8 σ8 H8 _ I8 q8) fun b s9 ⟨H9, I9, q9⟩ => ?_
      have fin : ∀ {s' : Shared} {H' : Hp}, Inv (X.blk s3 H3 scope (compEnvC scope cl s3.heap.objs.size X.env) fp) (X.pn ++ pinsAt fp s7.heap) σ8 H' s' → Nx H' → ∃ m, m < n ∧ ∃ i H', Inv (X.blk s3 H3 scope (compEnvC scope cl s3.heap.objs.size X.env) fp) X.pn (wipe σ (own.map (·.2))) H' s' ∧ tn i s'.heap ∧ (∀ b ∈ fp, H' b = none) ∧ W i m H' := fun {s' H'} I' nx => by
        obtain ⟨m', hm, w'⟩ := hNx H' nx
        have pin' : ∀ b ∈ fp, ∀ o, s7.heap.get? b = some o → s'.heap.get? b = some o ∧ H' b = none := fun b hb o e =>
          let z := I'.pin (b, o) (List.mem_append_right _ (List.mem_append_right _ (mem_pinsAt hb e)))
          ⟨z.1, z.2.1⟩
        have hl : (wipe σ (own.map (·.2))).length = σ8.length := by rw [← hw8, wipe_length]
        refine ⟨m', hm, i + 1, H', (I'.unpinned).weak hl (fun j v e => ?_), T.keep _ _ _ st7 fun b hb o e => (pin' b hb o e).1, fun b hb => ?_, w'⟩
        · rw [← hw8] at e
          exact (wipe_some e).1
        · obtain ⟨o, e, _⟩ := T.obj _ _ st7 b hb
          exact (pin' b hb o e).2
      cases b with
      | false =>
        simp only [Bool.false_eq_true, if_false] at q9 ⊢
        exact fin I9 q9
      | true =>
        simp only [if_true] at q9 ⊢
        refine thnF (pe.run _ s9 σ8 H9 _ I9 q9) fun z s10 ⟨yv, H10, I10, r10, acc, hD10, hz10, nx⟩ => ?_
        exact app_ok (X := X.blk s3 H3 scope (compEnvC scope cl s3.heap.objs.size X.env) fp) I10 hD10 hz10 r10 fun s11 I11 => fin I11 nx
  exact codeAny_compStart_list loop (T.self X.A 0 _ _ _ st4 loop)
end
section
variable {X : Cx} {σ : St} {G H : Hp} {elt a : Expr} {scope : Scope} {own : List (Str × Nat)} {pos p p2 : Pos} {β : Type} [Rep β]
/-- [elt for n in range(a)] -/
theorem ev_lcH {j : Int} {n : Str} {np : Pos} {i0 : Nat} (f : Int → β) (hc : L2H.HotC X) (hN : X.N.Nodup) (B : Bl X "range") (h : Ev X a σ G H j) (h1 : -(2 ^ 62) ≤ j) (h2 : j ≤ 16777216) (own : List (Str × Nat)) (ok : BlkOk X.N X.env.scope scope own)
    (hg : ∀ (s : Shared) (H : Hp) (C : Addr) (cl : List (Str × Addr)) (fp : List Addr), PG (X.blk s H scope (compEnvC scope cl C X.env) fp) (.Name n np) (gName i0))
    (he : ∀ x v G1 H1, x ∈ rng 0 j → Ext G H G1 H1 → rep X.K G1 v x → ∀ s H0 C cl fp, Ev (InB X scope s H0 C cl fp) elt ((wipe σ (own.map (·.2))).set i0 (some v)) G1 H1 (f x))
    (hw : ∀ v, wipe ((wipe σ (own.map (·.2))).set i0 (some v)) (own.map (·.2)) = wipe σ (own.map (·.2)) := by intro _; rfl) (hst : starEach [a] X.env = (false, eval a X.env) :: starEach [] X.env := by rfl) (hst2 : starEach [a] X.env = [(false, eval a X.env)] := by rfl)
    (hs : ∀ x, foldedSetIterable (.Call (.Name "range" p) [a] [] p2) X.env x = pure x := by intro _; rfl) :
    Ev X (.ListComp elt [⟨.Name n np, .Call (.Name "range" p) [a] [] p2, [], 0⟩] scope pos) σ G H ((rng 0 j).map f) := fun G1 H1 x1 Q q => by
  have e : ((rng 0 j).filter fun _ => true).map f = (rng 0 j).map f := by rw [filter_tt]
  refine tE_len (.mk fun pins s I => ?_)
  rw [eval_ListComp]
  refine lcH_core (ifs := []) hc hN I (L2H.pi_range1H B.g B.m (pa_cons pe_sem pa_nil hst) hst2) ok hg pts_lc pe_lcE hs
    (lc_go (T := T1 X.K i0) (f := f) (t := fun _ => true) (xs := rng 0 j) (fun G1 H1 x1 R r => h G1 H1 x1 _ fun G2 H2 v x2 _ pv => ⟨j, by rw [show v = _ from pv], h1, by omega, r _ G2 H2 x2 (by rw [rng_len, sizeLine_eq]; omega) (walk_rng (by rw [Int.sub_zero]))⟩) acts1 (fun G x σ' ⟨v, _, e⟩ => by rw [e]; exact hw v)
      (fun _ _ _ _ _ _ _ _ _ _ _ _ => ets_nil) (fun x G1 H1 σ' hx _ e ⟨v, r, e'⟩ => e' ▸ he x v G1 H1 hx e r) t1_up G1 H1 x1 (fun v H' => HLen H' → Q v H') (fun G2 H2 v x2 r _ hl => q G2 H2 v x2 hl (e ▸ r)))
    fun D C s' m H' I' q hn f => ⟨m, hn, fun h'' sb => ?_⟩
  obtain ⟨f0, f1, f2, f3, f4, f5⟩ := f
  exact ⟨.ref D, H', I'.turned (t' := s'.toks) (fun b o hb e => (sb.2 b hb).trans e) f0 f1 f3 f4 f5, rfl, q⟩
end
end RL

set_option Elab.async false
set_option linter.all false
set_option maxRecDepth 100000
set_option maxHeartbeats 4000000
/-! RXN: (errors whose context is None) a comprehension whose element is refused at some turn: the error goes out through the block of names. -/
namespace RL
open PySem PySem.Spec PyProof.Rows L2 Rep
/-- a def of the text that keeps its promise, its errors' context None -/
structure CalN (P : Program) (w : World) (K : PySem.W.Frag) (mg : Str → Option Value) (base : Heap) (k : Nat) (x : Str) (sp : Sp) : Prop where
  ex : ∃ (f : Addr) (fd : FuncData) (ps : List Str), FnOk P w K mg base (L2N.CX P w) k f fd ps sp ∧ mg x = some (.ref f) ∧ PySem.W.keepIn K (.ref f) = true ∧ Binds K fd ps []
section
variable {P : Program} {w : World} {outer : List Env} {H : Hp} {s : Shared} {E : XK} {u : Value} {s' : Shared} {C : Addr} {o : Obj}
theorem cxn_and (hC : s.heap.get? C = some o) (nC : H C = none) (c : L2N.CX P w outer H s E u s') : L2N.CX P w outer H s (fun k d H' => E k d H' ∧ H' C = none) u s' :=
  let ⟨a, B, H', k, d, e, fl, hok, ub, na, os, ag, hE⟩ := c; ⟨a, B, H', k, d, e, fl, hok, ub, na, os, ag, hE, ub.free C o hC nC⟩
theorem cxn_keep (hC : s.heap.get? C = some o) (nC : H C = none) (nf : C ∉ frs outer) (c : L2N.CX P w outer H s E u s') : s'.heap.get? C = some o :=
  let ⟨_, _, _, _, _, _, fl, _, ub, _⟩ := c; fl.1 C o (ub.keep C o hC nC nf)
end
section
variable {X : Cx} {W : WX} {ce : Env} {m0 : Str → Option Value} {u : Value} {s' : Shared}
/-- an error in the def's air, let go by the block of names at ce -/
theorem airn_comp (tk : L2N.Takes X W) (hs : X.stack = X.env :: X.outer) (hf : X.env.frame = some X.env.locals) (hcf : ce.frame = X.env.frame) (hn : s'.heap.Ns ce.locals m0)
    (c1 : ce.locals ≠ X.env.locals) (c2 : ce.locals ∉ X.fs) (c3 : ce.locals ∈ X.ex ∨ X.s_0.heap.objs.size ≤ ce.locals) (c4 : ∀ x c, X.env.cells.lookup x = some c → c ≠ ce.locals) (c5 : ∀ p ∈ X.pn, p.1 ≠ ce.locals)
    (x : L2N.XE X (fun k d σ H => W k d σ H ∧ H ce.locals = none) u s') : notedBy (model X.prog X.w) X.A ce (CompFails (model X.prog X.w) X.A X.xe ce) u s' := by
  obtain ⟨a, B, sI, pins, σ, H, k, d, rfl, I, nb, up, sky, na, os, ag, w, nC⟩ := x
  have hfr : X.A.frames = some (X.env :: X.outer) := by rw [I.ok.frames, hs]
  have nst : ce.locals ∉ frs X.stack := fun z => by
    rcases List.mem_cons.mp (I.stkSub _ z) with z | z
    · exact c1 z
    · exact c2 z
  have sky2 := sky
  rw [hs] at sky2
  have key : ∀ h1, HandSPX.HeldZ B (X.env :: X.outer) a (L2N.Zn k d) X.env.locals h1 → s'.heap.UpToSlots h1 → CompFails (model X.prog X.w) X.A X.xe ce (.ref a) { s' with heap := h1 } := by
    intro h1 held up1
    obtain ⟨k1, k2, k3, oe, vs, T, oT, ts, he, hz, hd, hv1, hnT, hTe, hT, hdT, hv3⟩ := held
    have hn1 : h1.Ns ce.locals m0 := up1.ns hn
    refine ⟨m0, hn1, fun h2 m2 hn2 sb => ?_⟩
    have notF : ∀ {b : Addr} {o : Obj} {fs : Array Value}, h1.get? b = some o → o.data = .fields fs → b ≠ ce.locals := fun {b o fs} e dd z => by
      obtain ⟨o', es, ep, ho', hd', _⟩ := id hn1
      rw [z, ho'] at e
      cases e
      rw [hd'] at dd
      cases dd
    have aC := notF he hd
    have tC := notF hT hdT
    have he2 : h2.get? a = some oe := (sb.2 a aC).trans he
    have hT2 : h2.get? T = some oT := (sb.2 T tC).trans hT
    obtain ⟨oC, es, ep, hoC, hdC, _⟩ := id hn2
    have fC : oC.isFreed = false := Obj.isFreed_of_dict hdC
    have B1 : (xch B ce.locals oC).StaysIn h2 := fun b o e => by
      by_cases z : b = ce.locals
      · subst z
        rw [xch_at fC] at e
        cases q : B.get? ce.locals with
        | none => rw [q] at e; cases e
        | some _ => rw [q] at e; cases e; exact hoC
      · rw [xch_ne z] at e
        exact (sb.2 b z).trans (k1 b o e)
    have B2 : h2.FunFrames (xch B ce.locals oC) (X.env :: X.outer) := funFrames_none (Heap.FunFrames.sameBut sb hn2 k3) fun L hL => by
      have hL' : L ∈ frs X.stack := by rw [hs]; exact hL
      rw [xch_ne fun z => nst (by rw [← z]; exact hL')]
      exact (k3.mem hL).1
    have held2 : HandSPX.HeldZ (xch B ce.locals oC) (X.env :: X.outer) a (L2N.Zn k d) X.env.locals h2 :=
      ⟨B1, by rw [xch_ne aC]; exact k2, B2, oe, vs, T, oT, ts, he2, hz, hd, hv1, by rw [xch_ne tC]; exact hnT, hTe, hT2, hdT, hv3⟩
    unfold PySem.passOn
    refine wpAny_bind (wpAny_field he2 hd hv1 ?_)
    rw [if_neg (by simp), hcf, hf]
    refine wpAny_bind (HandSPX.setFlight_onZ held2 fun h3 held3 up3 => wpAny_throw ?_)
    have I0 : Inv X [] σ H sI := Inv.unpinned (pins := []) (pl := pins) (by simpa using I)
    have I1 : Inv X [] σ H { sI with heap := xch sI.heap ce.locals oC, toks := sI.toks } := I0.turned (it := ce.locals) (t' := sI.toks) (fun b o hb e => by rw [xch_ne hb]; exact e) nC c1 c3 c4 (by simpa using c5)
    refine tk _ _ ⟨a, xch B ce.locals oC, _, [], σ, H, k, d, rfl, I1, fun b o e hb => ?_, fun b o e hnf => ?_, .inr (.inr (by rw [hs]; exact held3)), na, os, ag, w⟩
    · have e : (xch sI.heap ce.locals oC).get? b = some o := e
      by_cases z : b = ce.locals
      · subst z
        rw [xch_at fC] at e ⊢
        cases q : sI.heap.get? ce.locals with
        | none => rw [q] at e; cases e
        | some p => rw [q] at e; cases e; rw [nb _ _ q nst]; rfl
      · rw [xch_ne z] at e ⊢
        exact nb b o e hb
    · have e : (xch sI.heap ce.locals oC).get? b = some o := e
      have go : ∃ sl, h2.get? b = some { o with slots := sl } := by
        by_cases z : b = ce.locals
        · subst z
          rw [xch_at fC] at e
          cases q : sI.heap.get? ce.locals with
          | none => rw [q] at e; cases e
          | some p => rw [q] at e; cases e; exact ⟨_, hoC⟩
        · rw [xch_ne z] at e
          obtain ⟨sl, e1⟩ := (up.trans up1) b o e hnf
          exact ⟨sl, (sb.2 b z).trans e1⟩
      obtain ⟨sl, e1⟩ := go
      obtain ⟨sl2, e2⟩ := up3 b _ e1 hnf
      exact ⟨sl2, e2⟩
  show wpAny _ _ (noteFrame (.ref a) ce) _ _ s'
  rw [noteFrame_env _ hcf]
  rcases sky2 with ⟨hB, hne, hl, oe, vs, he, hz, hd, h1⟩ | fl | hh
  · exact PXN.look_newZ L2N.Zn.steady hfr hl hf he hB hne hd h1 hz key
  · exact PXN.looks_onZ L2N.Zn.steady hfr hf fl key
  · exact HandSPX.againZ hf hh.2.2.2 (key s'.heap hh (Heap.UpToSlots.refl _))
end
/-! ### a comprehension whose element is refused at some turn -/
def PassEN (X : Cx) (scope : Scope) (s : Shared) (H0 : Hp) (C : Addr) (cl : List (Str × Addr)) (fp : List Addr) (E : Value → Shared → Prop) (E1 : XK) : Prop :=
  ∀ τ, PassesAt (L2N.CX X.prog X.w) (InE X scope s H0 C cl fp E) τ E1
section
variable {X : Cx}
theorem lcRN_core {pins : List (Addr × Obj)} {s : Shared} {σ : St} {H : Hp} {elt tg iter : Expr} {scope : Scope} {own : List (Str × Nat)} {pos pos' : Pos} {wi : TI} {g : TG} {te : TE} {W0 : WX} {Qf : Value → Shared → Prop}
    (hc : X.calm = true) (hN : X.N.Nodup) (I : Inv X pins σ H s) (hi : PI X tg iter wi) (ok : BlkOk X.N X.env.scope scope own)
    (hg : ∀ (s : Shared) (H : Hp) (C : Addr) (cl : List (Str × Addr)) (fp : List Addr), PG (X.blk s H scope (compEnvC scope cl C X.env) fp) tg g)
    (tk : L2N.Takes X W0) (hst : X.stack = X.env :: X.outer) (hfr : X.env.frame = some X.env.locals)
    (he : ∀ (s : Shared) (H : Hp) (C : Addr) (cl : List (Str × Addr)) (fp : List Addr) (E : Value → Shared → Prop), PassEN X scope s H C cl fp E (fun k d H => W0 k d σ H) → PE (InE X scope s H C cl fp E) elt te) (hs : ∀ x, foldedSetIterable iter X.env x = pure x)
    (h : tLcR wi g te (own.map (·.2)) σ H) :
    wpAny (model X.prog X.w) X.A (comprehension (.ListComp elt [⟨tg, iter, [], 0⟩] scope pos) scope X.env pos' (newList []) false (eval iter X.env) none) Qf X.xe s := by
  have hfree : ∀ y ∈ scope.names, y.2 = .free → ∃ c, X.env.cells.lookup y.1 = some c := fun y hy e => by
    rcases ok.free y hy e with k | k
    · exact I.ok.has _ (.inl k)
    · exact I.ok.has _ (.inr k)
  refine comprehension_at (use := none) rfl hs (closure_ok hfree) ok.kind (fun y hy e => by rw [ok.uniq y hy, e])
    (thn (hi.run pins s σ H _ I h) fun xv s1 hx => thn hx fun itv s2 h2 => ?_)
  obtain ⟨it, fp, tn, J, H2, e, I2, T, st2, f2, q⟩ := h2
  subst e
  refine wpAny_newObj_type (newEnv_comp ?_) (by show 0 ≤ sizeLine; decide)
  generalize hD : s2.heap.objs.size = D
  have hDn : H2 D = none := I2.hok.fresh (Nat.le_of_eq hD)
  obtain ⟨W, ⟨m0, w0⟩, turn⟩ := q D hDn
  generalize hs3 : ({ s2 with heap := s2.heap.push { cls := .type "list", data := .seq ([] : List Value).toArray } } : Shared) = s3
  have I3 : Inv X pins σ (upd H2 D (.lst [])) s3 := by
    rw [← hs3]
    refine I2.laid (t' := s2.toks) (fun b o e => Heap.get?_push_of_some _ e) (Nat.le_of_eq hD) ⟨Nat.zero_le _, [], 0, .nil, ?_⟩
    rw [← hD]
    exact Heap.get?_push_size _ rfl
  have h3 : s3.heap = s2.heap.push { cls := .type "list", data := .seq ([] : List Value).toArray } := by rw [← hs3]
  have sz : ∀ b ∈ fp, b < s2.heap.objs.size := fun b hb => by
    obtain ⟨o, e, _⟩ := T.obj _ _ st2 b hb
    exact Heap.lt_size e
  have f3 : ∀ b ∈ fp, FpOk X pins (upd H2 D (.lst [])) b ∧ b < s3.heap.objs.size := fun b hb => by
    have hlt := sz b hb
    refine ⟨⟨?_, (f2 b hb).2⟩, by rw [h3, Heap.size_push]; exact Nat.lt_succ_of_lt hlt⟩
    rw [upd_ne (by rw [← hD]; exact Nat.ne_of_lt hlt)]
    exact (f2 b hb).1
  have st3 : tn 0 s3.heap := T.keep _ _ _ st2 fun b _ o e => by rw [h3]; exact Heap.get?_push_of_some _ e
  have I4 := block_start I3 ok hN f3
  have pg := hg s3 (upd H2 D (.lst [])) s3.heap.objs.size (cellsFrom (s3.heap.objs.size + 1) scope.names (cloFrom X.env.cells scope.names [])) fp
  have pe := he s3 (upd H2 D (.lst [])) s3.heap.objs.size (cellsFrom (s3.heap.objs.size + 1) scope.names (cloFrom X.env.cells scope.names [])) fp
    (notedBy (model X.prog X.w) X.A (compEnvC scope (cellsFrom (s3.heap.objs.size + 1) scope.names (cloFrom X.env.cells scope.names [])) s3.heap.objs.size X.env) (CompFails (model X.prog X.w) X.A X.xe (compEnvC scope (cellsFrom (s3.heap.objs.size + 1) scope.names (cloFrom X.env.cells scope.names [])) s3.heap.objs.size X.env)))
  show codeAny _ _ (.compStart (.ListComp elt [⟨tg, iter, [], 0⟩] scope pos) 0 (.ref it) (.ref D) (compEnvC scope (cellsFrom (s3.heap.objs.size + 1) scope.names (cloFrom X.env.cells scope.names [])) s3.heap.objs.size X.env)) (compEnds (model X.prog X.w) X.A X.xe none Qf (.ref D) (compEnvC scope (cellsFrom (s3.heap.objs.size + 1) scope.names (cloFrom X.env.cells scope.names [])) s3.heap.objs.size X.env)) { s3 with heap := pushCells (s3.heap.push { cls := .type "dict", data := .dict #[] }) scope.names }
  have nfp : ∀ b ∈ fp, (upd H2 D (.lst [])) b = none := fun b hb => (f3 b hb).1.1
  have cL : (compEnvC scope (cellsFrom (s3.heap.objs.size + 1) scope.names (cloFrom X.env.cells scope.names [])) s3.heap.objs.size X.env).locals = s3.heap.objs.size := rfl
  have cF : (compEnvC scope (cellsFrom (s3.heap.objs.size + 1) scope.names (cloFrom X.env.cells scope.names [])) s3.heap.objs.size X.env).frame = X.env.frame := rfl
  generalize hcl : cellsFrom (s3.heap.objs.size + 1) scope.names (cloFrom X.env.cells scope.names []) = cl at I4 pg pe cL cF ⊢
  generalize hH3 : upd H2 D (.lst []) = H3 at I3 I4 pg pe w0 nfp f3
  generalize hs4 : ({ s3 with heap := pushCells (s3.heap.push { cls := .type "dict", data := .dict #[] }) scope.names } : Shared) = s4 at I4 ⊢
  have st4 : tn 0 s4.heap := T.keep _ _ _ st3 fun b _ o e => by rw [← hs4]; exact pushCells_keeps _ _ _ _ (Heap.get?_push_of_some _ e)
  have pe := pe (by
    intro τ pins' H' s' e s'' Jv c
    have J7 : Inv X pins σ H' s' := I3.call' (ch := fp) Jv.os Jv.base Jv.hok Jv.bare fun b hb => ⟨(f3 b hb).1.2.2.2.1, (f3 b hb).1.2.1, (f3 b hb).1.2.2.2.2.1, (f3 b hb).1.2.2.2.2.2⟩
    obtain ⟨m, hn, _⟩ := Jv.loc
    obtain ⟨o, es, ep, ho, r⟩ := id hn
    have nC : H' s3.heap.objs.size = none := Jv.free
    obtain ⟨f0, f1, f2', f3', f4, f5⟩ := I3.fpOk (H' := H') (Nat.le_refl _) nC
    have nf : s3.heap.objs.size ∉ frs X.stack := fun z => by
      rcases List.mem_cons.mp (I3.stkSub _ z) with z | z
      · exact f1 z
      · exact f2' z
    have x : L2N.XE X (fun k d σ' H => W0 k d σ' H ∧ H s3.heap.objs.size = none) e s'' := L2N.XE.of_call J7 (fun _ _ _ h => h) (cxn_and (C := s3.heap.objs.size) ho nC c)
    exact airn_comp (ce := compEnvC scope cl s3.heap.objs.size X.env) (m0 := m) tk hst hfr rfl ⟨o, es, ep, cxn_keep (C := s3.heap.objs.size) ho nC nf c, r⟩ f1 f2' f3' f4 (fun p hp => f5 p (List.mem_append_left _ hp)) x)
  have stat : ∀ {σ' : St} {H' : Hp} {s' : Shared}, Inv (X.blk s3 H3 scope (compEnvC scope cl s3.heap.objs.size X.env) fp) [] σ' H' s' → (∀ b ∈ fp, H' b = none) → ∀ b ∈ fp, FpOk (X.blk s3 H3 scope (compEnvC scope cl s3.heap.objs.size X.env) fp) [] H' b := fun {σ' H' s'} I' hn b hb =>
    ⟨hn b hb, (I'.ok.exf b hb).1, I'.ok.exfs b hb, .inl hb, fun x c e => (I'.ok.exf b hb).2 x c e, fun p hp => absurd (show p ∈ ([] : List (Addr × Obj)) ++ [] from hp) (by simp)⟩
  have loop : codeAny (model X.prog X.w) X.A (.compLoop (.ListComp elt [⟨tg, iter, [], 0⟩] scope pos) 0 (.ref it) (.ref D) (compEnvC scope cl s3.heap.objs.size X.env)) (compEnds (model X.prog X.w) X.A X.xe none Qf (.ref D) (compEnvC scope cl s3.heap.objs.size X.env)) s4 := by
    refine compLoop_any (fun n s' => ∃ i H', Inv (X.blk s3 H3 scope (compEnvC scope cl s3.heap.objs.size X.env) fp) [] (wipe σ (own.map (·.2))) H' s' ∧ tn i s'.heap ∧ (∀ b ∈ fp, H' b = none) ∧ W i n H') ?_ m0 ⟨0, H3, I4, st4, nfp, w0⟩
    rintro n s5 ⟨i, H5, I5, st5, n5, w5⟩
    obtain ⟨go, Nx, hNx, step⟩ := turn i n H5 w5
    have ti := T.item (X.blk s3 H3 scope (compEnvC scope cl s3.heap.objs.size X.env) fp) rfl rfl rfl hc i [] s5 _ H5 (fun _ _ => False) I5 (stat I5 n5) st5 go
    refine thnF ti fun r s6 ⟨u, hr, h6⟩ => ?_
    subst hr
    refine thnF h6 fun _ s7 ⟨x, H7, I7, r7, y7, st7, n7⟩ => ?_
    have I7' := I7.pinned (stat I7 n7) (T.obj _ _ st7)
    refine thnF (pg.run _ s7 _ H7 x u _ I7' r7 (step x H7 y7)) fun _ s8 ⟨σ8, H8, I8, hw8, q8⟩ => ?_
    refine wpAny_tests_nil ?_
    have fin : ∀ {s' : Shared} {H' : Hp}, Inv (X.blk s3 H3 scope (compEnvC scope cl s3.heap.objs.size X.env) fp) ([] ++ pinsAt fp s7.heap) σ8 H' s' → Nx H' → ∃ m, m < n ∧ ∃ i H', Inv (X.blk s3 H3 scope (compEnvC scope cl s3.heap.objs.size X.env) fp) [] (wipe σ (own.map (·.2))) H' s' ∧ tn i s'.heap ∧ (∀ b ∈ fp, H' b = none) ∧ W i m H' := fun {s' H'} I' nx => by
      obtain ⟨m', hm, w'⟩ := hNx H' nx
      have pin' : ∀ b ∈ fp, ∀ o, s7.heap.get? b = some o → s'.heap.get? b = some o ∧ H' b = none := fun b hb o e =>
        let z := I'.pin (b, o) (List.mem_append_right _ (List.mem_append_right _ (mem_pinsAt hb e)))
        ⟨z.1, z.2.1⟩
      have hl : (wipe σ (own.map (·.2))).length = σ8.length := by rw [← hw8, wipe_length]
      refine ⟨m', hm, i + 1, H', (I'.unpinned (pins := [])).weak hl (fun j v e => ?_), T.keep _ _ _ st7 fun b hb o e => (pin' b hb o e).1, fun b hb => ?_, w'⟩
      · rw [← hw8] at e
        exact (wipe_some e).1
      · obtain ⟨o, e, _⟩ := T.obj _ _ st7 b hb
        exact (pin' b hb o e).2
    rw [if_pos rfl]
    refine thn (pe.run _ s8 σ8 H8 _ (RL.Inv.air I8) q8) fun z s10 ⟨yv, H10, I10, r10, acc, hD10, hz10, nx⟩ => ?_
    exact app_ok (X := X.blk s3 H3 scope (compEnvC scope cl s3.heap.objs.size X.env) fp) (RL.Inv.air (E := fun _ _ => False) I10) hD10 hz10 r10 fun s11 I11 => fin I11 nx
  exact codeAny_compStart_list loop (T.self X.A 0 _ _ _ st4 loop)
end
/-! .. over data -/
section
variable {X : Cx} {σ : St} {G H : Hp} {W0 : WX} {elt iter : Expr} {scope : Scope} {own : List (Str × Nat)} {pos p : Pos} {α β : Type} [Rep α] [Rep β]
def lcERN (X : Cx) (scope : Scope) (elt : Expr) (W0 : WX) (σ0 : St) : TE := fun σ H Q => ∀ s H0 C cl fp E, PassEN X scope s H0 C cl fp E (fun k d H => W0 k d σ0 H) → tE (InE X scope s H0 C cl fp E) elt σ H Q
theorem lc_goRN {xs : List α} {k0 i0 : Nat} {f : α → β} {vs : List Nat} {wi : TI} (hk : k0 < xs.length)
    (hi : ∀ G1 H1, Ext G H G1 H1 → ∀ R : It → Hp → Prop, (∀ J G2 H2, Ext G1 H1 G2 H2 → xs.length ≤ sizeLine → WalkOf X.K J G2 xs → R J H2) → wi σ H1 R) (hw : ∀ v, wipe ((wipe σ vs).set i0 (some v)) vs = wipe σ vs)
    (he : ∀ x v G1 H1 j, j < k0 → xs[j]? = some x → Ext G H G1 H1 → rep X.K G1 v x → ∀ s H0 C cl fp E, Ev (InE X scope s H0 C cl fp E) elt ((wipe σ vs).set i0 (some v)) G1 H1 (f x))
    (hr : ∀ x v G1 H1, xs[k0]? = some x → Ext G H G1 H1 → rep X.K G1 v x → ∀ s H0 C cl fp E, PassEN X scope s H0 C cl fp E (fun k d H => W0 k d σ H) → EvR (InE X scope s H0 C cl fp E) elt ((wipe σ vs).set i0 (some v)) H1)
    (s0 : Same G H) : tLcR wi (gName i0) (lcERN X scope elt W0 σ) vs σ H := by
  refine hi G H (Ext.refl s0) _ fun J G2 H2 x2 hl hwk D hD => ?_
  let Pv : Nat → Hp → Prop := fun i H' => ∃ G' acc, Ext G H G' H' ∧ Same G2 G' ∧ G' D = none ∧ H' D = some (.lst acc) ∧ acc.length ≤ i
  have hD1 : H D = none := x2.h.free hD
  refine ⟨fun i m H' => m = xs.length - i ∧ i ≤ k0 ∧ Pv i H', ⟨xs.length, rfl, Nat.zero_le _, G2, [], x2.newH hD, Same.refl _, x2.s.free hD, upd_same, Nat.zero_le _⟩, ?_⟩
  rintro i m H' ⟨rfl, hi', G', acc, x', sg, gD, eD, hacc⟩
  obtain ⟨go, stop, yld⟩ := hwk G' H' sg x'.s
  have hlt : i < xs.length := Nat.lt_of_le_of_lt hi' hk
  have hx : xs[i]? = some xs[i] := List.getElem?_eq_getElem hlt
  by_cases hik : i < k0
  · refine ⟨go i hlt, Pv (i + 1), fun H'' p => ⟨_, by omega, rfl, hik, p⟩, fun v H'' y => ?_⟩
    obtain ⟨G'', x'', rv⟩ := yld i _ v H'' hx y
    have gD2 : G'' D = none := x''.off gD eD
    have eD2 : H'' D = some (.lst acc) := x''.h _ _ eD
    refine ⟨hw v, fun s1 H01 C1 cl1 fp1 E hp => ?_⟩
    refine he _ v G'' H'' i hik hx (x'.trans x'') rv s1 H01 C1 cl1 fp1 E G'' H'' (Ext.refl x''.s) _ fun G4 H4 w x4 _ rw' => ?_
    have gD4 : G4 D = none := x4.off gD2 eD2
    exact ⟨acc, x4.h _ _ eD2, Nat.lt_of_le_of_lt hacc (Nat.lt_of_lt_of_le hlt hl), G4, acc ++ [w], (x'.trans (x''.trans x4)).wr hD1 gD4, (sg.trans x''.g).trans x4.g, gD4, upd_same, by rw [List.length_append]; exact Nat.succ_le_succ hacc⟩
  · have e : i = k0 := by omega
    subst e
    refine ⟨go i hlt, fun _ => False, fun _ z => z.elim, fun v H'' y => ?_⟩
    obtain ⟨G'', x'', rv⟩ := yld i _ v H'' hx y
    exact ⟨hw v, fun s1 H01 C1 cl1 fp1 E hp => hr _ v G'' H'' hx (x'.trans x'') rv s1 H01 C1 cl1 fp1 E hp _⟩
/-- [elt for n in iter], elt refused at the turn k0 -/
theorem evRN_lc {xs : List α} {n : Str} {np : Pos} {i0 : Nat} (f : α → β) (k0 : Nat) (hk : k0 < xs.length) (hc : X.calm = true) (hN : X.N.Nodup) (hi : EvI X (.Name n np) iter σ G H xs) (own : List (Str × Nat)) (ok : BlkOk X.N X.env.scope scope own)
    (hg : ∀ (s : Shared) (H : Hp) (C : Addr) (cl : List (Str × Addr)) (fp : List Addr), PG (X.blk s H scope (compEnvC scope cl C X.env) fp) (.Name n np) (gName i0))
    (tk : L2N.Takes X W0) (hst : X.stack = X.env :: X.outer) (hfr : X.env.frame = some X.env.locals) (s0 : Same G H)
    (he : ∀ x v G1 H1 j, j < k0 → xs[j]? = some x → Ext G H G1 H1 → rep X.K G1 v x → ∀ s H0 C cl fp E, Ev (InE X scope s H0 C cl fp E) elt ((wipe σ (own.map (·.2))).set i0 (some v)) G1 H1 (f x))
    (hr : ∀ x v G1 H1, xs[k0]? = some x → Ext G H G1 H1 → rep X.K G1 v x → ∀ s H0 C cl fp E, PassEN X scope s H0 C cl fp E (fun k d H => W0 k d σ H) → EvR (InE X scope s H0 C cl fp E) elt ((wipe σ (own.map (·.2))).set i0 (some v)) H1)
    (hw : ∀ v, wipe ((wipe σ (own.map (·.2))).set i0 (some v)) (own.map (·.2)) = wipe σ (own.map (·.2)) := by intro _; rfl) (hs : ∀ x, foldedSetIterable iter X.env x = pure x := by intro _; rfl) :
    EvR X (.ListComp elt [⟨.Name n np, iter, [], 0⟩] scope pos) σ H := by
  obtain ⟨wi, pi, hi⟩ := hi
  refine fun Q => .mk fun pins s I => ?_
  rw [eval_ListComp]
  exact lcRN_core hc hN I pi ok hg tk hst hfr (fun s H C cl fp E hp => ⟨fun pins s' _ _ _ I h => (h s H C cl fp E hp).run pins s' I⟩) hs (lc_goRN (f := f) hk hi hw he hr s0)
/-- a call that is refused, its error passed on by the place's own rule -/
theorem evRN_c1P {γ : Type} [Rep γ] {Y : Cx} {τ : St} {G1 H1 : Hp} {k : Nat} {n : Str} {e1 : Expr} {x1 : γ} {C : Addr} {pre : γ → Prop} {E1 : XK} (c : CalN Y.prog Y.w Y.K Y.mg Y.base k n (SpR1 Y.K pre C)) (hr : Room k Y.A) (hg : Gl Y n)
    (hx : ∀ τ, PassesAt (L2N.CX Y.prog Y.w) Y τ E1) (s0 : Same G1 H1) (h1 : Ev Y e1 τ G1 H1 x1) (hp : pre x1) (w : ∀ G2 H2, Ext G1 H1 G2 H2 → E1 (.ref C) none H2)
    (hdb : (n == ("__debug__" : Str)) = false := by decide) (he : starEach [e1] Y.env = (false, eval e1 Y.env) :: starEach [] Y.env := by rfl) : EvR Y (.Call (.Name n p) [e1] [] pos) τ H1 := by
  obtain ⟨f, fd, ps, F, hm, hk, hb⟩ := c.ex
  refine fun Q => .mk fun pins s I => ?_
  exact (pe_callS (E := fun _ => E1) F hr hg hm hk hb hx (pa_cons pe_sem pa_nil he) hdb he rfl).run pins s τ H1 Q I (h1 G1 H1 (Ext.refl s0) _ fun G2 H2 v x2 _ r => ⟨G2, v, x1, rfl, x2.s, r, hp, fun G3 H3 y => w G3 H3 (x2.trans y)⟩)
end
/-! ### the statements, for errors whose context is None -/
section
variable {X : Cx} {σ : St} {G H : Hp} {W : WX} {D : Ends} {e e1 : Expr} {body suite : List Stmt} {b0 : Stmt} {pos p p2 p3 : Pos}
theorem s_raiseN {x m : Str} {C : Addr} {j : Nat} (hc : X.calm = true) (tk : L2N.Takes X W) (c : XC X.K X.mg x C) (hg : Gl X x) (h : W (.ref C) none σ H) (hdb : (x == ("__debug__" : Str)) = false := by decide) :
    tS X (.Raise (some (.Call (.Name x p) [.Constant (.str m) j p2] [] p3)) none pos) D σ H :=
  s_of (L2N.ps_raise hc tk (L2N.pmk_own PySem.F.excBase_ValueError c.q c.g c.k (raises_own c.s c.t) hg hdb)) h
theorem evR_c1N {α : Type} [Rep α] {k : Nat} {n : Str} {x1 : α} {C : Addr} {pre : α → Prop} (c : CalN X.prog X.w X.K X.mg X.base k n (SpR1 X.K pre C)) (hr : Room k X.A) (hg : Gl X n) (tk : L2N.Takes X W) (s0 : Same G H) (h1 : Ev X e1 σ G H x1) (hp : pre x1) (w : ∀ G2 H2, Ext G H G2 H2 → W (.ref C) none σ H2)
    (hdb : (n == ("__debug__" : Str)) = false := by decide) (he : starEach [e1] X.env = (false, eval e1 X.env) :: starEach [] X.env := by rfl) : EvR X (.Call (.Name n p) [e1] [] pos) σ H := by
  obtain ⟨f, fd, ps, F, hm, hk, hb⟩ := c.ex
  refine fun Q => .mk fun pins s I => ?_
  exact (pe_callS (E := fun τ => WE W τ) F hr hg hm hk hb (fun τ => L2N.passAt tk τ) (pa_cons pe_sem pa_nil he) hdb he rfl).run pins s σ H Q I (h1 G H (Ext.refl s0) _ fun G2 H2 v x2 _ r => ⟨G2, v, x1, rfl, x2.s, r, hp, fun G3 H3 y => w G3 H3 (x2.trans y)⟩)
theorem s_tryN {x n : Str} {c : Value} {i : Nat} {np pos' : Pos} (hs : X.stack = X.env :: X.outer) (hf : X.env.frame = some X.env.locals) (hN : X.N.Nodup) (hi : X.N[i]? = some n) (hln : X.env.kindOf n = some .local) (hc : Names X x c)
    (h : ∀ (pn : List (Addr × Obj)) (xe : Value → Shared → Prop) (W : WX),
      (∀ cls τ H', PySem.W.exmOne X.K (.ref cls) c = some true → (∀ a oe pn', H' a = none → L2N.Zn (.ref cls) none oe → (∃ vs, oe.data = .fields vs) →
        tSs (X.suite a ((a, oe) :: pn')) (b0 :: suite) { nx := fun σ' H' => D.nx (σ'.set i none) H', rt := D.rt, bk := fun σ' H' => D.bk (σ'.set i none) H', ct := fun σ' H' => D.ct (σ'.set i none) H' } (τ.set i (some (.ref a))) H') → W (.ref cls) none τ H') →
      L2N.Takes (X.tr pn xe) W → PassesOwn (model X.prog X.w) X.A X.env xe → tSs (X.tr pn xe) body D σ H) :
    tS X (.Try body [.ExceptHandler (some (.Name x np)) (some n) (b0 :: suite) pos'] [] [] pos) D σ H :=
  s_of (L2N.ps_try_as (i := i) (c := c) (Wout := fun _ _ _ _ => False)
    (tb := fun W D σ H => ∀ pn xe, L2N.Takes (X.tr pn xe) W → PassesOwn (model X.prog X.w) X.A X.env xe → tSs (X.tr pn xe) body D σ H)
    (ts := fun a cls d D σ H => ∀ oe pn, L2N.Zn cls d oe → (∃ vs, oe.data = .fields vs) → tSs (X.suite a ((a, oe) :: pn)) (b0 :: suite) D σ H)
    hs hf hN hi hln hc (fun u s' ⟨_, _, _, _, _, _, _, _, _, _, _, _, _, _, _, _, z⟩ => z.elim) (fun W pn xe tk po => ⟨fun pins s σ H D I q => (q pn xe tk po).run pins s I⟩) (fun a oe cls d pn hz hv => ⟨fun pins s σ H D I q => (q oe pn hz hv).run pins s I⟩))
    fun pn xe tk po => h pn xe _ (fun cls τ H' hx k => ⟨true, hx, fun _ a ha oe pn' hz hv => k a oe pn' ha hz hv, fun z => nomatch z⟩) tk po
/-- the suite's context bears the handled error -/
theorem hot_suite {a : Addr} {oe : Obj} {pn : List (Addr × Obj)} {cls : Value} {d : Option Addr} (hz : L2N.Zn cls d oe) (hv : ∃ vs, oe.data = .fields vs) : L2H.HotC (X.suite a ((a, oe) :: pn)) := by
  obtain ⟨vs, hd⟩ := hv
  exact ⟨(a, oe), ⟨rfl, vs, hd, hz.2.2 vs hd⟩, List.mem_cons_self⟩
end
section
variable {P : Program} {w : World} {K : PySem.W.Frag} {mg : Str → Option Value} {base : Heap} {x : Str} {st : Stmt} {f C : Addr} {fd : FuncData} {N ps : List Str} {k : Nat} {α : Type} [Rep α]
theorem okXN {qual : Str} {sp : Sp} (F : Fun K x qual st f fd) (S : FnScope N ps (defScope st)) (len : ∀ vs H Q E, sp vs H Q E → vs.length = ps.length)
    (hbody : ∀ (cdv : Value) (A : Around) (outer : List Env) (s : Shared) (H : Hp) (vs : List V) (Q : VK) (E : XK), Room k (A.deeper (envOfC qual (defScope st) s.heap.objs.size f cdv)) → sp vs H Q E →
      ∃ t, PSs (cxOf (L2N.CX P w) P w K mg base N qual (defScope st) f cdv A outer s H E) (defBody st) t ∧ t { nx := fun _ H' => Q .non H', rt := Q } (start N vs) H) : FnOk P w K mg base (L2N.CX P w) (k + 1) f fd ps sp := by
  obtain ⟨oc, od, kV, doc, pm, an, cdv, ct, osl, rfl, lk, hcd⟩ := F.ex
  exact fn_of lk hcd S len fun A outer s H vs Q E hr hsp => hbody cdv A outer s H vs Q E hr hsp
theorem fnR1N {pre : α → Prop} (F : Fun K x x st f fd) (hm : mg x = some (.ref f)) (hb : Binds K fd ps []) (S : FnScope N ps (defScope st)) (hl : ps.length = 1)
    (body : ∀ (cdv : Value) (A : Around) (outer : List Env) (s : Shared) (H : Hp) (E : XK), Room k (A.deeper (envOfC x (defScope st) s.heap.objs.size f cdv)) → ∀ (G : Hp) (v1 : V) (x1 : α) (D : Ends), Same G H → rep K G v1 x1 → pre x1 → (∀ G2 H2, Ext G H G2 H2 → E (.ref C) none H2) →
      tSs (cxOf (L2N.CX P w) P w K mg base N x (defScope st) f cdv A outer s H E) (defBody st) D (start N [v1]) H) : CalN P w K mg base (k + 1) x (SpR1 K pre C) :=
  have F2 : FnOk P w K mg base (L2N.CX P w) (k + 1) f fd ps (SpR1 K pre C) := okXN F S (fun vs H Q E (h : SpR1 K pre C vs H Q E) => by obtain ⟨_, _, _, rfl, _⟩ := h; exact hl.symm) fun cdv A outer s H vs Q E hr (h : SpR1 K pre C vs H Q E) => ⟨_, pss_sem, by
    obtain ⟨G, v1, x1, rfl, s0, r1, hp, q⟩ := h
    exact body cdv A outer s H E hr G v1 x1 _ s0 r1 hp q⟩
  ⟨f, fd, ps, F2, hm, F.kp, hb⟩
end
theorem hu_mark {k : Nat} {A : Around} {v : Option Value} (r : Room k A) : (A.mark v).units + 64 < cLine := hu_of64 (A := A) r
end RL

set_option Elab.async false
set_option linter.all false
set_option maxRecDepth 100000
set_option maxHeartbeats 4000000
/-! RM: a list of ints that defs draw from and change on the way (an own list handed to callees). -/
namespace RL
open PySem PySem.Spec PyProof.Rows L2 Rep
structure SameX (q : Addr) (H H' : Hp) : Prop where
  e : ∀ a o, a ≠ q → H a = some o → H' a = some o
  k : ∃ o, H' q = some o ∧ ∀ xs, o ≠ .tup xs
theorem SameX.free {q p : Addr} {H H' : Hp} (s : SameX q H H') (h : H' p = none) : H p = none := by
  cases e : H p with
  | none => rfl
  | some o =>
    by_cases hp : p = q
    · subst hp
      obtain ⟨u, hu, _⟩ := s.k
      rw [hu] at h
      cases h
    · rw [s.e p o hp e] at h
      cases h
/-- as Ext, but the list at q may be another one -/
structure ExtM (q : Addr) (G H G' H' : Hp) : Prop where
  h : SameX q H H'
  g : Same G G'
  s : Same G' H'
  n : ∀ b o, G' b = some o → G b = some o ∨ H b = none ∨ ∃ xs, o = .tup xs
section
variable {q p : Addr} {G H G1 H1 G2 H2 G0 H0 : Hp} {o : HO}
theorem ExtM.refl (s : Same G H) (k : ∃ o, H q = some o ∧ ∀ xs, o ≠ .tup xs) : ExtM q G H G H := ⟨⟨fun _ _ _ e => e, k⟩, Same.refl _, s, fun _ _ e => .inl e⟩
theorem ExtM.transM (a : ExtM q G H G1 H1) (b : ExtM q G1 H1 G2 H2) : ExtM q G H G2 H2 :=
  ⟨⟨fun x o hx e => b.h.e x o hx (a.h.e x o hx e), b.h.k⟩, a.g.trans b.g, b.s, fun x o e => by
    rcases b.n x o e with z | z | z
    · exact a.n x o z
    · exact .inr (.inl (a.h.free z))
    · exact .inr (.inr z)⟩
theorem Ext.toM (x : Ext G H G1 H1) (k : ∃ o, H q = some o ∧ ∀ xs, o ≠ .tup xs) : ExtM q G H G1 H1 := ⟨⟨fun a o _ e => x.h a o e, let ⟨o, e, t⟩ := k; ⟨o, x.h q o e, t⟩⟩, x.g, x.s, x.n⟩
theorem ExtM.trans (a : ExtM q G H G1 H1) (b : Ext G1 H1 G2 H2) : ExtM q G H G2 H2 := a.transM (b.toM a.h.k)
theorem Ext.transM (a : Ext G0 H0 G H) (n : H0 q = none) (b : ExtM q G H G1 H1) : Ext G0 H0 G1 H1 :=
  ⟨fun x o e => b.h.e x o (fun z => by rw [z, n] at e; cases e) (a.h x o e), a.g.trans b.g, b.s, fun x o e => by
    rcases b.n x o e with z | z | z
    · exact a.n x o z
    · exact .inr (.inl (a.h.free z))
    · exact .inr (.inr z)⟩
/-- a store at q itself -/
theorem ExtM.wrq (a : ExtM q G H G1 H1) (g : G1 q = none) (ho : ∀ xs, o ≠ .tup xs := by intro _ z; cases z) : ExtM q G H G1 (upd H1 q o) :=
  ⟨⟨fun x u hx e => by rw [upd_ne hx]; exact a.h.e x u hx e, o, upd_same, ho⟩, a.g, fun x u e => by
    rw [upd_ne (ne_of_none e g)]
    exact a.s _ _ e, a.n⟩
/-- .. at another own one -/
theorem ExtM.wr (a : ExtM q G H G1 H1) (h0 : H p = none) (g : G1 p = none) (ho : ∀ xs, o ≠ .tup xs := by intro _ z; cases z) : ExtM q G H G1 (upd H1 p o) :=
  ⟨⟨fun x u hx e => by rw [upd_ne (ne_of_none e h0)]; exact a.h.e x u hx e, by
    by_cases hp : q = p
    · subst hp; exact ⟨o, upd_same, ho⟩
    · rw [upd_ne hp]; exact a.h.k⟩, a.g, fun x u e => by
    rw [upd_ne (ne_of_none e g)]
    exact a.s _ _ e, a.n⟩
theorem ExtM.frz (a : ExtM q G H G1 H1) (h0 : H p = none) (e : H1 p = some o) : ExtM q G H (upd G1 p o) H1 := by
  refine ⟨a.h, fun b x q' => ?_, fun b x q' => ?_, fun b x q' => ?_⟩
  · by_cases hb : b = p
    · subst hb
      rw [upd_same, ← e]
      exact a.s _ _ (a.g _ _ q')
    · rw [upd_ne hb]
      exact a.g _ _ q'
  · by_cases hb : b = p
    · subst hb
      rw [upd_same] at q'
      rw [e, q']
    · rw [upd_ne hb] at q'
      exact a.s _ _ q'
  · by_cases hb : b = p
    · subst hb
      exact .inr (.inl h0)
    · rw [upd_ne hb] at q'
      exact a.n _ _ q'
variable {α : Type} [Rep α] {K : PySem.W.Frag} {xs : List α}
theorem Own.ex' (o : Own K G H q xs) : ∃ u, H q = some u ∧ ∀ xs, u ≠ .tup xs := let ⟨_, e, _⟩ := o.at_; ⟨_, e, fun _ z => nomatch z⟩
theorem Own.monoM (o : Own K G H p xs) (x : ExtM q G H G1 H1) (hne : p ≠ q) : Own K G1 H1 p xs := by
  obtain ⟨vs, e, pr⟩ := o.at_
  refine ⟨⟨vs, x.h.e _ _ hne e, pair_up x.g pr⟩, ?_⟩
  cases z : G1 p with
  | none => rfl
  | some u =>
    rcases x.n _ _ z with y | y | ⟨ys, y⟩
    · rw [o.off] at y; cases y
    · rw [e] at y; cases y
    · have y1 := x.h.e _ _ hne e; have y2 := x.s _ _ z; rw [y1, y] at y2; cases y2
theorem Own.frzM {G0 H0 : Hp} (o : Own K G H p xs) (x0 : ExtM q G0 H0 G H) (n : H0 p = none) : ∃ G', ExtM q G0 H0 G' H ∧ Same G G' ∧ rep K G' (.ref p) xs :=
  let ⟨vs, e, pr⟩ := o.at_; ⟨upd G p (.lst vs), x0.frz n e, same_new o.off, p, vs, rfl, upd_same, pair_up (same_new o.off) pr⟩
theorem thawM {α : Type} [Rep α] [Flat α] {K : PySem.W.Frag} {xs : List α} {Ga Ha Gb Hb Gw Hw : Hp} {v : V} (xa : ExtM q G0 H0 Ga Ha) (x : Ext Ga Ha Gb Hb) (n : New Ha v) (xw : ExtM q G0 H0 Gw Hw) (s : Same Hb Hw) (r : rep K Gb v xs) :
    ∃ p, v = .ref p ∧ H0 p = none ∧ Own K Ga Hw p xs ∧ ExtM q G0 H0 Ga Hw := by
  obtain ⟨p, vs, rfl, e, pr⟩ := r
  have hq : Ha p = none := n p rfl
  refine ⟨p, rfl, xa.h.free hq, ⟨⟨vs, s _ _ (x.s _ _ e), ?_⟩, xa.s.free hq⟩, ⟨xw.h, xa.g, fun b o h => s _ _ (x.h _ _ (xa.s _ _ h)), xa.n⟩⟩
  clear e
  induction pr with
  | nil => exact .nil
  | cons h t ih => exact .cons (Flat.flat h) ih
end
section
variable {X : Cx} {σ : St} {G H : Hp} {D : Ends} {q : Addr} {P : PV} {e a b c tg : Expr} {es : List Expr} {pos p : Pos} {α β γ δ ζ : Type} [Rep α] [Rep β] [Rep γ] [Rep δ] [Rep ζ] {xs xs1 xs2 xs' : List Int}
/-- e draws from the list at q: xs ahead, xs' behind; its value is x -/
def EvM (X : Cx) (e : Expr) (σ : St) (q : Addr) (G H : Hp) (xs : List Int) (x : α) (xs' : List Int) : Prop :=
  ∀ G1 H1, ExtM q G H G1 H1 → Own X.K G1 H1 q xs → ∀ Q : VK, (∀ G2 H2 v, ExtM q G1 H1 G2 H2 → HLen H2 → Own X.K G2 H2 q xs' → rep X.K G2 v x → Q v H2) → tE X e σ H1 Q
theorem evM_of {x : α} {t : TE} (hp : PE X e t) (k : ∀ G1 H1, ExtM q G H G1 H1 → Own X.K G1 H1 q xs → ∀ Q : VK, (∀ G2 H2 v, ExtM q G1 H1 G2 H2 → Own X.K G2 H2 q xs' → rep X.K G2 v x → Q v H2) → t σ H1 Q) : EvM X e σ q G H xs x xs' :=
  fun G1 H1 x1 o _ kk => tE_lenF fun pins s I => hp.run pins s σ H1 _ I (k G1 H1 x1 o _ fun G2 H2 v x2 o2 r hl => kk G2 H2 v x2 hl o2 r)
theorem evM_pure {x : α} (h : ∀ G1 H1, ExtM q G H G1 H1 → Own X.K G1 H1 q xs → Ev X e σ G1 H1 x) : EvM X e σ q G H xs x xs :=
  fun G1 H1 x1 o Q k => h G1 H1 x1 o G1 H1 (Ext.refl x1.s) Q fun G2 H2 v y l r => k G2 H2 v (y.toM o.ex') l (o.mono y) r
theorem EvM.to {x y : α} (h : EvM X e σ q G H xs x xs') (z : x = y) : EvM X e σ q G H xs y xs' := z ▸ h
def bot : Hp := fun _ => none
theorem bot_ext {G H : Hp} (s : Same G H) : Ext bot bot G H := ⟨fun _ _ e => (by cases e), fun _ _ e => (by cases e), s, fun _ _ _ => Or.inr (Or.inl rfl)⟩
theorem binM {rr : R2} {i : α} {j : β} {r : γ} (k : ∀ G1 H1 v u, Ext bot bot G1 H1 → HLen H1 → Is X.K i G1 H1 v → Is X.K j G1 H1 u → ∀ Q : VK, (∀ G2 H2 w, Ext G1 H1 G2 H2 → Is X.K r G2 H2 w → Q w H2) → rr v u H1 Q)
    (ha : EvM X a σ q G H xs i xs1) (hb : EvM X b σ q G H xs1 j xs2) : ∀ G1 H1, ExtM q G H G1 H1 → Own X.K G1 H1 q xs → ∀ Q : VK, (∀ G2 H2 v, ExtM q G1 H1 G2 H2 → Own X.K G2 H2 q xs2 → rep X.K G2 v r → Q v H2) → tOp rr (tE X a) (tE X b) σ H1 Q := fun G1 H1 x1 o Q kk =>
  ha G1 H1 x1 o _ fun G2 H2 v x2 _ o2 rv => hb G2 H2 (x1.transM x2) o2 _ fun G3 H3 u x3 l3 o3 ru => k G3 H3 v u (bot_ext x3.s) l3 (up x3.g rv) ru Q fun G4 H4 w x4 rw' => kk G4 H4 w ((x2.transM x3).trans x4) (o3.mono x4) rw'
theorem evM_bin {op : Operator} {i : α} {j : β} {r : γ} (k : Bin X (binaryOp op) (Is X.K i) (Is X.K j) (Is X.K r) bot bot) (ha : EvM X a σ q G H xs i xs1) (hb : EvM X b σ q G H xs1 j xs2) : EvM X (.BinOp a op b pos) σ q G H xs r xs2 :=
  let ⟨_, ho, k⟩ := k; evM_of (pe_op ho pe_sem pe_sem) (binM k ha hb)
theorem evM_cmp {op : CmpOp} {i : α} {j : β} {r : Bool} (k : Bin X (compareOp op) (Is X.K i) (Is X.K j) (Is X.K r) bot bot) (ha : EvM X a σ q G H xs i xs1) (hb : EvM X b σ q G H xs1 j xs2) (hm : behindInMarks op b = false := by first | exact nomark _ | rfl) : EvM X (.Compare a [op] [b] pos) σ q G H xs r xs2 :=
  let ⟨_, ho, k⟩ := k; evM_of (pe_cmpR ho pe_sem pe_sem hm) (binM k ha hb)
/-- items -/
def EsM (X : Cx) (es : List Expr) (σ : St) (q : Addr) (G H : Hp) (xs : List Int) (ys : List α) (xs' : List Int) : Prop :=
  ∀ G1 H1, ExtM q G H G1 H1 → Own X.K G1 H1 q xs → ∀ Q : List V → Hp → Prop, (∀ G2 H2 vs, ExtM q G1 H1 G2 H2 → HLen H2 → Own X.K G2 H2 q xs' → Paired (rep X.K G2) vs ys → Q vs H2) → tA X es σ H1 Q
theorem esM_nil : EsM X [] σ q G H xs ([] : List α) xs := fun G1 H1 x1 o Q k => tA_lenF fun pos pins s I => (pa_nil (X := X)).run pos pins s σ H1 _ I fun hl => k G1 H1 [] (ExtM.refl x1.s x1.h.k) hl o .nil
theorem esM_cons {y : α} {ys : List α} (h : EvM X e σ q G H xs y xs1) (hr : EsM X es σ q G H xs1 ys xs2) (hs : starEach (e :: es) X.env = (false, eval e X.env) :: starEach es X.env := by rfl) : EsM X (e :: es) σ q G H xs (y :: ys) xs2 :=
  fun G1 H1 x1 o Q k => tA_lenF fun pos pins s I => (pa_cons pe_sem pa_sem hs).run pos pins s σ H1 _ I (h G1 H1 x1 o _ fun G2 H2 v x2 _ o2 rv => hr G2 H2 (x1.transM x2) o2 _ fun G3 H3 vs x3 l3 o3 pr => fun hl => k G3 H3 _ (x2.transM x3) hl o3 (.cons (up x3.g rv) pr))
theorem evM_list {ys : List α} (h : EsM X es σ q G H xs ys xs') (hl : ys.length ≤ 1000 := by exact Nat.le_of_ble_eq_true rfl) : EvM X (.List es pos) σ q G H xs ys xs' :=
  evM_of (pe_lst pa_sem) fun G1 H1 x1 o Q k => h G1 H1 x1 o _ fun G2 H2 vs x2 _ o2 pa => ⟨by rw [paired_len pa]; exact Nat.le_of_lt (small1000 hl), fun p hp =>
    have xn : Ext G2 H2 _ _ := (Ext.refl x2.s).new hp
    k (upd G2 p (.lst vs)) _ _ (x2.trans xn) (o2.mono xn) ⟨p, vs, rfl, upd_same, pair_up (same_new (x2.s.free hp)) pa⟩⟩
theorem evM_ix {ys : List α} {i : Int} (d : α) (ha : EvM X a σ q G H xs ys xs1) (hb : EvM X b σ q G H xs1 i xs2) (h0 : 0 ≤ i) (h1 : i < (ys.length : Int)) (hs : PlainIx b := by intro _ _; rfl) : EvM X (.Subscript a b pos) σ q G H xs (ys.getD i.toNat d) xs2 :=
  evM_of (pe_ix ix_list pe_sem pe_sem hs) (binM (fun G1 H1 v u x _ e1 e2 Q k => by
    obtain ⟨a, us, e, g, pr⟩ := e1
    have hj := ixN_of h0 h1
    have hlt := ixN_lt hj
    have hg : ys[i.toNat]? = some (ys.getD i.toNat d) := by
      rw [List.getD_eq_getElem?_getD, List.getElem?_eq_getElem hlt]
      rfl
    obtain ⟨w, hw, rw'⟩ := paired_get pr hg
    refine ⟨a, us, i, w, e, e2, .of (x.s _ _ g), ?_, k G1 H1 w (Ext.refl x.s) rw'⟩
    unfold atI
    rw [paired_len pr, hj]
    exact hw) ha hb)
/-- arguments -/
def EaM (X : Cx) (es : List Expr) (σ : St) (q : Addr) (G H : Hp) (xs : List Int) (A : Hp → Hp → List V → Prop) (xs' : List Int) : Prop :=
  ∀ G1 H1, ExtM q G H G1 H1 → Own X.K G1 H1 q xs → ∀ Q : List V → Hp → Prop, (∀ G2 H2 vs, ExtM q G1 H1 G2 H2 → HLen H2 → Own X.K G2 H2 q xs' → A G2 H2 vs → Q vs H2) → tA X es σ H1 Q
theorem eaM_nil : EaM X [] σ q G H xs (fun _ _ vs => vs = []) xs := fun G1 H1 x1 o Q k => tA_lenF fun pos pins s I => (pa_nil (X := X)).run pos pins s σ H1 _ I fun hl => k G1 H1 [] (ExtM.refl x1.s x1.h.k) hl o rfl
theorem eaM_cons {y : α} {A : Hp → Hp → List V → Prop} (h : EvM X e σ q G H xs y xs1) (hr : EaM X es σ q G H xs1 A xs2) (hs : starEach (e :: es) X.env = (false, eval e X.env) :: starEach es X.env := by rfl) : EaM X (e :: es) σ q G H xs (ACons (Is X.K y) A) xs2 :=
  fun G1 H1 x1 o Q k => tA_lenF fun pos pins s I => (pa_cons pe_sem pa_sem hs).run pos pins s σ H1 _ I (h G1 H1 x1 o _ fun G2 H2 v x2 _ o2 rv => hr G2 H2 (x1.transM x2) o2 _ fun G3 H3 vs x3 l3 o3 pr => fun hl => k G3 H3 _ (x2.transM x3) hl o3 ⟨v, vs, rfl, up x3.g rv, pr⟩)
/-- a call of a def that draws from its first argument -/
theorem evM_call {y : α} {k i : Nat} {n : Str} {rn : Str} {rp p : Pos} {sp : Sp} {A : Hp → Hp → List V → Prop} (C : Cal X.prog X.w X.K X.mg X.base k n sp) (hr : Room k X.A) (hg : Gl X n) (sl : Sl X i rn) (hq : σ[i]? = some (some (.ref q))) (ha : EaM X es σ q G H xs A xs1)
    (h : ∀ G1 H1 vs, Same G1 H1 → HLen H1 → Own X.K G1 H1 q xs1 → A G1 H1 vs → ∀ Q : VK, (∀ G2 H2 v, ExtM q G1 H1 G2 H2 → Own X.K G2 H2 q xs2 → rep X.K G2 v y → Q v H2) → sp (.ref q :: vs) H1 Q E0) (hdb : (n == ("__debug__" : Str)) = false := by decide)
    (he : starEach (.Name rn rp :: es) X.env = (false, eval (.Name rn rp) X.env) :: starEach es X.env := by rfl) (hpl : (backTo pos (starEach es X.env)).any (·.1) = false := by rfl) : EvM X (.Call (.Name n p) (.Name rn rp :: es) [] pos) σ q G H xs y xs2 := by
  obtain ⟨f, fd, ps, F, hm, hk, hb⟩ := C.ex
  exact evM_of (pe_call F hr hg hm hk hb .nil passL (pa_cons (pe_var sl.hN sl.hv sl.nm.hd sl.nm.hcd) pa_sem he) hdb he hpl) fun G1 H1 x1 o Q kk => ⟨_, hq, ha G1 H1 x1 o _ fun G2 H2 vs x2 l2 o2 pa => by
    show sp ((V.ref q :: vs) ++ []) H2 Q E0
    rw [List.append_nil]
    exact h G2 H2 vs x2.s l2 o2 pa Q fun G3 H3 v x3 o3 r => kk G3 H3 v (x2.transM x3) o3 r⟩
/-- a call of a def that takes data, some drawn -/
theorem evM_callP {y : α} {k : Nat} {n : Str} {p : Pos} {sp : Sp} {A : Hp → Hp → List V → Prop} (C : Cal X.prog X.w X.K X.mg X.base k n sp) (hr : Room k X.A) (hg : Gl X n) (ha : EaM X (e :: es) σ q G H xs A xs1)
    (h : ∀ G1 H1 vs, Same G1 H1 → HLen H1 → A G1 H1 vs → ∀ Q : VK, (∀ G2 H2 v, Ext G1 H1 G2 H2 → rep X.K G2 v y → Q v H2) → sp vs H1 Q E0) (hdb : (n == ("__debug__" : Str)) = false := by decide)
    (he : starEach (e :: es) X.env = (false, eval e X.env) :: starEach es X.env := by rfl) (hpl : (backTo pos (starEach es X.env)).any (·.1) = false := by rfl) : EvM X (.Call (.Name n p) (e :: es) [] pos) σ q G H xs y xs1 := by
  obtain ⟨f, fd, ps, F, hm, hk, hb⟩ := C.ex
  exact evM_of (pe_call F hr hg hm hk hb .nil passL pa_sem hdb he hpl) fun G1 H1 x1 o Q kk => ha G1 H1 x1 o _ fun G2 H2 vs x2 l2 o2 pa => by
    show sp (vs ++ []) H2 Q E0
    rw [List.append_nil]
    exact h G2 H2 vs x2.s l2 pa Q fun G3 H3 v x3 r => kk G3 H3 v (x2.trans x3) (o2.mono x3) r
theorem evM_callB {y : α} {id : String} {r : List V → Hp → VK → Prop} {n : Str} {p : Pos} {A : Hp → Hp → List V → Prop} (hc : CallR X (.builtin id) r) (hg : Gl X n) (hm : X.mg n = none) (hv : bootBuiltins n = some (.builtin id)) (ha : EaM X (e :: es) σ q G H xs A xs1)
    (h : ∀ G1 H1 vs, Same G1 H1 → HLen H1 → A G1 H1 vs → ∀ Q : VK, (∀ G2 H2 v, Ext G1 H1 G2 H2 → rep X.K G2 v y → Q v H2) → r vs H1 Q)
    (hn : n ≠ "__name__" := by decide) (hdb : (n == ("__debug__" : Str)) = false := by decide) (he : starEach (e :: es) X.env = (false, eval e X.env) :: starEach es X.env := by rfl) (hpl : (backTo pos (starEach es X.env)).any (·.1) = false := by rfl) : EvM X (.Call (.Name n p) (e :: es) [] pos) σ q G H xs y xs1 :=
  evM_of (pe_callB hc hg hm hv pa_sem hn hdb he hpl) fun G1 H1 x1 o Q kk => ha G1 H1 x1 o _ fun G2 H2 vs x2 l2 o2 pa => h G2 H2 vs x2.s l2 pa Q fun G3 H3 w x3 r => kk G3 H3 w (x2.trans x3) (o2.mono x3) r
theorem evM_max {i j : Int} (B : Bl X "max") (hc : X.calm = true) (h1 : EvM X a σ q G H xs i xs1) (h2 : EvM X b σ q G H xs1 j xs2) (he : starEach [a, b] X.env = (false, eval a X.env) :: starEach [b] X.env := by rfl) (he2 : starEach [b] X.env = (false, eval b X.env) :: starEach [] X.env := by rfl)
    (hpl : (backTo pos (starEach [b] X.env)).any (·.1) = false := by rfl) : EvM X (.Call (.Name "max" p) [a, b] [] pos) σ q G H xs (if j > i then j else i) xs2 :=
  evM_callB (call_max2 hc) B.g B.m boot_max (eaM_cons h1 (eaM_cons h2 eaM_nil he2) he) (fun G1 H1 vs s l ⟨v, r, e1, pv, v2, r2, e2, pv2, e3⟩ Q k =>
    ⟨i, j, by rw [e1, e2, e3, show v = _ from pv, show v2 = _ from pv2], k G1 H1 _ (Ext.refl s) rfl⟩) (by decide) (by decide) he hpl
theorem evM_min {i j : Int} (B : Bl X "min") (hc : X.calm = true) (h1 : EvM X a σ q G H xs i xs1) (h2 : EvM X b σ q G H xs1 j xs2) (he : starEach [a, b] X.env = (false, eval a X.env) :: starEach [b] X.env := by rfl) (he2 : starEach [b] X.env = (false, eval b X.env) :: starEach [] X.env := by rfl)
    (hpl : (backTo pos (starEach [b] X.env)).any (·.1) = false := by rfl) : EvM X (.Call (.Name "min" p) [a, b] [] pos) σ q G H xs (if j < i then j else i) xs2 :=
  evM_callB (call_min2 hc) B.g B.m boot_min (eaM_cons h1 (eaM_cons h2 eaM_nil he2) he) (fun G1 H1 vs s l ⟨v, r, e1, pv, v2, r2, e2, pv2, e3⟩ Q k =>
    ⟨i, j, by rw [e1, e2, e3, show v = _ from pv, show v2 = _ from pv2], k G1 H1 _ (Ext.refl s) rfl⟩) (by decide) (by decide) he hpl
end
section
variable {α β γ δ ζ : Type} [Rep α] [Rep β] [Rep γ] [Rep δ] [Rep ζ]
/-- promises of defs that draw from their first argument: the answer, and the list behind -/
def SpM1 (K : PySem.W.Frag) (fr : Bool) (pre : List Int → Prop) (f : List Int → ζ × List Int) : Sp := fun vs H Q _ => ∃ (G : Hp) (q : Addr) (xs : List Int), vs = [.ref q] ∧ Same G H ∧ Own K G H q xs ∧ pre xs ∧
  ∀ G2 H2 w, ExtM q G H G2 H2 → Own K G2 H2 q (f xs).2 → rep K G2 w (f xs).1 → (fr = true → New H w) → Q w H2
def SpM2 (K : PySem.W.Frag) (fr : Bool) (pre : List Int → β → Prop) (f : List Int → β → ζ × List Int) : Sp := fun vs H Q _ => ∃ (G : Hp) (q : Addr) (v2 : V) (xs : List Int) (x2 : β), vs = [.ref q, v2] ∧ Same G H ∧ Own K G H q xs ∧ rep K G v2 x2 ∧ pre xs x2 ∧
  ∀ G2 H2 w, ExtM q G H G2 H2 → Own K G2 H2 q (f xs x2).2 → rep K G2 w (f xs x2).1 → (fr = true → New H w) → Q w H2
def SpM3 (K : PySem.W.Frag) (fr : Bool) (pre : List Int → β → γ → Prop) (f : List Int → β → γ → ζ × List Int) : Sp := fun vs H Q _ => ∃ (G : Hp) (q : Addr) (v2 v3 : V) (xs : List Int) (x2 : β) (x3 : γ), vs = [.ref q, v2, v3] ∧ Same G H ∧ Own K G H q xs ∧ rep K G v2 x2 ∧ rep K G v3 x3 ∧ pre xs x2 x3 ∧
  ∀ G2 H2 w, ExtM q G H G2 H2 → Own K G2 H2 q (f xs x2 x3).2 → rep K G2 w (f xs x2 x3).1 → (fr = true → New H w) → Q w H2
def SpM4 (K : PySem.W.Frag) (fr : Bool) (pre : List Int → β → γ → δ → Prop) (f : List Int → β → γ → δ → ζ × List Int) : Sp := fun vs H Q _ => ∃ (G : Hp) (q : Addr) (v2 v3 v4 : V) (xs : List Int) (x2 : β) (x3 : γ) (x4 : δ), vs = [.ref q, v2, v3, v4] ∧ Same G H ∧ Own K G H q xs ∧ rep K G v2 x2 ∧ rep K G v3 x3 ∧ rep K G v4 x4 ∧ pre xs x2 x3 x4 ∧
  ∀ G2 H2 w, ExtM q G H G2 H2 → Own K G2 H2 q (f xs x2 x3 x4).2 → rep K G2 w (f xs x2 x3 x4).1 → (fr = true → New H w) → Q w H2
structure EndM (K : PySem.W.Frag) (fr : Bool) (q : Addr) (G H : Hp) (y : ζ × List Int) (D : Ends) : Prop where
  rt : ∀ G2 H2 w, ExtM q G H G2 H2 → Own K G2 H2 q y.2 → rep K G2 w y.1 → (fr = true → New H w) → D.rt w H2
  nx : ∀ G2 H2 σ, ExtM q G H G2 H2 → Own K G2 H2 q y.2 → rep K G2 .non y.1 → D.nx σ H2
theorem endM_of {K : PySem.W.Frag} {fr : Bool} {q : Addr} {G H : Hp} {y : ζ × List Int} {Q : VK} (k : ∀ G2 H2 w, ExtM q G H G2 H2 → Own K G2 H2 q y.2 → rep K G2 w y.1 → (fr = true → New H w) → Q w H2) : EndM K fr q G H y { nx := fun _ H' => Q .non H', rt := Q } :=
  ⟨k, fun G2 H2 _ x o r => k G2 H2 _ x o r fun _ p e => nomatch e⟩
section
variable {X : Cx} {σ : St} {G H : Hp} {D : Ends} {q : Addr} {P : PV} {e a b c tg e2 e3 e4 : Expr} {es : List Expr} {pos p : Pos} {xs xs1 xs2 xs3 xs' : List Int} {k i : Nat} {n rn : Str} {rp : Pos} {fr : Bool} {x1 : α} {x2 : β} {x3 : γ} {x4 : δ}
theorem evM_m1 {pre : List Int → Prop} {f : List Int → ζ × List Int} (C : Cal X.prog X.w X.K X.mg X.base k n (SpM1 X.K fr pre f)) (hr : Room k X.A) (hg : Gl X n) (sl : Sl X i rn) (hp : pre xs) (hq : σ[i]? = some (some (.ref q)) := by rfl) (hdb : (n == ("__debug__" : Str)) = false := by decide)
    (he : starEach [.Name rn rp] X.env = (false, eval (.Name rn rp) X.env) :: starEach [] X.env := by rfl) : EvM X (.Call (.Name n p) [.Name rn rp] [] pos) σ q G H xs (f xs).1 (f xs).2 :=
  evM_call C hr hg sl hq eaM_nil (fun G1 H1 vs s l o e Q kk => ⟨G1, q, xs, by rw [e], s, o, hp, fun G2 H2 w x o r _ => kk G2 H2 w x o r⟩) hdb he rfl
theorem evM_m2 {pre : List Int → β → Prop} {f : List Int → β → ζ × List Int} (C : Cal X.prog X.w X.K X.mg X.base k n (SpM2 X.K fr pre f)) (hr : Room k X.A) (hg : Gl X n) (sl : Sl X i rn) (h2 : EvM X e2 σ q G H xs x2 xs1) (hp : pre xs1 x2) (hq : σ[i]? = some (some (.ref q)) := by rfl) (hdb : (n == ("__debug__" : Str)) = false := by decide)
    (he : starEach [.Name rn rp, e2] X.env = (false, eval (.Name rn rp) X.env) :: starEach [e2] X.env := by rfl) (he2 : starEach [e2] X.env = (false, eval e2 X.env) :: starEach [] X.env := by rfl) (hpl : (backTo pos (starEach [e2] X.env)).any (·.1) = false := by rfl) : EvM X (.Call (.Name n p) [.Name rn rp, e2] [] pos) σ q G H xs (f xs1 x2).1 (f xs1 x2).2 :=
  evM_call C hr hg sl hq (eaM_cons h2 eaM_nil he2) (fun G1 H1 vs s l o ⟨v, r, e, rv, e'⟩ Q kk => ⟨G1, q, v, xs1, x2, by rw [e, e'], s, o, rv, hp, fun G2 H2 w x o r _ => kk G2 H2 w x o r⟩) hdb he hpl
theorem evM_m3 {pre : List Int → β → γ → Prop} {f : List Int → β → γ → ζ × List Int} (C : Cal X.prog X.w X.K X.mg X.base k n (SpM3 X.K fr pre f)) (hr : Room k X.A) (hg : Gl X n) (sl : Sl X i rn) (h2 : EvM X e2 σ q G H xs x2 xs1) (h3 : EvM X e3 σ q G H xs1 x3 xs2) (hp : pre xs2 x2 x3) (hq : σ[i]? = some (some (.ref q)) := by rfl) (hdb : (n == ("__debug__" : Str)) = false := by decide)
    (he : starEach [.Name rn rp, e2, e3] X.env = (false, eval (.Name rn rp) X.env) :: starEach [e2, e3] X.env := by rfl) (he2 : starEach [e2, e3] X.env = (false, eval e2 X.env) :: starEach [e3] X.env := by rfl) (he3 : starEach [e3] X.env = (false, eval e3 X.env) :: starEach [] X.env := by rfl) (hpl : (backTo pos (starEach [e2, e3] X.env)).any (·.1) = false := by rfl) : EvM X (.Call (.Name n p) [.Name rn rp, e2, e3] [] pos) σ q G H xs (f xs2 x2 x3).1 (f xs2 x2 x3).2 :=
  evM_call C hr hg sl hq (eaM_cons h2 (eaM_cons h3 eaM_nil he3) he2) (fun G1 H1 vs s l o ⟨v, r, e, rv, v3, r3, e', rv3, e''⟩ Q kk => ⟨G1, q, v, v3, xs2, x2, x3, by rw [e, e', e''], s, o, rv, rv3, hp, fun G2 H2 w x o r _ => kk G2 H2 w x o r⟩) hdb he hpl
theorem evM_m4 {pre : List Int → β → γ → δ → Prop} {f : List Int → β → γ → δ → ζ × List Int} (C : Cal X.prog X.w X.K X.mg X.base k n (SpM4 X.K fr pre f)) (hr : Room k X.A) (hg : Gl X n) (sl : Sl X i rn) (h2 : EvM X e2 σ q G H xs x2 xs1) (h3 : EvM X e3 σ q G H xs1 x3 xs2) (h4 : EvM X e4 σ q G H xs2 x4 xs3) (hp : pre xs3 x2 x3 x4) (hq : σ[i]? = some (some (.ref q)) := by rfl) (hdb : (n == ("__debug__" : Str)) = false := by decide)
    (he : starEach [.Name rn rp, e2, e3, e4] X.env = (false, eval (.Name rn rp) X.env) :: starEach [e2, e3, e4] X.env := by rfl) (he2 : starEach [e2, e3, e4] X.env = (false, eval e2 X.env) :: starEach [e3, e4] X.env := by rfl) (he3 : starEach [e3, e4] X.env = (false, eval e3 X.env) :: starEach [e4] X.env := by rfl) (he4 : starEach [e4] X.env = (false, eval e4 X.env) :: starEach [] X.env := by rfl) (hpl : (backTo pos (starEach [e2, e3, e4] X.env)).any (·.1) = false := by rfl) : EvM X (.Call (.Name n p) [.Name rn rp, e2, e3, e4] [] pos) σ q G H xs (f xs3 x2 x3 x4).1 (f xs3 x2 x3 x4).2 :=
  evM_call C hr hg sl hq (eaM_cons h2 (eaM_cons h3 (eaM_cons h4 eaM_nil he4) he3) he2) (fun G1 H1 vs s l o ⟨v, r, e, rv, v3, r3, e', rv3, v4, r4, e'', rv4, e3'⟩ Q kk => ⟨G1, q, v, v3, v4, xs3, x2, x3, x4, by rw [e, e', e'', e3'], s, o, rv, rv3, rv4, hp, fun G2 H2 w x o r _ => kk G2 H2 w x o r⟩) hdb he hpl
theorem evM_c1 {pre : α → Prop} {f : α → ζ} (C : Cal X.prog X.w X.K X.mg X.base k n (Sp1 X.K fr pre f)) (hr : Room k X.A) (hg : Gl X n) (h1 : EvM X a σ q G H xs x1 xs1) (hp : pre x1) (hdb : (n == ("__debug__" : Str)) = false := by decide)
    (he : starEach [a] X.env = (false, eval a X.env) :: starEach [] X.env := by rfl) : EvM X (.Call (.Name n p) [a] [] pos) σ q G H xs (f x1) xs1 :=
  evM_callP C hr hg (eaM_cons h1 eaM_nil he) (fun G1 H1 vs s l ⟨v, r, e, rv, e'⟩ Q kk => ⟨G1, v, x1, by rw [e, e'], s, rv, hp, fun G2 H2 w x r _ => kk G2 H2 w x r⟩) hdb he rfl
theorem evM_c2 {pre : α → β → Prop} {f : α → β → ζ} (C : Cal X.prog X.w X.K X.mg X.base k n (Sp2 X.K fr pre f)) (hr : Room k X.A) (hg : Gl X n) (h1 : EvM X a σ q G H xs x1 xs1) (h2 : EvM X e2 σ q G H xs1 x2 xs2) (hp : pre x1 x2) (hdb : (n == ("__debug__" : Str)) = false := by decide)
    (he : starEach [a, e2] X.env = (false, eval a X.env) :: starEach [e2] X.env := by rfl) (he2 : starEach [e2] X.env = (false, eval e2 X.env) :: starEach [] X.env := by rfl) (hpl : (backTo pos (starEach [e2] X.env)).any (·.1) = false := by rfl) : EvM X (.Call (.Name n p) [a, e2] [] pos) σ q G H xs (f x1 x2) xs2 :=
  evM_callP C hr hg (eaM_cons h1 (eaM_cons h2 eaM_nil he2) he) (fun G1 H1 vs s l ⟨v, r, e, rv, v2, r2, e', rv2, e''⟩ Q kk => ⟨G1, v, v2, x1, x2, by rw [e, e', e''], s, rv, rv2, hp, fun G2 H2 w x r _ => kk G2 H2 w x r⟩) hdb he hpl
/-! statements -/
theorem s_setM {y : α} {i : Nat} {n : Str} (hN : X.N.Nodup) (sl : Ss X i n) (s0 : Same G H) (o : Own X.K G H q xs) (h : EvM X e σ q G H xs y xs') (k : ∀ G1 H1 v, ExtM q G H G1 H1 → HLen H1 → Own X.K G1 H1 q xs' → rep X.K G1 v y → D.nx (σ.set i (some v)) H1)
    (hs : swapsWith e (some (.Name n p)) pos.line X.env = pure false := by rfl) : tS X (.Assign [.Name n p] e pos) D σ H :=
  s_of (ps_set hN sl.hN sl.hx pe_sem hs sl.hf) (h G H (ExtM.refl s0 o.ex') o _ fun G1 H1 v x l o r => k G1 H1 v x l o r)
theorem s_retM {y : α} (s0 : Same G H) (o : Own X.K G H q xs) (h : EvM X e σ q G H xs y xs') (k : ∀ G1 H1 v, ExtM q G H G1 H1 → HLen H1 → Own X.K G1 H1 q xs' → rep X.K G1 v y → D.rt v H1) : tS X (.Return (some e) pos) D σ H :=
  s_of (ps_ret pe_sem) (h G H (ExtM.refl s0 o.ex') o _ fun G1 H1 v x l o r => k G1 H1 v x l o r)
theorem s_exprM {y : α} (s0 : Same G H) (o : Own X.K G H q xs) (h : EvM X e σ q G H xs y xs') (k : ∀ G1 H1 v, ExtM q G H G1 H1 → HLen H1 → Own X.K G1 H1 q xs' → rep X.K G1 v y → D.nx σ H1) (hs : swapsWith e none pos.line X.env = pure false := by rfl) : tS X (.Expr e pos) D σ H :=
  s_of (ps_expr pe_sem hs) (h G H (ExtM.refl s0 o.ex') o _ fun G1 H1 v x l o r => k G1 H1 v x l o r)
theorem s_ifM {y : Bool} {sts sts' : List Stmt} (s0 : Same G H) (o : Own X.K G H q xs) (h : EvM X c σ q G H xs y xs') (h1 : y = true → ∀ G1 H1, ExtM q G H G1 H1 → HLen H1 → Own X.K G1 H1 q xs' → tSs X sts D σ H1) (h2 : y = false → ∀ G1 H1, ExtM q G H G1 H1 → HLen H1 → Own X.K G1 H1 q xs' → tSs X sts' D σ H1)
    (ht : ∀ whole, isTrue c X.env whole = (do let v ← whole; standAt c.pos; holding [v] (truthy v)) := by intro _; rfl) : tS X (.If c sts sts' pos) D σ H :=
  s_of (ps_if (pt_val pe_sem ht) pss_sem pss_sem) (h G H (ExtM.refl s0 o.ex') o _ fun G1 H1 v x1 l o1 r => ⟨y, r, by
    cases y with
    | true =>
      show tSs X sts D σ H1
      exact h1 rfl G1 H1 x1 l o1
    | false =>
      show tSs X sts' D σ H1
      exact h2 rfl G1 H1 x1 l o1⟩)
/-- what a for walks, drawn -/
def EvIM (X : Cx) (tg iter : Expr) (σ : St) (q : Addr) (G H : Hp) (xs : List Int) (ys : List α) (xs' : List Int) : Prop :=
  ∃ wi : TI, PI X tg iter wi ∧ ∀ G1 H1, ExtM q G H G1 H1 → Own X.K G1 H1 q xs → ∀ R : It → Hp → Prop, (∀ J G2 H2, ExtM q G1 H1 G2 H2 → ys.length ≤ sizeLine → Own X.K G2 H2 q xs' → WalkOf X.K J G2 ys → R J H2) → wi σ H1 R
theorem eiM_list {ys : List α} (h : EvM X e σ q G H xs ys xs') : EvIM X tg e σ q G H xs ys xs' :=
  ⟨_, pi_list pe_sem, fun G1 H1 x1 o R r => h G1 H1 x1 o _ fun G2 H2 v x2 l2 o2 pv => by
    obtain ⟨a, us, e, g, pr⟩ := pv
    have g : SqL X.K G2 a us := .of g
    refine ⟨a, e, ⟨us, x2.s.seq g⟩, r _ G2 H2 x2 (by rw [← paired_len pr]; exact sql_len l2 (x2.s.seq g)) o2 fun G' H' s1 s2 => ?_⟩
    have hq : SqL X.K H' a us := s2.seq (s1.seq g)
    refine ⟨fun i hi => ?_, ⟨us, hq, by rw [paired_len pr]; exact Nat.le_refl _⟩, fun i x v H'' hx y => ?_⟩
    · rw [← paired_len pr] at hi
      exact ⟨us, us[i], hq, List.getElem?_eq_getElem hi⟩
    · obtain ⟨rfl, y⟩ := y
      obtain ⟨w, hw, rw'⟩ := paired_get pr hx
      have e : w = v := Option.some.inj (hw.symm.trans (y us hq))
      subst e
      exact ⟨G', Ext.refl s2, up s1 rw'⟩⟩
theorem s_forM {ys : List α} {T : TgT α} {g : TG} {iter : Expr} {body : List Stmt} (hp : PassesOwn (model X.prog X.w) X.A X.env X.xe) (hc : X.calm = true) (hg : PG X tg g) (ha : Acts X.K g T) (s0 : Same G H) (o : Own X.K G H q xs) (hi : EvIM X tg iter σ q G H xs ys xs')
    (I : List α → St → Hp → Hp → Prop) (h0 : ∀ G1 H1, ExtM q G H G1 H1 → Own X.K G1 H1 q xs' → I ys σ G1 H1)
    (hs : ∀ x rest σ1 G1 H1 G2 H2 σ2, (∃ l, l ++ x :: rest = ys) ∧ ys.length ≤ sizeLine → Same G G1 → Same G1 H1 → I (x :: rest) σ1 G1 H1 → Ext G1 H1 G2 H2 → HLen H2 → T G2 x σ1 σ2 →
      tSs X body { D with nx := fun σ' H' => ∃ G', Same G2 G' ∧ Same G' H' ∧ I rest σ' G' H', ct := fun σ' H' => ∃ G', Same G2 G' ∧ Same G' H' ∧ I rest σ' G' H', bk := D.nx } σ2 H2)
    (hd : ∀ σ1 G1 H1, Same G G1 → Same G1 H1 → I [] σ1 G1 H1 → D.nx σ1 H1) (hsf : ∀ x, foldedSetIterable iter X.env x = pure x := by intro _; rfl) : tS X (.For tg iter body [] pos) D σ H := by
  obtain ⟨wi, pi, hi⟩ := hi
  refine s_of (ps_for hp hc pi hg pss_sem hsf) (hi G H (ExtM.refl s0 o.ex') o _ fun J Gs Hs xs0 hl os hw => ?_)
  refine ⟨fun i m σ' H' => m = ys.length - i ∧ i ≤ ys.length ∧ ∃ G', Same Gs G' ∧ Same G' H' ∧ I (ys.drop i) σ' G' H', ⟨ys.length, rfl, Nat.zero_le _, Gs, Same.refl _, xs0.s, h0 Gs Hs xs0 os⟩, ?_⟩
  rintro i m σ' H' ⟨rfl, hi', G', sg, sh, Iv⟩
  obtain ⟨go, stop, yld⟩ := hw G' H' sg sh
  by_cases hlt : i < ys.length
  · have hx : ys[i]? = some ys[i] := List.getElem?_eq_getElem hlt
    have ed : ys.drop i = ys[i] :: ys.drop (i + 1) := List.drop_eq_getElem_cons hlt
    rw [ed] at Iv
    refine .inr ⟨go i hlt, fun σ2 H2 => ∃ G2, Same Gs G2 ∧ Same G2 H2 ∧ I (ys.drop (i + 1)) σ2 G2 H2, fun σ2 H2 q => ⟨_, by omega, rfl, hlt, q⟩, fun v H'' y => ?_⟩
    obtain ⟨G'', x'', rv⟩ := yld i _ v H'' hx y
    refine ha _ v G'' H'' _ _ x''.s rv fun σ2 hT => tSs_lenI fun l => ?_
    refine .mk fun pins s Iv' => ?_
    refine thn (hs ys[i] (ys.drop (i + 1)) σ' G' H' G'' H'' σ2 ⟨⟨ys.take i, by rw [← ed, List.take_append_drop]⟩, hl⟩ (xs0.g.trans sg) sh Iv x'' l hT |>.run pins s Iv') fun f s' q => ?_
    have fin : ∀ {H3 : Hp} {σ3 : St}, (∃ G3, Same G'' G3 ∧ Same G3 H3 ∧ I (ys.drop (i + 1)) σ3 G3 H3) → ∃ G2, Same Gs G2 ∧ Same G2 H3 ∧ I (ys.drop (i + 1)) σ3 G2 H3 := fun ⟨G3, a, b, c⟩ => ⟨G3, sg.trans (x''.g.trans a), b, c⟩
    cases f with
    | next =>
      obtain ⟨σ3, H3, I3, q⟩ := q
      exact ⟨σ3, H3, I3, fin q⟩
    | cont =>
      obtain ⟨σ3, H3, I3, q⟩ := q
      exact ⟨σ3, H3, I3, fin q⟩
    | brk => exact q
    | ret u => exact q
  · have e : i = ys.length := by omega
    subst e
    rw [List.drop_length] at Iv
    exact .inl ⟨stop, hd σ' G' H' (xs0.g.trans sg) sh Iv⟩
end
section
variable {P : Program} {w : World} {K : PySem.W.Frag} {mg : Str → Option Value} {base : Heap} {x : Str} {st : Stmt} {f : Addr} {fd : FuncData} {N ps : List Str} {k : Nat} {fr : Bool}
theorem fnM1 {pre : List Int → Prop} {m : List Int → ζ × List Int} (F : Fun K x x st f fd) (hm : mg x = some (.ref f)) (hb : Binds K fd ps []) (S : FnScope N ps (defScope st)) (hl : ps.length = 1)
    (body : ∀ (cdv : Value) (A : Around) (outer : List Env) (s : Shared) (H : Hp) (E : XK), Room k (A.deeper (envOfC x (defScope st) s.heap.objs.size f cdv)) → ∀ (G : Hp) (q : Addr) (xs : List Int) (D : Ends), Same G H → Own K G H q xs → pre xs → EndM K fr q G H (m xs) D →
      tSs (cxOf (L2.CX P w) P w K mg base N x (defScope st) f cdv A outer s H E) (defBody st) D (start N [.ref q]) H) : Cal P w K mg base (k + 1) x (SpM1 K fr pre m) :=
  cal_of F hm hb S (fun vs H Q E h => by obtain ⟨_, _, _, rfl, _⟩ := h; exact hl.symm) fun cdv A outer s H vs Q E hr h => by
    obtain ⟨G, q, xs, rfl, s0, o, hp, kk⟩ := h
    exact body cdv A outer s H E hr G q xs _ s0 o hp (endM_of kk)
theorem fnM2 {pre : List Int → β → Prop} {m : List Int → β → ζ × List Int} (F : Fun K x x st f fd) (hm : mg x = some (.ref f)) (hb : Binds K fd ps []) (S : FnScope N ps (defScope st)) (hl : ps.length = 2)
    (body : ∀ (cdv : Value) (A : Around) (outer : List Env) (s : Shared) (H : Hp) (E : XK), Room k (A.deeper (envOfC x (defScope st) s.heap.objs.size f cdv)) → ∀ (G : Hp) (q : Addr) (v2 : V) (xs : List Int) (x2 : β) (D : Ends), Same G H → Own K G H q xs → rep K G v2 x2 → pre xs x2 → EndM K fr q G H (m xs x2) D →
      tSs (cxOf (L2.CX P w) P w K mg base N x (defScope st) f cdv A outer s H E) (defBody st) D (start N [.ref q, v2]) H) : Cal P w K mg base (k + 1) x (SpM2 K fr pre m) :=
  cal_of F hm hb S (fun vs H Q E h => by obtain ⟨_, _, _, _, _, rfl, _⟩ := h; exact hl.symm) fun cdv A outer s H vs Q E hr h => by
    obtain ⟨G, q, v2, xs, x2, rfl, s0, o, r2, hp, kk⟩ := h
    exact body cdv A outer s H E hr G q v2 xs x2 _ s0 o r2 hp (endM_of kk)
theorem fnM3 {pre : List Int → β → γ → Prop} {m : List Int → β → γ → ζ × List Int} (F : Fun K x x st f fd) (hm : mg x = some (.ref f)) (hb : Binds K fd ps []) (S : FnScope N ps (defScope st)) (hl : ps.length = 3)
    (body : ∀ (cdv : Value) (A : Around) (outer : List Env) (s : Shared) (H : Hp) (E : XK), Room k (A.deeper (envOfC x (defScope st) s.heap.objs.size f cdv)) → ∀ (G : Hp) (q : Addr) (v2 v3 : V) (xs : List Int) (x2 : β) (x3 : γ) (D : Ends), Same G H → Own K G H q xs → rep K G v2 x2 → rep K G v3 x3 → pre xs x2 x3 → EndM K fr q G H (m xs x2 x3) D →
      tSs (cxOf (L2.CX P w) P w K mg base N x (defScope st) f cdv A outer s H E) (defBody st) D (start N [.ref q, v2, v3]) H) : Cal P w K mg base (k + 1) x (SpM3 K fr pre m) :=
  cal_of F hm hb S (fun vs H Q E h => by obtain ⟨_, _, _, _, _, _, _, rfl, _⟩ := h; exact hl.symm) fun cdv A outer s H vs Q E hr h => by
    obtain ⟨G, q, v2, v3, xs, x2, x3, rfl, s0, o, r2, r3, hp, kk⟩ := h
    exact body cdv A outer s H E hr G q v2 v3 xs x2 x3 _ s0 o r2 r3 hp (endM_of kk)
theorem fnM4 {pre : List Int → β → γ → δ → Prop} {m : List Int → β → γ → δ → ζ × List Int} (F : Fun K x x st f fd) (hm : mg x = some (.ref f)) (hb : Binds K fd ps []) (S : FnScope N ps (defScope st)) (hl : ps.length = 4)
    (body : ∀ (cdv : Value) (A : Around) (outer : List Env) (s : Shared) (H : Hp) (E : XK), Room k (A.deeper (envOfC x (defScope st) s.heap.objs.size f cdv)) → ∀ (G : Hp) (q : Addr) (v2 v3 v4 : V) (xs : List Int) (x2 : β) (x3 : γ) (x4 : δ) (D : Ends), Same G H → Own K G H q xs → rep K G v2 x2 → rep K G v3 x3 → rep K G v4 x4 → pre xs x2 x3 x4 → EndM K fr q G H (m xs x2 x3 x4) D →
      tSs (cxOf (L2.CX P w) P w K mg base N x (defScope st) f cdv A outer s H E) (defBody st) D (start N [.ref q, v2, v3, v4]) H) : Cal P w K mg base (k + 1) x (SpM4 K fr pre m) :=
  cal_of F hm hb S (fun vs H Q E h => by obtain ⟨_, _, _, _, _, _, _, _, _, rfl, _⟩ := h; exact hl.symm) fun cdv A outer s H vs Q E hr h => by
    obtain ⟨G, q, v2, v3, v4, xs, x2, x3, x4, rfl, s0, o, r2, r3, r4, hp, kk⟩ := h
    exact body cdv A outer s H E hr G q v2 v3 v4 xs x2 x3 x4 _ s0 o r2 r3 r4 hp (endM_of kk)
end
end
end RL
namespace RL
open PySem PySem.Spec PyProof.Rows L2 Rep
theorem offM {α : Type} [Rep α] {K : PySem.W.Frag} {q : Addr} {G0 H0 G H : Hp} {xs : List α} (x : ExtM q G0 H0 G H) (o : Own K G0 H0 q xs) : G q = none := by
  cases z : G q with
  | none => rfl
  | some u =>
    obtain ⟨v, e, _⟩ := o.ex'
    rcases x.n _ _ z with y | y | ⟨ys, y⟩
    · rw [o.off] at y; cases y
    · rw [e] at y; cases y
    · obtain ⟨w, y1, y2⟩ := x.h.k
      have y3 := x.s _ _ z
      rw [y1] at y3
      exact absurd ((Option.some.inj y3).trans y) (y2 ys)
theorem Own.re {α : Type} [Rep α] {K : PySem.W.Frag} {q : Addr} {G G' H : Hp} {xs : List α} (o : Own K G H q xs) (s : Same G G') (h : G' q = none) : Own K G' H q xs :=
  let ⟨vs, e, p⟩ := o.at_; ⟨⟨vs, e, pair_up s p⟩, h⟩
end RL
namespace RL
open PySem PySem.Spec PyProof.Rows L2 Rep
section
variable {X : Cx} {σ : St} {G H : Hp} {D : Ends} {q : Addr} {e a b c : Expr} {es : List Expr} {pos p : Pos} {α : Type} [Rep α] {xs xs1 xs2 xs' : List Int}
/-- a and b, b drawn only where a holds -/
theorem evM_and {x y : Bool} (ha : EvM X a σ q G H xs x xs1) (hb : x = true → EvM X b σ q G H xs1 y xs2) : EvM X (.BoolOp .And [a, b] pos) σ q G H xs (x && y) (if x = true then xs2 else xs1) :=
  evM_of (pe_and pe_sem (pe_one pe_sem)) fun G1 H1 x1 o Q k => ha G1 H1 x1 o _ fun G2 H2 v x2 _ o2 r => ⟨x, r, by
    cases x with
    | true =>
      show tE X b σ H2 Q
      exact hb rfl G2 H2 (x1.transM x2) o2 Q fun G3 H3 w x3 _ o3 rw' => k G3 H3 w (x2.transM x3) o3 rw'
    | false =>
      show Q (.bl false) H2
      exact k G2 H2 _ x2 o2 rfl⟩
theorem evM_intB {x : Bool} (B : Bl X "int") (h : EvM X e σ q G H xs x xs1) (he : starEach [e] X.env = (false, eval e X.env) :: starEach [] X.env := by rfl) : EvM X (.Call (.Name "int" p) [e] [] pos) σ q G H xs (if x = true then 1 else 0 : Int) xs1 :=
  evM_of (pe_callTy call_int1 B.g B.m PyProof.Rows.boot_int (pa_cons pe_sem pa_nil he) (by decide) (by decide) he rfl) fun G1 H1 x1 o Q k => h G1 H1 x1 o _ fun G2 H2 v x2 _ o2 r => .inr ⟨x, by rw [show v = _ from r], k G2 H2 _ x2 o2 rfl⟩
/-- a drawn test -/
def EvTM (X : Cx) (e : Expr) (σ : St) (q : Addr) (G H : Hp) (xs : List Int) (b : Bool) (xs' : List Int) : Prop :=
  ∀ G1 H1, ExtM q G H G1 H1 → Own X.K G1 H1 q xs → ∀ Q : Bool → Hp → Prop, (∀ G2 H2, ExtM q G1 H1 G2 H2 → HLen H2 → Own X.K G2 H2 q xs' → Q b H2) → tT X e σ H1 Q
theorem evTM_of {b : Bool} {t : TT} (hp : PT X e t) (k : ∀ G1 H1, ExtM q G H G1 H1 → Own X.K G1 H1 q xs → ∀ Q : Bool → Hp → Prop, (∀ G2 H2, ExtM q G1 H1 G2 H2 → Own X.K G2 H2 q xs' → Q b H2) → t σ H1 Q) : EvTM X e σ q G H xs b xs' :=
  fun G1 H1 x1 o _ kk => tT_lenF fun pins s I => hp.run pins s σ H1 _ I (k G1 H1 x1 o _ fun G2 H2 x2 o2 hl => kk G2 H2 x2 hl o2)
theorem etM_val {x : Bool} (h : EvM X e σ q G H xs x xs') (he : ∀ whole, isTrue e X.env whole = (do let v ← whole; standAt e.pos; holding [v] (truthy v)) := by intro _; rfl) : EvTM X e σ q G H xs x xs' :=
  evTM_of (pt_val pe_sem he) fun G1 H1 x1 o Q k => h G1 H1 x1 o _ fun G2 H2 _ x2 _ o2 r => ⟨x, r, k G2 H2 x2 o2⟩
theorem etM_pure {x : Bool} (h : ∀ G1 H1, ExtM q G H G1 H1 → Own X.K G1 H1 q xs → EvT X e σ G1 H1 x) : EvTM X e σ q G H xs x xs :=
  fun G1 H1 x1 o Q k => h G1 H1 x1 o G1 H1 (Ext.refl x1.s) Q fun G2 H2 y l => k G2 H2 (y.toM o.ex') l (o.mono y)
theorem etM_and {x y : Bool} (ha : EvTM X a σ q G H xs x xs1) (hb : x = true → EvTM X b σ q G H xs1 y xs2) : EvTM X (.BoolOp .And [a, b] pos) σ q G H xs (x && y) (if x = true then xs2 else xs1) :=
  evTM_of (pw_and (pos := pos) pt_sem (pw_and1 pt_sem)).pt fun G1 H1 x1 o Q k => ha G1 H1 x1 o _ fun G2 H2 x2 _ o2 => by
    cases x with
    | true =>
      show tT X b σ H2 Q
      exact hb rfl G2 H2 (x1.transM x2) o2 Q fun G3 H3 x3 _ o3 => k G3 H3 (x2.transM x3) o3
    | false =>
      show Q false H2
      exact k G2 H2 x2 o2
theorem s_ifT {y : Bool} {sts sts' : List Stmt} (s0 : Same G H) (o : Own X.K G H q xs) (h : EvTM X c σ q G H xs y xs') (h1 : y = true → ∀ G1 H1, ExtM q G H G1 H1 → HLen H1 → Own X.K G1 H1 q xs' → tSs X sts D σ H1) (h2 : y = false → ∀ G1 H1, ExtM q G H G1 H1 → HLen H1 → Own X.K G1 H1 q xs' → tSs X sts' D σ H1) : tS X (.If c sts sts' pos) D σ H :=
  s_of (ps_if pt_sem pss_sem pss_sem) (h G H (ExtM.refl s0 o.ex') o _ fun G1 H1 x1 l o1 => by
    cases y with
    | true =>
      show tSs X sts D σ H1
      exact h1 rfl G1 H1 x1 l o1
    | false =>
      show tSs X sts' D σ H1
      exact h2 rfl G1 H1 x1 l o1)
end
end RL

set_option Elab.async false
set_option linter.all false
set_option maxRecDepth 100000
set_option maxHeartbeats 4000000
/-! RN: more that is drawn: tuples, comprehensions, sorted, a place set, a place taken away; lists of two unlike things. -/
namespace RL
open PySem PySem.Spec PyProof.Rows L2 Rep
/-- drawn item by item -/
def dmap {α β : Type} (f : α → List Int → β × List Int) : List α → List Int → List β × List Int
  | [], st => ([], st)
  | x :: xs, st => ((f x st).1 :: (dmap f xs (f x st).2).1, (dmap f xs (f x st).2).2)
theorem dmap_snoc {α β : Type} {f : α → List Int → β × List Int} {x : α} : ∀ (xs : List α) (st : List Int), dmap f (xs ++ [x]) st = ((dmap f xs st).1 ++ [(f x (dmap f xs st).2).1], (f x (dmap f xs st).2).2)
  | [], st => rfl
  | y :: ys, st => by
    show ((f y st).1 :: (dmap f (ys ++ [x]) (f y st).2).1, (dmap f (ys ++ [x]) (f y st).2).2) = _
    rw [dmap_snoc ys]
    rfl
theorem dmap_len {α β : Type} {f : α → List Int → β × List Int} : ∀ (xs : List α) (st : List Int), (dmap f xs st).1.length = xs.length
  | [], _ => rfl
  | x :: xs, st => by
    show (dmap f xs (f x st).2).1.length + 1 = xs.length + 1
    rw [dmap_len xs]
/-- what holds of the list all along -/
theorem dmap_inv {α β : Type} {f : α → List Int → β × List Int} {J : List Int → Prop} : ∀ {xs : List α} {st : List Int}, J st → (∀ x ∈ xs, ∀ st, J st → J (f x st).2) → J (dmap f xs st).2
  | [], _, h, _ => h
  | y :: ys, st, h, k => dmap_inv (xs := ys) (st := (f y st).2) (k y List.mem_cons_self st h) fun x hx => k x (List.mem_cons_of_mem _ hx)
/-- .. and of the items -/
theorem dmap_all {α β : Type} {f : α → List Int → β × List Int} {J : List Int → Prop} {F : β → Prop} : ∀ {xs : List α} {st : List Int}, J st → (∀ x ∈ xs, ∀ st, J st → J (f x st).2 ∧ F (f x st).1) → ∀ y ∈ (dmap f xs st).1, F y
  | [], _, _, _, _, h => by cases h
  | x :: xs, st, h, k, y, hy => by
    rcases List.mem_cons.mp hy with rfl | hy
    · exact (k _ List.mem_cons_self _ h).2
    · exact dmap_all (k _ List.mem_cons_self _ h).1 (fun x hx => k x (List.mem_cons_of_mem _ hx)) y hy
section
variable {X : Cx} {σ : St} {G H : Hp} {D : Ends} {q : Addr} {P : PV} {e a b c tg : Expr} {es : List Expr} {pos p : Pos} {α β γ δ ζ : Type} [Rep α] [Rep β] [Rep γ] [Rep δ] [Rep ζ] {xs xs1 xs2 xs' : List Int}
theorem evM_tup {x : α} {y : β} {k : Nat} (ha : EvM X a σ q G H xs x xs1) (hb : EvM X b σ q G H xs1 y xs2) (hs : starEach [a, b] X.env = (false, eval a X.env) :: starEach [b] X.env := by rfl) (hs' : starEach [b] X.env = (false, eval b X.env) :: starEach [] X.env := by rfl) :
    EvM X (.Tuple [a, b] k pos) σ q G H xs (x, y) xs2 :=
  evM_of (pe_tup (pa_cons pe_sem (pa_cons pe_sem pa_nil hs') hs)) fun G1 H1 x1 o Q k => ha G1 H1 x1 o _ fun G2 H2 v x2 _ o2 pv => hb G2 H2 (x1.transM x2) o2 _ fun G3 H3 u x3 _ o3 pu =>
    ⟨by show 2 ≤ sizeLine; decide, fun p hp =>
      have xn : Ext G3 H3 _ _ := (Ext.refl x3.s).new hp
      k (upd G3 p (.tup [v, u])) _ _ ((x2.transM x3).trans xn) (o3.mono xn) ⟨p, v, u, rfl, upd_same, up (same_new (x3.s.free hp)) (up x3.g pv), up (same_new (x3.s.free hp)) pu⟩⟩
theorem evM_sorted {ys : List Int} (B : Bl X "sorted") (h : EvM X e σ q G H xs ys xs') (he : starEach [e] X.env = (false, eval e X.env) :: starEach [] X.env := by rfl) : EvM X (.Call (.Name "sorted" p) [e] [] pos) σ q G H xs (isort ys) xs' :=
  evM_callB cr_sortedI B.g B.m PyProof.Rows.boot_sorted (eaM_cons h eaM_nil he) (fun G1 H1 vs s l ⟨v, r, e1, pv, e2⟩ Q k => by
    obtain ⟨a, us, e, g, pr⟩ := pv
    have g : SqL X.K H1 a us := .of (s _ _ g)
    rw [paired_ints pr] at g
    refine ⟨a, ys, by rw [e1, e2, e], g, fun ns' p perm srt hp => ?_⟩
    have e : ns' = isort ys := sorted_one (perm.trans (isort_perm ys).symm) srt (isort_sorted ys)
    subst e
    exact k (upd G1 p (.lst _)) _ _ ((Ext.refl s).new hp) ⟨p, _, rfl, upd_same, ints_paired _⟩) (by decide) (by decide) he rfl
theorem etM_cmp {op : CmpOp} {i : α} {j : β} {d : Bool} (k : Bin X (compareOp op) (Is X.K i) (Is X.K j) (Is X.K d) bot bot) (ha : EvM X a σ q G H xs i xs1) (hb : EvM X b σ q G H xs1 j xs2) (hm : behindInMarks op b = false := by first | exact nomark _ | rfl) : EvTM X (.Compare a [op] [b] pos) σ q G H xs d xs2 :=
  let ⟨_, ho, k⟩ := k; evTM_of (pt_cmpR ho pe_sem pe_sem hm) fun G1 H1 x1 o Q kk => binM k ha hb G1 H1 x1 o _ fun G2 H2 v x2 o2 r => ⟨d, r, kk G2 H2 x2 o2⟩
/-- [elt for n in iter], elt drawn -/
theorem lcM_goO {β : Type} [Rep β] {elt : Expr} {scope : Scope} {ys : List α} {f : α → List Int → β × List Int} {J : List Int → Prop} {vs : List Nat} {i : Nat} {wi : TI}
    {G1 H1 : Hp} (x1 : ExtM q G H G1 H1) (o : Own X.K G1 H1 q xs) (hi : ∀ R : It → Hp → Prop, (∀ J G2 H2, Ext G1 H1 G2 H2 → ys.length ≤ sizeLine → WalkOf X.K J G2 ys → R J H2) → wi σ H1 R) (hw : ∀ v, wipe ((wipe σ vs).set i (some v)) vs = wipe σ vs)
    (h0 : J xs) (hJ : ∀ x ∈ ys, ∀ st, J st → J (f x st).2)
    (he : ∀ x v st G1 H1, x ∈ ys → J st → ExtM q G H G1 H1 → rep X.K G1 v x → ∀ s H0 C cl fp, EvM (InB X scope s H0 C cl fp) elt ((wipe σ vs).set i (some v)) q G1 H1 st (f x st).1 (f x st).2) :
    ∀ Q : VK, (∀ G2 H2 p, ExtM q G1 H1 G2 H2 → Own X.K G2 H2 q (dmap f ys xs).2 → H1 p = none → p ≠ q → Own X.K G2 H2 p (dmap f ys xs).1 → Q (.ref p) H2) → tLc wi (gName i) (lcT X scope []) (lcE X scope elt) vs σ H1 Q := by
  intro Q k
  refine hi _ fun It G2 H2 x2 hl hwk Dd hD => ?_
  have hD1 : H1 Dd = none := x2.h.free hD
  have hqD : q ≠ Dd := fun z => by obtain ⟨u, hu, _⟩ := o.ex'; rw [z, hD1] at hu; cases hu
  let Pv : Nat → Hp → Prop := fun n H' => ∃ G' acc, ExtM q G1 H1 G' H' ∧ Same G2 G' ∧ G' Dd = none ∧ H' Dd = some (.lst acc) ∧ acc.length = n ∧ Own X.K G' H' q (dmap f (ys.take n) xs).2 ∧ Paired (rep X.K G') acc (dmap f (ys.take n) xs).1
  refine ⟨fun n m H' => m = ys.length - n ∧ n ≤ ys.length ∧ Pv n H', ⟨ys.length, rfl, Nat.zero_le _, G2, [], ?_, Same.refl _, x2.s.free hD, upd_same, rfl, ?_, .nil⟩, ?_⟩
  · exact (x2.newH hD).toM o.ex'
  · exact o.mono (x2.newH hD)
  rintro n m H' ⟨rfl, hn, G', acc, x', sg, gD, eD, hq, ow, pr⟩
  obtain ⟨go, stop, yld⟩ := hwk G' H' sg x'.s
  by_cases hlt : n < ys.length
  · have hx : ys[n]? = some ys[n] := List.getElem?_eq_getElem hlt
    refine .inr ⟨go n hlt, Pv (n + 1), fun H'' z => ⟨_, by omega, rfl, hlt, z⟩, fun v H'' y => ?_⟩
    obtain ⟨G'', x'', rv⟩ := yld n _ v H'' hx y
    have gD2 : G'' Dd = none := x''.off gD eD
    have eD2 := x''.h _ _ eD
    have hst : J (dmap f (ys.take n) xs).2 := dmap_inv h0 fun x hx => hJ x (List.mem_of_mem_take hx)
    refine ⟨hw v, fun s H0 C cl fp pins s' I => pts_nil.run pins s' _ H'' _ I fun s1 H01 C1 cl1 fp1 => ?_⟩
    refine he _ v _ G'' H'' (List.getElem_mem hlt) hst ((x1.transM x').trans x'') rv s1 H01 C1 cl1 fp1 G'' H'' (ExtM.refl x''.s (ow.mono x'').ex') (ow.mono x'') _ fun G3 H3 w x3 _ o3 rw' => ?_
    have eD3 := x3.h.e _ _ (Ne.symm hqD) eD2
    have gD3 : G3 Dd = none := by
      cases z : G3 Dd with
      | none => rfl
      | some u =>
        rcases x3.n _ _ z with y | y | ⟨ys', y⟩
        · rw [gD2] at y; cases y
        · rw [eD2] at y; cases y
        · have y2 := x3.s _ _ z; rw [eD3, y] at y2; cases y2
    have ek : dmap f (ys.take (n + 1)) xs = ((dmap f (ys.take n) xs).1 ++ [(f ys[n] (dmap f (ys.take n) xs).2).1], (f ys[n] (dmap f (ys.take n) xs).2).2) := by
      rw [List.take_add_one, hx]; exact dmap_snoc _ _
    have xx : ExtM q G1 H1 G3 H3 := (x'.trans x'').transM x3
    refine ⟨acc, eD3, by rw [hq]; exact Nat.lt_of_lt_of_le hlt hl, G3, acc ++ [w], xx.wr hD1 gD3, sg.trans (x''.g.trans x3.g), gD3, upd_same, by rw [List.length_append, hq]; rfl, ?_, ?_⟩
    · rw [ek]; exact o3.wr hqD
    · rw [ek]; exact paired_app (pair_up (x''.g.trans x3.g) pr) (.cons rw' .nil)
  · have e : n = ys.length := by omega
    subst e
    rw [List.take_length] at pr ow
    exact .inl ⟨stop, k G' H' Dd x' ow hD1 (Ne.symm hqD) ⟨⟨acc, eD, pr⟩, gD⟩⟩
/-- such a comprehension -/
def LcOkM (X : Cx) (elt : Expr) (gen : Comprehension) (scope : Scope) (σ : St) (q : Addr) (G H : Hp) (xs : List Int) (ys : List α) (xs' : List Int) : Prop :=
  ∀ G1 H1, ExtM q G H G1 H1 → Own X.K G1 H1 q xs → ∃ (tg iter : Expr) (ifs : List Expr) (wi : TI) (g : TG) (own : List (Str × Nat)), gen = ⟨tg, iter, ifs, 0⟩ ∧ X.calm = true ∧ X.N.Nodup ∧ PI X tg iter wi ∧ BlkOk X.N X.env.scope scope own ∧
    (∀ (s : Shared) (H : Hp) (C : Addr) (cl : List (Str × Addr)) (fp : List Addr), PG (X.blk s H scope (compEnvC scope cl C X.env) fp) tg g) ∧ (∀ x, foldedSetIterable iter X.env x = pure x) ∧
    ∀ Q : VK, (∀ G2 H2 p, ExtM q G1 H1 G2 H2 → Own X.K G2 H2 q xs' → H1 p = none → p ≠ q → Own X.K G2 H2 p ys → Q (.ref p) H2) → tLc wi g (lcT X scope ifs) (lcE X scope elt) (own.map (·.2)) σ H1 Q
theorem lcM {β : Type} [Rep β] {elt iter : Expr} {scope : Scope} {ys : List α} {n : Str} {np : Pos} {i : Nat} (f : α → List Int → β × List Int) (J : List Int → Prop) (hc : X.calm = true) (hN : X.N.Nodup) (hi : ∀ G1 H1, ExtM q G H G1 H1 → Own X.K G1 H1 q xs → EvI X (.Name n np) iter σ G1 H1 ys) (own : List (Str × Nat)) (ok : BlkOk X.N X.env.scope scope own)
    (hg : ∀ (s : Shared) (H : Hp) (C : Addr) (cl : List (Str × Addr)) (fp : List Addr), PG (X.blk s H scope (compEnvC scope cl C X.env) fp) (.Name n np) (gName i))
    (h0 : J xs) (hJ : ∀ x ∈ ys, ∀ st, J st → J (f x st).2)
    (he : ∀ x v st G1 H1, x ∈ ys → J st → ExtM q G H G1 H1 → rep X.K G1 v x → ∀ s H0 C cl fp, EvM (InB X scope s H0 C cl fp) elt ((wipe σ (own.map (·.2))).set i (some v)) q G1 H1 st (f x st).1 (f x st).2)
    (hw : ∀ v, wipe ((wipe σ (own.map (·.2))).set i (some v)) (own.map (·.2)) = wipe σ (own.map (·.2)) := by intro _; rfl) (hs : ∀ x, foldedSetIterable iter X.env x = pure x := by intro _; rfl) :
    LcOkM X elt ⟨.Name n np, iter, [], 0⟩ scope σ q G H xs (dmap f ys xs).1 (dmap f ys xs).2 := by
  intro G1 H1 x1 o
  obtain ⟨wi, pi, hi'⟩ := hi G1 H1 x1 o
  exact ⟨_, _, _, wi, _, own, rfl, hc, hN, pi, ok, hg, hs, lcM_goO x1 o (hi' G1 H1 (Ext.refl x1.s)) hw h0 hJ he⟩
theorem frzP {G1 H1 G2 H2 : Hp} {p : Addr} {ys : List α} (x : ExtM q G1 H1 G2 H2) (o : Own X.K G2 H2 q xs) (n : H1 p = none) (hpq : p ≠ q) (op : Own X.K G2 H2 p ys) : ∃ G3, ExtM q G1 H1 G3 H2 ∧ Own X.K G3 H2 q xs ∧ rep X.K G3 (.ref p) ys :=
  let ⟨vs, e, pr⟩ := op.at_; ⟨upd G2 p (.lst vs), x.frz n e, o.re (same_new op.off) (by rw [upd_ne (Ne.symm hpq)]; exact o.off), p, vs, rfl, upd_same, pair_up (same_new op.off) pr⟩
theorem evM_lc {ys : List α} {elt : Expr} {gen : Comprehension} {scope : Scope} (h : LcOkM X elt gen scope σ q G H xs ys xs') : EvM X (.ListComp elt [gen] scope pos) σ q G H xs ys xs' := by
  intro G1 H1 x1 o Q k
  obtain ⟨tg, iter, ifs, wi, g, own, rfl, hc, hN, pi, ok, hg, hs, go⟩ := h G1 H1 x1 o
  exact tE_lenF fun pins s I => (pe_lc hc hN pi ok hg pts_lc pe_lcE hs).run pins s σ H1 _ I (go _ fun G2 H2 p x2 o2 n hpq op hl => by
    obtain ⟨G3, x3, o3, r3⟩ := frzP x2 o2 n hpq op
    exact k G3 H2 _ x3 hl o3 r3)
/-- n = such a one -/
theorem s_setLcM {ys : List α} {elt : Expr} {gen : Comprehension} {scope : Scope} {pos' : Pos} {i : Nat} {n : Str} (hN : X.N.Nodup) (sl : Ss X i n) (s0 : Same G H) (o : Own X.K G H q xs) (h : LcOkM X elt gen scope σ q G H xs ys xs')
    (k : ∀ G1 H1 v, ExtM q G H G1 H1 → HLen H1 → Own X.K G1 H1 q xs' → rep X.K G1 v ys → D.nx (σ.set i (some v)) H1)
    (hl : X.env.scope.names.lookup n = some .local := by rfl) (hsw : swapsWith (.ListComp elt [gen] scope pos) (some (.Name n p)) pos'.line X.env = pure true := by exact sw_true rfl rfl rfl (by decide +kernel)) :
    tS X (.Assign [.Name n p] (.ListComp elt [gen] scope pos) pos') D σ H := by
  obtain ⟨tg, iter, ifs, wi, g, own, rfl, hc, hN', pi, ok, hg, hs, go⟩ := h G H (ExtM.refl s0 o.ex') o
  exact tS_len (s_of (ps_setLc hc hN sl.hN hl hsw pi ok hg pts_lc pe_lcE hs) (go _ fun G2 H2 p x2 o2 n hpq op l => by
    obtain ⟨G3, x3, o3, r3⟩ := frzP x2 o2 n hpq op
    exact k G3 H2 _ x3 l o3 r3))
theorem s_setLcMO {ys : List α} {elt : Expr} {gen : Comprehension} {scope : Scope} {pos' : Pos} {i : Nat} {n : Str} (hN : X.N.Nodup) (sl : Ss X i n) (s0 : Same G H) (o : Own X.K G H q xs) (h : LcOkM X elt gen scope σ q G H xs ys xs')
    (k : ∀ G1 H1 p, ExtM q G H G1 H1 → HLen H1 → Own X.K G1 H1 q xs' → H p = none → p ≠ q → Own X.K G1 H1 p ys → D.nx (σ.set i (some (.ref p))) H1)
    (hl : X.env.scope.names.lookup n = some .local := by rfl) (hsw : swapsWith (.ListComp elt [gen] scope pos) (some (.Name n p)) pos'.line X.env = pure true := by exact sw_true rfl rfl rfl (by decide +kernel)) :
    tS X (.Assign [.Name n p] (.ListComp elt [gen] scope pos) pos') D σ H := by
  obtain ⟨tg, iter, ifs, wi, g, own, rfl, hc, hN', pi, ok, hg, hs, go⟩ := h G H (ExtM.refl s0 o.ex') o
  exact tS_len (s_of (ps_setLc hc hN sl.hN hl hsw pi ok hg pts_lc pe_lcE hs) (go _ fun G2 H2 p x2 o2 n hpq op l => k G2 H2 p x2 l o2 n hpq op))
/-- xs[i] = v, both drawn -/
theorem s_setixM {ys : List α} {y : α} {k : Nat} {n : Str} {p : Addr} {i : Int} {np sp : Pos} (sl : Sl X k n) (s0 : Same G H) (hne : p ≠ q) (o : Own X.K G H q xs) (op : Own X.K G H p ys) (hv : EvM X c σ q G H xs y xs1) (hi : EvM X a σ q G H xs1 i xs2) (h0 : 0 ≤ i) (h1 : i < (ys.length : Int))
    (kk : ∀ G1 H1 vs', ExtM q G H G1 H1 → HLen H1 → Own X.K G1 H1 q xs2 → Own X.K G1 (upd H1 p (.lst vs')) p (ys.set i.toNat y) → D.nx σ (upd H1 p (.lst vs'))) (hq : σ[k]? = some (some (.ref p)) := by rfl)
    (hs : swapsWithSole [.Subscript (.Name n np) a sp] c pos.line X.env = pure false := by rfl) (hw : swappedStores [.Subscript (.Name n np) a sp] c X.env = pure none := by rfl)
    (hh : (assignEach [.Subscript (.Name n np) a sp] X.env).map (·.2) = [assign (.Subscript (.Name n np) a sp) X.env] := by rfl)
    (ha : ∀ v, assign (.Subscript (.Name n np) a sp) X.env v = (do
      let ov ← holding [v] (eval (.Name n np) X.env)
      let iv ← holding [v, ov] (eval a X.env)
      standAt sp
      holding [v, ov, iv] (setItem ov iv v)
      release [v, ov, iv] []) := by intro _; rfl) : tS X (.Assign [.Subscript (.Name n np) a sp] c pos) D σ H := by
  refine s_of (ps_asg pe_sem (pg_sub (pe_var sl.hN sl.hv sl.nm.hd sl.nm.hcd) pe_sem set_list ha) hs hw hh) ?_
  refine hv G H (ExtM.refl s0 o.ex') o _ fun G1 H1 w x1 _ o1 rw' => ⟨_, hq, hi G1 H1 x1 o1 _ fun G2 H2 u x2 l2 o2 ru => ?_⟩
  have op2 := op.monoM (x1.transM x2) hne
  obtain ⟨vs, e, pr⟩ := op2.at_
  have ru : u = V.int i := ru
  exact ⟨p, vs, i, i.toNat, rfl, ru, e, by rw [paired_len pr]; exact ixN_of h0 h1, kk G2 H2 _ (x1.transM x2) l2 o2 ⟨⟨_, upd_same, paired_set (up x2.g rw') _ pr⟩, op2.off⟩⟩
theorem paired_era {α β : Type} {F : α → β → Prop} : ∀ {xs : List α} {ys : List β} {i : Nat}, Paired F xs ys → Paired F (xs.eraseIdx i) (ys.eraseIdx i)
  | _, _, _, .nil => .nil
  | _, _, 0, .cons r t => t
  | _, _, _ + 1, .cons r t => .cons r (paired_era t)
theorem seqIx_of {i : Int} {n : Nat} (h0 : 0 ≤ i) (h1 : i < (n : Int)) : seqIndex? i n = some i.toNat := (ixN_seq (ixN_of h0 h1)).1
/-- xs.pop(i), i drawn -/
theorem s_popM {ys : List α} {k : Nat} {n : Str} {p : Addr} {i : Int} {ap cp np : Pos} (sl : Sl X k n) (s0 : Same G H) (hne : p ≠ q) (o : Own X.K G H q xs) (op : Own X.K G H p ys) (h : EvM X e σ q G H xs i xs2) (h0' : 0 ≤ i) (h1 : i < (ys.length : Int)) (h2 : ys.length ≤ 1000000)
    (kk : ∀ G1 H1 vs', ExtM q G H G1 H1 → HLen H1 → Own X.K G1 H1 q xs2 → Own X.K G1 (upd H1 p (.lst vs')) p (ys.eraseIdx i.toNat) → D.nx σ (upd H1 p (.lst vs'))) (h0 : σ[k]? = some (some (.ref p)) := by rfl)
    (hbase : attributeBase (.Name n np) "pop" X.env (eval (.Name n np) X.env) = eval (.Name n np) X.env := by rfl)
    (hfew : ((backTo cp (starEach [e] X.env)).all (fun x => !x.1) && (backToKw cp (keywordEach [] X.env)).all (fun x => x.1.isSome)
      && decide ([e].length + ([] : List Keyword).length + (if ([] : List Keyword).isEmpty then 0 else 1) < 30)) = true := by rfl)
    (hline : (ap.endLine == cp.line) = true := by rfl) (he : starEach [e] X.env = (false, eval e X.env) :: starEach [] X.env := by rfl) (hplain : (backTo cp (starEach [] X.env)).any (·.1) = false := by rfl)
    (hsw : swapsWith (.Call (.Attribute (.Name n np) "pop" ap) [e] [] cp) none pos.line X.env = pure false := by rfl) :
    tS X (.Expr (.Call (.Attribute (.Name n np) "pop" ap) [e] [] cp) pos) D σ H := by
  obtain ⟨vs, eq, pr⟩ := op.at_
  refine s_of (ps_expr (pe_bm PySem.F.plainAttrs_list PySem.F.slot_list_pop PySem.F.type_list_pop mt_popAt (pe_var sl.hN sl.hv sl.nm.hd sl.nm.hcd) (pa_cons pe_sem pa_nil he) hbase hfew hline he hplain) hsw) ?_
  refine ⟨_, h0, .inl ⟨rfl, _, SqL.of eq⟩, h G H (ExtM.refl s0 o.ex') o _ fun G1 H1 w x l o1 rw' => ?_⟩
  have op1 := op.monoM x hne
  have e1 : H1 p = some (.lst vs) := x.h.e _ _ hne eq
  have rw' : w = V.int i := rw'
  have hlt : i.toNat < vs.length := by rw [paired_len pr]; omega
  exact ⟨p, vs, i, i.toNat, vs[i.toNat], rfl, by rw [rw'], e1, by omega, by omega, by rw [paired_len pr]; exact seqIx_of h0' h1, List.getElem?_eq_getElem hlt, kk G1 H1 _ x l o1 ⟨⟨_, upd_same, paired_era (pair_up x.g pr)⟩, op1.off⟩⟩
/-- xs.append(e), e drawn -/
theorem s_appendM {ys : List α} {y : α} {k : Nat} {n : Str} {p : Addr} {ap cp np : Pos} (sl : Sl X k n) (s0 : Same G H) (hne : p ≠ q) (o : Own X.K G H q xs) (op : Own X.K G H p ys) (h : EvM X e σ q G H xs y xs2) (hz : ys.length < sizeLine)
    (kk : ∀ G1 H1 vs', ExtM q G H G1 H1 → HLen H1 → Own X.K G1 H1 q xs2 → Own X.K G1 (upd H1 p (.lst vs')) p (ys ++ [y]) → D.nx σ (upd H1 p (.lst vs'))) (h0 : σ[k]? = some (some (.ref p)) := by rfl)
    (hbase : attributeBase (.Name n np) "append" X.env (eval (.Name n np) X.env) = eval (.Name n np) X.env := by rfl)
    (hfew : ((backTo cp (starEach [e] X.env)).all (fun x => !x.1) && (backToKw cp (keywordEach [] X.env)).all (fun x => x.1.isSome)
      && decide ([e].length + ([] : List Keyword).length + (if ([] : List Keyword).isEmpty then 0 else 1) < 30)) = true := by rfl)
    (hline : (ap.endLine == cp.line) = true := by rfl) (he : starEach [e] X.env = (false, eval e X.env) :: starEach [] X.env := by rfl) (hplain : (backTo cp (starEach [] X.env)).any (·.1) = false := by rfl)
    (hsw : swapsWith (.Call (.Attribute (.Name n np) "append" ap) [e] [] cp) none pos.line X.env = pure false := by rfl) :
    tS X (.Expr (.Call (.Attribute (.Name n np) "append" ap) [e] [] cp) pos) D σ H := by
  obtain ⟨vs, eq, pr⟩ := op.at_
  refine s_of (ps_expr (pe_bm PySem.F.plainAttrs_list PySem.F.slot_list_append PySem.F.type_list_append mt_append (pe_var sl.hN sl.hv sl.nm.hd sl.nm.hcd) (pa_cons pe_sem pa_nil he) hbase hfew hline he hplain) hsw) ?_
  refine ⟨_, h0, .inl ⟨rfl, _, SqL.of eq⟩, h G H (ExtM.refl s0 o.ex') o _ fun G1 H1 w x l o1 rw' => ?_⟩
  have op1 := op.monoM x hne
  have e1 : H1 p = some (.lst vs) := x.h.e _ _ hne eq
  exact ⟨p, vs, w, rfl, rfl, e1, by rw [paired_len pr]; exact hz, kk G1 H1 _ x l o1 ⟨⟨_, upd_same, paired_app (pair_up x.g pr) (.cons rw' .nil)⟩, op1.off⟩⟩
/-- xs[i] of an own list, i drawn -/
theorem evM_ixO {ys : List α} {i : Int} {k : Nat} {n : Str} {np : Pos} {p : Addr} (d : α) (sl : Sl X k n) (hne : p ≠ q) (op : Own X.K G H p ys) (hb : EvM X b σ q G H xs i xs2) (h0 : 0 ≤ i) (h1 : i < (ys.length : Int)) (hk : σ[k]? = some (some (.ref p)) := by rfl) (hs : PlainIx b := by intro _ _; rfl) :
    EvM X (.Subscript (.Name n np) b pos) σ q G H xs (ys.getD i.toNat d) xs2 :=
  evM_of (pe_ix ix_list (pe_var sl.hN sl.hv sl.nm.hd sl.nm.hcd) pe_sem hs) fun G1 H1 x1 o Q kk => ⟨_, hk, hb G1 H1 x1 o _ fun G2 H2 u x2 _ o2 ru => by
    obtain ⟨us, e, pr⟩ := (op.monoM (x1.transM x2) hne).at_
    have hj := ixN_of h0 h1
    have hlt := ixN_lt hj
    have hg : ys[i.toNat]? = some (ys.getD i.toNat d) := by
      rw [List.getD_eq_getElem?_getD, List.getElem?_eq_getElem hlt]
      rfl
    obtain ⟨w, hw, rw'⟩ := paired_get pr hg
    refine ⟨p, us, i, w, rfl, ru, .of e, ?_, kk G2 H2 w x2 o2 rw'⟩
    unfold atI
    rw [paired_len pr, hj]
    exact hw⟩
/-- n = a + b, the def's own -/
theorem s_catO {ys zs : List α} {Pa Pb : PV} {i : Nat} {n : Str} {cp : Pos} [m : MonoC Pa] [sa : AsOwn X.K Pa α inferInstance ys] [sb : AsOwn X.K Pb α inferInstance zs] (hN : X.N.Nodup) (sl : Ss X i n) (s0 : Same G H) (hl : ys.length + zs.length ≤ sizeLine) (ha : EvP X a σ G H Pa) (hb : EvP X b σ G H Pb)
    (k : ∀ G1 H1 q, Ext G H G1 H1 → HLen H1 → H q = none → Own X.K G1 H1 q (ys ++ zs) → D.nx (σ.set i (some (.ref q))) H1)
    (hs : swapsWith (.BinOp a .Add b cp) (some (.Name n p)) pos.line X.env = pure false := by rfl) : tS X (.Assign [.Name n p] (.BinOp a .Add b cp) pos) D σ H :=
  s_of (ps_set hN sl.hN sl.hx pe_sem hs sl.hf) (tE_lenF fun pins s I => (pe_op op_cat pe_sem pe_sem).run pins s σ H _ I (ha G H (Ext.refl s0) _ fun G1 H1 v x1 _ p1 => hb G1 H1 x1 _ fun G2 H2 u x2 _ p2 => by
    obtain ⟨a1, us, e, g, pr⟩ := sa.own _ _ _ x2.s (m.m _ _ _ _ _ x2 p1)
    obtain ⟨a2, us2, e2, g2, pr2⟩ := sb.own _ _ _ x2.s p2
    refine ⟨a1, a2, us, us2, e, e2, g, g2, by rw [paired_len pr, paired_len pr2]; exact hl, fun q hq l => k G2 _ q ((x1.trans x2).newH hq) l ((x1.trans x2).h.free hq) ⟨⟨_, upd_same, paired_app pr pr2⟩, x2.s.free hq⟩⟩))
end
/-! a list of two unlike things -/
structure Two (α β : Type) where
  a : α
  b : β
deriving DecidableEq
instance instRepTwo {α β : Type} [Rep α] [Rep β] : Rep (Two α β) where
  rep K G v x := ∃ a u w, v = .ref a ∧ G a = some (.lst [u, w]) ∧ rep K G u x.a ∧ rep K G w x.b
  up s h := let ⟨a, u, w, e, g, p, q⟩ := h; ⟨a, u, w, e, s _ _ g, up s p, up s q⟩
instance {α β : Type} [Rep α] [Rep β] [DecidableEq α] [DecidableEq β] [Dat α] [Dat β] : Dat (Two α β) :=
  ⟨fun x => .list [Dat.toD x.a, Dat.toD x.b], fun s ⟨a, u, w, e, g, p, q⟩ => by rw [e]; exact .lst (.of (s _ _ g)) (.cons (Dat.dp s p) (.cons (Dat.dp s q) .nil)),
    fun x => by
      show (PyData.canLay0 (Dat.toD x.a) && (PyData.canLay0 (Dat.toD x.b) && true)) = true
      rw [Dat.ok, Dat.ok]; rfl, max (Dat.deep α) (Dat.deep β) + 1, fun x => by
      show max (PyData.depth (Dat.toD x.a)) (max (PyData.depth (Dat.toD x.b)) 0) + 1 ≤ _
      have h1 := Dat.dep x.a
      have h2 := Dat.dep x.b
      omega, fun x y => by
      show (PyData.eqv (Dat.toD x.a) (Dat.toD y.a) && (PyData.eqv (Dat.toD x.b) (Dat.toD y.b) && true)) = _
      rw [Dat.eqv, Dat.eqv, Bool.and_true, ← Bool.decide_and]
      exact decide_eq_decide.mpr (by cases x; cases y; simp)⟩
section
variable {X : Cx} {σ : St} {G H : Hp} {e a b : Expr} {pos : Pos} {α β : Type} [Rep α] [Rep β]
theorem ev_two {x : α} {y : β} (ha : Ev X a σ G H x) (hb : Ev X b σ G H y) (hs : starEach [a, b] X.env = (false, eval a X.env) :: starEach [b] X.env := by rfl) (hs' : starEach [b] X.env = (false, eval b X.env) :: starEach [] X.env := by rfl) :
    Ev X (.List [a, b] pos) σ G H (⟨x, y⟩ : Two α β) :=
  evP_of (pe_lst (pa_cons pe_sem (pa_cons pe_sem pa_nil hs') hs)) fun G1 H1 x1 Q q => ha G1 H1 x1 _ fun G2 H2 v x2 _ pv => hb G2 H2 (x1.trans x2) _ fun G3 H3 u x3 _ pu =>
    ⟨by show 2 ≤ sizeLine; decide, fun p hp => q (upd G3 p (.lst [v, u])) _ _ ((x2.trans x3).new hp) ⟨p, v, u, rfl, upd_same, up (same_new (x3.s.free hp)) (up x3.g pv), up (same_new (x3.s.free hp)) pu⟩⟩
theorem ev_two0 {x : Two α β} (ha : Ev X a σ G H x) (hb : Ev X b σ G H (0 : Int)) (hs : PlainIx b := by intro _ _; rfl) : Ev X (.Subscript a b pos) σ G H x.a :=
  evP_of (pe_ix ix_list pe_sem pe_sem hs) (bin_go ha hb fun G1 H1 v u z _ e1 e2 Q q => by
    obtain ⟨a, s, t, e, g, p1, p2⟩ := e1
    exact ⟨a, _, 0, s, e, e2, .of (z.s _ _ g), rfl, q G1 H1 s (Ext.refl z.s) p1⟩)
theorem ev_two1 {x : Two α β} (ha : Ev X a σ G H x) (hb : Ev X b σ G H (1 : Int)) (hs : PlainIx b := by intro _ _; rfl) : Ev X (.Subscript a b pos) σ G H x.b :=
  evP_of (pe_ix ix_list pe_sem pe_sem hs) (bin_go ha hb fun G1 H1 v u z _ e1 e2 Q q => by
    obtain ⟨a, s, t, e, g, p1, p2⟩ := e1
    exact ⟨a, _, 1, t, e, e2, .of (z.s _ _ g), rfl, q G1 H1 t (Ext.refl z.s) p2⟩)
end
end RL

set_option Elab.async false
set_option linter.all false
set_option maxRecDepth 100000
set_option maxHeartbeats 4000000
/-! RXS: own lists: pop(i), insert(i, x). -/
namespace RL
open PySem PySem.Spec PyProof.Rows L2 Rep
section
variable {X : Cx} {σ : St} {G H : Hp} {D : Ends} {e : Expr} {pos : Pos}
/-- lists of texts compared -/
theorem dps_all {K : PySem.W.Frag} {G H : Hp} : ∀ {vs : List V} {xs : List Str}, Paired (rep K G) vs xs → DpAll K H vs (xs.map PyData.str)
  | _, _, .nil => .nil
  | _, _, .cons r t => .cons (by rw [show _ = V.str _ from r]; exact .str _) (dps_all t)
theorem eqvs_all : ∀ xs ys : List Str, PyData.eqvAll (xs.map PyData.str) (ys.map PyData.str) = decide (xs = ys)
  | [], [] => by simp [PyData.eqvAll]
  | [], _ :: _ => by simp [PyData.eqvAll]
  | _ :: _, [] => by simp [PyData.eqvAll]
  | x :: xs, y :: ys => by
    show ((x == y) && PyData.eqvAll (xs.map PyData.str) (ys.map PyData.str)) = _
    rw [eqvs_all xs ys, show (x == y) = decide (x = y) by by_cases h : x = y <;> simp [h], ← Bool.decide_and]
    exact decide_eq_decide.mpr (by rw [List.cons.injEq])
def StrsOk (xs : List Str) : Prop := ∀ x ∈ xs, ∀ c ∈ x.cps.toList, c < 0x110000
theorem shaped_s : ∀ {xs : List Str}, StrsOk xs → SeqAt.shaped (.list (xs.map PyData.str)) = true := by
  intro xs h
  have ok : ∀ xs : List Str, StrsOk xs → PyData.canLayAll0 (xs.map PyData.str) = true := by
    intro xs
    induction xs with
    | nil => intro _; rfl
    | cons x xs ih =>
      intro h
      show (PyData.strOk x && PyData.canLayAll0 (xs.map PyData.str)) = true
      rw [ih fun y hy => h y (List.mem_cons_of_mem _ hy), Bool.and_true]
      unfold PyData.strOk
      have h := h x List.mem_cons_self
      rw [← Array.all_toList, List.all_eq_true]
      exact fun c hc => decide_eq_true (h c hc)
  have dep : ∀ xs : List Str, PyData.depthAll (xs.map PyData.str) ≤ 0 := by
    intro xs
    induction xs with
    | nil => exact Nat.le_refl _
    | cons x xs ih =>
      show max 0 (PyData.depthAll (xs.map PyData.str)) ≤ _
      exact Nat.max_le.mpr ⟨Nat.le_refl _, ih⟩
  unfold SeqAt.shaped
  rw [show PyData.canLay0 (.list (xs.map PyData.str)) = true from ok xs h, show decide (PyData.depth (.list (xs.map PyData.str)) ≤ 64) = true from decide_eq_true (Nat.le_trans (Nat.succ_le_succ (dep xs)) (by decide))]
  rfl
theorem c_eqLS {xs ys : List Str} (hu : X.A.units + 64 < cLine) (hx : StrsOk xs) (hy : StrsOk ys) : Bin X (compareOp .Eq) (Is X.K xs) (Is X.K ys) (Is X.K (decide (xs = ys))) G H :=
  ⟨_, op_eqD hu, fun G1 H1 v u z _ ⟨a, vs, e, g, p⟩ ⟨a2, vs2, e2, g2, p2⟩ Q q => ⟨.list (xs.map PyData.str), .list (ys.map PyData.str), by rw [e]; exact .lst (.of (z.s _ _ g)) (dps_all p), by rw [e2]; exact .lst (.of (z.s _ _ g2)) (dps_all p2), shaped_s hx, shaped_s hy, by
    rw [show PyData.eqv (.list (xs.map PyData.str)) (.list (ys.map PyData.str)) = decide (xs = ys) from eqvs_all xs ys]; exact q G1 H1 _ (Ext.refl z.s) rfl⟩⟩
theorem strsOk_nil : StrsOk [] := fun x h => by cases h
/-- x.split(y), a new list -/
theorem evN_split {o : Expr} {x y : Str} {ap : Pos} (hy : (y.length == 0) = false) (hz : x.length + 2 ≤ sizeLine) (ho : Ev X o σ G H x) (h : Ev X e σ G H y) (hs : starEach [e] X.env = [(false, eval e X.env)] := by rfl)
    (hbase : attributeBase o "split" X.env (eval o X.env) = eval o X.env := by rfl) (hline : (ap.endLine == pos.line) = true := by rfl) : EvN X (.Call (.Attribute o "split" ap) [e] [] pos) σ G H (Is X.K (Txt.split x y)) :=
  evN_of (pe_m1 F.slot_str_split F.type_str_split mt_split pe_sem pe_sem hs hbase hline) fun G1 H1 x1 Q q => ho G1 H1 x1 _ fun G2 H2 v x2 _ pv => ⟨⟨x, pv⟩, h G2 H2 (x1.trans x2) _ fun G3 H3 u x3 _ pu =>
    ⟨x, y, pv, by rw [show u = _ from pu], hy, hz, fun p hp => q (upd G3 p (.lst _)) _ _ ((x2.trans x3).new hp) ⟨p, _, rfl, upd_same, of_strs _⟩ fun p' e => by cases e; exact (x2.trans x3).h.free hp⟩⟩
/-- xs.pop(j) -/
theorem s_popJ {α : Type} [Rep α] {xs : List α} {j : Int} {i : Nat} {n : Str} {q : Addr} {ap cp np : Pos} (sl : Sl X i n) (s0 : Same G H) (o : Own X.K G H q xs) (h : Ev X e σ G H j) (b0 : 0 ≤ j) (b1 : j < (xs.length : Int)) (b2 : xs.length ≤ 1000000)
    (k : ∀ G1 H1 vs', Ext G H G1 H1 → HLen H1 → Own X.K G1 (upd H1 q (.lst vs')) q (xs.eraseIdx j.toNat) → D.nx σ (upd H1 q (.lst vs'))) (h0 : σ[i]? = some (some (.ref q)) := by rfl)
    (base : attributeBase (.Name n np) "pop" X.env (eval (.Name n np) X.env) = eval (.Name n np) X.env := by rfl)
    (few : ((backTo cp (starEach [e] X.env)).all (fun x => !x.1) && (backToKw cp (keywordEach [] X.env)).all (fun x => x.1.isSome)
      && decide ([e].length + ([] : List Keyword).length + (if ([] : List Keyword).isEmpty then 0 else 1) < 30)) = true := by rfl)
    (line : (ap.endLine == cp.line) = true := by rfl) (one : starEach [e] X.env = (false, eval e X.env) :: starEach [] X.env := by rfl) (plain : (backTo cp (starEach [] X.env)).any (·.1) = false := by rfl)
    (sw : swapsWith (.Call (.Attribute (.Name n np) "pop" ap) [e] [] cp) none pos.line X.env = pure false := by rfl) :
    tS X (.Expr (.Call (.Attribute (.Name n np) "pop" ap) [e] [] cp) pos) D σ H := by
  obtain ⟨vs, at_, pr⟩ := o.at_
  refine s_of (ps_expr (pe_bm PySem.F.plainAttrs_list PySem.F.slot_list_pop PySem.F.type_list_pop mt_popAt (pe_var sl.hN sl.hv sl.nm.hd sl.nm.hcd) (pa_cons pe_sem pa_nil one) base few line one plain) sw) ?_
  refine ⟨_, h0, .inl ⟨rfl, _, SqL.of at_⟩, h G H (Ext.refl s0) _ fun G1 H1 w x l rw' => ?_⟩
  have at1 : H1 q = some (.lst vs) := x.h _ _ at_
  have rw' : w = V.int j := rw'
  have lt : j.toNat < vs.length := by rw [paired_len pr]; omega
  exact ⟨q, vs, j, j.toNat, vs[j.toNat], rfl, by rw [rw'], at1, by omega, by omega, by rw [paired_len pr]; exact seqIx_of b0 b1, List.getElem?_eq_getElem lt, k G1 H1 _ x l ⟨⟨_, upd_same, paired_era (pair_up x.g pr)⟩, x.off o.off at_⟩⟩
theorem s_insertI {β : Type} [Rep β] {xs : List β} {y : β} {i : Nat} {n : Str} {q : Addr} {a0 : Expr} {j : Int} {ap cp np : Pos} (sl : Sl X i n) (s0 : Same G H) (o : Own X.K G H q xs) (hj : Ev X a0 σ G H j) (h : Ev X e σ G H y) (hz : xs.length < sizeLine) (b0 : 0 ≤ j) (b1 : j ≤ (xs.length : Int))
    (k : ∀ G1 H1 vs', Ext G H G1 H1 → HLen H1 → Own X.K G1 (upd H1 q (.lst vs')) q (xs.take j.toNat ++ [y] ++ xs.drop j.toNat) → D.nx σ (upd H1 q (.lst vs'))) (h0 : σ[i]? = some (some (.ref q)) := by rfl)
    (hbase : attributeBase (.Name n np) "insert" X.env (eval (.Name n np) X.env) = eval (.Name n np) X.env := by rfl)
    (hfew : ((backTo cp (starEach [a0, e] X.env)).all (fun x => !x.1) && (backToKw cp (keywordEach [] X.env)).all (fun x => x.1.isSome)
      && decide ([a0, e].length + ([] : List Keyword).length + (if ([] : List Keyword).isEmpty then 0 else 1) < 30)) = true := by rfl)
    (hline : (ap.endLine == cp.line) = true := by rfl) (he : starEach [a0, e] X.env = (false, eval a0 X.env) :: starEach [e] X.env := by rfl) (he2 : starEach [e] X.env = (false, eval e X.env) :: starEach [] X.env := by rfl)
    (hplain : (backTo cp (starEach [e] X.env)).any (·.1) = false := by rfl)
    (hsw : swapsWith (.Call (.Attribute (.Name n np) "insert" ap) [a0, e] [] cp) none pos.line X.env = pure false := by rfl) :
    tS X (.Expr (.Call (.Attribute (.Name n np) "insert" ap) [a0, e] [] cp) pos) D σ H := by
  obtain ⟨vs, eq, pr⟩ := o.at_
  refine s_of (ps_expr (pe_bm PySem.F.plainAttrs_list PySem.F.slot_list_insert PySem.F.type_list_insert mt_insert (pe_var sl.hN sl.hv sl.nm.hd sl.nm.hcd) (pa_cons pe_sem (pa_cons pe_sem pa_nil he2) he) hbase hfew hline he hplain) hsw) ?_
  refine ⟨_, h0, .inl ⟨rfl, _, SqL.of eq⟩, hj G H (Ext.refl s0) _ fun G1 H1 w0 x1 _ r0 => h G1 H1 x1 _ fun G2 H2 w x2 l2 rw' => ?_⟩
  obtain ⟨vs, eq, pr⟩ := (o.mono (x1.trans x2)).at_
  have r0 : w0 = V.int j := r0
  subst r0
  have hl := paired_len pr
  refine ⟨q, vs, j, w, rfl, rfl, eq, by rw [hl]; exact hz, b0, by rw [sizeLine_eq] at hz; omega, ?_⟩
  exact k G2 H2 _ (x1.trans x2) l2 ⟨⟨_, upd_same, paired_app (paired_app (paired_take _ pr) (.cons rw' .nil)) (paired_drop _ pr)⟩, (o.mono (x1.trans x2)).off⟩
end
end RL

set_option maxHeartbeats 4000000
namespace Q
open PySem PySem.Spec PyProof.Rows L2 RL Rep
/-! q_stir -/
def m_q_stir_2 (number : Int) : Int :=
  (((number * (39373 : Int)) % (2147483587 : Int)) / (8 : Int))
def m_q_stir_1 (number : Int) : Int :=
  m_q_stir_2 ((number * number) % (2147483629 : Int))
def m_q_stir (cell : Int) (k : Int) : Int :=
  (if (decide (cell ≥ (1000000000000000000 : Int))) = true then (((cell - (1000000000000000000 : Int)) / 2 ^ (((28 : Int) * k)).toNat) % (268435456 : Int)) else m_q_stir_1 (((((cell % (2147483629 : Int)) + ((1013 : Int) * k)) + (1 : Int)) * (16807 : Int)) % (2147483647 : Int)))

theorem post_q_stir (cell k : Int) (h : 0 ≤ k) : 0 ≤ m_q_stir cell k ∧ m_q_stir cell k < 268435456 := by
  unfold m_q_stir m_q_stir_1 m_q_stir_2
  split <;> omega

/-! q_cells -/
def m_q_cells (script : Scr) (many : Int) : (List Int) :=
  (cut ((cut script.ns none (some many)) ++ ([(0 : Int)] : List Int)) none (some (if (if ((script.ns).length : Int) < many then ((script.ns).length : Int) else many) > (1 : Int) then (if ((script.ns).length : Int) < many then ((script.ns).length : Int) else many) else (1 : Int))))
/-! q_modulus -/
def m_q_modulus_1 (cell : Int) (one : Int) : Int :=
  ((([(1 : Int), ((2 : Int) + (one % (3 : Int))), ((2 : Int) + (one % (9 : Int))), ((1 : Int) + (one % (60 : Int))), ((60 : Int) - (one % (3 : Int)))] : List Int)).getD (((m_q_stir cell (0 : Int)) % (5 : Int))).toNat (0 : Int))
def m_q_modulus (cell : Int) : Int :=
  m_q_modulus_1 cell (m_q_stir cell (1 : Int))

theorem post_q_modulus (cell : Int) (_ : True) : 1 ≤ m_q_modulus cell ∧ m_q_modulus cell ≤ 60 := by
  unfold m_q_modulus m_q_modulus_1
  refine getD_bd' (lo := 1) (hi := 60) (by simp only [List.length_cons, List.length_nil]; omega) fun x hx => ?_
  simp only [List.mem_cons, List.mem_nil_iff, or_false] at hx
  rcases hx with rfl | rfl | rfl | rfl | rfl <;> omega

/-! q_row -/
def m_q_row_9 (kind : Int) (found : (List Int)) (some_ : (List Int)) : (List Int) :=
  (found ++ [((some_).getD (kind).toNat (0 : Int))])
def m_q_row_8 (modulus : Int) (kind : Int) (found : (List Int)) (one : Int) (two : Int) (some_ : (List Int)) : (List Int) :=
  m_q_row_9 kind found (some_ ++ ([((modulus * ((two % (1000 : Int)) - (500 : Int))) + (one % (3 : Int))), ((if (decide ((one % (8 : Int)) > (0 : Int))) = true then 1 else 0 : Int) + (modulus * (two % (5 : Int))))] : List Int))
def m_q_row_7 (cell : Int) (modulus : Int) (kind : Int) (found : (List Int)) (one : Int) (two : Int) (far : Int) : (List Int) :=
  m_q_row_8 modulus kind found one two ([(one % (7 : Int)), ((one % (2001 : Int)) - (1000 : Int)), far, (((m_q_stir cell (10 : Int)) % (200 : Int)) - (99 : Int)), (one % modulus)] : List Int)
def m_q_row_6 (cell : Int) (modulus : Int) (kind : Int) (found : (List Int)) (one : Int) (two : Int) : (List Int) :=
  m_q_row_7 cell modulus kind found one two ((((two % (2 : Int)) * (2 : Int)) - (1 : Int)) * ((one * (1000000000000000000000 : Int)) + two))
def m_q_row_5 (cell : Int) (modulus : Int) (kind : Int) (found : (List Int)) (k : Int) (one : Int) : (List Int) :=
  m_q_row_6 cell modulus kind found one (m_q_stir cell ((60 : Int) + k))
def m_q_row_3s (cell : Int) (modulus : Int) (kind : Int) (k : Int) : (List Int) → (List Int) := fun found => m_q_row_5 cell modulus kind found k (m_q_stir cell ((10 : Int) + k))
def m_q_row_4  : (List Int) → (List Int) := fun found => found
def m_q_row_2 (cell : Int) (modulus : Int) (most : Int) (many : Int) (kind : Int) : (List Int) :=
  (m_q_row_4 (lfold (m_q_row_3s cell modulus kind) (rng 0 (if many < most then many else most)) ([] : (List Int))))
def m_q_row_1 (cell : Int) (modulus : Int) (most : Int) (many : Int) : (List Int) :=
  m_q_row_2 cell modulus most many ((m_q_stir cell (4 : Int)) % (7 : Int))
def m_q_row (cell : Int) (modulus : Int) (most : Int) : (List Int) :=
  m_q_row_1 cell modulus most ((([((m_q_stir cell (2 : Int)) % (5 : Int)), ((m_q_stir cell (2 : Int)) % (most + (1 : Int))), most] : List Int)).getD (((m_q_stir cell (3 : Int)) % (3 : Int))).toNat (0 : Int))

theorem post_q_row (cell modulus most : Int) (h : 1 ≤ modulus ∧ modulus ≤ 60 ∧ 0 ≤ most ∧ most ≤ 40) : (m_q_row cell modulus most).length ≤ 40 := by
  unfold m_q_row m_q_row_1 m_q_row_2 m_q_row_4
  rw [lfold_len (c := 1) (fun x s => by
    show (m_q_row_3s _ _ _ x s).length = _
    unfold m_q_row_3s m_q_row_5 m_q_row_6 m_q_row_7 m_q_row_8 m_q_row_9
    simp only [List.length_append, List.length_cons, List.length_nil]), rng_len]
  simp only [List.length_nil]
  split <;> omega

theorem mul_bd {a b A B : Int} (h1 : -A ≤ a ∧ a ≤ A) (h2 : -B ≤ b ∧ b ≤ B) : -(A * B) ≤ a * b ∧ a * b ≤ A * B := by
  have e : (a * b).natAbs ≤ (A * B).natAbs := by
    rw [Int.natAbs_mul, Int.natAbs_mul]
    exact Nat.mul_le_mul (by omega) (by omega)
  have hp : 0 ≤ A * B := Int.mul_nonneg (by omega) (by omega)
  omega

theorem bd_lt {v : Int} (h : -(10 ^ 30 - 1) ≤ v ∧ v ≤ 10 ^ 30 - 1) : -(10 ^ 30) < v ∧ v < 10 ^ 30 := by omega
theorem row_bd (cell modulus most : Int) (h : 1 ≤ modulus ∧ modulus ≤ 60 ∧ 0 ≤ most ∧ most ≤ 40) : ∀ x ∈ m_q_row cell modulus most, -(10 ^ 30) < x ∧ x < 10 ^ 30 := by
  unfold m_q_row m_q_row_1 m_q_row_2 m_q_row_4
  refine lfold_inv (I := fun s => ∀ x ∈ s, -(10 ^ 30) < x ∧ x < 10 ^ 30) (fun x hx => by cases hx) fun k hk s hs => ?_
  have hk0 := (mem_rng.mp hk).1
  have h1 := post_q_stir cell (10 + k) (by omega)
  have h2 := post_q_stir cell (60 + k) (by omega)
  unfold m_q_row_3s m_q_row_5 m_q_row_6 m_q_row_7 m_q_row_8 m_q_row_9
  intro x hx
  rcases List.mem_append.mp hx with hx | hx
  · exact hs x hx
  · rw [List.mem_singleton.mp hx]
    refine bd_lt (getD_bd _ (fun y hy => ?_) (by omega))
    have m1 := mul_bd (A := 60) (B := 500) (a := modulus) (b := m_q_stir cell (60 + k) % 1000 - 500) (by omega) (by omega)
    have m2 := mul_bd (A := 60) (B := 4) (a := modulus) (b := m_q_stir cell (60 + k) % 5) (by omega) (by omega)
    have m3 := mul_bd (A := 1) (B := 3 * 10 ^ 29) (a := m_q_stir cell (60 + k) % 2 * 2 - 1) (b := m_q_stir cell (10 + k) * 1000000000000000000000 + m_q_stir cell (60 + k)) (by omega) (by omega)
    have m4 := Int.emod_nonneg (m_q_stir cell (10 + k)) (show modulus ≠ 0 by omega)
    have m5 := Int.emod_lt_of_pos (m_q_stir cell (10 + k)) (show 0 < modulus by omega)
    simp only [List.mem_append, List.mem_cons, List.mem_nil_iff, or_false] at hy
    rcases hy with (rfl | rfl | rfl | rfl | rfl) | (rfl | rfl)
    all_goals first | omega | (split <;> omega)

def ShortRow (row : List Int) : Prop := row.length ≤ 100 ∧ ∀ x ∈ row, -(10 ^ 30) < x ∧ x < 10 ^ 30
theorem tos_len {i : Int} (h : -(10 ^ 30) < i ∧ i < 10 ^ 30) : (tos i).length ≤ 31 := by
  have e := PySem.int_text_length_le10 (a := i) (k := 30) (by decide) (by omega)
  unfold tos
  rw [PySem.ofString_length]
  exact e
theorem log_lt {i : Int} (h : -(10 ^ 30) < i ∧ i < 10 ^ 30) : i.natAbs.log2 < 1920 := by
  by_cases z : i.natAbs = 0
  · rw [z]; decide
  · exact (Nat.log2_lt z).mpr (Nat.lt_of_lt_of_le (show i.natAbs < 2 ^ 100 by omega) (Nat.pow_le_pow_right (by decide) (by decide)))
theorem short_lg {row : List Int} {x : Int} (h : ShortRow row) (hx : x ∈ row) : x.natAbs.log2 < 1920 := log_lt (h.2 x hx)
theorem sum_len {row : List Int} (h : ∀ x ∈ row, -(10 ^ 30) < x ∧ x < 10 ^ 30) : (((row.map fun number => tos number).map (·.length)).sum) ≤ 31 * row.length := by
  induction row with
  | nil => exact Nat.zero_le _
  | cons x xs ih =>
    have a := tos_len (h x List.mem_cons_self)
    have b := ih fun y hy => h y (List.mem_cons_of_mem _ hy)
    simp only [List.map_cons, List.sum_cons, List.length_cons] at b ⊢
    omega
theorem short_jn {row : List Int} {s : Str} (h : ShortRow row) (hs : s.length ≤ 1) : (((row.map fun number => tos number).map (·.length)).sum) + (row.map fun number => tos number).length * s.length ≤ 16777216 := by
  have a := sum_len h.2
  have b : (row.map fun number => tos number).length * s.length ≤ 100 * 1 := Nat.mul_le_mul (by rw [List.length_map]; exact h.1) hs
  have := h.1
  omega
theorem short_row (cell modulus most : Int) (h : 1 ≤ modulus ∧ modulus ≤ 60 ∧ 0 ≤ most ∧ most ≤ 40) : ShortRow (m_q_row cell modulus most) := ⟨Nat.le_trans (post_q_row cell modulus most h) (by decide), row_bd cell modulus most h⟩
theorem short_nil : ShortRow [] := ⟨Nat.zero_le _, fun x hx => by cases hx⟩
theorem short_05 : ShortRow [0, -5] := ⟨by decide, fun x hx => by simp only [List.mem_cons, List.mem_nil_iff, or_false] at hx; rcases hx with rfl | rfl <;> omega⟩

/-! number_in -/
def m_number_in_1 (word : Str) (figures : Str) : Int :=
  (if ((!(decide ((1 : Int) ≤ ((figures).length : Int)) && decide (((figures).length : Int) ≤ (30 : Int)))) || (!decide ((((sgns figures).filter (fun (sign : Chr) => (!decide (sign.c ∈ ("0123456789" : Str).cps.toList)))).map (fun (sign : Chr) => sign)) = ([] : List Chr)))) = true then (0 : Int) else (if ((decide ((sgn figures (0 : Int)) = ("0" : Str))) && (!decide (word = ("0" : Str)))) = true then (0 : Int) else ((PySem.intText? word).getD 0)))
def m_number_in (word : Str) : Int :=
  m_number_in_1 word (if (decide ((cutS word none (some (1 : Int))) = ("-" : Str))) = true then (cutS word (some (1 : Int)) none) else word)

open TL
def IsNum (w : Str) : Prop := ∃ i : Int, (-(10 ^ 30) < i ∧ i < 10 ^ 30) ∧ w = tos i
theorem tl_nn {i : Int} (h : 0 ≤ i) : (tos i).cps.toList = numL i.toNat := by
  obtain ⟨n, rfl⟩ := Int.eq_ofNat_of_zero_le h
  exact tl_num n
theorem tl_neg {i : Int} (h : i < 0) : (tos i).cps.toList = 45 :: numL (-i).toNat := by
  have e := tl_ofString (toString i)
  have e2 := tl_num (-i).toNat
  rw [Int.toNat_of_nonneg (by omega)] at e2
  rw [show tl (Str.ofString (toString (-i))) = (toString (-i)).toList.map Char.toNat from tl_ofString _] at e2
  show tl (Str.ofString (toString i)) = _
  rw [e, PyProof.Rows.toString_neg h, Int.zero_sub, String.toList_append, List.map_append, e2]
  rfl
theorem numL_head : ∀ (m : Nat), 0 < m → (numL m).getD 0 0 ≠ 48 := by
  intro m
  induction m using Nat.strongRecOn with
  | _ m ih =>
    intro h
    by_cases hm : m < 10
    · rw [numL_lt hm]
      show 48 + m ≠ 48
      omega
    · rw [numL_step (by omega)]
      have e := ih (m / 10) (by omega) (by omega)
      have hne := numL_ne (m / 10)
      generalize numL (m / 10) = l at e hne
      cases l with
      | nil => exact absurd rfl hne
      | cons a l => exact e
theorem num_read {i : Int} (h : -(10 ^ 30) < i ∧ i < 10 ^ 30) : PySem.intText? (tos i) = some i := by
  by_cases z : 0 ≤ i
  · obtain ⟨n, rfl⟩ := Int.eq_ofNat_of_zero_le z
    exact int_num (Nat.le_trans (numL_len (k := 30) (by decide) (by omega)) (by decide))
  · have e := PySem.intText_neg (x := tos i) (tl_neg (by omega)) (numL_digits _) (numL_ne _) (Nat.le_trans (tos_len h) (by decide))
    rw [e, numL_val]
    congr 1
    omega
theorem num_len {w : Str} (h : IsNum w) : w.length ≤ 31 := by
  obtain ⟨i, hi, rfl⟩ := h
  exact tos_len hi
theorem num_line {w : Str} (h : IsNum w) : w.length ≤ sizeLine := Nat.le_trans (num_len h) (by decide)
theorem num_640 {w : Str} (h : IsNum w) : w.length ≤ 640 := Nat.le_trans (num_len h) (by decide)
theorem num_some {w : Str} (h : IsNum w) : (PySem.intText? w).isSome = true := by
  obtain ⟨i, hi, rfl⟩ := h
  rw [num_read hi]
  rfl
/-- the figures of a word -/
def figs (word : Str) : Str := if (decide ((cutS word none (some (1 : Int))) = ("-" : Str))) = true then (cutS word (some (1 : Int)) none) else word
structure FigOk (word figures : Str) : Prop where
  lo : 1 ≤ figures.length
  hi : figures.length ≤ 30
  dg : ∀ c ∈ figures.cps.toList, 48 ≤ c ∧ c ≤ 57
  nz : sgn figures 0 = ("0" : Str) → word = ("0" : Str)
theorem len_cps (z : Str) : z.cps.toList.length = z.length := Array.length_toList
theorem tl_cut1 (z : Str) : (cutS z none (some 1)).cps.toList = z.cps.toList.take 1 := by
  unfold cutS
  show List.take (HT.sIx z.length z.length (some 1) - 0) (List.drop 0 z.cps.toList) = _
  show List.take (min (1 : Int).toNat z.length - 0) z.cps.toList = _
  rw [Nat.sub_zero, ← len_cps z]
  by_cases h : z.cps.toList.length = 0
  · rw [List.length_eq_zero_iff.mp h]; simp
  · rw [show min (1 : Int).toNat z.cps.toList.length = 1 by show min 1 _ = 1; omega]
theorem tl_cut2 (z : Str) (h : 1 ≤ z.length) : (cutS z (some 1) none).cps.toList = z.cps.toList.drop 1 := by
  unfold cutS
  show List.take (z.length - min (1 : Int).toNat z.length) (List.drop (min (1 : Int).toNat z.length) z.cps.toList) = _
  rw [show min (1 : Int).toNat z.length = 1 by show min 1 _ = 1; omega]
  exact List.take_of_length_le (by rw [List.length_drop, len_cps]; exact Nat.le_refl _)
theorem figs_nn {i : Int} (h : 0 ≤ i) : figs (tos i) = tos i := by
  unfold figs
  rw [if_neg]
  intro z
  have z := of_decide_eq_true z
  have e := congrArg (fun s : Str => s.cps.toList) z
  have e := (tl_cut1 (tos i)).symm.trans e
  rw [tl_nn h] at e
  have hd := numL_digits i.toNat
  cases q : numL i.toNat with
  | nil => exact numL_ne _ q
  | cons a l =>
    rw [q] at e hd
    have e : [a] = [45] := e
    have := hd a List.mem_cons_self
    rw [List.singleton_inj] at e
    omega
theorem figs_neg {i : Int} (h : i < 0) : (figs (tos i)).cps.toList = numL (-i).toNat := by
  unfold figs
  rw [if_pos]
  · rw [tl_cut2 _ (by rw [← len_cps, tl_neg h, List.length_cons]; omega), tl_neg h]
    rfl
  · refine decide_eq_true (PyProof.Rows.ext_toList ?_)
    rw [tl_cut1, tl_neg h]
    rfl
theorem fig_ok {w : Str} (h : IsNum w) : FigOk w (figs w) := by
  obtain ⟨i, hi, rfl⟩ := h
  obtain ⟨m, e, hm, hz⟩ : ∃ m : Nat, (figs (tos i)).cps.toList = numL m ∧ m < 10 ^ 30 ∧ (m = 0 → i = 0) := by
    by_cases z : 0 ≤ i
    · exact ⟨i.toNat, by rw [figs_nn z, tl_nn z], by omega, by omega⟩
    · exact ⟨(-i).toNat, figs_neg (by omega), by omega, by omega⟩
  have hl := len_cps (figs (tos i))
  rw [e] at hl
  refine ⟨?_, by rw [← hl]; exact numL_len (by decide) hm, by rw [e]; exact numL_digits m, fun z => ?_⟩
  · rw [← hl]
    have := numL_ne m
    exact List.length_pos_iff.mpr this
  · have z := congrArg (fun s : Str => s.cps.toList) z
    unfold sgn at z
    rw [e] at z
    have z : [(numL m).getD 0 0] = [48] := z
    rw [List.singleton_inj] at z
    have hm0 : m = 0 := Nat.eq_zero_of_not_pos fun p => numL_head m p z
    rw [hz hm0]
    decide +kernel
theorem fig_line {w f : Str} (h : FigOk w f) : f.length ≤ sizeLine := Nat.le_trans h.hi (by decide)
theorem fig_ck {w f : Str} (h : FigOk w f) : ∀ c ∈ f.cps.toList, c < 0x110000 := fun c hc => by have := h.dg c hc; omega
theorem fig_ix {w f : Str} (h : FigOk w f) : (0 : Int) < (f.length : Int) := by have := h.lo; omega
theorem no1 {w f : Str} (h : FigOk w f) (z : ((!((decide ((1 : Int) ≤ ((f).length : Int)) && decide (((f).length : Int) ≤ (30 : Int))))) || (!decide ((((sgns f).filter (fun (sign : Chr) => (!decide (sign.c ∈ ("0123456789" : Str).cps.toList)))).map (fun (sign : Chr) => sign)) = ([] : List Chr)))) = true) : False := by
  have h1 := h.lo
  have h2 := h.hi
  have e : (sgns f).filter (fun (sign : Chr) => (!decide (sign.c ∈ ("0123456789" : Str).cps.toList))) = [] := by
    rw [List.filter_eq_nil_iff]
    intro x hx
    unfold sgns at hx
    obtain ⟨c, hc, rfl⟩ := List.mem_map.mp hx
    have d := h.dg c hc
    rw [mkC_c (by omega)]
    have : c ∈ ("0123456789" : Str).cps.toList := by
      rw [show ("0123456789" : Str).cps.toList = (List.range 10).map (· + 48) by decide +kernel]
      exact List.mem_map.mpr ⟨c - 48, List.mem_range.mpr (by omega), by omega⟩
    simp [this]
  rw [e] at z
  simp at z
  omega
theorem no2 {w f : Str} (h : FigOk w f) (z : ((decide ((sgn f (0 : Int)) = ("0" : Str))) && (!decide (w = ("0" : Str)))) = true) : False := by
  simp at z
  exact z.2 (h.nz z.1)
/-- a word as it may come -/
structure ChkW (w : Str) : Prop where
  l : w.length ≤ 5000
  c : ∀ c ∈ w.cps.toList, c < 0x110000
instance {w : Str} : Decidable (ChkW w) := decidable_of_iff (w.length ≤ 5000 ∧ ∀ c ∈ w.cps.toList, c < 0x110000) ⟨fun h => ⟨h.1, h.2⟩, fun h => ⟨h.l, h.c⟩⟩
instance {w f : Str} : Decidable (FigOk w f) := decidable_of_iff (1 ≤ f.length ∧ f.length ≤ 30 ∧ (∀ c ∈ f.cps.toList, 48 ≤ c ∧ c ≤ 57) ∧ (sgn f 0 = ("0" : Str) → w = ("0" : Str))) ⟨fun h => ⟨h.1, h.2.1, h.2.2.1, h.2.2.2⟩, fun h => ⟨h.lo, h.hi, h.dg, h.nz⟩⟩
structure ChkF (w f : Str) : Prop where
  e : f = figs w
  l : f.length ≤ 5000
  c : ∀ c ∈ f.cps.toList, c < 0x110000
theorem chk_line {w : Str} (h : ChkW w) : w.length ≤ sizeLine := Nat.le_trans h.l (by decide)
theorem chf_line {w f : Str} (h : ChkF w f) : f.length ≤ sizeLine := Nat.le_trans h.l (by decide)
theorem chf_ck {w f : Str} (h : ChkF w f) : ∀ c ∈ f.cps.toList, c < 0x110000 := h.c
theorem cut_one {w : Str} (h : cutS w none (some (1 : Int)) = ("-" : Str)) : ∃ cs, w.cps.toList = 45 :: cs ∧ (cutS w (some (1 : Int)) none).cps.toList = cs := by
  have e := congrArg (fun s : Str => s.cps.toList) h
  have e := (tl_cut1 w).symm.trans e
  have e2 : (("-" : Str)).cps.toList = [45] := by decide +kernel
  have e : w.cps.toList.take 1 = [45] := e.trans e2
  cases q : w.cps.toList with
  | nil => rw [q] at e; cases e
  | cons a cs =>
    rw [q] at e
    have e : [a] = [45] := e
    rw [List.singleton_inj] at e
    refine ⟨cs, by rw [e], ?_⟩
    rw [tl_cut2 w (by rw [← len_cps, q, List.length_cons]; omega), q]
    rfl
theorem figs_cps (w : Str) : (figs w).cps.toList = w.cps.toList ∨ ∃ cs, w.cps.toList = 45 :: cs ∧ (figs w).cps.toList = cs := by
  unfold figs
  split
  · rename_i h
    exact .inr (cut_one (of_decide_eq_true h))
  · exact .inl rfl
theorem chf_of {w : Str} (h : ChkW w) : ChkF w (figs w) := by
  refine ⟨rfl, ?_, fun c hc => ?_⟩
  · rw [← len_cps]
    have := h.l
    rw [← len_cps] at this
    rcases figs_cps w with e | ⟨cs, e1, e2⟩
    · rw [e]; exact this
    · rw [e2]; rw [e1, List.length_cons] at this; omega
  · rcases figs_cps w with e | ⟨cs, e1, e2⟩
    · rw [e] at hc; exact h.c c hc
    · rw [e2] at hc; exact h.c c (by rw [e1]; exact List.mem_cons_of_mem _ hc)
theorem good_some {w : Str} (h : FigOk w (figs w)) : (PySem.intText? w).isSome = true := by
  have hne : (figs w).cps.toList ≠ [] := fun z => by
    have := h.lo
    rw [← len_cps, z] at this
    cases this
  have h30 := h.hi
  rw [← len_cps] at h30
  rcases figs_cps w with e | ⟨cs, e1, e2⟩
  · rw [PySem.intText_digits (x := w) (by rw [← e]; exact h.dg) (by rw [← e]; exact hne) (by rw [← len_cps, ← e]; omega)]
    rfl
  · rw [PySem.intText_neg (x := w) e1 (by rw [← e2]; exact h.dg) (by rw [← e2]; exact hne) (by rw [← len_cps, e1, List.length_cons]; rw [e2] at h30; omega)]
    rfl
theorem good_640 {w : Str} (h : FigOk w (figs w)) : w.length ≤ 640 := by
  have h30 := h.hi
  rw [← len_cps] at h30 ⊢
  rcases figs_cps w with e | ⟨cs, e1, e2⟩
  · rw [← e]; omega
  · rw [e1, List.length_cons]; rw [e2] at h30; omega
theorem sign_ok {f : Str} (hc : ∀ c ∈ f.cps.toList, c < 0x110000) (h : ((sgns f).filter (fun (sign : Chr) => (!decide (sign.c ∈ ("0123456789" : Str).cps.toList)))).map (fun (sign : Chr) => sign) = []) : ∀ c ∈ f.cps.toList, 48 ≤ c ∧ c ≤ 57 := fun c hm => by
  rw [List.map_eq_nil_iff, List.filter_eq_nil_iff] at h
  have hx : mkC c ∈ sgns f := by
    unfold sgns
    exact List.mem_map.mpr ⟨c, hm, rfl⟩
  have := h _ hx
  rw [mkC_c (hc c hm)] at this
  have : c ∈ ("0123456789" : Str).cps.toList := by simpa using this
  rw [show ("0123456789" : Str).cps.toList = (List.range 10).map (· + 48) by decide +kernel] at this
  obtain ⟨k, hk, rfl⟩ := List.mem_map.mp this
  have := List.mem_range.mp hk
  omega
abbrev cond1 (f : Str) : Bool := ((!(decide ((1 : Int) ≤ ((f).length : Int)) && decide (((f).length : Int) ≤ (30 : Int)))) || (!decide ((((sgns f).filter (fun (sign : Chr) => (!decide (sign.c ∈ ("0123456789" : Str).cps.toList)))).map (fun (sign : Chr) => sign)) = ([] : List Chr))))
abbrev cond2 (w f : Str) : Bool := ((decide ((sgn f (0 : Int)) = ("0" : Str))) && (!decide (w = ("0" : Str))))
theorem cond1_no {f : Str} (hc : ∀ c ∈ f.cps.toList, c < 0x110000) (h : cond1 f = false) : 1 ≤ f.length ∧ f.length ≤ 30 ∧ ∀ c ∈ f.cps.toList, 48 ≤ c ∧ c ≤ 57 := by
  unfold cond1 at h
  simp only [Bool.or_eq_false_iff, Bool.not_eq_false', Bool.and_eq_true, decide_eq_true_eq] at h
  exact ⟨by omega, by omega, sign_ok hc h.2⟩
theorem no_ix {w f : Str} (hf : ChkF w f) (h : cond1 f = false) : (0 : Int) < (f.length : Int) := by
  have := (cond1_no hf.c h).1
  omega
theorem bad_no {w f : Str} (hn : ¬ FigOk w (figs w)) (hf : ChkF w f) (h1 : cond1 f = false) (h2 : cond2 w f = false) : False := by
  obtain ⟨a, b, c⟩ := cond1_no hf.c h1
  refine hn ?_
  rw [← hf.e]
  refine ⟨a, b, c, fun z => ?_⟩
  unfold cond2 at h2
  rw [z] at h2
  simpa using h2

/-! num_x -/
/-! read_row -/
def m_read_row (text : Str) : (List Int) :=
  (if (decide (text = ("none" : Str))) = true then ([] : List Int) else ((Txt.split text (" " : Str)).map (fun (word : Str) => (m_number_in word))))

/-- a text as it may come -/
structure TxtOk (t : Str) : Prop where
  l : t.length + 2 ≤ 5000
  c : ∀ c ∈ t.cps.toList, c < 0x110000
  w : ∀ w ∈ Txt.split t (" " : Str), ChkW w
def GoodT (t : Str) : Prop := t = ("none" : Str) ∨ ∀ w ∈ Txt.split t (" " : Str), FigOk w (figs w)
instance {t : Str} : Decidable (TxtOk t) := decidable_of_iff (t.length + 2 ≤ 5000 ∧ (∀ c ∈ t.cps.toList, c < 0x110000) ∧ ∀ w ∈ Txt.split t (" " : Str), ChkW w) ⟨fun h => ⟨h.1, h.2.1, h.2.2⟩, fun h => ⟨h.l, h.c, h.w⟩⟩
instance {t : Str} : Decidable (GoodT t) := inferInstanceAs (Decidable (t = ("none" : Str) ∨ ∀ w ∈ Txt.split t (" " : Str), FigOk w (figs w)))
theorem txt_line {t : Str} (h : TxtOk t) : t.length + 2 ≤ sizeLine := Nat.le_trans h.l (by decide)
theorem row_good {t w : Str} (h : TxtOk t) (hg : GoodT t) (hn : ¬ t = ("none" : Str)) (hw : w ∈ Txt.split t (" " : Str)) : ChkW w ∧ FigOk w (figs w) := ⟨h.w w hw, hg.elim (fun z => absurd z hn) fun z => z w hw⟩
theorem first_of {α : Type} {p : α → Prop} : ∀ {xs : List α}, ¬ (∀ x ∈ xs, p x) → ∃ k : Nat, k < xs.length ∧ (∀ (j : Nat) (x : α), j < k → xs[j]? = some x → p x) ∧ ∀ x, xs[k]? = some x → ¬ p x
  | [], h => absurd (fun x hx => by cases hx) h
  | a :: xs, h => by
    by_cases ha : p a
    · obtain ⟨k, h1, h2, h3⟩ := first_of (xs := xs) (p := p) fun z => h fun x hx => by
        rcases List.mem_cons.mp hx with rfl | hx
        · exact ha
        · exact z x hx
      refine ⟨k + 1, by rw [List.length_cons]; omega, fun j x hj hx => ?_, fun x hx => h3 x (by simpa using hx)⟩
      cases j with
      | zero => rw [List.getElem?_cons_zero] at hx; cases hx; exact ha
      | succ j => exact h2 j x (by omega) (by simpa using hx)
    · exact ⟨0, by rw [List.length_cons]; omega, fun j x hj => by omega, fun x hx => by rw [List.getElem?_cons_zero] at hx; cases hx; exact ha⟩
theorem first_bad {t : Str} (h : TxtOk t) (hg : ¬ GoodT t) : ∃ k0 : Nat, k0 < (Txt.split t (" " : Str)).length ∧ (∀ (j : Nat) (word : Str), j < k0 → (Txt.split t (" " : Str))[j]? = some word → ChkW word ∧ FigOk word (figs word)) ∧ ∀ (word : Str), (Txt.split t (" " : Str))[k0]? = some word → ChkW word ∧ ¬ FigOk word (figs word) := by
  obtain ⟨k, h1, h2, h3⟩ := first_of (p := fun w => FigOk w (figs w)) (fun z => hg (.inr z))
  exact ⟨k, h1, fun j w hj hw => ⟨h.w w (List.mem_of_getElem? hw), h2 j w hj hw⟩, fun w hw => ⟨h.w w (List.mem_of_getElem? hw), h3 w hw⟩⟩
theorem none_no {t : Str} (h : ¬ GoodT t) (e : t = ("none" : Str)) : False := h (.inl e)

/-! row_x -/
/-! same_i -/
def m_same_i (found : Int) (due : Int) : Bool :=
  (true && ((!false) && (decide (found = due))))

theorem same_i_eq (a b : Int) : m_same_i a b = decide (a = b) := by simp [m_same_i]

/-! same_l -/
def m_same_l (found : (List Int)) (due : (List Int)) : Bool :=
  (if (!decide (((found).length : Int) = ((due).length : Int))) = true then false else (decide ((((List.zip found due).filter (fun (z24 : (Int × Int)) => (!(m_same_i z24.1 z24.2)))).map (fun (z24 : (Int × Int)) => (1 : Int))) = ([] : List Int))))

theorem same_l_refl (a : List Int) : m_same_l a a = true := by
  unfold m_same_l
  rw [if_neg (by simp)]
  have e : ((List.zip a a).filter fun (z : Int × Int) => (!(m_same_i z.1 z.2))) = [] := by
    rw [List.filter_eq_nil_iff]
    intro z hz
    have : z.1 = z.2 := by
      obtain ⟨i, hi, rfl⟩ := List.getElem_of_mem hz
      simp
    rw [same_i_eq, this]
    simp
  simp only [e]
  rfl

/-! same_s -/
def m_same_s (found : Str) (due : Str) : Bool :=
  (true && (decide (found = due)))
/-! flags_x -/
def m_flags_x_2 (found : (List Bool)) : (List Bool) :=
  (found ++ ([(!true)] : List Bool))
def m_flags_x_1 (found : (List Bool)) : (List Bool) :=
  m_flags_x_2 (found ++ ([true, false, false] : List Bool))
def m_flags_x : (List Bool) :=
  m_flags_x_1 ([false, false, false, false] : List Bool)
/-! lnum -/
def m_lnum_1 (word : Str) (figures : Str) : (Option Int) :=
  (if ((!(decide ((1 : Int) ≤ ((figures).length : Int)) && decide (((figures).length : Int) ≤ (30 : Int)))) || (!decide ((((sgns figures).filter (fun (sign : Chr) => (!decide (sign.c ∈ ("0123456789" : Str).cps.toList)))).map (fun (sign : Chr) => sign)) = ([] : List Chr)))) = true then (none : (Option Int)) else (if ((decide ((sgn figures (0 : Int)) = ("0" : Str))) && (!decide (word = ("0" : Str)))) = true then (none : (Option Int)) else (some ((PySem.intText? word).getD 0))))
def m_lnum (word : Str) : (Option Int) :=
  m_lnum_1 word (cutS word (some (if (decide ((cutS word none (some (1 : Int))) = ("-" : Str))) = true then 1 else 0 : Int)) none)

theorem cut_zero (w : Str) : (cutS w (some (0 : Int)) none) = w := by
  refine PyProof.Rows.ext_toList ?_
  unfold cutS
  show List.take (w.length - min (0 : Int).toNat w.length) (List.drop (min (0 : Int).toNat w.length) w.cps.toList) = _
  rw [show min (0 : Int).toNat w.length = 0 by show min 0 _ = 0; omega]
  exact List.take_of_length_le (by rw [List.drop_zero, len_cps]; omega)
theorem figsL (w : Str) : (cutS w (some (if (decide ((cutS w none (some (1 : Int))) = ("-" : Str))) = true then 1 else 0 : Int)) none) = figs w := by
  unfold figs
  split
  · rfl
  · exact cut_zero w
theorem chfL_of {w : Str} (h : ChkW w) : ChkF w (cutS w (some (if (decide ((cutS w none (some (1 : Int))) = ("-" : Str))) = true then 1 else 0 : Int)) none) := by
  rw [figsL]
  exact chf_of h
theorem good_of {w f : Str} (hf : ChkF w f) (h1 : cond1 f = false) (h2 : cond2 w f = false) : FigOk w (figs w) := Classical.byContradiction fun z => bad_no z hf h1 h2
theorem lnum_good {w : Str} (h : FigOk w (figs w)) : m_lnum w = some (m_number_in w) := by
  have e : m_lnum w = m_lnum_1 w (figs w) := by
    unfold m_lnum
    rw [figsL]
  have e2 : m_number_in w = m_number_in_1 w (figs w) := rfl
  rw [e, e2]
  unfold m_lnum_1 m_number_in_1
  rw [if_neg (fun z => no1 h z), if_neg (fun z => no2 h z), if_neg (fun z => no1 h z), if_neg (fun z => no2 h z)]
theorem lnum_bad {w : Str} (hc : ChkW w) (h : ¬ FigOk w (figs w)) : m_lnum w = none := by
  have e : m_lnum w = m_lnum_1 w (figs w) := by
    unfold m_lnum
    rw [figsL]
  rw [e]
  unfold m_lnum_1
  by_cases h1 : cond1 (figs w) = true
  · rw [if_pos h1]
  · by_cases h2 : cond2 w (figs w) = true
    · rw [if_neg h1, if_pos h2]
    · exact (bad_no h (chf_of hc) (by simpa using h1) (by simpa using h2)).elim

/-! due_l -/
def m_due_l_1 (found : (List (Option Int))) : (List Int) :=
  (found.map (·.getD (0 : Int)))
def m_due_l (text : Str) : (List Int) :=
  (if (decide (text = ("none" : Str))) = true then ([] : List Int) else m_due_l_1 ((Txt.split text (" " : Str)).map (fun (word : Str) => (m_lnum word))))

theorem txt_word {t w : Str} (h : TxtOk t) (hw : w ∈ Txt.split t (" " : Str)) : ChkW w := h.w w hw
theorem due_un {t : Str} {found : List (Option Int)} (hg : GoodT t) (hn : ¬ t = ("none" : Str)) (e : found = (Txt.split t (" " : Str)).map (fun (word : Str) => m_lnum word)) : ∀ x ∈ found, x.isSome = true := fun x hx => by
  rw [e] at hx
  obtain ⟨w, hw, rfl⟩ := List.mem_map.mp hx
  rw [lnum_good (hg.elim (fun z => absurd z hn) fun z => z w hw)]
  rfl
theorem due_no {t : Str} {found : List (Option Int)} (hg : GoodT t) (hn : ¬ t = ("none" : Str)) (e : found = (Txt.split t (" " : Str)).map (fun (word : Str) => m_lnum word)) : memD (none : Option Int) found = false := by
  cases h : memD (none : Option Int) found with
  | false => rfl
  | true =>
    have := due_un hg hn e none (memD_iff.mp h)
    cases this
theorem due_yes {t : Str} {found : List (Option Int)} (h : TxtOk t ∧ ¬ GoodT t) (e : found = (Txt.split t (" " : Str)).map (fun (word : Str) => m_lnum word)) : memD (none : Option Int) found = true := by
  obtain ⟨k, h1, _, h3⟩ := first_bad h.1 h.2
  have hx : (Txt.split t (" " : Str))[k]? = some (Txt.split t (" " : Str))[k] := List.getElem?_eq_getElem h1
  have q := h3 _ hx
  refine memD_iff.mpr ?_
  rw [e]
  exact List.mem_map.mpr ⟨_, List.mem_of_getElem? hx, lnum_bad q.1 q.2⟩

/-! due_t -/
def m_due_t_1 (text : Str) : Str :=
  ("text" : Str)
def m_due_t (text : Str) : Str :=
  (if (decide (text = ("none" : Str))) = true then ("" : Str) else m_due_t_1 text)
/-! toldx -/
def m_toldx_1 (found : TxL) : TxL :=
  found
def m_toldx_2 (found : TxL) : TxL :=
  found
def m_toldx (text : Str) : TxL :=
  (if decide (TxtOk text ∧ ¬ GoodT text) = true then m_toldx_1 (TxL.s ((([("other" : Str), ("text" : Str)] : List Str)).getD ((if (decide (m_flags_x = ((rng 0 (8 : Int)).map (fun (k : Int) => (decide (k = (4 : Int))))))) = true then 1 else 0 : Int)).toNat ("" : Str))) else m_toldx_2 (TxL.l (m_read_row text)))

theorem told_good {t : Str} (h : TxtOk t) (hn : ¬ (TxtOk t ∧ ¬ GoodT t)) : TxtOk t ∧ GoodT t := ⟨h, Classical.byContradiction fun z => hn ⟨h, z⟩⟩
theorem told_is {t : Str} (hg : GoodT t) : m_toldx t = .l (m_read_row t) := by
  unfold m_toldx
  rw [if_neg (by rw [decide_eq_true_eq]; exact fun z => z.2 hg)]
  rfl
theorem told_isn {t : Str} (h : TxtOk t) (hg : ¬ GoodT t) : m_toldx t = .s ("text" : Str) := by
  unfold m_toldx
  rw [if_pos (decide_eq_true ⟨h, hg⟩)]
  unfold m_toldx_1
  congr 1
theorem told_l {t : Str} (hg : GoodT t) (h : TxtOk t) : m_toldx t = .l (m_toldx t).gl := by rw [told_is hg]; rfl
theorem told_s {t : Str} (h : TxtOk t) (hg : ¬ GoodT t) : m_toldx t = .s (m_toldx t).gs := by rw [told_isn h hg]; rfl

/-! right_l -/
def m_right_l (text : Str) : Bool :=
  ((m_same_l ((m_toldx text).gl) (m_due_l text)) && (m_same_l ((m_toldx text).gl) (m_due_l text)))
/-! right_t -/
def m_right_t (text : Str) : Bool :=
  ((m_same_s ((m_toldx text).gs) (m_due_t text)) && (m_same_s ((m_toldx text).gs) (m_due_t text)))

theorem due_read {t : Str} (hg : GoodT t) : m_due_l t = m_read_row t := by
  unfold m_due_l m_read_row
  by_cases e : t = ("none" : Str)
  · rw [if_pos (decide_eq_true e), if_pos (decide_eq_true e)]
  · rw [if_neg (by simpa using e), if_neg (by simpa using e)]
    unfold m_due_l_1
    rw [List.map_map]
    refine List.map_congr_left fun w hw => ?_
    show (m_lnum w).getD 0 = m_number_in w
    rw [lnum_good (hg.elim (fun z => absurd z e) fun z => z w hw)]
    rfl
theorem right_or {t : Str} (h : TxtOk t) : ((TxtOk t ∧ GoodT t) ∧ m_right_l t = true) ∨ ((TxtOk t ∧ ¬ GoodT t) ∧ m_right_t t = true) := by
  by_cases hg : GoodT t
  · refine .inl ⟨⟨h, hg⟩, ?_⟩
    unfold m_right_l
    rw [told_is hg, due_read hg]
    show (m_same_l (m_read_row t) (m_read_row t) && m_same_l (m_read_row t) (m_read_row t)) = true
    rw [same_l_refl]
    rfl
  · refine .inr ⟨⟨h, hg⟩, ?_⟩
    unfold m_right_t
    rw [told_isn h hg]
    have e : m_due_t t = ("text" : Str) := by
      unfold m_due_t
      rw [if_neg (by rw [decide_eq_true_eq]; exact fun z => none_no hg z)]
      rfl
    rw [e]
    show (m_same_s ("text" : Str) ("text" : Str) && m_same_s ("text" : Str) ("text" : Str)) = true
    unfold m_same_s
    simp

/-! q_text -/
def m_q_text (row : (List Int)) : Str :=
  (if (decide (row = ([] : List Int))) = true then ("none" : Str) else (Txt.join (" " : Str) (row.map (fun (number : Int) => (tos number)))))

/-- a text of signs, no longer than n -/
structure TN (n : Nat) (t : Str) : Prop where
  l : t.length ≤ n
  c : ∀ c ∈ t.cps.toList, c < 0x110000
instance {n : Nat} {t : Str} : Decidable (TN n t) := decidable_of_iff (t.length ≤ n ∧ ∀ c ∈ t.cps.toList, c < 0x110000) ⟨fun h => ⟨h.1, h.2⟩, fun h => ⟨h.l, h.c⟩⟩
theorem TN.up {m n : Nat} {t : Str} (h : TN m t) (e : m ≤ n) : TN n t := ⟨Nat.le_trans h.l e, h.c⟩
theorem tn_cat {m n : Nat} {s t : Str} (h : TN m s) (g : TN n t) : TN (m + n) (s ++ t) := by
  have e : (s ++ t).cps.toList = s.cps.toList ++ t.cps.toList := tl_append s t
  refine ⟨?_, fun c hc => ?_⟩
  · have := h.l; have := g.l
    rw [len_tl] at *
    show (s ++ t).cps.toList.length ≤ _
    rw [e, List.length_append]
    show (tl s).length + (tl t).length ≤ _
    omega
  · rw [e] at hc
    rcases List.mem_append.mp hc with z | z
    · exact h.c c z
    · exact g.c c z
theorem spl_mem (S : List Nat) : ∀ (l : List Nat) (k : Nat) (acc p : List Nat), p ∈ spl S k acc l → p.length ≤ acc.length + l.length ∧ ∀ c ∈ p, c ∈ acc ∨ c ∈ l
  | [], k, acc, p, h => by
    rw [spl_nil] at h
    rw [List.mem_singleton.mp h]
    exact ⟨by simp, fun c hc => .inl hc⟩
  | c :: r, 0, acc, p, h => by
    cases e : pre S (c :: r) with
    | true =>
      rw [spl_hit e] at h
      rcases List.mem_cons.mp h with rfl | h
      · exact ⟨by simp, fun c hc => .inl hc⟩
      · have ih := spl_mem S r _ _ p h
        refine ⟨?_, fun x hx => ?_⟩
        · have := ih.1; rw [List.length_nil] at this; rw [List.length_cons]; omega
        · rcases ih.2 x hx with z | z
          · cases z
          · exact .inr (List.mem_cons_of_mem _ z)
    | false =>
      rw [spl_miss e] at h
      have ih := spl_mem S r _ _ p h
      refine ⟨?_, fun x hx => ?_⟩
      · have := ih.1; rw [List.length_append, List.length_cons, List.length_nil] at this; rw [List.length_cons]; omega
      · rcases ih.2 x hx with z | z
        · rcases List.mem_append.mp z with z | z
          · exact .inl z
          · rw [List.mem_singleton.mp z]; exact .inr List.mem_cons_self
        · exact .inr (List.mem_cons_of_mem _ z)
  | c :: r, k + 1, acc, p, h => by
    have ih := spl_mem S r k acc p h
    refine ⟨?_, fun x hx => ?_⟩
    · have := ih.1; rw [List.length_cons]; omega
    · rcases ih.2 x hx with z | z
      · exact .inl z
      · exact .inr (List.mem_cons_of_mem _ z)
theorem split_eq (t : Str) : (Txt.split t (" " : Str)).map tl = spl (tl (" " : Str)) 0 [] (tl t) := split_spl t _ (by decide +kernel) (kind_ok (by decide +kernel))
theorem split_tn {n : Nat} {t w : Str} (h : TN n t) (hw : w ∈ Txt.split t (" " : Str)) : TN n w := by
  have e : tl w ∈ spl (tl (" " : Str)) 0 [] (tl t) := by
    rw [← split_eq]; exact List.mem_map_of_mem hw
  have k := spl_mem _ _ _ _ _ e
  refine ⟨?_, fun c hc => ?_⟩
  · have := h.l; rw [len_tl] at *; have := k.1; rw [List.length_nil] at this; omega
  · rcases k.2 c hc with z | z
    · cases z
    · exact h.c c z
theorem tn_ok {t : Str} (h : TN 4998 t) : TxtOk t := ⟨by have := h.l; omega, h.c, fun w hw => ⟨Nat.le_trans (split_tn h hw).l (by decide), (split_tn h hw).c⟩⟩
/-- the lengths of texts, added -/
def lens (l : List Str) : Nat := (l.map (·.length)).sum
theorem spl_sum (S : List Nat) : ∀ (l : List Nat) (k : Nat) (acc : List Nat), S ≠ [] → ((spl S k acc l).map List.length).sum + (spl S k acc l).length ≤ acc.length + l.length + 1
  | [], k, acc, h => by rw [spl_nil]; simp
  | c :: r, 0, acc, h => by
    cases e : pre S (c :: r) with
    | true =>
      rw [spl_hit e, List.map_cons, List.sum_cons, List.length_cons, List.length_cons]
      have ih := spl_sum S r (S.length - 1) [] h
      rw [List.length_nil] at ih
      omega
    | false =>
      rw [spl_miss e, List.length_cons]
      have ih := spl_sum S r 0 (acc ++ [c]) h
      rw [List.length_append, List.length_cons, List.length_nil] at ih
      omega
  | c :: r, k + 1, acc, h => by
    have ih := spl_sum S r k acc h
    rw [List.length_cons]
    show ((spl S k acc r).map List.length).sum + (spl S k acc r).length ≤ _
    omega
theorem split_sum (t : Str) : lens (Txt.split t (" " : Str)) + (Txt.split t (" " : Str)).length ≤ t.length + 1 := by
  have k := spl_sum (tl (" " : Str)) (tl t) 0 [] (by decide +kernel)
  rw [← split_eq, List.map_map, List.length_map, List.length_nil, Nat.zero_add, ← len_tl] at k
  have e : List.map (List.length ∘ tl) (Txt.split t (" " : Str)) = List.map (·.length) (Txt.split t (" " : Str)) := List.map_congr_left fun w _ => (len_tl w).symm
  rw [e] at k
  exact k
theorem join_tn {n : Nat} {l : List Str} (hc : ∀ w ∈ l, TN n w) : TN (lens l + l.length) (Txt.join (" " : Str) l) := by
  rw [join_eq]
  refine ⟨?_, ?_⟩
  · have k := StrLaws.join_length_le (" " : Str) l
    have e : ((" " : Str)).length = 1 := by decide +kernel
    rw [e, Nat.mul_one] at k
    exact k
  · have key : ∀ l : List Str, (∀ w ∈ l, TN n w) → ∀ c ∈ tl (Str.join (" " : Str) l), c < 0x110000 := by
      intro l
      induction l with
      | nil => intro _ c hc; exact absurd hc (by show ¬ c ∈ ([] : List Nat); exact List.not_mem_nil)
      | cons x l ih =>
        intro hl c hc
        cases l with
        | nil => exact (hl x List.mem_cons_self).c c hc
        | cons y r =>
          have e : tl (Str.join (" " : Str) (x :: y :: r)) = tl x ++ tl (" " : Str) ++ tl (Str.join (" " : Str) (y :: r)) := by
            show tl (x ++ (" " : Str) ++ Str.join (" " : Str) (y :: r)) = _
            rw [tl_append, tl_append]
          rw [e] at hc
          rcases List.mem_append.mp hc with z | z
          · rcases List.mem_append.mp z with z | z
            · exact (hl x List.mem_cons_self).c c z
            · have e1 : tl (" " : Str) = [32] := by decide +kernel
              rw [e1] at z
              rw [List.mem_singleton.mp z]; decide
          · exact ih (fun w hw => hl w (List.mem_cons_of_mem _ hw)) c z
    exact key l hc

theorem sgn_tn {n : Nat} {z : Str} (i : Int) (h : TN n z) : TN 1 (sgn z i) := by
  refine ⟨Nat.le_refl 1, fun c hc => ?_⟩
  have e : c = z.cps.toList.getD i.toNat 0 := List.mem_singleton.mp hc
  rw [e, List.getD_eq_getElem?_getD]
  cases g : z.cps.toList[i.toNat]? with
  | none => show 0 < 0x110000; decide
  | some x => exact h.c x (List.mem_of_getElem? g)
theorem rep_tl (x : Str) (k : Int) : (strRep x k).cps.toList = (List.replicate k.toNat (tl x)).flatten := by
  have key : ∀ (m : Nat) (a : Array Nat), ((List.replicate m x.cps).foldl (· ++ ·) a).toList = a.toList ++ (List.replicate m (tl x)).flatten := by
    intro m
    induction m with
    | zero => intro a; simp
    | succ m ih =>
      intro a
      rw [List.replicate_succ, List.foldl_cons, ih, List.replicate_succ, List.flatten_cons, Array.toList_append, List.append_assoc]
  show ((List.replicate k.toNat x.cps).foldl (· ++ ·) #[]).toList = _
  rw [key]; rfl
theorem rep_tn {n : Nat} {x : Str} (k : Nat) (h : TN n x) : TN (k * n) (strRep x (k : Int)) := by
  have e := rep_tl x (k : Int)
  rw [Int.toNat_natCast] at e
  refine ⟨?_, fun c hc => ?_⟩
  · have e2 : (strRep x (k : Int)).length = k * (tl x).length := by
      rw [len_tl]
      show (strRep x (k : Int)).cps.toList.length = _
      rw [e]; simp
    rw [e2]
    have := h.l
    rw [len_tl] at this
    exact Nat.mul_le_mul_left k this
  · rw [e] at hc
    obtain ⟨l, hl, hc⟩ := List.mem_flatten.mp hc
    rw [(List.mem_replicate.mp hl).2] at hc
    exact h.c c hc
theorem lens_cons (x : Str) (l : List Str) : lens (x :: l) = x.length + lens l := by unfold lens; rw [List.map_cons, List.sum_cons]
theorem lens_app (l m : List Str) : lens (l ++ m) = lens l + lens m := by unfold lens; rw [List.map_append, List.sum_append]
theorem lens_set {x : Str} : ∀ {l : List Str} {i : Nat}, i < l.length → lens (l.set i x) + (l.getD i ("" : Str)).length = lens l + x.length
  | [], i, h => absurd h (Nat.not_lt_zero i)
  | y :: l, 0, h => by
    rw [List.set_cons_zero, lens_cons, lens_cons, List.getD_cons_zero]; omega
  | y :: l, i + 1, h => by
    have ih := lens_set (x := x) (l := l) (i := i) (by rw [List.length_cons] at h; omega)
    rw [List.set_cons_succ, lens_cons, lens_cons, List.getD_cons_succ]; omega
theorem lens_erase : ∀ (l : List Str) (i : Nat), lens (l.eraseIdx i) ≤ lens l
  | [], i => Nat.le_refl _
  | y :: l, 0 => by rw [List.eraseIdx_cons_zero, lens_cons]; omega
  | y :: l, i + 1 => by
    have ih := lens_erase l i
    rw [List.eraseIdx_cons_succ, lens_cons, lens_cons]; omega
theorem lens_ins (l : List Str) (i : Nat) (x : Str) : lens (l.take i ++ [x] ++ l.drop i) = lens l + x.length := by
  have e : lens l = lens (l.take i) + lens (l.drop i) := by rw [← lens_app, List.take_append_drop]
  rw [lens_app, lens_app, e, lens_cons, show lens [] = 0 from rfl]; omega
theorem len_ins {α : Type} (l : List α) (i : Nat) (x : α) : (l.take i ++ [x] ++ l.drop i).length = l.length + 1 := by
  have e := congrArg List.length (List.take_append_drop i l)
  rw [List.length_append] at e
  rw [List.length_append, List.length_append, List.length_singleton]; omega
theorem lens_getD : ∀ (l : List Str) (i : Nat), (l.getD i ("" : Str)).length ≤ lens l
  | [], i => by rw [List.getD_nil]; decide +kernel
  | y :: l, 0 => by rw [List.getD_cons_zero, lens_cons]; omega
  | y :: l, i + 1 => by
    have ih := lens_getD l i
    rw [List.getD_cons_succ, lens_cons]; omega
theorem getD_tn {n : Nat} : ∀ {l : List Str} (i : Nat), (∀ w ∈ l, TN n w) → TN n (l.getD i ("" : Str))
  | [], i, _ => by
    rw [List.getD_nil]
    exact ⟨by rw [show (("" : Str)).length = 0 by decide +kernel]; omega, fun c hc => by rw [show (("" : Str)).cps.toList = [] by decide +kernel] at hc; cases hc⟩
  | y :: l, 0, h => h y List.mem_cons_self
  | y :: l, i + 1, h => getD_tn i fun w hw => h w (List.mem_cons_of_mem _ hw)
/-- two words exchanged -/
theorem lens_swap {l : List Str} {i j : Nat} (hi : i < l.length) (hj : j < l.length) : lens ((l.set i (l.getD j ("" : Str))).set j (l.getD i ("" : Str))) = lens l := by
  have a := lens_set (x := l.getD j ("" : Str)) hi
  have b := lens_set (l := l.set i (l.getD j ("" : Str))) (x := l.getD i ("" : Str)) (i := j) (by rw [List.length_set]; exact hj)
  have e : (l.set i (l.getD j ("" : Str))).getD j ("" : Str) = l.getD j ("" : Str) := by
    rw [List.getD_eq_getElem?_getD, List.getD_eq_getElem?_getD, List.getElem?_set]
    split
    · rename_i g
      subst g
      rw [List.getElem?_eq_getElem hi]
      rfl
    · rfl
  rw [e] at b
  omega
theorem cut_tn {n : Nat} {z : Str} (lo hi : Option Int) (h : TN n z) : TN n (cutS z lo hi) :=
  ⟨Nat.le_trans (cutS_length z lo hi) h.l, fun c hc => h.c c (List.mem_of_mem_drop (List.mem_of_mem_take (by exact hc)))⟩
theorem split_pos (t : Str) : 0 < (Txt.split t (" " : Str)).length := by
  have e := congrArg List.length (split_eq t)
  rw [List.length_map] at e
  rw [e]
  have key : ∀ (S l : List Nat) (k : Nat) (acc : List Nat), 0 < (spl S k acc l).length := by
    intro S l
    induction l with
    | nil => intro k acc; rw [spl_nil]; exact Nat.one_pos
    | cons c r ih =>
      intro k acc
      cases k with
      | zero =>
        cases g : pre S (c :: r) with
        | true => rw [spl_hit g, List.length_cons]; omega
        | false => rw [spl_miss g]; exact ih _ _
      | succ k => exact ih k acc
  exact key _ _ _ _
theorem ins_tn {n : Nat} {l : List Str} {x : Str} (i : Nat) (h : ∀ w ∈ l, TN n w) (hx : TN n x) : ∀ w ∈ l.take i ++ [x] ++ l.drop i, TN n w := fun w hw => by
  rcases List.mem_append.mp hw with z | z
  · rcases List.mem_append.mp z with z | z
    · exact h w (List.mem_of_mem_take z)
    · rw [List.mem_singleton.mp z]; exact hx
  · exact h w (List.mem_of_mem_drop z)
theorem set_tn {n : Nat} {l : List Str} {x : Str} (i : Nat) (h : ∀ w ∈ l, TN n w) (hx : TN n x) : ∀ w ∈ l.set i x, TN n w := fun w hw => by
  rcases List.mem_or_eq_of_mem_set hw with z | z
  · exact h w z
  · rw [z]; exact hx
theorem erase_tn {n : Nat} {l : List Str} (i : Nat) (h : ∀ w ∈ l, TN n w) : ∀ w ∈ l.eraseIdx i, TN n w := fun w hw => h w (List.mem_of_mem_eraseIdx hw)

theorem jn {n m : Nat} {l : List Str} (h : ∀ w ∈ l, TN m w) (e : lens l + l.length ≤ n) : TN n (Txt.join (" " : Str) l) := (join_tn h).up e
theorem chr_lt (c : Char) : c.toNat < 0x110000 := by
  have h : c.val.toNat.isValidChar := c.valid
  show c.val.toNat < _
  rcases h with h | h
  · omega
  · exact h.2
theorem tos_tn {i : Int} (h : -(10 ^ 30) < i ∧ i < 10 ^ 30) : TN 31 (tos i) := by
  refine ⟨tos_len h, fun c hc => ?_⟩
  have e : (tos i).cps.toList = (toString i).toList.map Char.toNat := tl_ofString _
  rw [e] at hc
  obtain ⟨x, _, rfl⟩ := List.mem_map.mp hc
  exact chr_lt x
theorem lens_le {n : Nat} : ∀ {l : List Str}, (∀ w ∈ l, TN n w) → lens l ≤ n * l.length
  | [], _ => Nat.zero_le _
  | x :: l, h => by
    have ih := lens_le fun w hw => h w (List.mem_cons_of_mem _ hw)
    have := (h x List.mem_cons_self).l
    rw [lens_cons, List.length_cons, Nat.mul_succ]; omega
theorem text_tn {row : List Int} (h : row.length ≤ 30) (hb : ∀ x ∈ row, -(10 ^ 30) < x ∧ x < 10 ^ 30) : TN 960 (m_q_text row) := by
  unfold m_q_text
  split
  · decide +kernel
  · have hw : ∀ w ∈ row.map (fun (number : Int) => tos number), TN 31 w := fun w hw => by
      obtain ⟨i, hi, rfl⟩ := List.mem_map.mp hw
      exact tos_tn (hb i hi)
    refine jn hw ?_
    have e := lens_le hw
    rw [List.length_map] at *
    omega

/-! sign -/
def m_sign_3 (cell : Int) (k : Int) (menu : Str) : Str :=
  (sgn menu ((m_q_stir cell (k + (1 : Int))) % ((menu).length : Int)))
def m_sign_2 (cell : Int) (k : Int) (wide : Str) : Str :=
  m_sign_3 cell k ((([("0019 --no" : Str), wide] : List Str)).getD (((m_q_stir cell k) % (2 : Int))).toNat ("" : Str))
def m_sign_1 (cell : Int) (k : Int) (wide : Str) : Str :=
  m_sign_2 cell k (wide ++ ("QRSTUVWXYZ[\\]^_`abcdefghijklmnopqrstuvwxyz{|}~\n" : Str))
def m_sign (cell : Int) (k : Int) : Str :=
  m_sign_1 cell k (" !\"#$&'()*+,-./0123456789:;<=>?@ABCDEFGHIJKLMNOP" : Str)

theorem sign_tn (cell k : Int) : TN 1 (m_sign cell k) := by
  unfold m_sign m_sign_1 m_sign_2 m_sign_3
  refine sgn_tn (n := 100) _ (getD_tn _ fun w hw => ?_)
  rcases List.mem_cons.mp hw with rfl | hw
  · decide +kernel
  · rw [List.mem_singleton.mp hw]; decide +kernel

/-! spoilt -/
def m_spoilt_8 (words : (List Str)) : Str :=
  (Txt.join (" " : Str) words)
def m_spoilt_9 (words : (List Str)) : Str :=
  (Txt.join (" " : Str) words)
def m_spoilt_10 (words : (List Str)) : Str :=
  (Txt.join (" " : Str) words)
def m_spoilt_11 (words : (List Str)) : Str :=
  (Txt.join (" " : Str) words)
def m_spoilt_7 (cell : Int) (k : Int) (text : Str) (at_ : Int) (kind : Int) (words : (List Str)) (one : Int) (other : Int) (odd : (List Str)) : Str :=
  (if (decide (kind = (0 : Int))) = true then ((cutS text none (some at_)) ++ (cutS text (some (at_ + (1 : Int))) none)) else (if (decide (kind < (3 : Int))) = true then (((cutS text none (some at_)) ++ (m_sign cell (k + (4 : Int)))) ++ (cutS text (some ((at_ + kind) - (1 : Int))) none)) else (if (decide (kind = (3 : Int))) = true then m_spoilt_8 (words.eraseIdx (one).toNat) else (if (decide (kind = (4 : Int))) = true then m_spoilt_9 (words.take (other).toNat ++ [((words).getD (one).toNat ("" : Str))] ++ words.drop (other).toNat) else (if (decide (kind = (5 : Int))) = true then m_spoilt_10 (words.set (one).toNat ((odd).getD (((m_q_stir cell (k + (6 : Int))) % ((odd).length : Int))).toNat ("" : Str))) else (if (decide (kind = (6 : Int))) = true then m_spoilt_11 (words.take (one).toNat ++ [((odd).getD (((m_q_stir cell (k + (6 : Int))) % ((odd).length : Int))).toNat ("" : Str))] ++ words.drop (one).toNat) else (Txt.join (" " : Str) ((words.set (one).toNat ((words).getD (other).toNat ("" : Str))).set (other).toNat ((words).getD (one).toNat ("" : Str))))))))))
def m_spoilt_6 (cell : Int) (k : Int) (text : Str) (at_ : Int) (kind : Int) (words : (List Str)) (one : Int) (other : Int) (odd : (List Str)) : Str :=
  m_spoilt_7 cell k text at_ kind words one other (odd ++ ([(strRep ("9" : Str) (30 : Int)), (strRep ("9" : Str) (31 : Int)), (("-" : Str) ++ (strRep ("9" : Str) (30 : Int))), (("-" : Str) ++ (strRep ("9" : Str) (31 : Int))), (("1" : Str) ++ (strRep ("0" : Str) (30 : Int)))] : List Str))
def m_spoilt_5 (cell : Int) (k : Int) (text : Str) (at_ : Int) (kind : Int) (words : (List Str)) (one : Int) (other : Int) : Str :=
  m_spoilt_6 cell k text at_ kind words one other ([("0" : Str), ("-0" : Str), ("00" : Str), ("01" : Str), ("-01" : Str), ("+1" : Str), ("" : Str), ("-" : Str), ("--1" : Str), ("1-" : Str), ("none" : Str), ("None" : Str), ("1_0" : Str), ("1." : Str), ("x" : Str), ("0x1" : Str), ("1e3" : Str)] : List Str)
def m_spoilt_4 (cell : Int) (k : Int) (text : Str) (at_ : Int) (kind : Int) (words : (List Str)) (one : Int) : Str :=
  m_spoilt_5 cell k text at_ kind words one ((m_q_stir cell (k + (3 : Int))) % ((words).length : Int))
def m_spoilt_3 (cell : Int) (k : Int) (text : Str) (at_ : Int) (kind : Int) (words : (List Str)) : Str :=
  m_spoilt_4 cell k text at_ kind words ((m_q_stir cell (k + (2 : Int))) % ((words).length : Int))
def m_spoilt_2 (cell : Int) (k : Int) (text : Str) (at_ : Int) (kind : Int) : Str :=
  m_spoilt_3 cell k text at_ kind (Txt.split text (" " : Str))
def m_spoilt_1 (cell : Int) (k : Int) (text : Str) (at_ : Int) : Str :=
  m_spoilt_2 cell k text at_ ((m_q_stir cell (k + (1 : Int))) % (8 : Int))
def m_spoilt (cell : Int) (k : Int) (text : Str) : Str :=
  m_spoilt_1 cell k text ((m_q_stir cell k) % (((text).length : Int) + (1 : Int)))

theorem sp7 {n : Nat} {text : Str} {odd words : List Str} {one other : Int} (cell k at_ kind : Int) (ht : TN n text) (hw : words = Txt.split text (" " : Str)) (ho : ∀ w ∈ odd, TN 32 w)
    (h1 : 0 ≤ one) (h2 : one < (words.length : Int)) (h3 : 0 ≤ other) (h4 : other < (words.length : Int)) : TN (2 * n + 40) (m_spoilt_7 cell k text at_ kind words one other odd) := by
  have hs := split_sum text
  have hl := ht.l
  rw [← hw] at hs
  have hn : ∀ w ∈ words, TN (n + 32) w := fun w z => (split_tn ht (by rw [← hw]; exact z)).up (by omega)
  have ho' : ∀ w ∈ odd, TN (n + 32) w := fun w z => (ho w z).up (by omega)
  have g1 := lens_getD words one.toNat
  have o1 : ∀ i : Nat, (odd.getD i ("" : Str)).length ≤ 32 := fun i => (getD_tn i ho).l
  unfold m_spoilt_7
  split
  · exact (tn_cat (cut_tn _ _ ht) (cut_tn _ _ ht)).up (by omega)
  split
  · exact (tn_cat (tn_cat (cut_tn _ _ ht) (sign_tn _ _)) (cut_tn _ _ ht)).up (by omega)
  split
  · unfold m_spoilt_8
    refine jn (erase_tn _ hn) ?_
    have := lens_erase words one.toNat
    have := List.length_eraseIdx_le words one.toNat
    omega
  split
  · unfold m_spoilt_9
    refine jn (ins_tn _ hn (getD_tn _ hn)) ?_
    rw [lens_ins, len_ins]
    omega
  split
  · unfold m_spoilt_10
    refine jn (set_tn _ hn (getD_tn _ ho')) ?_
    have e := lens_set (l := words) (i := one.toNat) (x := odd.getD (m_q_stir cell (k + 6) % (odd.length : Int)).toNat ("" : Str)) (by omega)
    have := o1 (m_q_stir cell (k + 6) % (odd.length : Int)).toNat
    rw [List.length_set]
    omega
  split
  · unfold m_spoilt_11
    refine jn (ins_tn _ hn (getD_tn _ ho')) ?_
    have := o1 (m_q_stir cell (k + 6) % (odd.length : Int)).toNat
    rw [lens_ins, len_ins]
    omega
  · refine jn (set_tn _ (set_tn _ hn (getD_tn _ hn)) (getD_tn _ hn)) ?_
    rw [lens_swap (by omega) (by omega), List.length_set, List.length_set]
    omega
theorem spoilt_tn {n : Nat} {text : Str} (cell k : Int) (hk : 0 ≤ k) (ht : TN n text) : TN (2 * n + 40) (m_spoilt cell k text) := by
  unfold m_spoilt m_spoilt_1 m_spoilt_2 m_spoilt_3 m_spoilt_4 m_spoilt_5 m_spoilt_6
  have hp := split_pos text
  exact sp7 _ _ _ _ ht rfl (by decide +kernel) (Int.emod_nonneg _ (by omega)) (Int.emod_lt_of_pos _ (by omega)) (Int.emod_nonneg _ (by omega)) (Int.emod_lt_of_pos _ (by omega))

/-! free -/
def m_free_7 (words : (List Str)) (word : Str) (odd : Str) (kind : Int) : (List Str) :=
  (words ++ [((([word, word, (("-" : Str) ++ word), odd] : List Str)).getD (kind).toNat ("" : Str))])
def m_free_6 (cell : Int) (words : (List Str)) (k : Int) (word : Str) (odd : Str) : (List Str) :=
  m_free_7 words word odd ((m_q_stir cell ((280 : Int) + k)) % ((([(1 : Int), (3 : Int), (4 : Int)] : List Int)).getD (((m_q_stir cell (211 : Int)) % (3 : Int))).toNat (0 : Int)))
def m_free_5 (cell : Int) (some_ : (List Str)) (words : (List Str)) (k : Int) (word : Str) : (List Str) :=
  m_free_6 cell words k word ((some_).getD (((m_q_stir cell ((260 : Int) + k)) % (8 : Int))).toNat ("" : Str))
def m_free_4 (cell : Int) (some_ : (List Str)) (words : (List Str)) (k : Int) (figures : Str) : (List Str) :=
  m_free_5 cell some_ words k (cutS figures none (some ((1 : Int) + ((m_q_stir cell ((240 : Int) + k)) % (31 : Int)))))
def m_free_2s (cell : Int) (some_ : (List Str)) (k : Int) : (List Str) → (List Str) := fun words => m_free_4 cell some_ words k (strRep (tos (m_q_stir cell ((220 : Int) + k))) (4 : Int))
def m_free_3  : (List Str) → Str := fun words => (Txt.join (" " : Str) words)
def m_free_1 (cell : Int) (some_ : (List Str)) : Str :=
  (m_free_3 (lfold (m_free_2s cell some_) (rng 0 ((1 : Int) + ((m_q_stir cell (210 : Int)) % (12 : Int)))) ([] : (List Str))))
def m_free (cell : Int) : Str :=
  m_free_1 cell ([("0" : Str), ("-0" : Str), ("07" : Str), ("-" : Str), ("" : Str), ("none" : Str), ("7-" : Str), ("x" : Str)] : List Str)

theorem free_tn (cell : Int) : TN 2000 (m_free cell) := by
  unfold m_free m_free_1 m_free_3
  have hw : ∀ w ∈ lfold (m_free_2s cell [("0" : Str), ("-0" : Str), ("07" : Str), ("-" : Str), ("" : Str), ("none" : Str), ("7-" : Str), ("x" : Str)]) (rng 0 ((1 : Int) + ((m_q_stir cell (210 : Int)) % (12 : Int)))) ([] : (List Str)), TN 125 w := by
    refine lfold_inv (I := fun s => ∀ w ∈ s, TN 125 w) (fun w hw => by cases hw) fun k hk s hs => ?_
    have hk0 := (mem_rng.mp hk).1
    have h1 := post_q_stir cell (220 + k) (by omega)
    have t := rep_tn 4 (tos_tn (i := m_q_stir cell (220 + k)) (by omega))
    unfold m_free_2s m_free_4 m_free_5 m_free_6 m_free_7
    have c := cut_tn none (some ((1 : Int) + ((m_q_stir cell ((240 : Int) + k)) % (31 : Int)))) t
    intro w hw
    rcases List.mem_append.mp hw with z | z
    · exact hs w z
    · rw [List.mem_singleton.mp z]
      refine getD_tn _ fun w hw => ?_
      rcases List.mem_cons.mp hw with rfl | hw
      · exact c.up (by omega)
      rcases List.mem_cons.mp hw with rfl | hw
      · exact c.up (by omega)
      rcases List.mem_cons.mp hw with rfl | hw
      · exact (tn_cat (m := 1) (by decide +kernel) c).up (by omega)
      · rw [List.mem_singleton.mp hw]
        exact getD_tn _ (by decide +kernel)
  refine jn hw ?_
  have e := lens_le hw
  have h2 : (lfold (m_free_2s cell [("0" : Str), ("-0" : Str), ("07" : Str), ("-" : Str), ("" : Str), ("none" : Str), ("7-" : Str), ("x" : Str)]) (rng 0 ((1 : Int) + ((m_q_stir cell (210 : Int)) % (12 : Int)))) ([] : (List Str))).length ≤ 12 := by
    rw [lfold_len (c := 1) (fun x s => by
      show (m_free_2s _ _ x s).length = _
      unfold m_free_2s m_free_4 m_free_5 m_free_6 m_free_7
      simp only [List.length_append, List.length_cons, List.length_nil]), rng_len]
    simp only [List.length_nil]
    omega
  omega
theorem row_30 (cell modulus : Int) : (m_q_row cell modulus 30).length ≤ 30 := by
  unfold m_q_row m_q_row_1 m_q_row_2 m_q_row_4
  rw [lfold_len (c := 1) (fun x s => by
    show (m_q_row_3s _ _ _ x s).length = _
    unfold m_q_row_3s m_q_row_5 m_q_row_6 m_q_row_7 m_q_row_8 m_q_row_9
    simp only [List.length_append, List.length_cons, List.length_nil]), rng_len]
  simp only [List.length_nil]
  split <;> omega

theorem tn_line {t : Str} (h : TN 1960 t) : t.length ≤ sizeLine := Nat.le_trans h.l (by decide)
theorem tn_line2 {t : Str} (h : TN 1960 t) : t.length + 2 ≤ sizeLine := Nat.le_trans (Nat.add_le_add_right h.l 2) (by decide)
theorem tn_two {m n : Nat} {s t : Str} (h : TN m s) (g : TN n t) (e : m + n ≤ 16000) : s.length + t.length ≤ sizeLine := by
  have := h.l; have := g.l
  rw [sizeLine_eq]; omega
theorem cut2 {t : Str} {a b c d : Option Int} (h : TN 1960 t) : (cutS t a b).length + (cutS t c d).length ≤ sizeLine := tn_two (cut_tn a b h) (cut_tn c d h) (by decide)
theorem cut3 {t : Str} {a b : Option Int} {c k : Int} (h : TN 1960 t) : (cutS t a b).length + (m_sign c k).length ≤ sizeLine := tn_two (cut_tn a b h) (sign_tn c k) (by decide)
theorem cut4 {t : Str} {a b c d : Option Int} {x k : Int} (h : TN 1960 t) : (cutS t a b ++ m_sign x k).length + (cutS t c d).length ≤ sizeLine := tn_two (tn_cat (cut_tn a b h) (sign_tn x k)) (cut_tn c d h) (by decide)
theorem menu_ok {a b : Str} {i : Int} (h : 0 ≤ i ∧ i < 2) (ha : 1 ≤ a.length ∧ a.length ≤ 100) (hb : 1 ≤ b.length ∧ b.length ≤ 100) : 1 ≤ (([a, b] : List Str).getD i.toNat ("" : Str)).length ∧ (([a, b] : List Str).getD i.toNat ("" : Str)).length ≤ 100 := by
  rcases (show i = 0 ∨ i = 1 by omega) with rfl | rfl
  · exact ha
  · exact hb
theorem jn_ok {ys : List Str} (h : lens ys + ys.length ≤ 4000) : (ys.map (·.length)).sum + ys.length * ((" " : Str)).length ≤ 16777216 := by
  rw [show ((" " : Str)).length = 1 by decide +kernel, Nat.mul_one]
  exact Nat.le_trans h (by decide)
theorem er_b {ws : List Str} {i : Nat} (h : lens ws + ws.length ≤ 1961) : lens (ws.eraseIdx i) + (ws.eraseIdx i).length ≤ 4000 := by
  have := lens_erase ws i
  have := List.length_eraseIdx_le ws i
  omega
theorem ins_b {ws : List Str} {i : Nat} {x : Str} (h : lens ws + ws.length ≤ 1961) (hx : x.length ≤ 1961) : lens (ws.take i ++ [x] ++ ws.drop i) + (ws.take i ++ [x] ++ ws.drop i).length ≤ 4000 := by
  rw [lens_ins, len_ins]; omega
theorem own_b {ws : List Str} {i : Nat} (h : lens ws + ws.length ≤ 1961) : (ws.getD i ("" : Str)).length ≤ 1961 := by
  have := lens_getD ws i; omega
theorem odd_b {ws : List Str} {i : Nat} (h : ∀ w ∈ ws, TN 32 w) : (ws.getD i ("" : Str)).length ≤ 1961 := Nat.le_trans (getD_tn i h).l (by decide)
theorem set_b {ws : List Str} {i : Nat} {x : Str} (h : lens ws + ws.length ≤ 1961) (hx : x.length ≤ 1961) : lens (ws.set i x) + (ws.set i x).length ≤ 4000 := by
  rw [List.length_set]
  by_cases hi : i < ws.length
  · have := lens_set (x := x) hi; omega
  · rw [List.set_eq_of_length_le (Nat.le_of_not_lt hi)]; omega
theorem swap_b {ws : List Str} {i j : Int} (h : lens ws + ws.length ≤ 1961) (h1 : 0 ≤ i ∧ i < (ws.length : Int)) (h2 : 0 ≤ j ∧ j < (ws.length : Int)) : lens ((ws.set i.toNat (ws.getD j.toNat ("" : Str))).set j.toNat (ws.getD i.toNat ("" : Str))) + ((ws.set i.toNat (ws.getD j.toNat ("" : Str))).set j.toNat (ws.getD i.toNat ("" : Str))).length ≤ 4000 := by
  rw [lens_swap (by omega) (by omega), List.length_set, List.length_set]; omega
theorem words_b {t : Str} (h : TN 1960 t) : (lens (Txt.split t (" " : Str)) + (Txt.split t (" " : Str)).length ≤ 1961) ∧ 1 ≤ (Txt.split t (" " : Str)).length := by
  have := split_sum t; have := split_pos t; have := h.l
  exact ⟨by omega, by omega⟩
theorem tos_1 {i : Int} (h : 0 ≤ i ∧ i < 268435456) : 1 ≤ (tos i).length ∧ (tos i).length ≤ 16 := by
  have e := tl_nn h.1
  have e2 : (tos i).length = (numL i.toNat).length := by rw [len_tl]; exact congrArg List.length e
  have h2 := numL_ne i.toNat
  have h3 : (numL i.toNat).length ≤ 9 := numL_len (k := 9) (by decide) (by omega)
  refine ⟨?_, by omega⟩
  rw [e2]
  exact List.length_pos_iff.mpr h2
theorem tos_TN {i : Int} (h : 0 ≤ i ∧ i < 268435456) : TN 124 (strRep (tos i) (4 : Int)) := rep_tn 4 (tos_tn (i := i) (by omega))
theorem ones_ok {a b : Int} (h : 0 ≤ a) (hb : 0 ≤ b) : 1 ≤ (([(1 : Int), (3 : Int), (4 : Int)] : List Int)).getD (b % 3).toNat (0 : Int) ∧ (([(1 : Int), (3 : Int), (4 : Int)] : List Int)).getD (b % 3).toNat (0 : Int) ≤ 4 := by
  rcases (show b % 3 = 0 ∨ b % 3 = 1 ∨ b % 3 = 2 by omega) with e | e | e <;> rw [e] <;> decide
theorem kd_ok {a b : Int} (h : 0 ≤ a) (hb : 0 ≤ b) : 0 ≤ a % (([(1 : Int), (3 : Int), (4 : Int)] : List Int)).getD (b % 3).toNat (0 : Int) ∧ a % (([(1 : Int), (3 : Int), (4 : Int)] : List Int)).getD (b % 3).toNat (0 : Int) < 4 := by
  have k := ones_ok h hb
  have := Int.emod_lt_of_pos a (b := (([(1 : Int), (3 : Int), (4 : Int)] : List Int)).getD (b % 3).toNat (0 : Int)) (by omega)
  exact ⟨Int.emod_nonneg _ (by omega), by omega⟩
theorem app_free {ws : List Str} {word odd : Str} {i : Nat} (h : ∀ w ∈ ws, TN 125 w) (hw : TN 124 word) (ho : TN 125 odd) : ∀ w ∈ ws ++ [(([word, word, (("-" : Str) ++ word), odd] : List Str)).getD i ("" : Str)], TN 125 w := by
  intro w m
  rcases List.mem_append.mp m with z | z
  · exact h w z
  · rw [List.mem_singleton.mp z]
    refine getD_tn _ fun w hw' => ?_
    rcases List.mem_cons.mp hw' with rfl | hw'
    · exact hw.up (by omega)
    rcases List.mem_cons.mp hw' with rfl | hw'
    · exact hw.up (by omega)
    rcases List.mem_cons.mp hw' with rfl | hw'
    · exact (tn_cat (m := 1) (by decide +kernel) hw).up (by omega)
    · rw [List.mem_singleton.mp hw']; exact ho
theorem free_jn {ws : List Str} (h : ∀ w ∈ ws, TN 125 w) (e : ws.length ≤ 12) : (ws.map (·.length)).sum + ws.length * ((" " : Str)).length ≤ 16777216 := by
  have := lens_le h
  exact jn_ok (by omega)
theorem row_text_tn (cell : Int) : TN 960 (m_q_text (m_q_row cell (m_q_modulus cell) 30)) := by
  have hm := post_q_modulus cell trivial
  exact text_tn (row_30 _ _) (row_bd cell _ 30 ⟨by omega, by omega, by omega, by omega⟩)
theorem twice_ok {cell k : Int} {t : Str} (h : TN 1960 t) (hk : 0 ≤ k) : TxtOk (m_spoilt cell k t) := tn_ok ((spoilt_tn cell k hk h).up (by omega))
theorem fixed_ok {ts : List Str} {t : Str} (h : ∀ t ∈ ts, TN 4998 t) (ht : t ∈ ts) : TN 4998 t := h t ht
theorem ones_pos {b : Int} (hb : 0 ≤ b) : 0 < (([(1 : Int), (3 : Int), (4 : Int)] : List Int)).getD (b % 3).toNat (0 : Int) := by
  have := ones_ok (a := 0) (by omega) hb; omega
theorem fixed_ds {ts : List Str} (h : ∀ t ∈ ts, TN 4998 t) : StrsOk ((ts.filter (fun (text : Str) => (!true))).map (fun (text : Str) => text)) := by
  intro x hx
  rw [List.map_id'] at hx
  exact (h x (List.mem_filter.mp hx).1).c

/-! law -/
def m_law_6  : (LR Bool Unit) :=
  (if ((!true) || (!true)) = true then (.ret false) else (.nxt ()))
def m_law_4s  (turn : Int) : Unit → (LR Bool Unit) := fun _ => m_law_6
def m_law_5  : Unit → (LR Bool Unit) := fun _ => (.nxt ())
def m_law_3  : (LR Bool Unit) :=
  (if (!true) = true then (.ret false) else ((lrun (m_law_4s) (rng 0 (5 : Int)) ()).andThen m_law_5))
def m_law_1s  (cell : Int) : Unit → (LR Bool Unit) := fun _ => m_law_3
def m_law_7 (some_ : (List Str)) : Bool :=
  (decide (((some_.filter (fun (text : Str) => (!true))).map (fun (text : Str) => text)) = ([] : List Str)))
def m_law_2  : Unit → Bool := fun _ => m_law_7 ([("" : Str), (" " : Str), ("none " : Str), (" none" : Str), ("none none" : Str), ("none 1" : Str), ("0" : Str), ("-0" : Str), ("0 0" : Str), ("1 " : Str), (" 1" : Str), ("1  2" : Str), ("1\n" : Str), ("\n" : Str), ("-" : Str)] : List Str)
def m_law (script : Scr) : Bool :=
  ((lrun (m_law_1s) (m_q_cells script (5 : Int)) ()).out m_law_2)

theorem law_true (s : Scr) (h : s.ns.length ≤ 63) : m_law s = true := by
  have k5 : ∀ u : Unit, (lrun (m_law_4s) (rng 0 (5 : Int)) u) = .nxt () := by
    intro u; cases u; rfl
  have k3 : m_law_3 = .nxt () := by
    unfold m_law_3
    rw [if_neg (by decide), k5 ()]
    rfl
  have kr : ∀ l : List Int, lrun (m_law_1s) l () = .nxt () := by
    intro l
    induction l with
    | nil => rfl
    | cons x l ih =>
      show (match m_law_1s x () with | .nxt s => lrun m_law_1s l s | .brk s => .nxt s | .ret r => .ret r) = _
      rw [show m_law_1s x () = LR.nxt () from k3]
      exact ih
  unfold m_law
  rw [kr]
  show m_law_2 () = true
  unfold m_law_2 m_law_7
  decide +kernel

local macro_rules | `(tactic| walk_at "sc") => `(tactic| first | omega | assumption | decide | (split <;> omega) | (simp only [mem_rng, List.length_cons, List.length_nil] at *; omega) | (simp at *; omega) | (have hz := enum_mem (by assumption); omega) | fail)
local macro_rules | `(tactic| walk_at "ix") => `(tactic| first | omega | (simp only [List.length_cons, List.length_nil, List.length_append, List.length_set]; omega) | (simp only [mem_rng, rng_len, List.length_map, List.length_set] at *; omega) | (have hz := enum_mem (by assumption); omega) | fail)
local macro_rules | `(tactic| walk_at "ixn") => `(tactic| first | exact ixN_neg' (by omega) (by omega) | exact ixN_neg' (by omega) (by simp only [List.length_cons, List.length_nil, List.length_append]; omega) | fail)
local macro_rules | `(tactic| walk_at "pre") => `(tactic| first | exact trivial | assumption | omega | decide | (simp only [mem_rng] at *; omega) | (refine ⟨?_, ?_⟩ <;> walk_at "sc") | (refine ⟨?_, ?_, ?_⟩ <;> walk_at "sc") | (refine ⟨?_, ?_, ?_, ?_⟩ <;> walk_at "sc") | (refine ⟨?_, ?_, ?_, ?_, ?_⟩ <;> walk_at "sc") | (have hz := enum_mem (by assumption); omega) | fail)
local macro_rules | `(tactic| walk_at "mu") => `(tactic| first | exact .inr ⟨by omega, by omega⟩ | exact .inl ⟨by omega, by omega⟩ | exact .inr ⟨by walk_at "sc", by walk_at "sc"⟩ | exact .inl ⟨by walk_at "sc", by walk_at "sc"⟩ | fail)
local macro_rules | `(tactic| walk_at "pw") => `(tactic| exact ⟨by first | decide | omega, by first | decide | omega, by first | decide | omega⟩)
local macro_rules | `(tactic| walk_at "sz") => `(tactic| first | (rw [sizeLine_eq]; omega) | (simp only [List.length_append, List.length_cons, List.length_nil, rng_len, List.length_map, psort_len, isort_len, rep_len, rep_len2] at *; rw [sizeLine_eq]; omega) | fail)
local macro_rules | `(tactic| walk_at "inv0") => `(tactic| first | omega | (simp; done) | (simp only [List.length_cons, List.length_nil, List.length_append, Nat.zero_add, rng_len, enum_len]; omega) | fail)
local macro_rules | `(tactic| walk_at "inv") => `(tactic| first | omega | (simp only [List.length_cons, List.length_nil, List.length_append] at this ⊢; omega) | fail)
local macro_rules | `(tactic| walk_at "invx") => `(tactic| fail)
local macro_rules | `(tactic| walk_at "hok") => `(tactic| first | exact Box.hok (by assumption) | exact trivial | fail)
local macro_rules | `(tactic| walk_at "szd") => `(tactic| fail)
local macro_rules | `(tactic| walk_at "ne") => `(tactic| first | omega | (refine List.length_pos_iff.mpr ?_; assumption) | fail)
local macro_rules | `(tactic| walk_at "d64") => `(tactic| fail)
local macro_rules | `(tactic| walk_at "J") => `(tactic| fail)
local macro_rules | `(tactic| walk_at "ib") => `(tactic| first | decide | (subst_vars; decide) | (subst_vars; decide +kernel) | fail)
local macro_rules | `(tactic| walk_at "rg") => `(tactic| first | exact ⟨by omega, by omega, by omega, by omega, by omega⟩ | exact ⟨by walk_at "sc", by walk_at "sc", by walk_at "sc", by walk_at "sc", by walk_at "sc"⟩ | fail)
local macro_rules | `(tactic| walk_at "nn") => `(tactic| first | assumption | (simp_all; done) | fail)
local macro_rules | `(tactic| walk_at "dk") => `(tactic| first | assumption | (simp_all; done) | fail)
local macro_rules | `(tactic| walk_at "no") => `(tactic| first | omega | contradiction | (simp_all; done) | fail)
def topS (i : Nat) : Stmt := PySem.Challenge.pw_restsums_k38_texts_of_no_row.main.body.getD i (.Pass ⟨0, 0, 0, 0⟩)
abbrev s__law_stir : Stmt := topS 15
abbrev s__law_cells : Stmt := topS 16
abbrev s__law_modulus : Stmt := topS 17
abbrev s__law_row : Stmt := topS 18
abbrev s_number_in : Stmt := topS 12
abbrev s_read_row : Stmt := topS 13
abbrev s__law_same : Stmt := topS 19
abbrev s__law_flags : Stmt := topS 20
abbrev s__law_number : Stmt := topS 24
abbrev s__law_due : Stmt := topS 25
abbrev s__law_told : Stmt := topS 26
abbrev s__law_right : Stmt := topS 27
abbrev s__law_text : Stmt := topS 21
abbrev s__law_sign : Stmt := topS 22
abbrev s__law_spoilt : Stmt := topS 23
abbrev s__law_free : Stmt := topS 28
abbrev s_law : Stmt := topS 29
theorem nm_at_ : Nm "at" := ⟨by decide +kernel, by decide +kernel, by decide +kernel⟩
theorem nm_cell : Nm "cell" := ⟨by decide +kernel, by decide +kernel, by decide +kernel⟩
theorem nm_due : Nm "due" := ⟨by decide +kernel, by decide +kernel, by decide +kernel⟩
theorem nm_e_ : Nm "e" := ⟨by decide +kernel, by decide +kernel, by decide +kernel⟩
theorem nm_far : Nm "far" := ⟨by decide +kernel, by decide +kernel, by decide +kernel⟩
theorem nm_figures : Nm "figures" := ⟨by decide +kernel, by decide +kernel, by decide +kernel⟩
theorem nm_found : Nm "found" := ⟨by decide +kernel, by decide +kernel, by decide +kernel⟩
theorem nm_k : Nm "k" := ⟨by decide +kernel, by decide +kernel, by decide +kernel⟩
theorem nm_kind : Nm "kind" := ⟨by decide +kernel, by decide +kernel, by decide +kernel⟩
theorem nm_many : Nm "many" := ⟨by decide +kernel, by decide +kernel, by decide +kernel⟩
theorem nm_menu : Nm "menu" := ⟨by decide +kernel, by decide +kernel, by decide +kernel⟩
theorem nm_modulus : Nm "modulus" := ⟨by decide +kernel, by decide +kernel, by decide +kernel⟩
theorem nm_most : Nm "most" := ⟨by decide +kernel, by decide +kernel, by decide +kernel⟩
theorem nm_number : Nm "number" := ⟨by decide +kernel, by decide +kernel, by decide +kernel⟩
theorem nm_odd : Nm "odd" := ⟨by decide +kernel, by decide +kernel, by decide +kernel⟩
theorem nm_once : Nm "once" := ⟨by decide +kernel, by decide +kernel, by decide +kernel⟩
theorem nm_one : Nm "one" := ⟨by decide +kernel, by decide +kernel, by decide +kernel⟩
theorem nm_other : Nm "other" := ⟨by decide +kernel, by decide +kernel, by decide +kernel⟩
theorem nm_row : Nm "row" := ⟨by decide +kernel, by decide +kernel, by decide +kernel⟩
theorem nm_script : Nm "script" := ⟨by decide +kernel, by decide +kernel, by decide +kernel⟩
theorem nm_sign : Nm "sign" := ⟨by decide +kernel, by decide +kernel, by decide +kernel⟩
theorem nm_some_ : Nm "some" := ⟨by decide +kernel, by decide +kernel, by decide +kernel⟩
theorem nm_text : Nm "text" := ⟨by decide +kernel, by decide +kernel, by decide +kernel⟩
theorem nm_turn : Nm "turn" := ⟨by decide +kernel, by decide +kernel, by decide +kernel⟩
theorem nm_two : Nm "two" := ⟨by decide +kernel, by decide +kernel, by decide +kernel⟩
theorem nm_wide : Nm "wide" := ⟨by decide +kernel, by decide +kernel, by decide +kernel⟩
theorem nm_word : Nm "word" := ⟨by decide +kernel, by decide +kernel, by decide +kernel⟩
theorem nm_words : Nm "words" := ⟨by decide +kernel, by decide +kernel, by decide +kernel⟩
structure Txt (K : PySem.W.Frag) (mg : Str → Option Value) (c_RestError c_NoModulus c_NoCount c_NoPaper c_TooMany c_NoText c_NoForm c_NoneYet : Addr) : Prop where
  x_RestError : XC K mg "RestError" c_RestError
  x_NoModulus : XC K mg "NoModulus" c_NoModulus
  x_NoCount : XC K mg "NoCount" c_NoCount
  x_NoPaper : XC K mg "NoPaper" c_NoPaper
  x_TooMany : XC K mg "TooMany" c_TooMany
  x_NoText : XC K mg "NoText" c_NoText
  x_NoForm : XC K mg "NoForm" c_NoForm
  x_NoneYet : XC K mg "NoneYet" c_NoneYet
  m_NoText_RestError : PySem.W.exmOne K (.ref c_NoText) (.ref c_RestError) = some true
  i_NoText_NoCount : PySem.W.kitOne K (.ref c_NoText) (.ref c_NoCount) = some false
  i_NoText_NoForm : PySem.W.kitOne K (.ref c_NoText) (.ref c_NoForm) = some false
  i_NoText_NoModulus : PySem.W.kitOne K (.ref c_NoText) (.ref c_NoModulus) = some false
  i_NoText_NoPaper : PySem.W.kitOne K (.ref c_NoText) (.ref c_NoPaper) = some false
  i_NoText_NoText : PySem.W.kitOne K (.ref c_NoText) (.ref c_NoText) = some true
  i_NoText_NoneYet : PySem.W.kitOne K (.ref c_NoText) (.ref c_NoneYet) = some false
  i_NoText_TooMany : PySem.W.kitOne K (.ref c_NoText) (.ref c_TooMany) = some false
  i_NoText_ValueError : PySem.W.kitOne K (.ref c_NoText) (.type "ValueError") = some true
  v_FIGURES : ∃ t, mg "FIGURES" = some (.str "0123456789" t)
  v_MOST_FIGURES : ∃ t, mg "MOST_FIGURES" = some (.int 30 t)
  b_ValueError : mg "ValueError" = none
  b_bool : mg "bool" = none
  b_int : mg "int" = none
  b_isinstance : mg "isinstance" = none
  b_len : mg "len" = none
  b_list : mg "list" = none
  b_max : mg "max" = none
  b_min : mg "min" = none
  b_range : mg "range" = none
  b_str : mg "str" = none
  b_tuple : mg "tuple" = none
  b_zip : mg "zip" = none
abbrev N_q_stir : List Str := ["cell", "k", "number"]
theorem sc_q_stir : FnScope N_q_stir ["cell", "k"] (defScope s__law_stir) := ⟨rfl, rfl, rfl, by decide +kernel, rfl, by decide +kernel, by decide +kernel⟩
theorem sl_q_stir_cell {P : Program} {w : World} {K : PySem.W.Frag} {mg : Str → Option Value} {base : Heap} {f : Addr} {cdv : Value} {A : Around} {outer : List Env} {s : Shared} {H : Hp} {E : XK} : Sl (cxOf (L2.CX P w) P w K mg base N_q_stir "_law_stir" (defScope s__law_stir) f cdv A outer s H E) 0 "cell" := ⟨rfl, (by first | exact .inl rfl | exact .inr (.inl rfl)), nm_cell⟩
theorem sl_q_stir_k {P : Program} {w : World} {K : PySem.W.Frag} {mg : Str → Option Value} {base : Heap} {f : Addr} {cdv : Value} {A : Around} {outer : List Env} {s : Shared} {H : Hp} {E : XK} : Sl (cxOf (L2.CX P w) P w K mg base N_q_stir "_law_stir" (defScope s__law_stir) f cdv A outer s H E) 1 "k" := ⟨rfl, (by first | exact .inl rfl | exact .inr (.inl rfl)), nm_k⟩
theorem sl_q_stir_number {P : Program} {w : World} {K : PySem.W.Frag} {mg : Str → Option Value} {base : Heap} {f : Addr} {cdv : Value} {A : Around} {outer : List Env} {s : Shared} {H : Hp} {E : XK} : Sl (cxOf (L2.CX P w) P w K mg base N_q_stir "_law_stir" (defScope s__law_stir) f cdv A outer s H E) 2 "number" := ⟨rfl, (by first | exact .inl rfl | exact .inr (.inl rfl)), nm_number⟩
theorem ss_q_stir_number {P : Program} {w : World} {K : PySem.W.Frag} {mg : Str → Option Value} {base : Heap} {f : Addr} {cdv : Value} {A : Around} {outer : List Env} {s : Shared} {H : Hp} {E : XK} : Ss (cxOf (L2.CX P w) P w K mg base N_q_stir "_law_stir" (defScope s__law_stir) f cdv A outer s H E) 2 "number" := ⟨rfl, (by first | exact .inl rfl | exact .inr rfl), .inl rfl⟩
theorem cal_q_stir {P : Program} {w : World} {K : PySem.W.Frag} {mg : Str → Option Value} {base : Heap} {f : Addr} {fd : FuncData} {c_RestError c_NoModulus c_NoCount c_NoPaper c_TooMany c_NoText c_NoForm c_NoneYet : Addr} (T : Txt K mg c_RestError c_NoModulus c_NoCount c_NoPaper c_TooMany c_NoText c_NoForm c_NoneYet) (F : Fun K "_law_stir" "_law_stir" s__law_stir f fd) (hm : mg "_law_stir" = some (.ref f)) (hb : Binds K fd ["cell", "k"] [])  : Cal P w K mg base 1 "_law_stir" (Sp2 K false (fun (cell : Int) (k : Int) => 0 ≤ k) m_q_stir) := by
  refine fn2 F hm hb sc_q_stir rfl fun cdv A outer s H0 E hr G0 v_cell v_k cell k D s0 r_cell r_k hp fin => ?_
  have x0_0 : Ext G0 H0 G0 H0 := Ext.refl s0
  show tSs _ _ D [some v_cell, some v_k, none] H0
  have tk : m_q_stir cell k = _ := rfl
  refine b_cons (s_if x0_0.s (et_cmp c_ge (ev_v (sl_q_stir_cell) r_cell) (Ev.to (y := (1000000000000000000 : Int)) (ev_bin (b_pow (by walk_at "pw")) ev_int ev_int) (by decide))) (fun h1 G1 H1 x2 l1 => ?_) (fun h1 G1 H1 x2 l1 => ?_))
  · have tk := tk_tt tk h1
    have h1_ := h1; try simp only [Bool.and_eq_true, Bool.or_eq_true, Bool.and_eq_false_iff, Bool.or_eq_false_iff, Bool.not_eq_true', Bool.not_eq_false', decide_eq_true_eq, decide_eq_false_iff_not, Classical.not_not] at h1_
    have x0_1 := x0_0.trans x2
    show tSs _ _ _ [some v_cell, some v_k, none] _
    refine b_cons (s_ret x0_1.s (ev_bin (b_mod (by walk_at "sc")) (ev_bin (b_shr (by walk_at "sc")) (ev_bin b_sub (ev_v (sl_q_stir_cell) (up x2.g r_cell)) (Ev.to (y := (1000000000000000000 : Int)) (ev_bin (b_pow (by walk_at "pw")) ev_int ev_int) (by decide))) (ev_bin (b_mul (by walk_at "mu")) ev_int (ev_v (sl_q_stir_k) (up x2.g r_k)))) ev_int) fun G_ H_ v4 x3 _ r_ => ?_)
    exact fin.rt _ _ _ (x0_1.trans x3) (rep_of tk r_) (fun z => nomatch z)
  · have tk := tk_ff tk h1
    have h1_ := h1; try simp only [Bool.and_eq_true, Bool.or_eq_true, Bool.and_eq_false_iff, Bool.or_eq_false_iff, Bool.not_eq_true', Bool.not_eq_false', decide_eq_true_eq, decide_eq_false_iff_not, Classical.not_not] at h1_
    have x0_1 := x0_0.trans x2
    show tSs _ _ _ [some v_cell, some v_k, none] _
    refine b_nil ?_
    show tSs _ _ _ [some v_cell, some v_k, none] _
    refine b_cons (s_set sc_q_stir.nd ss_q_stir_number x0_1.s (ev_bin (b_mod (by walk_at "sc")) (ev_bin (b_mul (by walk_at "mu")) (ev_bin b_add (ev_bin b_add (ev_bin (b_mod (by walk_at "sc")) (ev_v (sl_q_stir_cell) (up x2.g r_cell)) ev_int) (ev_bin (b_mul (by walk_at "mu")) ev_int (ev_v (sl_q_stir_k) (up x2.g r_k)))) ev_int) ev_int) ev_int) fun G2 H2 v2_number x5 l2 r2_number => ?_)
    have x0_2 := x0_1.trans x5
    show tSs _ _ _ [some v_cell, some v_k, some v2_number] _
    obtain ⟨number, e6⟩ : ∃ z, z = (((((cell % (2147483629 : Int)) + ((1013 : Int) * k)) + (1 : Int)) * (16807 : Int)) % (2147483647 : Int)) := ⟨_, rfl⟩
    rw [← e6] at r2_number
    have tk : _ = m_q_stir_1 number := tk.trans (by first | (rw [e6] <;> rfl) | rfl)
    refine b_cons (s_set sc_q_stir.nd ss_q_stir_number x0_2.s (ev_bin (b_mod (by walk_at "sc")) (ev_bin (b_mul (by walk_at "mu")) (ev_v (sl_q_stir_number) r2_number) (ev_v (sl_q_stir_number) r2_number)) ev_int) fun G3 H3 v3_number x7 l3 r3_number => ?_)
    have x0_3 := x0_2.trans x7
    show tSs _ _ _ [some v_cell, some v_k, some v3_number] _
    obtain ⟨number, e8⟩ : ∃ z, z = ((number * number) % (2147483629 : Int)) := ⟨_, rfl⟩
    rw [← e8] at r3_number
    have tk : _ = m_q_stir_2 number := tk.trans (by first | (rw [e8] <;> rfl) | rfl)
    refine b_cons (s_ret x0_3.s (ev_bin (b_div ⟨(by walk_at "sc"), (by walk_at "sc")⟩) (ev_bin (b_mod (by walk_at "sc")) (ev_bin (b_mul (by walk_at "mu")) (ev_v (sl_q_stir_number) r3_number) ev_int) ev_int) ev_int) fun G_ H_ v10 x9 _ r_ => ?_)
    exact fin.rt _ _ _ (x0_3.trans x9) (rep_of tk r_) (fun z => nomatch z)

abbrev N_q_cells : List Str := ["script", "many"]
theorem sc_q_cells : FnScope N_q_cells ["script", "many"] (defScope s__law_cells) := ⟨rfl, rfl, rfl, by decide +kernel, rfl, by decide +kernel, by decide +kernel⟩
theorem sl_q_cells_many {P : Program} {w : World} {K : PySem.W.Frag} {mg : Str → Option Value} {base : Heap} {f : Addr} {cdv : Value} {A : Around} {outer : List Env} {s : Shared} {H : Hp} {E : XK} : Sl (cxOf (L2.CX P w) P w K mg base N_q_cells "_law_cells" (defScope s__law_cells) f cdv A outer s H E) 1 "many" := ⟨rfl, (by first | exact .inl rfl | exact .inr (.inl rfl)), nm_many⟩
theorem sl_q_cells_script {P : Program} {w : World} {K : PySem.W.Frag} {mg : Str → Option Value} {base : Heap} {f : Addr} {cdv : Value} {A : Around} {outer : List Env} {s : Shared} {H : Hp} {E : XK} : Sl (cxOf (L2.CX P w) P w K mg base N_q_cells "_law_cells" (defScope s__law_cells) f cdv A outer s H E) 0 "script" := ⟨rfl, (by first | exact .inl rfl | exact .inr (.inl rfl)), nm_script⟩
theorem gl_q_cells_len {P : Program} {w : World} {K : PySem.W.Frag} {mg : Str → Option Value} {base : Heap} {f : Addr} {cdv : Value} {A : Around} {outer : List Env} {s : Shared} {H : Hp} {E : XK} : Gl (cxOf (L2.CX P w) P w K mg base N_q_cells "_law_cells" (defScope s__law_cells) f cdv A outer s H E) "len" := by rfl
theorem gl_q_cells_max {P : Program} {w : World} {K : PySem.W.Frag} {mg : Str → Option Value} {base : Heap} {f : Addr} {cdv : Value} {A : Around} {outer : List Env} {s : Shared} {H : Hp} {E : XK} : Gl (cxOf (L2.CX P w) P w K mg base N_q_cells "_law_cells" (defScope s__law_cells) f cdv A outer s H E) "max" := by rfl
theorem gl_q_cells_min {P : Program} {w : World} {K : PySem.W.Frag} {mg : Str → Option Value} {base : Heap} {f : Addr} {cdv : Value} {A : Around} {outer : List Env} {s : Shared} {H : Hp} {E : XK} : Gl (cxOf (L2.CX P w) P w K mg base N_q_cells "_law_cells" (defScope s__law_cells) f cdv A outer s H E) "min" := by rfl
theorem cal_q_cells {P : Program} {w : World} {K : PySem.W.Frag} {mg : Str → Option Value} {base : Heap} {f : Addr} {fd : FuncData} {c_RestError c_NoModulus c_NoCount c_NoPaper c_TooMany c_NoText c_NoForm c_NoneYet : Addr} (T : Txt K mg c_RestError c_NoModulus c_NoCount c_NoPaper c_TooMany c_NoText c_NoForm c_NoneYet) (F : Fun K "_law_cells" "_law_cells" s__law_cells f fd) (hm : mg "_law_cells" = some (.ref f)) (hb : Binds K fd ["script", "many"] [])  : Cal P w K mg base 1 "_law_cells" (Sp2 K true (fun (script : Scr) (many : Int) => script.ns.length ≤ 63 ∧ 0 ≤ many ∧ many ≤ 63) m_q_cells) := by
  refine fn2 F hm hb sc_q_cells rfl fun cdv A outer s H0 E hr G0 v_script v_many script many D s0 r_script r_many hp fin => ?_
  have x0_0 : Ext G0 H0 G0 H0 := Ext.refl s0
  show tSs _ _ D [some v_script, some v_many] H0
  have hpc := hp; obtain ⟨hp_0, hp_1, hp_2⟩ := hpc
  have tk : m_q_cells script many = _ := rfl
  refine b_cons (s_retN_ x0_0.s (evN_sl (ev_cat (by have := cut_le script.ns none (some many); walk_at "sz") (ev_sl (ev_v (sl_q_cells_script) r_script) eo_none (eo_some (ev_v (sl_q_cells_many) r_many))) (ev_list (es_cons ev_int es_nil))) eo_none (eo_some (ev_max ⟨gl_q_cells_max, T.b_max⟩ rfl ev_int (ev_min ⟨gl_q_cells_min, T.b_min⟩ rfl (ev_v (sl_q_cells_many) r_many) (ev_len ⟨gl_q_cells_len, T.b_len⟩ (ev_v (sl_q_cells_script) r_script)))))) fun G_ H_ v2 x1 _ r_ n_ => ?_)
  exact fin.rt _ _ _ (x0_0.trans x1) (rep_of tk r_) (fun _ p z => x0_0.h.free (n_ p z))

abbrev N_q_modulus : List Str := ["cell", "one"]
theorem sc_q_modulus : FnScope N_q_modulus ["cell"] (defScope s__law_modulus) := ⟨rfl, rfl, rfl, by decide +kernel, rfl, by decide +kernel, by decide +kernel⟩
theorem sl_q_modulus_cell {P : Program} {w : World} {K : PySem.W.Frag} {mg : Str → Option Value} {base : Heap} {f : Addr} {cdv : Value} {A : Around} {outer : List Env} {s : Shared} {H : Hp} {E : XK} : Sl (cxOf (L2.CX P w) P w K mg base N_q_modulus "_law_modulus" (defScope s__law_modulus) f cdv A outer s H E) 0 "cell" := ⟨rfl, (by first | exact .inl rfl | exact .inr (.inl rfl)), nm_cell⟩
theorem sl_q_modulus_one {P : Program} {w : World} {K : PySem.W.Frag} {mg : Str → Option Value} {base : Heap} {f : Addr} {cdv : Value} {A : Around} {outer : List Env} {s : Shared} {H : Hp} {E : XK} : Sl (cxOf (L2.CX P w) P w K mg base N_q_modulus "_law_modulus" (defScope s__law_modulus) f cdv A outer s H E) 1 "one" := ⟨rfl, (by first | exact .inl rfl | exact .inr (.inl rfl)), nm_one⟩
theorem ss_q_modulus_one {P : Program} {w : World} {K : PySem.W.Frag} {mg : Str → Option Value} {base : Heap} {f : Addr} {cdv : Value} {A : Around} {outer : List Env} {s : Shared} {H : Hp} {E : XK} : Ss (cxOf (L2.CX P w) P w K mg base N_q_modulus "_law_modulus" (defScope s__law_modulus) f cdv A outer s H E) 1 "one" := ⟨rfl, (by first | exact .inl rfl | exact .inr rfl), .inl rfl⟩
theorem gl_q_modulus__law_stir {P : Program} {w : World} {K : PySem.W.Frag} {mg : Str → Option Value} {base : Heap} {f : Addr} {cdv : Value} {A : Around} {outer : List Env} {s : Shared} {H : Hp} {E : XK} : Gl (cxOf (L2.CX P w) P w K mg base N_q_modulus "_law_modulus" (defScope s__law_modulus) f cdv A outer s H E) "_law_stir" := by rfl
theorem cal_q_modulus {P : Program} {w : World} {K : PySem.W.Frag} {mg : Str → Option Value} {base : Heap} {f : Addr} {fd : FuncData} {c_RestError c_NoModulus c_NoCount c_NoPaper c_TooMany c_NoText c_NoForm c_NoneYet : Addr} (T : Txt K mg c_RestError c_NoModulus c_NoCount c_NoPaper c_TooMany c_NoText c_NoForm c_NoneYet) (F : Fun K "_law_modulus" "_law_modulus" s__law_modulus f fd) (hm : mg "_law_modulus" = some (.ref f)) (hb : Binds K fd ["cell"] []) (C_q_stir : Cal P w K mg base 1 "_law_stir" (Sp2 K false (fun (cell : Int) (k : Int) => 0 ≤ k) m_q_stir)) : Cal P w K mg base 2 "_law_modulus" (Sp1 K false (fun (cell : Int) => True) m_q_modulus) := by
  refine fn1 F hm hb sc_q_modulus rfl fun cdv A outer s H0 E hr G0 v_cell cell D s0 r_cell hp fin => ?_
  have x0_0 : Ext G0 H0 G0 H0 := Ext.refl s0
  show tSs _ _ D [some v_cell, none] H0
  have tk : m_q_modulus cell = _ := rfl
  have fc1 := post_q_stir cell (1 : Int) (by walk_at "pre")
  refine b_cons (s_set sc_q_modulus.nd ss_q_modulus_one x0_0.s (ev_c2 C_q_stir (hr.mono (by decide)) gl_q_modulus__law_stir (ev_v (sl_q_modulus_cell) r_cell) ev_int (by walk_at "pre")) fun G1 H1 v1_one x2 l1 r1_one => ?_)
  have x0_1 := x0_0.trans x2
  show tSs _ _ _ [some v_cell, some v1_one] _
  obtain ⟨one, e3⟩ : ∃ z, z = (m_q_stir cell (1 : Int)) := ⟨_, rfl⟩
  rw [← e3] at r1_one
  have tk : _ = m_q_modulus_1 cell one := tk.trans (by first | (rw [e3] <;> rfl) | rfl)
  have p_e3 := post_q_stir cell (1 : Int) (by walk_at "pre"); rw [← e3] at p_e3; (try simp only [rep_len, rep_len2] at p_e3)
  refine b_cons (s_ret x0_1.s (ev_ix (0 : Int) (ev_list (es_cons ev_int (es_cons (ev_bin b_add ev_int (ev_bin (b_mod (by walk_at "sc")) (ev_v (sl_q_modulus_one) r1_one) ev_int)) (es_cons (ev_bin b_add ev_int (ev_bin (b_mod (by walk_at "sc")) (ev_v (sl_q_modulus_one) r1_one) ev_int)) (es_cons (ev_bin b_add ev_int (ev_bin (b_mod (by walk_at "sc")) (ev_v (sl_q_modulus_one) r1_one) ev_int)) (es_cons (ev_bin b_sub ev_int (ev_bin (b_mod (by walk_at "sc")) (ev_v (sl_q_modulus_one) r1_one) ev_int)) es_nil)))))) (ev_bin (b_mod (by walk_at "sc")) (ev_c2 C_q_stir (hr.mono (by decide)) gl_q_modulus__law_stir (ev_v (sl_q_modulus_cell) (up x2.g r_cell)) ev_int (by walk_at "pre")) ev_int) (by walk_at "sc") (by have := post_q_stir cell (0 : Int) (by walk_at "pre"); walk_at "ix")) fun G_ H_ v5 x4 _ r_ => ?_)
  exact fin.rt _ _ _ (x0_1.trans x4) (rep_of tk r_) (fun z => nomatch z)

abbrev N_q_row : List Str := ["cell", "modulus", "most", "many", "kind", "found", "k", "one", "two", "far", "some"]
theorem sc_q_row : FnScope N_q_row ["cell", "modulus", "most"] (defScope s__law_row) := ⟨rfl, rfl, rfl, by decide +kernel, rfl, by decide +kernel, by decide +kernel⟩
theorem sl_q_row_cell {P : Program} {w : World} {K : PySem.W.Frag} {mg : Str → Option Value} {base : Heap} {f : Addr} {cdv : Value} {A : Around} {outer : List Env} {s : Shared} {H : Hp} {E : XK} : Sl (cxOf (L2.CX P w) P w K mg base N_q_row "_law_row" (defScope s__law_row) f cdv A outer s H E) 0 "cell" := ⟨rfl, (by first | exact .inl rfl | exact .inr (.inl rfl)), nm_cell⟩
theorem sl_q_row_far {P : Program} {w : World} {K : PySem.W.Frag} {mg : Str → Option Value} {base : Heap} {f : Addr} {cdv : Value} {A : Around} {outer : List Env} {s : Shared} {H : Hp} {E : XK} : Sl (cxOf (L2.CX P w) P w K mg base N_q_row "_law_row" (defScope s__law_row) f cdv A outer s H E) 9 "far" := ⟨rfl, (by first | exact .inl rfl | exact .inr (.inl rfl)), nm_far⟩
theorem sl_q_row_found {P : Program} {w : World} {K : PySem.W.Frag} {mg : Str → Option Value} {base : Heap} {f : Addr} {cdv : Value} {A : Around} {outer : List Env} {s : Shared} {H : Hp} {E : XK} : Sl (cxOf (L2.CX P w) P w K mg base N_q_row "_law_row" (defScope s__law_row) f cdv A outer s H E) 5 "found" := ⟨rfl, (by first | exact .inl rfl | exact .inr (.inl rfl)), nm_found⟩
theorem sl_q_row_k {P : Program} {w : World} {K : PySem.W.Frag} {mg : Str → Option Value} {base : Heap} {f : Addr} {cdv : Value} {A : Around} {outer : List Env} {s : Shared} {H : Hp} {E : XK} : Sl (cxOf (L2.CX P w) P w K mg base N_q_row "_law_row" (defScope s__law_row) f cdv A outer s H E) 6 "k" := ⟨rfl, (by first | exact .inl rfl | exact .inr (.inl rfl)), nm_k⟩
theorem sl_q_row_kind {P : Program} {w : World} {K : PySem.W.Frag} {mg : Str → Option Value} {base : Heap} {f : Addr} {cdv : Value} {A : Around} {outer : List Env} {s : Shared} {H : Hp} {E : XK} : Sl (cxOf (L2.CX P w) P w K mg base N_q_row "_law_row" (defScope s__law_row) f cdv A outer s H E) 4 "kind" := ⟨rfl, (by first | exact .inl rfl | exact .inr (.inl rfl)), nm_kind⟩
theorem sl_q_row_many {P : Program} {w : World} {K : PySem.W.Frag} {mg : Str → Option Value} {base : Heap} {f : Addr} {cdv : Value} {A : Around} {outer : List Env} {s : Shared} {H : Hp} {E : XK} : Sl (cxOf (L2.CX P w) P w K mg base N_q_row "_law_row" (defScope s__law_row) f cdv A outer s H E) 3 "many" := ⟨rfl, (by first | exact .inl rfl | exact .inr (.inl rfl)), nm_many⟩
theorem sl_q_row_modulus {P : Program} {w : World} {K : PySem.W.Frag} {mg : Str → Option Value} {base : Heap} {f : Addr} {cdv : Value} {A : Around} {outer : List Env} {s : Shared} {H : Hp} {E : XK} : Sl (cxOf (L2.CX P w) P w K mg base N_q_row "_law_row" (defScope s__law_row) f cdv A outer s H E) 1 "modulus" := ⟨rfl, (by first | exact .inl rfl | exact .inr (.inl rfl)), nm_modulus⟩
theorem sl_q_row_most {P : Program} {w : World} {K : PySem.W.Frag} {mg : Str → Option Value} {base : Heap} {f : Addr} {cdv : Value} {A : Around} {outer : List Env} {s : Shared} {H : Hp} {E : XK} : Sl (cxOf (L2.CX P w) P w K mg base N_q_row "_law_row" (defScope s__law_row) f cdv A outer s H E) 2 "most" := ⟨rfl, (by first | exact .inl rfl | exact .inr (.inl rfl)), nm_most⟩
theorem sl_q_row_one {P : Program} {w : World} {K : PySem.W.Frag} {mg : Str → Option Value} {base : Heap} {f : Addr} {cdv : Value} {A : Around} {outer : List Env} {s : Shared} {H : Hp} {E : XK} : Sl (cxOf (L2.CX P w) P w K mg base N_q_row "_law_row" (defScope s__law_row) f cdv A outer s H E) 7 "one" := ⟨rfl, (by first | exact .inl rfl | exact .inr (.inl rfl)), nm_one⟩
theorem sl_q_row_some_ {P : Program} {w : World} {K : PySem.W.Frag} {mg : Str → Option Value} {base : Heap} {f : Addr} {cdv : Value} {A : Around} {outer : List Env} {s : Shared} {H : Hp} {E : XK} : Sl (cxOf (L2.CX P w) P w K mg base N_q_row "_law_row" (defScope s__law_row) f cdv A outer s H E) 10 "some" := ⟨rfl, (by first | exact .inl rfl | exact .inr (.inl rfl)), nm_some_⟩
theorem sl_q_row_two {P : Program} {w : World} {K : PySem.W.Frag} {mg : Str → Option Value} {base : Heap} {f : Addr} {cdv : Value} {A : Around} {outer : List Env} {s : Shared} {H : Hp} {E : XK} : Sl (cxOf (L2.CX P w) P w K mg base N_q_row "_law_row" (defScope s__law_row) f cdv A outer s H E) 8 "two" := ⟨rfl, (by first | exact .inl rfl | exact .inr (.inl rfl)), nm_two⟩
theorem ss_q_row_many {P : Program} {w : World} {K : PySem.W.Frag} {mg : Str → Option Value} {base : Heap} {f : Addr} {cdv : Value} {A : Around} {outer : List Env} {s : Shared} {H : Hp} {E : XK} : Ss (cxOf (L2.CX P w) P w K mg base N_q_row "_law_row" (defScope s__law_row) f cdv A outer s H E) 3 "many" := ⟨rfl, (by first | exact .inl rfl | exact .inr rfl), .inl rfl⟩
theorem ss_q_row_kind {P : Program} {w : World} {K : PySem.W.Frag} {mg : Str → Option Value} {base : Heap} {f : Addr} {cdv : Value} {A : Around} {outer : List Env} {s : Shared} {H : Hp} {E : XK} : Ss (cxOf (L2.CX P w) P w K mg base N_q_row "_law_row" (defScope s__law_row) f cdv A outer s H E) 4 "kind" := ⟨rfl, (by first | exact .inl rfl | exact .inr rfl), .inl rfl⟩
theorem ss_q_row_found {P : Program} {w : World} {K : PySem.W.Frag} {mg : Str → Option Value} {base : Heap} {f : Addr} {cdv : Value} {A : Around} {outer : List Env} {s : Shared} {H : Hp} {E : XK} : Ss (cxOf (L2.CX P w) P w K mg base N_q_row "_law_row" (defScope s__law_row) f cdv A outer s H E) 5 "found" := ⟨rfl, (by first | exact .inl rfl | exact .inr rfl), .inl rfl⟩
theorem ss_q_row_k {P : Program} {w : World} {K : PySem.W.Frag} {mg : Str → Option Value} {base : Heap} {f : Addr} {cdv : Value} {A : Around} {outer : List Env} {s : Shared} {H : Hp} {E : XK} : Ss (cxOf (L2.CX P w) P w K mg base N_q_row "_law_row" (defScope s__law_row) f cdv A outer s H E) 6 "k" := ⟨rfl, (by first | exact .inl rfl | exact .inr rfl), .inl rfl⟩
theorem ss_q_row_one {P : Program} {w : World} {K : PySem.W.Frag} {mg : Str → Option Value} {base : Heap} {f : Addr} {cdv : Value} {A : Around} {outer : List Env} {s : Shared} {H : Hp} {E : XK} : Ss (cxOf (L2.CX P w) P w K mg base N_q_row "_law_row" (defScope s__law_row) f cdv A outer s H E) 7 "one" := ⟨rfl, (by first | exact .inl rfl | exact .inr rfl), .inl rfl⟩
theorem ss_q_row_two {P : Program} {w : World} {K : PySem.W.Frag} {mg : Str → Option Value} {base : Heap} {f : Addr} {cdv : Value} {A : Around} {outer : List Env} {s : Shared} {H : Hp} {E : XK} : Ss (cxOf (L2.CX P w) P w K mg base N_q_row "_law_row" (defScope s__law_row) f cdv A outer s H E) 8 "two" := ⟨rfl, (by first | exact .inl rfl | exact .inr rfl), .inl rfl⟩
theorem ss_q_row_far {P : Program} {w : World} {K : PySem.W.Frag} {mg : Str → Option Value} {base : Heap} {f : Addr} {cdv : Value} {A : Around} {outer : List Env} {s : Shared} {H : Hp} {E : XK} : Ss (cxOf (L2.CX P w) P w K mg base N_q_row "_law_row" (defScope s__law_row) f cdv A outer s H E) 9 "far" := ⟨rfl, (by first | exact .inl rfl | exact .inr rfl), .inl rfl⟩
theorem ss_q_row_some_ {P : Program} {w : World} {K : PySem.W.Frag} {mg : Str → Option Value} {base : Heap} {f : Addr} {cdv : Value} {A : Around} {outer : List Env} {s : Shared} {H : Hp} {E : XK} : Ss (cxOf (L2.CX P w) P w K mg base N_q_row "_law_row" (defScope s__law_row) f cdv A outer s H E) 10 "some" := ⟨rfl, (by first | exact .inl rfl | exact .inr rfl), .inl rfl⟩
theorem gl_q_row__law_stir {P : Program} {w : World} {K : PySem.W.Frag} {mg : Str → Option Value} {base : Heap} {f : Addr} {cdv : Value} {A : Around} {outer : List Env} {s : Shared} {H : Hp} {E : XK} : Gl (cxOf (L2.CX P w) P w K mg base N_q_row "_law_row" (defScope s__law_row) f cdv A outer s H E) "_law_stir" := by rfl
theorem gl_q_row_int {P : Program} {w : World} {K : PySem.W.Frag} {mg : Str → Option Value} {base : Heap} {f : Addr} {cdv : Value} {A : Around} {outer : List Env} {s : Shared} {H : Hp} {E : XK} : Gl (cxOf (L2.CX P w) P w K mg base N_q_row "_law_row" (defScope s__law_row) f cdv A outer s H E) "int" := by rfl
theorem gl_q_row_min {P : Program} {w : World} {K : PySem.W.Frag} {mg : Str → Option Value} {base : Heap} {f : Addr} {cdv : Value} {A : Around} {outer : List Env} {s : Shared} {H : Hp} {E : XK} : Gl (cxOf (L2.CX P w) P w K mg base N_q_row "_law_row" (defScope s__law_row) f cdv A outer s H E) "min" := by rfl
theorem gl_q_row_range {P : Program} {w : World} {K : PySem.W.Frag} {mg : Str → Option Value} {base : Heap} {f : Addr} {cdv : Value} {A : Around} {outer : List Env} {s : Shared} {H : Hp} {E : XK} : Gl (cxOf (L2.CX P w) P w K mg base N_q_row "_law_row" (defScope s__law_row) f cdv A outer s H E) "range" := by rfl
theorem cal_q_row {P : Program} {w : World} {K : PySem.W.Frag} {mg : Str → Option Value} {base : Heap} {f : Addr} {fd : FuncData} {c_RestError c_NoModulus c_NoCount c_NoPaper c_TooMany c_NoText c_NoForm c_NoneYet : Addr} (T : Txt K mg c_RestError c_NoModulus c_NoCount c_NoPaper c_TooMany c_NoText c_NoForm c_NoneYet) (F : Fun K "_law_row" "_law_row" s__law_row f fd) (hm : mg "_law_row" = some (.ref f)) (hb : Binds K fd ["cell", "modulus", "most"] []) (C_q_stir : Cal P w K mg base 1 "_law_stir" (Sp2 K false (fun (cell : Int) (k : Int) => 0 ≤ k) m_q_stir)) : Cal P w K mg base 2 "_law_row" (Sp3 K true (fun (cell : Int) (modulus : Int) (most : Int) => 1 ≤ modulus ∧ modulus ≤ 60 ∧ 0 ≤ most ∧ most ≤ 40) m_q_row) := by
  refine fn3 F hm hb sc_q_row rfl fun cdv A outer s H0 E hr G0 v_cell v_modulus v_most cell modulus most D s0 r_cell r_modulus r_most hp fin => ?_
  have x0_0 : Ext G0 H0 G0 H0 := Ext.refl s0
  show tSs _ _ D [some v_cell, some v_modulus, some v_most, none, none, none, none, none, none, none, none] H0
  have hpc := hp; obtain ⟨hp_0, hp_1, hp_2, hp_3⟩ := hpc
  have tk : m_q_row cell modulus most = _ := rfl
  have fc1 := post_q_stir cell (2 : Int) (by walk_at "pre")
  have fc2 := post_q_stir cell (3 : Int) (by walk_at "pre")
  refine b_cons (s_set sc_q_row.nd ss_q_row_many x0_0.s (ev_ix (0 : Int) (ev_list (es_cons (ev_bin (b_mod (by walk_at "sc")) (ev_c2 C_q_stir (hr.mono (by decide)) gl_q_row__law_stir (ev_v (sl_q_row_cell) r_cell) ev_int (by walk_at "pre")) ev_int) (es_cons (ev_bin (b_mod (by walk_at "sc")) (ev_c2 C_q_stir (hr.mono (by decide)) gl_q_row__law_stir (ev_v (sl_q_row_cell) r_cell) ev_int (by walk_at "pre")) (ev_bin b_add (ev_v (sl_q_row_most) r_most) ev_int)) (es_cons (ev_v (sl_q_row_most) r_most) es_nil)))) (ev_bin (b_mod (by walk_at "sc")) (ev_c2 C_q_stir (hr.mono (by decide)) gl_q_row__law_stir (ev_v (sl_q_row_cell) r_cell) ev_int (by walk_at "pre")) ev_int) (by walk_at "sc") (by have := post_q_stir cell (2 : Int) (by walk_at "pre"); have := post_q_stir cell (2 : Int) (by walk_at "pre"); have := post_q_stir cell (3 : Int) (by walk_at "pre"); walk_at "ix")) fun G1 H1 v1_many x3 l1 r1_many => ?_)
  have x0_1 := x0_0.trans x3
  show tSs _ _ _ [some v_cell, some v_modulus, some v_most, some v1_many, none, none, none, none, none, none, none] _
  obtain ⟨many, e4⟩ : ∃ z, z = ((([((m_q_stir cell (2 : Int)) % (5 : Int)), ((m_q_stir cell (2 : Int)) % (most + (1 : Int))), most] : List Int)).getD (((m_q_stir cell (3 : Int)) % (3 : Int))).toNat (0 : Int)) := ⟨_, rfl⟩
  rw [← e4] at r1_many
  have tk : _ = m_q_row_1 cell modulus most many := tk.trans (by first | (rw [e4] <;> rfl) | rfl)
  have f_e4 : 0 ≤ many ∧ many ≤ 40 := by rw [e4]; have h1 := Int.emod_nonneg (m_q_stir cell 2) (show most + 1 ≠ 0 by omega); have h2 := Int.emod_lt_of_pos (m_q_stir cell 2) (show 0 < most + 1 by omega); exact getD_bd _ (by simp; omega) (by omega)
  have fc5 := post_q_stir cell (4 : Int) (by walk_at "pre")
  refine b_cons (s_set sc_q_row.nd ss_q_row_kind x0_1.s (ev_bin (b_mod (by walk_at "sc")) (ev_c2 C_q_stir (hr.mono (by decide)) gl_q_row__law_stir (ev_v (sl_q_row_cell) (up x3.g r_cell)) ev_int (by walk_at "pre")) ev_int) fun G2 H2 v2_kind x6 l2 r2_kind => ?_)
  have x0_2 := x0_1.trans x6
  show tSs _ _ _ [some v_cell, some v_modulus, some v_most, some v1_many, some v2_kind, none, none, none, none, none, none] _
  obtain ⟨kind, e7⟩ : ∃ z, z = ((m_q_stir cell (4 : Int)) % (7 : Int)) := ⟨_, rfl⟩
  rw [← e7] at r2_kind
  have tk : _ = m_q_row_2 cell modulus most many kind := tk.trans (by first | (rw [e7] <;> rfl) | rfl)
  have f_e7 : 0 ≤ kind ∧ kind < 7 := by rw [e7]; omega
  refine b_cons (s_nil (α := Int) sc_q_row.nd ss_q_row_found x0_2.s fun H3 q_found x8 l3 n_q_found o3_found => ?_)
  have x0_3 := x0_2.trans x8
  have m_q_found := x0_2.h.free n_q_found
  show tSs _ _ _ [some v_cell, some v_modulus, some v_most, some v1_many, some v2_kind, some (.ref q_found), none, none, none, none, none] _
  refine b_cons (s_for (T := (T1 K 6)) (passes_of rfl) rfl (pg_name (i := 6) sc_q_row.nd rfl ss_q_row_k.hx) acts1 x0_3.s (ei_range1 ⟨gl_q_row_range, T.b_range⟩ (ev_min ⟨gl_q_row_min, T.b_min⟩ rfl (ev_v (sl_q_row_most) (up (x3.g.trans (x6.g.trans (Same.refl _))) r_most)) (ev_v (sl_q_row_many) (up (x6.g.trans (Same.refl _)) r1_many))) (by walk_at "sc") (by walk_at "sc")) (fun rest σ G H => ∃ (found : (List Int)), lfold (m_q_row_3s cell modulus kind) rest found = lfold (m_q_row_3s cell modulus kind) (rng 0 (if many < most then many else most)) ([] : (List Int)) ∧ Ext G0 H0 G H ∧ ∃ (y1_6 y1_7 y1_8 y1_9 y1_10 : Option V), σ = [some v_cell, some v_modulus, some v_most, some v1_many, some v2_kind, some (.ref q_found), y1_6, y1_7, y1_8, y1_9, y1_10] ∧ Own K G H q_found found ∧ found.length + 1 * rest.length ≤ ([] : (List Int)).length + 1 * (rng 0 (if many < most then many else most)).length) (fun _ _ x => ⟨([] : (List Int)), rfl, x0_3.trans x, none, none, none, none, none, rfl, o3_found.mono x, by walk_at "inv0"⟩) ?_ ?_)
  · intro k rest σ1 G4 H4 G5 H5 σ2 hx1 sgA5 sh1 I_ x9 l5 hT
    obtain ⟨found, es1, x0_4, y1_6, y1_7, y1_8, y1_9, y1_10, rfl, o4_found, inv1_0⟩ := I_
    have x0_5 := x0_4.trans x9
    have o5_found := o4_found.mono x9
    obtain ⟨t1, rt1, rfl⟩ := hT
    have inv1_0_ := inv1_0; try simp only [List.length_cons, List.length_nil] at inv1_0_
    have mem1 := mem_of hx1.1
    have hlx1 := hx1.2; rw [sizeLine_eq] at hlx1
    have hlr1 := mem_len hx1.1
    have tk1 := tk
    have mem1_ := mem_rng.mp mem1
    have tk : m_q_row_3s cell modulus kind k found = _ := rfl
    show tSs _ _ _ [some v_cell, some v_modulus, some v_most, some v1_many, some v2_kind, some (.ref q_found), some t1, y1_7, y1_8, y1_9, y1_10] _
    have fc10 := post_q_stir cell ((10 : Int) + k) (by walk_at "pre")
    refine b_cons (s_set sc_q_row.nd ss_q_row_one x0_5.s (ev_c2 C_q_stir (hr.mono (by decide)) gl_q_row__law_stir (ev_v (sl_q_row_cell) (up (x3.g.trans (x6.g.trans ((Same.refl _).trans (sgA5.trans x9.g)))) r_cell)) (ev_bin b_add ev_int (ev_v (sl_q_row_k) rt1)) (by walk_at "pre")) fun G6 H6 v6_one x11 l6 r6_one => ?_)
    have x0_6 := x0_5.trans x11
    have o6_found := o5_found.mono x11
    show tSs _ _ _ [some v_cell, some v_modulus, some v_most, some v1_many, some v2_kind, some (.ref q_found), some t1, some v6_one, y1_8, y1_9, y1_10] _
    obtain ⟨one, e12⟩ : ∃ z, z = (m_q_stir cell ((10 : Int) + k)) := ⟨_, rfl⟩
    rw [← e12] at r6_one
    have tk : _ = m_q_row_5 cell modulus kind found k one := tk.trans (by first | (rw [e12] <;> rfl) | rfl)
    have p_e12 := post_q_stir cell ((10 : Int) + k) (by walk_at "pre"); rw [← e12] at p_e12; (try simp only [rep_len, rep_len2] at p_e12)
    have fc13 := post_q_stir cell ((60 : Int) + k) (by walk_at "pre")
    refine b_cons (s_set sc_q_row.nd ss_q_row_two x0_6.s (ev_c2 C_q_stir (hr.mono (by decide)) gl_q_row__law_stir (ev_v (sl_q_row_cell) (up (x3.g.trans (x6.g.trans ((Same.refl _).trans (sgA5.trans (x9.g.trans x11.g))))) r_cell)) (ev_bin b_add ev_int (ev_v (sl_q_row_k) (up x11.g rt1))) (by walk_at "pre")) fun G7 H7 v7_two x14 l7 r7_two => ?_)
    have x0_7 := x0_6.trans x14
    have o7_found := o6_found.mono x14
    show tSs _ _ _ [some v_cell, some v_modulus, some v_most, some v1_many, some v2_kind, some (.ref q_found), some t1, some v6_one, some v7_two, y1_9, y1_10] _
    obtain ⟨two, e15⟩ : ∃ z, z = (m_q_stir cell ((60 : Int) + k)) := ⟨_, rfl⟩
    rw [← e15] at r7_two
    have tk : _ = m_q_row_6 cell modulus kind found one two := tk.trans (by first | (rw [e15] <;> rfl) | rfl)
    have p_e15 := post_q_stir cell ((60 : Int) + k) (by walk_at "pre"); rw [← e15] at p_e15; (try simp only [rep_len, rep_len2] at p_e15)
    refine b_cons (s_set sc_q_row.nd ss_q_row_far x0_7.s (ev_bin (b_mul (by walk_at "mu")) (ev_bin b_sub (ev_bin (b_mul (by walk_at "mu")) (ev_bin (b_mod (by walk_at "sc")) (ev_v (sl_q_row_two) r7_two) ev_int) ev_int) ev_int) (ev_bin b_add (ev_bin (b_mul (by walk_at "mu")) (ev_v (sl_q_row_one) (up x14.g r6_one)) (Ev.to (y := (1000000000000000000000 : Int)) (ev_bin (b_pow (by walk_at "pw")) ev_int ev_int) (by decide))) (ev_v (sl_q_row_two) r7_two))) fun G8 H8 v8_far x16 l8 r8_far => ?_)
    have x0_8 := x0_7.trans x16
    have o8_found := o7_found.mono x16
    show tSs _ _ _ [some v_cell, some v_modulus, some v_most, some v1_many, some v2_kind, some (.ref q_found), some t1, some v6_one, some v7_two, some v8_far, y1_10] _
    obtain ⟨far, e17⟩ : ∃ z, z = ((((two % (2 : Int)) * (2 : Int)) - (1 : Int)) * ((one * (1000000000000000000000 : Int)) + two)) := ⟨_, rfl⟩
    rw [← e17] at r8_far
    have tk : _ = m_q_row_7 cell modulus kind found one two far := tk.trans (by first | (rw [e17] <;> rfl) | rfl)
    have fc18 := post_q_stir cell (10 : Int) (by walk_at "pre")
    refine b_cons (s_set sc_q_row.nd ss_q_row_some_ x0_8.s (ev_list (es_cons (ev_bin (b_mod (by walk_at "sc")) (ev_v (sl_q_row_one) (up (x14.g.trans x16.g) r6_one)) ev_int) (es_cons (ev_bin b_sub (ev_bin (b_mod (by walk_at "sc")) (ev_v (sl_q_row_one) (up (x14.g.trans x16.g) r6_one)) ev_int) ev_int) (es_cons (ev_v (sl_q_row_far) r8_far) (es_cons (ev_bin b_sub (ev_bin (b_mod (by walk_at "sc")) (ev_c2 C_q_stir (hr.mono (by decide)) gl_q_row__law_stir (ev_v (sl_q_row_cell) (up (x3.g.trans (x6.g.trans ((Same.refl _).trans (sgA5.trans (x9.g.trans (x11.g.trans (x14.g.trans x16.g))))))) r_cell)) ev_int (by walk_at "pre")) ev_int) ev_int) (es_cons (ev_bin (b_mod (by walk_at "sc")) (ev_v (sl_q_row_one) (up (x14.g.trans x16.g) r6_one)) (ev_v (sl_q_row_modulus) (up (x3.g.trans (x6.g.trans ((Same.refl _).trans (sgA5.trans (x9.g.trans (x11.g.trans (x14.g.trans x16.g))))))) r_modulus))) es_nil)))))) fun G9 H9 v9_some_ x19 l9 r9_some_ => ?_)
    have x0_9 := x0_8.trans x19
    have o9_found := o8_found.mono x19
    show tSs _ _ _ [some v_cell, some v_modulus, some v_most, some v1_many, some v2_kind, some (.ref q_found), some t1, some v6_one, some v7_two, some v8_far, some v9_some_] _
    obtain ⟨some_, e20⟩ : ∃ z, z = ([(one % (7 : Int)), ((one % (2001 : Int)) - (1000 : Int)), far, (((m_q_stir cell (10 : Int)) % (200 : Int)) - (99 : Int)), (one % modulus)] : List Int) := ⟨_, rfl⟩
    rw [← e20] at r9_some_
    have tk : _ = m_q_row_8 modulus kind found one two some_ := tk.trans (by first | (rw [e20] <;> rfl) | rfl)
    have g_e20 := congrArg List.length e20; try simp only [List.length_append, List.length_cons, List.length_nil, rng_len, List.length_map, List.length_reverse, psort_len, isort_len] at g_e20
    refine b_cons (s_set sc_q_row.nd ss_q_row_some_ x0_9.s (ev_cat (by walk_at "sz") (ev_v (sl_q_row_some_) r9_some_) (ev_list (es_cons (ev_bin b_add (ev_bin (b_mul (by walk_at "mu")) (ev_v (sl_q_row_modulus) (up (x3.g.trans (x6.g.trans ((Same.refl _).trans (sgA5.trans (x9.g.trans (x11.g.trans (x14.g.trans (x16.g.trans x19.g)))))))) r_modulus)) (ev_bin b_sub (ev_bin (b_mod (by walk_at "sc")) (ev_v (sl_q_row_two) (up (x16.g.trans x19.g) r7_two)) ev_int) ev_int)) (ev_bin (b_mod (by walk_at "sc")) (ev_v (sl_q_row_one) (up (x14.g.trans (x16.g.trans x19.g)) r6_one)) ev_int)) (es_cons (ev_bin b_add (ev_intB ⟨gl_q_row_int, T.b_int⟩ (ev_cmp c_gt (ev_bin (b_mod (by walk_at "sc")) (ev_v (sl_q_row_one) (up (x14.g.trans (x16.g.trans x19.g)) r6_one)) ev_int) ev_int)) (ev_bin (b_mul (by walk_at "mu")) (ev_v (sl_q_row_modulus) (up (x3.g.trans (x6.g.trans ((Same.refl _).trans (sgA5.trans (x9.g.trans (x11.g.trans (x14.g.trans (x16.g.trans x19.g)))))))) r_modulus)) (ev_bin (b_mod (by walk_at "sc")) (ev_v (sl_q_row_two) (up (x16.g.trans x19.g) r7_two)) ev_int))) es_nil)))) fun G10 H10 v10_some_ x21 l10 r10_some_ => ?_)
    have x0_10 := x0_9.trans x21
    have o10_found := o9_found.mono x21
    show tSs _ _ _ [some v_cell, some v_modulus, some v_most, some v1_many, some v2_kind, some (.ref q_found), some t1, some v6_one, some v7_two, some v8_far, some v10_some_] _
    obtain ⟨some_, e22⟩ : ∃ z, z = (some_ ++ ([((modulus * ((two % (1000 : Int)) - (500 : Int))) + (one % (3 : Int))), ((if (decide ((one % (8 : Int)) > (0 : Int))) = true then 1 else 0 : Int) + (modulus * (two % (5 : Int))))] : List Int)) := ⟨_, rfl⟩
    rw [← e22] at r10_some_
    have tk : _ = m_q_row_9 kind found some_ := tk.trans (by first | (rw [e22] <;> rfl) | rfl)
    have g_e22 := congrArg List.length e22; try simp only [List.length_append, List.length_cons, List.length_nil, rng_len, List.length_map, List.length_reverse, psort_len, isort_len] at g_e22
    refine b_cons (s_append (sl_q_row_found) x0_10.s o10_found (ev_ix (0 : Int) (ev_v (sl_q_row_some_) r10_some_) (ev_v (sl_q_row_kind) (up ((Same.refl _).trans (sgA5.trans (x9.g.trans (x11.g.trans (x14.g.trans (x16.g.trans (x19.g.trans x21.g))))))) r2_kind)) (by walk_at "sc") (by walk_at "ix")) (by walk_at "sz") fun G11 H11_ us24 x23 l11 o11_found => ?_)
    have x0_11 := (x0_10.trans x23).wr (o := .lst us24) m_q_found o11_found.off
    show tSs _ _ _ [some v_cell, some v_modulus, some v_most, some v1_many, some v2_kind, some (.ref q_found), some t1, some v6_one, some v7_two, some v8_far, some v10_some_] _
    refine b_nil ?_
    exact ⟨_, x11.g.trans (x14.g.trans (x16.g.trans (x19.g.trans (x21.g.trans x23.g)))), x0_11.s, (found ++ [((some_).getD (kind).toNat (0 : Int))]), lfold_nxt es1 tk, x0_11, some t1, some v6_one, some v7_two, some v8_far, some v10_some_, rfl, o11_found, by have hi := inv1_0; (try simp only [List.length_cons, List.length_nil, List.length_append, rng_len, enum_len] at hi ⊢); first | omega | walk_at "invx"⟩
  · intro σ1 G12 H12 sgC12 sh1 I_
    obtain ⟨found, es1, x0_12, y1_6, y1_7, y1_8, y1_9, y1_10, rfl, o12_found, inv1_0⟩ := I_
    have tk := tk_fold (k := m_q_row_4) tk es1
    have inv1_0_ := inv1_0; try simp only [List.length_cons, List.length_nil, rng_len, enum_len] at inv1_0_
    show tSs _ _ _ [some v_cell, some v_modulus, some v_most, some v1_many, some v2_kind, some (.ref q_found), y1_6, y1_7, y1_8, y1_9, y1_10] _
    obtain ⟨G13, x0_13, sg13, r13_found⟩ := o12_found.frz x0_12 m_q_found
    refine b_cons (s_retV (sl_q_row_found) x0_13.s ?_)
    exact fin.rt _ _ _ x0_13 (rep_of tk r13_found) (fun _ p z => by cases z; exact m_q_found)

abbrev N_number_in : List Str := ["word", "figures", "sign"]
theorem sc_number_in : FnScope N_number_in ["word"] (defScope s_number_in) := ⟨rfl, rfl, rfl, by decide +kernel, rfl, by decide +kernel, by decide +kernel⟩
theorem sl_number_in_figures {P : Program} {w : World} {K : PySem.W.Frag} {mg : Str → Option Value} {base : Heap} {f : Addr} {cdv : Value} {A : Around} {outer : List Env} {s : Shared} {H : Hp} {E : XK} : Sl (cxOf (L2.CX P w) P w K mg base N_number_in "number_in" (defScope s_number_in) f cdv A outer s H E) 1 "figures" := ⟨rfl, (by first | exact .inl rfl | exact .inr (.inl rfl)), nm_figures⟩
theorem sl_number_in_word {P : Program} {w : World} {K : PySem.W.Frag} {mg : Str → Option Value} {base : Heap} {f : Addr} {cdv : Value} {A : Around} {outer : List Env} {s : Shared} {H : Hp} {E : XK} : Sl (cxOf (L2.CX P w) P w K mg base N_number_in "number_in" (defScope s_number_in) f cdv A outer s H E) 0 "word" := ⟨rfl, (by first | exact .inl rfl | exact .inr (.inl rfl)), nm_word⟩
theorem ss_number_in_figures {P : Program} {w : World} {K : PySem.W.Frag} {mg : Str → Option Value} {base : Heap} {f : Addr} {cdv : Value} {A : Around} {outer : List Env} {s : Shared} {H : Hp} {E : XK} : Ss (cxOf (L2.CX P w) P w K mg base N_number_in "number_in" (defScope s_number_in) f cdv A outer s H E) 1 "figures" := ⟨rfl, (by first | exact .inl rfl | exact .inr rfl), .inl rfl⟩
theorem gl_number_in_MOST_FIGURES {P : Program} {w : World} {K : PySem.W.Frag} {mg : Str → Option Value} {base : Heap} {f : Addr} {cdv : Value} {A : Around} {outer : List Env} {s : Shared} {H : Hp} {E : XK} : Gl (cxOf (L2.CX P w) P w K mg base N_number_in "number_in" (defScope s_number_in) f cdv A outer s H E) "MOST_FIGURES" := by rfl
theorem gl_number_in_int {P : Program} {w : World} {K : PySem.W.Frag} {mg : Str → Option Value} {base : Heap} {f : Addr} {cdv : Value} {A : Around} {outer : List Env} {s : Shared} {H : Hp} {E : XK} : Gl (cxOf (L2.CX P w) P w K mg base N_number_in "number_in" (defScope s_number_in) f cdv A outer s H E) "int" := by rfl
theorem gl_number_in_len {P : Program} {w : World} {K : PySem.W.Frag} {mg : Str → Option Value} {base : Heap} {f : Addr} {cdv : Value} {A : Around} {outer : List Env} {s : Shared} {H : Hp} {E : XK} : Gl (cxOf (L2.CX P w) P w K mg base N_number_in "number_in" (defScope s_number_in) f cdv A outer s H E) "len" := by rfl
section
local macro_rules | `(tactic| walk_at "sl") => `(tactic| first | exact chk_line (by assumption) | exact fig_line (by assumption) | exact chf_line (by assumption) | decide | fail)
local macro_rules | `(tactic| walk_at "ck") => `(tactic| first | exact fig_ck (by assumption) | exact chf_ck (by assumption) | fail)
local macro_rules | `(tactic| walk_at "ix") => `(tactic| first | exact fig_ix (by assumption) | exact no_ix (by assumption) (by assumption) | fail)
local macro_rules | `(tactic| walk_at "it") => `(tactic| first | exact good_some (by assumption) | fail)
local macro_rules | `(tactic| walk_at "il") => `(tactic| first | exact good_640 (by assumption) | fail)
local macro_rules | `(tactic| walk_at "no") => `(tactic| first | exact no1 (by assumption) (by assumption) | exact no2 (by assumption) (by assumption) | exact bad_no (by assumption) (by assumption) (by assumption) (by assumption) | fail)
theorem cal_number_in {P : Program} {w : World} {K : PySem.W.Frag} {mg : Str → Option Value} {base : Heap} {f : Addr} {fd : FuncData} {c_RestError c_NoModulus c_NoCount c_NoPaper c_TooMany c_NoText c_NoForm c_NoneYet : Addr} (T : Txt K mg c_RestError c_NoModulus c_NoCount c_NoPaper c_TooMany c_NoText c_NoForm c_NoneYet) (F : Fun K "number_in" "number_in" s_number_in f fd) (hm : mg "number_in" = some (.ref f)) (hb : Binds K fd ["word"] [])  : Cal P w K mg base 1 "number_in" (Sp1 K false (fun (word : Str) => ChkW word ∧ FigOk word (figs word)) m_number_in) := by
  refine fn1 F hm hb sc_number_in rfl fun cdv A outer s H0 E hr G0 v_word word D s0 r_word hp fin => ?_
  have x0_0 : Ext G0 H0 G0 H0 := Ext.refl s0
  show tSs _ _ D [some v_word, none, none] H0
  have hpc := hp; obtain ⟨hp_0, hp_1⟩ := hpc
  have tk : m_number_in word = _ := rfl
  refine b_cons (s_set sc_number_in.nd ss_number_in_figures x0_0.s (ev_if (et_cmp c_eqS (ev_slS (by walk_at "sl") (ev_v (sl_number_in_word) r_word) eo_none (eo_some ev_int)) ev_str) (fun c1 => (ev_slS (by walk_at "sl") (ev_v (sl_number_in_word) r_word) (eo_some ev_int) eo_none)) (fun c1 => (ev_v (sl_number_in_word) r_word))) fun G1 H1 v1_figures x2 l1 r1_figures => ?_)
  have x0_1 := x0_0.trans x2
  show tSs _ _ _ [some v_word, some v1_figures, none] _
  obtain ⟨figures, e3⟩ : ∃ z, z = (if (decide ((cutS word none (some (1 : Int))) = ("-" : Str))) = true then (cutS word (some (1 : Int)) none) else word) := ⟨_, rfl⟩
  rw [← e3] at r1_figures
  have tk : _ = m_number_in_1 word figures := tk.trans (by first | (rw [e3] <;> rfl) | rfl)
  have f_e3 : FigOk word figures := by rw [e3]; exact hp.2
  refine b_cons (s_if x0_1.s (et_w (ew_or (et_not (et_chain c_le c_le ev_int (ev_lenS ⟨gl_number_in_len, T.b_len⟩ (by walk_at "sl") (ev_v (sl_number_in_figures) r1_figures)) fun c4 => (ev_globI gl_number_in_MOST_FIGURES T.v_MOST_FIGURES))) fun c18 => (ew_or1 (et_cmp (c_neD (hu_of64 hr)) (ev_lc (lc1 (fun (sign : Chr) => sign) (fun (sign : Chr) => (!decide (sign.c ∈ ("0123456789" : Str).cps.toList))) rfl sc_number_in.nd (ei_str (by walk_at "sl") (by walk_at "ck") (ev_v (sl_number_in_figures) r1_figures)) [("sign", 2)] (blkOk_by (N := N_number_in) (sc := defScope s_number_in) (by decide +kernel)) (fun _ _ _ _ _ => pg_name (i := 2) sc_number_in.nd rfl (.inl rfl)) (fun sign v16 G6 H7 hx8 x5 r17 s10 s11 s12 s13 s14 => (ets_one (et_cmp c_ninC (ev_v ((⟨rfl, .inl rfl, nm_sign⟩ : Sl _ 2 _)) r17) (ev_globS (by rfl) T.v_FIGURES)))) (fun sign v16 G6 H7 hx8 ht9 x5 r17 s10 s11 s12 s13 s14 => (ev_v ((⟨rfl, .inl rfl, nm_sign⟩ : Sl _ 2 _)) r17)))) (ev_list (es_nil (α := Chr))))))) (fun h19 G3 H3 x20 l3 => ?_) (fun h19 G3 H3 x20 l3 => ?_))
  · have tk := tk_tt tk h19
    have h19_ := h19; try simp only [Bool.and_eq_true, Bool.or_eq_true, Bool.and_eq_false_iff, Bool.or_eq_false_iff, Bool.not_eq_true', Bool.not_eq_false', decide_eq_true_eq, decide_eq_false_iff_not, Classical.not_not] at h19_
    have x0_3 := x0_1.trans x20
    show tSs _ _ _ [some v_word, some v1_figures, none] _
    exfalso
    walk_at "no"
  · have tk := tk_ff tk h19
    have h19_ := h19; try simp only [Bool.and_eq_true, Bool.or_eq_true, Bool.and_eq_false_iff, Bool.or_eq_false_iff, Bool.not_eq_true', Bool.not_eq_false', decide_eq_true_eq, decide_eq_false_iff_not, Classical.not_not] at h19_
    have x0_3 := x0_1.trans x20
    show tSs _ _ _ [some v_word, some v1_figures, none] _
    refine b_nil ?_
    show tSs _ _ _ [some v_word, some v1_figures, none] _
    refine b_cons (s_if x0_3.s (et_w (ew_and (et_cmp c_eqS (ev_ixS (by walk_at "sl") (by walk_at "sc") (by walk_at "ix") (ev_v (sl_number_in_figures) (up x20.g r1_figures)) ev_int) ev_str) fun c21 => (ew_and1 (et_cmp c_neS (ev_v (sl_number_in_word) (up (x2.g.trans x20.g) r_word)) ev_str)))) (fun h22 G4 H4 x23 l4 => ?_) (fun h22 G4 H4 x23 l4 => ?_))
    · have tk := tk_tt tk h22
      have h22_ := h22; try simp only [Bool.and_eq_true, Bool.or_eq_true, Bool.and_eq_false_iff, Bool.or_eq_false_iff, Bool.not_eq_true', Bool.not_eq_false', decide_eq_true_eq, decide_eq_false_iff_not, Classical.not_not] at h22_
      have x0_4 := x0_3.trans x23
      show tSs _ _ _ [some v_word, some v1_figures, none] _
      exfalso
      walk_at "no"
    · have tk := tk_ff tk h22
      have h22_ := h22; try simp only [Bool.and_eq_true, Bool.or_eq_true, Bool.and_eq_false_iff, Bool.or_eq_false_iff, Bool.not_eq_true', Bool.not_eq_false', decide_eq_true_eq, decide_eq_false_iff_not, Classical.not_not] at h22_
      have x0_4 := x0_3.trans x23
      show tSs _ _ _ [some v_word, some v1_figures, none] _
      refine b_nil ?_
      show tSs _ _ _ [some v_word, some v1_figures, none] _
      refine b_cons (s_ret x0_4.s (ev_intS ⟨gl_number_in_int, T.b_int⟩ (by walk_at "it") (by walk_at "il") (ev_v (sl_number_in_word) (up (x2.g.trans (x20.g.trans x23.g)) r_word))) fun G_ H_ v25 x24 _ r_ => ?_)
      exact fin.rt _ _ _ (x0_4.trans x24) (rep_of tk r_) (fun z => nomatch z)
end

abbrev N_num_x : List Str := ["word", "figures", "sign"]
theorem sc_num_x : FnScope N_num_x ["word"] (defScope s_number_in) := ⟨rfl, rfl, rfl, by decide +kernel, rfl, by decide +kernel, by decide +kernel⟩
theorem sl_num_x_figures {P : Program} {w : World} {K : PySem.W.Frag} {mg : Str → Option Value} {base : Heap} {f : Addr} {cdv : Value} {A : Around} {outer : List Env} {s : Shared} {H : Hp} {E : XK} : Sl (cxOf (L2N.CX P w) P w K mg base N_num_x "number_in" (defScope s_number_in) f cdv A outer s H E) 1 "figures" := ⟨rfl, (by first | exact .inl rfl | exact .inr (.inl rfl)), nm_figures⟩
theorem sl_num_x_word {P : Program} {w : World} {K : PySem.W.Frag} {mg : Str → Option Value} {base : Heap} {f : Addr} {cdv : Value} {A : Around} {outer : List Env} {s : Shared} {H : Hp} {E : XK} : Sl (cxOf (L2N.CX P w) P w K mg base N_num_x "number_in" (defScope s_number_in) f cdv A outer s H E) 0 "word" := ⟨rfl, (by first | exact .inl rfl | exact .inr (.inl rfl)), nm_word⟩
theorem ss_num_x_figures {P : Program} {w : World} {K : PySem.W.Frag} {mg : Str → Option Value} {base : Heap} {f : Addr} {cdv : Value} {A : Around} {outer : List Env} {s : Shared} {H : Hp} {E : XK} : Ss (cxOf (L2N.CX P w) P w K mg base N_num_x "number_in" (defScope s_number_in) f cdv A outer s H E) 1 "figures" := ⟨rfl, (by first | exact .inl rfl | exact .inr rfl), .inl rfl⟩
theorem gl_num_x_MOST_FIGURES {P : Program} {w : World} {K : PySem.W.Frag} {mg : Str → Option Value} {base : Heap} {f : Addr} {cdv : Value} {A : Around} {outer : List Env} {s : Shared} {H : Hp} {E : XK} : Gl (cxOf (L2N.CX P w) P w K mg base N_num_x "number_in" (defScope s_number_in) f cdv A outer s H E) "MOST_FIGURES" := by rfl
theorem gl_num_x_NoText {P : Program} {w : World} {K : PySem.W.Frag} {mg : Str → Option Value} {base : Heap} {f : Addr} {cdv : Value} {A : Around} {outer : List Env} {s : Shared} {H : Hp} {E : XK} : Gl (cxOf (L2N.CX P w) P w K mg base N_num_x "number_in" (defScope s_number_in) f cdv A outer s H E) "NoText" := by rfl
theorem gl_num_x_len {P : Program} {w : World} {K : PySem.W.Frag} {mg : Str → Option Value} {base : Heap} {f : Addr} {cdv : Value} {A : Around} {outer : List Env} {s : Shared} {H : Hp} {E : XK} : Gl (cxOf (L2N.CX P w) P w K mg base N_num_x "number_in" (defScope s_number_in) f cdv A outer s H E) "len" := by rfl
section
local macro_rules | `(tactic| walk_at "sl") => `(tactic| first | exact chk_line (by assumption) | exact fig_line (by assumption) | exact chf_line (by assumption) | decide | fail)
local macro_rules | `(tactic| walk_at "ck") => `(tactic| first | exact fig_ck (by assumption) | exact chf_ck (by assumption) | fail)
local macro_rules | `(tactic| walk_at "ix") => `(tactic| first | exact fig_ix (by assumption) | exact no_ix (by assumption) (by assumption) | fail)
local macro_rules | `(tactic| walk_at "it") => `(tactic| first | exact good_some (by assumption) | fail)
local macro_rules | `(tactic| walk_at "il") => `(tactic| first | exact good_640 (by assumption) | fail)
local macro_rules | `(tactic| walk_at "no") => `(tactic| first | exact no1 (by assumption) (by assumption) | exact no2 (by assumption) (by assumption) | exact bad_no (by assumption) (by assumption) (by assumption) (by assumption) | fail)
theorem cal_num_x {P : Program} {w : World} {K : PySem.W.Frag} {mg : Str → Option Value} {base : Heap} {f : Addr} {fd : FuncData} {c_RestError c_NoModulus c_NoCount c_NoPaper c_TooMany c_NoText c_NoForm c_NoneYet : Addr} (T : Txt K mg c_RestError c_NoModulus c_NoCount c_NoPaper c_TooMany c_NoText c_NoForm c_NoneYet) (F : Fun K "number_in" "number_in" s_number_in f fd) (hm : mg "number_in" = some (.ref f)) (hb : Binds K fd ["word"] [])  : CalN P w K mg base 1 "number_in" (SpR1 K (fun (word : Str) => ChkW word ∧ ¬ FigOk word (figs word)) c_NoText) := by
  refine fnR1N F hm hb sc_num_x rfl fun cdv A outer s H0 E hr G0 v_word word D s0 r_word hp fin => ?_
  have x0_0 : Ext G0 H0 G0 H0 := Ext.refl s0
  show tSs _ _ D [some v_word, none, none] H0
  have hpc := hp; obtain ⟨hp_0, hp_1⟩ := hpc
  have tkk := L2N.takes_of (X := cxOf (L2N.CX P w) P w K mg base N_num_x "number_in" (defScope s_number_in) f cdv A outer s H0 E) (E := E) rfl rfl rfl rfl
  refine b_cons (s_set sc_num_x.nd ss_num_x_figures x0_0.s (ev_if (et_cmp c_eqS (ev_slS (by walk_at "sl") (ev_v (sl_num_x_word) r_word) eo_none (eo_some ev_int)) ev_str) (fun c1 => (ev_slS (by walk_at "sl") (ev_v (sl_num_x_word) r_word) (eo_some ev_int) eo_none)) (fun c1 => (ev_v (sl_num_x_word) r_word))) fun G1 H1 v1_figures x2 l1 r1_figures => ?_)
  have x0_1 := x0_0.trans x2
  show tSs _ _ _ [some v_word, some v1_figures, none] _
  obtain ⟨figures, e3⟩ : ∃ z, z = (if (decide ((cutS word none (some (1 : Int))) = ("-" : Str))) = true then (cutS word (some (1 : Int)) none) else word) := ⟨_, rfl⟩
  rw [← e3] at r1_figures
  skip
  have f_e3 : ChkF word figures := by rw [e3]; exact chf_of hp.1
  refine b_cons (s_if x0_1.s (et_w (ew_or (et_not (et_chain c_le c_le ev_int (ev_lenS ⟨gl_num_x_len, T.b_len⟩ (by walk_at "sl") (ev_v (sl_num_x_figures) r1_figures)) fun c4 => (ev_globI gl_num_x_MOST_FIGURES T.v_MOST_FIGURES))) fun c18 => (ew_or1 (et_cmp (c_neD (hu_of64 hr)) (ev_lc (lc1 (fun (sign : Chr) => sign) (fun (sign : Chr) => (!decide (sign.c ∈ ("0123456789" : Str).cps.toList))) rfl sc_num_x.nd (ei_str (by walk_at "sl") (by walk_at "ck") (ev_v (sl_num_x_figures) r1_figures)) [("sign", 2)] (blkOk_by (N := N_num_x) (sc := defScope s_number_in) (by decide +kernel)) (fun _ _ _ _ _ => pg_name (i := 2) sc_num_x.nd rfl (.inl rfl)) (fun sign v16 G6 H7 hx8 x5 r17 s10 s11 s12 s13 s14 => (ets_one (et_cmp c_ninC (ev_v ((⟨rfl, .inl rfl, nm_sign⟩ : Sl _ 2 _)) r17) (ev_globS (by rfl) T.v_FIGURES)))) (fun sign v16 G6 H7 hx8 ht9 x5 r17 s10 s11 s12 s13 s14 => (ev_v ((⟨rfl, .inl rfl, nm_sign⟩ : Sl _ 2 _)) r17)))) (ev_list (es_nil (α := Chr))))))) (fun h19 G3 H3 x20 l3 => ?_) (fun h19 G3 H3 x20 l3 => ?_))
  · skip
    have h19_ := h19; try simp only [Bool.and_eq_true, Bool.or_eq_true, Bool.and_eq_false_iff, Bool.or_eq_false_iff, Bool.not_eq_true', Bool.not_eq_false', decide_eq_true_eq, decide_eq_false_iff_not, Classical.not_not] at h19_
    have x0_3 := x0_1.trans x20
    show tSs _ _ _ [some v_word, some v1_figures, none] _
    refine b_cons (s_raiseN rfl tkk T.x_NoText gl_num_x_NoText ?_)
    exact fin _ _ x0_3
  · skip
    have h19_ := h19; try simp only [Bool.and_eq_true, Bool.or_eq_true, Bool.and_eq_false_iff, Bool.or_eq_false_iff, Bool.not_eq_true', Bool.not_eq_false', decide_eq_true_eq, decide_eq_false_iff_not, Classical.not_not] at h19_
    have x0_3 := x0_1.trans x20
    show tSs _ _ _ [some v_word, some v1_figures, none] _
    refine b_nil ?_
    show tSs _ _ _ [some v_word, some v1_figures, none] _
    refine b_cons (s_if x0_3.s (et_w (ew_and (et_cmp c_eqS (ev_ixS (by walk_at "sl") (by walk_at "sc") (by walk_at "ix") (ev_v (sl_num_x_figures) (up x20.g r1_figures)) ev_int) ev_str) fun c21 => (ew_and1 (et_cmp c_neS (ev_v (sl_num_x_word) (up (x2.g.trans x20.g) r_word)) ev_str)))) (fun h22 G4 H4 x23 l4 => ?_) (fun h22 G4 H4 x23 l4 => ?_))
    · skip
      have h22_ := h22; try simp only [Bool.and_eq_true, Bool.or_eq_true, Bool.and_eq_false_iff, Bool.or_eq_false_iff, Bool.not_eq_true', Bool.not_eq_false', decide_eq_true_eq, decide_eq_false_iff_not, Classical.not_not] at h22_
      have x0_4 := x0_3.trans x23
      show tSs _ _ _ [some v_word, some v1_figures, none] _
      refine b_cons (s_raiseN rfl tkk T.x_NoText gl_num_x_NoText ?_)
      exact fin _ _ x0_4
    · skip
      have h22_ := h22; try simp only [Bool.and_eq_true, Bool.or_eq_true, Bool.and_eq_false_iff, Bool.or_eq_false_iff, Bool.not_eq_true', Bool.not_eq_false', decide_eq_true_eq, decide_eq_false_iff_not, Classical.not_not] at h22_
      have x0_4 := x0_3.trans x23
      show tSs _ _ _ [some v_word, some v1_figures, none] _
      exfalso; walk_at "no"
end

abbrev N_read_row : List Str := ["text", "word"]
theorem sc_read_row : FnScope N_read_row ["text"] (defScope s_read_row) := ⟨rfl, rfl, rfl, by decide +kernel, rfl, by decide +kernel, by decide +kernel⟩
theorem sl_read_row_text {P : Program} {w : World} {K : PySem.W.Frag} {mg : Str → Option Value} {base : Heap} {f : Addr} {cdv : Value} {A : Around} {outer : List Env} {s : Shared} {H : Hp} {E : XK} : Sl (cxOf (L2.CX P w) P w K mg base N_read_row "read_row" (defScope s_read_row) f cdv A outer s H E) 0 "text" := ⟨rfl, (by first | exact .inl rfl | exact .inr (.inl rfl)), nm_text⟩
section
local macro_rules | `(tactic| walk_at "sl") => `(tactic| first | exact txt_line (by assumption) | exact txt_line (And.left (And.right hp)) | decide | fail)
local macro_rules | `(tactic| walk_at "pre") => `(tactic| first | exact row_good (by assumption) (by assumption) (by assumption) (by assumption) | fail)
local macro_rules | `(tactic| walk_at "fb") => `(tactic| first | exact first_bad (by assumption) (by assumption) | fail)
local macro_rules | `(tactic| walk_at "no") => `(tactic| first | exact none_no (by assumption) (by assumption) | fail)
theorem cal_read_row {P : Program} {w : World} {K : PySem.W.Frag} {mg : Str → Option Value} {base : Heap} {f : Addr} {fd : FuncData} {c_RestError c_NoModulus c_NoCount c_NoPaper c_TooMany c_NoText c_NoForm c_NoneYet : Addr} (T : Txt K mg c_RestError c_NoModulus c_NoCount c_NoPaper c_TooMany c_NoText c_NoForm c_NoneYet) (F : Fun K "read_row" "read_row" s_read_row f fd) (hm : mg "read_row" = some (.ref f)) (hb : Binds K fd ["text"] []) (C_number_in : Cal P w K mg base 1 "number_in" (Sp1 K false (fun (word : Str) => ChkW word ∧ FigOk word (figs word)) m_number_in)) : Cal P w K mg base 2 "read_row" (Sp1 K true (fun (text : Str) => TxtOk text ∧ GoodT text) m_read_row) := by
  refine fn1 F hm hb sc_read_row rfl fun cdv A outer s H0 E hr G0 v_text text D s0 r_text hp fin => ?_
  have x0_0 : Ext G0 H0 G0 H0 := Ext.refl s0
  show tSs _ _ D [some v_text, none] H0
  have hpc := hp; obtain ⟨hp_0, hp_1⟩ := hpc
  have tk : m_read_row text = _ := rfl
  refine b_cons (s_if x0_0.s (et_cmp c_eqS (ev_v (sl_read_row_text) r_text) ev_str) (fun h1 G1 H1 x2 l1 => ?_) (fun h1 G1 H1 x2 l1 => ?_))
  · have tk := tk_tt tk h1
    have h1_ := h1; try simp only [Bool.and_eq_true, Bool.or_eq_true, Bool.and_eq_false_iff, Bool.or_eq_false_iff, Bool.not_eq_true', Bool.not_eq_false', decide_eq_true_eq, decide_eq_false_iff_not, Classical.not_not] at h1_
    have x0_1 := x0_0.trans x2
    show tSs _ _ _ [some v_text, none] _
    refine b_cons (s_retN_ x0_1.s (evN_list (es_nil (α := Int))) fun G_ H_ v4 x3 _ r_ n_ => ?_)
    exact fin.rt _ _ _ (x0_1.trans x3) (rep_of tk r_) (fun _ p z => x0_1.h.free (n_ p z))
  · have tk := tk_ff tk h1
    have h1_ := h1; try simp only [Bool.and_eq_true, Bool.or_eq_true, Bool.and_eq_false_iff, Bool.or_eq_false_iff, Bool.not_eq_true', Bool.not_eq_false', decide_eq_true_eq, decide_eq_false_iff_not, Classical.not_not] at h1_
    have x0_1 := x0_0.trans x2
    show tSs _ _ _ [some v_text, none] _
    refine b_nil ?_
    show tSs _ _ _ [some v_text, none] _
    refine b_cons (s_retN_ x0_1.s (evN_lc (lc1A (fun (word : Str) => (m_number_in word)) rfl sc_read_row.nd (ei_list (ev_split (by decide) (by walk_at "sl") (ev_v (sl_read_row_text) (up x2.g r_text)) ev_str)) [("word", 1)] (blkOk_by (N := N_read_row) (sc := defScope s_read_row) (by decide +kernel)) (fun _ _ _ _ _ => pg_name (i := 1) sc_read_row.nd rfl (.inl rfl)) (fun word v16 G6 H7 hx8 x5 r17 s10 s11 s12 s13 s14 => (ev_c1 C_number_in (hr.mono (by decide)) (by rfl) (ev_v ((⟨rfl, .inl rfl, nm_word⟩ : Sl _ 1 _)) r17) (by walk_at "pre"))))) fun G_ H_ v19 x18 _ r_ n_ => ?_)
    exact fin.rt _ _ _ (x0_1.trans x18) (rep_of tk r_) (fun _ p z => x0_1.h.free (n_ p z))
end

abbrev N_row_x : List Str := ["text", "word"]
theorem sc_row_x : FnScope N_row_x ["text"] (defScope s_read_row) := ⟨rfl, rfl, rfl, by decide +kernel, rfl, by decide +kernel, by decide +kernel⟩
theorem sl_row_x_text {P : Program} {w : World} {K : PySem.W.Frag} {mg : Str → Option Value} {base : Heap} {f : Addr} {cdv : Value} {A : Around} {outer : List Env} {s : Shared} {H : Hp} {E : XK} : Sl (cxOf (L2N.CX P w) P w K mg base N_row_x "read_row" (defScope s_read_row) f cdv A outer s H E) 0 "text" := ⟨rfl, (by first | exact .inl rfl | exact .inr (.inl rfl)), nm_text⟩
section
local macro_rules | `(tactic| walk_at "sl") => `(tactic| first | exact txt_line (by assumption) | exact txt_line (And.left (And.right hp)) | decide | fail)
local macro_rules | `(tactic| walk_at "pre") => `(tactic| first | exact row_good (by assumption) (by assumption) (by assumption) (by assumption) | fail)
local macro_rules | `(tactic| walk_at "fb") => `(tactic| first | exact first_bad (by assumption) (by assumption) | fail)
local macro_rules | `(tactic| walk_at "no") => `(tactic| first | exact none_no (by assumption) (by assumption) | fail)
theorem cal_row_x {P : Program} {w : World} {K : PySem.W.Frag} {mg : Str → Option Value} {base : Heap} {f : Addr} {fd : FuncData} {c_RestError c_NoModulus c_NoCount c_NoPaper c_TooMany c_NoText c_NoForm c_NoneYet : Addr} (T : Txt K mg c_RestError c_NoModulus c_NoCount c_NoPaper c_TooMany c_NoText c_NoForm c_NoneYet) (F : Fun K "read_row" "read_row" s_read_row f fd) (hm : mg "read_row" = some (.ref f)) (hb : Binds K fd ["text"] []) (C_num_x : CalN P w K mg base 1 "number_in" (SpR1 K (fun (word : Str) => ChkW word ∧ ¬ FigOk word (figs word)) c_NoText)) (C_number_in : Cal P w K mg base 1 "number_in" (Sp1 K false (fun (word : Str) => ChkW word ∧ FigOk word (figs word)) m_number_in)) : CalN P w K mg base 2 "read_row" (SpR1 K (fun (text : Str) => TxtOk text ∧ ¬ GoodT text) c_NoText) := by
  refine fnR1N F hm hb sc_row_x rfl fun cdv A outer s H0 E hr G0 v_text text D s0 r_text hp fin => ?_
  have x0_0 : Ext G0 H0 G0 H0 := Ext.refl s0
  show tSs _ _ D [some v_text, none] H0
  have hpc := hp; obtain ⟨hp_0, hp_1⟩ := hpc
  have tkk := L2N.takes_of (X := cxOf (L2N.CX P w) P w K mg base N_row_x "read_row" (defScope s_read_row) f cdv A outer s H0 E) (E := E) rfl rfl rfl rfl
  refine b_cons (s_if x0_0.s (et_cmp c_eqS (ev_v (sl_row_x_text) r_text) ev_str) (fun h1 G1 H1 x2 l1 => ?_) (fun h1 G1 H1 x2 l1 => ?_))
  · skip
    have h1_ := h1; try simp only [Bool.and_eq_true, Bool.or_eq_true, Bool.and_eq_false_iff, Bool.or_eq_false_iff, Bool.not_eq_true', Bool.not_eq_false', decide_eq_true_eq, decide_eq_false_iff_not, Classical.not_not] at h1_
    have x0_1 := x0_0.trans x2
    show tSs _ _ _ [some v_text, none] _
    exfalso; walk_at "no"
  · skip
    have h1_ := h1; try simp only [Bool.and_eq_true, Bool.or_eq_true, Bool.and_eq_false_iff, Bool.or_eq_false_iff, Bool.not_eq_true', Bool.not_eq_false', decide_eq_true_eq, decide_eq_false_iff_not, Classical.not_not] at h1_
    have x0_1 := x0_0.trans x2
    show tSs _ _ _ [some v_text, none] _
    refine b_nil ?_
    show tSs _ _ _ [some v_text, none] _
    obtain ⟨k0_, hlt_, hgood_, hbad_⟩ : ∃ k0 : Nat, k0 < ((Txt.split text (" " : Str))).length ∧ (∀ (j : Nat) (word : Str), j < k0 → ((Txt.split text (" " : Str)))[j]? = some word → ChkW word ∧ FigOk word (figs word)) ∧ ∀ (word : Str), ((Txt.split text (" " : Str)))[k0]? = some word → ChkW word ∧ ¬ FigOk word (figs word) := by walk_at "fb"
    exact b_cons (s_retR (evRN_lc (fun (word : Str) => m_number_in word) k0_ hlt_ rfl sc_row_x.nd (ei_list (ev_split (by decide) (by walk_at "sl") (ev_v (sl_row_x_text) (up x2.g r_text)) ev_str)) [("word", 1)] (blkOk_by (N := N_row_x) (sc := defScope s_read_row) (by decide +kernel)) (fun _ _ _ _ _ => pg_name (i := 1) sc_row_x.nd rfl (.inl rfl)) tkk rfl rfl x0_1.s (fun word v_ G1_ H1_ j_ hj_ hx_ x2_ r_ _ _ _ _ _ _ => ev_c1 C_number_in (hr.mono (by decide)) (by rfl) (ev_v (⟨rfl, .inl rfl, nm_word⟩ : Sl _ 1 _) r_) (hgood_ j_ word hj_ hx_)) (fun word v_ G1_ H1_ hx_ x2_ r_ _ _ _ _ _ _ hp_ => evRN_c1P C_num_x (hr.mono (by decide)) (by rfl) hp_ x2_.s (ev_v (⟨rfl, .inl rfl, nm_word⟩ : Sl _ 1 _) r_) (hbad_ word hx_) fun _ _ x_ => fin _ _ (x0_1.trans (x2_.trans x_)))))
end

abbrev N_same_i : List Str := ["found", "due", "one", "other"]
theorem sc_same_i : FnScope N_same_i ["found", "due"] (defScope s__law_same) := ⟨rfl, rfl, rfl, by decide +kernel, rfl, by decide +kernel, by decide +kernel⟩
theorem sl_same_i_due {P : Program} {w : World} {K : PySem.W.Frag} {mg : Str → Option Value} {base : Heap} {f : Addr} {cdv : Value} {A : Around} {outer : List Env} {s : Shared} {H : Hp} {E : XK} : Sl (cxOf (L2.CX P w) P w K mg base N_same_i "_law_same" (defScope s__law_same) f cdv A outer s H E) 1 "due" := ⟨rfl, (by first | exact .inl rfl | exact .inr (.inl rfl)), nm_due⟩
theorem sl_same_i_found {P : Program} {w : World} {K : PySem.W.Frag} {mg : Str → Option Value} {base : Heap} {f : Addr} {cdv : Value} {A : Around} {outer : List Env} {s : Shared} {H : Hp} {E : XK} : Sl (cxOf (L2.CX P w) P w K mg base N_same_i "_law_same" (defScope s__law_same) f cdv A outer s H E) 0 "found" := ⟨rfl, (by first | exact .inl rfl | exact .inr (.inl rfl)), nm_found⟩
theorem gl_same_i_bool {P : Program} {w : World} {K : PySem.W.Frag} {mg : Str → Option Value} {base : Heap} {f : Addr} {cdv : Value} {A : Around} {outer : List Env} {s : Shared} {H : Hp} {E : XK} : Gl (cxOf (L2.CX P w) P w K mg base N_same_i "_law_same" (defScope s__law_same) f cdv A outer s H E) "bool" := by rfl
theorem gl_same_i_int {P : Program} {w : World} {K : PySem.W.Frag} {mg : Str → Option Value} {base : Heap} {f : Addr} {cdv : Value} {A : Around} {outer : List Env} {s : Shared} {H : Hp} {E : XK} : Gl (cxOf (L2.CX P w) P w K mg base N_same_i "_law_same" (defScope s__law_same) f cdv A outer s H E) "int" := by rfl
theorem gl_same_i_isinstance {P : Program} {w : World} {K : PySem.W.Frag} {mg : Str → Option Value} {base : Heap} {f : Addr} {cdv : Value} {A : Around} {outer : List Env} {s : Shared} {H : Hp} {E : XK} : Gl (cxOf (L2.CX P w) P w K mg base N_same_i "_law_same" (defScope s__law_same) f cdv A outer s H E) "isinstance" := by rfl
theorem gl_same_i_list {P : Program} {w : World} {K : PySem.W.Frag} {mg : Str → Option Value} {base : Heap} {f : Addr} {cdv : Value} {A : Around} {outer : List Env} {s : Shared} {H : Hp} {E : XK} : Gl (cxOf (L2.CX P w) P w K mg base N_same_i "_law_same" (defScope s__law_same) f cdv A outer s H E) "list" := by rfl
theorem gl_same_i_str {P : Program} {w : World} {K : PySem.W.Frag} {mg : Str → Option Value} {base : Heap} {f : Addr} {cdv : Value} {A : Around} {outer : List Env} {s : Shared} {H : Hp} {E : XK} : Gl (cxOf (L2.CX P w) P w K mg base N_same_i "_law_same" (defScope s__law_same) f cdv A outer s H E) "str" := by rfl
theorem gl_same_i_tuple {P : Program} {w : World} {K : PySem.W.Frag} {mg : Str → Option Value} {base : Heap} {f : Addr} {cdv : Value} {A : Around} {outer : List Env} {s : Shared} {H : Hp} {E : XK} : Gl (cxOf (L2.CX P w) P w K mg base N_same_i "_law_same" (defScope s__law_same) f cdv A outer s H E) "tuple" := by rfl
theorem cal_same_i {P : Program} {w : World} {K : PySem.W.Frag} {mg : Str → Option Value} {base : Heap} {f : Addr} {fd : FuncData} {c_RestError c_NoModulus c_NoCount c_NoPaper c_TooMany c_NoText c_NoForm c_NoneYet : Addr} (T : Txt K mg c_RestError c_NoModulus c_NoCount c_NoPaper c_TooMany c_NoText c_NoForm c_NoneYet) (F : Fun K "_law_same" "_law_same" s__law_same f fd) (hm : mg "_law_same" = some (.ref f)) (hb : Binds K fd ["found", "due"] [])  : Cal P w K mg base 1 "_law_same" (Sp2 K false (fun (found : Int) (due : Int) => True) m_same_i) := by
  refine fn2 F hm hb sc_same_i rfl fun cdv A outer s H0 E hr G0 v_found v_due found due D s0 r_found r_due hp fin => ?_
  have x0_0 : Ext G0 H0 G0 H0 := Ext.refl s0
  show tSs _ _ D [some v_found, some v_due, none, none] H0
  have tk : m_same_i found due = _ := rfl
  refine b_cons (s_if x0_0.s (et_cmp c_isX (ev_v (sl_same_i_due) r_due) ev_unit) (fun h1 G1 H1 x2 l1 => ?_) (fun h1 G1 H1 x2 l1 => ?_))
  · exact absurd h1 (by decide)
  · have tk := tk
    have x0_1 := x0_0.trans x2
    show tSs _ _ _ [some v_found, some v_due, none, none] _
    refine b_nil ?_
    show tSs _ _ _ [some v_found, some v_due, none, none] _
    refine b_cons (s_if x0_1.s (et_val (ev_isi (r := false) ⟨gl_same_i_isinstance, T.b_isinstance⟩ (ev_v (sl_same_i_due) (up x2.g r_due)) (ev_ty gl_same_i_str T.b_str boot_str') (by decide +kernel))) (fun h3 G2 H2 x4 l2 => ?_) (fun h3 G2 H2 x4 l2 => ?_))
    · exact absurd h3 (by decide)
    · have tk := tk
      have x0_2 := x0_1.trans x4
      show tSs _ _ _ [some v_found, some v_due, none, none] _
      refine b_nil ?_
      show tSs _ _ _ [some v_found, some v_due, none, none] _
      refine b_cons (s_if x0_2.s (et_val (ev_isiT (r1 := false) (r2 := false) ⟨gl_same_i_isinstance, T.b_isinstance⟩ (ev_v (sl_same_i_due) (up (x2.g.trans x4.g) r_due)) (ev_ty gl_same_i_list T.b_list boot_list') (ev_ty gl_same_i_tuple T.b_tuple boot_tuple') (by decide +kernel))) (fun h5 G3 H3 x6 l3 => ?_) (fun h5 G3 H3 x6 l3 => ?_))
      · exact absurd h5 (by decide)
      · have tk := tk
        have x0_3 := x0_2.trans x6
        show tSs _ _ _ [some v_found, some v_due, none, none] _
        refine b_nil ?_
        show tSs _ _ _ [some v_found, some v_due, none, none] _
        refine b_cons (s_ret x0_3.s (ev_and (ev_isi (r := true) ⟨gl_same_i_isinstance, T.b_isinstance⟩ (ev_v (sl_same_i_found) (up (x2.g.trans (x4.g.trans x6.g)) r_found)) (ev_ty gl_same_i_int T.b_int boot_int') (by decide +kernel)) fun c8 => (ev_and (ev_not (ev_isi (r := false) ⟨gl_same_i_isinstance, T.b_isinstance⟩ (ev_v (sl_same_i_found) (up (x2.g.trans (x4.g.trans x6.g)) r_found)) (ev_ty gl_same_i_bool T.b_bool boot_bool') (by decide +kernel))) fun c7 => (ev_bo1 (ev_cmp c_eq (ev_v (sl_same_i_found) (up (x2.g.trans (x4.g.trans x6.g)) r_found)) (ev_v (sl_same_i_due) (up (x2.g.trans (x4.g.trans x6.g)) r_due)))))) fun G_ H_ v10 x9 _ r_ => ?_)
        exact fin.rt _ _ _ (x0_3.trans x9) (rep_of tk r_) (fun z => nomatch z)

abbrev N_same_l : List Str := ["found", "due", "one", "other"]
theorem sc_same_l : FnScope N_same_l ["found", "due"] (defScope s__law_same) := ⟨rfl, rfl, rfl, by decide +kernel, rfl, by decide +kernel, by decide +kernel⟩
theorem sl_same_l_due {P : Program} {w : World} {K : PySem.W.Frag} {mg : Str → Option Value} {base : Heap} {f : Addr} {cdv : Value} {A : Around} {outer : List Env} {s : Shared} {H : Hp} {E : XK} : Sl (cxOf (L2.CX P w) P w K mg base N_same_l "_law_same" (defScope s__law_same) f cdv A outer s H E) 1 "due" := ⟨rfl, (by first | exact .inl rfl | exact .inr (.inl rfl)), nm_due⟩
theorem sl_same_l_found {P : Program} {w : World} {K : PySem.W.Frag} {mg : Str → Option Value} {base : Heap} {f : Addr} {cdv : Value} {A : Around} {outer : List Env} {s : Shared} {H : Hp} {E : XK} : Sl (cxOf (L2.CX P w) P w K mg base N_same_l "_law_same" (defScope s__law_same) f cdv A outer s H E) 0 "found" := ⟨rfl, (by first | exact .inl rfl | exact .inr (.inl rfl)), nm_found⟩
theorem gl_same_l_isinstance {P : Program} {w : World} {K : PySem.W.Frag} {mg : Str → Option Value} {base : Heap} {f : Addr} {cdv : Value} {A : Around} {outer : List Env} {s : Shared} {H : Hp} {E : XK} : Gl (cxOf (L2.CX P w) P w K mg base N_same_l "_law_same" (defScope s__law_same) f cdv A outer s H E) "isinstance" := by rfl
theorem gl_same_l_len {P : Program} {w : World} {K : PySem.W.Frag} {mg : Str → Option Value} {base : Heap} {f : Addr} {cdv : Value} {A : Around} {outer : List Env} {s : Shared} {H : Hp} {E : XK} : Gl (cxOf (L2.CX P w) P w K mg base N_same_l "_law_same" (defScope s__law_same) f cdv A outer s H E) "len" := by rfl
theorem gl_same_l_list {P : Program} {w : World} {K : PySem.W.Frag} {mg : Str → Option Value} {base : Heap} {f : Addr} {cdv : Value} {A : Around} {outer : List Env} {s : Shared} {H : Hp} {E : XK} : Gl (cxOf (L2.CX P w) P w K mg base N_same_l "_law_same" (defScope s__law_same) f cdv A outer s H E) "list" := by rfl
theorem gl_same_l_str {P : Program} {w : World} {K : PySem.W.Frag} {mg : Str → Option Value} {base : Heap} {f : Addr} {cdv : Value} {A : Around} {outer : List Env} {s : Shared} {H : Hp} {E : XK} : Gl (cxOf (L2.CX P w) P w K mg base N_same_l "_law_same" (defScope s__law_same) f cdv A outer s H E) "str" := by rfl
theorem gl_same_l_tuple {P : Program} {w : World} {K : PySem.W.Frag} {mg : Str → Option Value} {base : Heap} {f : Addr} {cdv : Value} {A : Around} {outer : List Env} {s : Shared} {H : Hp} {E : XK} : Gl (cxOf (L2.CX P w) P w K mg base N_same_l "_law_same" (defScope s__law_same) f cdv A outer s H E) "tuple" := by rfl
theorem gl_same_l_zip {P : Program} {w : World} {K : PySem.W.Frag} {mg : Str → Option Value} {base : Heap} {f : Addr} {cdv : Value} {A : Around} {outer : List Env} {s : Shared} {H : Hp} {E : XK} : Gl (cxOf (L2.CX P w) P w K mg base N_same_l "_law_same" (defScope s__law_same) f cdv A outer s H E) "zip" := by rfl
theorem cal_same_l {P : Program} {w : World} {K : PySem.W.Frag} {mg : Str → Option Value} {base : Heap} {f : Addr} {fd : FuncData} {c_RestError c_NoModulus c_NoCount c_NoPaper c_TooMany c_NoText c_NoForm c_NoneYet : Addr} (T : Txt K mg c_RestError c_NoModulus c_NoCount c_NoPaper c_TooMany c_NoText c_NoForm c_NoneYet) (F : Fun K "_law_same" "_law_same" s__law_same f fd) (hm : mg "_law_same" = some (.ref f)) (hb : Binds K fd ["found", "due"] []) (C_same_i : Cal P w K mg base 1 "_law_same" (Sp2 K false (fun (found : Int) (due : Int) => True) m_same_i)) : Cal P w K mg base 2 "_law_same" (Sp2 K false (fun (found : (List Int)) (due : (List Int)) => True) m_same_l) := by
  refine fn2 F hm hb sc_same_l rfl fun cdv A outer s H0 E hr G0 v_found v_due found due D s0 r_found r_due hp fin => ?_
  have x0_0 : Ext G0 H0 G0 H0 := Ext.refl s0
  show tSs _ _ D [some v_found, some v_due, none, none] H0
  have tk : m_same_l found due = _ := rfl
  refine b_cons (s_if x0_0.s (et_cmp c_isX (ev_v (sl_same_l_due) r_due) ev_unit) (fun h1 G1 H1 x2 l1 => ?_) (fun h1 G1 H1 x2 l1 => ?_))
  · exact absurd h1 (by decide)
  · have tk := tk
    have x0_1 := x0_0.trans x2
    show tSs _ _ _ [some v_found, some v_due, none, none] _
    refine b_nil ?_
    show tSs _ _ _ [some v_found, some v_due, none, none] _
    refine b_cons (s_if x0_1.s (et_val (ev_isi (r := false) ⟨gl_same_l_isinstance, T.b_isinstance⟩ (ev_v (sl_same_l_due) (up x2.g r_due)) (ev_ty gl_same_l_str T.b_str boot_str') (by decide +kernel))) (fun h3 G2 H2 x4 l2 => ?_) (fun h3 G2 H2 x4 l2 => ?_))
    · exact absurd h3 (by decide)
    · have tk := tk
      have x0_2 := x0_1.trans x4
      show tSs _ _ _ [some v_found, some v_due, none, none] _
      refine b_nil ?_
      show tSs _ _ _ [some v_found, some v_due, none, none] _
      refine b_cons (s_if x0_2.s (et_val (ev_isiT (r1 := true) (r2 := false) ⟨gl_same_l_isinstance, T.b_isinstance⟩ (ev_v (sl_same_l_due) (up (x2.g.trans x4.g) r_due)) (ev_ty gl_same_l_list T.b_list boot_list') (ev_ty gl_same_l_tuple T.b_tuple boot_tuple') (by decide +kernel))) (fun h5 G3 H3 x6 l3 => ?_) (fun h5 G3 H3 x6 l3 => ?_))
      · have tk := tk
        have x0_3 := x0_2.trans x6
        show tSs _ _ _ [some v_found, some v_due, none, none] _
        refine b_cons (s_if x0_3.s (et_w (ew_or (et_cmp c_neB (ev_isi (r := true) ⟨gl_same_l_isinstance, T.b_isinstance⟩ (ev_v (sl_same_l_found) (up (x2.g.trans (x4.g.trans x6.g)) r_found)) (ev_ty gl_same_l_list T.b_list boot_list') (by decide +kernel)) (ev_isi (r := true) ⟨gl_same_l_isinstance, T.b_isinstance⟩ (ev_v (sl_same_l_due) (up (x2.g.trans (x4.g.trans x6.g)) r_due)) (ev_ty gl_same_l_list T.b_list boot_list') (by decide +kernel))) fun c7 => (ew_or1 (et_not (et_val (ev_isiT (r1 := true) (r2 := false) ⟨gl_same_l_isinstance, T.b_isinstance⟩ (ev_v (sl_same_l_found) (up (x2.g.trans (x4.g.trans x6.g)) r_found)) (ev_ty gl_same_l_list T.b_list boot_list') (ev_ty gl_same_l_tuple T.b_tuple boot_tuple') (by decide +kernel))))))) (fun h8 G4 H4 x9 l4 => ?_) (fun h8 G4 H4 x9 l4 => ?_))
        · exact absurd h8 (by decide)
        · have tk := tk
          have x0_4 := x0_3.trans x9
          show tSs _ _ _ [some v_found, some v_due, none, none] _
          refine b_nil ?_
          show tSs _ _ _ [some v_found, some v_due, none, none] _
          refine b_cons (s_if x0_4.s (et_cmp c_ne (ev_len ⟨gl_same_l_len, T.b_len⟩ (ev_v (sl_same_l_found) (up (x2.g.trans (x4.g.trans (x6.g.trans x9.g))) r_found))) (ev_len ⟨gl_same_l_len, T.b_len⟩ (ev_v (sl_same_l_due) (up (x2.g.trans (x4.g.trans (x6.g.trans x9.g))) r_due)))) (fun h10 G5 H5 x11 l5 => ?_) (fun h10 G5 H5 x11 l5 => ?_))
          · have tk := tk_tt tk h10
            have h10_ := h10; try simp only [Bool.and_eq_true, Bool.or_eq_true, Bool.and_eq_false_iff, Bool.or_eq_false_iff, Bool.not_eq_true', Bool.not_eq_false', decide_eq_true_eq, decide_eq_false_iff_not, Classical.not_not] at h10_
            have x0_5 := x0_4.trans x11
            show tSs _ _ _ [some v_found, some v_due, none, none] _
            refine b_cons (s_ret x0_5.s ev_bl fun G_ H_ v13 x12 _ r_ => ?_)
            exact fin.rt _ _ _ (x0_5.trans x12) (rep_of tk r_) (fun z => nomatch z)
          · have tk := tk_ff tk h10
            have h10_ := h10; try simp only [Bool.and_eq_true, Bool.or_eq_true, Bool.and_eq_false_iff, Bool.or_eq_false_iff, Bool.not_eq_true', Bool.not_eq_false', decide_eq_true_eq, decide_eq_false_iff_not, Classical.not_not] at h10_
            have x0_5 := x0_4.trans x11
            show tSs _ _ _ [some v_found, some v_due, none, none] _
            refine b_nil ?_
            show tSs _ _ _ [some v_found, some v_due, none, none] _
            refine b_cons (s_ret x0_5.s (ev_cmp (c_eqD (hu_of64 hr)) (ev_lc (lc2 (fun (z24 : (Int × Int)) => (1 : Int)) (fun (z24 : (Int × Int)) => (!(m_same_i z24.1 z24.2))) rfl sc_same_l.nd (ei_zip ⟨gl_same_l_zip, T.b_zip⟩ (ev_v (sl_same_l_found) (up (x2.g.trans (x4.g.trans (x6.g.trans (x9.g.trans x11.g)))) r_found)) (ev_v (sl_same_l_due) (up (x2.g.trans (x4.g.trans (x6.g.trans (x9.g.trans x11.g)))) r_due))) [("one", 2), ("other", 3)] (blkOk_by (N := N_same_l) (sc := defScope s__law_same) (by decide +kernel)) (fun _ _ _ _ _ => pg_tup rfl (pgs_cons (pg_name (i := 2) sc_same_l.nd rfl (.inl rfl)) (pgs_cons (pg_name (i := 3) sc_same_l.nd rfl (.inl rfl)) pgs_nil))) (fun z24 v25 v26 G15 H16 hx17 x14 r27 r28 s19 s20 s21 s22 s23 => (ets_one (et_not (et_val (ev_c2 C_same_i (hr.mono (by decide)) (by rfl) (ev_v ((⟨rfl, .inl rfl, nm_one⟩ : Sl _ 2 _)) r27) (ev_v ((⟨rfl, .inl rfl, nm_other⟩ : Sl _ 3 _)) r28) (by walk_at "pre")))))) (fun z24 v25 v26 G15 H16 hx17 ht18 x14 r27 r28 s19 s20 s21 s22 s23 => ev_int))) (ev_list (es_nil (α := Int)))) fun G_ H_ v30 x29 _ r_ => ?_)
            exact fin.rt _ _ _ (x0_5.trans x29) (rep_of tk r_) (fun z => nomatch z)
      · exact absurd h5 (by decide)

abbrev N_same_s : List Str := ["found", "due", "one", "other"]
theorem sc_same_s : FnScope N_same_s ["found", "due"] (defScope s__law_same) := ⟨rfl, rfl, rfl, by decide +kernel, rfl, by decide +kernel, by decide +kernel⟩
theorem sl_same_s_due {P : Program} {w : World} {K : PySem.W.Frag} {mg : Str → Option Value} {base : Heap} {f : Addr} {cdv : Value} {A : Around} {outer : List Env} {s : Shared} {H : Hp} {E : XK} : Sl (cxOf (L2.CX P w) P w K mg base N_same_s "_law_same" (defScope s__law_same) f cdv A outer s H E) 1 "due" := ⟨rfl, (by first | exact .inl rfl | exact .inr (.inl rfl)), nm_due⟩
theorem sl_same_s_found {P : Program} {w : World} {K : PySem.W.Frag} {mg : Str → Option Value} {base : Heap} {f : Addr} {cdv : Value} {A : Around} {outer : List Env} {s : Shared} {H : Hp} {E : XK} : Sl (cxOf (L2.CX P w) P w K mg base N_same_s "_law_same" (defScope s__law_same) f cdv A outer s H E) 0 "found" := ⟨rfl, (by first | exact .inl rfl | exact .inr (.inl rfl)), nm_found⟩
theorem gl_same_s_isinstance {P : Program} {w : World} {K : PySem.W.Frag} {mg : Str → Option Value} {base : Heap} {f : Addr} {cdv : Value} {A : Around} {outer : List Env} {s : Shared} {H : Hp} {E : XK} : Gl (cxOf (L2.CX P w) P w K mg base N_same_s "_law_same" (defScope s__law_same) f cdv A outer s H E) "isinstance" := by rfl
theorem gl_same_s_str {P : Program} {w : World} {K : PySem.W.Frag} {mg : Str → Option Value} {base : Heap} {f : Addr} {cdv : Value} {A : Around} {outer : List Env} {s : Shared} {H : Hp} {E : XK} : Gl (cxOf (L2.CX P w) P w K mg base N_same_s "_law_same" (defScope s__law_same) f cdv A outer s H E) "str" := by rfl
theorem cal_same_s {P : Program} {w : World} {K : PySem.W.Frag} {mg : Str → Option Value} {base : Heap} {f : Addr} {fd : FuncData} {c_RestError c_NoModulus c_NoCount c_NoPaper c_TooMany c_NoText c_NoForm c_NoneYet : Addr} (T : Txt K mg c_RestError c_NoModulus c_NoCount c_NoPaper c_TooMany c_NoText c_NoForm c_NoneYet) (F : Fun K "_law_same" "_law_same" s__law_same f fd) (hm : mg "_law_same" = some (.ref f)) (hb : Binds K fd ["found", "due"] [])  : Cal P w K mg base 1 "_law_same" (Sp2 K false (fun (found : Str) (due : Str) => True) m_same_s) := by
  refine fn2 F hm hb sc_same_s rfl fun cdv A outer s H0 E hr G0 v_found v_due found due D s0 r_found r_due hp fin => ?_
  have x0_0 : Ext G0 H0 G0 H0 := Ext.refl s0
  show tSs _ _ D [some v_found, some v_due, none, none] H0
  have tk : m_same_s found due = _ := rfl
  refine b_cons (s_if x0_0.s (et_cmp c_isX (ev_v (sl_same_s_due) r_due) ev_unit) (fun h1 G1 H1 x2 l1 => ?_) (fun h1 G1 H1 x2 l1 => ?_))
  · exact absurd h1 (by decide)
  · have tk := tk
    have x0_1 := x0_0.trans x2
    show tSs _ _ _ [some v_found, some v_due, none, none] _
    refine b_nil ?_
    show tSs _ _ _ [some v_found, some v_due, none, none] _
    refine b_cons (s_if x0_1.s (et_val (ev_isi (r := true) ⟨gl_same_s_isinstance, T.b_isinstance⟩ (ev_v (sl_same_s_due) (up x2.g r_due)) (ev_ty gl_same_s_str T.b_str boot_str') (by decide +kernel))) (fun h3 G2 H2 x4 l2 => ?_) (fun h3 G2 H2 x4 l2 => ?_))
    · have tk := tk
      have x0_2 := x0_1.trans x4
      show tSs _ _ _ [some v_found, some v_due, none, none] _
      refine b_cons (s_ret x0_2.s (ev_and (ev_isi (r := true) ⟨gl_same_s_isinstance, T.b_isinstance⟩ (ev_v (sl_same_s_found) (up (x2.g.trans x4.g) r_found)) (ev_ty gl_same_s_str T.b_str boot_str') (by decide +kernel)) fun c5 => (ev_bo1 (ev_cmp c_eqS (ev_v (sl_same_s_found) (up (x2.g.trans x4.g) r_found)) (ev_v (sl_same_s_due) (up (x2.g.trans x4.g) r_due))))) fun G_ H_ v7 x6 _ r_ => ?_)
      exact fin.rt _ _ _ (x0_2.trans x6) (rep_of tk r_) (fun z => nomatch z)
    · exact absurd h3 (by decide)

abbrev N_flags_x : List Str := ["e", "found"]
theorem sc_flags_x : FnScope N_flags_x ["e"] (defScope s__law_flags) := ⟨rfl, rfl, rfl, by decide +kernel, rfl, by decide +kernel, by decide +kernel⟩
theorem sl_flags_x_e_ {P : Program} {w : World} {K : PySem.W.Frag} {mg : Str → Option Value} {base : Heap} {f : Addr} {cdv : Value} {A : Around} {outer : List Env} {s : Shared} {H : Hp} {a_e : Addr} {oe_ : Obj} : Sl (L2H.cxH (L2.CX P w) P w K mg base N_flags_x "_law_flags" (defScope s__law_flags) f cdv A outer s H (fun _ _ _ => False) (a_e, oe_)) 0 "e" := ⟨rfl, (by first | exact .inl rfl | exact .inr (.inl rfl)), nm_e_⟩
theorem sl_flags_x_found {P : Program} {w : World} {K : PySem.W.Frag} {mg : Str → Option Value} {base : Heap} {f : Addr} {cdv : Value} {A : Around} {outer : List Env} {s : Shared} {H : Hp} {a_e : Addr} {oe_ : Obj} : Sl (L2H.cxH (L2.CX P w) P w K mg base N_flags_x "_law_flags" (defScope s__law_flags) f cdv A outer s H (fun _ _ _ => False) (a_e, oe_)) 1 "found" := ⟨rfl, (by first | exact .inl rfl | exact .inr (.inl rfl)), nm_found⟩
theorem ss_flags_x_found {P : Program} {w : World} {K : PySem.W.Frag} {mg : Str → Option Value} {base : Heap} {f : Addr} {cdv : Value} {A : Around} {outer : List Env} {s : Shared} {H : Hp} {a_e : Addr} {oe_ : Obj} : Ss (L2H.cxH (L2.CX P w) P w K mg base N_flags_x "_law_flags" (defScope s__law_flags) f cdv A outer s H (fun _ _ _ => False) (a_e, oe_)) 1 "found" := ⟨rfl, (by first | exact .inl rfl | exact .inr rfl), .inl rfl⟩
theorem gl_flags_x_NoCount {P : Program} {w : World} {K : PySem.W.Frag} {mg : Str → Option Value} {base : Heap} {f : Addr} {cdv : Value} {A : Around} {outer : List Env} {s : Shared} {H : Hp} {a_e : Addr} {oe_ : Obj} : Gl (L2H.cxH (L2.CX P w) P w K mg base N_flags_x "_law_flags" (defScope s__law_flags) f cdv A outer s H (fun _ _ _ => False) (a_e, oe_)) "NoCount" := by rfl
theorem gl_flags_x_NoForm {P : Program} {w : World} {K : PySem.W.Frag} {mg : Str → Option Value} {base : Heap} {f : Addr} {cdv : Value} {A : Around} {outer : List Env} {s : Shared} {H : Hp} {a_e : Addr} {oe_ : Obj} : Gl (L2H.cxH (L2.CX P w) P w K mg base N_flags_x "_law_flags" (defScope s__law_flags) f cdv A outer s H (fun _ _ _ => False) (a_e, oe_)) "NoForm" := by rfl
theorem gl_flags_x_NoModulus {P : Program} {w : World} {K : PySem.W.Frag} {mg : Str → Option Value} {base : Heap} {f : Addr} {cdv : Value} {A : Around} {outer : List Env} {s : Shared} {H : Hp} {a_e : Addr} {oe_ : Obj} : Gl (L2H.cxH (L2.CX P w) P w K mg base N_flags_x "_law_flags" (defScope s__law_flags) f cdv A outer s H (fun _ _ _ => False) (a_e, oe_)) "NoModulus" := by rfl
theorem gl_flags_x_NoPaper {P : Program} {w : World} {K : PySem.W.Frag} {mg : Str → Option Value} {base : Heap} {f : Addr} {cdv : Value} {A : Around} {outer : List Env} {s : Shared} {H : Hp} {a_e : Addr} {oe_ : Obj} : Gl (L2H.cxH (L2.CX P w) P w K mg base N_flags_x "_law_flags" (defScope s__law_flags) f cdv A outer s H (fun _ _ _ => False) (a_e, oe_)) "NoPaper" := by rfl
theorem gl_flags_x_NoText {P : Program} {w : World} {K : PySem.W.Frag} {mg : Str → Option Value} {base : Heap} {f : Addr} {cdv : Value} {A : Around} {outer : List Env} {s : Shared} {H : Hp} {a_e : Addr} {oe_ : Obj} : Gl (L2H.cxH (L2.CX P w) P w K mg base N_flags_x "_law_flags" (defScope s__law_flags) f cdv A outer s H (fun _ _ _ => False) (a_e, oe_)) "NoText" := by rfl
theorem gl_flags_x_NoneYet {P : Program} {w : World} {K : PySem.W.Frag} {mg : Str → Option Value} {base : Heap} {f : Addr} {cdv : Value} {A : Around} {outer : List Env} {s : Shared} {H : Hp} {a_e : Addr} {oe_ : Obj} : Gl (L2H.cxH (L2.CX P w) P w K mg base N_flags_x "_law_flags" (defScope s__law_flags) f cdv A outer s H (fun _ _ _ => False) (a_e, oe_)) "NoneYet" := by rfl
theorem gl_flags_x_TooMany {P : Program} {w : World} {K : PySem.W.Frag} {mg : Str → Option Value} {base : Heap} {f : Addr} {cdv : Value} {A : Around} {outer : List Env} {s : Shared} {H : Hp} {a_e : Addr} {oe_ : Obj} : Gl (L2H.cxH (L2.CX P w) P w K mg base N_flags_x "_law_flags" (defScope s__law_flags) f cdv A outer s H (fun _ _ _ => False) (a_e, oe_)) "TooMany" := by rfl
theorem gl_flags_x_ValueError {P : Program} {w : World} {K : PySem.W.Frag} {mg : Str → Option Value} {base : Heap} {f : Addr} {cdv : Value} {A : Around} {outer : List Env} {s : Shared} {H : Hp} {a_e : Addr} {oe_ : Obj} : Gl (L2H.cxH (L2.CX P w) P w K mg base N_flags_x "_law_flags" (defScope s__law_flags) f cdv A outer s H (fun _ _ _ => False) (a_e, oe_)) "ValueError" := by rfl
theorem gl_flags_x_isinstance {P : Program} {w : World} {K : PySem.W.Frag} {mg : Str → Option Value} {base : Heap} {f : Addr} {cdv : Value} {A : Around} {outer : List Env} {s : Shared} {H : Hp} {a_e : Addr} {oe_ : Obj} : Gl (L2H.cxH (L2.CX P w) P w K mg base N_flags_x "_law_flags" (defScope s__law_flags) f cdv A outer s H (fun _ _ _ => False) (a_e, oe_)) "isinstance" := by rfl
theorem cal_flags_x {P : Program} {w : World} {K : PySem.W.Frag} {mg : Str → Option Value} {base : Heap} {f : Addr} {fd : FuncData} {c_RestError c_NoModulus c_NoCount c_NoPaper c_TooMany c_NoText c_NoForm c_NoneYet : Addr} (T : Txt K mg c_RestError c_NoModulus c_NoCount c_NoPaper c_TooMany c_NoText c_NoForm c_NoneYet) (F : Fun K "_law_flags" "_law_flags" s__law_flags f fd) (hm : mg "_law_flags" = some (.ref f)) (hb : Binds K fd ["e"] [])  : FlE P w K mg base 1 "_law_flags" c_NoText m_flags_x := by
  refine flE_of F hm hb sc_flags_x fun cdv A outer s H0 a_e oe_ G0 D hz hv s0 fin => ?_
  have x0_0 : Ext G0 H0 G0 H0 := Ext.refl s0
  show tSs _ _ D [some (.ref a_e), none] H0
  have tk : m_flags_x = _ := rfl
  refine b_cons (s_set sc_flags_x.nd ss_flags_x_found x0_0.s (ev_list (es_cons (ev_isE (y := false) ⟨gl_flags_x_isinstance, T.b_isinstance⟩ T.x_NoText.c hz hv (List.mem_singleton.mpr rfl) (ev_v (α := V) (x := (V.ref a_e)) (sl_flags_x_e_) rfl) (ev_glob (x := V.ref c_NoModulus) (v := .ref c_NoModulus) gl_flags_x_NoModulus T.x_NoModulus.g rfl fun _ => rfl) (u := V.ref c_NoModulus) (cv := .ref c_NoModulus) (fun _ z => z) T.i_NoText_NoModulus) (es_cons (ev_isE (y := false) ⟨gl_flags_x_isinstance, T.b_isinstance⟩ T.x_NoText.c hz hv (List.mem_singleton.mpr rfl) (ev_v (α := V) (x := (V.ref a_e)) (sl_flags_x_e_) rfl) (ev_glob (x := V.ref c_NoCount) (v := .ref c_NoCount) gl_flags_x_NoCount T.x_NoCount.g rfl fun _ => rfl) (u := V.ref c_NoCount) (cv := .ref c_NoCount) (fun _ z => z) T.i_NoText_NoCount) (es_cons (ev_isE (y := false) ⟨gl_flags_x_isinstance, T.b_isinstance⟩ T.x_NoText.c hz hv (List.mem_singleton.mpr rfl) (ev_v (α := V) (x := (V.ref a_e)) (sl_flags_x_e_) rfl) (ev_glob (x := V.ref c_NoPaper) (v := .ref c_NoPaper) gl_flags_x_NoPaper T.x_NoPaper.g rfl fun _ => rfl) (u := V.ref c_NoPaper) (cv := .ref c_NoPaper) (fun _ z => z) T.i_NoText_NoPaper) (es_cons (ev_isE (y := false) ⟨gl_flags_x_isinstance, T.b_isinstance⟩ T.x_NoText.c hz hv (List.mem_singleton.mpr rfl) (ev_v (α := V) (x := (V.ref a_e)) (sl_flags_x_e_) rfl) (ev_glob (x := V.ref c_TooMany) (v := .ref c_TooMany) gl_flags_x_TooMany T.x_TooMany.g rfl fun _ => rfl) (u := V.ref c_TooMany) (cv := .ref c_TooMany) (fun _ z => z) T.i_NoText_TooMany) es_nil))))) fun G1 H1 v1_found x1 l1 r1_found => ?_)
  have x0_1 := x0_0.trans x1
  show tSs _ _ _ [some (.ref a_e), some v1_found] _
  obtain ⟨found, e2⟩ : ∃ z, z = ([false, false, false, false] : List Bool) := ⟨_, rfl⟩
  rw [← e2] at r1_found
  have tk : _ = m_flags_x_1 found := tk.trans (by first | (rw [e2] <;> rfl) | rfl)
  have g_e2 := congrArg List.length e2; try simp only [List.length_append, List.length_cons, List.length_nil, rng_len, List.length_map, List.length_reverse, psort_len, isort_len] at g_e2
  refine b_cons (s_set sc_flags_x.nd ss_flags_x_found x0_1.s (ev_cat (by walk_at "sz") (ev_v (sl_flags_x_found) r1_found) (ev_list (es_cons (ev_isE (y := true) ⟨gl_flags_x_isinstance, T.b_isinstance⟩ T.x_NoText.c hz hv (List.mem_singleton.mpr rfl) (ev_v (α := V) (x := (V.ref a_e)) (sl_flags_x_e_) rfl) (ev_glob (x := V.ref c_NoText) (v := .ref c_NoText) gl_flags_x_NoText T.x_NoText.g rfl fun _ => rfl) (u := V.ref c_NoText) (cv := .ref c_NoText) (fun _ z => z) T.i_NoText_NoText) (es_cons (ev_isE (y := false) ⟨gl_flags_x_isinstance, T.b_isinstance⟩ T.x_NoText.c hz hv (List.mem_singleton.mpr rfl) (ev_v (α := V) (x := (V.ref a_e)) (sl_flags_x_e_) rfl) (ev_glob (x := V.ref c_NoForm) (v := .ref c_NoForm) gl_flags_x_NoForm T.x_NoForm.g rfl fun _ => rfl) (u := V.ref c_NoForm) (cv := .ref c_NoForm) (fun _ z => z) T.i_NoText_NoForm) (es_cons (ev_isE (y := false) ⟨gl_flags_x_isinstance, T.b_isinstance⟩ T.x_NoText.c hz hv (List.mem_singleton.mpr rfl) (ev_v (α := V) (x := (V.ref a_e)) (sl_flags_x_e_) rfl) (ev_glob (x := V.ref c_NoneYet) (v := .ref c_NoneYet) gl_flags_x_NoneYet T.x_NoneYet.g rfl fun _ => rfl) (u := V.ref c_NoneYet) (cv := .ref c_NoneYet) (fun _ z => z) T.i_NoText_NoneYet) es_nil))))) fun G2 H2 v2_found x3 l2 r2_found => ?_)
  have x0_2 := x0_1.trans x3
  show tSs _ _ _ [some (.ref a_e), some v2_found] _
  obtain ⟨found, e4⟩ : ∃ z, z = (found ++ ([true, false, false] : List Bool)) := ⟨_, rfl⟩
  rw [← e4] at r2_found
  have tk : _ = m_flags_x_2 found := tk.trans (by first | (rw [e4] <;> rfl) | rfl)
  have g_e4 := congrArg List.length e4; try simp only [List.length_append, List.length_cons, List.length_nil, rng_len, List.length_map, List.length_reverse, psort_len, isort_len] at g_e4
  refine b_cons (s_ret x0_2.s (ev_cat (by walk_at "sz") (ev_v (sl_flags_x_found) r2_found) (ev_list (es_cons (ev_not (ev_isE (y := true) ⟨gl_flags_x_isinstance, T.b_isinstance⟩ T.x_NoText.c hz hv (List.mem_singleton.mpr rfl) (ev_v (α := V) (x := (V.ref a_e)) (sl_flags_x_e_) rfl) (ev_ty gl_flags_x_ValueError T.b_ValueError (by decide +kernel)) (u := V.ty "ValueError") (cv := .type "ValueError") (fun _ z => z) T.i_NoText_ValueError)) es_nil))) fun G_ H_ v6 x5 _ r_ => ?_)
  exact fin.rt _ _ _ (x0_2.trans x5) (rep_of tk r_) (fun z => nomatch z)

abbrev N_lnum : List Str := ["word", "figures", "sign"]
theorem sc_lnum : FnScope N_lnum ["word"] (defScope s__law_number) := ⟨rfl, rfl, rfl, by decide +kernel, rfl, by decide +kernel, by decide +kernel⟩
theorem sl_lnum_figures {P : Program} {w : World} {K : PySem.W.Frag} {mg : Str → Option Value} {base : Heap} {f : Addr} {cdv : Value} {A : Around} {outer : List Env} {s : Shared} {H : Hp} {E : XK} : Sl (cxOf (L2.CX P w) P w K mg base N_lnum "_law_number" (defScope s__law_number) f cdv A outer s H E) 1 "figures" := ⟨rfl, (by first | exact .inl rfl | exact .inr (.inl rfl)), nm_figures⟩
theorem sl_lnum_word {P : Program} {w : World} {K : PySem.W.Frag} {mg : Str → Option Value} {base : Heap} {f : Addr} {cdv : Value} {A : Around} {outer : List Env} {s : Shared} {H : Hp} {E : XK} : Sl (cxOf (L2.CX P w) P w K mg base N_lnum "_law_number" (defScope s__law_number) f cdv A outer s H E) 0 "word" := ⟨rfl, (by first | exact .inl rfl | exact .inr (.inl rfl)), nm_word⟩
theorem ss_lnum_figures {P : Program} {w : World} {K : PySem.W.Frag} {mg : Str → Option Value} {base : Heap} {f : Addr} {cdv : Value} {A : Around} {outer : List Env} {s : Shared} {H : Hp} {E : XK} : Ss (cxOf (L2.CX P w) P w K mg base N_lnum "_law_number" (defScope s__law_number) f cdv A outer s H E) 1 "figures" := ⟨rfl, (by first | exact .inl rfl | exact .inr rfl), .inl rfl⟩
theorem gl_lnum_int {P : Program} {w : World} {K : PySem.W.Frag} {mg : Str → Option Value} {base : Heap} {f : Addr} {cdv : Value} {A : Around} {outer : List Env} {s : Shared} {H : Hp} {E : XK} : Gl (cxOf (L2.CX P w) P w K mg base N_lnum "_law_number" (defScope s__law_number) f cdv A outer s H E) "int" := by rfl
theorem gl_lnum_len {P : Program} {w : World} {K : PySem.W.Frag} {mg : Str → Option Value} {base : Heap} {f : Addr} {cdv : Value} {A : Around} {outer : List Env} {s : Shared} {H : Hp} {E : XK} : Gl (cxOf (L2.CX P w) P w K mg base N_lnum "_law_number" (defScope s__law_number) f cdv A outer s H E) "len" := by rfl
section
local macro_rules | `(tactic| walk_at "sl") => `(tactic| first | exact chk_line (by assumption) | exact chf_line (by assumption) | decide | fail)
local macro_rules | `(tactic| walk_at "ck") => `(tactic| first | exact chf_ck (by assumption) | fail)
local macro_rules | `(tactic| walk_at "ix") => `(tactic| first | exact no_ix (by assumption) (by assumption) | fail)
local macro_rules | `(tactic| walk_at "it") => `(tactic| first | exact good_some (good_of (by assumption) (by assumption) (by assumption)) | fail)
local macro_rules | `(tactic| walk_at "il") => `(tactic| first | exact good_640 (good_of (by assumption) (by assumption) (by assumption)) | fail)
theorem cal_lnum {P : Program} {w : World} {K : PySem.W.Frag} {mg : Str → Option Value} {base : Heap} {f : Addr} {fd : FuncData} {c_RestError c_NoModulus c_NoCount c_NoPaper c_TooMany c_NoText c_NoForm c_NoneYet : Addr} (T : Txt K mg c_RestError c_NoModulus c_NoCount c_NoPaper c_TooMany c_NoText c_NoForm c_NoneYet) (F : Fun K "_law_number" "_law_number" s__law_number f fd) (hm : mg "_law_number" = some (.ref f)) (hb : Binds K fd ["word"] [])  : Cal P w K mg base 1 "_law_number" (Sp1 K false (fun (word : Str) => ChkW word) m_lnum) := by
  refine fn1 F hm hb sc_lnum rfl fun cdv A outer s H0 E hr G0 v_word word D s0 r_word hp fin => ?_
  have x0_0 : Ext G0 H0 G0 H0 := Ext.refl s0
  show tSs _ _ D [some v_word, none, none] H0
  have tk : m_lnum word = _ := rfl
  refine b_cons (s_set sc_lnum.nd ss_lnum_figures x0_0.s (ev_slS (by walk_at "sl") (ev_v (sl_lnum_word) r_word) (eo_some (ev_intB ⟨gl_lnum_int, T.b_int⟩ (ev_cmp c_eqS (ev_slS (by walk_at "sl") (ev_v (sl_lnum_word) r_word) eo_none (eo_some ev_int)) ev_str))) eo_none) fun G1 H1 v1_figures x1 l1 r1_figures => ?_)
  have x0_1 := x0_0.trans x1
  show tSs _ _ _ [some v_word, some v1_figures, none] _
  obtain ⟨figures, e2⟩ : ∃ z, z = (cutS word (some (if (decide ((cutS word none (some (1 : Int))) = ("-" : Str))) = true then 1 else 0 : Int)) none) := ⟨_, rfl⟩
  rw [← e2] at r1_figures
  have tk : _ = m_lnum_1 word figures := tk.trans (by first | (rw [e2] <;> rfl) | rfl)
  have f_e2 : ChkF word figures := by rw [e2]; exact chfL_of hp
  refine b_cons (s_if x0_1.s (et_w (ew_or (et_not (et_chain c_le c_le ev_int (ev_lenS ⟨gl_lnum_len, T.b_len⟩ (by walk_at "sl") (ev_v (sl_lnum_figures) r1_figures)) fun c3 => ev_int)) fun c17 => (ew_or1 (et_cmp (c_neD (hu_of64 hr)) (ev_lc (lc1 (fun (sign : Chr) => sign) (fun (sign : Chr) => (!decide (sign.c ∈ ("0123456789" : Str).cps.toList))) rfl sc_lnum.nd (ei_str (by walk_at "sl") (by walk_at "ck") (ev_v (sl_lnum_figures) r1_figures)) [("sign", 2)] (blkOk_by (N := N_lnum) (sc := defScope s__law_number) (by decide +kernel)) (fun _ _ _ _ _ => pg_name (i := 2) sc_lnum.nd rfl (.inl rfl)) (fun sign v15 G5 H6 hx7 x4 r16 s9 s10 s11 s12 s13 => (ets_one (et_cmp c_ninC (ev_v ((⟨rfl, .inl rfl, nm_sign⟩ : Sl _ 2 _)) r16) ev_str))) (fun sign v15 G5 H6 hx7 ht8 x4 r16 s9 s10 s11 s12 s13 => (ev_v ((⟨rfl, .inl rfl, nm_sign⟩ : Sl _ 2 _)) r16)))) (ev_list (es_nil (α := Chr))))))) (fun h18 G3 H3 x19 l3 => ?_) (fun h18 G3 H3 x19 l3 => ?_))
  · have tk := tk_tt tk h18
    have h18_ := h18; try simp only [Bool.and_eq_true, Bool.or_eq_true, Bool.and_eq_false_iff, Bool.or_eq_false_iff, Bool.not_eq_true', Bool.not_eq_false', decide_eq_true_eq, decide_eq_false_iff_not, Classical.not_not] at h18_
    have x0_3 := x0_1.trans x19
    show tSs _ _ _ [some v_word, some v1_figures, none] _
    refine b_cons (s_ret x0_3.s (ev_none (α := Int)) fun G_ H_ v21 x20 _ r_ => ?_)
    exact fin.rt _ _ _ (x0_3.trans x20) (rep_of tk r_) (fun z => nomatch z)
  · have tk := tk_ff tk h18
    have h18_ := h18; try simp only [Bool.and_eq_true, Bool.or_eq_true, Bool.and_eq_false_iff, Bool.or_eq_false_iff, Bool.not_eq_true', Bool.not_eq_false', decide_eq_true_eq, decide_eq_false_iff_not, Classical.not_not] at h18_
    have x0_3 := x0_1.trans x19
    show tSs _ _ _ [some v_word, some v1_figures, none] _
    refine b_nil ?_
    show tSs _ _ _ [some v_word, some v1_figures, none] _
    refine b_cons (s_if x0_3.s (et_w (ew_and (et_cmp c_eqS (ev_ixS (by walk_at "sl") (by walk_at "sc") (by walk_at "ix") (ev_v (sl_lnum_figures) (up x19.g r1_figures)) ev_int) ev_str) fun c22 => (ew_and1 (et_cmp c_neS (ev_v (sl_lnum_word) (up (x1.g.trans x19.g) r_word)) ev_str)))) (fun h23 G4 H4 x24 l4 => ?_) (fun h23 G4 H4 x24 l4 => ?_))
    · have tk := tk_tt tk h23
      have h23_ := h23; try simp only [Bool.and_eq_true, Bool.or_eq_true, Bool.and_eq_false_iff, Bool.or_eq_false_iff, Bool.not_eq_true', Bool.not_eq_false', decide_eq_true_eq, decide_eq_false_iff_not, Classical.not_not] at h23_
      have x0_4 := x0_3.trans x24
      show tSs _ _ _ [some v_word, some v1_figures, none] _
      refine b_cons (s_ret x0_4.s (ev_none (α := Int)) fun G_ H_ v26 x25 _ r_ => ?_)
      exact fin.rt _ _ _ (x0_4.trans x25) (rep_of tk r_) (fun z => nomatch z)
    · have tk := tk_ff tk h23
      have h23_ := h23; try simp only [Bool.and_eq_true, Bool.or_eq_true, Bool.and_eq_false_iff, Bool.or_eq_false_iff, Bool.not_eq_true', Bool.not_eq_false', decide_eq_true_eq, decide_eq_false_iff_not, Classical.not_not] at h23_
      have x0_4 := x0_3.trans x24
      show tSs _ _ _ [some v_word, some v1_figures, none] _
      refine b_nil ?_
      show tSs _ _ _ [some v_word, some v1_figures, none] _
      refine b_cons (s_ret x0_4.s (ev_some (ev_intS ⟨gl_lnum_int, T.b_int⟩ (by walk_at "it") (by walk_at "il") (ev_v (sl_lnum_word) (up (x1.g.trans (x19.g.trans x24.g)) r_word)))) fun G_ H_ v28 x27 _ r_ => ?_)
      exact fin.rt _ _ _ (x0_4.trans x27) (rep_of tk r_) (fun z => nomatch z)
end

abbrev N_due_l : List Str := ["text", "found", "word"]
theorem sc_due_l : FnScope N_due_l ["text"] (defScope s__law_due) := ⟨rfl, rfl, rfl, by decide +kernel, rfl, by decide +kernel, by decide +kernel⟩
theorem sl_due_l_found {P : Program} {w : World} {K : PySem.W.Frag} {mg : Str → Option Value} {base : Heap} {f : Addr} {cdv : Value} {A : Around} {outer : List Env} {s : Shared} {H : Hp} {E : XK} : Sl (cxOf (L2.CX P w) P w K mg base N_due_l "_law_due" (defScope s__law_due) f cdv A outer s H E) 1 "found" := ⟨rfl, (by first | exact .inl rfl | exact .inr (.inl rfl)), nm_found⟩
theorem sl_due_l_text {P : Program} {w : World} {K : PySem.W.Frag} {mg : Str → Option Value} {base : Heap} {f : Addr} {cdv : Value} {A : Around} {outer : List Env} {s : Shared} {H : Hp} {E : XK} : Sl (cxOf (L2.CX P w) P w K mg base N_due_l "_law_due" (defScope s__law_due) f cdv A outer s H E) 0 "text" := ⟨rfl, (by first | exact .inl rfl | exact .inr (.inl rfl)), nm_text⟩
theorem ss_due_l_found {P : Program} {w : World} {K : PySem.W.Frag} {mg : Str → Option Value} {base : Heap} {f : Addr} {cdv : Value} {A : Around} {outer : List Env} {s : Shared} {H : Hp} {E : XK} : Ss (cxOf (L2.CX P w) P w K mg base N_due_l "_law_due" (defScope s__law_due) f cdv A outer s H E) 1 "found" := ⟨rfl, (by first | exact .inl rfl | exact .inr rfl), .inl rfl⟩
section
local macro_rules | `(tactic| walk_at "sl") => `(tactic| first | exact txt_line (by assumption) | decide | fail)
local macro_rules | `(tactic| walk_at "pre") => `(tactic| first | exact txt_word (by assumption) (by assumption) | fail)
local macro_rules | `(tactic| walk_at "un") => `(tactic| first | exact due_un (by assumption) (by assumption) (by assumption) | fail)
local macro_rules | `(tactic| walk_at "ik") => `(tactic| first | exact due_no (by assumption) (by assumption) (by assumption) | exact due_yes (by assumption) (by assumption) | fail)
local macro_rules | `(tactic| walk_at "no") => `(tactic| first | exact none_no (by assumption) (by assumption) | fail)
theorem cal_due_l {P : Program} {w : World} {K : PySem.W.Frag} {mg : Str → Option Value} {base : Heap} {f : Addr} {fd : FuncData} {c_RestError c_NoModulus c_NoCount c_NoPaper c_TooMany c_NoText c_NoForm c_NoneYet : Addr} (T : Txt K mg c_RestError c_NoModulus c_NoCount c_NoPaper c_TooMany c_NoText c_NoForm c_NoneYet) (F : Fun K "_law_due" "_law_due" s__law_due f fd) (hm : mg "_law_due" = some (.ref f)) (hb : Binds K fd ["text"] []) (C_lnum : Cal P w K mg base 1 "_law_number" (Sp1 K false (fun (word : Str) => ChkW word) m_lnum)) : Cal P w K mg base 2 "_law_due" (Sp1 K false (fun (text : Str) => TxtOk text ∧ GoodT text) m_due_l) := by
  refine fn1 F hm hb sc_due_l rfl fun cdv A outer s H0 E hr G0 v_text text D s0 r_text hp fin => ?_
  have x0_0 : Ext G0 H0 G0 H0 := Ext.refl s0
  show tSs _ _ D [some v_text, none, none] H0
  have hpc := hp; obtain ⟨hp_0, hp_1⟩ := hpc
  have tk : m_due_l text = _ := rfl
  refine b_cons (s_if x0_0.s (et_cmp c_eqS (ev_v (sl_due_l_text) r_text) ev_str) (fun h1 G1 H1 x2 l1 => ?_) (fun h1 G1 H1 x2 l1 => ?_))
  · have tk := tk_tt tk h1
    have h1_ := h1; try simp only [Bool.and_eq_true, Bool.or_eq_true, Bool.and_eq_false_iff, Bool.or_eq_false_iff, Bool.not_eq_true', Bool.not_eq_false', decide_eq_true_eq, decide_eq_false_iff_not, Classical.not_not] at h1_
    have x0_1 := x0_0.trans x2
    show tSs _ _ _ [some v_text, none, none] _
    refine b_cons (s_ret x0_1.s (ev_list (es_nil (α := Int))) fun G_ H_ v4 x3 _ r_ => ?_)
    exact fin.rt _ _ _ (x0_1.trans x3) (rep_of tk r_) (fun z => nomatch z)
  · have tk := tk_ff tk h1
    have h1_ := h1; try simp only [Bool.and_eq_true, Bool.or_eq_true, Bool.and_eq_false_iff, Bool.or_eq_false_iff, Bool.not_eq_true', Bool.not_eq_false', decide_eq_true_eq, decide_eq_false_iff_not, Classical.not_not] at h1_
    have x0_1 := x0_0.trans x2
    show tSs _ _ _ [some v_text, none, none] _
    refine b_nil ?_
    show tSs _ _ _ [some v_text, none, none] _
    refine b_cons (s_setLc sc_due_l.nd ss_due_l_found x0_1.s ((lc1A (fun (word : Str) => (m_lnum word)) rfl sc_due_l.nd (ei_list (ev_split (by decide) (by walk_at "sl") (ev_v (sl_due_l_text) (up x2.g r_text)) ev_str)) [("word", 2)] (blkOk_by (N := N_due_l) (sc := defScope s__law_due) (by decide +kernel)) (fun _ _ _ _ _ => pg_name (i := 2) sc_due_l.nd rfl (.inl rfl)) (fun word v16 G6 H7 hx8 x5 r17 s10 s11 s12 s13 s14 => (ev_c1 C_lnum (hr.mono (by decide)) (by rfl) (ev_v ((⟨rfl, .inl rfl, nm_word⟩ : Sl _ 2 _)) r17) (by walk_at "pre"))))) fun G3 H3 v3_found x18 l3 r3_found n3 => ?_)
    have x0_3 := x0_1.trans x18
    show tSs _ _ _ [some v_text, some v3_found, none] _
    obtain ⟨found, e19⟩ : ∃ z, z = ((Txt.split text (" " : Str)).map (fun (word : Str) => (m_lnum word))) := ⟨_, rfl⟩
    rw [← e19] at r3_found
    have tk : _ = m_due_l_1 found := tk.trans (by first | (rw [e19] <;> rfl) | rfl)
    have g_e19 := congrArg List.length e19; try simp only [List.length_append, List.length_cons, List.length_nil, rng_len, List.length_map, List.length_reverse, psort_len, isort_len] at g_e19
    refine b_cons (s_ret x0_3.s (ev_ifF (et_cmp (c_inD (hu65 hr)) (ev_none (α := Int)) (ev_v (sl_due_l_found) r3_found)) (by walk_at "ik") (ev_unsome (d := (0 : Int)) (by walk_at "un") (ev_v (sl_due_l_found) r3_found))) fun G_ H_ v21 x20 _ r_ => ?_)
    exact fin.rt _ _ _ (x0_3.trans x20) (rep_of tk r_) (fun z => nomatch z)
end

abbrev N_due_t : List Str := ["text", "found", "word"]
theorem sc_due_t : FnScope N_due_t ["text"] (defScope s__law_due) := ⟨rfl, rfl, rfl, by decide +kernel, rfl, by decide +kernel, by decide +kernel⟩
theorem sl_due_t_found {P : Program} {w : World} {K : PySem.W.Frag} {mg : Str → Option Value} {base : Heap} {f : Addr} {cdv : Value} {A : Around} {outer : List Env} {s : Shared} {H : Hp} {E : XK} : Sl (cxOf (L2.CX P w) P w K mg base N_due_t "_law_due" (defScope s__law_due) f cdv A outer s H E) 1 "found" := ⟨rfl, (by first | exact .inl rfl | exact .inr (.inl rfl)), nm_found⟩
theorem sl_due_t_text {P : Program} {w : World} {K : PySem.W.Frag} {mg : Str → Option Value} {base : Heap} {f : Addr} {cdv : Value} {A : Around} {outer : List Env} {s : Shared} {H : Hp} {E : XK} : Sl (cxOf (L2.CX P w) P w K mg base N_due_t "_law_due" (defScope s__law_due) f cdv A outer s H E) 0 "text" := ⟨rfl, (by first | exact .inl rfl | exact .inr (.inl rfl)), nm_text⟩
theorem ss_due_t_found {P : Program} {w : World} {K : PySem.W.Frag} {mg : Str → Option Value} {base : Heap} {f : Addr} {cdv : Value} {A : Around} {outer : List Env} {s : Shared} {H : Hp} {E : XK} : Ss (cxOf (L2.CX P w) P w K mg base N_due_t "_law_due" (defScope s__law_due) f cdv A outer s H E) 1 "found" := ⟨rfl, (by first | exact .inl rfl | exact .inr rfl), .inl rfl⟩
section
local macro_rules | `(tactic| walk_at "sl") => `(tactic| first | exact txt_line (by assumption) | decide | fail)
local macro_rules | `(tactic| walk_at "pre") => `(tactic| first | exact txt_word (by assumption) (by assumption) | fail)
local macro_rules | `(tactic| walk_at "un") => `(tactic| first | exact due_un (by assumption) (by assumption) (by assumption) | fail)
local macro_rules | `(tactic| walk_at "ik") => `(tactic| first | exact due_no (by assumption) (by assumption) (by assumption) | exact due_yes (by assumption) (by assumption) | fail)
local macro_rules | `(tactic| walk_at "no") => `(tactic| first | exact none_no (by assumption) (by assumption) | fail)
theorem cal_due_t {P : Program} {w : World} {K : PySem.W.Frag} {mg : Str → Option Value} {base : Heap} {f : Addr} {fd : FuncData} {c_RestError c_NoModulus c_NoCount c_NoPaper c_TooMany c_NoText c_NoForm c_NoneYet : Addr} (T : Txt K mg c_RestError c_NoModulus c_NoCount c_NoPaper c_TooMany c_NoText c_NoForm c_NoneYet) (F : Fun K "_law_due" "_law_due" s__law_due f fd) (hm : mg "_law_due" = some (.ref f)) (hb : Binds K fd ["text"] []) (C_lnum : Cal P w K mg base 1 "_law_number" (Sp1 K false (fun (word : Str) => ChkW word) m_lnum)) : Cal P w K mg base 2 "_law_due" (Sp1 K false (fun (text : Str) => TxtOk text ∧ ¬ GoodT text) m_due_t) := by
  refine fn1 F hm hb sc_due_t rfl fun cdv A outer s H0 E hr G0 v_text text D s0 r_text hp fin => ?_
  have x0_0 : Ext G0 H0 G0 H0 := Ext.refl s0
  show tSs _ _ D [some v_text, none, none] H0
  have hpc := hp; obtain ⟨hp_0, hp_1⟩ := hpc
  have tk : m_due_t text = _ := rfl
  refine b_cons (s_if x0_0.s (et_cmp c_eqS (ev_v (sl_due_t_text) r_text) ev_str) (fun h1 G1 H1 x2 l1 => ?_) (fun h1 G1 H1 x2 l1 => ?_))
  · have tk := tk_tt tk h1
    have h1_ := h1; try simp only [Bool.and_eq_true, Bool.or_eq_true, Bool.and_eq_false_iff, Bool.or_eq_false_iff, Bool.not_eq_true', Bool.not_eq_false', decide_eq_true_eq, decide_eq_false_iff_not, Classical.not_not] at h1_
    have x0_1 := x0_0.trans x2
    show tSs _ _ _ [some v_text, none, none] _
    exfalso; walk_at "no"
  · have tk := tk_ff tk h1
    have h1_ := h1; try simp only [Bool.and_eq_true, Bool.or_eq_true, Bool.and_eq_false_iff, Bool.or_eq_false_iff, Bool.not_eq_true', Bool.not_eq_false', decide_eq_true_eq, decide_eq_false_iff_not, Classical.not_not] at h1_
    have x0_1 := x0_0.trans x2
    show tSs _ _ _ [some v_text, none, none] _
    refine b_nil ?_
    show tSs _ _ _ [some v_text, none, none] _
    refine b_cons (s_setLc sc_due_t.nd ss_due_t_found x0_1.s ((lc1A (fun (word : Str) => (m_lnum word)) rfl sc_due_t.nd (ei_list (ev_split (by decide) (by walk_at "sl") (ev_v (sl_due_t_text) (up x2.g r_text)) ev_str)) [("word", 2)] (blkOk_by (N := N_due_t) (sc := defScope s__law_due) (by decide +kernel)) (fun _ _ _ _ _ => pg_name (i := 2) sc_due_t.nd rfl (.inl rfl)) (fun word v14 G4 H5 hx6 x3 r15 s8 s9 s10 s11 s12 => (ev_c1 C_lnum (hr.mono (by decide)) (by rfl) (ev_v ((⟨rfl, .inl rfl, nm_word⟩ : Sl _ 2 _)) r15) (by walk_at "pre"))))) fun G3 H3 v3_found x16 l3 r3_found n3 => ?_)
    have x0_3 := x0_1.trans x16
    show tSs _ _ _ [some v_text, some v3_found, none] _
    obtain ⟨found, e17⟩ : ∃ z, z = ((Txt.split text (" " : Str)).map (fun (word : Str) => (m_lnum word))) := ⟨_, rfl⟩
    rw [← e17] at r3_found
    have tk : _ = m_due_t_1 text := tk.trans (by first | (rw [e17] <;> rfl) | rfl)
    have g_e17 := congrArg List.length e17; try simp only [List.length_append, List.length_cons, List.length_nil, rng_len, List.length_map, List.length_reverse, psort_len, isort_len] at g_e17
    refine b_cons (s_ret x0_3.s (ev_ifT (et_cmp (c_inD (hu65 hr)) (ev_none (α := Int)) (ev_v (sl_due_t_found) r3_found)) (by walk_at "ik") ev_str) fun G_ H_ v19 x18 _ r_ => ?_)
    exact fin.rt _ _ _ (x0_3.trans x18) (rep_of tk r_) (fun z => nomatch z)
end

abbrev N_toldx : List Str := ["text", "found", "e", "k"]
theorem sc_toldx : FnScope N_toldx ["text"] (defScope s__law_told) := ⟨rfl, rfl, rfl, by decide +kernel, rfl, by decide +kernel, by decide +kernel⟩
theorem sl_toldx_found {P : Program} {w : World} {K : PySem.W.Frag} {mg : Str → Option Value} {base : Heap} {f : Addr} {cdv : Value} {A : Around} {outer : List Env} {s : Shared} {H : Hp} {E : XK} : Sl (cxOf (L2.CX P w) P w K mg base N_toldx "_law_told" (defScope s__law_told) f cdv A outer s H E) 1 "found" := ⟨rfl, (by first | exact .inl rfl | exact .inr (.inl rfl)), nm_found⟩
theorem ss_toldx_found {P : Program} {w : World} {K : PySem.W.Frag} {mg : Str → Option Value} {base : Heap} {f : Addr} {cdv : Value} {A : Around} {outer : List Env} {s : Shared} {H : Hp} {E : XK} : Ss (cxOf (L2.CX P w) P w K mg base N_toldx "_law_told" (defScope s__law_told) f cdv A outer s H E) 1 "found" := ⟨rfl, (by first | exact .inl rfl | exact .inr rfl), .inl rfl⟩
theorem gl_toldx_RestError {P : Program} {w : World} {K : PySem.W.Frag} {mg : Str → Option Value} {base : Heap} {f : Addr} {cdv : Value} {A : Around} {outer : List Env} {s : Shared} {H : Hp} {E : XK} : Gl (cxOf (L2.CX P w) P w K mg base N_toldx "_law_told" (defScope s__law_told) f cdv A outer s H E) "RestError" := by rfl
section
local macro_rules | `(tactic| walk_at "pre") => `(tactic| first | exact ⟨by assumption, by assumption⟩ | exact told_good (by assumption) (by assumption) | assumption | fail)
local macro_rules | `(tactic| walk_at "sc") => `(tactic| first | omega | (split <;> omega) | fail)
local macro_rules | `(tactic| walk_at "ix") => `(tactic| first | (split <;> decide) | fail)
theorem cal_toldx {P : Program} {w : World} {K : PySem.W.Frag} {mg : Str → Option Value} {base : Heap} {f : Addr} {fd : FuncData} {c_RestError c_NoModulus c_NoCount c_NoPaper c_TooMany c_NoText c_NoForm c_NoneYet : Addr} (T : Txt K mg c_RestError c_NoModulus c_NoCount c_NoPaper c_TooMany c_NoText c_NoForm c_NoneYet) (F : Fun K "_law_told" "_law_told" s__law_told f fd) (hm : mg "_law_told" = some (.ref f)) (hb : Binds K fd ["text"] []) (C_row_x : CalN P w K mg base 2 "read_row" (SpR1 K (fun (text : Str) => TxtOk text ∧ ¬ GoodT text) c_NoText)) (C_flags_x : FlE P w K mg base 1 "_law_flags" c_NoText m_flags_x) (C_read_row : Cal P w K mg base 2 "read_row" (Sp1 K true (fun (text : Str) => TxtOk text ∧ GoodT text) m_read_row)) : Cal P w K mg base 3 "_law_told" (Sp1 K false (fun (text : Str) => TxtOk text) m_toldx) := by
  refine fn1 F hm hb sc_toldx rfl fun cdv A outer s H0 E hr G0 v_text text D s0 r_text hp fin => ?_
  have x0_0 : Ext G0 H0 G0 H0 := Ext.refl s0
  show tSs _ _ D [some v_text, none, none, none] H0
  have tk : m_toldx text = _ := rfl
  refine b_cons (s_set sc_toldx.nd ss_toldx_found x0_0.s (ev_txN ev_unit) fun G1 H1 v1_found x1 l1 r1_found => ?_)
  have x0_1 := x0_0.trans x1
  show tSs _ _ _ [some v_text, some v1_found, none, none] _
  refine b_cons (s_tryN (i := 2) rfl rfl sc_toldx.nd rfl rfl ⟨gl_toldx_RestError, by decide, .inl T.x_RestError.g⟩ fun pn xe W_ hW tkk po => ?_)
  show tSs _ _ _ [some v_text, some v1_found, none, none] _
  rcases Bool.eq_false_or_eq_true (decide (TxtOk text ∧ ¬ GoodT text)) with h2 | h2
  · have tk := tk_tt tk h2
    have h2_ := h2; try simp only [decide_eq_true_eq, decide_eq_false_iff_not, Classical.not_not] at h2_
    refine b_cons (s_setR sc_toldx.nd (⟨rfl, (by first | exact .inl rfl | exact .inr rfl), .inl rfl⟩ : Ss _ 1 _) (evR_c1N C_row_x (hr.mono (by decide)) (by rfl) tkk x0_1.s (ev_v ((⟨rfl, (by first | exact .inl rfl | exact .inr (.inl rfl)), nm_text⟩ : Sl _ 0 _)) (up x1.g r_text)) (by walk_at "pre") fun G2 H2 x3 => ?_))
    have x0_2 := x0_1.trans x3
    refine hW _ _ _ T.m_NoText_RestError fun a_e oe_ pn_ ha_ hz_ hv_ => ?_
    show tSs _ _ _ [some v_text, some v1_found, some (.ref a_e), none] _
    refine b_cons (s_set sc_toldx.nd (⟨rfl, (by first | exact .inl rfl | exact .inr rfl), .inl rfl⟩ : Ss _ 1 _) x0_2.s (ev_txS (ev_ix ("" : Str) (ev_list (es_cons ev_str (es_cons ev_str es_nil))) (ev_intB ⟨(by rfl), T.b_int⟩ (ev_cmp (c_eqD (hu_mark hr)) (ev_flE C_flags_x (roomS (hr.mono (by decide))) (by rfl) (L2N.Zn.zc hz_) hv_ (List.mem_cons_self ..) ((⟨rfl, (by first | exact .inl rfl | exact .inr (.inl rfl)), nm_e_⟩ : Sl _ 2 _))) (ev_lcH (fun (k : Int) => (decide (k = (4 : Int)))) (hot_suite hz_ hv_) sc_toldx.nd ⟨(by rfl), T.b_range⟩ ev_int (by walk_at "sc") (by walk_at "sc") [("k", 3)] (blkOk_by (N := N_toldx) (sc := defScope s__law_told) (by decide +kernel)) (fun _ _ _ _ _ => pg_name (i := 3) sc_toldx.nd rfl (.inl rfl)) (fun k v15 G5 H6 hx7 x4 r16 s9 s10 s11 s12 s13 => (ev_cmp c_eq (ev_v ((⟨rfl, .inl rfl, nm_k⟩ : Sl _ 3 _)) r16) ev_int))))) (by walk_at "sc") (by walk_at "ix"))) fun G4 H4 v4_found x17 l4 r4_found => ?_)
    have x0_4 := x0_2.trans x17
    show tSs _ _ _ [some v_text, some v4_found, some (.ref a_e), none] _
    obtain ⟨found, e18⟩ : ∃ z, z = (TxL.s ((([("other" : Str), ("text" : Str)] : List Str)).getD ((if (decide (m_flags_x = ((rng 0 (8 : Int)).map (fun (k : Int) => (decide (k = (4 : Int))))))) = true then 1 else 0 : Int)).toNat ("" : Str))) := ⟨_, rfl⟩
    rw [← e18] at r4_found
    have tk : _ = m_toldx_1 found := tk.trans (by first | (rw [e18] <;> rfl) | rfl)
    refine b_nil ?_
    show tSs _ _ _ [some v_text, some v4_found, none, none] _
    refine b_cons (s_ret x0_4.s (ev_v (sl_toldx_found) r4_found) fun G_ H_ v20 x19 _ r_ => ?_)
    exact fin.rt _ _ _ (x0_4.trans x19) (rep_of tk r_) (fun z => nomatch z)
  · have tk := tk_ff tk h2
    have h2_ := h2; try simp only [decide_eq_true_eq, decide_eq_false_iff_not, Classical.not_not] at h2_
    refine b_cons (s_set sc_toldx.nd (⟨rfl, (by first | exact .inl rfl | exact .inr rfl), .inl rfl⟩ : Ss _ 1 _) x0_1.s (ev_txL (ev_c1 C_read_row (hr.mono (by decide)) (by rfl) (ev_v ((⟨rfl, (by first | exact .inl rfl | exact .inr (.inl rfl)), nm_text⟩ : Sl _ 0 _)) (up x1.g r_text)) (by walk_at "pre"))) fun G5 H5 v5_found x21 l5 r5_found => ?_)
    have x0_5 := x0_1.trans x21
    show tSs _ _ _ [some v_text, some v5_found, none, none] _
    obtain ⟨found, e22⟩ : ∃ z, z = (TxL.l (m_read_row text)) := ⟨_, rfl⟩
    rw [← e22] at r5_found
    have tk : _ = m_toldx_2 found := tk.trans (by first | (rw [e22] <;> rfl) | rfl)
    refine b_nil ?_
    show tSs _ _ _ [some v_text, some v5_found, none, none] _
    refine b_cons (s_ret x0_5.s (ev_v (sl_toldx_found) r5_found) fun G_ H_ v24 x23 _ r_ => ?_)
    exact fin.rt _ _ _ (x0_5.trans x23) (rep_of tk r_) (fun z => nomatch z)
end

abbrev N_right_l : List Str := ["text", "due"]
theorem sc_right_l : FnScope N_right_l ["text"] (defScope s__law_right) := ⟨rfl, rfl, rfl, by decide +kernel, rfl, by decide +kernel, by decide +kernel⟩
theorem sl_right_l_due {P : Program} {w : World} {K : PySem.W.Frag} {mg : Str → Option Value} {base : Heap} {f : Addr} {cdv : Value} {A : Around} {outer : List Env} {s : Shared} {H : Hp} {E : XK} : Sl (cxOf (L2.CX P w) P w K mg base N_right_l "_law_right" (defScope s__law_right) f cdv A outer s H E) 1 "due" := ⟨rfl, (by first | exact .inl rfl | exact .inr (.inl rfl)), nm_due⟩
theorem sl_right_l_text {P : Program} {w : World} {K : PySem.W.Frag} {mg : Str → Option Value} {base : Heap} {f : Addr} {cdv : Value} {A : Around} {outer : List Env} {s : Shared} {H : Hp} {E : XK} : Sl (cxOf (L2.CX P w) P w K mg base N_right_l "_law_right" (defScope s__law_right) f cdv A outer s H E) 0 "text" := ⟨rfl, (by first | exact .inl rfl | exact .inr (.inl rfl)), nm_text⟩
theorem ss_right_l_due {P : Program} {w : World} {K : PySem.W.Frag} {mg : Str → Option Value} {base : Heap} {f : Addr} {cdv : Value} {A : Around} {outer : List Env} {s : Shared} {H : Hp} {E : XK} : Ss (cxOf (L2.CX P w) P w K mg base N_right_l "_law_right" (defScope s__law_right) f cdv A outer s H E) 1 "due" := ⟨rfl, (by first | exact .inl rfl | exact .inr rfl), .inl rfl⟩
theorem gl_right_l__law_due {P : Program} {w : World} {K : PySem.W.Frag} {mg : Str → Option Value} {base : Heap} {f : Addr} {cdv : Value} {A : Around} {outer : List Env} {s : Shared} {H : Hp} {E : XK} : Gl (cxOf (L2.CX P w) P w K mg base N_right_l "_law_right" (defScope s__law_right) f cdv A outer s H E) "_law_due" := by rfl
theorem gl_right_l__law_same {P : Program} {w : World} {K : PySem.W.Frag} {mg : Str → Option Value} {base : Heap} {f : Addr} {cdv : Value} {A : Around} {outer : List Env} {s : Shared} {H : Hp} {E : XK} : Gl (cxOf (L2.CX P w) P w K mg base N_right_l "_law_right" (defScope s__law_right) f cdv A outer s H E) "_law_same" := by rfl
theorem gl_right_l__law_told {P : Program} {w : World} {K : PySem.W.Frag} {mg : Str → Option Value} {base : Heap} {f : Addr} {cdv : Value} {A : Around} {outer : List Env} {s : Shared} {H : Hp} {E : XK} : Gl (cxOf (L2.CX P w) P w K mg base N_right_l "_law_right" (defScope s__law_right) f cdv A outer s H E) "_law_told" := by rfl
section
local macro_rules | `(tactic| walk_at "pre") => `(tactic| first | trivial | exact ⟨by assumption, by assumption⟩ | assumption | fail)
local macro_rules | `(tactic| walk_at "tx") => `(tactic| first | exact told_l (by assumption) (by assumption) | exact told_s (by assumption) (by assumption) | fail)
theorem cal_right_l {P : Program} {w : World} {K : PySem.W.Frag} {mg : Str → Option Value} {base : Heap} {f : Addr} {fd : FuncData} {c_RestError c_NoModulus c_NoCount c_NoPaper c_TooMany c_NoText c_NoForm c_NoneYet : Addr} (T : Txt K mg c_RestError c_NoModulus c_NoCount c_NoPaper c_TooMany c_NoText c_NoForm c_NoneYet) (F : Fun K "_law_right" "_law_right" s__law_right f fd) (hm : mg "_law_right" = some (.ref f)) (hb : Binds K fd ["text"] []) (C_due_l : Cal P w K mg base 2 "_law_due" (Sp1 K false (fun (text : Str) => TxtOk text ∧ GoodT text) m_due_l)) (C_toldx : Cal P w K mg base 3 "_law_told" (Sp1 K false (fun (text : Str) => TxtOk text) m_toldx)) (C_same_l : Cal P w K mg base 2 "_law_same" (Sp2 K false (fun (found : (List Int)) (due : (List Int)) => True) m_same_l)) : Cal P w K mg base 4 "_law_right" (Sp1 K false (fun (text : Str) => TxtOk text ∧ GoodT text) m_right_l) := by
  refine fn1 F hm hb sc_right_l rfl fun cdv A outer s H0 E hr G0 v_text text D s0 r_text hp fin => ?_
  have x0_0 : Ext G0 H0 G0 H0 := Ext.refl s0
  show tSs _ _ D [some v_text, none] H0
  have hpc := hp; obtain ⟨hp_0, hp_1⟩ := hpc
  have tk : m_right_l text = _ := rfl
  refine b_cons (s_set sc_right_l.nd ss_right_l_due x0_0.s (ev_c1 C_due_l (hr.mono (by decide)) gl_right_l__law_due (ev_v (sl_right_l_text) r_text) (by walk_at "pre")) fun G1 H1 v1_due x1 l1 r1_due => ?_)
  have x0_1 := x0_0.trans x1
  show tSs _ _ _ [some v_text, some v1_due] _
  refine b_cons (s_ret x0_1.s (ev_and (ev_c2 C_same_l (hr.mono (by decide)) gl_right_l__law_same (ev_gl (by walk_at "tx") (ev_c1 C_toldx (hr.mono (by decide)) gl_right_l__law_told (ev_v (sl_right_l_text) (up x1.g r_text)) (by walk_at "pre"))) (ev_v (sl_right_l_due) r1_due) (by walk_at "pre")) fun c2 => (ev_bo1 (ev_c2 C_same_l (hr.mono (by decide)) gl_right_l__law_same (ev_gl (by walk_at "tx") (ev_c1 C_toldx (hr.mono (by decide)) gl_right_l__law_told (ev_v (sl_right_l_text) (up x1.g r_text)) (by walk_at "pre"))) (ev_v (sl_right_l_due) r1_due) (by walk_at "pre")))) fun G_ H_ v4 x3 _ r_ => ?_)
  exact fin.rt _ _ _ (x0_1.trans x3) (rep_of tk r_) (fun z => nomatch z)
end

abbrev N_right_t : List Str := ["text", "due"]
theorem sc_right_t : FnScope N_right_t ["text"] (defScope s__law_right) := ⟨rfl, rfl, rfl, by decide +kernel, rfl, by decide +kernel, by decide +kernel⟩
theorem sl_right_t_due {P : Program} {w : World} {K : PySem.W.Frag} {mg : Str → Option Value} {base : Heap} {f : Addr} {cdv : Value} {A : Around} {outer : List Env} {s : Shared} {H : Hp} {E : XK} : Sl (cxOf (L2.CX P w) P w K mg base N_right_t "_law_right" (defScope s__law_right) f cdv A outer s H E) 1 "due" := ⟨rfl, (by first | exact .inl rfl | exact .inr (.inl rfl)), nm_due⟩
theorem sl_right_t_text {P : Program} {w : World} {K : PySem.W.Frag} {mg : Str → Option Value} {base : Heap} {f : Addr} {cdv : Value} {A : Around} {outer : List Env} {s : Shared} {H : Hp} {E : XK} : Sl (cxOf (L2.CX P w) P w K mg base N_right_t "_law_right" (defScope s__law_right) f cdv A outer s H E) 0 "text" := ⟨rfl, (by first | exact .inl rfl | exact .inr (.inl rfl)), nm_text⟩
theorem ss_right_t_due {P : Program} {w : World} {K : PySem.W.Frag} {mg : Str → Option Value} {base : Heap} {f : Addr} {cdv : Value} {A : Around} {outer : List Env} {s : Shared} {H : Hp} {E : XK} : Ss (cxOf (L2.CX P w) P w K mg base N_right_t "_law_right" (defScope s__law_right) f cdv A outer s H E) 1 "due" := ⟨rfl, (by first | exact .inl rfl | exact .inr rfl), .inl rfl⟩
theorem gl_right_t__law_due {P : Program} {w : World} {K : PySem.W.Frag} {mg : Str → Option Value} {base : Heap} {f : Addr} {cdv : Value} {A : Around} {outer : List Env} {s : Shared} {H : Hp} {E : XK} : Gl (cxOf (L2.CX P w) P w K mg base N_right_t "_law_right" (defScope s__law_right) f cdv A outer s H E) "_law_due" := by rfl
theorem gl_right_t__law_same {P : Program} {w : World} {K : PySem.W.Frag} {mg : Str → Option Value} {base : Heap} {f : Addr} {cdv : Value} {A : Around} {outer : List Env} {s : Shared} {H : Hp} {E : XK} : Gl (cxOf (L2.CX P w) P w K mg base N_right_t "_law_right" (defScope s__law_right) f cdv A outer s H E) "_law_same" := by rfl
theorem gl_right_t__law_told {P : Program} {w : World} {K : PySem.W.Frag} {mg : Str → Option Value} {base : Heap} {f : Addr} {cdv : Value} {A : Around} {outer : List Env} {s : Shared} {H : Hp} {E : XK} : Gl (cxOf (L2.CX P w) P w K mg base N_right_t "_law_right" (defScope s__law_right) f cdv A outer s H E) "_law_told" := by rfl
section
local macro_rules | `(tactic| walk_at "pre") => `(tactic| first | trivial | exact ⟨by assumption, by assumption⟩ | assumption | fail)
local macro_rules | `(tactic| walk_at "tx") => `(tactic| first | exact told_l (by assumption) (by assumption) | exact told_s (by assumption) (by assumption) | fail)
theorem cal_right_t {P : Program} {w : World} {K : PySem.W.Frag} {mg : Str → Option Value} {base : Heap} {f : Addr} {fd : FuncData} {c_RestError c_NoModulus c_NoCount c_NoPaper c_TooMany c_NoText c_NoForm c_NoneYet : Addr} (T : Txt K mg c_RestError c_NoModulus c_NoCount c_NoPaper c_TooMany c_NoText c_NoForm c_NoneYet) (F : Fun K "_law_right" "_law_right" s__law_right f fd) (hm : mg "_law_right" = some (.ref f)) (hb : Binds K fd ["text"] []) (C_due_t : Cal P w K mg base 2 "_law_due" (Sp1 K false (fun (text : Str) => TxtOk text ∧ ¬ GoodT text) m_due_t)) (C_toldx : Cal P w K mg base 3 "_law_told" (Sp1 K false (fun (text : Str) => TxtOk text) m_toldx)) (C_same_s : Cal P w K mg base 1 "_law_same" (Sp2 K false (fun (found : Str) (due : Str) => True) m_same_s)) : Cal P w K mg base 4 "_law_right" (Sp1 K false (fun (text : Str) => TxtOk text ∧ ¬ GoodT text) m_right_t) := by
  refine fn1 F hm hb sc_right_t rfl fun cdv A outer s H0 E hr G0 v_text text D s0 r_text hp fin => ?_
  have x0_0 : Ext G0 H0 G0 H0 := Ext.refl s0
  show tSs _ _ D [some v_text, none] H0
  have hpc := hp; obtain ⟨hp_0, hp_1⟩ := hpc
  have tk : m_right_t text = _ := rfl
  refine b_cons (s_set sc_right_t.nd ss_right_t_due x0_0.s (ev_c1 C_due_t (hr.mono (by decide)) gl_right_t__law_due (ev_v (sl_right_t_text) r_text) (by walk_at "pre")) fun G1 H1 v1_due x1 l1 r1_due => ?_)
  have x0_1 := x0_0.trans x1
  show tSs _ _ _ [some v_text, some v1_due] _
  refine b_cons (s_ret x0_1.s (ev_and (ev_c2 C_same_s (hr.mono (by decide)) gl_right_t__law_same (ev_gs (by walk_at "tx") (ev_c1 C_toldx (hr.mono (by decide)) gl_right_t__law_told (ev_v (sl_right_t_text) (up x1.g r_text)) (by walk_at "pre"))) (ev_v (sl_right_t_due) r1_due) (by walk_at "pre")) fun c2 => (ev_bo1 (ev_c2 C_same_s (hr.mono (by decide)) gl_right_t__law_same (ev_gs (by walk_at "tx") (ev_c1 C_toldx (hr.mono (by decide)) gl_right_t__law_told (ev_v (sl_right_t_text) (up x1.g r_text)) (by walk_at "pre"))) (ev_v (sl_right_t_due) r1_due) (by walk_at "pre")))) fun G_ H_ v4 x3 _ r_ => ?_)
  exact fin.rt _ _ _ (x0_1.trans x3) (rep_of tk r_) (fun z => nomatch z)
end

abbrev N_q_text : List Str := ["row", "number"]
theorem sc_q_text : FnScope N_q_text ["row"] (defScope s__law_text) := ⟨rfl, rfl, rfl, by decide +kernel, rfl, by decide +kernel, by decide +kernel⟩
theorem sl_q_text_row {P : Program} {w : World} {K : PySem.W.Frag} {mg : Str → Option Value} {base : Heap} {f : Addr} {cdv : Value} {A : Around} {outer : List Env} {s : Shared} {H : Hp} {E : XK} : Sl (cxOf (L2.CX P w) P w K mg base N_q_text "_law_text" (defScope s__law_text) f cdv A outer s H E) 0 "row" := ⟨rfl, (by first | exact .inl rfl | exact .inr (.inl rfl)), nm_row⟩
section
local macro_rules | `(tactic| walk_at "lg") => `(tactic| first | exact short_lg (by with_reducible assumption) (by with_reducible assumption) | fail)
local macro_rules | `(tactic| walk_at "jn") => `(tactic| first | exact short_jn (by with_reducible assumption) (by decide) | fail)
theorem cal_q_text {P : Program} {w : World} {K : PySem.W.Frag} {mg : Str → Option Value} {base : Heap} {f : Addr} {fd : FuncData} {c_RestError c_NoModulus c_NoCount c_NoPaper c_TooMany c_NoText c_NoForm c_NoneYet : Addr} (T : Txt K mg c_RestError c_NoModulus c_NoCount c_NoPaper c_TooMany c_NoText c_NoForm c_NoneYet) (F : Fun K "_law_text" "_law_text" s__law_text f fd) (hm : mg "_law_text" = some (.ref f)) (hb : Binds K fd ["row"] [])  : Cal P w K mg base 1 "_law_text" (Sp1 K false (fun (row : (List Int)) => ShortRow row) m_q_text) := by
  refine fn1 F hm hb sc_q_text rfl fun cdv A outer s H0 E hr G0 v_row row D s0 r_row hp fin => ?_
  have x0_0 : Ext G0 H0 G0 H0 := Ext.refl s0
  show tSs _ _ D [some v_row, none] H0
  have tk : m_q_text row = _ := rfl
  refine b_cons (s_if x0_0.s (et_cmp (c_eqD (hu_of64 hr)) (ev_v (sl_q_text_row) r_row) (ev_list (es_nil (α := Int)))) (fun h1 G1 H1 x2 l1 => ?_) (fun h1 G1 H1 x2 l1 => ?_))
  · have tk := tk_tt tk h1
    have h1_ := h1; try simp only [Bool.and_eq_true, Bool.or_eq_true, Bool.and_eq_false_iff, Bool.or_eq_false_iff, Bool.not_eq_true', Bool.not_eq_false', decide_eq_true_eq, decide_eq_false_iff_not, Classical.not_not] at h1_
    have x0_1 := x0_0.trans x2
    show tSs _ _ _ [some v_row, none] _
    refine b_cons (s_ret x0_1.s ev_str fun G_ H_ v4 x3 _ r_ => ?_)
    exact fin.rt _ _ _ (x0_1.trans x3) (rep_of tk r_) (fun z => nomatch z)
  · have tk := tk_ff tk h1
    have h1_ := h1; try simp only [Bool.and_eq_true, Bool.or_eq_true, Bool.and_eq_false_iff, Bool.or_eq_false_iff, Bool.not_eq_true', Bool.not_eq_false', decide_eq_true_eq, decide_eq_false_iff_not, Classical.not_not] at h1_
    have x0_1 := x0_0.trans x2
    show tSs _ _ _ [some v_row, none] _
    refine b_nil ?_
    show tSs _ _ _ [some v_row, none] _
    refine b_cons (s_ret x0_1.s (ev_join (by walk_at "jn") ev_str (ev_lc (lc1A (fun (number : Int) => (tos number)) rfl sc_q_text.nd (ei_list (ev_v (sl_q_text_row) (up x2.g r_row))) [("number", 1)] (blkOk_by (N := N_q_text) (sc := defScope s__law_text) (by decide +kernel)) (fun _ _ _ _ _ => pg_name (i := 1) sc_q_text.nd rfl (.inl rfl)) (fun number v16 G6 H7 hx8 x5 r17 s10 s11 s12 s13 s14 => (ev_strI ⟨(by rfl), T.b_str⟩ (by walk_at "lg") (ev_v ((⟨rfl, .inl rfl, nm_number⟩ : Sl _ 1 _)) r17)))))) fun G_ H_ v19 x18 _ r_ => ?_)
    exact fin.rt _ _ _ (x0_1.trans x18) (rep_of tk r_) (fun z => nomatch z)
end

abbrev N_sign : List Str := ["cell", "k", "wide", "menu"]
theorem sc_sign : FnScope N_sign ["cell", "k"] (defScope s__law_sign) := ⟨rfl, rfl, rfl, by decide +kernel, rfl, by decide +kernel, by decide +kernel⟩
theorem sl_sign_cell {P : Program} {w : World} {K : PySem.W.Frag} {mg : Str → Option Value} {base : Heap} {f : Addr} {cdv : Value} {A : Around} {outer : List Env} {s : Shared} {H : Hp} {E : XK} : Sl (cxOf (L2.CX P w) P w K mg base N_sign "_law_sign" (defScope s__law_sign) f cdv A outer s H E) 0 "cell" := ⟨rfl, (by first | exact .inl rfl | exact .inr (.inl rfl)), nm_cell⟩
theorem sl_sign_k {P : Program} {w : World} {K : PySem.W.Frag} {mg : Str → Option Value} {base : Heap} {f : Addr} {cdv : Value} {A : Around} {outer : List Env} {s : Shared} {H : Hp} {E : XK} : Sl (cxOf (L2.CX P w) P w K mg base N_sign "_law_sign" (defScope s__law_sign) f cdv A outer s H E) 1 "k" := ⟨rfl, (by first | exact .inl rfl | exact .inr (.inl rfl)), nm_k⟩
theorem sl_sign_menu {P : Program} {w : World} {K : PySem.W.Frag} {mg : Str → Option Value} {base : Heap} {f : Addr} {cdv : Value} {A : Around} {outer : List Env} {s : Shared} {H : Hp} {E : XK} : Sl (cxOf (L2.CX P w) P w K mg base N_sign "_law_sign" (defScope s__law_sign) f cdv A outer s H E) 3 "menu" := ⟨rfl, (by first | exact .inl rfl | exact .inr (.inl rfl)), nm_menu⟩
theorem sl_sign_wide {P : Program} {w : World} {K : PySem.W.Frag} {mg : Str → Option Value} {base : Heap} {f : Addr} {cdv : Value} {A : Around} {outer : List Env} {s : Shared} {H : Hp} {E : XK} : Sl (cxOf (L2.CX P w) P w K mg base N_sign "_law_sign" (defScope s__law_sign) f cdv A outer s H E) 2 "wide" := ⟨rfl, (by first | exact .inl rfl | exact .inr (.inl rfl)), nm_wide⟩
theorem ss_sign_wide {P : Program} {w : World} {K : PySem.W.Frag} {mg : Str → Option Value} {base : Heap} {f : Addr} {cdv : Value} {A : Around} {outer : List Env} {s : Shared} {H : Hp} {E : XK} : Ss (cxOf (L2.CX P w) P w K mg base N_sign "_law_sign" (defScope s__law_sign) f cdv A outer s H E) 2 "wide" := ⟨rfl, (by first | exact .inl rfl | exact .inr rfl), .inl rfl⟩
theorem ss_sign_menu {P : Program} {w : World} {K : PySem.W.Frag} {mg : Str → Option Value} {base : Heap} {f : Addr} {cdv : Value} {A : Around} {outer : List Env} {s : Shared} {H : Hp} {E : XK} : Ss (cxOf (L2.CX P w) P w K mg base N_sign "_law_sign" (defScope s__law_sign) f cdv A outer s H E) 3 "menu" := ⟨rfl, (by first | exact .inl rfl | exact .inr rfl), .inl rfl⟩
theorem gl_sign__law_stir {P : Program} {w : World} {K : PySem.W.Frag} {mg : Str → Option Value} {base : Heap} {f : Addr} {cdv : Value} {A : Around} {outer : List Env} {s : Shared} {H : Hp} {E : XK} : Gl (cxOf (L2.CX P w) P w K mg base N_sign "_law_sign" (defScope s__law_sign) f cdv A outer s H E) "_law_stir" := by rfl
theorem gl_sign_len {P : Program} {w : World} {K : PySem.W.Frag} {mg : Str → Option Value} {base : Heap} {f : Addr} {cdv : Value} {A : Around} {outer : List Env} {s : Shared} {H : Hp} {E : XK} : Gl (cxOf (L2.CX P w) P w K mg base N_sign "_law_sign" (defScope s__law_sign) f cdv A outer s H E) "len" := by rfl
section
local macro_rules | `(tactic| walk_at "sl") => `(tactic| first | (rw [sizeLine_eq]; omega) | (subst_vars; decide +kernel) | fail)
local macro_rules | `(tactic| walk_at "ix") => `(tactic| first | omega | exact Int.emod_lt_of_pos _ (by omega) | fail)
local macro_rules | `(tactic| walk_at "sc") => `(tactic| first | omega | exact Int.emod_nonneg _ (by omega) | fail)
theorem cal_sign {P : Program} {w : World} {K : PySem.W.Frag} {mg : Str → Option Value} {base : Heap} {f : Addr} {fd : FuncData} {c_RestError c_NoModulus c_NoCount c_NoPaper c_TooMany c_NoText c_NoForm c_NoneYet : Addr} (T : Txt K mg c_RestError c_NoModulus c_NoCount c_NoPaper c_TooMany c_NoText c_NoForm c_NoneYet) (F : Fun K "_law_sign" "_law_sign" s__law_sign f fd) (hm : mg "_law_sign" = some (.ref f)) (hb : Binds K fd ["cell", "k"] []) (C_q_stir : Cal P w K mg base 1 "_law_stir" (Sp2 K false (fun (cell : Int) (k : Int) => 0 ≤ k) m_q_stir)) : Cal P w K mg base 2 "_law_sign" (Sp2 K false (fun (cell : Int) (k : Int) => 0 ≤ k) m_sign) := by
  refine fn2 F hm hb sc_sign rfl fun cdv A outer s H0 E hr G0 v_cell v_k cell k D s0 r_cell r_k hp fin => ?_
  have x0_0 : Ext G0 H0 G0 H0 := Ext.refl s0
  show tSs _ _ D [some v_cell, some v_k, none, none] H0
  have tk : m_sign cell k = _ := rfl
  refine b_cons (s_set sc_sign.nd ss_sign_wide x0_0.s ev_str fun G1 H1 v1_wide x1 l1 r1_wide => ?_)
  have x0_1 := x0_0.trans x1
  show tSs _ _ _ [some v_cell, some v_k, some v1_wide, none] _
  obtain ⟨wide, e2⟩ : ∃ z, z = (" !\"#$&'()*+,-./0123456789:;<=>?@ABCDEFGHIJKLMNOP" : Str) := ⟨_, rfl⟩
  rw [← e2] at r1_wide
  have tk : _ = m_sign_1 cell k wide := tk.trans (by first | (rw [e2] <;> rfl) | rfl)
  refine b_cons (s_set sc_sign.nd ss_sign_wide x0_1.s (ev_bin (b_catS (by walk_at "sl")) (ev_v (sl_sign_wide) r1_wide) ev_str) fun G2 H2 v2_wide x3 l2 r2_wide => ?_)
  have x0_2 := x0_1.trans x3
  show tSs _ _ _ [some v_cell, some v_k, some v2_wide, none] _
  obtain ⟨wide, e4⟩ : ∃ z, z = (wide ++ ("QRSTUVWXYZ[\\]^_`abcdefghijklmnopqrstuvwxyz{|}~\n" : Str)) := ⟨_, rfl⟩
  rw [← e4] at r2_wide
  have tk : _ = m_sign_2 cell k wide := tk.trans (by first | (rw [e4] <;> rfl) | rfl)
  have fc5 := post_q_stir cell k (by walk_at "pre")
  refine b_cons (s_set sc_sign.nd ss_sign_menu x0_2.s (ev_ix ("" : Str) (ev_list (es_cons ev_str (es_cons (ev_v (sl_sign_wide) r2_wide) es_nil))) (ev_bin (b_mod (by walk_at "sc")) (ev_c2 C_q_stir (hr.mono (by decide)) gl_sign__law_stir (ev_v (sl_sign_cell) (up (x1.g.trans x3.g) r_cell)) (ev_v (sl_sign_k) (up (x1.g.trans x3.g) r_k)) (by walk_at "pre")) ev_int) (by walk_at "sc") (by have := post_q_stir cell k (by walk_at "pre"); walk_at "ix")) fun G3 H3 v3_menu x6 l3 r3_menu => ?_)
  have x0_3 := x0_2.trans x6
  show tSs _ _ _ [some v_cell, some v_k, some v2_wide, some v3_menu] _
  obtain ⟨menu, e7⟩ : ∃ z, z = ((([("0019 --no" : Str), wide] : List Str)).getD (((m_q_stir cell k) % (2 : Int))).toNat ("" : Str)) := ⟨_, rfl⟩
  rw [← e7] at r3_menu
  have tk : _ = m_sign_3 cell k menu := tk.trans (by first | (rw [e7] <;> rfl) | rfl)
  have f_e7 : 1 ≤ menu.length ∧ menu.length ≤ 100 := by rw [e7]; exact menu_ok (by omega) (by decide +kernel) (by subst_vars; decide +kernel)
  refine b_cons (s_ret x0_3.s (ev_ixS (by walk_at "sl") (by walk_at "sc") (by have := post_q_stir cell (k + (1 : Int)) (by walk_at "pre"); walk_at "ix") (ev_v (sl_sign_menu) r3_menu) (ev_bin (b_mod (by walk_at "sc")) (ev_c2 C_q_stir (hr.mono (by decide)) gl_sign__law_stir (ev_v (sl_sign_cell) (up (x1.g.trans (x3.g.trans x6.g)) r_cell)) (ev_bin b_add (ev_v (sl_sign_k) (up (x1.g.trans (x3.g.trans x6.g)) r_k)) ev_int) (by walk_at "pre")) (ev_lenS ⟨gl_sign_len, T.b_len⟩ (by walk_at "sl") (ev_v (sl_sign_menu) r3_menu)))) fun G_ H_ v9 x8 _ r_ => ?_)
  exact fin.rt _ _ _ (x0_3.trans x8) (rep_of tk r_) (fun z => nomatch z)
end

abbrev N_spoilt : List Str := ["cell", "k", "text", "at", "kind", "words", "one", "other", "odd"]
theorem sc_spoilt : FnScope N_spoilt ["cell", "k", "text"] (defScope s__law_spoilt) := ⟨rfl, rfl, rfl, by decide +kernel, rfl, by decide +kernel, by decide +kernel⟩
theorem sl_spoilt_at_ {P : Program} {w : World} {K : PySem.W.Frag} {mg : Str → Option Value} {base : Heap} {f : Addr} {cdv : Value} {A : Around} {outer : List Env} {s : Shared} {H : Hp} {E : XK} : Sl (cxOf (L2.CX P w) P w K mg base N_spoilt "_law_spoilt" (defScope s__law_spoilt) f cdv A outer s H E) 3 "at" := ⟨rfl, (by first | exact .inl rfl | exact .inr (.inl rfl)), nm_at_⟩
theorem sl_spoilt_cell {P : Program} {w : World} {K : PySem.W.Frag} {mg : Str → Option Value} {base : Heap} {f : Addr} {cdv : Value} {A : Around} {outer : List Env} {s : Shared} {H : Hp} {E : XK} : Sl (cxOf (L2.CX P w) P w K mg base N_spoilt "_law_spoilt" (defScope s__law_spoilt) f cdv A outer s H E) 0 "cell" := ⟨rfl, (by first | exact .inl rfl | exact .inr (.inl rfl)), nm_cell⟩
theorem sl_spoilt_k {P : Program} {w : World} {K : PySem.W.Frag} {mg : Str → Option Value} {base : Heap} {f : Addr} {cdv : Value} {A : Around} {outer : List Env} {s : Shared} {H : Hp} {E : XK} : Sl (cxOf (L2.CX P w) P w K mg base N_spoilt "_law_spoilt" (defScope s__law_spoilt) f cdv A outer s H E) 1 "k" := ⟨rfl, (by first | exact .inl rfl | exact .inr (.inl rfl)), nm_k⟩
theorem sl_spoilt_kind {P : Program} {w : World} {K : PySem.W.Frag} {mg : Str → Option Value} {base : Heap} {f : Addr} {cdv : Value} {A : Around} {outer : List Env} {s : Shared} {H : Hp} {E : XK} : Sl (cxOf (L2.CX P w) P w K mg base N_spoilt "_law_spoilt" (defScope s__law_spoilt) f cdv A outer s H E) 4 "kind" := ⟨rfl, (by first | exact .inl rfl | exact .inr (.inl rfl)), nm_kind⟩
theorem sl_spoilt_odd {P : Program} {w : World} {K : PySem.W.Frag} {mg : Str → Option Value} {base : Heap} {f : Addr} {cdv : Value} {A : Around} {outer : List Env} {s : Shared} {H : Hp} {E : XK} : Sl (cxOf (L2.CX P w) P w K mg base N_spoilt "_law_spoilt" (defScope s__law_spoilt) f cdv A outer s H E) 8 "odd" := ⟨rfl, (by first | exact .inl rfl | exact .inr (.inl rfl)), nm_odd⟩
theorem sl_spoilt_one {P : Program} {w : World} {K : PySem.W.Frag} {mg : Str → Option Value} {base : Heap} {f : Addr} {cdv : Value} {A : Around} {outer : List Env} {s : Shared} {H : Hp} {E : XK} : Sl (cxOf (L2.CX P w) P w K mg base N_spoilt "_law_spoilt" (defScope s__law_spoilt) f cdv A outer s H E) 6 "one" := ⟨rfl, (by first | exact .inl rfl | exact .inr (.inl rfl)), nm_one⟩
theorem sl_spoilt_other {P : Program} {w : World} {K : PySem.W.Frag} {mg : Str → Option Value} {base : Heap} {f : Addr} {cdv : Value} {A : Around} {outer : List Env} {s : Shared} {H : Hp} {E : XK} : Sl (cxOf (L2.CX P w) P w K mg base N_spoilt "_law_spoilt" (defScope s__law_spoilt) f cdv A outer s H E) 7 "other" := ⟨rfl, (by first | exact .inl rfl | exact .inr (.inl rfl)), nm_other⟩
theorem sl_spoilt_text {P : Program} {w : World} {K : PySem.W.Frag} {mg : Str → Option Value} {base : Heap} {f : Addr} {cdv : Value} {A : Around} {outer : List Env} {s : Shared} {H : Hp} {E : XK} : Sl (cxOf (L2.CX P w) P w K mg base N_spoilt "_law_spoilt" (defScope s__law_spoilt) f cdv A outer s H E) 2 "text" := ⟨rfl, (by first | exact .inl rfl | exact .inr (.inl rfl)), nm_text⟩
theorem sl_spoilt_words {P : Program} {w : World} {K : PySem.W.Frag} {mg : Str → Option Value} {base : Heap} {f : Addr} {cdv : Value} {A : Around} {outer : List Env} {s : Shared} {H : Hp} {E : XK} : Sl (cxOf (L2.CX P w) P w K mg base N_spoilt "_law_spoilt" (defScope s__law_spoilt) f cdv A outer s H E) 5 "words" := ⟨rfl, (by first | exact .inl rfl | exact .inr (.inl rfl)), nm_words⟩
theorem ss_spoilt_at_ {P : Program} {w : World} {K : PySem.W.Frag} {mg : Str → Option Value} {base : Heap} {f : Addr} {cdv : Value} {A : Around} {outer : List Env} {s : Shared} {H : Hp} {E : XK} : Ss (cxOf (L2.CX P w) P w K mg base N_spoilt "_law_spoilt" (defScope s__law_spoilt) f cdv A outer s H E) 3 "at" := ⟨rfl, (by first | exact .inl rfl | exact .inr rfl), .inl rfl⟩
theorem ss_spoilt_kind {P : Program} {w : World} {K : PySem.W.Frag} {mg : Str → Option Value} {base : Heap} {f : Addr} {cdv : Value} {A : Around} {outer : List Env} {s : Shared} {H : Hp} {E : XK} : Ss (cxOf (L2.CX P w) P w K mg base N_spoilt "_law_spoilt" (defScope s__law_spoilt) f cdv A outer s H E) 4 "kind" := ⟨rfl, (by first | exact .inl rfl | exact .inr rfl), .inl rfl⟩
theorem ss_spoilt_words {P : Program} {w : World} {K : PySem.W.Frag} {mg : Str → Option Value} {base : Heap} {f : Addr} {cdv : Value} {A : Around} {outer : List Env} {s : Shared} {H : Hp} {E : XK} : Ss (cxOf (L2.CX P w) P w K mg base N_spoilt "_law_spoilt" (defScope s__law_spoilt) f cdv A outer s H E) 5 "words" := ⟨rfl, (by first | exact .inl rfl | exact .inr rfl), .inl rfl⟩
theorem ss_spoilt_one {P : Program} {w : World} {K : PySem.W.Frag} {mg : Str → Option Value} {base : Heap} {f : Addr} {cdv : Value} {A : Around} {outer : List Env} {s : Shared} {H : Hp} {E : XK} : Ss (cxOf (L2.CX P w) P w K mg base N_spoilt "_law_spoilt" (defScope s__law_spoilt) f cdv A outer s H E) 6 "one" := ⟨rfl, (by first | exact .inl rfl | exact .inr rfl), .inl rfl⟩
theorem ss_spoilt_other {P : Program} {w : World} {K : PySem.W.Frag} {mg : Str → Option Value} {base : Heap} {f : Addr} {cdv : Value} {A : Around} {outer : List Env} {s : Shared} {H : Hp} {E : XK} : Ss (cxOf (L2.CX P w) P w K mg base N_spoilt "_law_spoilt" (defScope s__law_spoilt) f cdv A outer s H E) 7 "other" := ⟨rfl, (by first | exact .inl rfl | exact .inr rfl), .inl rfl⟩
theorem ss_spoilt_odd {P : Program} {w : World} {K : PySem.W.Frag} {mg : Str → Option Value} {base : Heap} {f : Addr} {cdv : Value} {A : Around} {outer : List Env} {s : Shared} {H : Hp} {E : XK} : Ss (cxOf (L2.CX P w) P w K mg base N_spoilt "_law_spoilt" (defScope s__law_spoilt) f cdv A outer s H E) 8 "odd" := ⟨rfl, (by first | exact .inl rfl | exact .inr rfl), .inl rfl⟩
theorem gl_spoilt__law_sign {P : Program} {w : World} {K : PySem.W.Frag} {mg : Str → Option Value} {base : Heap} {f : Addr} {cdv : Value} {A : Around} {outer : List Env} {s : Shared} {H : Hp} {E : XK} : Gl (cxOf (L2.CX P w) P w K mg base N_spoilt "_law_spoilt" (defScope s__law_spoilt) f cdv A outer s H E) "_law_sign" := by rfl
theorem gl_spoilt__law_stir {P : Program} {w : World} {K : PySem.W.Frag} {mg : Str → Option Value} {base : Heap} {f : Addr} {cdv : Value} {A : Around} {outer : List Env} {s : Shared} {H : Hp} {E : XK} : Gl (cxOf (L2.CX P w) P w K mg base N_spoilt "_law_spoilt" (defScope s__law_spoilt) f cdv A outer s H E) "_law_stir" := by rfl
theorem gl_spoilt_len {P : Program} {w : World} {K : PySem.W.Frag} {mg : Str → Option Value} {base : Heap} {f : Addr} {cdv : Value} {A : Around} {outer : List Env} {s : Shared} {H : Hp} {E : XK} : Gl (cxOf (L2.CX P w) P w K mg base N_spoilt "_law_spoilt" (defScope s__law_spoilt) f cdv A outer s H E) "len" := by rfl
section
local macro_rules | `(tactic| walk_at "sl") => `(tactic| first | exact tn_line (by with_reducible assumption) | exact tn_line2 (by with_reducible assumption) | exact cut2 (by with_reducible assumption) | exact cut3 (by with_reducible assumption) | exact cut4 (by with_reducible assumption) | decide +kernel | fail)
local macro_rules | `(tactic| walk_at "ix") => `(tactic| first | omega | (simp only [List.length_cons, List.length_nil]; omega) | exact Int.emod_lt_of_pos _ (by omega) | fail)
local macro_rules | `(tactic| walk_at "sc") => `(tactic| first | omega | exact Int.emod_nonneg _ (by omega) | fail)
local macro_rules | `(tactic| walk_at "jn") => `(tactic| first | exact jn_ok (by with_reducible assumption) | exact jn_ok (swap_b (by omega) (by with_reducible assumption) (by with_reducible assumption)) | fail)
theorem cal_spoilt {P : Program} {w : World} {K : PySem.W.Frag} {mg : Str → Option Value} {base : Heap} {f : Addr} {fd : FuncData} {c_RestError c_NoModulus c_NoCount c_NoPaper c_TooMany c_NoText c_NoForm c_NoneYet : Addr} (T : Txt K mg c_RestError c_NoModulus c_NoCount c_NoPaper c_TooMany c_NoText c_NoForm c_NoneYet) (F : Fun K "_law_spoilt" "_law_spoilt" s__law_spoilt f fd) (hm : mg "_law_spoilt" = some (.ref f)) (hb : Binds K fd ["cell", "k", "text"] []) (C_q_stir : Cal P w K mg base 1 "_law_stir" (Sp2 K false (fun (cell : Int) (k : Int) => 0 ≤ k) m_q_stir)) (C_sign : Cal P w K mg base 2 "_law_sign" (Sp2 K false (fun (cell : Int) (k : Int) => 0 ≤ k) m_sign)) : Cal P w K mg base 3 "_law_spoilt" (Sp3 K false (fun (cell : Int) (k : Int) (text : Str) => TN 1960 text ∧ 0 ≤ k) m_spoilt) := by
  refine fn3 F hm hb sc_spoilt rfl fun cdv A outer s H0 E hr G0 v_cell v_k v_text cell k text D s0 r_cell r_k r_text hp fin => ?_
  have x0_0 : Ext G0 H0 G0 H0 := Ext.refl s0
  show tSs _ _ D [some v_cell, some v_k, some v_text, none, none, none, none, none, none] H0
  have hpc := hp; obtain ⟨hp_0, hp_1⟩ := hpc
  have tk : m_spoilt cell k text = _ := rfl
  have fc1 := post_q_stir cell k (by walk_at "pre")
  refine b_cons (s_set sc_spoilt.nd ss_spoilt_at_ x0_0.s (ev_bin (b_mod (by walk_at "sc")) (ev_c2 C_q_stir (hr.mono (by decide)) gl_spoilt__law_stir (ev_v (sl_spoilt_cell) r_cell) (ev_v (sl_spoilt_k) r_k) (by walk_at "pre")) (ev_bin b_add (ev_lenS ⟨gl_spoilt_len, T.b_len⟩ (by walk_at "sl") (ev_v (sl_spoilt_text) r_text)) ev_int)) fun G1 H1 v1_at_ x2 l1 r1_at_ => ?_)
  have x0_1 := x0_0.trans x2
  show tSs _ _ _ [some v_cell, some v_k, some v_text, some v1_at_, none, none, none, none, none] _
  obtain ⟨at_, e3⟩ : ∃ z, z = ((m_q_stir cell k) % (((text).length : Int) + (1 : Int))) := ⟨_, rfl⟩
  rw [← e3] at r1_at_
  have tk : _ = m_spoilt_1 cell k text at_ := tk.trans (by first | (rw [e3] <;> rfl) | rfl)
  have fc4 := post_q_stir cell (k + (1 : Int)) (by walk_at "pre")
  refine b_cons (s_set sc_spoilt.nd ss_spoilt_kind x0_1.s (ev_bin (b_mod (by walk_at "sc")) (ev_c2 C_q_stir (hr.mono (by decide)) gl_spoilt__law_stir (ev_v (sl_spoilt_cell) (up x2.g r_cell)) (ev_bin b_add (ev_v (sl_spoilt_k) (up x2.g r_k)) ev_int) (by walk_at "pre")) ev_int) fun G2 H2 v2_kind x5 l2 r2_kind => ?_)
  have x0_2 := x0_1.trans x5
  show tSs _ _ _ [some v_cell, some v_k, some v_text, some v1_at_, some v2_kind, none, none, none, none] _
  obtain ⟨kind, e6⟩ : ∃ z, z = ((m_q_stir cell (k + (1 : Int))) % (8 : Int)) := ⟨_, rfl⟩
  rw [← e6] at r2_kind
  have tk : _ = m_spoilt_2 cell k text at_ kind := tk.trans (by first | (rw [e6] <;> rfl) | rfl)
  refine b_cons (s_setO sc_spoilt.nd ss_spoilt_words x0_2.s (evN_split (by decide) (by walk_at "sl") (ev_v (sl_spoilt_text) (up (x2.g.trans x5.g) r_text)) ev_str) fun G3 H3 q_words x7 l3 n_q_words o3_words => ?_)
  have x0_3 := x0_2.trans x7
  have m_q_words := x0_2.h.free n_q_words
  show tSs _ _ _ [some v_cell, some v_k, some v_text, some v1_at_, some v2_kind, some (.ref q_words), none, none, none] _
  obtain ⟨words, e8⟩ : ∃ z, z = (Txt.split text (" " : Str)) := ⟨_, rfl⟩
  rw [← e8] at o3_words
  have tk : _ = m_spoilt_3 cell k text at_ kind words := tk.trans (by first | (rw [e8] <;> rfl) | rfl)
  have f_e8 : lens words + words.length ≤ 1961 ∧ 1 ≤ words.length := by rw [e8]; exact words_b hp_0
  have g_e8 := congrArg List.length e8; try simp only [List.length_append, List.length_cons, List.length_nil, rng_len, List.length_map, List.length_reverse, List.length_set] at g_e8
  have fc9 := post_q_stir cell (k + (2 : Int)) (by walk_at "pre")
  refine b_cons (s_set sc_spoilt.nd ss_spoilt_one x0_3.s (ev_bin (b_mod (by walk_at "sc")) (ev_c2 C_q_stir (hr.mono (by decide)) gl_spoilt__law_stir (ev_v (sl_spoilt_cell) (up (x2.g.trans (x5.g.trans x7.g)) r_cell)) (ev_bin b_add (ev_v (sl_spoilt_k) (up (x2.g.trans (x5.g.trans x7.g)) r_k)) ev_int) (by walk_at "pre")) (ev_len ⟨gl_spoilt_len, T.b_len⟩ (ev_vO (sl_spoilt_words) o3_words))) fun G4 H4 v4_one x10 l4 r4_one => ?_)
  have x0_4 := x0_3.trans x10
  have o4_words := o3_words.mono x10
  show tSs _ _ _ [some v_cell, some v_k, some v_text, some v1_at_, some v2_kind, some (.ref q_words), some v4_one, none, none] _
  obtain ⟨one, e11⟩ : ∃ z, z = ((m_q_stir cell (k + (2 : Int))) % ((words).length : Int)) := ⟨_, rfl⟩
  rw [← e11] at r4_one
  have tk : _ = m_spoilt_4 cell k text at_ kind words one := tk.trans (by first | (rw [e11] <;> rfl) | rfl)
  have f_e11 : 0 ≤ one ∧ one < (words.length : Int) := by rw [e11]; exact ⟨Int.emod_nonneg _ (by omega), Int.emod_lt_of_pos _ (by omega)⟩
  have fc12 := post_q_stir cell (k + (3 : Int)) (by walk_at "pre")
  refine b_cons (s_set sc_spoilt.nd ss_spoilt_other x0_4.s (ev_bin (b_mod (by walk_at "sc")) (ev_c2 C_q_stir (hr.mono (by decide)) gl_spoilt__law_stir (ev_v (sl_spoilt_cell) (up (x2.g.trans (x5.g.trans (x7.g.trans x10.g))) r_cell)) (ev_bin b_add (ev_v (sl_spoilt_k) (up (x2.g.trans (x5.g.trans (x7.g.trans x10.g))) r_k)) ev_int) (by walk_at "pre")) (ev_len ⟨gl_spoilt_len, T.b_len⟩ (ev_vO (sl_spoilt_words) o4_words))) fun G5 H5 v5_other x13 l5 r5_other => ?_)
  have x0_5 := x0_4.trans x13
  have o5_words := o4_words.mono x13
  show tSs _ _ _ [some v_cell, some v_k, some v_text, some v1_at_, some v2_kind, some (.ref q_words), some v4_one, some v5_other, none] _
  obtain ⟨other, e14⟩ : ∃ z, z = ((m_q_stir cell (k + (3 : Int))) % ((words).length : Int)) := ⟨_, rfl⟩
  rw [← e14] at r5_other
  have tk : _ = m_spoilt_5 cell k text at_ kind words one other := tk.trans (by first | (rw [e14] <;> rfl) | rfl)
  have f_e14 : 0 ≤ other ∧ other < (words.length : Int) := by rw [e14]; exact ⟨Int.emod_nonneg _ (by omega), Int.emod_lt_of_pos _ (by omega)⟩
  refine b_cons (s_set sc_spoilt.nd ss_spoilt_odd x0_5.s (ev_list (es_cons ev_str (es_cons ev_str (es_cons ev_str (es_cons ev_str (es_cons ev_str (es_cons ev_str (es_cons ev_str (es_cons ev_str (es_cons ev_str (es_cons ev_str (es_cons ev_str (es_cons ev_str (es_cons ev_str (es_cons ev_str (es_cons ev_str (es_cons ev_str (es_cons ev_str es_nil)))))))))))))))))) fun G6 H6 v6_odd x15 l6 r6_odd => ?_)
  have x0_6 := x0_5.trans x15
  have o6_words := o5_words.mono x15
  show tSs _ _ _ [some v_cell, some v_k, some v_text, some v1_at_, some v2_kind, some (.ref q_words), some v4_one, some v5_other, some v6_odd] _
  obtain ⟨odd, e16⟩ : ∃ z, z = ([("0" : Str), ("-0" : Str), ("00" : Str), ("01" : Str), ("-01" : Str), ("+1" : Str), ("" : Str), ("-" : Str), ("--1" : Str), ("1-" : Str), ("none" : Str), ("None" : Str), ("1_0" : Str), ("1." : Str), ("x" : Str), ("0x1" : Str), ("1e3" : Str)] : List Str) := ⟨_, rfl⟩
  rw [← e16] at r6_odd
  have tk : _ = m_spoilt_6 cell k text at_ kind words one other odd := tk.trans (by first | (rw [e16] <;> rfl) | rfl)
  have g_e16 := congrArg List.length e16; try simp only [List.length_append, List.length_cons, List.length_nil, rng_len, List.length_map, List.length_reverse, psort_len, isort_len] at g_e16
  refine b_cons (s_set sc_spoilt.nd ss_spoilt_odd x0_6.s (ev_cat (by walk_at "sz") (ev_v (sl_spoilt_odd) r6_odd) (ev_list (es_cons (ev_bin (b_repS (by decide) (by decide) (by first | decide | walk_at "rp") (by first | decide | walk_at "rp") (by walk_at "sl")) ev_str ev_int) (es_cons (ev_bin (b_repS (by decide) (by decide) (by first | decide | walk_at "rp") (by first | decide | walk_at "rp") (by walk_at "sl")) ev_str ev_int) (es_cons (ev_bin (b_catS (by walk_at "sl")) ev_str (ev_bin (b_repS (by decide) (by decide) (by first | decide | walk_at "rp") (by first | decide | walk_at "rp") (by walk_at "sl")) ev_str ev_int)) (es_cons (ev_bin (b_catS (by walk_at "sl")) ev_str (ev_bin (b_repS (by decide) (by decide) (by first | decide | walk_at "rp") (by first | decide | walk_at "rp") (by walk_at "sl")) ev_str ev_int)) (es_cons (ev_bin (b_catS (by walk_at "sl")) ev_str (ev_bin (b_repS (by decide) (by decide) (by first | decide | walk_at "rp") (by first | decide | walk_at "rp") (by walk_at "sl")) ev_str ev_int)) es_nil))))))) fun G7 H7 v7_odd x17 l7 r7_odd => ?_)
  have x0_7 := x0_6.trans x17
  have o7_words := o6_words.mono x17
  show tSs _ _ _ [some v_cell, some v_k, some v_text, some v1_at_, some v2_kind, some (.ref q_words), some v4_one, some v5_other, some v7_odd] _
  obtain ⟨odd, e18⟩ : ∃ z, z = (odd ++ ([(strRep ("9" : Str) (30 : Int)), (strRep ("9" : Str) (31 : Int)), (("-" : Str) ++ (strRep ("9" : Str) (30 : Int))), (("-" : Str) ++ (strRep ("9" : Str) (31 : Int))), (("1" : Str) ++ (strRep ("0" : Str) (30 : Int)))] : List Str)) := ⟨_, rfl⟩
  rw [← e18] at r7_odd
  have tk : _ = m_spoilt_7 cell k text at_ kind words one other odd := tk.trans (by first | (rw [e18] <;> rfl) | rfl)
  have g_e18 := congrArg List.length e18; try simp only [List.length_append, List.length_cons, List.length_nil, rng_len, List.length_map, List.length_reverse, psort_len, isort_len] at g_e18
  have f_e18 : (∀ w ∈ odd, TN 32 w) ∧ odd.length = 22 := by subst_vars; decide +kernel
  have f_ := f_e18; obtain ⟨f_e18_1, f_e18_2⟩ := f_
  refine b_cons (s_if x0_7.s (et_cmp c_eq (ev_v (sl_spoilt_kind) (up (x7.g.trans (x10.g.trans (x13.g.trans (x15.g.trans x17.g)))) r2_kind)) ev_int) (fun h19 G8 H8 x20 l8 => ?_) (fun h19 G8 H8 x20 l8 => ?_))
  · have tk := tk_tt tk h19
    have h19_ := h19; try simp only [Bool.and_eq_true, Bool.or_eq_true, Bool.and_eq_false_iff, Bool.or_eq_false_iff, Bool.not_eq_true', Bool.not_eq_false', decide_eq_true_eq, decide_eq_false_iff_not, Classical.not_not] at h19_
    have x0_8 := x0_7.trans x20
    have o8_words := o7_words.mono x20
    show tSs _ _ _ [some v_cell, some v_k, some v_text, some v1_at_, some v2_kind, some (.ref q_words), some v4_one, some v5_other, some v7_odd] _
    refine b_cons (s_ret x0_8.s (ev_bin (b_catS (by walk_at "sl")) (ev_slS (by walk_at "sl") (ev_v (sl_spoilt_text) (up (x2.g.trans (x5.g.trans (x7.g.trans (x10.g.trans (x13.g.trans (x15.g.trans (x17.g.trans x20.g))))))) r_text)) eo_none (eo_some (ev_v (sl_spoilt_at_) (up (x5.g.trans (x7.g.trans (x10.g.trans (x13.g.trans (x15.g.trans (x17.g.trans x20.g)))))) r1_at_)))) (ev_slS (by walk_at "sl") (ev_v (sl_spoilt_text) (up (x2.g.trans (x5.g.trans (x7.g.trans (x10.g.trans (x13.g.trans (x15.g.trans (x17.g.trans x20.g))))))) r_text)) (eo_some (ev_bin b_add (ev_v (sl_spoilt_at_) (up (x5.g.trans (x7.g.trans (x10.g.trans (x13.g.trans (x15.g.trans (x17.g.trans x20.g)))))) r1_at_)) ev_int)) eo_none)) fun G_ H_ v22 x21 _ r_ => ?_)
    exact fin.rt _ _ _ (x0_8.trans x21) (rep_of tk r_) (fun z => nomatch z)
  · have tk := tk_ff tk h19
    have h19_ := h19; try simp only [Bool.and_eq_true, Bool.or_eq_true, Bool.and_eq_false_iff, Bool.or_eq_false_iff, Bool.not_eq_true', Bool.not_eq_false', decide_eq_true_eq, decide_eq_false_iff_not, Classical.not_not] at h19_
    have x0_8 := x0_7.trans x20
    have o8_words := o7_words.mono x20
    show tSs _ _ _ [some v_cell, some v_k, some v_text, some v1_at_, some v2_kind, some (.ref q_words), some v4_one, some v5_other, some v7_odd] _
    refine b_nil ?_
    show tSs _ _ _ [some v_cell, some v_k, some v_text, some v1_at_, some v2_kind, some (.ref q_words), some v4_one, some v5_other, some v7_odd] _
    refine b_cons (s_if x0_8.s (et_cmp c_lt (ev_v (sl_spoilt_kind) (up (x7.g.trans (x10.g.trans (x13.g.trans (x15.g.trans (x17.g.trans x20.g))))) r2_kind)) ev_int) (fun h23 G9 H9 x24 l9 => ?_) (fun h23 G9 H9 x24 l9 => ?_))
    · have tk := tk_tt tk h23
      have h23_ := h23; try simp only [Bool.and_eq_true, Bool.or_eq_true, Bool.and_eq_false_iff, Bool.or_eq_false_iff, Bool.not_eq_true', Bool.not_eq_false', decide_eq_true_eq, decide_eq_false_iff_not, Classical.not_not] at h23_
      have x0_9 := x0_8.trans x24
      have o9_words := o8_words.mono x24
      show tSs _ _ _ [some v_cell, some v_k, some v_text, some v1_at_, some v2_kind, some (.ref q_words), some v4_one, some v5_other, some v7_odd] _
      refine b_cons (s_ret x0_9.s (ev_bin (b_catS (by walk_at "sl")) (ev_bin (b_catS (by walk_at "sl")) (ev_slS (by walk_at "sl") (ev_v (sl_spoilt_text) (up (x2.g.trans (x5.g.trans (x7.g.trans (x10.g.trans (x13.g.trans (x15.g.trans (x17.g.trans (x20.g.trans x24.g)))))))) r_text)) eo_none (eo_some (ev_v (sl_spoilt_at_) (up (x5.g.trans (x7.g.trans (x10.g.trans (x13.g.trans (x15.g.trans (x17.g.trans (x20.g.trans x24.g))))))) r1_at_)))) (ev_c2 C_sign (hr.mono (by decide)) gl_spoilt__law_sign (ev_v (sl_spoilt_cell) (up (x2.g.trans (x5.g.trans (x7.g.trans (x10.g.trans (x13.g.trans (x15.g.trans (x17.g.trans (x20.g.trans x24.g)))))))) r_cell)) (ev_bin b_add (ev_v (sl_spoilt_k) (up (x2.g.trans (x5.g.trans (x7.g.trans (x10.g.trans (x13.g.trans (x15.g.trans (x17.g.trans (x20.g.trans x24.g)))))))) r_k)) ev_int) (by walk_at "pre"))) (ev_slS (by walk_at "sl") (ev_v (sl_spoilt_text) (up (x2.g.trans (x5.g.trans (x7.g.trans (x10.g.trans (x13.g.trans (x15.g.trans (x17.g.trans (x20.g.trans x24.g)))))))) r_text)) (eo_some (ev_bin b_sub (ev_bin b_add (ev_v (sl_spoilt_at_) (up (x5.g.trans (x7.g.trans (x10.g.trans (x13.g.trans (x15.g.trans (x17.g.trans (x20.g.trans x24.g))))))) r1_at_)) (ev_v (sl_spoilt_kind) (up (x7.g.trans (x10.g.trans (x13.g.trans (x15.g.trans (x17.g.trans (x20.g.trans x24.g)))))) r2_kind))) ev_int)) eo_none)) fun G_ H_ v26 x25 _ r_ => ?_)
      exact fin.rt _ _ _ (x0_9.trans x25) (rep_of tk r_) (fun z => nomatch z)
    · have tk := tk_ff tk h23
      have h23_ := h23; try simp only [Bool.and_eq_true, Bool.or_eq_true, Bool.and_eq_false_iff, Bool.or_eq_false_iff, Bool.not_eq_true', Bool.not_eq_false', decide_eq_true_eq, decide_eq_false_iff_not, Classical.not_not] at h23_
      have x0_9 := x0_8.trans x24
      have o9_words := o8_words.mono x24
      show tSs _ _ _ [some v_cell, some v_k, some v_text, some v1_at_, some v2_kind, some (.ref q_words), some v4_one, some v5_other, some v7_odd] _
      refine b_nil ?_
      show tSs _ _ _ [some v_cell, some v_k, some v_text, some v1_at_, some v2_kind, some (.ref q_words), some v4_one, some v5_other, some v7_odd] _
      refine b_cons (s_if x0_9.s (et_cmp c_eq (ev_v (sl_spoilt_kind) (up (x7.g.trans (x10.g.trans (x13.g.trans (x15.g.trans (x17.g.trans (x20.g.trans x24.g)))))) r2_kind)) ev_int) (fun h27 G10 H10 x28 l10 => ?_) (fun h27 G10 H10 x28 l10 => ?_))
      · have tk := tk_tt tk h27
        have h27_ := h27; try simp only [Bool.and_eq_true, Bool.or_eq_true, Bool.and_eq_false_iff, Bool.or_eq_false_iff, Bool.not_eq_true', Bool.not_eq_false', decide_eq_true_eq, decide_eq_false_iff_not, Classical.not_not] at h27_
        have x0_10 := x0_9.trans x28
        have o10_words := o9_words.mono x28
        show tSs _ _ _ [some v_cell, some v_k, some v_text, some v1_at_, some v2_kind, some (.ref q_words), some v4_one, some v5_other, some v7_odd] _
        refine b_cons (s_popJ (sl_spoilt_words) x0_10.s o10_words (ev_v (sl_spoilt_one) (up (x13.g.trans (x15.g.trans (x17.g.trans (x20.g.trans (x24.g.trans x28.g))))) r4_one)) (by walk_at "sc") (by walk_at "ix") (by walk_at "sc") fun G11 H11_ us30 x29 l11 o11_words => ?_)
        have x0_11 := (x0_10.trans x29).wr (o := .lst us30) m_q_words o11_words.off
        show tSs _ _ _ [some v_cell, some v_k, some v_text, some v1_at_, some v2_kind, some (.ref q_words), some v4_one, some v5_other, some v7_odd] _
        obtain ⟨words, e31⟩ : ∃ z, z = (words.eraseIdx (one).toNat) := ⟨_, rfl⟩
        rw [← e31] at o11_words
        have tk : _ = m_spoilt_8 words := tk.trans (by first | (rw [e31] <;> rfl) | rfl)
        have f_e31 : lens words + words.length ≤ 4000 := by rw [e31]; exact er_b (by omega)
        have g_e31 := congrArg List.length e31; try simp only [List.length_append, List.length_cons, List.length_nil, rng_len, List.length_map, List.length_reverse, List.length_set] at g_e31
        refine b_nil ?_
        show tSs _ _ _ [some v_cell, some v_k, some v_text, some v1_at_, some v2_kind, some (.ref q_words), some v4_one, some v5_other, some v7_odd] _
        obtain ⟨G12, x0_12, sg12, r12_words⟩ := o11_words.frz x0_11 m_q_words
        refine b_cons (s_ret x0_12.s (ev_join (by walk_at "jn") ev_str (ev_v (sl_spoilt_words) r12_words)) fun G_ H_ v33 x32 _ r_ => ?_)
        exact fin.rt _ _ _ (x0_12.trans x32) (rep_of tk r_) (fun z => nomatch z)
      · have tk := tk_ff tk h27
        have h27_ := h27; try simp only [Bool.and_eq_true, Bool.or_eq_true, Bool.and_eq_false_iff, Bool.or_eq_false_iff, Bool.not_eq_true', Bool.not_eq_false', decide_eq_true_eq, decide_eq_false_iff_not, Classical.not_not] at h27_
        have x0_10 := x0_9.trans x28
        have o10_words := o9_words.mono x28
        show tSs _ _ _ [some v_cell, some v_k, some v_text, some v1_at_, some v2_kind, some (.ref q_words), some v4_one, some v5_other, some v7_odd] _
        refine b_cons (s_if x0_10.s (et_cmp c_eq (ev_v (sl_spoilt_kind) (up (x7.g.trans (x10.g.trans (x13.g.trans (x15.g.trans (x17.g.trans (x20.g.trans (x24.g.trans x28.g))))))) r2_kind)) ev_int) (fun h34 G13 H13 x35 l13 => ?_) (fun h34 G13 H13 x35 l13 => ?_))
        · have tk := tk_tt tk h34
          have h34_ := h34; try simp only [Bool.and_eq_true, Bool.or_eq_true, Bool.and_eq_false_iff, Bool.or_eq_false_iff, Bool.not_eq_true', Bool.not_eq_false', decide_eq_true_eq, decide_eq_false_iff_not, Classical.not_not] at h34_
          have x0_13 := x0_10.trans x35
          have o13_words := o10_words.mono x35
          show tSs _ _ _ [some v_cell, some v_k, some v_text, some v1_at_, some v2_kind, some (.ref q_words), some v4_one, some v5_other, some v7_odd] _
          refine b_cons (s_insertI (sl_spoilt_words) x0_13.s o13_words (ev_v (sl_spoilt_other) (up (x15.g.trans (x17.g.trans (x20.g.trans (x24.g.trans (x28.g.trans x35.g))))) r5_other)) (ev_ix ("" : Str) (ev_vO (sl_spoilt_words) o13_words) (ev_v (sl_spoilt_one) (up (x13.g.trans (x15.g.trans (x17.g.trans (x20.g.trans (x24.g.trans (x28.g.trans x35.g)))))) r4_one)) (by walk_at "sc") (by walk_at "ix")) (by walk_at "sz") (by walk_at "sc") (by walk_at "ix") fun G14 H14_ us37 x36 l14 o14_words => ?_)
          have x0_14 := (x0_13.trans x36).wr (o := .lst us37) m_q_words o14_words.off
          show tSs _ _ _ [some v_cell, some v_k, some v_text, some v1_at_, some v2_kind, some (.ref q_words), some v4_one, some v5_other, some v7_odd] _
          obtain ⟨words, e38⟩ : ∃ z, z = (words.take (other).toNat ++ [((words).getD (one).toNat ("" : Str))] ++ words.drop (other).toNat) := ⟨_, rfl⟩
          rw [← e38] at o14_words
          have tk : _ = m_spoilt_9 words := tk.trans (by first | (rw [e38] <;> rfl) | rfl)
          have f_e38 : lens words + words.length ≤ 4000 := by rw [e38]; exact ins_b (by omega) (own_b (by omega))
          have g_e38 := congrArg List.length e38; try simp only [List.length_append, List.length_cons, List.length_nil, rng_len, List.length_map, List.length_reverse, List.length_set] at g_e38
          refine b_nil ?_
          show tSs _ _ _ [some v_cell, some v_k, some v_text, some v1_at_, some v2_kind, some (.ref q_words), some v4_one, some v5_other, some v7_odd] _
          refine b_nil ?_
          show tSs _ _ _ [some v_cell, some v_k, some v_text, some v1_at_, some v2_kind, some (.ref q_words), some v4_one, some v5_other, some v7_odd] _
          obtain ⟨G15, x0_15, sg15, r15_words⟩ := o14_words.frz x0_14 m_q_words
          refine b_cons (s_ret x0_15.s (ev_join (by walk_at "jn") ev_str (ev_v (sl_spoilt_words) r15_words)) fun G_ H_ v40 x39 _ r_ => ?_)
          exact fin.rt _ _ _ (x0_15.trans x39) (rep_of tk r_) (fun z => nomatch z)
        · have tk := tk_ff tk h34
          have h34_ := h34; try simp only [Bool.and_eq_true, Bool.or_eq_true, Bool.and_eq_false_iff, Bool.or_eq_false_iff, Bool.not_eq_true', Bool.not_eq_false', decide_eq_true_eq, decide_eq_false_iff_not, Classical.not_not] at h34_
          have x0_13 := x0_10.trans x35
          have o13_words := o10_words.mono x35
          show tSs _ _ _ [some v_cell, some v_k, some v_text, some v1_at_, some v2_kind, some (.ref q_words), some v4_one, some v5_other, some v7_odd] _
          refine b_cons (s_if x0_13.s (et_cmp c_eq (ev_v (sl_spoilt_kind) (up (x7.g.trans (x10.g.trans (x13.g.trans (x15.g.trans (x17.g.trans (x20.g.trans (x24.g.trans (x28.g.trans x35.g)))))))) r2_kind)) ev_int) (fun h41 G16 H16 x42 l16 => ?_) (fun h41 G16 H16 x42 l16 => ?_))
          · have tk := tk_tt tk h41
            have h41_ := h41; try simp only [Bool.and_eq_true, Bool.or_eq_true, Bool.and_eq_false_iff, Bool.or_eq_false_iff, Bool.not_eq_true', Bool.not_eq_false', decide_eq_true_eq, decide_eq_false_iff_not, Classical.not_not] at h41_
            have x0_16 := x0_13.trans x42
            have o16_words := o13_words.mono x42
            show tSs _ _ _ [some v_cell, some v_k, some v_text, some v1_at_, some v2_kind, some (.ref q_words), some v4_one, some v5_other, some v7_odd] _
            have fc43 := post_q_stir cell (k + (6 : Int)) (by walk_at "pre")
            refine b_cons (s_setix (sl_spoilt_words) x0_16.s o16_words (ev_ix ("" : Str) (ev_v (sl_spoilt_odd) (up (x20.g.trans (x24.g.trans (x28.g.trans (x35.g.trans x42.g)))) r7_odd)) (ev_bin (b_mod (by walk_at "sc")) (ev_c2 C_q_stir (hr.mono (by decide)) gl_spoilt__law_stir (ev_v (sl_spoilt_cell) (up (x2.g.trans (x5.g.trans (x7.g.trans (x10.g.trans (x13.g.trans (x15.g.trans (x17.g.trans (x20.g.trans (x24.g.trans (x28.g.trans (x35.g.trans x42.g))))))))))) r_cell)) (ev_bin b_add (ev_v (sl_spoilt_k) (up (x2.g.trans (x5.g.trans (x7.g.trans (x10.g.trans (x13.g.trans (x15.g.trans (x17.g.trans (x20.g.trans (x24.g.trans (x28.g.trans (x35.g.trans x42.g))))))))))) r_k)) ev_int) (by walk_at "pre")) (ev_len ⟨gl_spoilt_len, T.b_len⟩ (ev_v (sl_spoilt_odd) (up (x20.g.trans (x24.g.trans (x28.g.trans (x35.g.trans x42.g)))) r7_odd)))) (by walk_at "sc") (by have := post_q_stir cell (k + (6 : Int)) (by walk_at "pre"); walk_at "ix")) (ev_v (sl_spoilt_one) (up (x13.g.trans (x15.g.trans (x17.g.trans (x20.g.trans (x24.g.trans (x28.g.trans (x35.g.trans x42.g))))))) r4_one)) (by walk_at "sc") (by walk_at "ix") fun G17 H17_ us45 x44 l17 o17_words => ?_)
            have x0_17 := (x0_16.trans x44).wr (o := .lst us45) m_q_words o17_words.off
            show tSs _ _ _ [some v_cell, some v_k, some v_text, some v1_at_, some v2_kind, some (.ref q_words), some v4_one, some v5_other, some v7_odd] _
            obtain ⟨words, e47⟩ : ∃ z, z = (words.set (one).toNat ((odd).getD (((m_q_stir cell (k + (6 : Int))) % ((odd).length : Int))).toNat ("" : Str))) := ⟨_, rfl⟩
            rw [← e47] at o17_words
            have tk : _ = m_spoilt_10 words := tk.trans (by first | (rw [e47] <;> rfl) | rfl)
            have f_e47 : lens words + words.length ≤ 4000 := by rw [e47]; exact set_b (by omega) (odd_b (by with_reducible assumption))
            have g_e47 := congrArg List.length e47; try simp only [List.length_append, List.length_cons, List.length_nil, rng_len, List.length_map, List.length_reverse, List.length_set] at g_e47
            refine b_nil ?_
            show tSs _ _ _ [some v_cell, some v_k, some v_text, some v1_at_, some v2_kind, some (.ref q_words), some v4_one, some v5_other, some v7_odd] _
            refine b_nil ?_
            show tSs _ _ _ [some v_cell, some v_k, some v_text, some v1_at_, some v2_kind, some (.ref q_words), some v4_one, some v5_other, some v7_odd] _
            refine b_nil ?_
            show tSs _ _ _ [some v_cell, some v_k, some v_text, some v1_at_, some v2_kind, some (.ref q_words), some v4_one, some v5_other, some v7_odd] _
            obtain ⟨G18, x0_18, sg18, r18_words⟩ := o17_words.frz x0_17 m_q_words
            refine b_cons (s_ret x0_18.s (ev_join (by walk_at "jn") ev_str (ev_v (sl_spoilt_words) r18_words)) fun G_ H_ v49 x48 _ r_ => ?_)
            exact fin.rt _ _ _ (x0_18.trans x48) (rep_of tk r_) (fun z => nomatch z)
          · have tk := tk_ff tk h41
            have h41_ := h41; try simp only [Bool.and_eq_true, Bool.or_eq_true, Bool.and_eq_false_iff, Bool.or_eq_false_iff, Bool.not_eq_true', Bool.not_eq_false', decide_eq_true_eq, decide_eq_false_iff_not, Classical.not_not] at h41_
            have x0_16 := x0_13.trans x42
            have o16_words := o13_words.mono x42
            show tSs _ _ _ [some v_cell, some v_k, some v_text, some v1_at_, some v2_kind, some (.ref q_words), some v4_one, some v5_other, some v7_odd] _
            refine b_cons (s_if x0_16.s (et_cmp c_eq (ev_v (sl_spoilt_kind) (up (x7.g.trans (x10.g.trans (x13.g.trans (x15.g.trans (x17.g.trans (x20.g.trans (x24.g.trans (x28.g.trans (x35.g.trans x42.g))))))))) r2_kind)) ev_int) (fun h50 G19 H19 x51 l19 => ?_) (fun h50 G19 H19 x51 l19 => ?_))
            · have tk := tk_tt tk h50
              have h50_ := h50; try simp only [Bool.and_eq_true, Bool.or_eq_true, Bool.and_eq_false_iff, Bool.or_eq_false_iff, Bool.not_eq_true', Bool.not_eq_false', decide_eq_true_eq, decide_eq_false_iff_not, Classical.not_not] at h50_
              have x0_19 := x0_16.trans x51
              have o19_words := o16_words.mono x51
              show tSs _ _ _ [some v_cell, some v_k, some v_text, some v1_at_, some v2_kind, some (.ref q_words), some v4_one, some v5_other, some v7_odd] _
              have fc52 := post_q_stir cell (k + (6 : Int)) (by walk_at "pre")
              refine b_cons (s_insertI (sl_spoilt_words) x0_19.s o19_words (ev_v (sl_spoilt_one) (up (x13.g.trans (x15.g.trans (x17.g.trans (x20.g.trans (x24.g.trans (x28.g.trans (x35.g.trans (x42.g.trans x51.g)))))))) r4_one)) (ev_ix ("" : Str) (ev_v (sl_spoilt_odd) (up (x20.g.trans (x24.g.trans (x28.g.trans (x35.g.trans (x42.g.trans x51.g))))) r7_odd)) (ev_bin (b_mod (by walk_at "sc")) (ev_c2 C_q_stir (hr.mono (by decide)) gl_spoilt__law_stir (ev_v (sl_spoilt_cell) (up (x2.g.trans (x5.g.trans (x7.g.trans (x10.g.trans (x13.g.trans (x15.g.trans (x17.g.trans (x20.g.trans (x24.g.trans (x28.g.trans (x35.g.trans (x42.g.trans x51.g)))))))))))) r_cell)) (ev_bin b_add (ev_v (sl_spoilt_k) (up (x2.g.trans (x5.g.trans (x7.g.trans (x10.g.trans (x13.g.trans (x15.g.trans (x17.g.trans (x20.g.trans (x24.g.trans (x28.g.trans (x35.g.trans (x42.g.trans x51.g)))))))))))) r_k)) ev_int) (by walk_at "pre")) (ev_len ⟨gl_spoilt_len, T.b_len⟩ (ev_v (sl_spoilt_odd) (up (x20.g.trans (x24.g.trans (x28.g.trans (x35.g.trans (x42.g.trans x51.g))))) r7_odd)))) (by walk_at "sc") (by have := post_q_stir cell (k + (6 : Int)) (by walk_at "pre"); walk_at "ix")) (by walk_at "sz") (by walk_at "sc") (by walk_at "ix") fun G20 H20_ us54 x53 l20 o20_words => ?_)
              have x0_20 := (x0_19.trans x53).wr (o := .lst us54) m_q_words o20_words.off
              show tSs _ _ _ [some v_cell, some v_k, some v_text, some v1_at_, some v2_kind, some (.ref q_words), some v4_one, some v5_other, some v7_odd] _
              obtain ⟨words, e55⟩ : ∃ z, z = (words.take (one).toNat ++ [((odd).getD (((m_q_stir cell (k + (6 : Int))) % ((odd).length : Int))).toNat ("" : Str))] ++ words.drop (one).toNat) := ⟨_, rfl⟩
              rw [← e55] at o20_words
              have tk : _ = m_spoilt_11 words := tk.trans (by first | (rw [e55] <;> rfl) | rfl)
              have f_e55 : lens words + words.length ≤ 4000 := by rw [e55]; exact ins_b (by omega) (odd_b (by with_reducible assumption))
              have g_e55 := congrArg List.length e55; try simp only [List.length_append, List.length_cons, List.length_nil, rng_len, List.length_map, List.length_reverse, List.length_set] at g_e55
              refine b_nil ?_
              show tSs _ _ _ [some v_cell, some v_k, some v_text, some v1_at_, some v2_kind, some (.ref q_words), some v4_one, some v5_other, some v7_odd] _
              refine b_nil ?_
              show tSs _ _ _ [some v_cell, some v_k, some v_text, some v1_at_, some v2_kind, some (.ref q_words), some v4_one, some v5_other, some v7_odd] _
              refine b_nil ?_
              show tSs _ _ _ [some v_cell, some v_k, some v_text, some v1_at_, some v2_kind, some (.ref q_words), some v4_one, some v5_other, some v7_odd] _
              refine b_nil ?_
              show tSs _ _ _ [some v_cell, some v_k, some v_text, some v1_at_, some v2_kind, some (.ref q_words), some v4_one, some v5_other, some v7_odd] _
              obtain ⟨G21, x0_21, sg21, r21_words⟩ := o20_words.frz x0_20 m_q_words
              refine b_cons (s_ret x0_21.s (ev_join (by walk_at "jn") ev_str (ev_v (sl_spoilt_words) r21_words)) fun G_ H_ v57 x56 _ r_ => ?_)
              exact fin.rt _ _ _ (x0_21.trans x56) (rep_of tk r_) (fun z => nomatch z)
            · have tk := tk_ff tk h50
              have h50_ := h50; try simp only [Bool.and_eq_true, Bool.or_eq_true, Bool.and_eq_false_iff, Bool.or_eq_false_iff, Bool.not_eq_true', Bool.not_eq_false', decide_eq_true_eq, decide_eq_false_iff_not, Classical.not_not] at h50_
              have x0_19 := x0_16.trans x51
              have o19_words := o16_words.mono x51
              show tSs _ _ _ [some v_cell, some v_k, some v_text, some v1_at_, some v2_kind, some (.ref q_words), some v4_one, some v5_other, some v7_odd] _
              refine b_cons (s_swapix (sl_spoilt_words) (sl_spoilt_one) (sl_spoilt_other) x0_19.s o19_words rfl (ev_ix ("" : Str) (ev_vO (sl_spoilt_words) o19_words) (ev_v (sl_spoilt_other) (up (x15.g.trans (x17.g.trans (x20.g.trans (x24.g.trans (x28.g.trans (x35.g.trans (x42.g.trans x51.g))))))) r5_other)) (by walk_at "sc") (by walk_at "ix")) (ev_ix ("" : Str) (ev_vO (sl_spoilt_words) o19_words) (ev_v (sl_spoilt_one) (up (x13.g.trans (x15.g.trans (x17.g.trans (x20.g.trans (x24.g.trans (x28.g.trans (x35.g.trans (x42.g.trans x51.g)))))))) r4_one)) (by walk_at "sc") (by walk_at "ix")) (up (x13.g.trans (x15.g.trans (x17.g.trans (x20.g.trans (x24.g.trans (x28.g.trans (x35.g.trans (x42.g.trans x51.g)))))))) r4_one) (up (x15.g.trans (x17.g.trans (x20.g.trans (x24.g.trans (x28.g.trans (x35.g.trans (x42.g.trans x51.g))))))) r5_other) (by walk_at "sc") (by walk_at "ix") (by walk_at "sc") (by walk_at "ix") fun G22 H22_ us59 x58 l22 o22_words => ?_)
              have x0_22 := (x0_19.trans x58).wr (o := .lst us59) m_q_words o22_words.off
              show tSs _ _ _ [some v_cell, some v_k, some v_text, some v1_at_, some v2_kind, some (.ref q_words), some v4_one, some v5_other, some v7_odd] _
              refine b_nil ?_
              show tSs _ _ _ [some v_cell, some v_k, some v_text, some v1_at_, some v2_kind, some (.ref q_words), some v4_one, some v5_other, some v7_odd] _
              refine b_nil ?_
              show tSs _ _ _ [some v_cell, some v_k, some v_text, some v1_at_, some v2_kind, some (.ref q_words), some v4_one, some v5_other, some v7_odd] _
              refine b_nil ?_
              show tSs _ _ _ [some v_cell, some v_k, some v_text, some v1_at_, some v2_kind, some (.ref q_words), some v4_one, some v5_other, some v7_odd] _
              refine b_nil ?_
              show tSs _ _ _ [some v_cell, some v_k, some v_text, some v1_at_, some v2_kind, some (.ref q_words), some v4_one, some v5_other, some v7_odd] _
              obtain ⟨G23, x0_23, sg23, r23_words⟩ := o22_words.frz x0_22 m_q_words
              refine b_cons (s_ret x0_23.s (ev_join (by walk_at "jn") ev_str (ev_v (sl_spoilt_words) r23_words)) fun G_ H_ v61 x60 _ r_ => ?_)
              exact fin.rt _ _ _ (x0_23.trans x60) (rep_of tk r_) (fun z => nomatch z)
end

abbrev N_free : List Str := ["cell", "some", "words", "k", "figures", "word", "odd", "kind"]
theorem sc_free : FnScope N_free ["cell"] (defScope s__law_free) := ⟨rfl, rfl, rfl, by decide +kernel, rfl, by decide +kernel, by decide +kernel⟩
theorem sl_free_cell {P : Program} {w : World} {K : PySem.W.Frag} {mg : Str → Option Value} {base : Heap} {f : Addr} {cdv : Value} {A : Around} {outer : List Env} {s : Shared} {H : Hp} {E : XK} : Sl (cxOf (L2.CX P w) P w K mg base N_free "_law_free" (defScope s__law_free) f cdv A outer s H E) 0 "cell" := ⟨rfl, (by first | exact .inl rfl | exact .inr (.inl rfl)), nm_cell⟩
theorem sl_free_figures {P : Program} {w : World} {K : PySem.W.Frag} {mg : Str → Option Value} {base : Heap} {f : Addr} {cdv : Value} {A : Around} {outer : List Env} {s : Shared} {H : Hp} {E : XK} : Sl (cxOf (L2.CX P w) P w K mg base N_free "_law_free" (defScope s__law_free) f cdv A outer s H E) 4 "figures" := ⟨rfl, (by first | exact .inl rfl | exact .inr (.inl rfl)), nm_figures⟩
theorem sl_free_k {P : Program} {w : World} {K : PySem.W.Frag} {mg : Str → Option Value} {base : Heap} {f : Addr} {cdv : Value} {A : Around} {outer : List Env} {s : Shared} {H : Hp} {E : XK} : Sl (cxOf (L2.CX P w) P w K mg base N_free "_law_free" (defScope s__law_free) f cdv A outer s H E) 3 "k" := ⟨rfl, (by first | exact .inl rfl | exact .inr (.inl rfl)), nm_k⟩
theorem sl_free_kind {P : Program} {w : World} {K : PySem.W.Frag} {mg : Str → Option Value} {base : Heap} {f : Addr} {cdv : Value} {A : Around} {outer : List Env} {s : Shared} {H : Hp} {E : XK} : Sl (cxOf (L2.CX P w) P w K mg base N_free "_law_free" (defScope s__law_free) f cdv A outer s H E) 7 "kind" := ⟨rfl, (by first | exact .inl rfl | exact .inr (.inl rfl)), nm_kind⟩
theorem sl_free_odd {P : Program} {w : World} {K : PySem.W.Frag} {mg : Str → Option Value} {base : Heap} {f : Addr} {cdv : Value} {A : Around} {outer : List Env} {s : Shared} {H : Hp} {E : XK} : Sl (cxOf (L2.CX P w) P w K mg base N_free "_law_free" (defScope s__law_free) f cdv A outer s H E) 6 "odd" := ⟨rfl, (by first | exact .inl rfl | exact .inr (.inl rfl)), nm_odd⟩
theorem sl_free_some_ {P : Program} {w : World} {K : PySem.W.Frag} {mg : Str → Option Value} {base : Heap} {f : Addr} {cdv : Value} {A : Around} {outer : List Env} {s : Shared} {H : Hp} {E : XK} : Sl (cxOf (L2.CX P w) P w K mg base N_free "_law_free" (defScope s__law_free) f cdv A outer s H E) 1 "some" := ⟨rfl, (by first | exact .inl rfl | exact .inr (.inl rfl)), nm_some_⟩
theorem sl_free_word {P : Program} {w : World} {K : PySem.W.Frag} {mg : Str → Option Value} {base : Heap} {f : Addr} {cdv : Value} {A : Around} {outer : List Env} {s : Shared} {H : Hp} {E : XK} : Sl (cxOf (L2.CX P w) P w K mg base N_free "_law_free" (defScope s__law_free) f cdv A outer s H E) 5 "word" := ⟨rfl, (by first | exact .inl rfl | exact .inr (.inl rfl)), nm_word⟩
theorem sl_free_words {P : Program} {w : World} {K : PySem.W.Frag} {mg : Str → Option Value} {base : Heap} {f : Addr} {cdv : Value} {A : Around} {outer : List Env} {s : Shared} {H : Hp} {E : XK} : Sl (cxOf (L2.CX P w) P w K mg base N_free "_law_free" (defScope s__law_free) f cdv A outer s H E) 2 "words" := ⟨rfl, (by first | exact .inl rfl | exact .inr (.inl rfl)), nm_words⟩
theorem ss_free_some_ {P : Program} {w : World} {K : PySem.W.Frag} {mg : Str → Option Value} {base : Heap} {f : Addr} {cdv : Value} {A : Around} {outer : List Env} {s : Shared} {H : Hp} {E : XK} : Ss (cxOf (L2.CX P w) P w K mg base N_free "_law_free" (defScope s__law_free) f cdv A outer s H E) 1 "some" := ⟨rfl, (by first | exact .inl rfl | exact .inr rfl), .inl rfl⟩
theorem ss_free_words {P : Program} {w : World} {K : PySem.W.Frag} {mg : Str → Option Value} {base : Heap} {f : Addr} {cdv : Value} {A : Around} {outer : List Env} {s : Shared} {H : Hp} {E : XK} : Ss (cxOf (L2.CX P w) P w K mg base N_free "_law_free" (defScope s__law_free) f cdv A outer s H E) 2 "words" := ⟨rfl, (by first | exact .inl rfl | exact .inr rfl), .inl rfl⟩
theorem ss_free_k {P : Program} {w : World} {K : PySem.W.Frag} {mg : Str → Option Value} {base : Heap} {f : Addr} {cdv : Value} {A : Around} {outer : List Env} {s : Shared} {H : Hp} {E : XK} : Ss (cxOf (L2.CX P w) P w K mg base N_free "_law_free" (defScope s__law_free) f cdv A outer s H E) 3 "k" := ⟨rfl, (by first | exact .inl rfl | exact .inr rfl), .inl rfl⟩
theorem ss_free_figures {P : Program} {w : World} {K : PySem.W.Frag} {mg : Str → Option Value} {base : Heap} {f : Addr} {cdv : Value} {A : Around} {outer : List Env} {s : Shared} {H : Hp} {E : XK} : Ss (cxOf (L2.CX P w) P w K mg base N_free "_law_free" (defScope s__law_free) f cdv A outer s H E) 4 "figures" := ⟨rfl, (by first | exact .inl rfl | exact .inr rfl), .inl rfl⟩
theorem ss_free_word {P : Program} {w : World} {K : PySem.W.Frag} {mg : Str → Option Value} {base : Heap} {f : Addr} {cdv : Value} {A : Around} {outer : List Env} {s : Shared} {H : Hp} {E : XK} : Ss (cxOf (L2.CX P w) P w K mg base N_free "_law_free" (defScope s__law_free) f cdv A outer s H E) 5 "word" := ⟨rfl, (by first | exact .inl rfl | exact .inr rfl), .inl rfl⟩
theorem ss_free_odd {P : Program} {w : World} {K : PySem.W.Frag} {mg : Str → Option Value} {base : Heap} {f : Addr} {cdv : Value} {A : Around} {outer : List Env} {s : Shared} {H : Hp} {E : XK} : Ss (cxOf (L2.CX P w) P w K mg base N_free "_law_free" (defScope s__law_free) f cdv A outer s H E) 6 "odd" := ⟨rfl, (by first | exact .inl rfl | exact .inr rfl), .inl rfl⟩
theorem ss_free_kind {P : Program} {w : World} {K : PySem.W.Frag} {mg : Str → Option Value} {base : Heap} {f : Addr} {cdv : Value} {A : Around} {outer : List Env} {s : Shared} {H : Hp} {E : XK} : Ss (cxOf (L2.CX P w) P w K mg base N_free "_law_free" (defScope s__law_free) f cdv A outer s H E) 7 "kind" := ⟨rfl, (by first | exact .inl rfl | exact .inr rfl), .inl rfl⟩
theorem gl_free__law_stir {P : Program} {w : World} {K : PySem.W.Frag} {mg : Str → Option Value} {base : Heap} {f : Addr} {cdv : Value} {A : Around} {outer : List Env} {s : Shared} {H : Hp} {E : XK} : Gl (cxOf (L2.CX P w) P w K mg base N_free "_law_free" (defScope s__law_free) f cdv A outer s H E) "_law_stir" := by rfl
theorem gl_free_range {P : Program} {w : World} {K : PySem.W.Frag} {mg : Str → Option Value} {base : Heap} {f : Addr} {cdv : Value} {A : Around} {outer : List Env} {s : Shared} {H : Hp} {E : XK} : Gl (cxOf (L2.CX P w) P w K mg base N_free "_law_free" (defScope s__law_free) f cdv A outer s H E) "range" := by rfl
theorem gl_free_str {P : Program} {w : World} {K : PySem.W.Frag} {mg : Str → Option Value} {base : Heap} {f : Addr} {cdv : Value} {A : Around} {outer : List Env} {s : Shared} {H : Hp} {E : XK} : Gl (cxOf (L2.CX P w) P w K mg base N_free "_law_free" (defScope s__law_free) f cdv A outer s H E) "str" := by rfl
section
local macro_rules | `(tactic| walk_at "sl") => `(tactic| first | (rw [sizeLine_eq]; omega) | exact Nat.le_trans (rep_tn 4 (tos_tn (by omega))).l (by decide) | exact Nat.le_trans (TN.l (n := 124) (by with_reducible assumption)) (by decide) | exact tn_two (m := 1) (n := 124) (by decide +kernel) (by with_reducible assumption) (by decide) | decide +kernel | fail)
local macro_rules | `(tactic| walk_at "rp") => `(tactic| first | exact (tos_1 (by omega)).1 | exact (tos_1 (by omega)).2 | fail)
local macro_rules | `(tactic| walk_at "lg") => `(tactic| first | exact log_lt (by omega) | fail)
local macro_rules | `(tactic| walk_at "sc") => `(tactic| first | omega | exact Int.emod_nonneg _ (by omega) | exact ones_pos (by omega) | fail)
local macro_rules | `(tactic| walk_at "ix") => `(tactic| first | omega | (subst_vars; simp only [List.length_cons, List.length_nil]; omega) | exact Int.emod_lt_of_pos _ (by omega) | fail)
local macro_rules | `(tactic| walk_at "invx") => `(tactic| first | exact app_free (by with_reducible assumption) (by with_reducible assumption) (by with_reducible assumption) | (intro w hw; cases hw; done) | fail)
local macro_rules | `(tactic| walk_at "jn") => `(tactic| first | exact free_jn (by with_reducible assumption) (by first | omega | (simp only [List.length_cons, List.length_nil, rng_len] at *; omega)) | fail)
theorem cal_free {P : Program} {w : World} {K : PySem.W.Frag} {mg : Str → Option Value} {base : Heap} {f : Addr} {fd : FuncData} {c_RestError c_NoModulus c_NoCount c_NoPaper c_TooMany c_NoText c_NoForm c_NoneYet : Addr} (T : Txt K mg c_RestError c_NoModulus c_NoCount c_NoPaper c_TooMany c_NoText c_NoForm c_NoneYet) (F : Fun K "_law_free" "_law_free" s__law_free f fd) (hm : mg "_law_free" = some (.ref f)) (hb : Binds K fd ["cell"] []) (C_q_stir : Cal P w K mg base 1 "_law_stir" (Sp2 K false (fun (cell : Int) (k : Int) => 0 ≤ k) m_q_stir)) : Cal P w K mg base 2 "_law_free" (Sp1 K false (fun (cell : Int) => True) m_free) := by
  refine fn1 F hm hb sc_free rfl fun cdv A outer s H0 E hr G0 v_cell cell D s0 r_cell hp fin => ?_
  have x0_0 : Ext G0 H0 G0 H0 := Ext.refl s0
  show tSs _ _ D [some v_cell, none, none, none, none, none, none, none] H0
  have tk : m_free cell = _ := rfl
  refine b_cons (s_set sc_free.nd ss_free_some_ x0_0.s (ev_list (es_cons ev_str (es_cons ev_str (es_cons ev_str (es_cons ev_str (es_cons ev_str (es_cons ev_str (es_cons ev_str (es_cons ev_str es_nil))))))))) fun G1 H1 v1_some_ x1 l1 r1_some_ => ?_)
  have x0_1 := x0_0.trans x1
  show tSs _ _ _ [some v_cell, some v1_some_, none, none, none, none, none, none] _
  obtain ⟨some_, e2⟩ : ∃ z, z = ([("0" : Str), ("-0" : Str), ("07" : Str), ("-" : Str), ("" : Str), ("none" : Str), ("7-" : Str), ("x" : Str)] : List Str) := ⟨_, rfl⟩
  rw [← e2] at r1_some_
  have tk : _ = m_free_1 cell some_ := tk.trans (by first | (rw [e2] <;> rfl) | rfl)
  have g_e2 := congrArg List.length e2; try simp only [List.length_append, List.length_cons, List.length_nil, rng_len, List.length_map, List.length_reverse, psort_len, isort_len] at g_e2
  have f_e2 : some_.length = 8 := by subst_vars; decide +kernel
  refine b_cons (s_nil (α := Str) sc_free.nd ss_free_words x0_1.s fun H2 q_words x3 l2 n_q_words o2_words => ?_)
  have x0_2 := x0_1.trans x3
  have m_q_words := x0_1.h.free n_q_words
  show tSs _ _ _ [some v_cell, some v1_some_, some (.ref q_words), none, none, none, none, none] _
  have fc4 := post_q_stir cell (210 : Int) (by walk_at "pre")
  refine b_cons (s_for (T := (T1 K 3)) (passes_of rfl) rfl (pg_name (i := 3) sc_free.nd rfl ss_free_k.hx) acts1 x0_2.s (ei_range1 ⟨gl_free_range, T.b_range⟩ (ev_bin b_add ev_int (ev_bin (b_mod (by walk_at "sc")) (ev_c2 C_q_stir (hr.mono (by decide)) gl_free__law_stir (ev_v (sl_free_cell) (up (x1.g.trans (Same.refl _)) r_cell)) ev_int (by walk_at "pre")) ev_int)) (by walk_at "sc") (by walk_at "sc")) (fun rest σ G H => ∃ (words : (List Str)), lfold (m_free_2s cell some_) rest words = lfold (m_free_2s cell some_) (rng 0 ((1 : Int) + ((m_q_stir cell (210 : Int)) % (12 : Int)))) ([] : (List Str)) ∧ Ext G0 H0 G H ∧ ∃ (y1_3 y1_4 y1_5 y1_6 y1_7 : Option V), σ = [some v_cell, some v1_some_, some (.ref q_words), y1_3, y1_4, y1_5, y1_6, y1_7] ∧ Own K G H q_words words ∧ words.length + 1 * rest.length ≤ ([] : (List Str)).length + 1 * (rng 0 ((1 : Int) + ((m_q_stir cell (210 : Int)) % (12 : Int)))).length ∧ ∀ w ∈ words, TN 125 w) (fun _ _ x => ⟨([] : (List Str)), rfl, x0_2.trans x, none, none, none, none, none, rfl, o2_words.mono x, by walk_at "inv0", by walk_at "inv0"⟩) ?_ ?_)
  · intro k rest σ1 G3 H3 G4 H4 σ2 hx1 sgA4 sh1 I_ x5 l4 hT
    obtain ⟨words, es1, x0_3, y1_3, y1_4, y1_5, y1_6, y1_7, rfl, o3_words, inv1_0, inv1_1⟩ := I_
    have x0_4 := x0_3.trans x5
    have o4_words := o3_words.mono x5
    obtain ⟨t1, rt1, rfl⟩ := hT
    have inv1_0_ := inv1_0; try simp only [List.length_cons, List.length_nil] at inv1_0_
    have inv1_1_ := inv1_1; try simp only [List.length_cons, List.length_nil] at inv1_1_
    have mem1 := mem_of hx1.1
    have hlx1 := hx1.2; rw [sizeLine_eq] at hlx1
    have hlr1 := mem_len hx1.1
    have tk1 := tk
    have mem1_ := mem_rng.mp mem1
    have tk : m_free_2s cell some_ k words = _ := rfl
    show tSs _ _ _ [some v_cell, some v1_some_, some (.ref q_words), some t1, y1_4, y1_5, y1_6, y1_7] _
    have fc6 := post_q_stir cell ((220 : Int) + k) (by walk_at "pre")
    refine b_cons (s_set sc_free.nd ss_free_figures x0_4.s (ev_bin (b_repS (by decide) (by decide) (by first | decide | walk_at "rp") (by first | decide | walk_at "rp") (by walk_at "sl")) (ev_strI ⟨gl_free_str, T.b_str⟩ (by walk_at "lg") (ev_c2 C_q_stir (hr.mono (by decide)) gl_free__law_stir (ev_v (sl_free_cell) (up (x1.g.trans ((Same.refl _).trans (sgA4.trans x5.g))) r_cell)) (ev_bin b_add ev_int (ev_v (sl_free_k) rt1)) (by walk_at "pre"))) ev_int) fun G5 H5 v5_figures x7 l5 r5_figures => ?_)
    have x0_5 := x0_4.trans x7
    have o5_words := o4_words.mono x7
    show tSs _ _ _ [some v_cell, some v1_some_, some (.ref q_words), some t1, some v5_figures, y1_5, y1_6, y1_7] _
    obtain ⟨figures, e8⟩ : ∃ z, z = (strRep (tos (m_q_stir cell ((220 : Int) + k))) (4 : Int)) := ⟨_, rfl⟩
    rw [← e8] at r5_figures
    have tk : _ = m_free_4 cell some_ words k figures := tk.trans (by first | (rw [e8] <;> rfl) | rfl)
    have f_e8 : TN 124 figures := by rw [e8]; exact tos_TN (by omega)
    have fc9 := post_q_stir cell ((240 : Int) + k) (by walk_at "pre")
    refine b_cons (s_set sc_free.nd ss_free_word x0_5.s (ev_slS (by walk_at "sl") (ev_v (sl_free_figures) r5_figures) eo_none (eo_some (ev_bin b_add ev_int (ev_bin (b_mod (by walk_at "sc")) (ev_c2 C_q_stir (hr.mono (by decide)) gl_free__law_stir (ev_v (sl_free_cell) (up (x1.g.trans ((Same.refl _).trans (sgA4.trans (x5.g.trans x7.g)))) r_cell)) (ev_bin b_add ev_int (ev_v (sl_free_k) (up x7.g rt1))) (by walk_at "pre")) ev_int)))) fun G6 H6 v6_word x10 l6 r6_word => ?_)
    have x0_6 := x0_5.trans x10
    have o6_words := o5_words.mono x10
    show tSs _ _ _ [some v_cell, some v1_some_, some (.ref q_words), some t1, some v5_figures, some v6_word, y1_6, y1_7] _
    obtain ⟨word, e11⟩ : ∃ z, z = (cutS figures none (some ((1 : Int) + ((m_q_stir cell ((240 : Int) + k)) % (31 : Int))))) := ⟨_, rfl⟩
    rw [← e11] at r6_word
    have tk : _ = m_free_5 cell some_ words k word := tk.trans (by first | (rw [e11] <;> rfl) | rfl)
    have f_e11 : TN 124 word := by rw [e11]; exact cut_tn _ _ (by with_reducible assumption)
    have fc12 := post_q_stir cell ((260 : Int) + k) (by walk_at "pre")
    refine b_cons (s_set sc_free.nd ss_free_odd x0_6.s (ev_ix ("" : Str) (ev_v (sl_free_some_) (up ((Same.refl _).trans (sgA4.trans (x5.g.trans (x7.g.trans x10.g)))) r1_some_)) (ev_bin (b_mod (by walk_at "sc")) (ev_c2 C_q_stir (hr.mono (by decide)) gl_free__law_stir (ev_v (sl_free_cell) (up (x1.g.trans ((Same.refl _).trans (sgA4.trans (x5.g.trans (x7.g.trans x10.g))))) r_cell)) (ev_bin b_add ev_int (ev_v (sl_free_k) (up (x7.g.trans x10.g) rt1))) (by walk_at "pre")) ev_int) (by walk_at "sc") (by have := post_q_stir cell ((260 : Int) + k) (by walk_at "pre"); walk_at "ix")) fun G7 H7 v7_odd x13 l7 r7_odd => ?_)
    have x0_7 := x0_6.trans x13
    have o7_words := o6_words.mono x13
    show tSs _ _ _ [some v_cell, some v1_some_, some (.ref q_words), some t1, some v5_figures, some v6_word, some v7_odd, y1_7] _
    obtain ⟨odd, e14⟩ : ∃ z, z = ((some_).getD (((m_q_stir cell ((260 : Int) + k)) % (8 : Int))).toNat ("" : Str)) := ⟨_, rfl⟩
    rw [← e14] at r7_odd
    have tk : _ = m_free_6 cell words k word odd := tk.trans (by first | (rw [e14] <;> rfl) | rfl)
    have f_e14 : TN 125 odd := by rw [e14]; exact getD_tn _ (by subst_vars; decide +kernel)
    have fc15 := post_q_stir cell ((280 : Int) + k) (by walk_at "pre")
    have fc16 := post_q_stir cell (211 : Int) (by walk_at "pre")
    refine b_cons (s_set sc_free.nd ss_free_kind x0_7.s (ev_bin (b_mod (by walk_at "sc")) (ev_c2 C_q_stir (hr.mono (by decide)) gl_free__law_stir (ev_v (sl_free_cell) (up (x1.g.trans ((Same.refl _).trans (sgA4.trans (x5.g.trans (x7.g.trans (x10.g.trans x13.g)))))) r_cell)) (ev_bin b_add ev_int (ev_v (sl_free_k) (up (x7.g.trans (x10.g.trans x13.g)) rt1))) (by walk_at "pre")) (ev_ix (0 : Int) (ev_list (es_cons ev_int (es_cons ev_int (es_cons ev_int es_nil)))) (ev_bin (b_mod (by walk_at "sc")) (ev_c2 C_q_stir (hr.mono (by decide)) gl_free__law_stir (ev_v (sl_free_cell) (up (x1.g.trans ((Same.refl _).trans (sgA4.trans (x5.g.trans (x7.g.trans (x10.g.trans x13.g)))))) r_cell)) ev_int (by walk_at "pre")) ev_int) (by walk_at "sc") (by have := post_q_stir cell (211 : Int) (by walk_at "pre"); walk_at "ix"))) fun G8 H8 v8_kind x17 l8 r8_kind => ?_)
    have x0_8 := x0_7.trans x17
    have o8_words := o7_words.mono x17
    show tSs _ _ _ [some v_cell, some v1_some_, some (.ref q_words), some t1, some v5_figures, some v6_word, some v7_odd, some v8_kind] _
    obtain ⟨kind, e18⟩ : ∃ z, z = ((m_q_stir cell ((280 : Int) + k)) % ((([(1 : Int), (3 : Int), (4 : Int)] : List Int)).getD (((m_q_stir cell (211 : Int)) % (3 : Int))).toNat (0 : Int))) := ⟨_, rfl⟩
    rw [← e18] at r8_kind
    have tk : _ = m_free_7 words word odd kind := tk.trans (by first | (rw [e18] <;> rfl) | rfl)
    have f_e18 : 0 ≤ kind ∧ kind < 4 := by rw [e18]; exact kd_ok (by omega) (by omega)
    refine b_cons (s_append (sl_free_words) x0_8.s o8_words (ev_ix ("" : Str) (ev_list (es_cons (ev_v (sl_free_word) (up (x13.g.trans x17.g) r6_word)) (es_cons (ev_v (sl_free_word) (up (x13.g.trans x17.g) r6_word)) (es_cons (ev_bin (b_catS (by walk_at "sl")) ev_str (ev_v (sl_free_word) (up (x13.g.trans x17.g) r6_word))) (es_cons (ev_v (sl_free_odd) (up x17.g r7_odd)) es_nil))))) (ev_v (sl_free_kind) r8_kind) (by walk_at "sc") (by walk_at "ix")) (by walk_at "sz") fun G9 H9_ us20 x19 l9 o9_words => ?_)
    have x0_9 := (x0_8.trans x19).wr (o := .lst us20) m_q_words o9_words.off
    show tSs _ _ _ [some v_cell, some v1_some_, some (.ref q_words), some t1, some v5_figures, some v6_word, some v7_odd, some v8_kind] _
    refine b_nil ?_
    exact ⟨_, x7.g.trans (x10.g.trans (x13.g.trans (x17.g.trans x19.g))), x0_9.s, (words ++ [((([word, word, (("-" : Str) ++ word), odd] : List Str)).getD (kind).toNat ("" : Str))]), lfold_nxt es1 tk, x0_9, some t1, some v5_figures, some v6_word, some v7_odd, some v8_kind, rfl, o9_words, by have hi := inv1_0; (try simp only [List.length_cons, List.length_nil, List.length_append, rng_len, enum_len] at hi ⊢); first | omega | walk_at "invx", by have hi := inv1_1; (try simp only [List.length_cons, List.length_nil, List.length_append, rng_len, enum_len] at hi ⊢); first | omega | walk_at "invx"⟩
  · intro σ1 G10 H10 sgC10 sh1 I_
    obtain ⟨words, es1, x0_10, y1_3, y1_4, y1_5, y1_6, y1_7, rfl, o10_words, inv1_0, inv1_1⟩ := I_
    have tk := tk_fold (k := m_free_3) tk es1
    have inv1_0_ := inv1_0; try simp only [List.length_cons, List.length_nil, rng_len, enum_len] at inv1_0_
    have inv1_1_ := inv1_1; try simp only [List.length_cons, List.length_nil, rng_len, enum_len] at inv1_1_
    show tSs _ _ _ [some v_cell, some v1_some_, some (.ref q_words), y1_3, y1_4, y1_5, y1_6, y1_7] _
    obtain ⟨G11, x0_11, sg11, r11_words⟩ := o10_words.frz x0_10 m_q_words
    refine b_cons (s_ret x0_11.s (ev_join (by walk_at "jn") ev_str (ev_v (sl_free_words) r11_words)) fun G_ H_ v22 x21 _ r_ => ?_)
    exact fin.rt _ _ _ (x0_11.trans x21) (rep_of tk r_) (fun z => nomatch z)
end

abbrev N_law : List Str := ["script", "cell", "text", "turn", "once", "some"]
theorem sc_law : FnScope N_law ["script"] (defScope s_law) := ⟨rfl, rfl, rfl, by decide +kernel, rfl, by decide +kernel, by decide +kernel⟩
theorem sl_law_cell {P : Program} {w : World} {K : PySem.W.Frag} {mg : Str → Option Value} {base : Heap} {f : Addr} {cdv : Value} {A : Around} {outer : List Env} {s : Shared} {H : Hp} {E : XK} : Sl (cxOf (L2.CX P w) P w K mg base N_law "law" (defScope s_law) f cdv A outer s H E) 1 "cell" := ⟨rfl, (by first | exact .inl rfl | exact .inr (.inl rfl)), nm_cell⟩
theorem sl_law_once {P : Program} {w : World} {K : PySem.W.Frag} {mg : Str → Option Value} {base : Heap} {f : Addr} {cdv : Value} {A : Around} {outer : List Env} {s : Shared} {H : Hp} {E : XK} : Sl (cxOf (L2.CX P w) P w K mg base N_law "law" (defScope s_law) f cdv A outer s H E) 4 "once" := ⟨rfl, (by first | exact .inl rfl | exact .inr (.inl rfl)), nm_once⟩
theorem sl_law_script {P : Program} {w : World} {K : PySem.W.Frag} {mg : Str → Option Value} {base : Heap} {f : Addr} {cdv : Value} {A : Around} {outer : List Env} {s : Shared} {H : Hp} {E : XK} : Sl (cxOf (L2.CX P w) P w K mg base N_law "law" (defScope s_law) f cdv A outer s H E) 0 "script" := ⟨rfl, (by first | exact .inl rfl | exact .inr (.inl rfl)), nm_script⟩
theorem sl_law_some_ {P : Program} {w : World} {K : PySem.W.Frag} {mg : Str → Option Value} {base : Heap} {f : Addr} {cdv : Value} {A : Around} {outer : List Env} {s : Shared} {H : Hp} {E : XK} : Sl (cxOf (L2.CX P w) P w K mg base N_law "law" (defScope s_law) f cdv A outer s H E) 5 "some" := ⟨rfl, (by first | exact .inl rfl | exact .inr (.inl rfl)), nm_some_⟩
theorem sl_law_text {P : Program} {w : World} {K : PySem.W.Frag} {mg : Str → Option Value} {base : Heap} {f : Addr} {cdv : Value} {A : Around} {outer : List Env} {s : Shared} {H : Hp} {E : XK} : Sl (cxOf (L2.CX P w) P w K mg base N_law "law" (defScope s_law) f cdv A outer s H E) 2 "text" := ⟨rfl, (by first | exact .inl rfl | exact .inr (.inl rfl)), nm_text⟩
theorem sl_law_turn {P : Program} {w : World} {K : PySem.W.Frag} {mg : Str → Option Value} {base : Heap} {f : Addr} {cdv : Value} {A : Around} {outer : List Env} {s : Shared} {H : Hp} {E : XK} : Sl (cxOf (L2.CX P w) P w K mg base N_law "law" (defScope s_law) f cdv A outer s H E) 3 "turn" := ⟨rfl, (by first | exact .inl rfl | exact .inr (.inl rfl)), nm_turn⟩
theorem ss_law_cell {P : Program} {w : World} {K : PySem.W.Frag} {mg : Str → Option Value} {base : Heap} {f : Addr} {cdv : Value} {A : Around} {outer : List Env} {s : Shared} {H : Hp} {E : XK} : Ss (cxOf (L2.CX P w) P w K mg base N_law "law" (defScope s_law) f cdv A outer s H E) 1 "cell" := ⟨rfl, (by first | exact .inl rfl | exact .inr rfl), .inl rfl⟩
theorem ss_law_text {P : Program} {w : World} {K : PySem.W.Frag} {mg : Str → Option Value} {base : Heap} {f : Addr} {cdv : Value} {A : Around} {outer : List Env} {s : Shared} {H : Hp} {E : XK} : Ss (cxOf (L2.CX P w) P w K mg base N_law "law" (defScope s_law) f cdv A outer s H E) 2 "text" := ⟨rfl, (by first | exact .inl rfl | exact .inr rfl), .inl rfl⟩
theorem ss_law_turn {P : Program} {w : World} {K : PySem.W.Frag} {mg : Str → Option Value} {base : Heap} {f : Addr} {cdv : Value} {A : Around} {outer : List Env} {s : Shared} {H : Hp} {E : XK} : Ss (cxOf (L2.CX P w) P w K mg base N_law "law" (defScope s_law) f cdv A outer s H E) 3 "turn" := ⟨rfl, (by first | exact .inl rfl | exact .inr rfl), .inl rfl⟩
theorem ss_law_once {P : Program} {w : World} {K : PySem.W.Frag} {mg : Str → Option Value} {base : Heap} {f : Addr} {cdv : Value} {A : Around} {outer : List Env} {s : Shared} {H : Hp} {E : XK} : Ss (cxOf (L2.CX P w) P w K mg base N_law "law" (defScope s_law) f cdv A outer s H E) 4 "once" := ⟨rfl, (by first | exact .inl rfl | exact .inr rfl), .inl rfl⟩
theorem ss_law_some_ {P : Program} {w : World} {K : PySem.W.Frag} {mg : Str → Option Value} {base : Heap} {f : Addr} {cdv : Value} {A : Around} {outer : List Env} {s : Shared} {H : Hp} {E : XK} : Ss (cxOf (L2.CX P w) P w K mg base N_law "law" (defScope s_law) f cdv A outer s H E) 5 "some" := ⟨rfl, (by first | exact .inl rfl | exact .inr rfl), .inl rfl⟩
theorem gl_law__law_cells {P : Program} {w : World} {K : PySem.W.Frag} {mg : Str → Option Value} {base : Heap} {f : Addr} {cdv : Value} {A : Around} {outer : List Env} {s : Shared} {H : Hp} {E : XK} : Gl (cxOf (L2.CX P w) P w K mg base N_law "law" (defScope s_law) f cdv A outer s H E) "_law_cells" := by rfl
theorem gl_law__law_free {P : Program} {w : World} {K : PySem.W.Frag} {mg : Str → Option Value} {base : Heap} {f : Addr} {cdv : Value} {A : Around} {outer : List Env} {s : Shared} {H : Hp} {E : XK} : Gl (cxOf (L2.CX P w) P w K mg base N_law "law" (defScope s_law) f cdv A outer s H E) "_law_free" := by rfl
theorem gl_law__law_modulus {P : Program} {w : World} {K : PySem.W.Frag} {mg : Str → Option Value} {base : Heap} {f : Addr} {cdv : Value} {A : Around} {outer : List Env} {s : Shared} {H : Hp} {E : XK} : Gl (cxOf (L2.CX P w) P w K mg base N_law "law" (defScope s_law) f cdv A outer s H E) "_law_modulus" := by rfl
theorem gl_law__law_right {P : Program} {w : World} {K : PySem.W.Frag} {mg : Str → Option Value} {base : Heap} {f : Addr} {cdv : Value} {A : Around} {outer : List Env} {s : Shared} {H : Hp} {E : XK} : Gl (cxOf (L2.CX P w) P w K mg base N_law "law" (defScope s_law) f cdv A outer s H E) "_law_right" := by rfl
theorem gl_law__law_row {P : Program} {w : World} {K : PySem.W.Frag} {mg : Str → Option Value} {base : Heap} {f : Addr} {cdv : Value} {A : Around} {outer : List Env} {s : Shared} {H : Hp} {E : XK} : Gl (cxOf (L2.CX P w) P w K mg base N_law "law" (defScope s_law) f cdv A outer s H E) "_law_row" := by rfl
theorem gl_law__law_spoilt {P : Program} {w : World} {K : PySem.W.Frag} {mg : Str → Option Value} {base : Heap} {f : Addr} {cdv : Value} {A : Around} {outer : List Env} {s : Shared} {H : Hp} {E : XK} : Gl (cxOf (L2.CX P w) P w K mg base N_law "law" (defScope s_law) f cdv A outer s H E) "_law_spoilt" := by rfl
theorem gl_law__law_text {P : Program} {w : World} {K : PySem.W.Frag} {mg : Str → Option Value} {base : Heap} {f : Addr} {cdv : Value} {A : Around} {outer : List Env} {s : Shared} {H : Hp} {E : XK} : Gl (cxOf (L2.CX P w) P w K mg base N_law "law" (defScope s_law) f cdv A outer s H E) "_law_text" := by rfl
theorem gl_law_range {P : Program} {w : World} {K : PySem.W.Frag} {mg : Str → Option Value} {base : Heap} {f : Addr} {cdv : Value} {A : Around} {outer : List Env} {s : Shared} {H : Hp} {E : XK} : Gl (cxOf (L2.CX P w) P w K mg base N_law "law" (defScope s_law) f cdv A outer s H E) "range" := by rfl
section
local macro_rules | `(tactic| walk_at "ds") => `(tactic| first | exact strsOk_nil | exact fixed_ds (by with_reducible assumption) | fail)
local macro_rules | `(tactic| walk_at "pre") => `(tactic| first | trivial | omega | exact ⟨by omega, by omega, by omega⟩ | exact ⟨by omega, by omega, by omega, by omega⟩ | exact short_row _ _ _ ⟨by omega, by omega, by omega, by omega⟩ | exact right_or (tn_ok ((free_tn _).up (by decide))) | exact ⟨TN.up (n := 1960) (m := 960) (by with_reducible assumption) (by decide), by omega⟩ | exact ⟨by with_reducible assumption, by omega⟩ | exact right_or (tn_ok (TN.up (m := 1960) (by with_reducible assumption) (by decide))) | exact right_or (twice_ok (by with_reducible assumption) (by omega)) | exact right_or (tn_ok (fixed_ok (by with_reducible assumption) (by with_reducible assumption))) | fail)
theorem cal_law {P : Program} {w : World} {K : PySem.W.Frag} {mg : Str → Option Value} {base : Heap} {f : Addr} {fd : FuncData} {c_RestError c_NoModulus c_NoCount c_NoPaper c_TooMany c_NoText c_NoForm c_NoneYet : Addr} (T : Txt K mg c_RestError c_NoModulus c_NoCount c_NoPaper c_TooMany c_NoText c_NoForm c_NoneYet) (F : Fun K "law" "law" s_law f fd) (hm : mg "law" = some (.ref f)) (hb : Binds K fd ["script"] []) (C_q_cells : Cal P w K mg base 1 "_law_cells" (Sp2 K true (fun (script : Scr) (many : Int) => script.ns.length ≤ 63 ∧ 0 ≤ many ∧ many ≤ 63) m_q_cells)) (C_q_modulus : Cal P w K mg base 2 "_law_modulus" (Sp1 K false (fun (cell : Int) => True) m_q_modulus)) (C_q_row : Cal P w K mg base 2 "_law_row" (Sp3 K true (fun (cell : Int) (modulus : Int) (most : Int) => 1 ≤ modulus ∧ modulus ≤ 60 ∧ 0 ≤ most ∧ most ≤ 40) m_q_row)) (C_q_text : Cal P w K mg base 1 "_law_text" (Sp1 K false (fun (row : (List Int)) => ShortRow row) m_q_text)) (C_free : Cal P w K mg base 2 "_law_free" (Sp1 K false (fun (cell : Int) => True) m_free)) (C_right_l : Cal P w K mg base 4 "_law_right" (Sp1 K false (fun (text : Str) => TxtOk text ∧ GoodT text) m_right_l)) (C_right_t : Cal P w K mg base 4 "_law_right" (Sp1 K false (fun (text : Str) => TxtOk text ∧ ¬ GoodT text) m_right_t)) (C_spoilt : Cal P w K mg base 3 "_law_spoilt" (Sp3 K false (fun (cell : Int) (k : Int) (text : Str) => TN 1960 text ∧ 0 ≤ k) m_spoilt)) : FnOk P w K mg base (L2.CX P w) 5 f fd ["script"] (Sp1 K false (fun (script : Scr) => script.ns.length ≤ 63) m_law) := by
  refine fn1F F hm hb sc_law rfl fun cdv A outer s H0 E hr G0 v_script script D s0 r_script hp fin => ?_
  have x0_0 : Ext G0 H0 G0 H0 := Ext.refl s0
  show tSs _ _ D [some v_script, none, none, none, none, none] H0
  have tk : m_law script = _ := rfl
  refine b_cons (s_for (T := (T1 K 1)) (passes_of rfl) rfl (pg_name (i := 1) sc_law.nd rfl ss_law_cell.hx) acts1 x0_0.s (ei_list (ev_c2 C_q_cells (hr.mono (by decide)) gl_law__law_cells (ev_v (sl_law_script) r_script) ev_int (by walk_at "pre"))) (fun rest σ G H => lrun (m_law_1s) rest () = lrun (m_law_1s) (m_q_cells script (5 : Int)) () ∧ Ext G0 H0 G H ∧ ∃ (y1_1 y1_2 y1_3 y1_4 : Option V), σ = [some v_script, y1_1, y1_2, y1_3, y1_4, none]) (fun _ _ x => ⟨rfl, x0_0.trans x, none, none, none, none, rfl⟩) ?_ ?_)
  · intro cell rest σ1 G1 H1 G2 H2 σ2 hx1 sgA2 sh1 I_ x1 l2 hT
    obtain ⟨es1, x0_1, y1_1, y1_2, y1_3, y1_4, rfl⟩ := I_
    have x0_2 := x0_1.trans x1
    obtain ⟨t1, rt1, rfl⟩ := hT
    have mem1 := mem_of hx1.1
    have hlx1 := hx1.2; rw [sizeLine_eq] at hlx1
    have hlr1 := mem_len hx1.1
    have tk1 := tk
    have tk : m_law_1s cell () = _ := rfl
    show tSs _ _ _ [some v_script, some t1, y1_2, y1_3, y1_4, none] _
    have fc2 := post_q_modulus cell (by walk_at "pre")
    have fc3 := post_q_row cell (m_q_modulus cell) (30 : Int) (by walk_at "pre")
    refine b_cons (s_set sc_law.nd ss_law_text x0_2.s (ev_c1 C_q_text (hr.mono (by decide)) gl_law__law_text (ev_c3 C_q_row (hr.mono (by decide)) gl_law__law_row (ev_v (sl_law_cell) rt1) (ev_c1 C_q_modulus (hr.mono (by decide)) gl_law__law_modulus (ev_v (sl_law_cell) rt1) (by walk_at "pre")) ev_int (by have := post_q_modulus cell (by walk_at "pre"); walk_at "pre")) (by have := post_q_modulus cell (by walk_at "pre"); have := post_q_row cell (m_q_modulus cell) (30 : Int) (by walk_at "pre"); walk_at "pre")) fun G3 H3 v3_text x4 l3 r3_text => ?_)
    have x0_3 := x0_2.trans x4
    show tSs _ _ _ [some v_script, some t1, some v3_text, y1_3, y1_4, none] _
    obtain ⟨text, e5⟩ : ∃ z, z = (m_q_text (m_q_row cell (m_q_modulus cell) (30 : Int))) := ⟨_, rfl⟩
    rw [← e5] at r3_text
    have tk : _ = m_law_3 := tk.trans (by first | (rw [e5] <;> rfl) | rfl)
    have f_e5 : TN 960 text := by rw [e5]; exact row_text_tn _
    refine b_cons (s_if x0_3.s (et_not (et_val (ev_c1T C_right_l (hr.mono (by decide)) C_right_t (hr.mono (by decide)) gl_law__law_right (ev_c1 C_free (hr.mono (by decide)) gl_law__law_free (ev_v (sl_law_cell) (up x4.g rt1)) (by walk_at "pre")) (by walk_at "pre")))) (fun h6 G4 H4 x7 l4 => ?_) (fun h6 G4 H4 x7 l4 => ?_))
    · have tk := tk_tt tk h6
      have h6_ := h6; try simp only [Bool.and_eq_true, Bool.or_eq_true, Bool.and_eq_false_iff, Bool.or_eq_false_iff, Bool.not_eq_true', Bool.not_eq_false', decide_eq_true_eq, decide_eq_false_iff_not, Classical.not_not] at h6_
      have x0_4 := x0_3.trans x7
      show tSs _ _ _ [some v_script, some t1, some v3_text, y1_3, y1_4, none] _
      refine b_cons (s_ret x0_4.s ev_bl fun G_ H_ v9 x8 _ r_ => ?_)
      exact fin.rt _ _ _ (x0_4.trans x8) (rep_of (tk_outR tk1 (lrun_ret es1 tk)) r_) (fun z => nomatch z)
    · have tk := tk_ff tk h6
      have h6_ := h6; try simp only [Bool.and_eq_true, Bool.or_eq_true, Bool.and_eq_false_iff, Bool.or_eq_false_iff, Bool.not_eq_true', Bool.not_eq_false', decide_eq_true_eq, decide_eq_false_iff_not, Classical.not_not] at h6_
      have x0_4 := x0_3.trans x7
      show tSs _ _ _ [some v_script, some t1, some v3_text, y1_3, y1_4, none] _
      refine b_nil ?_
      show tSs _ _ _ [some v_script, some t1, some v3_text, y1_3, y1_4, none] _
      refine b_cons (s_for (T := (T1 K 3)) (passes_of rfl) rfl (pg_name (i := 3) sc_law.nd rfl ss_law_turn.hx) acts1 x0_4.s (ei_range1 ⟨gl_law_range, T.b_range⟩ ev_int (by walk_at "sc") (by walk_at "sc")) (fun rest σ G H => lrun (m_law_4s) rest () = lrun (m_law_4s) (rng 0 (5 : Int)) () ∧ Ext G0 H0 G H ∧ ∃ (y2_3 y2_4 : Option V), σ = [some v_script, some t1, some v3_text, y2_3, y2_4, none]) (fun _ _ x => ⟨rfl, x0_4.trans x, y1_3, y1_4, rfl⟩) ?_ ?_)
      · intro turn rest σ1 G5 H5 G6 H6 σ2 hx2 sgA6 sh2 I_ x10 l6 hT
        obtain ⟨es2, x0_5, y2_3, y2_4, rfl⟩ := I_
        have x0_6 := x0_5.trans x10
        obtain ⟨t2, rt2, rfl⟩ := hT
        have mem2 := mem_of hx2.1
        have hlx2 := hx2.2; rw [sizeLine_eq] at hlx2
        have hlr2 := mem_len hx2.1
        have tk2 := tk
        have mem2_ := mem_rng.mp mem2
        have tk : m_law_4s turn () = _ := rfl
        show tSs _ _ _ [some v_script, some t1, some v3_text, some t2, y2_4, none] _
        refine b_cons (s_set sc_law.nd ss_law_once x0_6.s (ev_c3 C_spoilt (hr.mono (by decide)) gl_law__law_spoilt (ev_v (sl_law_cell) (up (x4.g.trans (x7.g.trans (sgA6.trans x10.g))) rt1)) (ev_bin b_add ev_int (ev_bin (b_mul (by walk_at "mu")) ev_int (ev_v (sl_law_turn) rt2))) (ev_v (sl_law_text) (up (x7.g.trans (sgA6.trans x10.g)) r3_text)) (by walk_at "pre")) fun G7 H7 v7_once x11 l7 r7_once => ?_)
        have x0_7 := x0_6.trans x11
        show tSs _ _ _ [some v_script, some t1, some v3_text, some t2, some v7_once, none] _
        obtain ⟨once, e12⟩ : ∃ z, z = (m_spoilt cell ((110 : Int) + ((20 : Int) * turn)) text) := ⟨_, rfl⟩
        rw [← e12] at r7_once
        have tk : _ = m_law_6 := tk.trans (by first | (rw [e12] <;> rfl) | rfl)
        have f_e12 : TN 1960 once := by rw [e12]; exact spoilt_tn (n := 960) _ _ (by omega) (by with_reducible assumption)
        refine b_cons (s_if x0_7.s (et_w (ew_or (et_not (et_val (ev_c1T C_right_l (hr.mono (by decide)) C_right_t (hr.mono (by decide)) gl_law__law_right (ev_v (sl_law_once) r7_once) (by walk_at "pre")))) fun c13 => (ew_or1 (et_not (et_val (ev_c1T C_right_l (hr.mono (by decide)) C_right_t (hr.mono (by decide)) gl_law__law_right (ev_c3 C_spoilt (hr.mono (by decide)) gl_law__law_spoilt (ev_v (sl_law_cell) (up (x4.g.trans (x7.g.trans (sgA6.trans (x10.g.trans x11.g)))) rt1)) (ev_bin b_add ev_int (ev_bin (b_mul (by walk_at "mu")) ev_int (ev_v (sl_law_turn) (up x11.g rt2)))) (ev_v (sl_law_once) r7_once) (by walk_at "pre")) (by walk_at "pre"))))))) (fun h14 G8 H8 x15 l8 => ?_) (fun h14 G8 H8 x15 l8 => ?_))
        · have tk := tk_tt tk h14
          have h14_ := h14; try simp only [Bool.and_eq_true, Bool.or_eq_true, Bool.and_eq_false_iff, Bool.or_eq_false_iff, Bool.not_eq_true', Bool.not_eq_false', decide_eq_true_eq, decide_eq_false_iff_not, Classical.not_not] at h14_
          have x0_8 := x0_7.trans x15
          show tSs _ _ _ [some v_script, some t1, some v3_text, some t2, some v7_once, none] _
          refine b_cons (s_ret x0_8.s ev_bl fun G_ H_ v17 x16 _ r_ => ?_)
          exact fin.rt _ _ _ (x0_8.trans x16) (rep_of (tk_outR tk1 (lrun_ret es1 (tk_anR tk2 (lrun_ret es2 tk)))) r_) (fun z => nomatch z)
        · have tk := tk_ff tk h14
          have h14_ := h14; try simp only [Bool.and_eq_true, Bool.or_eq_true, Bool.and_eq_false_iff, Bool.or_eq_false_iff, Bool.not_eq_true', Bool.not_eq_false', decide_eq_true_eq, decide_eq_false_iff_not, Classical.not_not] at h14_
          have x0_8 := x0_7.trans x15
          show tSs _ _ _ [some v_script, some t1, some v3_text, some t2, some v7_once, none] _
          refine b_nil ?_
          show tSs _ _ _ [some v_script, some t1, some v3_text, some t2, some v7_once, none] _
          refine b_nil ?_
          exact ⟨_, x11.g.trans x15.g, x0_8.s, lrun_nxt es2 tk, x0_8, some t2, some v7_once, rfl⟩
      · intro σ1 G9 H9 sgC9 sh2 I_
        obtain ⟨es2, x0_9, y2_3, y2_4, rfl⟩ := I_
        have tk := tk_anN (k := m_law_5) tk es2
        show tSs _ _ _ [some v_script, some t1, some v3_text, y2_3, y2_4, none] _
        refine b_nil ?_
        exact ⟨_, x4.g.trans (x7.g.trans sgC9), x0_9.s, lrun_nxt es1 tk, x0_9, some t1, some v3_text, y2_3, y2_4, rfl⟩
  · intro σ1 G10 H10 sgC10 sh1 I_
    obtain ⟨es1, x0_10, y1_1, y1_2, y1_3, y1_4, rfl⟩ := I_
    have tk := tk_outN (k := m_law_2) tk es1
    show tSs _ _ _ [some v_script, y1_1, y1_2, y1_3, y1_4, none] _
    refine b_cons (s_set sc_law.nd ss_law_some_ x0_10.s (ev_list (es_cons ev_str (es_cons ev_str (es_cons ev_str (es_cons ev_str (es_cons ev_str (es_cons ev_str (es_cons ev_str (es_cons ev_str (es_cons ev_str (es_cons ev_str (es_cons ev_str (es_cons ev_str (es_cons ev_str (es_cons ev_str (es_cons ev_str es_nil)))))))))))))))) fun G11 H11 v11_some_ x18 l11 r11_some_ => ?_)
    have x0_11 := x0_10.trans x18
    show tSs _ _ _ [some v_script, y1_1, y1_2, y1_3, y1_4, some v11_some_] _
    obtain ⟨some_, e19⟩ : ∃ z, z = ([("" : Str), (" " : Str), ("none " : Str), (" none" : Str), ("none none" : Str), ("none 1" : Str), ("0" : Str), ("-0" : Str), ("0 0" : Str), ("1 " : Str), (" 1" : Str), ("1  2" : Str), ("1\n" : Str), ("\n" : Str), ("-" : Str)] : List Str) := ⟨_, rfl⟩
    rw [← e19] at r11_some_
    have tk : _ = m_law_7 some_ := tk.trans (by first | (rw [e19] <;> rfl) | rfl)
    have g_e19 := congrArg List.length e19; try simp only [List.length_append, List.length_cons, List.length_nil, rng_len, List.length_map, List.length_reverse, psort_len, isort_len] at g_e19
    have f_e19 : ∀ t ∈ some_, TN 4998 t := by subst_vars; decide +kernel
    refine b_cons (s_ret x0_11.s (ev_cmp (c_eqLS (hu_of64 hr) (by walk_at "ds") (by walk_at "ds")) (ev_lc (lc1 (fun (text : Str) => text) (fun (text : Str) => (!true)) rfl sc_law.nd (ei_list (ev_v (sl_law_some_) r11_some_)) [("text", 2)] (blkOk_by (N := N_law) (sc := defScope s_law) (by decide +kernel)) (fun _ _ _ _ _ => pg_name (i := 2) sc_law.nd rfl (.inl rfl)) (fun text v31 G21 H22 hx23 x20 r32 s25 s26 s27 s28 s29 => (ets_one (et_not (et_val (ev_c1T C_right_l (hr.mono (by decide)) C_right_t (hr.mono (by decide)) (by rfl) (ev_v ((⟨rfl, .inl rfl, nm_text⟩ : Sl _ 2 _)) r32) (by walk_at "pre")))))) (fun text v31 G21 H22 hx23 ht24 x20 r32 s25 s26 s27 s28 s29 => (ev_v ((⟨rfl, .inl rfl, nm_text⟩ : Sl _ 2 _)) r32)))) (ev_list (es_nil (α := Str)))) fun G_ H_ v34 x33 _ r_ => ?_)
    exact fin.rt _ _ _ (x0_11.trans x33) (rep_of tk r_) (fun z => nomatch z)
end

theorem all_mk {l : PySem.W.OpenLaw} {w : World} {K : PySem.W.Frag} {h : Heap} {mg : Str → Option Value} {fa f1 f2 f3 f4 f5 f6 f7 f8 f9 f10 f11 f12 f13 f14 f15 f16 f17 : Addr} {c_RestError c_NoModulus c_NoCount c_NoPaper c_TooMany c_NoText c_NoForm c_NoneYet : Addr} (X : K.In h) (G : h.Ns mainGlobals mg) (hfa : mg "law" = some (.ref fa))
    {od1 an1 od2 an2 od3 an3 od4 an4 od5 an5 od6 an6 od7 an7 od8 an8 od9 an9 od10 an10 od11 an11 od12 an12 od13 an13 od14 an14 od15 an15 od16 an16 od17 an17 : Option Addr} {sl1 sl2 sl3 sl4 sl5 sl6 sl7 sl8 sl9 sl10 sl11 sl12 sl13 sl14 sl15 sl16 sl17 : Array (Option Value)} {oc1 kV1 dc1 pm1 cd1 ct1 oc2 kV2 dc2 pm2 cd2 ct2 oc3 kV3 dc3 pm3 cd3 ct3 oc4 kV4 dc4 pm4 cd4 ct4 oc5 kV5 dc5 pm5 cd5 ct5 oc6 kV6 dc6 pm6 cd6 ct6 oc7 kV7 dc7 pm7 cd7 ct7 oc8 kV8 dc8 pm8 cd8 ct8 oc9 kV9 dc9 pm9 cd9 ct9 oc10 kV10 dc10 pm10 cd10 ct10 oc11 kV11 dc11 pm11 cd11 ct11 oc12 kV12 dc12 pm12 cd12 ct12 oc13 kV13 dc13 pm13 cd13 ct13 oc14 kV14 dc14 pm14 cd14 ct14 oc15 kV15 dc15 pm15 cd15 ct15 oc16 kV16 dc16 pm16 cd16 ct16 oc17 kV17 dc17 pm17 cd17 ct17 : Value}
    (a1 : PySem.W.nsIn K mainGlobals "_law_stir" = some (some (.ref f1))) (l1 : K.lookup f1 = some ⟨oc1, od1, .func (PySem.W.fnOf "_law_stir" "_law_stir" (defArgs s__law_stir) (defBody s__law_stir) (defScope s__law_stir) .none kV1 dc1 pm1 an1 cd1 ct1), sl1⟩) (c1 : PySem.W.codeIn K cd1 "_law_stir" = true) (k1 : PySem.W.keepIn K (.ref f1) = true)
    (a2 : PySem.W.nsIn K mainGlobals "_law_cells" = some (some (.ref f2))) (l2 : K.lookup f2 = some ⟨oc2, od2, .func (PySem.W.fnOf "_law_cells" "_law_cells" (defArgs s__law_cells) (defBody s__law_cells) (defScope s__law_cells) .none kV2 dc2 pm2 an2 cd2 ct2), sl2⟩) (c2 : PySem.W.codeIn K cd2 "_law_cells" = true) (k2 : PySem.W.keepIn K (.ref f2) = true)
    (a3 : PySem.W.nsIn K mainGlobals "_law_modulus" = some (some (.ref f3))) (l3 : K.lookup f3 = some ⟨oc3, od3, .func (PySem.W.fnOf "_law_modulus" "_law_modulus" (defArgs s__law_modulus) (defBody s__law_modulus) (defScope s__law_modulus) .none kV3 dc3 pm3 an3 cd3 ct3), sl3⟩) (c3 : PySem.W.codeIn K cd3 "_law_modulus" = true) (k3 : PySem.W.keepIn K (.ref f3) = true)
    (a4 : PySem.W.nsIn K mainGlobals "_law_row" = some (some (.ref f4))) (l4 : K.lookup f4 = some ⟨oc4, od4, .func (PySem.W.fnOf "_law_row" "_law_row" (defArgs s__law_row) (defBody s__law_row) (defScope s__law_row) .none kV4 dc4 pm4 an4 cd4 ct4), sl4⟩) (c4 : PySem.W.codeIn K cd4 "_law_row" = true) (k4 : PySem.W.keepIn K (.ref f4) = true)
    (a5 : PySem.W.nsIn K mainGlobals "number_in" = some (some (.ref f5))) (l5 : K.lookup f5 = some ⟨oc5, od5, .func (PySem.W.fnOf "number_in" "number_in" (defArgs s_number_in) (defBody s_number_in) (defScope s_number_in) .none kV5 dc5 pm5 an5 cd5 ct5), sl5⟩) (c5 : PySem.W.codeIn K cd5 "number_in" = true) (k5 : PySem.W.keepIn K (.ref f5) = true)
    (a6 : PySem.W.nsIn K mainGlobals "read_row" = some (some (.ref f6))) (l6 : K.lookup f6 = some ⟨oc6, od6, .func (PySem.W.fnOf "read_row" "read_row" (defArgs s_read_row) (defBody s_read_row) (defScope s_read_row) .none kV6 dc6 pm6 an6 cd6 ct6), sl6⟩) (c6 : PySem.W.codeIn K cd6 "read_row" = true) (k6 : PySem.W.keepIn K (.ref f6) = true)
    (a7 : PySem.W.nsIn K mainGlobals "_law_same" = some (some (.ref f7))) (l7 : K.lookup f7 = some ⟨oc7, od7, .func (PySem.W.fnOf "_law_same" "_law_same" (defArgs s__law_same) (defBody s__law_same) (defScope s__law_same) .none kV7 dc7 pm7 an7 cd7 ct7), sl7⟩) (c7 : PySem.W.codeIn K cd7 "_law_same" = true) (k7 : PySem.W.keepIn K (.ref f7) = true)
    (a8 : PySem.W.nsIn K mainGlobals "_law_flags" = some (some (.ref f8))) (l8 : K.lookup f8 = some ⟨oc8, od8, .func (PySem.W.fnOf "_law_flags" "_law_flags" (defArgs s__law_flags) (defBody s__law_flags) (defScope s__law_flags) .none kV8 dc8 pm8 an8 cd8 ct8), sl8⟩) (c8 : PySem.W.codeIn K cd8 "_law_flags" = true) (k8 : PySem.W.keepIn K (.ref f8) = true)
    (a9 : PySem.W.nsIn K mainGlobals "_law_number" = some (some (.ref f9))) (l9 : K.lookup f9 = some ⟨oc9, od9, .func (PySem.W.fnOf "_law_number" "_law_number" (defArgs s__law_number) (defBody s__law_number) (defScope s__law_number) .none kV9 dc9 pm9 an9 cd9 ct9), sl9⟩) (c9 : PySem.W.codeIn K cd9 "_law_number" = true) (k9 : PySem.W.keepIn K (.ref f9) = true)
    (a10 : PySem.W.nsIn K mainGlobals "_law_due" = some (some (.ref f10))) (l10 : K.lookup f10 = some ⟨oc10, od10, .func (PySem.W.fnOf "_law_due" "_law_due" (defArgs s__law_due) (defBody s__law_due) (defScope s__law_due) .none kV10 dc10 pm10 an10 cd10 ct10), sl10⟩) (c10 : PySem.W.codeIn K cd10 "_law_due" = true) (k10 : PySem.W.keepIn K (.ref f10) = true)
    (a11 : PySem.W.nsIn K mainGlobals "_law_told" = some (some (.ref f11))) (l11 : K.lookup f11 = some ⟨oc11, od11, .func (PySem.W.fnOf "_law_told" "_law_told" (defArgs s__law_told) (defBody s__law_told) (defScope s__law_told) .none kV11 dc11 pm11 an11 cd11 ct11), sl11⟩) (c11 : PySem.W.codeIn K cd11 "_law_told" = true) (k11 : PySem.W.keepIn K (.ref f11) = true)
    (a12 : PySem.W.nsIn K mainGlobals "_law_right" = some (some (.ref f12))) (l12 : K.lookup f12 = some ⟨oc12, od12, .func (PySem.W.fnOf "_law_right" "_law_right" (defArgs s__law_right) (defBody s__law_right) (defScope s__law_right) .none kV12 dc12 pm12 an12 cd12 ct12), sl12⟩) (c12 : PySem.W.codeIn K cd12 "_law_right" = true) (k12 : PySem.W.keepIn K (.ref f12) = true)
    (a13 : PySem.W.nsIn K mainGlobals "_law_text" = some (some (.ref f13))) (l13 : K.lookup f13 = some ⟨oc13, od13, .func (PySem.W.fnOf "_law_text" "_law_text" (defArgs s__law_text) (defBody s__law_text) (defScope s__law_text) .none kV13 dc13 pm13 an13 cd13 ct13), sl13⟩) (c13 : PySem.W.codeIn K cd13 "_law_text" = true) (k13 : PySem.W.keepIn K (.ref f13) = true)
    (a14 : PySem.W.nsIn K mainGlobals "_law_sign" = some (some (.ref f14))) (l14 : K.lookup f14 = some ⟨oc14, od14, .func (PySem.W.fnOf "_law_sign" "_law_sign" (defArgs s__law_sign) (defBody s__law_sign) (defScope s__law_sign) .none kV14 dc14 pm14 an14 cd14 ct14), sl14⟩) (c14 : PySem.W.codeIn K cd14 "_law_sign" = true) (k14 : PySem.W.keepIn K (.ref f14) = true)
    (a15 : PySem.W.nsIn K mainGlobals "_law_spoilt" = some (some (.ref f15))) (l15 : K.lookup f15 = some ⟨oc15, od15, .func (PySem.W.fnOf "_law_spoilt" "_law_spoilt" (defArgs s__law_spoilt) (defBody s__law_spoilt) (defScope s__law_spoilt) .none kV15 dc15 pm15 an15 cd15 ct15), sl15⟩) (c15 : PySem.W.codeIn K cd15 "_law_spoilt" = true) (k15 : PySem.W.keepIn K (.ref f15) = true)
    (a16 : PySem.W.nsIn K mainGlobals "_law_free" = some (some (.ref f16))) (l16 : K.lookup f16 = some ⟨oc16, od16, .func (PySem.W.fnOf "_law_free" "_law_free" (defArgs s__law_free) (defBody s__law_free) (defScope s__law_free) .none kV16 dc16 pm16 an16 cd16 ct16), sl16⟩) (c16 : PySem.W.codeIn K cd16 "_law_free" = true) (k16 : PySem.W.keepIn K (.ref f16) = true)
    (a17 : PySem.W.nsIn K mainGlobals "law" = some (some (.ref f17))) (l17 : K.lookup f17 = some ⟨oc17, od17, .func (PySem.W.fnOf "law" "law" (defArgs s_law) (defBody s_law) (defScope s_law) .none kV17 dc17 pm17 an17 cd17 ct17), sl17⟩) (c17 : PySem.W.codeIn K cd17 "law" = true) (k17 : PySem.W.keepIn K (.ref f17) = true)
    (z_ValueError : PySem.W.nsIn K mainGlobals "ValueError" = some none)
    (z_bool : PySem.W.nsIn K mainGlobals "bool" = some none)
    (z_int : PySem.W.nsIn K mainGlobals "int" = some none)
    (z_isinstance : PySem.W.nsIn K mainGlobals "isinstance" = some none)
    (z_len : PySem.W.nsIn K mainGlobals "len" = some none)
    (z_list : PySem.W.nsIn K mainGlobals "list" = some none)
    (z_max : PySem.W.nsIn K mainGlobals "max" = some none)
    (z_min : PySem.W.nsIn K mainGlobals "min" = some none)
    (z_range : PySem.W.nsIn K mainGlobals "range" = some none)
    (z_str : PySem.W.nsIn K mainGlobals "str" = some none)
    (z_tuple : PySem.W.nsIn K mainGlobals "tuple" = some none)
    (z_zip : PySem.W.nsIn K mainGlobals "zip" = some none)
    (xg_ : PySem.W.specialIn K (.builtin "object.__class__") "__get__" = some (some (.builtin "getset_descriptor.__get__")))
    (xt_ : PySem.W.takesIn K (.builtin "object.__class__") = some true)
    (xg_RestError : PySem.W.nsIn K mainGlobals "RestError" = some (some (.ref c_RestError)))
    (xk_RestError : PySem.W.keepIn K (.ref c_RestError) = true)
    (xq_RestError : PySem.W.excIn K c_RestError [.type "ValueError", .type "Exception", .type "BaseException", .type "object"] "ValueError.__new__" = true)
    (xs_RestError : PySem.W.subIn K (.ref c_RestError) (.type "BaseException") = some true)
    (xt_RestError : PySem.W.typeIn K (.ref c_RestError) = some (.type "type"))
    (xga_RestError : PySem.W.findIn K (.ref c_RestError) "__getattribute__" = some (some (.builtin "BaseException.__getattribute__")))
    (xgg_RestError : PySem.W.findIn K (.ref c_RestError) "__getattr__" = some none)
    (xhd_RestError : PySem.W.hasDictIn K c_RestError = true)
    (xca_RestError : PySem.W.findIn K (.ref c_RestError) "__class__" = some (some (.builtin "object.__class__")))
    (xmo_RestError : PySem.W.mroIn K c_RestError (.type "object") = some true)
    (xg_NoModulus : PySem.W.nsIn K mainGlobals "NoModulus" = some (some (.ref c_NoModulus)))
    (xk_NoModulus : PySem.W.keepIn K (.ref c_NoModulus) = true)
    (xq_NoModulus : PySem.W.excIn K c_NoModulus [.type "ValueError", .type "Exception", .type "BaseException", .type "object"] "ValueError.__new__" = true)
    (xs_NoModulus : PySem.W.subIn K (.ref c_NoModulus) (.type "BaseException") = some true)
    (xt_NoModulus : PySem.W.typeIn K (.ref c_NoModulus) = some (.type "type"))
    (xga_NoModulus : PySem.W.findIn K (.ref c_NoModulus) "__getattribute__" = some (some (.builtin "BaseException.__getattribute__")))
    (xgg_NoModulus : PySem.W.findIn K (.ref c_NoModulus) "__getattr__" = some none)
    (xhd_NoModulus : PySem.W.hasDictIn K c_NoModulus = true)
    (xca_NoModulus : PySem.W.findIn K (.ref c_NoModulus) "__class__" = some (some (.builtin "object.__class__")))
    (xmo_NoModulus : PySem.W.mroIn K c_NoModulus (.type "object") = some true)
    (xg_NoCount : PySem.W.nsIn K mainGlobals "NoCount" = some (some (.ref c_NoCount)))
    (xk_NoCount : PySem.W.keepIn K (.ref c_NoCount) = true)
    (xq_NoCount : PySem.W.excIn K c_NoCount [.type "ValueError", .type "Exception", .type "BaseException", .type "object"] "ValueError.__new__" = true)
    (xs_NoCount : PySem.W.subIn K (.ref c_NoCount) (.type "BaseException") = some true)
    (xt_NoCount : PySem.W.typeIn K (.ref c_NoCount) = some (.type "type"))
    (xga_NoCount : PySem.W.findIn K (.ref c_NoCount) "__getattribute__" = some (some (.builtin "BaseException.__getattribute__")))
    (xgg_NoCount : PySem.W.findIn K (.ref c_NoCount) "__getattr__" = some none)
    (xhd_NoCount : PySem.W.hasDictIn K c_NoCount = true)
    (xca_NoCount : PySem.W.findIn K (.ref c_NoCount) "__class__" = some (some (.builtin "object.__class__")))
    (xmo_NoCount : PySem.W.mroIn K c_NoCount (.type "object") = some true)
    (xg_NoPaper : PySem.W.nsIn K mainGlobals "NoPaper" = some (some (.ref c_NoPaper)))
    (xk_NoPaper : PySem.W.keepIn K (.ref c_NoPaper) = true)
    (xq_NoPaper : PySem.W.excIn K c_NoPaper [.type "ValueError", .type "Exception", .type "BaseException", .type "object"] "ValueError.__new__" = true)
    (xs_NoPaper : PySem.W.subIn K (.ref c_NoPaper) (.type "BaseException") = some true)
    (xt_NoPaper : PySem.W.typeIn K (.ref c_NoPaper) = some (.type "type"))
    (xga_NoPaper : PySem.W.findIn K (.ref c_NoPaper) "__getattribute__" = some (some (.builtin "BaseException.__getattribute__")))
    (xgg_NoPaper : PySem.W.findIn K (.ref c_NoPaper) "__getattr__" = some none)
    (xhd_NoPaper : PySem.W.hasDictIn K c_NoPaper = true)
    (xca_NoPaper : PySem.W.findIn K (.ref c_NoPaper) "__class__" = some (some (.builtin "object.__class__")))
    (xmo_NoPaper : PySem.W.mroIn K c_NoPaper (.type "object") = some true)
    (xg_TooMany : PySem.W.nsIn K mainGlobals "TooMany" = some (some (.ref c_TooMany)))
    (xk_TooMany : PySem.W.keepIn K (.ref c_TooMany) = true)
    (xq_TooMany : PySem.W.excIn K c_TooMany [.type "ValueError", .type "Exception", .type "BaseException", .type "object"] "ValueError.__new__" = true)
    (xs_TooMany : PySem.W.subIn K (.ref c_TooMany) (.type "BaseException") = some true)
    (xt_TooMany : PySem.W.typeIn K (.ref c_TooMany) = some (.type "type"))
    (xga_TooMany : PySem.W.findIn K (.ref c_TooMany) "__getattribute__" = some (some (.builtin "BaseException.__getattribute__")))
    (xgg_TooMany : PySem.W.findIn K (.ref c_TooMany) "__getattr__" = some none)
    (xhd_TooMany : PySem.W.hasDictIn K c_TooMany = true)
    (xca_TooMany : PySem.W.findIn K (.ref c_TooMany) "__class__" = some (some (.builtin "object.__class__")))
    (xmo_TooMany : PySem.W.mroIn K c_TooMany (.type "object") = some true)
    (xg_NoText : PySem.W.nsIn K mainGlobals "NoText" = some (some (.ref c_NoText)))
    (xk_NoText : PySem.W.keepIn K (.ref c_NoText) = true)
    (xq_NoText : PySem.W.excIn K c_NoText [.type "ValueError", .type "Exception", .type "BaseException", .type "object"] "ValueError.__new__" = true)
    (xs_NoText : PySem.W.subIn K (.ref c_NoText) (.type "BaseException") = some true)
    (xt_NoText : PySem.W.typeIn K (.ref c_NoText) = some (.type "type"))
    (xga_NoText : PySem.W.findIn K (.ref c_NoText) "__getattribute__" = some (some (.builtin "BaseException.__getattribute__")))
    (xgg_NoText : PySem.W.findIn K (.ref c_NoText) "__getattr__" = some none)
    (xhd_NoText : PySem.W.hasDictIn K c_NoText = true)
    (xca_NoText : PySem.W.findIn K (.ref c_NoText) "__class__" = some (some (.builtin "object.__class__")))
    (xmo_NoText : PySem.W.mroIn K c_NoText (.type "object") = some true)
    (xg_NoForm : PySem.W.nsIn K mainGlobals "NoForm" = some (some (.ref c_NoForm)))
    (xk_NoForm : PySem.W.keepIn K (.ref c_NoForm) = true)
    (xq_NoForm : PySem.W.excIn K c_NoForm [.type "ValueError", .type "Exception", .type "BaseException", .type "object"] "ValueError.__new__" = true)
    (xs_NoForm : PySem.W.subIn K (.ref c_NoForm) (.type "BaseException") = some true)
    (xt_NoForm : PySem.W.typeIn K (.ref c_NoForm) = some (.type "type"))
    (xga_NoForm : PySem.W.findIn K (.ref c_NoForm) "__getattribute__" = some (some (.builtin "BaseException.__getattribute__")))
    (xgg_NoForm : PySem.W.findIn K (.ref c_NoForm) "__getattr__" = some none)
    (xhd_NoForm : PySem.W.hasDictIn K c_NoForm = true)
    (xca_NoForm : PySem.W.findIn K (.ref c_NoForm) "__class__" = some (some (.builtin "object.__class__")))
    (xmo_NoForm : PySem.W.mroIn K c_NoForm (.type "object") = some true)
    (xg_NoneYet : PySem.W.nsIn K mainGlobals "NoneYet" = some (some (.ref c_NoneYet)))
    (xk_NoneYet : PySem.W.keepIn K (.ref c_NoneYet) = true)
    (xq_NoneYet : PySem.W.excIn K c_NoneYet [.type "ValueError", .type "Exception", .type "BaseException", .type "object"] "ValueError.__new__" = true)
    (xs_NoneYet : PySem.W.subIn K (.ref c_NoneYet) (.type "BaseException") = some true)
    (xt_NoneYet : PySem.W.typeIn K (.ref c_NoneYet) = some (.type "type"))
    (xga_NoneYet : PySem.W.findIn K (.ref c_NoneYet) "__getattribute__" = some (some (.builtin "BaseException.__getattribute__")))
    (xgg_NoneYet : PySem.W.findIn K (.ref c_NoneYet) "__getattr__" = some none)
    (xhd_NoneYet : PySem.W.hasDictIn K c_NoneYet = true)
    (xca_NoneYet : PySem.W.findIn K (.ref c_NoneYet) "__class__" = some (some (.builtin "object.__class__")))
    (xmo_NoneYet : PySem.W.mroIn K c_NoneYet (.type "object") = some true)
    (m_NoText_RestError : PySem.W.exmOne K (.ref c_NoText) (.ref c_RestError) = some true)
    (i_NoText_NoCount : PySem.W.kitOne K (.ref c_NoText) (.ref c_NoCount) = some false)
    (i_NoText_NoForm : PySem.W.kitOne K (.ref c_NoText) (.ref c_NoForm) = some false)
    (i_NoText_NoModulus : PySem.W.kitOne K (.ref c_NoText) (.ref c_NoModulus) = some false)
    (i_NoText_NoPaper : PySem.W.kitOne K (.ref c_NoText) (.ref c_NoPaper) = some false)
    (i_NoText_NoText : PySem.W.kitOne K (.ref c_NoText) (.ref c_NoText) = some true)
    (i_NoText_NoneYet : PySem.W.kitOne K (.ref c_NoText) (.ref c_NoneYet) = some false)
    (i_NoText_TooMany : PySem.W.kitOne K (.ref c_NoText) (.ref c_TooMany) = some false)
    (i_NoText_ValueError : PySem.W.kitOne K (.ref c_NoText) (.type "ValueError") = some true)
    {tk_FIGURES : Tok} (v_FIGURES : PySem.W.nsIn K mainGlobals "FIGURES" = some (some (.str "0123456789" tk_FIGURES)))
    {tk_MOST_FIGURES : Tok} (v_MOST_FIGURES : PySem.W.nsIn K mainGlobals "MOST_FIGURES" = some (some (.int 30 tk_MOST_FIGURES))) :
    ∃ fd : FuncData, (∀ (s : Shared) (v : Value), BindsTo s fd ⟨[v], []⟩ [("script", v)]) ∧ ∀ base : Heap, K.In base → base.Ns mainGlobals mg → FnOk l.prog w K mg base (L2.CX l.prog w) 5 fa fd ["script"] (Sp1 K false (fun (script : Scr) => script.ns.length ≤ 63) m_law) := by
  have e := hfa.symm.trans (PySem.W.mg_of X G a17)
  cases e
  have T : Txt K mg c_RestError c_NoModulus c_NoCount c_NoPaper c_TooMany c_NoText c_NoForm c_NoneYet := ⟨⟨PySem.W.mg_of X G xg_RestError, xk_RestError, xq_RestError, xs_RestError, xt_RestError, ⟨xga_RestError, xgg_RestError, xs_RestError, xhd_RestError, xca_RestError, xg_, xt_, xmo_RestError⟩⟩, ⟨PySem.W.mg_of X G xg_NoModulus, xk_NoModulus, xq_NoModulus, xs_NoModulus, xt_NoModulus, ⟨xga_NoModulus, xgg_NoModulus, xs_NoModulus, xhd_NoModulus, xca_NoModulus, xg_, xt_, xmo_NoModulus⟩⟩, ⟨PySem.W.mg_of X G xg_NoCount, xk_NoCount, xq_NoCount, xs_NoCount, xt_NoCount, ⟨xga_NoCount, xgg_NoCount, xs_NoCount, xhd_NoCount, xca_NoCount, xg_, xt_, xmo_NoCount⟩⟩, ⟨PySem.W.mg_of X G xg_NoPaper, xk_NoPaper, xq_NoPaper, xs_NoPaper, xt_NoPaper, ⟨xga_NoPaper, xgg_NoPaper, xs_NoPaper, xhd_NoPaper, xca_NoPaper, xg_, xt_, xmo_NoPaper⟩⟩, ⟨PySem.W.mg_of X G xg_TooMany, xk_TooMany, xq_TooMany, xs_TooMany, xt_TooMany, ⟨xga_TooMany, xgg_TooMany, xs_TooMany, xhd_TooMany, xca_TooMany, xg_, xt_, xmo_TooMany⟩⟩, ⟨PySem.W.mg_of X G xg_NoText, xk_NoText, xq_NoText, xs_NoText, xt_NoText, ⟨xga_NoText, xgg_NoText, xs_NoText, xhd_NoText, xca_NoText, xg_, xt_, xmo_NoText⟩⟩, ⟨PySem.W.mg_of X G xg_NoForm, xk_NoForm, xq_NoForm, xs_NoForm, xt_NoForm, ⟨xga_NoForm, xgg_NoForm, xs_NoForm, xhd_NoForm, xca_NoForm, xg_, xt_, xmo_NoForm⟩⟩, ⟨PySem.W.mg_of X G xg_NoneYet, xk_NoneYet, xq_NoneYet, xs_NoneYet, xt_NoneYet, ⟨xga_NoneYet, xgg_NoneYet, xs_NoneYet, xhd_NoneYet, xca_NoneYet, xg_, xt_, xmo_NoneYet⟩⟩, m_NoText_RestError, i_NoText_NoCount, i_NoText_NoForm, i_NoText_NoModulus, i_NoText_NoPaper, i_NoText_NoText, i_NoText_NoneYet, i_NoText_TooMany, i_NoText_ValueError, ⟨_, PySem.W.mg_of X G v_FIGURES⟩, ⟨_, PySem.W.mg_of X G v_MOST_FIGURES⟩, PySem.W.mg_none_of X G z_ValueError, PySem.W.mg_none_of X G z_bool, PySem.W.mg_none_of X G z_int, PySem.W.mg_none_of X G z_isinstance, PySem.W.mg_none_of X G z_len, PySem.W.mg_none_of X G z_list, PySem.W.mg_none_of X G z_max, PySem.W.mg_none_of X G z_min, PySem.W.mg_none_of X G z_range, PySem.W.mg_none_of X G z_str, PySem.W.mg_none_of X G z_tuple, PySem.W.mg_none_of X G z_zip⟩
  have F1 := fun_mk (st := s__law_stir) l1 c1 k1
  have b1 := F1.binds (ps := ["cell", "k"]) fun _ _ _ _ _ _ us hl => match us, hl with | [_, _], _ => rfl
  have F2 := fun_mk (st := s__law_cells) l2 c2 k2
  have b2 := F2.binds (ps := ["script", "many"]) fun _ _ _ _ _ _ us hl => match us, hl with | [_, _], _ => rfl
  have F3 := fun_mk (st := s__law_modulus) l3 c3 k3
  have b3 := F3.binds (ps := ["cell"]) fun _ _ _ _ _ _ us hl => match us, hl with | [_], _ => rfl
  have F4 := fun_mk (st := s__law_row) l4 c4 k4
  have b4 := F4.binds (ps := ["cell", "modulus", "most"]) fun _ _ _ _ _ _ us hl => match us, hl with | [_, _, _], _ => rfl
  have F5 := fun_mk (st := s_number_in) l5 c5 k5
  have b5 := F5.binds (ps := ["word"]) fun _ _ _ _ _ _ us hl => match us, hl with | [_], _ => rfl
  have F6 := fun_mk (st := s_read_row) l6 c6 k6
  have b6 := F6.binds (ps := ["text"]) fun _ _ _ _ _ _ us hl => match us, hl with | [_], _ => rfl
  have F7 := fun_mk (st := s__law_same) l7 c7 k7
  have b7 := F7.binds (ps := ["found", "due"]) fun _ _ _ _ _ _ us hl => match us, hl with | [_, _], _ => rfl
  have F8 := fun_mk (st := s__law_flags) l8 c8 k8
  have b8 := F8.binds (ps := ["e"]) fun _ _ _ _ _ _ us hl => match us, hl with | [_], _ => rfl
  have F9 := fun_mk (st := s__law_number) l9 c9 k9
  have b9 := F9.binds (ps := ["word"]) fun _ _ _ _ _ _ us hl => match us, hl with | [_], _ => rfl
  have F10 := fun_mk (st := s__law_due) l10 c10 k10
  have b10 := F10.binds (ps := ["text"]) fun _ _ _ _ _ _ us hl => match us, hl with | [_], _ => rfl
  have F11 := fun_mk (st := s__law_told) l11 c11 k11
  have b11 := F11.binds (ps := ["text"]) fun _ _ _ _ _ _ us hl => match us, hl with | [_], _ => rfl
  have F12 := fun_mk (st := s__law_right) l12 c12 k12
  have b12 := F12.binds (ps := ["text"]) fun _ _ _ _ _ _ us hl => match us, hl with | [_], _ => rfl
  have F13 := fun_mk (st := s__law_text) l13 c13 k13
  have b13 := F13.binds (ps := ["row"]) fun _ _ _ _ _ _ us hl => match us, hl with | [_], _ => rfl
  have F14 := fun_mk (st := s__law_sign) l14 c14 k14
  have b14 := F14.binds (ps := ["cell", "k"]) fun _ _ _ _ _ _ us hl => match us, hl with | [_, _], _ => rfl
  have F15 := fun_mk (st := s__law_spoilt) l15 c15 k15
  have b15 := F15.binds (ps := ["cell", "k", "text"]) fun _ _ _ _ _ _ us hl => match us, hl with | [_, _, _], _ => rfl
  have F16 := fun_mk (st := s__law_free) l16 c16 k16
  have b16 := F16.binds (ps := ["cell"]) fun _ _ _ _ _ _ us hl => match us, hl with | [_], _ => rfl
  have F17 := fun_mk (st := s_law) l17 c17 k17
  have b17 := F17.binds (ps := ["script"]) fun _ _ _ _ _ _ us hl => match us, hl with | [_], _ => rfl
  refine ⟨PySem.W.fnOf "law" "law" (defArgs s_law) (defBody s_law) (defScope s_law) .none kV17 dc17 pm17 an17 cd17 ct17, fun s v => .of_eq rfl, fun base _ _ => ?_⟩
  have C_q_stir : Cal l.prog w K mg base 1 "_law_stir" (Sp2 K false (fun (cell : Int) (k : Int) => 0 ≤ k) m_q_stir) := cal_q_stir T F1 (PySem.W.mg_of X G a1) b1 
  have C_q_cells : Cal l.prog w K mg base 1 "_law_cells" (Sp2 K true (fun (script : Scr) (many : Int) => script.ns.length ≤ 63 ∧ 0 ≤ many ∧ many ≤ 63) m_q_cells) := cal_q_cells T F2 (PySem.W.mg_of X G a2) b2 
  have C_q_modulus : Cal l.prog w K mg base 2 "_law_modulus" (Sp1 K false (fun (cell : Int) => True) m_q_modulus) := cal_q_modulus T F3 (PySem.W.mg_of X G a3) b3 C_q_stir
  have C_q_row : Cal l.prog w K mg base 2 "_law_row" (Sp3 K true (fun (cell : Int) (modulus : Int) (most : Int) => 1 ≤ modulus ∧ modulus ≤ 60 ∧ 0 ≤ most ∧ most ≤ 40) m_q_row) := cal_q_row T F4 (PySem.W.mg_of X G a4) b4 C_q_stir
  have C_number_in : Cal l.prog w K mg base 1 "number_in" (Sp1 K false (fun (word : Str) => ChkW word ∧ FigOk word (figs word)) m_number_in) := cal_number_in T F5 (PySem.W.mg_of X G a5) b5 
  have C_num_x : CalN l.prog w K mg base 1 "number_in" (SpR1 K (fun (word : Str) => ChkW word ∧ ¬ FigOk word (figs word)) c_NoText) := cal_num_x T F5 (PySem.W.mg_of X G a5) b5 
  have C_read_row : Cal l.prog w K mg base 2 "read_row" (Sp1 K true (fun (text : Str) => TxtOk text ∧ GoodT text) m_read_row) := cal_read_row T F6 (PySem.W.mg_of X G a6) b6 C_number_in
  have C_row_x : CalN l.prog w K mg base 2 "read_row" (SpR1 K (fun (text : Str) => TxtOk text ∧ ¬ GoodT text) c_NoText) := cal_row_x T F6 (PySem.W.mg_of X G a6) b6 C_num_x C_number_in
  have C_same_i : Cal l.prog w K mg base 1 "_law_same" (Sp2 K false (fun (found : Int) (due : Int) => True) m_same_i) := cal_same_i T F7 (PySem.W.mg_of X G a7) b7 
  have C_same_l : Cal l.prog w K mg base 2 "_law_same" (Sp2 K false (fun (found : (List Int)) (due : (List Int)) => True) m_same_l) := cal_same_l T F7 (PySem.W.mg_of X G a7) b7 C_same_i
  have C_same_s : Cal l.prog w K mg base 1 "_law_same" (Sp2 K false (fun (found : Str) (due : Str) => True) m_same_s) := cal_same_s T F7 (PySem.W.mg_of X G a7) b7 
  have C_flags_x : FlE l.prog w K mg base 1 "_law_flags" c_NoText m_flags_x := cal_flags_x T F8 (PySem.W.mg_of X G a8) b8 
  have C_lnum : Cal l.prog w K mg base 1 "_law_number" (Sp1 K false (fun (word : Str) => ChkW word) m_lnum) := cal_lnum T F9 (PySem.W.mg_of X G a9) b9 
  have C_due_l : Cal l.prog w K mg base 2 "_law_due" (Sp1 K false (fun (text : Str) => TxtOk text ∧ GoodT text) m_due_l) := cal_due_l T F10 (PySem.W.mg_of X G a10) b10 C_lnum
  have C_due_t : Cal l.prog w K mg base 2 "_law_due" (Sp1 K false (fun (text : Str) => TxtOk text ∧ ¬ GoodT text) m_due_t) := cal_due_t T F10 (PySem.W.mg_of X G a10) b10 C_lnum
  have C_toldx : Cal l.prog w K mg base 3 "_law_told" (Sp1 K false (fun (text : Str) => TxtOk text) m_toldx) := cal_toldx T F11 (PySem.W.mg_of X G a11) b11 C_row_x C_flags_x C_read_row
  have C_right_l : Cal l.prog w K mg base 4 "_law_right" (Sp1 K false (fun (text : Str) => TxtOk text ∧ GoodT text) m_right_l) := cal_right_l T F12 (PySem.W.mg_of X G a12) b12 C_due_l C_toldx C_same_l
  have C_right_t : Cal l.prog w K mg base 4 "_law_right" (Sp1 K false (fun (text : Str) => TxtOk text ∧ ¬ GoodT text) m_right_t) := cal_right_t T F12 (PySem.W.mg_of X G a12) b12 C_due_t C_toldx C_same_s
  have C_q_text : Cal l.prog w K mg base 1 "_law_text" (Sp1 K false (fun (row : (List Int)) => ShortRow row) m_q_text) := cal_q_text T F13 (PySem.W.mg_of X G a13) b13 
  have C_sign : Cal l.prog w K mg base 2 "_law_sign" (Sp2 K false (fun (cell : Int) (k : Int) => 0 ≤ k) m_sign) := cal_sign T F14 (PySem.W.mg_of X G a14) b14 C_q_stir
  have C_spoilt : Cal l.prog w K mg base 3 "_law_spoilt" (Sp3 K false (fun (cell : Int) (k : Int) (text : Str) => TN 1960 text ∧ 0 ≤ k) m_spoilt) := cal_spoilt T F15 (PySem.W.mg_of X G a15) b15 C_q_stir C_sign
  have C_free : Cal l.prog w K mg base 2 "_law_free" (Sp1 K false (fun (cell : Int) => True) m_free) := cal_free T F16 (PySem.W.mg_of X G a16) b16 C_q_stir
  exact cal_law (P := l.prog) (w := w) (base := base) T F17 (PySem.W.mg_of X G a17) b17 C_q_cells C_q_modulus C_q_row C_q_text C_free C_right_l C_right_t C_spoilt
end Q
open PySem PySem.W PyProof.Rows
set_option maxHeartbeats 0 in
theorem PySem.Challenge.cw_restsums_k38_texts_of_no_row_holds : PySem.Challenge.rw_restsums_k38_texts_of_no_row.Holds := by
  w_on; o_law; k_head; (case hw => w_witness2)
  k_fill
  refine L2.walk_of (l := PySem.Challenge.rw_restsums_k38_texts_of_no_row) (n := 63) (k := 5) (x := "script") (CX := fun w => L2.CX (PySem.Challenge.rw_restsums_k38_texts_of_no_row).prog w) (sp := fun w => RL.Sp1 _ false (fun (script : RL.Scr) => script.ns.length ≤ 63) Q.m_law) rfl (by decide) rfl ⟨rfl, by decide, by decide⟩ (fun w h Y => PySem.W.kIn_of Y) ?F (fun _ H a ns hl _ hS => RL.law_sp Q.law_true hl hS) (fun _ _ _ _ _ h => RL.law_cx h)
  case F =>
    intro w mg fa h KX G hmg
    refine' Q.all_mk KX G hmg ?a1 ?l1 ?c1 ?k1 ?a2 ?l2 ?c2 ?k2 ?a3 ?l3 ?c3 ?k3 ?a4 ?l4 ?c4 ?k4 ?a5 ?l5 ?c5 ?k5 ?a6 ?l6 ?c6 ?k6 ?a7 ?l7 ?c7 ?k7 ?a8 ?l8 ?c8 ?k8 ?a9 ?l9 ?c9 ?k9 ?a10 ?l10 ?c10 ?k10 ?a11 ?l11 ?c11 ?k11 ?a12 ?l12 ?c12 ?k12 ?a13 ?l13 ?c13 ?k13 ?a14 ?l14 ?c14 ?k14 ?a15 ?l15 ?c15 ?k15 ?a16 ?l16 ?c16 ?k16 ?a17 ?l17 ?c17 ?k17 ?z_ValueError ?z_bool ?z_int ?z_isinstance ?z_len ?z_list ?z_max ?z_min ?z_range ?z_str ?z_tuple ?z_zip ?xg_ ?xt_ ?xg_RestError ?xk_RestError ?xq_RestError ?xs_RestError ?xt_RestError ?xga_RestError ?xgg_RestError ?xhd_RestError ?xca_RestError ?xmo_RestError ?xg_NoModulus ?xk_NoModulus ?xq_NoModulus ?xs_NoModulus ?xt_NoModulus ?xga_NoModulus ?xgg_NoModulus ?xhd_NoModulus ?xca_NoModulus ?xmo_NoModulus ?xg_NoCount ?xk_NoCount ?xq_NoCount ?xs_NoCount ?xt_NoCount ?xga_NoCount ?xgg_NoCount ?xhd_NoCount ?xca_NoCount ?xmo_NoCount ?xg_NoPaper ?xk_NoPaper ?xq_NoPaper ?xs_NoPaper ?xt_NoPaper ?xga_NoPaper ?xgg_NoPaper ?xhd_NoPaper ?xca_NoPaper ?xmo_NoPaper ?xg_TooMany ?xk_TooMany ?xq_TooMany ?xs_TooMany ?xt_TooMany ?xga_TooMany ?xgg_TooMany ?xhd_TooMany ?xca_TooMany ?xmo_TooMany ?xg_NoText ?xk_NoText ?xq_NoText ?xs_NoText ?xt_NoText ?xga_NoText ?xgg_NoText ?xhd_NoText ?xca_NoText ?xmo_NoText ?xg_NoForm ?xk_NoForm ?xq_NoForm ?xs_NoForm ?xt_NoForm ?xga_NoForm ?xgg_NoForm ?xhd_NoForm ?xca_NoForm ?xmo_NoForm ?xg_NoneYet ?xk_NoneYet ?xq_NoneYet ?xs_NoneYet ?xt_NoneYet ?xga_NoneYet ?xgg_NoneYet ?xhd_NoneYet ?xca_NoneYet ?xmo_NoneYet ?m_NoText_RestError ?i_NoText_NoCount ?i_NoText_NoForm ?i_NoText_NoModulus ?i_NoText_NoPaper ?i_NoText_NoText ?i_NoText_NoneYet ?i_NoText_TooMany ?i_NoText_ValueError ?v_FIGURES ?v_MOST_FIGURES
    (case a1 => k_is)
    (case l1 => k_is)
    (case c1 => k_is)
    (case k1 => k_is)
    (case a2 => k_is)
    (case l2 => k_is)
    (case c2 => k_is)
    (case k2 => k_is)
    (case a3 => k_is)
    (case l3 => k_is)
    (case c3 => k_is)
    (case k3 => k_is)
    (case a4 => k_is)
    (case l4 => k_is)
    (case c4 => k_is)
    (case k4 => k_is)
    (case a5 => k_is)
    (case l5 => k_is)
    (case c5 => k_is)
    (case k5 => k_is)
    (case a6 => k_is)
    (case l6 => k_is)
    (case c6 => k_is)
    (case k6 => k_is)
    (case a7 => k_is)
    (case l7 => k_is)
    (case c7 => k_is)
    (case k7 => k_is)
    (case a8 => k_is)
    (case l8 => k_is)
    (case c8 => k_is)
    (case k8 => k_is)
    (case a9 => k_is)
    (case l9 => k_is)
    (case c9 => k_is)
    (case k9 => k_is)
    (case a10 => k_is)
    (case l10 => k_is)
    (case c10 => k_is)
    (case k10 => k_is)
    (case a11 => k_is)
    (case l11 => k_is)
    (case c11 => k_is)
    (case k11 => k_is)
    (case a12 => k_is)
    (case l12 => k_is)
    (case c12 => k_is)
    (case k12 => k_is)
    (case a13 => k_is)
    (case l13 => k_is)
    (case c13 => k_is)
    (case k13 => k_is)
    (case a14 => k_is)
    (case l14 => k_is)
    (case c14 => k_is)
    (case k14 => k_is)
    (case a15 => k_is)
    (case l15 => k_is)
    (case c15 => k_is)
    (case k15 => k_is)
    (case a16 => k_is)
    (case l16 => k_is)
    (case c16 => k_is)
    (case k16 => k_is)
    (case a17 => k_is)
    (case l17 => k_is)
    (case c17 => k_is)
    (case k17 => k_is)
    (case z_ValueError => k_is)
    (case z_bool => k_is)
    (case z_int => k_is)
    (case z_isinstance => k_is)
    (case z_len => k_is)
    (case z_list => k_is)
    (case z_max => k_is)
    (case z_min => k_is)
    (case z_range => k_is)
    (case z_str => k_is)
    (case z_tuple => k_is)
    (case z_zip => k_is)
    (case xg_ => k_is)
    (case xt_ => k_is)
    (case xg_RestError => k_is)
    (case xk_RestError => k_is)
    (case xq_RestError => k_exc)
    (case xs_RestError => k_is)
    (case xt_RestError => k_is)
    (case xga_RestError => k_is)
    (case xgg_RestError => k_is)
    (case xhd_RestError => k_is)
    (case xca_RestError => k_is)
    (case xmo_RestError => k_is)
    (case xg_NoModulus => k_is)
    (case xk_NoModulus => k_is)
    (case xq_NoModulus => k_exc)
    (case xs_NoModulus => k_is)
    (case xt_NoModulus => k_is)
    (case xga_NoModulus => k_is)
    (case xgg_NoModulus => k_is)
    (case xhd_NoModulus => k_is)
    (case xca_NoModulus => k_is)
    (case xmo_NoModulus => k_is)
    (case xg_NoCount => k_is)
    (case xk_NoCount => k_is)
    (case xq_NoCount => k_exc)
    (case xs_NoCount => k_is)
    (case xt_NoCount => k_is)
    (case xga_NoCount => k_is)
    (case xgg_NoCount => k_is)
    (case xhd_NoCount => k_is)
    (case xca_NoCount => k_is)
    (case xmo_NoCount => k_is)
    (case xg_NoPaper => k_is)
    (case xk_NoPaper => k_is)
    (case xq_NoPaper => k_exc)
    (case xs_NoPaper => k_is)
    (case xt_NoPaper => k_is)
    (case xga_NoPaper => k_is)
    (case xgg_NoPaper => k_is)
    (case xhd_NoPaper => k_is)
    (case xca_NoPaper => k_is)
    (case xmo_NoPaper => k_is)
    (case xg_TooMany => k_is)
    (case xk_TooMany => k_is)
    (case xq_TooMany => k_exc)
    (case xs_TooMany => k_is)
    (case xt_TooMany => k_is)
    (case xga_TooMany => k_is)
    (case xgg_TooMany => k_is)
    (case xhd_TooMany => k_is)
    (case xca_TooMany => k_is)
    (case xmo_TooMany => k_is)
    (case xg_NoText => k_is)
    (case xk_NoText => k_is)
    (case xq_NoText => k_exc)
    (case xs_NoText => k_is)
    (case xt_NoText => k_is)
    (case xga_NoText => k_is)
    (case xgg_NoText => k_is)
    (case xhd_NoText => k_is)
    (case xca_NoText => k_is)
    (case xmo_NoText => k_is)
    (case xg_NoForm => k_is)
    (case xk_NoForm => k_is)
    (case xq_NoForm => k_exc)
    (case xs_NoForm => k_is)
    (case xt_NoForm => k_is)
    (case xga_NoForm => k_is)
    (case xgg_NoForm => k_is)
    (case xhd_NoForm => k_is)
    (case xca_NoForm => k_is)
    (case xmo_NoForm => k_is)
    (case xg_NoneYet => k_is)
    (case xk_NoneYet => k_is)
    (case xq_NoneYet => k_exc)
    (case xs_NoneYet => k_is)
    (case xt_NoneYet => k_is)
    (case xga_NoneYet => k_is)
    (case xgg_NoneYet => k_is)
    (case xhd_NoneYet => k_is)
    (case xca_NoneYet => k_is)
    (case xmo_NoneYet => k_is)
    (case m_NoText_RestError => kts_exm)
    (case i_NoText_NoCount => kit_is)
    (case i_NoText_NoForm => kit_is)
    (case i_NoText_NoModulus => kit_is)
    (case i_NoText_NoPaper => kit_is)
    (case i_NoText_NoText => kit_is)
    (case i_NoText_NoneYet => kit_is)
    (case i_NoText_TooMany => kit_is)
    (case i_NoText_ValueError => kit_is)
    (case v_FIGURES => k_is)
    (case v_MOST_FIGURES => k_is)
