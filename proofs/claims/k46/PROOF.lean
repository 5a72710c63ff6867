import PyProof.Rows.All
import Wide.All
import OpenK.AllK
import Wide.FinOn
import PyProof.Draws
import PyProof.EnumMake
import KE.GoesMore
import KE.DataMinMax
import KE.KDictPairs
import HandS.ForMost
import HandS.IsInst
import HandS.TupAny
import HandS.TupMul
import HandS.DictComp
import HandS.Strs
import HandS.More
import HandS.SortInts
import HandS.SetFor
import HandS.Conv
import HandS.Walk
import KE.SortData
import HandS.Style
import PySem.Challenge.RW_frontmeets_k46_whole_one_kind_exchanges
set_option Elab.async false
set_option linter.all false
set_option maxRecDepth 100000
set_option maxHeartbeats 4000000
/-! The plain law: rows that meet at junctions of one kind; one more person at the end of a line. No program here. -/
namespace K46
open PySem

/-- order in which fronts go: low: the shorter first; high: the taller first -/
def Bf (low : Bool) (a b : Int) : Prop := if low = true then a < b else b < a
theorem Bf.tr {l : Bool} {a b c : Int} (h1 : Bf l a b) (h2 : Bf l b c) : Bf l a c := by
  cases l <;> simp only [Bf, if_true, Bool.false_eq_true, if_false] at * <;> omega
theorem Bf.as {l : Bool} {a b : Int} (h1 : Bf l a b) (h2 : Bf l b a) : False := by
  cases l <;> simp only [Bf, if_true, Bool.false_eq_true, if_false] at * <;> omega
theorem Bf.irr {l : Bool} {a : Int} (h1 : Bf l a a) : False := h1.as h1

/-- one person: the height, the line -/
abbrev Ps := Int × Str
/-- rows meet: who goes, and from which row -/
inductive Mt (l : Bool) : List (List Ps) → List (Ps × Nat) → Prop where
  | done {rows : List (List Ps)} (h : ∀ r ∈ rows, r = []) : Mt l rows []
  | step {rows : List (List Ps)} {i : Nat} {x : Ps} {r : List Ps} {out : List (Ps × Nat)} (hi : rows[i]? = some (x :: r))
      (hb : ∀ (j : Nat) (y : Ps) (t : List Ps), j ≠ i → rows[j]? = some (y :: t) → Bf l x.1 y.1) (rest : Mt l (rows.set i r) out) : Mt l rows ((x, i) :: out)

theorem Mt.step_inv {l : Bool} {rows : List (List Ps)} {out : List (Ps × Nat)} (h : Mt l rows out) {i : Nat} {x : Ps} {r : List Ps} (hi : rows[i]? = some (x :: r))
    (hb : ∀ (j : Nat) (y : Ps) (t : List Ps), j ≠ i → rows[j]? = some (y :: t) → Bf l x.1 y.1) : ∃ o, out = (x, i) :: o ∧ Mt l (rows.set i r) o := by
  cases h with
  | done h => exact absurd (h _ (List.mem_of_getElem? hi)) (by simp)
  | @step _ j y t o hj hc rest =>
    by_cases e : j = i
    · subst e
      rw [hi] at hj
      cases hj
      exact ⟨o, rfl, rest⟩
    · exact ((hb j y t e hj).as (hc i x r (fun z => e z.symm) hi)).elim
theorem Mt.fn {l : Bool} {rows : List (List Ps)} {o1 o2 : List (Ps × Nat)} (h : Mt l rows o1) (h2 : Mt l rows o2) : o1 = o2 := by
  induction h generalizing o2 with
  | done h =>
    cases h2 with
    | done _ => rfl
    | step hi _ _ => exact absurd (h _ (List.mem_of_getElem? hi)) (by simp)
  | step hi hb rest ih =>
    obtain ⟨o, rfl, m⟩ := h2.step_inv hi hb
    rw [ih m]
theorem perm_set {rows : List (List Ps)} : ∀ {i : Nat} {x : Ps} {r : List Ps}, rows[i]? = some (x :: r) → (x :: (rows.set i r).flatten).Perm rows.flatten := by
  induction rows with
  | nil => intro i x r h; simp at h
  | cons a as ih =>
    intro i x r h
    cases i with
    | zero =>
      have e : a = x :: r := by simpa using h
      subst e
      simp
    | succ i =>
      have h' : as[i]? = some (x :: r) := by simpa using h
      have := ih h'
      simp only [List.set_cons_succ, List.flatten_cons]
      exact (List.perm_middle.symm).trans (List.Perm.append_left a this)
theorem Mt.perm {l : Bool} {rows : List (List Ps)} {out : List (Ps × Nat)} (h : Mt l rows out) : (out.map (·.1)).Perm rows.flatten := by
  induction h with
  | @done rows h =>
    have : rows.flatten = [] := by
      rw [List.flatten_eq_nil_iff]
      exact h
    rw [this]
    exact List.Perm.nil
  | step hi hb rest ih =>
    refine List.Perm.trans ?_ (perm_set hi)
    exact List.Perm.cons _ ih

/-- h of line L put into xs ahead of one that goes after h (or at the end) -/
def Ins (l : Bool) (h : Int) (L : Str) (xs ys : List Ps) : Prop := ∃ p q, xs = p ++ q ∧ ys = p ++ (h, L) :: q ∧ ∀ z t, q = z :: t → Bf l h z.1

theorem Ins.cons {l : Bool} {h : Int} {L : Str} {xs ys : List Ps} (x : Ps) (H : Ins l h L xs ys) : Ins l h L (x :: xs) (x :: ys) := by
  obtain ⟨p, q, rfl, rfl, c⟩ := H
  exact ⟨x :: p, q, rfl, rfl, c⟩

theorem set_get {α : Type} {l : List α} {i : Nat} {x y : α} (h : l[i]? = some y) : (l.set i x)[i]? = some x := by
  have : i < l.length := (List.getElem?_eq_some_iff.mp h).1
  rw [List.getElem?_set_self this]
theorem set_back {α : Type} {l : List α} {i : Nat} {x y : α} (h : l[i]? = some y) : (l.set i x).set i y = l := by
  rw [List.set_set]
  have hi : i < l.length := (List.getElem?_eq_some_iff.mp h).1
  have e : l[i] = y := (List.getElem?_eq_some_iff.mp h).2
  rw [← e]
  exact List.set_getElem_self hi

theorem meet_ins {l : Bool} {h : Int} {L : Str} {rows' : List (List Ps)} {out' : List (Ps × Nat)} (m' : Mt l rows' out') : ∀ {rows : List (List Ps)} {out : List (Ps × Nat)} {i : Nat} {r r' : List Ps},
    rows[i]? = some r → rows' = rows.set i r' → Ins l h L r r' → Mt l rows out → Ins l h L (out.map (·.1)) (out'.map (·.1)) := by
  induction m' with
  | @done rows' hd =>
    intro rows out i r r' hi e H _
    subst e
    have : r' = [] := hd _ (List.mem_of_getElem? (set_get hi))
    obtain ⟨p, q, _, rfl, _⟩ := H
    simp at this
  | @step rows' j x t o hj hb rest ih =>
    intro rows out i r r' hi e H m
    subst e
    by_cases hji : j = i
    · subst hji
      have er : r' = x :: t := by
        have := hj
        rw [set_get hi] at this
        exact Option.some.inj this
      obtain ⟨p, q, rfl, e2, c⟩ := H
      cases p with
      | nil =>
        -- h goes: the rest is as it was
        rw [e2] at er
        obtain ⟨rfl, rfl⟩ := List.cons.inj er
        have rest' := rest
        rw [show (rows.set j r').set j q = rows from set_back hi] at rest'
        have := rest'.fn m
        subst this
        refine ⟨[], _, rfl, rfl, fun z t2 ez => ?_⟩
        cases m with
        | done _ => simp at ez
        | @step _ k y s o2 hk hc rest2 =>
          have ey : y = z := by simpa using (List.cons.inj ez).1
          subst ey
          by_cases hkj : k = j
          · subst hkj
            rw [hi] at hk
            exact c _ _ (Option.some.inj hk)
          · have := hb k y s hkj (by rw [List.getElem?_set_ne (fun z => hkj z.symm)]; exact hk)
            exact this
      | cons y p =>
        rw [e2] at er
        obtain ⟨rfl, rfl⟩ := List.cons.inj er
        obtain ⟨o1, rfl, m1⟩ := m.step_inv hi fun k z s hk ek => hb k z s hk (by rw [List.getElem?_set_ne (fun z => hk z.symm)]; exact ek)
        have h1 : (rows.set j (p ++ q))[j]? = some (p ++ q) := set_get hi
        have h2 : ((rows.set j r').set j (p ++ (h, L) :: q)) = ((rows.set j (p ++ q)).set j (p ++ (h, L) :: q)) := by rw [List.set_set, List.set_set]
        exact (ih h1 h2 ⟨p, q, rfl, rfl, c⟩ m1).cons y
    · have hj' : rows[j]? = some (x :: t) := by
        rw [List.getElem?_set_ne (fun z => hji z.symm)] at hj
        exact hj
      have hmin : ∀ (k : Nat) (z : Ps) (s : List Ps), k ≠ j → rows[k]? = some (z :: s) → Bf l x.1 z.1 := by
        intro k z s hk ek
        by_cases hki : k = i
        · subst hki
          rw [hi] at ek
          have ek := Option.some.inj ek
          subst ek
          obtain ⟨p, q, e1, e2, c⟩ := H
          cases p with
          | nil =>
            have hx := hb k (h, L) q (fun z => hji z.symm) (by rw [set_get hi, e2] <;> rfl)
            exact hx.tr (c z s e1.symm)
          | cons y p =>
            obtain ⟨rfl, rfl⟩ := List.cons.inj e1
            exact hb k z _ (fun z => hji z.symm) (by rw [set_get hi, e2] <;> rfl)
        · exact hb k z s hk (by rw [List.getElem?_set_ne (fun z => hki z.symm)]; exact ek)
      obtain ⟨o1, rfl, m1⟩ := m.step_inv hj' hmin
      have h1 : (rows.set j t)[i]? = some r := by
        rw [List.getElem?_set_ne hji]
        exact hi
      exact (ih h1 (List.set_comm _ _ (fun z => hji z.symm)) H m1).cons x

/-! ### plans -/
inductive T where
  | leaf (s : Str)
  | node (k : Str) (ts : List T)
mutual
def T.leaves : T → List Str
  | .leaf s => [s]
  | .node _ ts => leavesAll ts
def leavesAll : List T → List Str
  | [] => []
  | t :: ts => t.leaves ++ leavesAll ts
end
mutual
def T.depth : T → Nat
  | .leaf _ => 0
  | .node _ ts => depthAll ts + 1
def depthAll : List T → Nat
  | [] => 0
  | t :: ts => max t.depth (depthAll ts)
end
mutual
/-- every junction is of this kind -/
def T.one (k : Str) : T → Prop
  | .leaf _ => True
  | .node k' ts => k' = k ∧ oneAll k ts
def oneAll (k : Str) : List T → Prop
  | [] => True
  | t :: ts => t.one k ∧ oneAll k ts
end
abbrev kLow : Str := "low"
def isLow (k : Str) : Bool := decide (k = kLow)
mutual
/-- the result of a plan, each person with the line; f: the rows by line -/
inductive Out (f : Str → List Int) : T → List Ps → Prop where
  | leaf {s : Str} : Out f (.leaf s) ((f s).map fun h => (h, s))
  | node {k : Str} {ts : List T} {os : List (List Ps)} {res : List (Ps × Nat)} (hs : OutAll f ts os) (hm : Mt (isLow k) os res) : Out f (.node k ts) (res.map (·.1))
inductive OutAll (f : Str → List Int) : List T → List (List Ps) → Prop where
  | nil : OutAll f [] []
  | cons {t : T} {ts : List T} {o : List Ps} {os : List (List Ps)} (h : Out f t o) (hs : OutAll f ts os) : OutAll f (t :: ts) (o :: os)
end

mutual
/-- the rows of two maps that agree at the leaves -/
theorem out_agree {f g : Str → List Int} : ∀ {t : T} {o1 o2 : List Ps}, (∀ s ∈ t.leaves, f s = g s) → Out f t o1 → Out g t o2 → o1 = o2
  | .leaf s, _, _, hf, .leaf, .leaf => by
    rw [hf s (by simp [T.leaves])]
  | .node k ts, _, _, hf, .node h1 m1, .node h2 m2 => by
    have e := outs_agree (by simpa only [T.leaves] using hf) h1 h2
    subst e
    rw [m1.fn m2]
theorem outs_agree {f g : Str → List Int} : ∀ {ts : List T} {o1 o2 : List (List Ps)}, (∀ s ∈ leavesAll ts, f s = g s) → OutAll f ts o1 → OutAll g ts o2 → o1 = o2
  | [], _, _, _, .nil, .nil => rfl
  | t :: ts, _, _, hf, .cons h1 r1, .cons h2 r2 => by
    simp only [leavesAll, List.mem_append] at hf
    rw [out_agree (fun s hs => hf s (.inl hs)) h1 h2, outs_agree (fun s hs => hf s (.inr hs)) r1 r2]
end
/-- the people of a plan's lines -/
def folkOf (f : Str → List Int) (ls : List Str) : List Ps := ls.flatMap fun s => (f s).map fun h => (h, s)
theorem folkOf_append (f : Str → List Int) (a b : List Str) : folkOf f (a ++ b) = folkOf f a ++ folkOf f b := by simp [folkOf]
mutual
theorem out_perm {f : Str → List Int} : ∀ {t : T} {o : List Ps}, Out f t o → o.Perm (folkOf f t.leaves)
  | .leaf s, _, .leaf => by simp [folkOf, T.leaves]
  | .node k ts, _, .node h m => m.perm.trans (outs_perm h)
theorem outs_perm {f : Str → List Int} : ∀ {ts : List T} {os : List (List Ps)}, OutAll f ts os → os.flatten.Perm (folkOf f (leavesAll ts))
  | [], _, .nil => by simp [folkOf, leavesAll]
  | t :: ts, _, .cons h hs => by
    rw [leavesAll, folkOf_append, List.flatten_cons]
    exact List.Perm.append (out_perm h) (outs_perm hs)
end

mutual
theorem out_ins {f g : Str → List Int} {h : Int} {L k : Str} (hL : g L = f L ++ [h]) (ho : ∀ s, s ≠ L → g s = f s) : ∀ {t : T} {o1 o2 : List Ps}, t.leaves.Nodup → L ∈ t.leaves → t.one k → Out f t o1 → Out g t o2 → Ins (isLow k) h L o1 o2
  | .leaf s, _, _, _, hm, _, .leaf, .leaf => by
    have e : L = s := by simpa [T.leaves] using hm
    subst e
    refine ⟨(f L).map fun h => (h, L), [], by simp, ?_, fun z t e => nomatch e⟩
    rw [hL]
    simp
  | .node k' ts, _, _, hn, hm, hk, .node h1 m1, .node h2 m2 => by
    simp only [T.leaves] at hn hm
    obtain ⟨hk1, hk2⟩ := hk
    subst hk1
    obtain ⟨i, r, r', e1, e2, e3⟩ := outs_ins hL ho hn hm hk2 h1 h2
    exact meet_ins m2 e1 e2 e3 m1
theorem outs_ins {f g : Str → List Int} {h : Int} {L k : Str} (hL : g L = f L ++ [h]) (ho : ∀ s, s ≠ L → g s = f s) : ∀ {ts : List T} {o1 o2 : List (List Ps)}, (leavesAll ts).Nodup → L ∈ leavesAll ts → oneAll k ts → OutAll f ts o1 → OutAll g ts o2 →
    ∃ (i : Nat) (r r' : List Ps), o1[i]? = some r ∧ o2 = o1.set i r' ∧ Ins (isLow k) h L r r'
  | [], _, _, _, hm, _, _, _ => by simp [leavesAll] at hm
  | t :: ts, _, _, hn, hm, hk, .cons (o := a) (os := as) h1 r1, .cons (o := b) (os := bs) h2 r2 => by
    simp only [leavesAll, List.nodup_append, List.mem_append] at hn hm
    obtain ⟨n1, n2, n3⟩ := hn
    obtain ⟨k1, k2⟩ := hk
    by_cases hin : L ∈ t.leaves
    · have e : as = bs := outs_agree (fun s hs => (ho s (fun z => n3 L hin s hs z.symm)).symm) r1 r2
      subst e
      exact ⟨0, a, b, rfl, rfl, out_ins hL ho n1 hin k1 h1 h2⟩
    · have e : a = b := out_agree (fun s hs => (ho s (fun z => hin (z ▸ hs))).symm) h1 h2
      subst e
      obtain ⟨i, r, r', e1, e2, e3⟩ := outs_ins hL ho n2 (hm.resolve_left hin) k2 r1 r2
      exact ⟨i + 1, r, r', by simpa using e1, by rw [e2, List.set_cons_succ], e3⟩
end
end K46

/-! Rules that the layer lacks for this program. -/
namespace K46
open PySem PySem.Spec PyProof.Rows L2

/-! ### tuples that are just a tuple (no dict of their own), locked: they may be asked for their methods -/
def TupAt (H : Hp) (a : Addr) (xs : List V) : Prop := ∃ o : Obj, o.dict = none ∧ H a = some (.frz o (.tup xs))
theorem TupAt.sq {K : PySem.W.Frag} {H : Hp} {a : Addr} {xs : List V} (h : TupAt H a xs) : SqT K H a xs := by
  obtain ⟨o, _, h⟩ := h
  exact .inl (.inr ⟨o, h⟩)
theorem TupAt.mono {H H' : Hp} {a : Addr} {xs : List V} (s : Same H H') (h : TupAt H a xs) : TupAt H' a xs := by
  obtain ⟨o, d, h⟩ := h
  exact ⟨o, d, s _ _ h⟩
theorem TupAt.ty {K : PySem.W.Frag} {H : Hp} {a : Addr} {xs : List V} (h : TupAt H a xs) : TyX K H (.ref a) (.type "tuple") := by
  obtain ⟨o, _, h⟩ := h
  exact .fTuple h
theorem TupAt.inj {H : Hp} {a : Addr} {xs ys : List V} (h : TupAt H a xs) (h' : TupAt H a ys) : xs = ys := by
  obtain ⟨o, _, h⟩ := h
  obtain ⟨o', _, h'⟩ := h'
  rw [h] at h'
  cases h'
  rfl
theorem same_up {H : Hp} {p : Addr} {o : HO} (h : H p = none) : Same H (upd H p o) := fun b x e => by
  rw [upd_ne (ne_of_none e h)]
  exact e
/-- an object that H does not know may change -/
theorem same_mut {H H' : Hp} {p : Addr} {o : HO} (e : Same H H') (h : H p = none) : Same H (upd H' p o) := fun a u ha => by
  rw [upd_ne (ne_of_none ha h)]
  exact e a u ha
theorem Same.at {H H' : Hp} {p : Addr} {o : HO} (e : Same H H') (h : H p = some o) : H' p = some o := e _ _ h

theorem PE.wk {X : Cx} {e : Expr} {t t' : TE} (h : PE X e t) (w : ∀ σ H Q, t' σ H Q → t σ H Q) : PE X e t' := ⟨fun pins s σ H Q I q => h.run pins s σ H Q I (w _ _ _ q)⟩
theorem CallR.wk {X : Cx} {f : Value} {r r' : List V → Hp → VK → Prop} (h : CallR X f r) (w : ∀ xs H Q, r' xs H Q → r xs H Q) : CallR X f r' := fun pins s σ H xs us Q I rv q => h pins s σ H xs us Q I rv (w _ _ _ q)
theorem OpR.wk {X : Cx} {f : Value → Value → Sem Value} {r r' : R2} (h : OpR X f r) (w : ∀ x y H Q, r' x y H Q → r x y H Q) : OpR X f r' := fun pins s σ H x y v u Q I rx ry q => h pins s σ H x y v u Q I rx ry (w _ _ _ _ q)

/-- a new tuple object stands at the heap's end -/
theorem frz_new {P : Program} {w : World} {H : Hp} {h : Heap} {xs : List V} {us : List Value} (z : xs.length ≤ sizeLine) (r : Vals xs us) :
    ObjOk P w (upd H h.objs.size (.frz { cls := .type "tuple", data := .seq us.toArray } (.tup xs))) (h.push { cls := .type "tuple", data := .seq us.toArray }) h.objs.size (.frz { cls := .type "tuple", data := .seq us.toArray } (.tup xs)) :=
  ⟨Heap.get?_push_size _ rfl, z, us, r, IsTup.new _ _⟩
theorem tup_new {H : Hp} {p : Addr} {xs : List V} {us : List Value} : TupAt (upd H p (.frz { cls := .type "tuple", data := .seq us.toArray } (.tup xs))) p xs := ⟨_, rfl, upd_same⟩

/-- (a, b, ..) -/
def tTupF (t : TA) : TE := fun σ H Q => t σ H fun xs H1 => xs.length ≤ sizeLine ∧ ∀ p H2, H1 p = none → Same H1 H2 → TupAt H2 p xs → Q (.ref p) H2
theorem pe_tupF {X : Cx} {es : List Expr} {t : TA} {pos : Pos} {x1} (h : PA X es t) : PE X (.Tuple es x1 pos) (tTupF t) := by
  refine ⟨fun pins s σ H Q I hq => ?_⟩
  refine wpAny_Tuple_spliced (thn (h.run pos pins s σ H _ I hq) fun us s1 ⟨xs, H1, I1, r, z, q⟩ => ⟨by rw [← r.length]; exact z, ?_⟩)
  have hf : H1 s1.heap.objs.size = none := I1.hok.fresh (Nat.le_refl _)
  exact ⟨.ref s1.heap.objs.size, _, I1.laid (t' := s1.toks) (fun b u e => Heap.get?_push_of_some _ e) (Nat.le_refl _) (frz_new z r), rfl, q _ _ hf (same_up hf) tup_new⟩
/-- [a, b, ..] -/
def tLstS (t : TA) : TE := fun σ H Q => t σ H fun xs H1 => xs.length ≤ sizeLine ∧ ∀ p H2, H1 p = none → Same H1 H2 → H2 p = some (.lst xs) → Q (.ref p) H2
theorem pe_lstS {X : Cx} {es : List Expr} {t : TA} {pos : Pos} (h : PA X es t) : PE X (.List es pos) (tLstS t) := by
  refine ⟨fun pins s σ H Q I hq => ?_⟩
  refine wpAny_List_spliced (thn (h.run pos pins s σ H _ I hq) fun us s1 ⟨xs, H1, I1, r, z, q⟩ => ⟨by rw [← r.length]; exact z, ?_⟩)
  have hf : H1 s1.heap.objs.size = none := I1.hok.fresh (Nat.le_refl _)
  refine ⟨.ref s1.heap.objs.size, upd H1 s1.heap.objs.size (.lst xs), I1.laid (t' := s1.toks) (fun b u e => Heap.get?_push_of_some _ e) (Nat.le_refl _) ?_, rfl, q _ _ hf (same_up hf) upd_same⟩
  exact ⟨z, us, 0, r, Heap.get?_push_size _ rfl⟩
section
variable {X : Cx}
/-- t + u -/
def rCatF : R2 := fun x y H Q => ∃ a b xs ys, x = .ref a ∧ y = .ref b ∧ TupAt H a xs ∧ TupAt H b ys ∧ xs.length + ys.length ≤ sizeLine ∧ ∀ p H2, Same H H2 → TupAt H2 p (xs ++ ys) → Q (.ref p) H2
theorem op_catF : OpR X (binaryOp .Add) rCatF := by
  intro pins s σ H x y v u Q I rx ry h
  obtain ⟨a, b, xs, ys, rfl, rfl, ha, hb, hz, q⟩ := h
  cases rx
  cases ry
  obtain ⟨its, r1, p1, _⟩ := I.tuple (ha.sq)
  obtain ⟨its2, r2, p2, _⟩ := I.tuple (hb.sq)
  by_cases hx : xs = []
  · subst hx
    cases r1
    exact cat_tup0 p1 p2 ⟨.ref b, H, I, rfl, q _ _ (Same.refl H) hb⟩
  · refine HT.cat_tup p1 p2 (fun z => hx (r1.nil_iff.mp z)) (fun z => ⟨.ref a, H, I, rfl, q _ _ (Same.refl H) ?_⟩) (fun z => ?_) (by rw [← r1.length, ← r2.length]; exact hz)
    · have := r2.nil_iff.mp z
      subst this
      rw [List.append_nil]
      exact ha
    · have hf : H s.heap.objs.size = none := I.hok.fresh (Nat.le_refl _)
      exact ⟨.ref s.heap.objs.size, _, I.laid (t' := s.toks) (fun b ob q => Heap.get?_push_of_some _ q) (Nat.le_refl _) (frz_new (by rw [List.length_append]; exact hz) (r1.append r2)), rfl, q _ _ (same_up hf) tup_new⟩
/-- tuple(list) -/
def rTupF (K : PySem.W.Frag) : List V → Hp → VK → Prop := fun xs H Q => ∃ p ys, xs = [.ref p] ∧ SqL K H p ys ∧ ∀ l H2, H l = none → Same H H2 → TupAt H2 l ys → Q (.ref l) H2
theorem call_tupF : CallR X (.type "tuple") (rTupF X.K) := by
  intro pins s σ H xs us Q I r h
  obtain ⟨p, ys, rfl, hq, q⟩ := h
  obtain ⟨u, rfl, rx⟩ := vals1 r
  cases rx
  obtain ⟨its, r', pl, hz⟩ := I.list hq
  have hlen := r'.length
  refine call_tuple_list pl.isList (fun h' kp => ?_) (by simp only [List.size_toArray] <;> omega)
  have I1 : Inv X pins σ H { s with heap := h' } := I.kept (t' := s.toks) kp
  have hf : H h'.objs.size = none := I1.hok.fresh (Nat.le_refl _)
  exact ⟨.ref h'.objs.size, _, I1.laid (t' := s.toks) (fun b o e => Heap.get?_push_of_some _ e) (Nat.le_refl _) (frz_new hz r'), rfl, q _ _ hf (same_up hf) tup_new⟩
/-- t[lo:hi] -/
def rSlF : V → Option Int → Option Int → Hp → VK → Prop := fun x lo hi H Q => ∃ a xs, x = .ref a ∧ TupAt H a xs ∧ ∀ p H2, Same H H2 → TupAt H2 p (cutV xs lo hi) → Q (.ref p) H2
theorem cut_whole {xs : List V} {lo hi : Option Int} (h : HT.sIx xs.length 0 lo = 0 ∧ HT.sIx xs.length xs.length hi = xs.length) : cutV xs lo hi = xs := by
  unfold cutV
  rw [h.1, h.2]
  simp
theorem sl_tupF : SlR X rSlF := by
  intro pins s σ H x v vl vu lo hi sl Q I rx hs pl pu h
  obtain ⟨a, xs, rfl, hx, q⟩ := h
  cases rx
  obtain ⟨its, r, ht, hz⟩ := I.tuple hx.sq
  have hlen : its.toArray.size = xs.length := by rw [List.size_toArray]; exact r.length.symm
  refine ⟨"tuple", _, PyProof.Rows.slot_tuple_getitem.lookup, ht.typeIs, ?_⟩
  by_cases hw : HT.sIx xs.length 0 lo = 0 ∧ HT.sIx xs.length xs.length hi = xs.length
  · refine getItem_tuple_whole ht hs pl pu (by rw [hlen]; exact hw) ⟨.ref a, H, I, rfl, q _ _ (Same.refl H) ?_⟩
    rw [cut_whole hw]
    exact hx
  · refine HT.getItem_tuple_cut ht hs pl pu (by rw [hlen]; exact hw) ?_ (by rw [hlen]; exact hz)
    rw [hlen]
    have hf : H s.heap.objs.size = none := I.hok.fresh (Nat.le_refl _)
    exact ⟨.ref s.heap.objs.size, _, I.laid (t' := s.toks) (fun b ob q => Heap.get?_push_of_some _ q) (Nat.le_refl _) (frz_new (xs := cutV xs lo hi) (Nat.le_trans (cutV_length xs lo hi) hz) ((r.drop (HT.sIx xs.length 0 lo)).take (HT.sIx xs.length xs.length hi - HT.sIx xs.length 0 lo))), rfl, q _ _ (same_up hf) tup_new⟩
/-- t.index(k), ints: the first place -/
def tIdx (to : TE) (t : TA) : TE := fun σ H Q => to σ H fun x H1 => ∃ (a : Addr) (xs : List V), x = .ref a ∧ TupAt H1 a xs ∧ t σ H1 fun ys H2 => ∃ (ns : List Int) (k : Int) (j : Nat), ys = [.int k] ∧ TupAt H2 a (ns.map V.int) ∧ ns[j]? = some k ∧ (∀ m : Nat, m < j → ns[m]? ≠ some k) ∧ Q (.int (j : Nat)) H2
theorem flat_intsV (ns : List Int) : (ns.map V.int).all flatV = true := by
  rw [List.all_map, List.all_eq_true]
  intro x _
  rfl
theorem pe_idx {o e : Expr} {to : TE} {t : TA} {apos cpos : Pos} (ho : PE X o to) (ha : PA X [e] t)
    (hbase : attributeBase o "index" X.env (eval o X.env) = eval o X.env := by rfl)
    (hfew : ((backTo cpos (starEach [e] X.env)).all (fun x => !x.1) && (backToKw cpos (keywordEach [] X.env)).all (fun x => x.1.isSome)
      && decide ([e].length + ([] : List Keyword).length + (if ([] : List Keyword).isEmpty then 0 else 1) < 30)) = true := by rfl)
    (hline : (apos.endLine == cpos.line) = true := by rfl) (hs : starEach [e] X.env = (false, eval e X.env) :: starEach [] X.env := by rfl) (hplain : (backTo cpos (starEach [] X.env)).any (·.1) = false := by rfl) :
    PE X (.Call (.Attribute o "index" apos) [e] [] cpos) (tIdx to t) := by
  refine ⟨fun pins s σ H Q I h => ?_⟩
  refine wpAny_Call_method_late hbase hfew hline rfl (thn (ho.run pins s σ H _ I h) fun v s1 ⟨x, H1, I1, r1, a, xs, ex, ha1, q1⟩ => ?_)
  subst ex
  cases r1
  obtain ⟨its, r, ht, hz⟩ := I1.tuple ha1.sq
  obtain ⟨ob, hd, hH⟩ := id ha1
  obtain ⟨hget, _⟩ := (show ObjOk X.prog X.w H1 s1.heap a (.frz ob (.tup xs)) from I1.hok a _ hH)
  refine ⟨"tuple", "tuple.index", PySem.F.plainAttrs_tuple, PySem.F.slot_tuple_index, PySem.F.type_tuple_index, ht.typeIs, fun b e => by cases e; exact ⟨ob, hget, hd⟩, ?_⟩
  have hA := ha.run cpos pins s1 σ H1 _ I1 q1
  rw [hs] at hA ⊢
  refine Calls.callWith_builtin (by show (false || (backTo cpos (starEach [] X.env)).any (·.1)) = false; rw [hplain] <;> rfl) (Calls.evalArgs_plain ?_)
  refine thn hA fun us s2 ⟨vs, H2, I2, r2, ns, k, j, ev, ha2, hy, hno, q⟩ => ?_
  subst ev
  obtain ⟨u, rfl, t', rfl⟩ := vals1 r2
  obtain ⟨its2, r', pl, hz2⟩ := I2.tuple ha2.sq
  obtain ⟨⟨cls, dd, dt, sl⟩, ho2, hc, n, hd2⟩ := pl
  simp only at hc hd2
  subst hc
  subst hd2
  have hl : its2.toArray.size = ns.length := by rw [List.size_toArray, ← r'.length, List.length_map]
  have hj : j < its2.toArray.size := by rw [hl]; exact (List.getElem?_eq_some_iff.mp hy).1
  have at' : ∀ (m : Nat) (hm : m < its2.toArray.size), ∃ y t', ns[m]? = some y ∧ its2.toArray[m] = Value.int y t' := fun m hm => by
    have hm' : m < ns.length := by rw [← hl]; exact hm
    obtain ⟨w, hw, t', hw'⟩ := r'.get (i := m) (x := .int ns[m]) (by simp [hm'])
    refine ⟨ns[m], t', List.getElem?_eq_getElem hm', ?_⟩
    have e := (List.getElem?_eq_some_iff.mp hw).2
    rw [← hw', ← e]
    simp
  refine call_meets PySem.F.slot_tuple_index ⟨_, ho2, rfl⟩ PySem.F.entry_tuple_index (PySem.F.args_tuple_index_2 _ _) (TI.tuple_indexAt a its2.toArray n dd sl (.int k t') (eqU (.int k)) j hj ?_ ?_)
    ⟨ho2, fun w hw => mem_eqAt (x := .int k) ⟨t', rfl⟩ rfl r' (flat_intsV ns) w (by simpa using hw), ⟨.int (j : Nat), H2, I2.tok _, ⟨_, rfl⟩, q⟩⟩
  · obtain ⟨y, t2, h1, h2⟩ := at' j hj
    rw [hy] at h1
    cases h1
    rw [h2]
    exact beq_self_eq_true k
  · intro m hm hmj
    obtain ⟨y, t2, h1, h2⟩ := at' m hm
    rw [h2]
    refine beq_eq_false_iff_ne.mpr fun e => hno m hmj ?_
    rw [h1, e]
end
end K46

namespace K46
open PySem PySem.Spec PyProof.Rows L2

/-! ### what stays -/
/-- all that is locked stays -/
def Fz (H H' : Hp) : Prop := ∀ b o u, H b = some (.frz o u) → H' b = some (.frz o u)
/-- all but these stays -/
def But (as : List Addr) (H H' : Hp) : Prop := ∀ b o, b ∉ as → H b = some o → H' b = some o
theorem Fz.refl (H : Hp) : Fz H H := fun _ _ _ h => h
theorem Fz.trans {H H1 H2 : Hp} (a : Fz H H1) (b : Fz H1 H2) : Fz H H2 := fun c o u h => b c o u (a c o u h)
theorem fz_same {H H' : Hp} (s : Same H H') : Fz H H' := fun b _ _ h => s b _ h
theorem fz_lst {H : Hp} {D : Addr} {xs : List V} {o' : HO} (h : H D = some (.lst xs)) : Fz H (upd H D o') := fun b o u e => by
  have : b ≠ D := fun z => by rw [z, h] at e; cases e
  rw [upd_ne this]
  exact e
theorem fz_dK {H : Hp} {D : Addr} {xs : List (Key × V)} {o' : HO} (h : H D = some (.dK xs)) : Fz H (upd H D o') := fun b o u e => by
  have : b ≠ D := fun z => by rw [z, h] at e; cases e
  rw [upd_ne this]
  exact e
theorem fz_none {H : Hp} {D : Addr} {o' : HO} (h : H D = none) : Fz H (upd H D o') := fz_same (same_up h)
theorem TupAt.fz {H H' : Hp} {a : Addr} {xs : List V} (s : Fz H H') (h : TupAt H a xs) : TupAt H' a xs := by
  obtain ⟨o, d, h⟩ := h
  exact ⟨o, d, s _ _ _ h⟩
theorem But.refl (as : List Addr) (H : Hp) : But as H H := fun _ _ _ h => h
theorem But.trans {as : List Addr} {H H1 H2 : Hp} (a : But as H H1) (b : But as H1 H2) : But as H H2 := fun c o n h => b c o n (a c o n h)
theorem but_same {as : List Addr} {H H' : Hp} (s : Same H H') : But as H H' := fun b o _ h => s b o h
theorem But.same {H H' : Hp} (s : But [] H H') : Same H H' := fun b o h => s b o (by simp) h
/-- an object that H does not know may change -/
theorem but_mut {as : List Addr} {H H' : Hp} {p : Addr} {o : HO} (e : But as H H') (h : H p = none) : But as H (upd H' p o) := fun a u hn ha => by
  rw [upd_ne (ne_of_none ha h)]
  exact e a u hn ha
theorem but_up {as : List Addr} {H : Hp} {p : Addr} {o : HO} (h : p ∈ as) : But as H (upd H p o) := fun a u hn ha => by
  rw [upd_ne (fun z => hn (by rw [z]; exact h))]
  exact ha
theorem But.fz {a : Addr} {H H' : Hp} {xs : List V} (s : But [a] H H') (h : H a = some (.lst xs)) : Fz H H' := fun b o u e => by
  refine s b _ ?_ e
  intro hb
  have := List.mem_singleton.mp hb
  rw [this, h] at e
  cases e
theorem But.free {as : List Addr} {H H' : Hp} {l : Addr} (e : But as H H') (hl : l ∉ as) (h : H' l = none) : H l = none := by
  cases q : H l with
  | none => rfl
  | some o =>
    rw [e l o hl q] at h
    cases h

/-- a comprehension under way: acc is made so far; R may speak of anything that a store to D leaves -/
def LcP (as : List Addr) (H1 : Hp) (D : Addr) (R : Nat → List V → Hp → Prop) (i : Nat) (H : Hp) : Prop := ∃ acc, But as H1 H ∧ H D = some (.lst acc) ∧ acc.length ≤ i ∧ R i acc H
def LcY (as : List Addr) (H1 : Hp) (D : Addr) (R : Nat → List V → Hp → Prop) (i : Nat) (y : V) (H4 : Hp) : Prop := ∃ acc, H4 D = some (.lst acc) ∧ acc.length < sizeLine ∧ LcP as H1 D R i (upd H4 D (.lst (acc ++ [y])))
section
variable {J : It} {n : Nat} {G : Hp → Prop} {Y : Nat → Hp → V → Hp → Prop} {as : List Addr} {g : TG} {tt : TT} {te : TE} {vs : List Nat} {σ : L2.St} {H1 : Hp} {D : Addr} {Qd : Hp → Prop} {R : Nat → List V → Hp → Prop}
/-- where a turn starts -/
structure LcC (as : List Addr) (H1 : Hp) (D : Addr) (R : Nat → List V → Hp → Prop) (i : Nat) (acc : List V) (H : Hp) : Prop where
  but : But as H1 H
  at_ : H D = some (.lst acc)
  len : acc.length ≤ i
  rel : R i acc H
/-- a turn that keeps y ends -/
theorem LcC.keep {i : Nat} {acc : List V} {y : V} {H H4 : Hp} (c : LcC as H1 D R i acc H) (hD : H1 D = none) (hDa : D ∉ as) (hR : ∀ i acc H xs ys, H D = some (.lst xs) → R i acc H → R i acc (upd H D (.lst ys)))
    (hi : i < sizeLine) (hb4 : But as H H4) (hr : R (i + 1) (acc ++ [y]) H4) : LcY as H1 D R (i + 1) y H4 :=
  ⟨acc, hb4 _ _ hDa c.at_, Nat.lt_of_le_of_lt c.len hi, acc ++ [y], but_mut (c.but.trans hb4) hD, upd_same, by rw [List.length_append]; exact Nat.succ_le_succ c.len, hR _ _ _ _ _ (hb4 _ _ hDa c.at_) hr⟩
/-- a turn that keeps nothing ends -/
theorem LcC.skip {i : Nat} {acc : List V} {H H3 : Hp} (c : LcC as H1 D R i acc H) (hDa : D ∉ as) (hb3 : But as H H3) (hr : R (i + 1) acc H3) : LcP as H1 D R (i + 1) H3 :=
  ⟨acc, c.but.trans hb3, hb3 _ _ hDa c.at_, Nat.le_succ_of_le c.len, hr⟩
theorem lc_gen (w : Walk J n G Y) (as : List Addr) (hD : H1 D = none) (R : Nat → List V → Hp → Prop)
    (h0 : R 0 [] (upd H1 D (.lst [])))
    (hG : ∀ i acc H, i ≤ n → But as H1 H → R i acc H → G H)
    (hs : ∀ i acc x H H', i < n → LcC as H1 D R i acc H → Y i H x H' → g x (wipe σ vs) H' fun σ2 H2 => wipe σ2 vs = wipe σ vs ∧ tt σ2 H2 fun b H3 =>
      if b = true then te σ2 H3 fun y H4 => LcY as H1 D R (i + 1) y H4 else LcP as H1 D R (i + 1) H3)
    (hd : ∀ acc H, LcC as H1 D R n acc H → Qd H) :
    ∃ W : Nat → Nat → Hp → Prop, (∃ m, W 0 m (upd H1 D (.lst []))) ∧ ∀ i m H, W i m H →
      (J.stop i H ∧ Qd H) ∨ (J.go i H ∧ ∃ Nx : Hp → Prop, (∀ H', Nx H' → ∃ m', m' < m ∧ W (i + 1) m' H') ∧ ∀ x H', J.yld i H x H' → g x (wipe σ vs) H' fun σ2 H2 => wipe σ2 vs = wipe σ vs ∧ tt σ2 H2 fun b H3 =>
        if b = true then te σ2 H3 fun y H4 => ∃ acc, H4 D = some (.lst acc) ∧ acc.length < sizeLine ∧ Nx (upd H4 D (.lst (acc ++ [y]))) else Nx H3) := by
  refine lc_it w (LcP as H1 D R) ⟨[], but_same (same_up hD), upd_same, Nat.le_refl _, h0⟩ (fun i H hi ⟨acc, hb, _, _, hr⟩ => hG i acc H hi hb hr) (fun i x H H' hi ⟨acc, hb, ha, hl, hr⟩ hy => hs i acc x H H' hi ⟨hb, ha, hl, hr⟩ hy) (fun H ⟨acc, hb, ha, hl, hr⟩ => hd acc H ⟨hb, ha, hl, hr⟩)
/-- every item gives one: what each is told by E, which anything locked keeps -/
abbrev AllE (E : Nat → V → Hp → Prop) : Nat → List V → Hp → Prop := fun i acc H => acc.length = i ∧ ∀ j y, acc[j]? = some y → E j y H
theorem allE_up {E : Nat → V → Hp → Prop} (hE : ∀ i y H H', Fz H H' → E i y H → E i y H') : ∀ i acc H xs ys, H D = some (.lst xs) → AllE E i acc H → AllE E i acc (upd H D (.lst ys)) :=
  fun i acc H xs ys h ⟨hl, ha⟩ => ⟨hl, fun j y e => hE j y _ _ (fz_lst h) (ha j y e)⟩
theorem allE_add {E : Nat → V → Hp → Prop} (hE : ∀ i y H H', Fz H H' → E i y H → E i y H') {i : Nat} {acc : List V} {y : V} {H H4 : Hp} (h : AllE E i acc H) (s : Fz H H4) (hy : E i y H4) : AllE E (i + 1) (acc ++ [y]) H4 := by
  obtain ⟨hl, ha⟩ := h
  refine ⟨by rw [List.length_append, hl] <;> rfl, fun j z e => ?_⟩
  by_cases hj : j < acc.length
  · rw [List.getElem?_append_left hj] at e
    exact hE j z _ _ s (ha j z e)
  · rw [List.getElem?_append_right (by omega)] at e
    have : j - acc.length = 0 := by
      cases hk : j - acc.length with
      | zero => rfl
      | succ k => rw [hk] at e; simp at e
    rw [this] at e
    have e' : y = z := by simpa using e
    have : j = i := by omega
    rw [this, ← e']
    exact hy
/-- one more, all told by E -/
theorem LcC.one {E : Nat → V → Hp → Prop} {i : Nat} {acc : List V} {y : V} {H H4 : Hp} (c : LcC as H1 D (AllE E) i acc H) (hD : H1 D = none) (hDa : D ∉ as) (hE : ∀ i y H H', Fz H H' → E i y H → E i y H')
    (hi : i < sizeLine) (hb4 : But as H H4) (hf : Fz H H4) (he : E i y H4) : LcY as H1 D (AllE E) (i + 1) y H4 :=
  c.keep hD hDa (allE_up hE) hi hb4 (allE_add hE c.rel hf he)
theorem LcC.one0 {E : Nat → V → Hp → Prop} {i : Nat} {acc : List V} {y : V} {H H4 : Hp} (c : LcC [] H1 D (AllE E) i acc H) (hD : H1 D = none) (hE : ∀ i y H H', Fz H H' → E i y H → E i y H')
    (hi : i < sizeLine) (s : Same H H4) (he : E i y H4) : LcY [] H1 D (AllE E) (i + 1) y H4 :=
  c.one hD (by simp) hE hi (but_same s) (fz_same s) he
end
end K46

namespace K46
open PySem PySem.Spec PyProof.Rows L2
open AutoSeq1 (wpAny_loadPart')
/-! ### tuple * int, any count -/
theorem tuple_mulS (l : Addr) (items : Array Value) (n : Nat) (dd : Option Addr) (sl : Array (Option Value)) (x : Int) (u : Tok) (c0 : (decide (x < -(2 ^ 63)) || decide (x ≥ 2 ^ 63)) = false) (c1 : (items.isEmpty || x == 1) = true) :
    Meets (Builtin.«tuple.__mul__» ⟨[.ref l, .int x u], []⟩) (fun _ R s => s.heap.get? l = some { cls := .type "tuple", dict := dd, data := .seq items n, slots := sl } ∧
      R (.ok (.ret (Value.ref l))) s) :=
  .of_wp fun prog w A R s h => by
    obtain ⟨hp, g, d, tk, os⟩ := s
    obtain ⟨hl, h⟩ := h
    have f1 := AutoSeq1.idx_int
    have hT : Shared.TypeIs ⟨hp, g, d, tk, os⟩ (.ref l) "tuple" := ⟨_, hl, rfl⟩
    wp_walk using wpAny_loadPart' hl
    repeat (first
      | (refine wpAny_ite_false (decide_eq_false (by rw [c0]; exact Bool.false_ne_true)) ?_; wp_walk using wpAny_loadPart' hl)
      | (refine wpAny_ite_true (decide_eq_true (by rw [c1])) ?_; wp_walk using wpAny_loadPart' hl))
    exact ⟨_, rfl, h⟩
theorem tuple_mulZ (l : Addr) (items : Array Value) (n : Nat) (dd : Option Addr) (sl : Array (Option Value)) (x : Int) (u : Tok) (c0 : (decide (x < -(2 ^ 63)) || decide (x ≥ 2 ^ 63)) = false) (c1 : (items.isEmpty || x == 1) = false)
    (c2 : (decide (x ≤ 0) || items.isEmpty) = true) :
    Meets (Builtin.«tuple.__mul__» ⟨[.ref l, .int x u], []⟩) (fun _ R s => s.heap.get? l = some { cls := .type "tuple", dict := dd, data := .seq items n, slots := sl } ∧
      R (.ok (.ret (Value.ref s.heap.objs.size))) { s with heap := s.heap.push { cls := Value.type "tuple", data := Data.seq #[] }, toks := s.toks }) :=
  .of_wp fun prog w A R s h => by
    obtain ⟨hp, g, d, tk, os⟩ := s
    obtain ⟨hl, h⟩ := h
    have f1 := AutoSeq1.idx_int
    wp_walk using wpAny_loadPart' hl
    repeat (first
      | (refine wpAny_ite_false (decide_eq_false (by rw [c0]; exact Bool.false_ne_true)) ?_; wp_walk using wpAny_loadPart' hl)
      | (refine wpAny_ite_false (decide_eq_false (by rw [c1]; exact Bool.false_ne_true)) ?_; wp_walk using wpAny_loadPart' hl)
      | (refine wpAny_ite_true (decide_eq_true (by rw [c2])) ?_; wp_walk using wpAny_loadPart' hl))
    exact ⟨_, rfl, h⟩
/-- (x,) * k -/
def rRepF : R2 := fun x y H Q => ∃ (l : Addr) (k : Nat) (z : V), x = .ref l ∧ y = .int (k : Int) ∧ TupAt H l [z] ∧ k ≤ 1000 ∧ ∀ p H2, Same H H2 → TupAt H2 p (List.replicate k z) → Q (.ref p) H2
section
variable {X : Cx}
theorem op_repF : OpR X (binaryOp .Mult) rRepF := by
  intro pins s σ H x y v u Q I rx ry h
  obtain ⟨l, k, z, rfl, rfl, hT, hk, q⟩ := h
  cases rx
  obtain ⟨t, rfl⟩ := ry
  obtain ⟨its, r, ⟨⟨cls, dd, data, sl⟩, ho, hc, n, hd⟩, hs⟩ := I.tuple (hT.sq)
  simp only at hc hd
  subst hc hd
  obtain ⟨zv, rfl, rz⟩ := vals1 r
  have c0 : (decide (((k : Nat) : Int) < -(2 ^ 63)) || decide (((k : Nat) : Int) ≥ 2 ^ 63)) = false := by
    rw [decide_eq_false (by omega), decide_eq_false (by omega)] <;> rfl
  have hi : ([zv].toArray).isEmpty = false := rfl
  refine wpAny_binaryOp_repeat_ref (T := "tuple") (U := "int") (by decide) ⟨_, ho, rfl⟩ (fun s' => typeIs_int s' k t) noFill_tuple_mul F.fills_int_mul F.slot_int_rmul repeat_tuple F.slot_int_index.lookup
    (call_meets F.slot_int_rmul (typeIs_int s k t) F.entry_int_rmul (F.args_int_rmul_2 _ _) (int_rmul_tuple k t l [zv].toArray n dd sl)
      ⟨ho, rfl, ⟨_, ho, rfl⟩, ?_⟩)
  have vr : ∀ m : Nat, Vals (List.replicate m z) (List.replicate m zv) := fun m => by
    induction m with
    | zero => exact .nil
    | succ m ih => rw [List.replicate_succ, List.replicate_succ]; exact .cons rz ih
  have hf : H s.heap.objs.size = none := I.hok.fresh (Nat.le_refl _)
  by_cases k1 : k = 1
  · subst k1
    exact call_meets F.slot_tuple_mul ⟨_, ho, rfl⟩ F.entry_tuple_mul (F.args_tuple_mul_2 _ _) (tuple_mulS l [zv].toArray n dd sl _ t c0 (by rw [hi] <;> rfl)) ⟨ho, .ref l, H, I, rfl, q _ _ (Same.refl H) hT⟩
  have c1 : (([zv].toArray).isEmpty || ((k : Nat) : Int) == 1) = false := by
    rw [hi, Bool.false_or]
    exact beq_eq_false_iff_ne.mpr (by omega)
  by_cases k0 : k = 0
  · subst k0
    refine call_meets F.slot_tuple_mul ⟨_, ho, rfl⟩ F.entry_tuple_mul (F.args_tuple_mul_2 _ _) (tuple_mulZ l [zv].toArray n dd sl _ t c0 c1 (by simp)) ⟨ho, ?_⟩
    exact ⟨.ref s.heap.objs.size, _, I.laid (t' := s.toks) (fun b ob q => Heap.get?_push_of_some _ q) (Nat.le_refl _) (frz_new (xs := []) (us := []) (Nat.zero_le _) .nil), rfl, q _ _ (same_up hf) tup_new⟩
  · have c2 : (decide (((k : Nat) : Int) ≤ 0) || ([zv].toArray).isEmpty) = false := by
      rw [hi, Bool.or_false]
      exact decide_eq_false (by omega)
    have e2 : (List.replicate k [zv]).flatten = List.replicate k zv := by
      clear c0 c1 c2 k1 k0 hk q
      induction k with
      | zero => rfl
      | succ k ih => rw [List.replicate_succ, List.flatten_cons, ih, List.replicate_succ] <;> rfl
    have e3 : (((k : Nat) : Int)).toNat = k := by omega
    refine call_meets F.slot_tuple_mul ⟨_, ho, rfl⟩ F.entry_tuple_mul (F.args_tuple_mul_2 _ _) (tuple_mulW l [zv].toArray n dd sl k t c0 c1 c2 (by show ¬ ((1 : Nat) : Int) * _ > _; omega)
      (by unfold Builtin.Tuple.tupleTooMany; rw [sizeLine_eq]; exact decide_eq_false (by show ¬ ((1 : Nat) : Int) * _ > _; omega)) (by rw [size_rep, List.size_toArray, e3, e2, List.length_replicate, sizeLine_eq]; omega)) ⟨ho, ?_⟩
    rw [size_rep, e3, e2]
    exact ⟨.ref s.heap.objs.size, _, I.laid (t' := s.toks) (fun b ob q => Heap.get?_push_of_some _ q) (Nat.le_refl _) (frz_new (by rw [List.length_replicate, sizeLine_eq]; omega) (vr k)), rfl, q _ _ (same_up hf) tup_new⟩
end

/-! ### enumerate(tuple) -/
theorem meets_enumerate_newT (l : Addr) (items : Array Value) (n : Nat) (dct : Option Addr) (sl : Array (Option Value)) :
    Meets (Builtin.«enumerate.__new__» ⟨[.type "enumerate", .ref l], []⟩) (fun _ R s => s.heap.get? l = some { cls := .type "tuple", dict := dct, data := .seq items n, slots := sl } ∧
      R (.ok (.ret (.ref (s.heap.push { cls := .type "tuple_iterator", data := .fields #[.ref l, .int 0 0] }).objs.size)))
        { s with heap := (s.heap.push { cls := .type "tuple_iterator", data := .fields #[.ref l, .int 0 0] }).push { cls := .type "enumerate", data := .fields #[.none, .bool false, .ref s.heap.objs.size, rawInt 0, .none, .none] } }) :=
  .of_wp fun prog w A R s h => by
    obtain ⟨hp, g, d, tk, os⟩ := s; obtain ⟨hl, h⟩ := h
    have hsub := sub_enumerate
    have hL : Heap.IsTuple (Shared.heap ⟨hp, g, d, tk, os⟩) l items := ⟨_, hl, rfl, n, rfl⟩
    wp_walk using wpAny_loadPart' hl
    refine wpAny_stack_any fun st => wpAny_pure ?_
    split
    · rename_i c _ _ _ _ _
      cases (c == Value.type "enumerate")
      · wp_walk using wpAny_loadPart' hl, wpAny_pyIter_tuple hL
        exact ⟨_, rfl, h⟩
      · wp_walk using wpAny_loadPart' hl, wpAny_pyIter_tuple hL
        exact ⟨_, rfl, h⟩
    · wp_walk using wpAny_loadPart' hl, wpAny_pyIter_tuple hL
      exact ⟨_, rfl, h⟩
section
variable {prog : Program} {w : World} {A : Around} {E : Value → Shared → Prop} {s : Shared}
theorem call_enumerate_tuple {l : Addr} {items : Array Value} {Q : Value → Shared → Prop} (hL : s.heap.IsTuple l items)
    (h : ∀ h', IsEnum h' (s.heap.objs.size + 1) s.heap.objs.size 0 .none → h'.IsTupleIter s.heap.objs.size l 0 → h'.objs.size = s.heap.objs.size + 2 →
      (∀ b o, s.heap.get? b = some o → h'.get? b = some o) → Q (.ref (s.heap.objs.size + 1)) { s with heap := h' }) :
    wpAny (model prog w) A (call (.type "enumerate") [.ref l]) Q E s := by
  obtain ⟨⟨c, dct, dt, sl⟩, hl, hc, n, hd⟩ := hL
  replace hc : c = .type "tuple" := hc
  replace hd : dt = .seq items n := hd
  subst hc hd
  refine callType_new F.called_enumerate (by decide) (F.typeCall_enumerate_1 _) (F.newCall_enumerate_1 _) (fun obj => F.args_object_init_2 obj _) F.entry_enumerate_new
    (meets_enumerate_newT l items n dct sl) ⟨hl, ?_⟩
  have hz : (s.heap.push { cls := .type "tuple_iterator", data := .fields #[.ref l, .int 0 0] }).objs.size = s.heap.objs.size + 1 := Heap.size_push ..
  show _ ∧ _
  rw [hz]
  have he : IsEnum ((s.heap.push { cls := .type "tuple_iterator", data := .fields #[.ref l, .int 0 0] }).push
      { cls := .type "enumerate", data := .fields #[.none, .bool false, .ref s.heap.objs.size, rawInt 0, .none, .none] }) (s.heap.objs.size + 1) s.heap.objs.size 0 .none := by
    have := Heap.get?_push_size (s.heap.push { cls := .type "tuple_iterator", data := .fields #[.ref l, .int 0 0] })
      (o := { cls := .type "enumerate", data := .fields #[.none, .bool false, .ref s.heap.objs.size, rawInt 0, .none, .none] }) rfl
    rw [hz] at this; exact this
  refine ⟨⟨_, he, rfl⟩, h _ he ⟨_, Heap.get?_push_of_some _ (Heap.get?_push_size _ rfl), rfl, rfl⟩ (by rw [Heap.size_push, hz]) fun b o x => Heap.get?_push_of_some _ (Heap.get?_push_of_some _ x)⟩
end
/-- the tuple at a, each item in a new pair -/
def IteT (a : Addr) : It :=
  ⟨fun i H => ∃ (xs : List V) (x : V), TupAt H a xs ∧ xs[i]? = some x, fun i H v H' => ∃ T x, v = .ref T ∧ H T = none ∧ H' = upd H T (.tup [.int (i : Nat), x]) ∧ ∀ xs, TupAt H a xs → xs[i]? = some x, fun i H => ∃ xs : List V, TupAt H a xs ∧ xs.length = i⟩
theorem TupAt.some {H : Hp} {a : Addr} {xs : List V} (h : TupAt H a xs) : H a ≠ none := by
  obtain ⟨o, _, h⟩ := h
  rw [h]
  exact fun e => nomatch e
theorem turn_enumT {P : Program} {w : World} {K : PySem.W.Frag} {elts : List Expr} {kk : Nat} {tpos : Pos} (a e it : Addr) :
    Turn P w K (.Tuple elts kk tpos) (IteT a) [e, it] e (fun i h => (∃ old, IsEnum h e it ((i : Nat) : Int) old) ∧ h.IsTupleIter it a i ∧ e ≠ it) where
  mem := by simp
  obj := fun i h st b hb => by
    obtain ⟨⟨old, he⟩, ⟨o, ho, hc, hd⟩, _⟩ := st
    have e' : b = e ∨ b = it := by simpa using hb
    rcases e' with z | z
    · rw [z]; exact ⟨_, he, fun v q => nomatch q⟩
    · rw [z]; exact ⟨o, ho, fun v q => by rw [hd] at q; cases q⟩
  keep := fun i h h' st k => let ⟨⟨old, he⟩, hi, hne⟩ := st; ⟨⟨old, k e (by simp) _ he⟩, hi.at fun o q => k it (by simp) o q, hne⟩
  item := by
    intro X hP hw hK hc i pins s σ H E I hf st hg
    subst hP hw hK
    obtain ⟨⟨old, he⟩, hit, hne⟩ := st
    obtain ⟨xs, x, hq, hx⟩ := hg
    obtain ⟨its, rv, p, hz⟩ := I.tuple hq.sq
    obtain ⟨u, hu, ru⟩ := rv.get hx
    have hel : e < s.heap.objs.size := Heap.lt_size he
    have hil : it < s.heap.objs.size := by obtain ⟨_, q, _⟩ := hit; exact Heap.lt_size q
    have nea : a ≠ e := fun z => hq.some (by rw [z]; exact (hf e (by simp)).1)
    have nia : a ≠ it := fun z => hq.some (by rw [z]; exact (hf it (by simp)).1)
    have hui : i < its.toArray.size := by
      rw [List.size_toArray]
      exact (List.getElem?_eq_some_iff.mp hu).1
    refine wpAny_pyNext_enum_itemD (Draws.tuple (A := X.A.in1) (I.ok.hd hc) it a nia its.toArray) he ⟨hit, p⟩ hui hne (by simp [hne, nea.symm]) fun x' h' tk hx' ho hit' hT hsz hk => ?_
    have ex : x' = u := by
      have h1 : its.toArray[i]? = Option.some u := by simpa using hu
      rw [h1] at hx'
      exact (Option.some.inj hx').symm
    subst ex
    refine ⟨_, rfl, wpAny_letOwnedTupleGo_enum (s := { s with heap := h', toks := tk + 1 }) ho fun h'' he' sb => ?_⟩
    have hT2 : h''.get? s.heap.objs.size = some { cls := .type "tuple", data := .seq #[.int i tk, x'] } := (sb.2 _ (Nat.ne_of_gt hel)).trans hT
    have new : ObjOk X.prog X.w (upd H s.heap.objs.size (.tup [.int (i : Nat), x])) h'' s.heap.objs.size (.tup [.int (i : Nat), x]) :=
      ⟨by show 2 ≤ sizeLine; decide, [.int i tk, x'], .cons ⟨_, rfl⟩ (.cons ru .nil), ⟨_, hT2, rfl, _, rfl⟩⟩
    have I1 : Inv X pins σ (upd H s.heap.objs.size (.tup [.int (i : Nat), x])) { s with heap := h'', toks := tk + 1 } :=
      I.turnedNew (ch := [e, it]) (fun b ob hb q => (sb.2 b (fun z => hb (by simp [z]))).trans (hk b ob (fun z => hb (by simp [z])) (fun z => hb (by simp [z])) q)) hf (Nat.le_refl _) new
    refine ⟨.ref s.heap.objs.size, _, I1, rfl, ⟨_, x, rfl, I.hok.fresh (Nat.le_refl _), rfl, fun ys hy => by rw [hy.inj hq]; exact hx⟩, ⟨⟨x', ?_⟩, hit'.1.at fun o q => (sb.2 it (Ne.symm hne)).trans q, hne⟩, fun b hb => ?_⟩
    · have e1 : ((i + 1 : Nat) : Int) = (i : Int) + 1 := by omega
      rw [e1]; exact he'
    · have hb' : b < s.heap.objs.size := by
        have e' : b = e ∨ b = it := by simpa using hb
        rcases e' with z | z
        · rw [z]; exact hel
        · rw [z]; exact hil
      rw [upd_ne (Nat.ne_of_lt hb')]
      exact (hf b hb).1
  done := by
    intro X hP hw hK hc i pins s σ H E I hf st hg
    subst hP hw hK
    obtain ⟨⟨old, he⟩, hit, hne⟩ := st
    obtain ⟨xs, hq, hx⟩ := hg
    obtain ⟨its, rv, p, hz⟩ := I.tuple hq.sq
    have nia : a ≠ it := fun z => hq.some (by rw [z]; exact (hf it (by simp)).1)
    obtain ⟨f0, f1, f2, f3, f4, f5⟩ := hf it (by simp)
    have hl : its.toArray.size = i := by rw [List.size_toArray, ← rv.length, hx]
    subst hl
    exact wpAny_pyNext_enum_endD (Draws.tuple (A := X.A.in1) (I.ok.hd hc) it a nia its.toArray) he ⟨hit, p⟩ fun h' eb => ⟨rfl, I.turned (t' := s.toks) (fun b o hb q => eb b o hb q) f0 f1 f3 f4 f5⟩
  self := fun A i s Q E st h => let ⟨⟨_, he⟩, _⟩ := st; wpAny_pyIter_enum he h
def iEnumT (ta : TA) : TI := fun σ H R => ta σ H fun vs H1 => ∃ a xs, vs = [.ref a] ∧ TupAt H1 a xs ∧ R (IteT a) H1
theorem pi_enumT {X : Cx} {e : Expr} {ta : TA} {p pos tpos : Pos} {elts : List Expr} {kk : Nat} (hg : Gl X "enumerate") (hm : X.mg "enumerate" = none) (ha : PA X [e] ta) (hs : starEach [e] X.env = [(false, eval e X.env)] := by rfl) :
    PI X (.Tuple elts kk tpos) (.Call (.Name "enumerate" p) [e] [] pos) (iEnumT ta) := by
  refine ⟨fun pins s σ H R I h => ?_⟩
  refine Call_ (ld_blt I hg hm boot_enumerate (PyProof.Rows.callWith_type1 (thn (ha.run pos pins s σ H _ I h) fun us s1 ⟨vs, H1, I1, r1, q1⟩ => ?_) hs rfl))
  obtain ⟨a, xs, ex, hq, q⟩ := q1
  subst ex
  cases r1 with
  | cons r rr =>
    cases rr
    cases r
    obtain ⟨its, rv, p', hz⟩ := I1.tuple hq.sq
    refine call_enumerate_tuple (show s1.heap.IsTuple a its.toArray from p') fun h' he hit hsz hk => wpAny_pyIter_enum he ?_
    have I2 : Inv X pins σ H1 { s1 with heap := h' } := I1.kept (t' := s1.toks) hk
    refine ⟨s1.heap.objs.size + 1, [s1.heap.objs.size + 1, s1.heap.objs.size], _, _, H1, rfl, I2, turn_enumT a (s1.heap.objs.size + 1) s1.heap.objs.size, ⟨⟨.none, he⟩, hit, Nat.succ_ne_self _⟩, fun b hb => ?_, q⟩
    have e' : b = s1.heap.objs.size + 1 ∨ b = s1.heap.objs.size := by simpa using hb
    have hle : s1.heap.objs.size ≤ b := by
      rcases e' with z | z
      · rw [z]; exact Nat.le_add_right _ _
      · rw [z]; exact Nat.le_refl _
    exact I1.fpOk hle (I1.hok.fresh hle)
theorem walk_enumT {a : Addr} {xs : List V} : Walk (IteT a) xs.length (fun H => TupAt H a xs) (YPair (fun i => some (.int (i : Nat))) (fun i => xs[i]?)) := by
  refine ⟨fun i _ hi q => ⟨xs, xs[i], q, by simp [hi]⟩, fun _ q => ⟨xs, q, rfl⟩, fun i H v H' _ q y => ?_⟩
  obtain ⟨T, x, h1, h2, h3, h4⟩ := y
  exact ⟨T, .int (i : Nat), x, h1, h2, h3, rfl, h4 xs q⟩
/-- a target of two names at a pair -/
theorem g_pair {K : PySem.W.Frag} {i j : Nat} {T : Addr} {x y : V} {σ : L2.St} {H : Hp} {Q : L2.St → Hp → Prop} (h : SqT K H T [x, y]) (q : Q ((σ.set i (some x)).set j (some y)) H) :
    gTup K 2 (gCons (gName i) (gCons (gName j) gNil)) (.ref T) σ H Q := ⟨T, [x, y], rfl, h, rfl, x, [y], rfl, y, [], rfl, rfl, q⟩
/-- .. at a pair that a walk has just made -/
theorem g_new {K : PySem.W.Frag} {i j n : Nat} {xs ys : Nat → Option V} {x y : V} {v : V} {σ : L2.St} {H H' : Hp} {Q : L2.St → Hp → Prop} (h : YPair xs ys n H v H') (hx : xs n = some x) (hy : ys n = some y)
    (q : Same H H' → Q ((σ.set i (some x)).set j (some y)) H') : gTup K 2 (gCons (gName i) (gCons (gName j) gNil)) v σ H' Q := by
  obtain ⟨T, x1, y1, rfl, hT, rfl, h1, h2⟩ := h
  rw [hx] at h1
  rw [hy] at h2
  cases h1
  cases h2
  exact g_pair (.inl (.inl upd_same)) (q (same_up hT))
end K46

namespace K46
open PySem PySem.Spec PyProof.Rows L2 PySem.W

/-! ### min, max of a list of pairs of ints -/
def pLt (p q : Int × Int) : Prop := p.1 < q.1 ∨ (p.1 = q.1 ∧ p.2 < q.2)
theorem pLt_tr {a b c : Int × Int} (h1 : pLt a b) (h2 : pLt b c) : pLt a c := by
  unfold pLt at *
  omega
theorem pLt_irr {a : Int × Int} (h : pLt a a) : False := by
  unfold pLt at h
  omega
def dP (p : Int × Int) : PyData := .tuple [.int p.1, .int p.2]
theorem dP_lt (p q : Int × Int) : dataLt (dP p) (dP q) = true ↔ pLt p q := by
  unfold dP
  rw [PySem.W.dataLt_ii, decide_eq_true_eq]
  exact Iff.rfl
theorem best_lt (p : Nat → Int × Int) (bt : Nat → Nat → Bool) (R : Int × Int → Int × Int → Prop) (tr : ∀ a b c, R a b → R b c → R a c) (irr : ∀ a, ¬ R a a) : ∀ (m : Nat), (∀ i j, i ≤ m → j ≤ m → (bt i j = true ↔ R (p i) (p j))) → argBest bt m ≤ m ∧ ∀ j, j ≤ m → ¬ R (p j) (p (argBest bt m))
  | 0, _ => ⟨Nat.le_refl _, fun j hj => by
    have : j = 0 := by omega
    subst this
    exact irr _⟩
  | m + 1, hb => by
    obtain ⟨h1, h2⟩ := best_lt p bt R tr irr m fun i j hi hj => hb i j (by omega) (by omega)
    unfold argBest
    by_cases c : bt (m + 1) (argBest bt m) = true
    · rw [if_pos c]
      have c' := (hb _ _ (Nat.le_refl _) (by omega)).mp c
      refine ⟨Nat.le_refl _, fun j hj h => ?_⟩
      by_cases e : j = m + 1
      · subst e; exact irr _ h
      · exact h2 j (by omega) (tr _ _ _ h c')
    · rw [if_neg c]
      refine ⟨by omega, fun j hj h => ?_⟩
      by_cases e : j = m + 1
      · subst e
        exact c ((hb _ _ (Nat.le_refl _) (by omega)).mpr h)
      · exact h2 j (by omega) h
theorem pairs_reads {X : Cx} {pins : List (Addr × Obj)} {σ : L2.St} {H : Hp} {s : Shared} (I : Inv X pins σ H s) {xs : List V} {ps : List (Int × Int)} (h : Paired (fun x (p : Int × Int) => ∃ t, x = V.ref t ∧ SqT X.K H t [.int p.1, .int p.2]) xs ps) : DpAll X.K H xs (ps.map dP) := by
  induction h with
  | nil => exact .nil
  | cons h _ ih =>
    obtain ⟨t, rfl, h⟩ := h
    exact .cons (.tup h (.cons (.int _) (.cons (.int _) .nil))) ih
theorem pairs_alike (ps : List (Int × Int)) : AlikeAll (ps.map dP) := by
  refine ⟨fun x hx y hy => ?_, fun x hx => ?_⟩
  · obtain ⟨p, _, rfl⟩ := List.mem_map.mp hx
    obtain ⟨q, _, rfl⟩ := List.mem_map.mp hy
    rfl
  · obtain ⟨p, _, rfl⟩ := List.mem_map.mp hx
    exact fun e => nomatch e
theorem pairs_depth (ps : List (Int × Int)) : PyData.depthAll (ps.map dP) ≤ 4 := by
  induction ps with
  | nil => simp [PyData.depthAll]
  | cons p ps ih =>
    rw [List.map_cons]
    simp only [PyData.depthAll, dP, PyData.depth] at *
    omega
/-- min, max of a list of pairs: the pair than which none is less (greater) -/
def rBestP (K : PySem.W.Frag) (R : Int × Int → Int × Int → Prop) : List V → Hp → VK → Prop := fun vs H Q => ∃ (a : Addr) (xs : List V) (ps : List (Int × Int)), vs = [V.ref a] ∧ SqL K H a xs ∧ Paired (fun x (p : Int × Int) => ∃ t, x = V.ref t ∧ SqT K H t [.int p.1, .int p.2]) xs ps ∧ ps ≠ [] ∧
  ∀ (i : Nat) (x : V) (p : Int × Int), xs[i]? = some x → ps[i]? = some p → (∀ q ∈ ps, ¬ R q p) → Q x H
section
variable {X : Cx}
theorem best_end {pins : List (Addr × Obj)} {σ : L2.St} {H : Hp} {s : Shared} {R : Int × Int → Int × Int → Prop} (I : Inv X pins σ H s) {xs : List V} {its : List Value} {ps : List (Int × Int)} {Q : VK} (rv : Vals xs its)
    (hp : Paired (fun x (p : Int × Int) => ∃ t, x = V.ref t ∧ SqT X.K H t [.int p.1, .int p.2]) xs ps) (bt : Nat → Nat → Bool) (tr : ∀ a b c, R a b → R b c → R a c) (irr : ∀ a, ¬ R a a)
    (hb : ∀ i j, i < ps.length → j < ps.length → (bt i j = true ↔ R (ps.getD i (0, 0)) (ps.getD j (0, 0)))) (hne : ps ≠ [])
    (q : ∀ (i : Nat) (x : V) (p : Int × Int), xs[i]? = some x → ps[i]? = some p → (∀ q ∈ ps, ¬ R q p) → Q x H) {v : Value} (hv : its.toArray[argBest bt (ps.length - 1)]? = some v) {s' : Shared} (I' : Inv X pins σ H s') : EP X pins σ Q v s' := by
  have hn : 0 < ps.length := List.length_pos_iff.mpr hne
  obtain ⟨h1, h2⟩ := best_lt (fun i => ps.getD i (0, 0)) bt R tr irr (ps.length - 1) fun i j hi hj => hb i j (by omega) (by omega)
  generalize argBest bt (ps.length - 1) = k at h1 h2 hv
  have hk : k < ps.length := by omega
  have hl : xs.length = ps.length := Paired.length hp
  have hx : xs[k]? = some xs[k] := List.getElem?_eq_getElem (by omega)
  obtain ⟨u, hu, ru⟩ := rv.get hx
  have hv' : its[k]? = some v := by simpa using hv
  rw [hu] at hv'
  cases hv'
  have ek : ps.getD k (0, 0) = ps[k] := by rw [List.getD_eq_getElem?_getD, List.getElem?_eq_getElem hk] <;> rfl
  refine ⟨xs[k], H, I', ru, q k _ ps[k] hx (List.getElem?_eq_getElem hk) fun r hr => ?_⟩
  obtain ⟨j, hj, rfl⟩ := List.getElem_of_mem hr
  have := h2 j (by omega)
  rw [List.getD_eq_getElem?_getD, List.getElem?_eq_getElem hj, ek] at this
  exact this
theorem dp_getD (ps : List (Int × Int)) {i : Nat} (hi : i < ps.length) : (ps.map dP).getD i .none = dP (ps.getD i (0, 0)) := by
  rw [List.getD_eq_getElem?_getD, List.getElem?_map, List.getD_eq_getElem?_getD, List.getElem?_eq_getElem hi] <;> rfl
theorem cr_minP (hc : X.calm = true) (hu : X.A.units + 8 < cLine) : CallR X (.builtin "min") (rBestP X.K pLt) := by
  intro pins s σ H vs us Q I r h
  obtain ⟨a, xs, ps, rfl, hs, hp, hne, q⟩ := h
  obtain ⟨its, rv, hl, _⟩ := I.list hs
  rw [Vals.ref1 r]
  obtain ⟨as, hr⟩ := Dp.readsAll I _ _ _ (pairs_reads I hp) rv
  have hl1 : xs.length = ps.length := Paired.length hp
  have hl2 := rv.length
  have hsz : its.toArray.size = ps.length := by rw [List.size_toArray]; omega
  have hd := pairs_depth ps
  have hn : 0 < ps.length := List.length_pos_iff.mpr hne
  refine call_min_walkH (iter_listW (A := X.A.in1) (I.ok.hd hc) hl.isList fun s₂ e W st hfp hw hk => ?_)
  refine ⟨_, _, _, _, _, _, _, s.heap, _, rfl, W, st, hfp, by omega, hw, hk, cmpIn_lt (A := X.A.in1) (as := as) hr (pairs_alike ps) (by show X.A.units + 1 + _ < _; omega), fun v s' hP m => ?_⟩
  obtain ⟨h', tk, rfl, hk'⟩ := moved_old e rfl m
  rw [hsz] at hP
  exact best_end (R := pLt) I rv hp _ (fun _ _ _ => pLt_tr) (fun _ => pLt_irr) (fun i j hi hj => by rw [dp_getD ps hi, dp_getD ps hj]; exact dP_lt _ _) hne q hP (I.kept hk')
theorem cr_maxP (hc : X.calm = true) (hu : X.A.units + 8 < cLine) : CallR X (.builtin "max") (rBestP X.K fun a b => pLt b a) := by
  intro pins s σ H vs us Q I r h
  obtain ⟨a, xs, ps, rfl, hs, hp, hne, q⟩ := h
  obtain ⟨its, rv, hl, _⟩ := I.list hs
  rw [Vals.ref1 r]
  obtain ⟨as, hr⟩ := Dp.readsAll I _ _ _ (pairs_reads I hp) rv
  have hl1 : xs.length = ps.length := Paired.length hp
  have hl2 := rv.length
  have hsz : its.toArray.size = ps.length := by rw [List.size_toArray]; omega
  have hd := pairs_depth ps
  have hn : 0 < ps.length := List.length_pos_iff.mpr hne
  refine call_max_walkH (iter_listW (A := X.A.in1) (I.ok.hd hc) hl.isList fun s₂ e W st hfp hw hk => ?_)
  refine ⟨_, _, _, _, _, _, _, s.heap, _, rfl, W, st, hfp, by omega, hw, hk, cmpIn_gt (A := X.A.in1) (as := as) hr (pairs_alike ps) (by show X.A.units + 1 + _ < _; omega), fun v s' hP m => ?_⟩
  obtain ⟨h', tk, rfl, hk'⟩ := moved_old e rfl m
  rw [hsz] at hP
  exact best_end (R := fun a b => pLt b a) I rv hp _ (fun _ _ _ h1 h2 => pLt_tr h2 h1) (fun _ => pLt_irr) (fun i j hi hj => by rw [dp_getD ps hi, dp_getD ps hj]; exact dP_lt _ _) hne q hP (I.kept hk')
end
/-! ### list.count of texts -/
theorem count_strs (z : Str) : ∀ {ys : List Str} {us : List Value}, Vals (ys.map V.str) us → us.countP (eqU (.str z)) = ys.count z
  | [], _, .nil => rfl
  | y :: ys, _, .cons r t => by
    obtain ⟨k, rfl⟩ := r
    rw [List.countP_cons, List.count_cons, count_strs z t]
    rfl
def rCntS (K : PySem.W.Frag) : V → List V → Hp → VK → Prop := fun x xs H Q => ∃ (p : Addr) (ys : List Str) (z : Str), x = .ref p ∧ xs = [.str z] ∧ SqL K H p (ys.map V.str) ∧ Q (.int (ys.count z : Nat)) H
section
variable {X : Cx}
theorem mt_lcountS : MtR X "list.count" (rCntS X.K) := by
  intro pins s σ H x xs v us Q I rx rxs h
  obtain ⟨p, ys, z, rfl, rfl, hs, q⟩ := h
  cases rx
  obtain ⟨u, rfl, t, rfl⟩ := vals1 rxs
  obtain ⟨its, rv, ⟨⟨cls, dd, data, sl⟩, n, ho, hc, hdn, hd⟩, hlen⟩ := I.list hs
  simp only at hc hd
  subst hc hd
  refine call_meets PySem.F.slot_list_count ⟨_, ho, rfl⟩ PySem.F.entry_list_count (PySem.F.args_list_count_2 _ _)
    (SeqAt.list_countAt p its.toArray n dd sl (.str z t) (eqU (.str z))) ⟨ho, fun w hw => mem_eqAt (x := .str z) ⟨t, rfl⟩ rfl rv (flat_strs ys) w (by simpa using hw), ?_⟩
  have ec : its.toArray.toList.countP (eqU (.str z)) = ys.count z := count_strs z rv
  refine ⟨.int (ys.count z : Nat), H, I.tok _, ⟨s.toks, ?_⟩, q⟩
  show Value.int ((its.toArray.toList.countP (eqU (.str z)) : Nat) : Int) s.toks = Value.int ((ys.count z : Nat) : Int) s.toks
  rw [ec]
end
end K46

namespace K46
open PySem PySem.Spec PyProof.Rows L2
theorem list_of {α : Type} {P : Nat → α → Prop} : ∀ n : Nat, (∀ j, j < n → ∃ a, P j a) → ∃ l : List α, l.length = n ∧ ∀ j a, l[j]? = some a → P j a
  | 0, _ => ⟨[], rfl, fun j a e => by simp at e⟩
  | n + 1, h => by
    obtain ⟨l, hl, hp⟩ := list_of n fun j hj => h j (by omega)
    obtain ⟨a, ha⟩ := h n (by omega)
    refine ⟨l ++ [a], by rw [List.length_append, hl] <;> rfl, fun j b e => ?_⟩
    by_cases hj : j < l.length
    · rw [List.getElem?_append_left hj] at e
      exact hp j b e
    · rw [List.getElem?_append_right (by omega)] at e
      have hk : j - l.length = 0 := by
        cases hk : j - l.length with
        | zero => rfl
        | succ k => rw [hk] at e; simp at e
      rw [hk] at e
      have e' : a = b := by simpa using e
      have : j = n := by omega
      rw [this, ← e']
      exact ha
section
variable {X : Cx}
/-- dict(t), t a tuple of pairs -/
theorem call_dictT (hcalm : X.calm = true) : CallR X (.type "dict") (fun xs H Q => ∃ (a : Addr) (ps : List Addr) (kvs : List (Key × V)), xs = [.ref a] ∧ TupAt H a (ps.map V.ref) ∧ Paired (fun p kv => SqT X.K H p [kV kv.1, kv.2]) ps kvs ∧
    ∀ p, H p = none → Q (.ref p) (upd H p (.dK (mergeK [] kvs)))) := by
  intro pins s σ H xs us Q I r q
  obtain ⟨a, ps, kvs, ex, hq, hp, q⟩ := q
  subst ex
  obtain ⟨u, eu, rx⟩ := vals1 r
  subst eu
  cases rx
  obtain ⟨its, rv, pl, hz⟩ := I.tuple hq.sq
  have ei := refs_at rv
  subst ei
  rw [List.length_map] at hz
  obtain ⟨prs, rel, hl, hpr⟩ := pairs_of I hp
  obtain ⟨ob, hd, hH⟩ := id hq
  obtain ⟨hget, _⟩ := (show ObjOk X.prog X.w H s.heap a (.frz ob (.tup (ps.map V.ref))) from I.hok a _ hH)
  obtain ⟨o, ho, hc, n, hdat⟩ := pl
  have eo : o = ob := by
    rw [hget] at ho
    exact (Option.some.inj ho).symm
  subst eo
  obtain ⟨psv, hpl, hpsv⟩ := list_of (P := fun j (kv : Value × Value) => ∃ q b, prs[j]? = some q ∧ ps[j]? = some b ∧ kv.2 = q.2 ∧ keyIs q.1 kv.1 = true ∧ IsTup s.heap b #[kv.1, kv.2]) prs.length fun j hj => by
    obtain ⟨b, u, e1, e2, e3⟩ := hpr j prs[j] (List.getElem?_eq_getElem hj)
    exact ⟨(u, prs[j].2), prs[j], b, List.getElem?_eq_getElem hj, e1, rfl, e3, e2⟩
  have hm : (s.heap.objs.size == sysModules) = false := beq_eq_false_iff_ne.mpr (Nat.ne_of_gt I.big)
  have hlen : (mergeK [] kvs).length ≤ sizeLine := by
    refine Nat.le_trans (length_mergeK kvs []) ?_
    rw [List.length_nil, Nat.zero_add, rel.length, hl]
    exact hz
  refine call_dict_pairs (knd := mixKind X.prog X.w) (kvs := prs) (PairArg.tuple a (ps.map Value.ref).toArray (fun j => ps.getD j 0) psv) (I.ok.hd hcalm) ⟨⟨o, n, ho, hc, hd, hdat⟩, ?_⟩ ⟨hpl.symm, ?_⟩ (by rw [hpl, hl]; exact hz) fun h' tk hd' k => ?_
  · refine ⟨by simp [hpl, hl], fun j k v e => ?_⟩
    obtain ⟨q, b, e1, e2, e3, e4, e5⟩ := hpsv j _ e
    have eb : ps.getD j 0 = b := by rw [List.getD_eq_getElem?_getD, e2] <;> rfl
    refine ⟨by show (List.map Value.ref ps).toArray[j]? = some (Value.ref (ps.getD j 0)); rw [eb]; simp [e2], ?_⟩
    show PairAt s.heap (ps.getD j 0) k v
    rw [eb]
    exact .inl e5
  · intro i key v e
    obtain ⟨q, b, e1, e2, e3, e4, e5⟩ := hpsv i _ e
    have e3 : v = q.2 := e3
    exact ⟨q.1, by rw [e1, e3], e4⟩
  · exact ⟨.ref s.heap.objs.size, upd H s.heap.objs.size (.dK (mergeK [] kvs)), I.laid (t' := tk) (fun b o e => k b o (by simp) e) (Nat.le_refl _) (show ObjOk X.prog X.w _ _ _ (.dK (mergeK [] kvs)) from ⟨hlen, hm, merged [] prs, KV.merge rel .nil, hd'⟩), rfl, q _ (I.hok.fresh (Nat.le_refl _))⟩
end
/-! ### the defs of the program -/
/-- a def of the text stands in the top -/
structure Ent (K : PySem.W.Frag) (mg : Str → Option Value) (x : Str) (st : Stmt) : Prop where
  ex : ∃ f fd, Fun K x x st f fd ∧ mg x = some (.ref f)
/-- a def keeps a promise -/
structure Df (P : Program) (w : World) (K : PySem.W.Frag) (mg : Str → Option Value) (base : Heap) (k : Nat) (x : Str) (ps : List Str) (sp : Sp) : Prop where
  ex : ∃ f fd, FnOk P w K mg base CX0 k f fd ps sp ∧ Binds K fd ps [] ∧ mg x = some (.ref f) ∧ PySem.W.keepIn K (.ref f) = true
section
variable {P : Program} {w : World} {K : PySem.W.Frag} {mg : Str → Option Value} {base : Heap} {k : Nat} {x : Str} {ps : List Str} {sp : Sp} {st : Stmt}
theorem Df.mono {j : Nat} (D : Df P w K mg base j x ps sp) (h : j ≤ k) : Df P w K mg base k x ps sp := by
  obtain ⟨f, fd, F, b, m, kp⟩ := D.ex
  exact ⟨f, fd, F.mono h, b, m, kp⟩
theorem Df.imp {sp' : Sp} (D : Df P w K mg base k x ps sp) (h : ∀ vs H Q E, sp' vs H Q E → sp vs H Q E) : Df P w K mg base k x ps sp' := by
  obtain ⟨f, fd, F, b, m, kp⟩ := D.ex
  exact ⟨f, fd, F.imp h, b, m, kp⟩
/-- THE RULE for a def: its body as a term of rules, and its reading -/
theorem Ent.df {N : List Str} (E : Ent K mg x st) (S : FnScope N ps (defScope st))
    (hb : ∀ (kV doc pm : Value) (an : Option Addr) (cdv ct : Value) (us : List Value), us.length = ps.length → bindArgs (PySem.W.fnOf x x (defArgs st) (defBody st) (defScope st) .none kV doc pm an cdv ct) ⟨us, []⟩ = pure (ps.zip us))
    (len : ∀ vs H Q E, sp vs H Q E → vs.length = ps.length)
    (hbody : ∀ (f : Addr) (cdv : Value) (A : Around) (outer : List Env) (s : Shared) (H : Hp) (vs : List V) (Q : VK) (E : XK), Room k (A.deeper (envOfC x (defScope st) s.heap.objs.size f cdv)) → sp vs H Q E →
      ∃ t, PSs (cxOf CX0 P w K mg base N x (defScope st) f cdv A outer s H E).nox (defBody st) t ∧ t { nx := fun _ H' => Q .non H', rt := Q } (start N vs) H) : Df P w K mg base (k + 1) x ps sp := by
  obtain ⟨f, fd, F, m⟩ := E.ex
  exact ⟨f, fd, F.ok S len (hbody f), F.binds hb, m, F.kp⟩
end
/-- f(e, ..) -/
theorem pe_df {X : Cx} {x : Str} {p pos : Pos} {e : Expr} {es : List Expr} {t : TA} {j : Nat} {ps : List Str} {sp : Sp} (D : Df X.prog X.w X.K X.mg X.base j x ps sp) (hr : Room j X.A) (hg : Gl X x) (ha : PA X (e :: es) t)
    (hdb : (x == ("__debug__" : Str)) = false := by decide) (he : starEach (e :: es) X.env = (false, eval e X.env) :: starEach es X.env := by rfl) (hpl : (backTo pos (starEach es X.env)).any (·.1) = false := by rfl) :
    PE X (.Call (.Name x p) (e :: es) [] pos) (tCall sp [] E0 t) := by
  obtain ⟨f, fd, F, b, m, kp⟩ := D.ex
  exact pe_call F hr hg m kp b .nil pass0 ha hdb he hpl
/-- isinstance(e, T), T a built-in type -/
def tIsT (K : PySem.W.Frag) (n : String) (te : TE) : TE := fun σ H Q => te σ H fun x H1 => rIsi K [x, .ty n] H1 Q
theorem pe_isT {X : Cx} {e : Expr} {te : TE} {x : Str} {n : String} {p p2 pos : Pos} (hg : Gl X "isinstance") (hm : X.mg "isinstance" = none) (hg2 : Gl X x) (hm2 : X.mg x = none) (hv : bootBuiltins x = some (.type n)) (he : PE X e te)
    (hn : x ≠ "__name__" := by decide) (hd : (x == ("__debug__" : Str)) = false := by decide)
    (hs : starEach [e, .Name x p2] X.env = (false, eval e X.env) :: starEach [.Name x p2] X.env := by rfl) (hs2 : starEach [.Name x p2] X.env = (false, eval (.Name x p2) X.env) :: starEach [] X.env := by rfl)
    (hpl : (backTo pos (starEach [.Name x p2] X.env)).any (·.1) = false := by rfl) : PE X (.Call (.Name "isinstance" p) [e, .Name x p2] [] pos) (tIsT X.K n te) :=
  pe_callB call_isi hg hm (by decide +kernel) (pa_cons he (pa_cons (pe_bltn (v := .ty n) hg2 hm2 hv rfl hn hd) pa_nil hs2) hs) (he := hs) (hpl := hpl)
theorem isi {K : PySem.W.Frag} {x : V} {H : Hp} {Q : VK} {t n : String} {b : Bool} (ty : TyX K H x (.type t)) (hk : kitB t n = some b) (q : Q (.bl b) H) : rIsi K [x, .ty n] H Q := ⟨x, .ty n, .type t, .type n, b, rfl, .ty n, ty, kit_ty hk, q⟩
theorem ty_str {K : PySem.W.Frag} {H : Hp} {z : Str} : TyX K H (.str z) (.type "str") := .base (.str z)
theorem ty_int {K : PySem.W.Frag} {H : Hp} {i : Int} : TyX K H (.int i) (.type "int") := .base (.int i)
theorem k_str_str : kitB "str" "str" = some true := by decide +kernel
theorem k_str_tup : kitB "str" "tuple" = some false := by decide +kernel
theorem k_tup_tup : kitB "tuple" "tuple" = some true := by decide +kernel
theorem k_tup_str : kitB "tuple" "str" = some false := by decide +kernel
theorem k_int_int : kitB "int" "int" = some true := by decide +kernel
theorem k_int_bool : kitB "int" "bool" = some false := by decide +kernel
theorem b_str : bootBuiltins "str" = some (.type "str") := by decide +kernel
theorem b_int : bootBuiltins "int" = some (.type "int") := by decide +kernel
theorem b_bool : bootBuiltins "bool" = some (.type "bool") := by decide +kernel
theorem b_tuple : bootBuiltins "tuple" = some (.type "tuple") := by decide +kernel
theorem b_list : bootBuiltins "list" = some (.type "list") := by decide +kernel
theorem b_dict : bootBuiltins "dict" = some (.type "dict") := by decide +kernel
theorem b_all : bootBuiltins "all" = some (.builtin "all") := by decide +kernel
theorem b_any : bootBuiltins "any" = some (.builtin "any") := by decide +kernel
theorem b_sum : bootBuiltins "sum" = some (.builtin "sum") := by decide +kernel
theorem b_min : bootBuiltins "min" = some (.builtin "min") := by decide +kernel
theorem b_max : bootBuiltins "max" = some (.builtin "max") := by decide +kernel
theorem b_abs : bootBuiltins "abs" = some (.builtin "abs") := by decide +kernel
theorem b_divmod : bootBuiltins "divmod" = some (.builtin "divmod") := by decide +kernel
theorem b_sorted : bootBuiltins "sorted" = some (.builtin "sorted") := by decide +kernel
theorem b_len : bootBuiltins "len" = some (.builtin "len") := PySem.boot_len
/-- the names that the top leaves alone, and its constants -/
structure Bn (mg : Str → Option Value) : Prop where
  isinstance : mg "isinstance" = none
  int : mg "int" = none
  bool : mg "bool" = none
  str : mg "str" = none
  tuple : mg "tuple" = none
  list : mg "list" = none
  dict : mg "dict" = none
  len : mg "len" = none
  all : mg "all" = none
  any : mg "any" = none
  sum : mg "sum" = none
  min : mg "min" = none
  max : mg "max" = none
  abs : mg "abs" = none
  divmod : mg "divmod" = none
  sorted : mg "sorted" = none
  range : mg "range" = none
  enumerate : mg "enumerate" = none
  mostH : ∃ t, mg "MOST_HEIGHT" = some (.int 999 t)
  mostP : ∃ t, mg "MOST_PEOPLE" = some (.int 40 t)
  mostL : ∃ t, mg "MOST_LINES" = some (.int 8 t)
  mostT : ∃ t, mg "MOST_LETTERS" = some (.int 6 t)
  low : ∃ t, mg "LOW" = some (.str "low" t)
  high : ∃ t, mg "HIGH" = some (.str "high" t)
  letters : ∃ t, mg "LETTERS" = some (.str "abcdefghijklmnopqrstuvwxyz" t)
/-- a module's constant -/
theorem pe_kI {X : Cx} {x : Str} {i : Int} {pos : Pos} (hg : Gl X x) (hm : ∃ t, X.mg x = some (.int i t)) (hd : (x == ("__debug__" : Str)) = false := by decide) : PE X (.Name x pos) (tC (.int i)) := by
  obtain ⟨t, hm⟩ := hm
  exact pe_glob hg hm ⟨t, rfl⟩ hd
theorem pe_kS {X : Cx} {x : Str} {z : Str} {pos : Pos} (hg : Gl X x) (hm : ∃ t, X.mg x = some (.str z t)) (hd : (x == ("__debug__" : Str)) = false := by decide) : PE X (.Name x pos) (tC (.str z)) := by
  obtain ⟨t, hm⟩ := hm
  exact pe_glob hg hm ⟨t, rfl⟩ hd
/-! ### the same rules with the written part named (within a comprehension's block) -/
section
variable {X : Cx}
theorem op_in_seqK (K : PySem.W.Frag) (h : X.K = K := by rfl) : OpR X (compareOp .In) (rIn K false) := by subst h; exact op_in_seq
theorem op_notIn_seqK (K : PySem.W.Frag) (h : X.K = K := by rfl) : OpR X (compareOp .NotIn) (rIn K true) := by subst h; exact op_notIn_seq
theorem op_neDK (K : PySem.W.Frag) (hu : X.A.units + 64 < cLine) (h : X.K = K := by rfl) : OpR X (compareOp .NotEq) (rNeD K) := by subst h; exact op_neD hu
theorem ix_listK (K : PySem.W.Frag) (h : X.K = K := by rfl) : IxR X (rIxL K) := by subst h; exact ix_list
theorem ix_tupK (K : PySem.W.Frag) (h : X.K = K := by rfl) : IxR X (rIxT K) := by subst h; exact ix_tup
theorem sl_listK (K : PySem.W.Frag) (h : X.K = K := by rfl) : SlR X (rSlL K) := by subst h; exact sl_list
def rLenK (K : PySem.W.Frag) : List V → Hp → VK → Prop := fun xs H Q => ∃ p ys, xs = [.ref p] ∧ (SqL K H p ys ∨ SqT K H p ys) ∧ Q (.int ys.length) H
theorem call_len_seqK (K : PySem.W.Frag) (h : X.K = K := by rfl) : CallR X (.builtin "len") (rLenK K) := by subst h; exact call_len_seq
theorem cr_allK (K : PySem.W.Frag) (hc : X.calm = true) (h : X.K = K := by rfl) : CallR X (.builtin "all") (rAll K) := by subst h; exact cr_all hc
theorem cr_anyK (K : PySem.W.Frag) (hc : X.calm = true) (h : X.K = K := by rfl) : CallR X (.builtin "any") (rAny K) := by subst h; exact cr_any hc
theorem call_tupFK (K : PySem.W.Frag) (h : X.K = K := by rfl) : CallR X (.type "tuple") (rTupF K) := by subst h; exact call_tupF
theorem pg_tupK (K : PySem.W.Frag) {es : List Expr} {k : Nat} {t : TGs} {n : Nat} {pos : Pos} (hc : X.calm = true) (h : PGs X es t)
    (hn : (assignEach es X.env).length = n := by rfl) (hst : (assignEach es X.env).findIdx? (·.1) = none := by rfl) (hK : X.K = K := by rfl) : PG X (.Tuple es k pos) (gTup K n t) := by subst hK; exact pg_tup hc h hn hst
theorem pi_listK (K : PySem.W.Frag) {tg l : Expr} {tl : TE} (hl : PE X l tl) (h : X.K = K := by rfl) : PI X tg l (iList K tl) := by subst h; exact pi_list hl
theorem pi_tupK (K : PySem.W.Frag) {tg l : Expr} {tl : TE} (hl : PE X l tl) (h : X.K = K := by rfl) : PI X tg l (iTup K tl) := by subst h; exact pi_tup hl
theorem pe_bmK (K : PySem.W.Frag) {o e : Expr} {es : List Expr} {to : TE} {t : TA} {name : Str} {apos cpos : Pos} {T id : String} {r : V → List V → Hp → VK → Prop} (pa : PlainAttrs T) (slot : Slot T name id) (hty : typeOf (.builtin id) = pure (.type "method_descriptor")) (hm : MtR X id r) (ho : PE X o to) (ha : PA X (e :: es) t)
    (hbase : attributeBase o name X.env (eval o X.env) = eval o X.env := by rfl)
    (hfew : ((backTo cpos (starEach (e :: es) X.env)).all (fun x => !x.1) && (backToKw cpos (keywordEach [] X.env)).all (fun x => x.1.isSome)
      && decide ((e :: es).length + ([] : List Keyword).length + (if ([] : List Keyword).isEmpty then 0 else 1) < 30)) = true := by rfl)
    (hline : (apos.endLine == cpos.line) = true := by rfl) (hs : starEach (e :: es) X.env = (false, eval e X.env) :: starEach es X.env := by rfl) (hplain : (backTo cpos (starEach es X.env)).any (·.1) = false := by rfl) (hK : X.K = K := by rfl) :
    PE X (.Call (.Attribute o name apos) (e :: es) [] cpos) (tBM K T r to t) := by subst hK; exact pe_bm pa slot hty hm ho ha hbase hfew hline hs hplain
theorem pe_isTK (K : PySem.W.Frag) {e : Expr} {te : TE} {x : Str} {n : String} {p p2 pos : Pos} (hg : Gl X "isinstance") (hm : X.mg "isinstance" = none) (hg2 : Gl X x) (hm2 : X.mg x = none) (hv : bootBuiltins x = some (.type n)) (he : PE X e te)
    (hn : x ≠ "__name__" := by decide) (hd : (x == ("__debug__" : Str)) = false := by decide)
    (hs : starEach [e, .Name x p2] X.env = (false, eval e X.env) :: starEach [.Name x p2] X.env := by rfl) (hs2 : starEach [.Name x p2] X.env = (false, eval (.Name x p2) X.env) :: starEach [] X.env := by rfl)
    (hpl : (backTo pos (starEach [.Name x p2] X.env)).any (·.1) = false := by rfl) (hK : X.K = K := by rfl) : PE X (.Call (.Name "isinstance" p) [e, .Name x p2] [] pos) (tIsT K n te) := by subst hK; exact pe_isT hg hm hg2 hm2 hv he hn hd hs hs2 hpl
end
/-! ### small -/
theorem ite_t {A B : Prop} {b : Bool} (h : b = true) (q : A) : if b = true then A else B := by rw [if_pos h]; exact q
theorem ite_f {A B : Prop} {b : Bool} (h : b = false) (q : B) : if b = true then A else B := by rw [h, if_neg Bool.false_ne_true]; exact q
theorem all_true {acc : List V} (h : ∀ (i : Nat) (y : V), acc[i]? = some y → y = .bl true) : acc = (List.replicate acc.length true).map V.bl := by
  refine List.ext_getElem? fun i => ?_
  rw [List.map_replicate, List.getElem?_replicate]
  by_cases hi : i < acc.length
  · rw [if_pos hi, List.getElem?_eq_getElem hi, h i _ (List.getElem?_eq_getElem hi)]
  · rw [if_neg hi]
    exact List.getElem?_eq_none_iff.mpr (by omega)
theorem rep_all : ∀ n : Nat, (List.replicate n true).all id = true
  | 0 => rfl
  | n + 1 => by rw [List.replicate_succ, List.all_cons, rep_all n] <;> rfl
theorem all_false {acc : List V} (h : ∀ (i : Nat) (y : V), acc[i]? = some y → y = .bl false) : acc = (List.replicate acc.length false).map V.bl := by
  refine List.ext_getElem? fun i => ?_
  rw [List.map_replicate, List.getElem?_replicate]
  by_cases hi : i < acc.length
  · rw [if_pos hi, List.getElem?_eq_getElem hi, h i _ (List.getElem?_eq_getElem hi)]
  · rw [if_neg hi]
    exact List.getElem?_eq_none_iff.mpr (by omega)
theorem rep_any : ∀ n : Nat, (List.replicate n false).any id = false
  | 0 => rfl
  | n + 1 => by rw [List.replicate_succ, List.any_cons, rep_any n] <;> rfl
/-- all(list), all True -/
theorem r_all {K : PySem.W.Frag} {D : Addr} {acc : List V} {H : Hp} {Q : VK} (hD : H D = some (.lst acc)) (h : ∀ (i : Nat) (y : V), acc[i]? = some y → y = .bl true) (q : Q (.bl true) H) : rAll K [.ref D] H Q := by
  refine ⟨D, List.replicate acc.length true, rfl, SqL.of ?_, ?_⟩
  · rw [← all_true h]
    exact hD
  · rw [rep_all]
    exact q
theorem r_any {K : PySem.W.Frag} {D : Addr} {acc : List V} {H : Hp} {Q : VK} (hD : H D = some (.lst acc)) (h : ∀ (i : Nat) (y : V), acc[i]? = some y → y = .bl false) (q : Q (.bl false) H) : rAny K [.ref D] H Q := by
  refine ⟨D, List.replicate acc.length false, rfl, SqL.of ?_, ?_⟩
  · rw [← all_false h]
    exact hD
  · rw [rep_any]
    exact q
/-- no test: the item is kept -/
theorem lc_yes {te : TE} {σ : L2.St} {H : Hp} {Pk : VK} {N : Hp → Prop} (h : te σ H Pk) : tYes σ H fun b H3 => if b = true then te σ H3 Pk else N H3 := by
  show if true = true then te σ H Pk else N H
  exact ite_t rfl h
theorem szl {n : Nat} (h : n ≤ 100000) : n < sizeLine := Nat.lt_of_le_of_lt h (by decide)
theorem sze {n : Nat} (h : n ≤ 100000) : n ≤ sizeLine := Nat.le_of_lt (szl h)
theorem map_get {α β : Type} {f : α → β} {l : List α} {i : Nat} {y : β} (h : (l.map f)[i]? = some y) : ∃ x, l[i]? = some x ∧ y = f x := by
  rw [List.getElem?_map] at h
  cases e : l[i]? with
  | none => rw [e] at h; cases h
  | some x => rw [e] at h; exact ⟨x, rfl, (Option.some.inj h).symm⟩
/-! ### the text -/
def topS (i : Nat) : Stmt := PySem.Challenge.pw_frontmeets_k46_whole_one_kind_exchanges.main.body.getD i (.Pass ⟨0, 0, 0, 0⟩)
end K46

namespace K46
open PySem PySem.Spec PyProof.Rows L2
abbrev iv (ns : List Int) : List V := ns.map V.int
abbrev sv (ys : List Str) : List V := ys.map V.str
theorem in_iv (k : Int) : ∀ ns : List Int, inV (.int k) (iv ns) = decide (k ∈ ns)
  | [] => rfl
  | n :: ns => by
    have ih := in_iv k ns
    unfold inV at *
    show ((V.int n :: iv ns).any _) = _
    rw [List.any_cons, ih]
    show ((n == k) || decide (k ∈ ns)) = decide (k ∈ n :: ns)
    by_cases h : n = k
    · subst h; simp
    · have h' : ¬ k = n := fun e => h e.symm
      simp [h, h']
theorem in_sv (z : Str) : ∀ ys : List Str, inV (.str z) (sv ys) = decide (z ∈ ys)
  | [] => rfl
  | y :: ys => by
    have ih := in_sv z ys
    unfold inV at *
    show ((V.str y :: sv ys).any _) = _
    rw [List.any_cons, ih]
    show ((y == z) || decide (z ∈ ys)) = decide (z ∈ y :: ys)
    by_cases h : y = z
    · subst h; simp
    · have h' : ¬ z = y := fun e => h e.symm
      simp [h, h']
theorem flat_sv (ys : List Str) : (sv ys).all flatV = true := flat_strs ys
theorem cut_take (xs : List V) (k : Nat) : cutV xs none (some (k : Int)) = xs.take k := by
  unfold cutV
  rw [HT.sIx_none, HT.sIx_nat, Nat.sub_zero, List.drop_zero]
  by_cases h : k ≤ xs.length
  · rw [Nat.min_eq_left h]
  · rw [Nat.min_eq_right (by omega), List.take_length, List.take_of_length_le (by omega)]
theorem cut_drop (xs : List V) (k : Nat) : cutV xs (some (k : Int)) none = xs.drop k := by
  unfold cutV
  rw [HT.sIx_none, HT.sIx_nat]
  by_cases h : k ≤ xs.length
  · rw [Nat.min_eq_left h, List.take_of_length_le]
    rw [List.length_drop]
    exact Nat.le_refl _
  · rw [Nat.min_eq_right (by omega), List.drop_of_length_le (Nat.le_refl _), List.drop_of_length_le (by omega)]
    simp
theorem nodup_take {ns : List Int} {i : Nat} (hi : i < ns.length) (h : ns.Nodup) : ns[i] ∉ ns.take i := by
  intro hm
  obtain ⟨j, hj, e⟩ := List.getElem_of_mem hm
  rw [List.getElem_take] at e
  rw [List.length_take] at hj
  have hj' : j < ns.length := by omega
  have := (List.getElem_inj (h₀ := hj') (h₁ := hi) h).mp e
  omega
theorem get_iv {ns : List Int} {i : Nat} (hi : i < ns.length) : (iv ns)[i]? = some (.int ns[i]) := by rw [List.getElem?_map, List.getElem?_eq_getElem hi] <;> rfl
theorem get_sv {ys : List Str} {i : Nat} (hi : i < ys.length) : (sv ys)[i]? = some (.str ys[i]) := by rw [List.getElem?_map, List.getElem?_eq_getElem hi] <;> rfl
end K46

namespace K46
open PySem
/-- what is left of the rows when g people of each have gone -/
def rem {α : Type} (lr : List (List α)) (g : List Nat) : List (List α) := List.zipWith (fun r n => r.drop n) lr g
theorem rem_get {α : Type} {lr : List (List α)} {g : List Nat} {i n : Nat} {r : List α} (h1 : lr[i]? = some r) (h2 : g[i]? = some n) : (rem lr g)[i]? = some (r.drop n) := by
  unfold rem
  rw [List.getElem?_zipWith, h1, h2]
theorem rem_len {α : Type} {lr : List (List α)} {g : List Nat} (h : g.length = lr.length) : (rem lr g).length = lr.length := by
  unfold rem
  rw [List.length_zipWith]
  omega
theorem rem_inv {α : Type} {lr : List (List α)} {g : List Nat} (hl : g.length = lr.length) {i : Nat} {q : List α} (h : (rem lr g)[i]? = some q) : ∃ r n, lr[i]? = some r ∧ g[i]? = some n ∧ q = r.drop n := by
  have hi : i < (rem lr g).length := (List.getElem?_eq_some_iff.mp h).1
  rw [rem_len hl] at hi
  have h1 : lr[i]? = some lr[i] := List.getElem?_eq_getElem hi
  have h2 : g[i]? = some g[i] := List.getElem?_eq_getElem (by omega)
  rw [rem_get h1 h2] at h
  exact ⟨_, _, h1, h2, (Option.some.inj h).symm⟩
theorem rem_zero {α : Type} (lr : List (List α)) : rem lr (List.replicate lr.length 0) = lr := by
  refine List.ext_getElem? fun i => ?_
  by_cases hi : i < lr.length
  · rw [rem_get (List.getElem?_eq_getElem hi) (by rw [List.getElem?_replicate, if_pos hi]), List.drop_zero, List.getElem?_eq_getElem hi]
  · rw [List.getElem?_eq_none_iff.mpr (by rw [rem_len (by simp)]; omega), List.getElem?_eq_none_iff.mpr (by omega)]
theorem drop_cons {α : Type} {r : List α} {n : Nat} {x : α} {t : List α} (h : r.drop n = x :: t) : r[n]? = some x ∧ r.drop (n + 1) = t ∧ n < r.length := by
  have hn : n < r.length := by
    apply Classical.byContradiction
    intro c
    rw [List.drop_of_length_le (by omega)] at h
    cases h
  have e := List.drop_eq_getElem_cons hn
  rw [h] at e
  injection e with e1 e2
  exact ⟨by rw [List.getElem?_eq_getElem hn, e1], e2.symm, hn⟩
theorem rem_step {α : Type} {lr : List (List α)} {g : List Nat} (hl : g.length = lr.length) {i n : Nat} {r : List α} {x : α} {t : List α} (h1 : lr[i]? = some r) (h2 : g[i]? = some n) (h3 : r.drop n = x :: t) : rem lr (g.set i (n + 1)) = (rem lr g).set i t := by
  have hi : i < lr.length := (List.getElem?_eq_some_iff.mp h1).1
  have hig : i < g.length := by omega
  refine List.ext_getElem? fun j => ?_
  by_cases hj : j = i
  · subst hj
    rw [rem_get h1 (List.getElem?_set_self hig), List.getElem?_set_self (by rw [rem_len hl]; exact hi), (drop_cons h3).2.1]
  · rw [List.getElem?_set_ne (fun z => hj z.symm)]
    by_cases hjl : j < lr.length
    · have e1 : lr[j]? = some lr[j] := List.getElem?_eq_getElem hjl
      have e2 : g[j]? = some g[j] := List.getElem?_eq_getElem (by omega)
      rw [rem_get e1 e2, rem_get e1 (by rw [List.getElem?_set_ne (fun z => hj z.symm)]; exact e2)]
    · rw [List.getElem?_eq_none_iff.mpr (by rw [rem_len (by rw [List.length_set]; exact hl)]; omega), List.getElem?_eq_none_iff.mpr (by rw [rem_len hl]; omega)]
/-- heights all differ -/
def Dif (rows : List (List Ps)) : Prop := (rows.flatten.map (·.1)).Nodup
theorem Dif.step {rows : List (List Ps)} {i : Nat} {x : Ps} {r : List Ps} (d : Dif rows) (h : rows[i]? = some (x :: r)) : Dif (rows.set i r) := by
  have := (perm_set h).map (fun x : Ps => x.1)
  have := (this.nodup_iff).mpr d
  exact (List.nodup_cons.mp this).2
theorem Dif.ne {rows : List (List Ps)} {i j : Nat} {x y : Ps} {r t : List Ps} (d : Dif rows) (h : rows[i]? = some (x :: r)) (h2 : rows[j]? = some (y :: t)) (hij : j ≠ i) : x.1 ≠ y.1 := by
  have hn := ((perm_set h).map (fun x : Ps => x.1)).nodup_iff.mpr d
  have h3 : (rows.set i r)[j]? = some (y :: t) := by
    rw [List.getElem?_set_ne (fun z => hij z.symm)]
    exact h2
  intro e
  refine (List.nodup_cons.mp hn).1 (List.mem_map.mpr ⟨y, ?_, e.symm⟩)
  exact List.mem_flatten.mpr ⟨_, List.mem_of_getElem? h3, List.mem_cons_self⟩
/-- the fronts of the first k rows: height and place -/
def fronts (rows : List (List Ps)) : Nat → List (Int × Int)
  | 0 => []
  | k + 1 => fronts rows k ++ (match rows[k]? with | some (x :: _) => [(x.1, (k : Int))] | _ => [])
theorem fronts_mem {rows : List (List Ps)} : ∀ {k : Nat} {p : Int × Int}, p ∈ fronts rows k ↔ ∃ i x t, i < k ∧ rows[i]? = some (x :: t) ∧ p = (x.1, (i : Int))
  | 0, p => by simp [fronts]
  | k + 1, p => by
    unfold fronts
    rw [List.mem_append, fronts_mem]
    constructor
    · rintro (⟨i, x, t, hi, h, e⟩ | h)
      · exact ⟨i, x, t, by omega, h, e⟩
      · split at h
        · rename_i x t e
          exact ⟨k, x, t, by omega, e, by simpa using h⟩
        · simp at h
    · rintro ⟨i, x, t, hi, h, e⟩
      by_cases hk : i = k
      · subst hk
        refine .inr ?_
        rw [h]
        simp [e]
      · exact .inl ⟨i, x, t, by omega, h, e⟩
theorem fronts_yes {rows : List (List Ps)} {k : Nat} {x : Ps} {t : List Ps} (h : rows[k]? = some (x :: t)) : fronts rows (k + 1) = fronts rows k ++ [(x.1, (k : Int))] := by
  conv => lhs; unfold fronts
  rw [h]
theorem fronts_no {rows : List (List Ps)} {k : Nat} (h : rows[k]? = some []) : fronts rows (k + 1) = fronts rows k := by
  conv => lhs; unfold fronts
  rw [h, List.append_nil]
theorem flatten_pos {rows : List (List Ps)} (h : 0 < rows.flatten.length) : ∃ i x t, i < rows.length ∧ rows[i]? = some (x :: t) := by
  apply Classical.byContradiction
  intro c
  have : rows.flatten = [] := by
    rw [List.flatten_eq_nil_iff]
    intro r hr
    obtain ⟨i, hi, e⟩ := List.getElem_of_mem hr
    cases r with
    | nil => rfl
    | cons x t => exact absurd ⟨i, x, t, hi, by rw [List.getElem?_eq_getElem hi, e]⟩ c
  rw [this] at h
  simp at h
theorem flatten_zero {rows : List (List Ps)} (h : rows.flatten.length = 0) : ∀ r ∈ rows, r = [] := by
  have : rows.flatten = [] := List.eq_nil_of_length_eq_zero h
  exact List.flatten_eq_nil_iff.mp this
theorem flatten_step {rows : List (List Ps)} {i : Nat} {x : Ps} {r : List Ps} (h : rows[i]? = some (x :: r)) : (rows.set i r).flatten.length + 1 = rows.flatten.length := by
  have := (perm_set h).length_eq
  simpa using this
/-- the front that none goes ahead of -/
theorem best_front {low : Bool} {rows : List (List Ps)} (d : Dif rows) {i : Nat} {x : Ps} {r : List Ps} (h : rows[i]? = some (x :: r)) (hb : ∀ (j : Nat) (y : Ps) (t : List Ps), rows[j]? = some (y :: t) → if low = true then ¬ y.1 < x.1 else ¬ x.1 < y.1) :
    ∀ (j : Nat) (y : Ps) (t : List Ps), j ≠ i → rows[j]? = some (y :: t) → Bf low x.1 y.1 := by
  intro j y t hj e
  have h1 := hb j y t e
  have h2 := d.ne h e hj
  cases low with
  | true =>
    simp only [if_true] at h1
    simp only [Bf, if_true]
    omega
  | false =>
    simp only [Bool.false_eq_true, if_false] at h1
    simp only [Bf, Bool.false_eq_true, if_false]
    omega
end K46

namespace K46
open PySem
abbrev Crowd := List (Str × List Int)
/-- the row of a line -/
def fOf : Crowd → Str → List Int
  | [], _ => []
  | p :: c, s => if p.1 = s then p.2 else fOf c s
abbrev folks (c : Crowd) : List Int := c.flatMap (·.2)
theorem fOf_mem {h : Int} {s : Str} : ∀ {c : Crowd}, h ∈ fOf c s → h ∈ folks c
  | [], e => by simp [fOf] at e
  | p :: c, e => by
    unfold fOf at e
    show h ∈ (p :: c).flatMap (·.2)
    rw [List.flatMap_cons, List.mem_append]
    by_cases hp : p.1 = s
    · rw [if_pos hp] at e
      exact .inl e
    · rw [if_neg hp] at e
      exact .inr (fOf_mem e)
theorem folks_cons (p : Str × List Int) (c : Crowd) : folks (p :: c) = p.2 ++ folks c := by
  show (p :: c).flatMap (·.2) = _
  rw [List.flatMap_cons]
theorem fOf_nodup {s : Str} : ∀ {c : Crowd}, (folks c).Nodup → (fOf c s).Nodup
  | [], _ => by simp [fOf]
  | p :: c, e => by
    rw [folks_cons] at e
    obtain ⟨h1, h2, _⟩ := List.nodup_append.mp e
    unfold fOf
    by_cases hp : p.1 = s
    · rw [if_pos hp]; exact h1
    · rw [if_neg hp]; exact fOf_nodup h2
theorem fOf_disj {s z : Str} {h : Int} (hsz : s ≠ z) : ∀ {c : Crowd}, (folks c).Nodup → h ∈ fOf c s → h ∈ fOf c z → False
  | [], _, e, _ => by simp [fOf] at e
  | p :: c, e, h1, h2 => by
    rw [folks_cons] at e
    obtain ⟨_, e2, e3⟩ := List.nodup_append.mp e
    unfold fOf at h1 h2
    by_cases hp : p.1 = s
    · rw [if_pos hp] at h1
      rw [if_neg (fun z => hsz (hp.symm.trans z))] at h2
      exact e3 h h1 h (fOf_mem h2) rfl
    · rw [if_neg hp] at h1
      by_cases hq : p.1 = z
      · rw [if_pos hq] at h2
        exact e3 h h2 h (fOf_mem h1) rfl
      · rw [if_neg hq] at h2
        exact fOf_disj hsz e2 h1 h2
theorem flat_nodup {f : Str → List Int} (h1 : ∀ s, (f s).Nodup) (h2 : ∀ s z h, s ≠ z → h ∈ f s → h ∈ f z → False) : ∀ {ls : List Str}, ls.Nodup → (ls.flatMap f).Nodup
  | [], _ => by simp
  | s :: ls, hn => by
    obtain ⟨a, b⟩ := List.nodup_cons.mp hn
    rw [List.flatMap_cons, List.nodup_append]
    refine ⟨h1 s, flat_nodup h1 h2 b, fun x hx y hy e => ?_⟩
    subst e
    obtain ⟨z, hz, hxz⟩ := List.mem_flatMap.mp hy
    exact h2 s z x (fun e => a (e ▸ hz)) hx hxz
theorem folk_map (f : Str → List Int) : ∀ ls : List Str, (folkOf f ls).map (·.1) = ls.flatMap f
  | [] => rfl
  | s :: ls => by
    have ih := folk_map f ls
    unfold folkOf at *
    rw [List.flatMap_cons, List.map_append, ih, List.flatMap_cons]
    simp [Function.comp_def]
theorem crowd_folk {c : Crowd} {ls : List Str} (hc : (folks c).Nodup) (hl : ls.Nodup) : ((folkOf (fOf c) ls).map (·.1)).Nodup ∧ (folkOf (fOf c) ls).length ≤ (folks c).length := by
  have h := flat_nodup (f := fOf c) (fun _ => fOf_nodup hc) (fun _ _ _ hsz h1 h2 => fOf_disj hsz hc h1 h2) hl
  refine ⟨by rw [folk_map]; exact h, ?_⟩
  have e : (folkOf (fOf c) ls).length = (ls.flatMap (fOf c)).length := by rw [← folk_map, List.length_map]
  rw [e]
  refine h.length_le_of_subset fun x hx => ?_
  obtain ⟨s, _, hs⟩ := List.mem_flatMap.mp hx
  exact fOf_mem hs
/-- texts in ascending order -/
abbrev sLt (a b : Str) : Prop := a.cps.toList < b.cps.toList
theorem sLt_ne {a b : Str} (h : sLt a b) : a ≠ b := fun e => by
  subst e
  exact List.lt_irrefl _ h
theorem asc_nodup {ls : List Str} (h : ls.Pairwise sLt) : ls.Nodup := h.imp sLt_ne
end K46

namespace K46
open PySem
/-- one more person at the end of a line -/
def fUp (f : Str → List Int) (L : Str) (h : Int) : Str → List Int := fun s => if s = L then f L ++ [h] else f s
theorem fUp_at (f : Str → List Int) (L : Str) (h : Int) : fUp f L h L = f L ++ [h] := if_pos rfl
theorem fUp_ne (f : Str → List Int) (L : Str) (h : Int) (s : Str) (hs : s ≠ L) : fUp f L h s = f s := if_neg hs
theorem up_folk {c : Crowd} {ls : List Str} {L : Str} {h : Int} (hc : (folks c).Nodup) (hl : ls.Nodup) (hh : h ∉ folks c) : ((folkOf (fUp (fOf c) L h) ls).map (·.1)).Nodup ∧ (folkOf (fUp (fOf c) L h) ls).length ≤ (folks c).length + 1 := by
  have mem : ∀ s x, x ∈ fUp (fOf c) L h s → x ∈ fOf c s ∨ (x = h ∧ s = L) := by
    intro s x hx
    unfold fUp at hx
    by_cases e : s = L
    · subst e
      rw [if_pos rfl, List.mem_append] at hx
      rcases hx with hx | hx
      · exact .inl hx
      · exact .inr ⟨by simpa using hx, rfl⟩
    · rw [if_neg e] at hx
      exact .inl hx
  have hn : (ls.flatMap (fUp (fOf c) L h)).Nodup := by
    refine flat_nodup (fun s => ?_) (fun s z x hsz h1 h2 => ?_) hl
    · unfold fUp
      by_cases e : s = L
      · subst e
        rw [if_pos rfl, List.nodup_append]
        refine ⟨fOf_nodup hc, by simp, fun x hx y hy e => hh ?_⟩
        have : y = h := by simpa using hy
        rw [← this, ← e]
        exact fOf_mem hx
      · rw [if_neg e]
        exact fOf_nodup hc
    · rcases mem s x h1 with h1 | ⟨h1, e1⟩
      · rcases mem z x h2 with h2 | ⟨h2, e2⟩
        · exact fOf_disj hsz hc h1 h2
        · exact hh (by rw [← h2]; exact fOf_mem h1)
      · rcases mem z x h2 with h2 | ⟨h2, e2⟩
        · exact hh (by rw [← h1]; exact fOf_mem h2)
        · exact hsz (e1.trans e2.symm)
  refine ⟨by rw [folk_map]; exact hn, ?_⟩
  have e : (folkOf (fUp (fOf c) L h) ls).length = (ls.flatMap (fUp (fOf c) L h)).length := by rw [← folk_map, List.length_map]
  rw [e]
  refine hn.length_le_of_subset (l₂ := h :: folks c) fun x hx => ?_
  obtain ⟨s, _, hs⟩ := List.mem_flatMap.mp hx
  rcases mem s x hs with h1 | ⟨h1, _⟩
  · exact List.mem_cons_of_mem _ (fOf_mem h1)
  · rw [h1]
    exact List.mem_cons_self
/-- where the i-th of p ++ q stands in p ++ h :: q -/
def shift (n i : Nat) : Nat := if i < n then i else i + 1
theorem shift_lt {n i j : Nat} (h : i < j) : shift n i < shift n j := by
  unfold shift
  split <;> split <;> omega
theorem shift_get {α : Type} {p q : List α} {h : α} {i : Nat} : (p ++ h :: q)[shift p.length i]? = (p ++ q)[i]? := by
  unfold shift
  by_cases hi : i < p.length
  · rw [if_pos hi, List.getElem?_append_left hi, List.getElem?_append_left hi]
  · rw [if_neg hi, List.getElem?_append_right (by omega), List.getElem?_append_right (by omega), show i + 1 - p.length = (i - p.length) + 1 by omega, List.getElem?_cons_succ]
theorem first_place {α : Type} {xs : List α} (hn : xs.Nodup) {j : Nat} {x : α} (h : xs[j]? = some x) : ∀ m, m < j → xs[m]? ≠ some x := by
  intro m hm e
  have h1 := (List.getElem?_eq_some_iff.mp h)
  have h2 := (List.getElem?_eq_some_iff.mp e)
  obtain ⟨a, ea⟩ := h1
  obtain ⟨b, eb⟩ := h2
  have := (List.getElem_inj (h₀ := b) (h₁ := a) hn).mp (eb.trans ea.symm)
  omega
end K46

namespace K46
open PySem PySem.Spec PyProof.Rows L2
section
variable {P : Program} {w : World} {K : PySem.W.Frag} {mg : Str → Option Value} {base : Heap}
/-! ### is_integer, is_height -/
abbrev sis_integer : Stmt := topS 16
abbrev nis_integer : List Str := ["value", "least", "most"]
abbrev pis_integer : List Str := ["value", "least", "most"]
theorem scis_integer : FnScope nis_integer pis_integer (defScope sis_integer) := ⟨rfl, rfl, rfl, by decide +kernel, rfl, by decide +kernel, by decide +kernel⟩
-- slots: 0 value 1 least 2 most
def spInteger : Sp := fun vs H Q _ => ∃ i lo hi : Int, vs = [.int i, .int lo, .int hi] ∧ Q (.bl (decide (lo ≤ i) && decide (i ≤ hi))) H
theorem d_is_integer (B : Bn mg) (E : Ent K mg "is_integer" sis_integer) : Df P w K mg base 1 "is_integer" pis_integer spInteger := by
  refine E.df scis_integer (fun _ _ _ _ _ _ us hl => match us, hl with | [_, _, _], _ => rfl) (fun vs H Q E h => ?_) (fun f cdv A outer s H vs Q E hr h => ?_)
  · obtain ⟨i, lo, hi, rfl, _⟩ := h
    rfl
  obtain ⟨i, lo, hi, rfl, q⟩ := h
  refine ⟨_, pss_one (ps_ret (pe_and (pe_isTK K rfl B.isinstance rfl B.int b_int (pv 0)) (pe_and (pe_not (pe_isTK K rfl B.isinstance rfl B.bool b_bool (pv 0))) (pe_one (pe_chain op_le op_le (pv 1) (pv 0) (pv 2)))))), ?_⟩
  refine ⟨_, rfl, isi ty_int k_int_int ⟨true, rfl, iteT ?_⟩⟩
  refine ⟨_, rfl, isi ty_int k_int_bool ⟨false, rfl, true, rfl, iteT ?_⟩⟩
  refine ⟨_, rfl, _, rfl, _, _, rfl, rfl, _, rfl, ite2 (fun c => ?_) (fun c => ?_)⟩
  · refine ⟨_, rfl, _, _, rfl, rfl, ?_⟩
    have c := of_decide_eq_true c
    have e : (decide (lo ≤ i) && decide (i ≤ hi)) = decide (i ≤ hi) := by rw [decide_eq_true c, Bool.true_and]
    rw [e] at q
    exact q
  · have e : (decide (lo ≤ i) && decide (i ≤ hi)) = false := by rw [Bool.eq_false_iff.mpr c, Bool.false_and]
    rw [e] at q
    exact q
abbrev sis_height : Stmt := topS 17
abbrev nis_height : List Str := ["value"]
abbrev pis_height : List Str := ["value"]
theorem scis_height : FnScope nis_height pis_height (defScope sis_height) := ⟨rfl, rfl, rfl, by decide +kernel, rfl, by decide +kernel, by decide +kernel⟩
-- slots: 0 value
def okH (i : Int) : Prop := 1 ≤ i ∧ i ≤ 999
def spHeight : Sp := fun vs H Q _ => ∃ i : Int, vs = [.int i] ∧ okH i ∧ Q (.bl true) H
theorem d_is_height (B : Bn mg) (E : Ent K mg "is_height" sis_height) (Dis_integer : Df P w K mg base 1 "is_integer" pis_integer spInteger) : Df P w K mg base 2 "is_height" pis_height spHeight := by
  refine E.df scis_height (fun _ _ _ _ _ _ us hl => match us, hl with | [_], _ => rfl) (fun vs H Q E h => ?_) (fun f cdv A outer s H vs Q E hr h => ?_)
  · obtain ⟨i, rfl, _⟩ := h
    rfl
  obtain ⟨i, rfl, ⟨h1, h2⟩, q⟩ := h
  refine ⟨_, pss_one (ps_ret (pe_df Dis_integer (hr.mono (by decide)) rfl (pa_cons (pv 0) (pa_cons pe_int (pa_cons (pe_kI rfl B.mostH) pa_nil))))), ?_⟩
  refine ⟨_, rfl, i, 1, 999, rfl, ?_⟩
  rw [decide_eq_true h1, decide_eq_true h2]
  exact q
/-! ### is_row -/
abbrev sis_row : Stmt := topS 18
abbrev nis_row : List Str := ["value", "index", "height"]
abbrev pis_row : List Str := ["value"]
theorem scis_row : FnScope nis_row pis_row (defScope sis_row) := ⟨rfl, rfl, rfl, by decide +kernel, rfl, by decide +kernel, by decide +kernel⟩
-- slots: 0 value* 1 index~ 2 height~
def okRow (ns : List Int) : Prop := (∀ i ∈ ns, okH i) ∧ ns.Nodup ∧ ns.length ≤ 40
def spRow : Sp := fun vs H Q _ => ∃ (a : Addr) (ns : List Int), vs = [.ref a] ∧ TupAt H a (iv ns) ∧ okRow ns ∧ ∀ H', Same H H' → Q (.bl true) H'
theorem d_is_row (B : Bn mg) (E : Ent K mg "is_row" sis_row) (Dis_height : Df P w K mg base 2 "is_height" pis_height spHeight) : Df P w K mg base 3 "is_row" pis_row spRow := by
  refine E.df scis_row (fun _ _ _ _ _ _ us hl => match us, hl with | [_], _ => rfl) (fun vs H Q E h => ?_) (fun f cdv A outer s H vs Q E hr h => ?_)
  · obtain ⟨a, ns, rfl, _⟩ := h
    rfl
  obtain ⟨a, ns, rfl, hT, hok, q⟩ := h
  refine ⟨_, pss_cons (ps_if (PW.pt (pw_or (pt_not (pt_val (pe_isTK K rfl B.isinstance rfl B.tuple b_tuple (pv 0)))) (pw_or1 (pt_cmpR op_gt (pe_callB (call_len_seqK K) (by rfl) B.len b_len (pa_cons (pv 0) pa_nil)) (pe_kI rfl B.mostP) (nomark _))))) (pss_one (ps_ret pe_bl)) pss_nil)
      (pss_one (ps_ret (pe_callB (cr_allK K rfl) (by rfl) B.all b_all (pa_cons (pe_lc (own := [("index", 1), ("height", 2)]) rfl scis_row.nd (pi_enumT rfl B.enumerate (pa_cons (pv 0) pa_nil)) (blkOk_by (N := nis_row) (sc := defScope sis_row) (by decide +kernel)) (fun _ _ _ _ _ => (pg_tupK K (n := 2) rfl (pgs_cons (pg_name (i := 1) scis_row.nd rfl (Or.inl rfl)) (pgs_cons (pg_name (i := 2) scis_row.nd rfl (Or.inl rfl)) pgs_nil)))) (fun _ _ _ _ _ => pts_nil) (fun _ _ _ _ _ => (pe_and (pe_df Dis_height (hr.mono (by decide)) rfl (pa_cons (pv 2) pa_nil)) (pe_one (pe_cmpR (op_notIn_seqK K) (pv 2) (pe_slice sl_tupF (pv 0) po_none (po_some (pv 1))) (by with_unfolding_all rfl)))))) pa_nil)))), ?_⟩
  refine ⟨_, rfl, isi hT.ty k_tup_tup ⟨true, rfl, iteF ?_⟩⟩
  refine ⟨_, rfl, a, _, rfl, .inr hT.sq, _, _, rfl, rfl, _, rfl, ite_f ?_ ?_⟩
  · rw [List.length_map]
    exact decide_eq_false (by have := hok.2.2; omega)
  refine ⟨_, rfl, a, iv ns, rfl, hT, fun D hD => ?_⟩
  refine lc_gen walk_enumT [] hD (AllE fun _ y _ => y = .bl true) ⟨rfl, fun j y e => by simp at e⟩ (fun i acc H' _ b _ => hT.mono b.same) ?_ ?_
  · intro i acc x H1 H2 hi c hy
    rw [List.length_map] at hi
    have hx : (iv ns)[i]? = some (.int ns[i]) := by rw [List.getElem?_map, List.getElem?_eq_getElem hi] <;> rfl
    refine g_new hy rfl hx fun s1 => ⟨rfl, lc_yes ?_⟩
    have hT2 : TupAt H2 a (iv ns) := hT.mono (c.but.same.trans s1)
    refine ⟨_, rfl, _, rfl, hok.1 _ (List.getElem_mem hi), true, rfl, iteT ?_⟩
    refine ⟨_, rfl, _, rfl, _, rfl, _, rfl, _, _, rfl, hT2, fun p H3 s3 hP => ?_⟩
    refine ⟨p, _, rfl, .inr hP.sq, rfl, ?_, ?_⟩
    · rw [List.all_eq_true]
      intro z hz
      exact List.all_eq_true.mp (flat_intsV ns) z (List.mem_of_mem_take (by rw [cut_take] at hz; exact hz))
    · refine c.one0 hD (fun _ _ _ _ _ h => h) (szl (by have := hok.2.2; omega)) (s1.trans s3) ?_
      show V.bl (!inV _ _) = V.bl true
      rw [cut_take, ← List.map_take, in_iv, decide_eq_false (nodup_take hi hok.2.1)]
      rfl
  · intro acc H' c
    exact r_all c.at_ c.rel.2 (q H' c.but.same)
end
end K46

namespace K46
open PySem PySem.Spec PyProof.Rows L2
section
variable {P : Program} {w : World} {K : PySem.W.Frag} {mg : Str → Option Value} {base : Heap}
/-! ### is_kind -/
abbrev sis_kind : Stmt := topS 19
abbrev nis_kind : List Str := ["value"]
abbrev pis_kind : List Str := ["value"]
theorem scis_kind : FnScope nis_kind pis_kind (defScope sis_kind) := ⟨rfl, rfl, rfl, by decide +kernel, rfl, by decide +kernel, by decide +kernel⟩
-- slots: 0 value
abbrev kHigh : Str := "high"
def okK (k : Str) : Prop := k = kLow ∨ k = kHigh
def spKind : Sp := fun vs H Q _ => ∃ k : Str, vs = [.str k] ∧ okK k ∧ ∀ H', Same H H' → Q (.bl true) H'
theorem d_is_kind (B : Bn mg) (E : Ent K mg "is_kind" sis_kind) : Df P w K mg base 1 "is_kind" pis_kind spKind := by
  refine E.df scis_kind (fun _ _ _ _ _ _ us hl => match us, hl with | [_], _ => rfl) (fun vs H Q E h => ?_) (fun f cdv A outer s H vs Q E hr h => ?_)
  · obtain ⟨i, rfl, _⟩ := h
    rfl
  obtain ⟨k, rfl, hk, q⟩ := h
  refine ⟨_, pss_one (ps_ret (pe_and (pe_isTK K rfl B.isinstance rfl B.str b_str (pv 0)) (pe_one (pe_cmpR (op_in_seqK K) (pv 0) (pe_tupF (pa_cons (pe_kS rfl B.low) (pa_cons (pe_kS rfl B.high) pa_nil))) (by with_unfolding_all rfl))))), ?_⟩
  refine ⟨_, rfl, isi ty_str k_str_str ⟨true, rfl, iteT ?_⟩⟩
  refine ⟨_, rfl, by show 2 ≤ sizeLine; decide, fun p H2 hp s2 hT => ?_⟩
  refine ⟨p, _, rfl, .inr hT.sq, rfl, rfl, ?_⟩
  have e : inV (.str k) [V.str "low", V.str "high"] = true := by
    show inV (.str k) (sv [kLow, kHigh]) = true
    rw [in_sv]
    exact decide_eq_true (by rcases hk with rfl | rfl <;> simp)
  show Q (.bl (inV (.str k) [V.str "low", V.str "high"])) H2
  rw [e]
  exact q H2 s2
/-! ### is_line -/
abbrev sis_line : Stmt := topS 25
abbrev nis_line : List Str := ["value", "sign"]
abbrev pis_line : List Str := ["value"]
theorem scis_line : FnScope nis_line pis_line (defScope sis_line) := ⟨rfl, rfl, rfl, by decide +kernel, rfl, by decide +kernel, by decide +kernel⟩
-- slots: 0 value 1 sign~
def okLine (s : Str) : Prop := 1 ≤ s.length ∧ s.length ≤ 6 ∧ ∀ c ∈ s.cps.toList, 97 ≤ c ∧ c ≤ 122
abbrev lettersS : Str := "abcdefghijklmnopqrstuvwxyz"
theorem in_letters {c : Nat} (h : 97 ≤ c ∧ c ≤ 122) : c ∈ lettersS.cps.toList := by
  have k : ∀ k : Nat, k < 26 → (97 + k) ∈ lettersS.cps.toList := by decide +kernel
  have := k (c - 97) (by omega)
  rw [show 97 + (c - 97) = c by omega] at this
  exact this
def spLine : Sp := fun vs H Q _ => (∃ s : Str, vs = [.str s] ∧ okLine s ∧ ∀ H', Same H H' → Q (.bl true) H') ∨ (∃ a xs, vs = [.ref a] ∧ TupAt H a xs ∧ Q (.bl false) H)
theorem d_is_line (B : Bn mg) (E : Ent K mg "is_line" sis_line) : Df P w K mg base 1 "is_line" pis_line spLine := by
  refine E.df scis_line (fun _ _ _ _ _ _ us hl => match us, hl with | [_], _ => rfl) (fun vs H Q E h => ?_) (fun f cdv A outer s H vs Q E hr h => ?_)
  · rcases h with ⟨i, rfl, _⟩ | ⟨a, xs, rfl, _⟩
    · rfl
    · rfl
  refine ⟨_, pss_cons (ps_if (PW.pt (pw_or (pt_not (pt_val (pe_isTK K rfl B.isinstance rfl B.str b_str (pv 0)))) (pw_or1 (pt_not (pt_chain op_le op_le pe_int (pe_callB call_len_str (by rfl) B.len b_len (pa_cons (pv 0) pa_nil)) (pe_kI rfl B.mostT)))))) (pss_one (ps_ret pe_bl)) pss_nil)
      (pss_one (ps_ret (pe_callB (cr_allK K rfl) (by rfl) B.all b_all (pa_cons (pe_lc (own := [("sign", 1)]) rfl scis_line.nd (pi_str (pv 0)) (blkOk_by (N := nis_line) (sc := defScope sis_line) (by decide +kernel)) (fun _ _ _ _ _ => (pg_name (i := 1) scis_line.nd rfl (Or.inl rfl))) (fun _ _ _ _ _ => pts_nil) (fun _ _ _ _ _ => (pe_cmpR op_in_sign (pv 1) (pe_kS rfl B.letters) (by with_unfolding_all rfl)))) pa_nil)))), ?_⟩
  rcases h with ⟨s, rfl, hs, q⟩ | ⟨a, xs, rfl, hT, q⟩
  · refine ⟨_, rfl, isi ty_str k_str_str ⟨true, rfl, iteF ?_⟩⟩
    refine ⟨_, rfl, s, rfl, sze (by have := hs.2.1; omega), _, _, rfl, rfl, true, congrArg V.bl (decide_eq_true (by have := hs.1; omega)), iteT ?_⟩
    refine ⟨_, _, rfl, rfl, true, congrArg V.bl (decide_eq_true (by have := hs.2.1; omega)), iteF ?_⟩
    refine ⟨_, rfl, s, rfl, fun D hD => ?_⟩
    refine lc_gen walk_str [] hD (AllE fun _ y _ => y = .bl true) ⟨rfl, fun j y e => by simp at e⟩ (fun _ _ _ _ _ _ => trivial) ?_ ?_
    · intro i acc x H1 H2 hi c hy
      obtain ⟨rfl, ch, hc, rfl⟩ := hy
      refine ⟨rfl, lc_yes ?_⟩
      refine ⟨_, rfl, ch, lettersS, rfl, rfl, ?_⟩
      refine c.one0 hD (fun _ _ _ _ _ h => h) (szl (by have := hs.2.1; show i ≤ _; have : s.cps.size = s.length := rfl; omega)) (Same.refl _) ?_
      have hm : ch ∈ s.cps.toList := List.mem_of_getElem? (by rw [Array.getElem?_toList]; exact hc)
      rw [decide_eq_true (in_letters (hs.2.2 ch hm))]
    · intro acc H' c
      exact r_all c.at_ c.rel.2 (q H' c.but.same)
  · exact ⟨_, rfl, isi hT.ty k_tup_str ⟨false, rfl, iteT q⟩⟩
end
end K46

namespace K46
open PySem PySem.Spec PyProof.Rows L2
/-! ### plans in the heap -/
mutual
inductive PlanAt (H : Hp) : V → T → Prop where
  | leaf (s : Str) : PlanAt H (.str s) (.leaf s)
  | node {a b : Addr} {k : Str} {vs : List V} {ts : List T} : TupAt H a [.str k, .ref b] → TupAt H b vs → PlansAt H vs ts → PlanAt H (.ref a) (.node k ts)
inductive PlansAt (H : Hp) : List V → List T → Prop where
  | nil : PlansAt H [] []
  | cons {v : V} {vs : List V} {t : T} {ts : List T} : PlanAt H v t → PlansAt H vs ts → PlansAt H (v :: vs) (t :: ts)
end
mutual
theorem PlanAt.fz {H H' : Hp} (s : Fz H H') : ∀ {v : V} {t : T}, PlanAt H v t → PlanAt H' v t
  | _, .leaf _, .leaf _ => .leaf _
  | _, .node _ _, .node h1 h2 h3 => .node (h1.fz s) (h2.fz s) (h3.fz s)
theorem PlansAt.fz {H H' : Hp} (s : Fz H H') : ∀ {vs : List V} {ts : List T}, PlansAt H vs ts → PlansAt H' vs ts
  | _, [], .nil => .nil
  | _, _ :: _, .cons h1 h2 => .cons (h1.fz s) (h2.fz s)
end
theorem PlansAt.length {H : Hp} : ∀ {vs : List V} {ts : List T}, PlansAt H vs ts → vs.length = ts.length
  | _, [], .nil => rfl
  | _, _ :: _, .cons _ h2 => by rw [List.length_cons, List.length_cons, h2.length]
theorem PlansAt.get {H : Hp} : ∀ {vs : List V} {ts : List T} {i : Nat} {v : V}, PlansAt H vs ts → vs[i]? = some v → ∃ t, ts[i]? = some t ∧ PlanAt H v t
  | _, _, _, _, .nil, h => by simp at h
  | _, _, 0, _, .cons h1 _, h => by
    have e := Option.some.inj h
    subst e
    exact ⟨_, rfl, h1⟩
  | _, _, i + 1, v, .cons (vs := vs) _ h2, h => by
    have h' : vs[i]? = some v := by simpa using h
    obtain ⟨t, e, p⟩ := h2.get h'
    exact ⟨t, by simpa using e, p⟩
theorem plans_of {H : Hp} : ∀ {vs : List V} {ts : List T}, vs.length = ts.length → (∀ (i : Nat) v t, vs[i]? = some v → ts[i]? = some t → PlanAt H v t) → PlansAt H vs ts
  | [], [], _, _ => .nil
  | v :: vs, t :: ts, hl, h => .cons (h 0 v t rfl rfl) (plans_of (by simpa using hl) fun i v' t' e1 e2 => h (i + 1) v' t' (by simpa using e1) (by simpa using e2))
mutual
def T.ok : T → Prop
  | .leaf s => okLine s
  | .node k ts => okK k ∧ 2 ≤ ts.length ∧ okAll ts
def okAll : List T → Prop
  | [] => True
  | t :: ts => t.ok ∧ okAll ts
end
theorem okAll_get : ∀ {ts : List T} {i : Nat} {t : T}, okAll ts → ts[i]? = some t → t.ok
  | [], _, _, _, h => by simp at h
  | t :: ts, 0, u, ⟨h1, _⟩, h => by
    have e := Option.some.inj h
    subst e
    exact h1
  | t :: ts, i + 1, u, ⟨_, h2⟩, h => okAll_get h2 (by simpa using h)
theorem depth_get : ∀ {ts : List T} {i : Nat} {t : T}, ts[i]? = some t → t.depth ≤ depthAll ts
  | [], _, _, h => by simp at h
  | t :: ts, 0, u, h => by
    have e := Option.some.inj h
    subst e
    exact Nat.le_max_left _ _
  | t :: ts, i + 1, u, h => Nat.le_trans (depth_get (by simpa using h)) (Nat.le_max_right _ _)
theorem leavesAll_append : ∀ (a b : List T), leavesAll (a ++ b) = leavesAll a ++ leavesAll b
  | [], b => by simp [leavesAll]
  | t :: a, b => by rw [List.cons_append, leavesAll, leavesAll, leavesAll_append a b, List.append_assoc]
theorem leaves_take {ts : List T} {i : Nat} {t : T} (h : ts[i]? = some t) : leavesAll (ts.take (i + 1)) = leavesAll (ts.take i) ++ t.leaves := by
  rw [List.take_add_one, h, leavesAll_append]
  simp [leavesAll]
mutual
theorem leaves_pos : ∀ {t : T}, t.ok → 1 ≤ t.leaves.length
  | .leaf s, _ => by simp [T.leaves]
  | .node k ts, ⟨_, h2, h3⟩ => by
    have := leaves_len h3
    simp only [T.leaves]
    omega
theorem leaves_len : ∀ {ts : List T}, okAll ts → ts.length ≤ (leavesAll ts).length
  | [], _ => Nat.zero_le _
  | t :: ts, ⟨h1, h2⟩ => by
    have a := leaves_pos h1
    have b := leaves_len h2
    simp only [leavesAll, List.length_append, List.length_cons]
    omega
end
mutual
theorem depth_lt : ∀ {t : T}, t.ok → t.depth < t.leaves.length
  | .leaf s, _ => by simp [T.leaves, T.depth]
  | .node k ts, ⟨_, h2, h3⟩ => by
    have := depthAll_lt h3 h2
    simp only [T.leaves, T.depth]
    omega
theorem depthAll_lt : ∀ {ts : List T}, okAll ts → 2 ≤ ts.length → depthAll ts + 1 < (leavesAll ts).length
  | [], _, h => by simp at h
  | [t], _, h => by simp at h
  | t :: u :: ts, ⟨h1, h2⟩, _ => by
    have a := depth_lt h1
    have p := leaves_pos h1
    have q := leaves_len h2
    simp only [depthAll, leavesAll, List.length_append] at *
    by_cases h : 2 ≤ (u :: ts).length
    · have b := depthAll_lt h2 h
      simp only [depthAll, leavesAll, List.length_append] at b
      omega
    · have e : ts = [] := by
        cases ts with
        | nil => rfl
        | cons _ _ => simp at h
      subst e
      have b := depth_lt h2.1
      simp only [depthAll, leavesAll, List.length_append, List.length_nil] at *
      omega
end
/-- a def of which nothing is asked -/
theorem Ent.df0 {P : Program} {w : World} {K : PySem.W.Frag} {mg : Str → Option Value} {base : Heap} {k : Nat} {x : Str} {ps : List Str} {sp : Sp} {st : Stmt} (E : Ent K mg x st)
    (hb : ∀ (kV doc pm : Value) (an : Option Addr) (cdv ct : Value) (us : List Value), us.length = ps.length → bindArgs (PySem.W.fnOf x x (defArgs st) (defBody st) (defScope st) .none kV doc pm an cdv ct) ⟨us, []⟩ = pure (ps.zip us))
    (no : ∀ vs H Q E, ¬ sp vs H Q E) : Df P w K mg base k x ps sp := by
  obtain ⟨f, fd, F, m⟩ := E.ex
  exact ⟨f, fd, ⟨fun vs H Q E h => absurd h (no vs H Q E), fun A outer s H args us vs Q E _ _ _ _ h => absurd h (no vs H Q E)⟩, F.binds hb, m, F.kp⟩
section
variable {P : Program} {w : World} {K : PySem.W.Frag} {mg : Str → Option Value} {base : Heap}
abbrev sis_part : Stmt := topS 26
abbrev nis_part : List Str := ["value", "lines", "part"]
abbrev pis_part : List Str := ["value", "lines"]
theorem scis_part : FnScope nis_part pis_part (defScope sis_part) := ⟨rfl, rfl, rfl, by decide +kernel, rfl, by decide +kernel, by decide +kernel⟩
-- slots: 0 value 1 lines 2 part
def spPart (n : Nat) : Sp := fun vs H Q _ => ∃ (v : V) (l : Addr) (ls : List Str) (t : T), vs = [v, .ref l] ∧ H l = some (.lst (sv ls)) ∧ PlanAt H v t ∧ t.ok ∧ (ls ++ t.leaves).Nodup ∧ (ls ++ t.leaves).length ≤ 8 ∧ t.depth < n ∧
  ∀ H', But [l] H H' → H' l = some (.lst (sv (ls ++ t.leaves))) → Q (.bl true) H'
theorem d_is_part (B : Bn mg) (E : Ent K mg "is_part" sis_part) (Dis_line : Df P w K mg base 1 "is_line" pis_line spLine) (Dis_kind : Df P w K mg base 1 "is_kind" pis_kind spKind) :
    ∀ n : Nat, Df P w K mg base (n + 1) "is_part" pis_part (spPart n)
  | 0 => E.df0 (fun _ _ _ _ _ _ us hl => match us, hl with | [_, _], _ => rfl) fun vs H Q E ⟨_, _, _, _, _, _, _, _, _, _, h, _⟩ => absurd h (Nat.not_lt_zero _)
  | n + 1 => by
    have Dis_part := d_is_part B E Dis_line Dis_kind n
    refine E.df scis_part (fun _ _ _ _ _ _ us hl => match us, hl with | [_, _], _ => rfl) (fun vs H Q E h => ?_) (fun f cdv A outer s H vs Q E hr h => ?_)
    · obtain ⟨v, l, ls, t, rfl, _⟩ := h
      rfl
    obtain ⟨v, l, ls, t, rfl, hl, hp, hok, hnd, h8, hdp, q⟩ := h
    refine ⟨_, pss_cons (ps_if (pt_val (pe_df Dis_line (hr.mono (by omega)) rfl (pa_cons (pv 0) pa_nil))) (pss_cons (ps_expr (pe_bmK K PySem.F.plainAttrs_list PySem.F.slot_list_append PySem.F.type_list_append mt_append (pv 1) (pa_cons (pv 0) pa_nil)))
      (pss_one (ps_ret (pe_and (pe_cmpR op_eq (pe_bmK K PySem.F.plainAttrs_list PySem.F.slot_list_count PySem.F.type_list_count mt_lcountS (pv 1) (pa_cons (pv 0) pa_nil)) pe_int (nomark _)) (pe_one (pe_cmpR op_le (pe_callB (call_len_seqK K) (by rfl) B.len b_len (pa_cons (pv 1) pa_nil)) (pe_kI rfl B.mostL) (nomark _))))))) pss_nil)
      (pss_cons (ps_if (PW.pt (pw_or (pt_not (pt_val (pe_isTK K rfl B.isinstance rfl B.tuple b_tuple (pv 0)))) (pw_or (pt_cmpR op_ne (pe_callB (call_len_seqK K) (by rfl) B.len b_len (pa_cons (pv 0) pa_nil)) pe_int (nomark _)) (pw_or1 (pt_not (pt_val (pe_df Dis_kind (hr.mono (by omega)) rfl (pa_cons (pe_ix (ix_tupK K) (pv 0) pe_int (fun _ _ => rfl)) pa_nil)))))))) (pss_one (ps_ret pe_bl)) pss_nil)
      (pss_cons (ps_if (PW.pt (pw_or (pt_not (pt_val (pe_isTK K rfl B.isinstance rfl B.tuple b_tuple (pe_ix (ix_tupK K) (pv 0) pe_int (fun _ _ => rfl))))) (pw_or1 (pt_cmpR op_lt (pe_callB (call_len_seqK K) (by rfl) B.len b_len (pa_cons (pe_ix (ix_tupK K) (pv 0) pe_int (fun _ _ => rfl)) pa_nil)) pe_int (nomark _))))) (pss_one (ps_ret pe_bl)) pss_nil)
      (pss_cons (ps_for PassesOwn.never rfl (pi_tupK K (pe_ix (ix_tupK K) (pv 0) pe_int (fun _ _ => rfl))) (pg_name (i := 2) scis_part.nd rfl (Or.inl rfl)) (pss_one (ps_if (pt_not (pt_val (pe_df Dis_part hr rfl (pa_cons (pv 2) (pa_cons (pv 1) pa_nil))))) (pss_one (ps_ret pe_bl)) pss_nil)))
      (pss_one (ps_ret pe_bl))))), ?_⟩
    cases hp with
    | leaf z =>
      refine ⟨_, rfl, .inl ⟨z, rfl, hok, fun H1 s1 => ⟨true, rfl, iteT ?_⟩⟩⟩
      simp only [T.leaves, List.length_append, List.length_singleton] at hnd h8 q
      have hl1 : H1 l = some (.lst (sv ls)) := s1 _ _ hl
      refine ⟨_, rfl, .inl ⟨rfl, _, SqL.of hl1⟩, _, rfl, l, _, _, rfl, rfl, hl1, szl (by rw [List.length_map]; omega), ?_⟩
      have e1 : sv ls ++ [V.str z] = sv (ls ++ [z]) := by simp [sv]
      rw [e1]
      have hc : (ls ++ [z]).count z = 1 := by
        rw [List.count_append, List.count_singleton_self]
        have : ls.count z = 0 := List.count_eq_zero.mpr fun hm => (List.nodup_append.mp hnd).2.2 z hm z (by simp) rfl
        omega
      refine ⟨_, rfl, .inl ⟨rfl, _, SqL.of upd_same⟩, _, rfl, l, ls ++ [z], z, rfl, rfl, SqL.of upd_same, rfl, true, ?_, iteT ?_⟩
      · refine congrArg V.bl (decide_eq_true ?_)
        rw [hc]
        rfl
      refine ⟨_, rfl, l, _, rfl, .inl (SqL.of upd_same), _, _, rfl, rfl, ?_⟩
      have hd : V.bl (decide (((sv (ls ++ [z])).length : Int) ≤ 8)) = V.bl true := congrArg V.bl (decide_eq_true (by rw [List.length_map, List.length_append, List.length_singleton]; omega))
      show Q (V.bl (decide (((sv (ls ++ [z])).length : Int) ≤ 8))) _
      rw [hd]
      exact q _ ((but_same s1).trans (but_up (by simp))) upd_same
    | @node a b k vs ts h1 h2 h3 =>
      obtain ⟨hk, h2n, hoks⟩ := hok
      simp only [T.leaves] at hnd h8 q
      have hlen := h3.length
      have hle := leaves_len hoks
      rw [List.length_append] at h8
      refine ⟨_, rfl, .inr ⟨a, _, rfl, h1, false, rfl, iteF ?_⟩⟩
      refine ⟨_, rfl, isi h1.ty k_tup_tup ⟨true, rfl, iteF ?_⟩⟩
      refine ⟨_, rfl, a, _, rfl, .inr h1.sq, rfl, false, rfl, iteF ?_⟩
      refine ⟨_, rfl, a, _, _, _, rfl, rfl, h1.sq, atI_nat (j := 0) rfl, k, rfl, hk, fun H1 s1 => ⟨true, rfl, iteF ?_⟩⟩
      have h1a := h1.mono s1
      have h2a := h2.mono s1
      refine ⟨_, rfl, a, _, _, _, rfl, rfl, h1a.sq, atI_nat (j := 1) rfl, isi h2a.ty k_tup_tup ⟨true, rfl, iteF ?_⟩⟩
      refine ⟨_, rfl, a, _, _, _, rfl, rfl, h1a.sq, atI_nat (j := 1) rfl, b, _, rfl, .inr h2a.sq, _, _, rfl, rfl, false, congrArg V.bl (decide_eq_false (by omega)), iteF ?_⟩
      refine ⟨_, rfl, a, _, _, _, rfl, rfl, h1a.sq, atI_nat (j := 1) rfl, b, rfl, ⟨_, h2a.sq⟩, for_tup (K := K) (a := b) (xs := vs)
        (fun i σ H' => ∃ y : Option V, σ = [some (.ref a), some (.ref l), y] ∧ But [l] H H' ∧ H' l = some (.lst (sv (ls ++ leavesAll (ts.take i)))))
        ⟨none, rfl, but_same s1, by rw [List.take_zero]; simp only [leavesAll, List.append_nil]; exact s1 _ _ hl⟩ (fun i σ H' _ ⟨_, _, hb, _⟩ => (h2.fz (hb.fz hl)).sq) ?_ ?_⟩
      · rintro i x σ H' hx ⟨y, rfl, hb, hl'⟩
        obtain ⟨t, et, ht⟩ := h3.get hx
        have htl := leaves_take et
        have hi : i < ts.length := (List.getElem?_eq_some_iff.mp et).1
        have hsub : leavesAll ts = leavesAll (ts.take (i + 1)) ++ leavesAll (ts.drop (i + 1)) := by rw [← leavesAll_append, List.take_append_drop]
        rw [hsub, ← List.append_assoc] at hnd
        have hnd1 := (List.nodup_append.mp hnd).1
        rw [htl, ← List.append_assoc] at hnd1
        have h8' : (ls ++ leavesAll (ts.take i) ++ t.leaves).length ≤ 8 := by
          have : (leavesAll ts).length = (leavesAll (ts.take i)).length + t.leaves.length + (leavesAll (ts.drop (i + 1))).length := by rw [hsub, htl, List.length_append, List.length_append]
          rw [List.length_append, List.length_append]
          omega
        have hd' : t.depth < n := by
          have := depth_get et
          simp only [T.depth] at hdp
          omega
        refine ⟨_, rfl, _, rfl, x, l, ls ++ leavesAll (ts.take i), t, rfl, hl', ht.fz (hb.fz hl), okAll_get hoks et, hnd1, h8', hd', fun H2 hb2 hl2 => ⟨true, rfl, iteF ?_⟩⟩
        exact ⟨_, rfl, hb.trans hb2, by rw [htl, ← List.append_assoc]; exact hl2⟩
      · rintro σ H' ⟨y, rfl, hb, hl'⟩
        refine q H' hb ?_
        rw [hlen, List.take_length] at hl'
        exact hl'
end
end K46

namespace K46
open PySem PySem.Spec PyProof.Rows L2
section
variable {J : It} {n : Nat} {G : Hp → Prop} {Y : Nat → Hp → V → Hp → Prop} {g : TG} {tt : TT} {te : TE} {vs : List Nat} {σ : L2.St} {H1 : Hp} {D : Addr} {Qd : Hp → Prop}
/-- [.. for x in .. for y in ..]: the outer walk; Pv at each turn -/
theorem lc2_out (w : Walk J n G Y) {R : L2.St → Hp → (Hp → Prop) → Prop} (Pv : Nat → Hp → Prop) (h0 : Pv 0 (upd H1 D (.lst []))) (hG : ∀ i H, i ≤ n → Pv i H → G H)
    (hs : ∀ i x H H', i < n → Pv i H → Y i H x H' → g x (wipe σ vs) H' fun σ2 H2 => wipe σ2 vs = wipe σ vs ∧ tt σ2 H2 fun b H3 => if b = true then R σ2 H3 (Pv (i + 1)) else Pv (i + 1) H3) (hd : ∀ H, Pv n H → Qd H) :
    ∃ W : Nat → Nat → Hp → Prop, (∃ m, W 0 m (upd H1 D (.lst []))) ∧ ∀ i m H, W i m H →
      (J.stop i H ∧ Qd H) ∨ (J.go i H ∧ ∃ Nx : Hp → Prop, (∀ H', Nx H' → ∃ m', m' < m ∧ W (i + 1) m' H') ∧ ∀ x H', J.yld i H x H' → g x (wipe σ vs) H' fun σ2 H2 => wipe σ2 vs = wipe σ vs ∧ tt σ2 H2 fun b H3 =>
        if b = true then R σ2 H3 Nx else Nx H3) := by
  refine ⟨fun i m H => m = n - i ∧ i ≤ n ∧ Pv i H, ⟨n, by simp, Nat.zero_le _, h0⟩, ?_⟩
  rintro i m H ⟨rfl, hi, p⟩
  have q := hG i H hi p
  by_cases hlt : i < n
  · refine .inr ⟨w.goes i H hlt q, Pv (i + 1), fun H' p' => ⟨n - (i + 1), by omega, rfl, hlt, p'⟩, fun x H' y => hs i x H H' hlt p (w.yields i H x H' hlt q y)⟩
  · have e : i = n := by omega
    subst e
    exact .inl ⟨w.stops H q, hd H p⟩
/-- the inner walk -/
theorem lc2_in (w : Walk J n G Y) (Qv : Nat → Hp → Prop) (h0 : Qv 0 H1) (hG : ∀ i H, i ≤ n → Qv i H → G H)
    (hs : ∀ i x H H', i < n → Qv i H → Y i H x H' → g x (wipe σ vs) H' fun σ2 H2 => wipe σ2 vs = wipe σ vs ∧ tt σ2 H2 fun b H3 =>
      if b = true then te σ2 H3 fun y H4 => ∃ acc, H4 D = some (.lst acc) ∧ acc.length < sizeLine ∧ Qv (i + 1) (upd H4 D (.lst (acc ++ [y]))) else Qv (i + 1) H3) (hd : ∀ H, Qv n H → Qd H) :
    ∃ W : Nat → Nat → Hp → Prop, (∃ m, W 0 m H1) ∧ ∀ i m H, W i m H →
      (J.stop i H ∧ Qd H) ∨ (J.go i H ∧ ∃ Nx : Hp → Prop, (∀ H', Nx H' → ∃ m', m' < m ∧ W (i + 1) m' H') ∧ ∀ x H', J.yld i H x H' → g x (wipe σ vs) H' fun σ2 H2 => wipe σ2 vs = wipe σ vs ∧ tt σ2 H2 fun b H3 =>
        if b = true then te σ2 H3 fun y H4 => ∃ acc, H4 D = some (.lst acc) ∧ acc.length < sizeLine ∧ Nx (upd H4 D (.lst (acc ++ [y]))) else Nx H3) := by
  refine ⟨fun i m H => m = n - i ∧ i ≤ n ∧ Qv i H, ⟨n, by simp, Nat.zero_le _, h0⟩, ?_⟩
  rintro i m H ⟨rfl, hi, p⟩
  have q := hG i H hi p
  by_cases hlt : i < n
  · refine .inr ⟨w.goes i H hlt q, Qv (i + 1), fun H' p' => ⟨n - (i + 1), by omega, rfl, hlt, p'⟩, fun x H' y => hs i x H H' hlt p (w.yields i H x H' hlt q y)⟩
  · have e : i = n := by omega
    subst e
    exact .inl ⟨w.stops H q, hd H p⟩
end
/-- no test -/
theorem tyes {σ : L2.St} {H : Hp} {A B : Hp → Prop} (h : A H) : tYes σ H fun b H3 => if b = true then A H3 else B H3 := by
  show if true = true then A H else B H
  exact ite_t rfl h
section
variable {P : Program} {w : World} {K : PySem.W.Frag} {mg : Str → Option Value} {base : Heap}
/-! ### is_plan, check_plan -/
abbrev sis_plan : Stmt := topS 27
abbrev nis_plan : List Str := ["value"]
abbrev pis_plan : List Str := ["value"]
theorem scis_plan : FnScope nis_plan pis_plan (defScope sis_plan) := ⟨rfl, rfl, rfl, by decide +kernel, rfl, by decide +kernel, by decide +kernel⟩
-- slots: 0 value
/-- a plan of at most eight lines -/
def okPlan (t : T) : Prop := t.ok ∧ t.leaves.Nodup ∧ t.leaves.length ≤ 8
def spIsPlan : Sp := fun vs H Q _ => ∃ (v : V) (t : T), vs = [v] ∧ PlanAt H v t ∧ okPlan t ∧ ∀ H', Same H H' → Q (.bl true) H'
theorem d_is_plan (E : Ent K mg "is_plan" sis_plan) (Dis_part : Df P w K mg base 9 "is_part" pis_part (spPart 8)) : Df P w K mg base 10 "is_plan" pis_plan spIsPlan := by
  refine E.df scis_plan (fun _ _ _ _ _ _ us hl => match us, hl with | [_], _ => rfl) (fun vs H Q E h => ?_) (fun f cdv A outer s H vs Q E hr h => ?_)
  · obtain ⟨i, t, rfl, _⟩ := h
    rfl
  obtain ⟨v, t, rfl, hp, ⟨h1, h2, h3⟩, q⟩ := h
  refine ⟨_, pss_one (ps_ret (pe_df Dis_part (hr.mono (by decide)) rfl (pa_cons (pv 0) (pa_cons (pe_lstS pa_nil) pa_nil)))), ?_⟩
  refine ⟨_, rfl, Nat.zero_le _, fun l H1 hl s1 el => ?_⟩
  have hd := depth_lt h1
  refine ⟨v, l, [], t, rfl, el, hp.fz (fz_same s1), h1, by simpa using h2, by simpa using h3, by omega, fun H' hb _ => q H' ?_⟩
  exact fun b o e => hb b o (by simp [ne_of_none e hl]) (s1 b o e)
abbrev scheck_plan : Stmt := topS 28
abbrev ncheck_plan : List Str := ["plan"]
abbrev pcheck_plan : List Str := ["plan"]
theorem sccheck_plan : FnScope ncheck_plan pcheck_plan (defScope scheck_plan) := ⟨rfl, rfl, rfl, by decide +kernel, rfl, by decide +kernel, by decide +kernel⟩
-- slots: 0 plan
def spCheckPlan : Sp := fun vs H Q _ => ∃ (v : V) (t : T), vs = [v] ∧ PlanAt H v t ∧ okPlan t ∧ ∀ H', Same H H' → Q .non H'
theorem d_check_plan (E : Ent K mg "check_plan" scheck_plan) (Dis_plan : Df P w K mg base 10 "is_plan" pis_plan spIsPlan) : Df P w K mg base 11 "check_plan" pcheck_plan spCheckPlan := by
  refine E.df sccheck_plan (fun _ _ _ _ _ _ us hl => match us, hl with | [_], _ => rfl) (fun vs H Q E h => ?_) (fun f cdv A outer s H vs Q E hr h => ?_)
  · obtain ⟨i, t, rfl, _⟩ := h
    rfl
  obtain ⟨v, t, rfl, hp, ho, q⟩ := h
  refine ⟨_, pss_one (ps_if (pt_not (pt_val (pe_df Dis_plan (hr.mono (by decide)) rfl (pa_cons (pv 0) pa_nil)))) (pss_one (ps_never)) pss_nil), ?_⟩
  exact ⟨_, rfl, v, t, rfl, hp, ho, fun H' s' => ⟨true, rfl, iteF (q H' s')⟩⟩
/-! ### lines_in -/
abbrev slines_in : Stmt := topS 29
abbrev nlines_in : List Str := ["plan", "part", "line"]
abbrev plines_in : List Str := ["plan"]
theorem sclines_in : FnScope nlines_in plines_in (defScope slines_in) := ⟨rfl, rfl, rfl, by decide +kernel, rfl, by decide +kernel, by decide +kernel⟩
-- slots: 0 plan 1 part~ 2 line~
def spLines (n : Nat) : Sp := fun vs H Q _ => ∃ (v : V) (t : T), vs = [v] ∧ PlanAt H v t ∧ t.ok ∧ t.leaves.length ≤ 8 ∧ t.depth < n ∧ ∀ H' p ys, Same H H' → TupAt H' p (sv ys) → ys.Perm t.leaves → Q (.ref p) H'
theorem d_lines_in (B : Bn mg) (E : Ent K mg "lines_in" slines_in) : ∀ n : Nat, Df P w K mg base n "lines_in" plines_in (spLines n)
  | 0 => E.df0 (fun _ _ _ _ _ _ us hl => match us, hl with | [_], _ => rfl) fun vs H Q E ⟨_, _, _, _, _, _, h, _⟩ => absurd h (Nat.not_lt_zero _)
  | n + 1 => by
    have Dlines_in := d_lines_in B E n
    refine E.df sclines_in (fun _ _ _ _ _ _ us hl => match us, hl with | [_], _ => rfl) (fun vs H Q E h => ?_) (fun f cdv A outer s H vs Q E hr h => ?_)
    · obtain ⟨v, t, rfl, _⟩ := h
      rfl
    obtain ⟨v, t, rfl, hp, hok, h8, hdp, q⟩ := h
    refine ⟨_, pss_cons (ps_if (pt_val (pe_isTK K rfl B.isinstance rfl B.str b_str (pv 0))) (pss_one (ps_ret (pe_tupF (pa_cons (pv 0) pa_nil)))) pss_nil)
      (pss_one (ps_ret (pe_callTy (call_tupFK K) (by rfl) B.tuple b_tuple (pa_cons (pe_callB cr_sortedS (by rfl) B.sorted b_sorted (pa_cons (pe_lc2 (own := [("part", 1), ("line", 2)]) (vs1 := [2]) rfl sclines_in.nd (pi_tupK K (pe_ix (ix_tupK K) (pv 0) pe_int (fun _ _ => rfl))) (blkOk_by (N := nlines_in) (sc := defScope slines_in) (by decide +kernel)) (by decide) (fun _ _ _ _ _ => (pg_name (i := 1) sclines_in.nd rfl (Or.inl rfl))) (fun _ _ _ _ _ => pts_nil) (fun _ _ _ _ _ => (pi_tupK K (pe_df Dlines_in hr rfl (pa_cons (pv 1) pa_nil)))) (fun _ _ _ _ _ => (pg_name (i := 2) sclines_in.nd rfl (Or.inl rfl))) (fun _ _ _ _ _ => pts_nil) (fun _ _ _ _ _ => (pv 2))) pa_nil)) pa_nil)))), ?_⟩
    cases hp with
    | leaf z =>
      refine ⟨_, rfl, isi ty_str k_str_str ⟨true, rfl, iteT ?_⟩⟩
      exact ⟨_, rfl, by show 1 ≤ sizeLine; decide, fun p H2 _ s2 hT => q H2 p [z] s2 hT (by simp [T.leaves])⟩
    | @node a b k vs ts h1 h2 h3 =>
      obtain ⟨hk, h2n, hoks⟩ := hok
      simp only [T.leaves] at h8 q
      have hlen := h3.length
      have hle := leaves_len hoks
      refine ⟨_, rfl, isi h1.ty k_tup_str ⟨false, rfl, iteF ?_⟩⟩
      refine ⟨_, rfl, a, _, _, _, rfl, rfl, h1.sq, atI_nat (j := 1) rfl, b, rfl, ⟨_, h2.sq⟩, fun D hD => ?_⟩
      refine lc2_out (walk_tup (K := K) (xs := vs)) (fun i H' => Same H H' ∧ ∃ ys, H' D = some (.lst (sv ys)) ∧ ys.Perm (leavesAll (ts.take i))) ⟨same_up hD, [], upd_same, by simp [leavesAll]⟩ (fun i H' _ hH => (h2.mono hH.1).sq) ?_ ?_
      · rintro i x H2 H3 hi ⟨s2, ys, hy, hperm⟩ hyl
        obtain ⟨rfl, hx⟩ := hyl
        obtain ⟨t, et, ht⟩ := h3.get hx
        have htl := leaves_take et
        have hi' : i < ts.length := (List.getElem?_eq_some_iff.mp et).1
        have hsub : leavesAll ts = leavesAll (ts.take (i + 1)) ++ leavesAll (ts.drop (i + 1)) := by rw [← leavesAll_append, List.take_append_drop]
        have hcount : (leavesAll ts).length = (leavesAll (ts.take i)).length + t.leaves.length + (leavesAll (ts.drop (i + 1))).length := by rw [hsub, htl, List.length_append, List.length_append]
        have hd' : t.depth < n := by
          have := depth_get et
          simp only [T.depth] at hdp
          omega
        refine ⟨rfl, tyes ?_⟩
        refine ⟨_, rfl, x, t, rfl, ht.fz (fz_same s2), okAll_get hoks et, by omega, hd', fun H4 p zs s4 hT hz => ?_⟩
        have hDp : H4 D = some (.lst (sv ys)) := s4 _ _ hy
        refine ⟨p, rfl, ⟨_, hT.sq⟩, lc2_in (walk_tup (K := K) (xs := sv zs)) (fun j H' => Same H H' ∧ TupAt H' p (sv zs) ∧ H' D = some (.lst (sv (ys ++ zs.take j)))) ⟨s2.trans s4, hT, by rw [List.take_zero, List.append_nil]; exact hDp⟩ (fun j H' _ hH => hH.2.1.sq) ?_ ?_⟩
        · rintro j y H5 H6 hj ⟨s5, hT5, hD5⟩ ⟨rfl, hy5⟩
          obtain ⟨z, ez, rfl⟩ := map_get hy5
          refine ⟨rfl, tyes ⟨_, rfl, _, hD5, szl ?_, same_mut s5 hD, hT5.fz (fz_lst hD5), ?_⟩⟩
          · have e1 := hperm.length_eq
            have e2 := hz.length_eq
            rw [List.length_map, List.length_append, List.length_take]
            omega
          · rw [upd_same, List.take_add_one, ez]
            simp [sv]
        · rintro H5 ⟨s5, _, hD5⟩
          refine ⟨s5, ys ++ zs, ?_, ?_⟩
          · rw [List.length_map, List.take_length] at hD5
            exact hD5
          · rw [htl]
            exact hperm.append hz
      · rintro H' ⟨s', ys, hy, hperm⟩
        rw [hlen, List.take_length] at hperm
        have hl8 : ys.length ≤ 8 := by rw [hperm.length_eq]; exact h8
        refine ⟨D, ys, rfl, SqL.of hy, by omega, fun zs p hz hsrt hpn => ?_⟩
        refine ⟨p, _, rfl, SqL.of upd_same, fun l H2 hl s2 hT => q H2 l zs ?_ hT (hz.trans hperm)⟩
        exact (s'.trans (same_up hpn)).trans s2
end
end K46

namespace K46
open PySem PySem.Spec PyProof.Rows L2
/-- the rows at vs, the lines' names beside them told by nobody -/
def RowsAt (H : Hp) (vs : List V) (lr : List (List Ps)) : Prop := vs.length = lr.length ∧ ∀ (i : Nat) r, lr[i]? = some r → ∃ b, vs[i]? = some (.ref b) ∧ TupAt H b (iv (r.map (·.1)))
theorem RowsAt.fz {H H' : Hp} {vs : List V} {lr : List (List Ps)} (s : Fz H H') (h : RowsAt H vs lr) : RowsAt H' vs lr := ⟨h.1, fun i r e => let ⟨b, e1, e2⟩ := h.2 i r e; ⟨b, e1, e2.fz s⟩⟩
theorem hu8 {k : Nat} {A : Around} (hr : Room k A) : A.units + 8 < cLine := by
  have := hr.un
  omega
abbrev gv (g : List Nat) : List V := g.map fun n : Nat => V.int (n : Int)
theorem acc_eq {acc l : List V} (hl : acc.length = l.length) (h : ∀ (i : Nat) y, acc[i]? = some y → l[i]? = some y) : acc = l := by
  refine List.ext_getElem? fun i => ?_
  by_cases hi : i < acc.length
  · rw [List.getElem?_eq_getElem hi, h i _ (List.getElem?_eq_getElem hi)]
  · rw [List.getElem?_eq_none_iff.mpr (by omega), List.getElem?_eq_none_iff.mpr (by omega)]
theorem sum_lens {α : Type} : ∀ lr : List (List α), (lr.map fun r => (r.length : Int)).sum = (lr.flatten.length : Int)
  | [] => rfl
  | r :: lr => by
    rw [List.map_cons, List.sum_cons, sum_lens lr, List.flatten_cons, List.length_append]
    omega
theorem get_gv {g : List Nat} {i n : Nat} (h : g[i]? = some n) : (gv g)[i]? = some (.int (n : Int)) := by
  rw [List.getElem?_map, h] <;> rfl
theorem ixN_nat {n j : Nat} (h : j < n) : ixN n (j : Int) = some j := by
  unfold ixN
  rw [if_pos (by omega), if_pos (by omega), Int.toNat_natCast]
/-- what the loop at a junction keeps -/
structure MtInv (H : Hp) (kind : Str) (lr : List (List Ps)) (D1 D2 D3 : Addr) (H' : Hp) (g : List Nat) (res : List (Ps × Nat)) : Prop where
  len : g.length = lr.length
  same : Same H H'
  e1 : H' D1 = some (.lst (gv g))
  e2 : H' D2 = some (.lst (iv (res.map (·.1.1))))
  e3 : H' D3 = some (.lst (iv (res.map fun x => (x.2 : Int))))
  mt : ∀ out, Mt (isLow kind) (rem lr g) out → Mt (isLow kind) lr (res ++ out)
  dif : Dif (rem lr g)
  cnt : res.length + (rem lr g).flatten.length = lr.flatten.length
abbrev PairE (acc : List V) (ps : List (Int × Int)) (H : Hp) : Prop := Paired (fun x (p : Int × Int) => ∃ t, x = V.ref t ∧ TupAt H t [.int p.1, .int p.2]) acc ps
theorem PairE.fz {acc : List V} {ps : List (Int × Int)} {H H' : Hp} (s : Fz H H') (h : PairE acc ps H) : PairE acc ps H' := Paired.mapP h fun _ _ ⟨t, e, q⟩ => ⟨t, e, q.fz s⟩
theorem paired_get {α β : Type} {F : α → β → Prop} : ∀ {xs : List α} {ys : List β} {i : Nat} {x : α} {y : β}, Paired F xs ys → xs[i]? = some x → ys[i]? = some y → F x y
  | _, _, _, _, _, .nil, h, _ => by simp at h
  | _, _, 0, _, _, .cons h1 _, h, h' => by
    have e := Option.some.inj h
    have e' := Option.some.inj h'
    subst e
    subst e'
    exact h1
  | _ :: xs, _ :: ys, i + 1, x, y, .cons _ h2, h, h' => paired_get (i := i) h2 (by simpa using h) (by simpa using h')
section
variable {P : Program} {w : World} {K : PySem.W.Frag} {mg : Str → Option Value} {base : Heap}
abbrev smeeting_of : Stmt := topS 21
abbrev nmeeting_of : List Str := ["rows", "kind", "gone", "result", "turns", "index", "fronts", "height", "row"]
abbrev pmeeting_of : List Str := ["rows", "kind"]
theorem scmeeting_of : FnScope nmeeting_of pmeeting_of (defScope smeeting_of) := ⟨rfl, rfl, rfl, by decide +kernel, rfl, by decide +kernel, by decide +kernel⟩
-- slots: 0 rows 1 kind 2 gone* 3 result 4 turns 5 index 6 fronts 7 height 8 row~
def spMeet : Sp := fun vs H Q _ => ∃ (a : Addr) (xs : List V) (kind : Str) (lr : List (List Ps)), vs = [.ref a, .str kind] ∧ TupAt H a xs ∧ RowsAt H xs lr ∧ Dif lr ∧ lr.length ≤ 8 ∧ lr.flatten.length ≤ 100 ∧
  ∀ H' p q1 q2 out, Same H H' → Mt (isLow kind) lr out → TupAt H' p [.ref q1, .ref q2] → TupAt H' q1 (iv (out.map (·.1.1))) → TupAt H' q2 (iv (out.map fun x => (x.2 : Int))) → Q (.ref p) H'
theorem d_meeting_of (B : Bn mg) (E : Ent K mg "meeting_of" smeeting_of) : Df P w K mg base 1 "meeting_of" pmeeting_of spMeet := by
  refine E.df scmeeting_of (fun _ _ _ _ _ _ us hl => match us, hl with | [_, _], _ => rfl) (fun vs H Q E h => ?_) (fun f cdv A outer s H vs Q E hr h => ?_)
  · obtain ⟨a, xs, k, lr, rfl, _⟩ := h
    rfl
  obtain ⟨a, xs, kind, lr, rfl, hT, hR, hD, h8, h100, q⟩ := h
  refine ⟨_, pss_cons (ps_asg (pe_tupF (pa_cons (pe_lc (own := [("row", 8)]) rfl scmeeting_of.nd (pi_tupK K (pv 0)) (blkOk_by (N := nmeeting_of) (sc := defScope smeeting_of) (by decide +kernel)) (fun _ _ _ _ _ => (pg_name (i := 8) scmeeting_of.nd rfl (Or.inl rfl))) (fun _ _ _ _ _ => pts_nil) (fun _ _ _ _ _ => pe_int)) (pa_cons (pe_lstS pa_nil) (pa_cons (pe_lstS pa_nil) pa_nil)))) (pg_tupK K (n := 3) rfl (pgs_cons (pg_name (i := 2) scmeeting_of.nd rfl (Or.inr rfl)) (pgs_cons (pg_name (i := 3) scmeeting_of.nd rfl (Or.inl rfl)) (pgs_cons (pg_name (i := 4) scmeeting_of.nd rfl (Or.inl rfl)) pgs_nil)))))
      (pss_cons (ps_while PassesOwn.never (pt_cmpR op_lt (pe_callB (call_len_seqK K) (by rfl) B.len b_len (pa_cons (pv 3) pa_nil)) (pe_callB (cr_sum rfl) (by rfl) B.sum b_sum (pa_cons (pe_lc (own := [("row", 8)]) rfl scmeeting_of.nd (pi_tupK K (pv 0)) (blkOk_by (N := nmeeting_of) (sc := defScope smeeting_of) (by decide +kernel)) (fun _ _ _ _ _ => (pg_name (i := 8) scmeeting_of.nd rfl (Or.inl rfl))) (fun _ _ _ _ _ => pts_nil) (fun _ _ _ _ _ => (pe_callB (call_len_seqK K) (by rfl) B.len b_len (pa_cons (pv 8) pa_nil)))) pa_nil)) (nomark _)) (pss_cons (ps_setLc (i := 6) (own := [("index", 5), ("row", 8)]) rfl scmeeting_of.nd rfl rfl (sw_true rfl rfl rfl (by decide +kernel)) (pi_enumT rfl B.enumerate (pa_cons (pv 0) pa_nil)) (blkOk_by (N := nmeeting_of) (sc := defScope smeeting_of) (by decide +kernel)) (fun _ _ _ _ _ => (pg_tupK K (n := 2) rfl (pgs_cons (pg_name (i := 5) scmeeting_of.nd rfl (Or.inl rfl)) (pgs_cons (pg_name (i := 8) scmeeting_of.nd rfl (Or.inl rfl)) pgs_nil)))) (fun _ _ _ _ _ => (pts_one (pt_cmpR op_lt (pe_ix (ix_listK K) (pv 2) (pv 5) (fun _ _ => rfl)) (pe_callB (call_len_seqK K) (by rfl) B.len b_len (pa_cons (pv 8) pa_nil)) (nomark _)))) (fun _ _ _ _ _ => (pe_tupF (pa_cons (pe_ix (ix_tupK K) (pv 8) (pe_ix (ix_listK K) (pv 2) (pv 5) (fun _ _ => rfl)) (fun _ _ => rfl)) (pa_cons (pv 5) pa_nil)))))
      (pss_cons (ps_asg (pe_ifExp (pt_cmpR op_eq (pv 1) (pe_kS rfl B.low) (nomark _)) (pe_callB (cr_minP rfl (hu8 hr)) (by rfl) B.min b_min (pa_cons (pv 6) pa_nil)) (pe_callB (cr_maxP rfl (hu8 hr)) (by rfl) B.max b_max (pa_cons (pv 6) pa_nil))) (pg_tupK K (n := 2) rfl (pgs_cons (pg_name (i := 7) scmeeting_of.nd rfl (Or.inl rfl)) (pgs_cons (pg_name (i := 5) scmeeting_of.nd rfl (Or.inl rfl)) pgs_nil))))
      (pss_cons (ps_asg (pe_op op_add (pe_ix (ix_listK K) (pv 2) (pv 5) (fun _ _ => rfl)) pe_int) (pg_sub (pv 2) (pv 5) set_list))
      (pss_cons (ps_expr (pe_bmK K PySem.F.plainAttrs_list PySem.F.slot_list_append PySem.F.type_list_append mt_append (pv 3) (pa_cons (pv 7) pa_nil)))
      (pss_one (ps_expr (pe_bmK K PySem.F.plainAttrs_list PySem.F.slot_list_append PySem.F.type_list_append mt_append (pv 4) (pa_cons (pv 5) pa_nil)))))))))
      (pss_one (ps_ret (pe_tupF (pa_cons (pe_callTy (call_tupFK K) (by rfl) B.tuple b_tuple (pa_cons (pv 3) pa_nil)) (pa_cons (pe_callTy (call_tupFK K) (by rfl) B.tuple b_tuple (pa_cons (pv 4) pa_nil)) pa_nil)))))), ?_⟩
  -- gone, result, turns
  refine ⟨_, rfl, a, rfl, ⟨_, hT.sq⟩, fun D1 hD1 => ?_⟩
  refine lc_gen (walk_tup (K := K) (xs := xs)) [] hD1 (AllE fun _ y _ => y = .int 0) ⟨rfl, fun j y e => by simp at e⟩ (fun i acc H' _ b _ => (hT.mono b.same).sq) ?_ ?_
  · rintro i acc x H1 H2 hi c ⟨rfl, hx⟩
    refine ⟨rfl, lc_yes ?_⟩
    exact c.one0 hD1 (fun _ _ _ _ _ h => h) (szl (by have := hR.1; omega)) (Same.refl _) rfl
  intro acc H1 c1
  have hacc : acc = gv (List.replicate lr.length 0) := acc_eq (by rw [c1.rel.1, List.length_map, List.length_replicate]; exact hR.1) fun i y e => by
    have hi : i < lr.length := by
      have := (List.getElem?_eq_some_iff.mp e).1
      rw [c1.rel.1, hR.1] at this
      exact this
    rw [get_gv (n := 0) (by rw [List.getElem?_replicate, if_pos hi]), c1.rel.2 i y e]
    rfl
  refine ⟨Nat.zero_le _, fun D2 H2 hD2 s2 e2 => ⟨Nat.zero_le _, fun D3 H3 hD3 s3 e3 => ⟨by show 3 ≤ sizeLine; decide, fun p4 H4 h4 s4 hT4 => ?_⟩⟩⟩
  refine ⟨p4, _, rfl, hT4.sq, rfl, _, _, rfl, _, _, rfl, _, _, rfl, rfl, ?_⟩
  have d12 : D1 ≠ D2 := ne_of_none c1.at_ hD2
  have d13 : D1 ≠ D3 := ne_of_none (s2 _ _ c1.at_) hD3
  have d23 : D2 ≠ D3 := ne_of_none e2 hD3
  have s01 : Same H H1 := c1.but.same
  have n2 : H D2 = none := s01.free hD2
  have n3 : H D3 = none := (s01.trans s2).free hD3
  have start : MtInv H kind lr D1 D2 D3 H4 (List.replicate lr.length 0) [] := by
    refine ⟨by simp, ((s01.trans s2).trans s3).trans s4, ?_, ?_, ?_, ?_, ?_, ?_⟩
    · rw [← hacc]
      exact s4 _ _ (s3 _ _ (s2 _ _ c1.at_))
    · exact s4 _ _ (s3 _ _ e2)
    · exact s4 _ _ e3
    · rw [rem_zero]
      exact fun out h => h
    · rw [rem_zero]
      exact hD
    · rw [rem_zero]
      simp
  refine ⟨fun m σ H' => ∃ g res y5 y6 y7 y8, σ = [some (.ref a), some (.str kind), some (.ref D1), some (.ref D2), some (.ref D3), y5, y6, y7, y8] ∧ MtInv H kind lr D1 D2 D3 H' g res ∧ m = (rem lr g).flatten.length,
    ⟨_, _, [], none, none, none, none, rfl, start, rfl⟩, ?_⟩
  rintro m σ H5 ⟨g, res, y5, y6, y7, y8, rfl, inv, rfl⟩
  have hT5 := hT.mono inv.same
  -- the test
  refine ⟨_, rfl, D2, _, rfl, .inl (SqL.of inv.e2), _, rfl, a, rfl, ⟨_, hT5.sq⟩, fun L hL => ?_⟩
  refine lc_gen (walk_tup (K := K) (xs := xs)) [] hL (AllE fun i y _ => ∃ r, lr[i]? = some r ∧ y = .int r.length) ⟨rfl, fun j y e => by simp at e⟩ (fun i acc H' _ b _ => (hT5.mono b.same).sq) ?_ ?_
  · rintro i acc x H6 H7 hi c ⟨rfl, hx⟩
    have hi' : i < lr.length := by rw [← hR.1]; exact hi
    obtain ⟨b, eb, hTb⟩ := hR.2 i lr[i] (List.getElem?_eq_getElem hi')
    rw [hx] at eb
    cases eb
    refine ⟨rfl, lc_yes ?_⟩
    refine ⟨_, rfl, b, _, rfl, .inr (hTb.mono (inv.same.trans c.but.same)).sq, ?_⟩
    refine c.one0 hL (fun _ _ _ _ _ h => h) (szl (by omega)) (Same.refl _) ⟨_, List.getElem?_eq_getElem hi', ?_⟩
    rw [List.length_map, List.length_map]
  intro acc6 H6 c6
  have hacc6 : acc6 = iv (lr.map fun r => (r.length : Int)) := acc_eq (by rw [c6.rel.1, List.length_map, List.length_map]; exact hR.1) fun i y e => by
    obtain ⟨r, er, ey⟩ := c6.rel.2 i y e
    rw [List.getElem?_map, List.getElem?_map, er, ey]
    rfl
  have s56 : Same H5 H6 := c6.but.same
  refine ⟨L, lr.map (fun r => (r.length : Int)), rfl, SqL.of (by rw [c6.at_, hacc6]), _, _, rfl, rfl, _, rfl, ?_⟩
  rw [List.length_map, List.length_map, sum_lens]
  have inv6 : MtInv H kind lr D1 D2 D3 H6 g res := ⟨inv.len, inv.same.trans s56, s56 _ _ inv.e1, s56 _ _ inv.e2, s56 _ _ inv.e3, inv.mt, inv.dif, inv.cnt⟩
  have hcnt := inv.cnt
  clear inv
  refine ite2 (fun hlt => ?_) (fun hge => ?_)
  · refine ⟨fun σ' H' => ∃ m', m' < (rem lr g).flatten.length ∧ ∃ g res y5 y6 y7 y8, σ' = [some (.ref a), some (.str kind), some (.ref D1), some (.ref D2), some (.ref D3), y5, y6, y7, y8] ∧ MtInv H kind lr D1 D2 D3 H' g res ∧ m' = (rem lr g).flatten.length, fun _ _ n => n, ?_⟩
    have hlt := of_decide_eq_true hlt
    have hT6 := hT.mono inv6.same
    have hpos : 0 < (rem lr g).flatten.length := by omega
    obtain ⟨i1, x1, t1, hi1, ei1⟩ := flatten_pos hpos
    -- fronts
    refine ⟨_, rfl, a, xs, rfl, hT6, fun L2 hL2 => ?_⟩
    refine lc_gen walk_enumT [] hL2 (fun i acc H' => PairE acc (fronts (rem lr g) i) H') .nil (fun i acc H' _ b _ => hT6.mono b.same) ?_ ?_
    · rintro i acc x H7 H8 hi c hy
      have hi' : i < lr.length := by rw [← hR.1]; exact hi
      obtain ⟨b, eb, hTb⟩ := hR.2 i lr[i] (List.getElem?_eq_getElem hi')
      have hig : i < g.length := by rw [inv6.len]; exact hi'
      have eg : g[i]? = some g[i] := List.getElem?_eq_getElem hig
      have er := rem_get (List.getElem?_eq_getElem hi') eg
      refine g_new hy rfl eb fun s78 => ⟨rfl, ?_⟩
      have s68 : Same H6 H8 := c.but.same.trans s78
      have hTb8 := hTb.mono (inv6.same.trans s68)
      have e18 := s68 _ _ inv6.e1
      refine ⟨_, rfl, _, rfl, D1, _, _, _, rfl, rfl, SqL.of e18, atI_nat (get_gv eg), _, rfl, b, _, rfl, .inr hTb8.sq, _, _, rfl, rfl, _, rfl, ?_⟩
      rw [List.length_map, List.length_map]
      refine ite2 (fun hn => ?_) (fun hn => ?_)
      · have hn : g[i] < lr[i].length := by
          have := of_decide_eq_true hn
          omega
        have ex : lr[i].drop g[i] = lr[i][g[i]] :: lr[i].drop (g[i] + 1) := List.drop_eq_getElem_cons hn
        have ep : (iv (lr[i].map (·.1)))[g[i]]? = some (.int lr[i][g[i]].1) := by
          rw [List.getElem?_map, List.getElem?_map, List.getElem?_eq_getElem hn]
          rfl
        refine ⟨_, rfl, _, rfl, _, rfl, D1, _, _, _, rfl, rfl, SqL.of e18, atI_nat (get_gv eg), b, _, _, _, rfl, rfl, hTb8.sq, atI_nat ep, _, rfl, by show 2 ≤ sizeLine; decide, fun p Hp hp sp hTp => ?_⟩
        refine c.keep hL2 (by simp) (fun i acc H' xs ys e h => h.fz (fz_lst e)) (szl (by omega)) (but_same (s78.trans sp)) ?_
        rw [ex] at er
        show PairE (acc ++ [V.ref p]) (fronts (rem lr g) (i + 1)) Hp
        rw [fronts_yes er]
        exact (c.rel.fz (fz_same (s78.trans sp))).snoc ⟨p, rfl, hTp⟩
      · refine c.skip (by simp) (but_same s78) ?_
        have hn : ¬ g[i] < lr[i].length := fun z => hn (decide_eq_true (by omega))
        rw [List.drop_of_length_le (by omega)] at er
        show PairE acc (fronts (rem lr g) (i + 1)) H8
        rw [fronts_no er]
        exact c.rel.fz (fz_same s78)
    intro acc7 H7 c7
    have s67 : Same H6 H7 := c7.but.same
    have hrel : PairE acc7 (fronts (rem lr g) lr.length) H7 := by rw [← hR.1]; exact c7.rel
    have hne : fronts (rem lr g) lr.length ≠ [] := by
      intro z
      have : (x1.1, (i1 : Int)) ∈ fronts (rem lr g) lr.length := fronts_mem.mpr ⟨i1, x1, t1, by rw [rem_len inv6.len] at hi1; exact hi1, ei1, rfl⟩
      rw [z] at this
      simp at this
    have hsq : Paired (fun x (p : Int × Int) => ∃ t, x = V.ref t ∧ SqT K H7 t [.int p.1, .int p.2]) acc7 (fronts (rem lr g) lr.length) := Paired.mapP hrel fun _ _ ⟨t, e, q⟩ => ⟨t, e, q.sq⟩
    -- height, index
    dsimp only [gName, tSeq, tAsg]
    refine (fun Qc hq => ?_ : ∀ Qc : VK, (∀ (t : Addr) (i : Nat) (x : Ps) (r : List Ps), (rem lr g)[i]? = some (x :: r) → (∀ (j : Nat) (y : Ps) (u : List Ps), j ≠ i → (rem lr g)[j]? = some (y :: u) → Bf (isLow kind) x.1 y.1) → TupAt H7 t [.int x.1, .int (i : Int)] → Qc (.ref t) H7) → tIf _ _ _ _ _ Qc) _ ?_
    · refine ⟨_, rfl, rfl, _, rfl, ?_⟩
      refine ite2 (fun hk => ?_) (fun hk => ?_)
      · have hk : kind = kLow := by
          have := of_decide_eq_true hk
          injection this
        refine ⟨_, rfl, L2, acc7, _, rfl, SqL.of c7.at_, hsq, hne, fun j v p hv hp hb => ?_⟩
        obtain ⟨t, rfl, hTt⟩ := paired_get hrel hv hp
        obtain ⟨i, x, r, hi, e, rfl⟩ := fronts_mem.mp (List.mem_of_getElem? hp)
        refine hq t i x r e (best_front inv6.dif e fun j y u ej => ?_) hTt
        rw [if_pos (show isLow kind = true from decide_eq_true hk)]
        intro z
        have hj : j < lr.length := by
          have := (List.getElem?_eq_some_iff.mp ej).1
          rw [rem_len inv6.len] at this
          exact this
        exact hb _ (fronts_mem.mpr ⟨j, y, u, hj, ej, rfl⟩) (.inl z)
      · have hk : ¬ kind = kLow := fun z => hk (decide_eq_true (by rw [z]))
        refine ⟨_, rfl, L2, acc7, _, rfl, SqL.of c7.at_, hsq, hne, fun j v p hv hp hb => ?_⟩
        obtain ⟨t, rfl, hTt⟩ := paired_get hrel hv hp
        obtain ⟨i, x, r, hi, e, rfl⟩ := fronts_mem.mp (List.mem_of_getElem? hp)
        refine hq t i x r e (best_front inv6.dif e fun j y u ej => ?_) hTt
        rw [if_neg (show ¬ isLow kind = true from fun z => hk (of_decide_eq_true z))]
        intro z
        have hj : j < lr.length := by
          have := (List.getElem?_eq_some_iff.mp ej).1
          rw [rem_len inv6.len] at this
          exact this
        exact hb _ (fronts_mem.mpr ⟨j, y, u, hj, ej, rfl⟩) (.inl z)
    intro t i x r ei hbest hTt
    obtain ⟨rr, n, hr1, hg1, hdrop⟩ := rem_inv inv6.len ei
    have hig : i < g.length := (List.getElem?_eq_some_iff.mp hg1).1
    refine g_pair hTt.sq ?_
    -- gone[index] = gone[index] + 1
    have e17 := s67 _ _ inv6.e1
    have e27 := s67 _ _ inv6.e2
    have e37 := s67 _ _ inv6.e3
    refine ⟨_, rfl, _, rfl, D1, _, _, _, rfl, rfl, SqL.of e17, atI_nat (get_gv hg1), _, _, rfl, rfl, _, rfl, _, rfl, D1, _, _, i, rfl, rfl, e17, ixN_nat (by rw [List.length_map]; exact hig), ?_⟩
    have eset : (gv g).set i (.int ((n : Int) + 1)) = gv (g.set i (n + 1)) := by
      show (List.map (fun n : Nat => V.int (n : Int)) g).set i _ = List.map (fun n : Nat => V.int (n : Int)) (g.set i (n + 1))
      rw [List.map_set]
      rfl
    rw [eset]
    -- result.append(height)
    have hl1 : res.length ≤ 100 := by omega
    have f2 : (upd H7 D1 (.lst (gv (g.set i (n + 1))))) D2 = some (.lst (iv (res.map (·.1.1)))) := by rw [upd_ne d12.symm]; exact e27
    refine ⟨_, rfl, .inl ⟨rfl, _, SqL.of f2⟩, _, rfl, D2, _, _, rfl, rfl, f2, szl (by rw [List.length_map, List.length_map]; omega), ?_⟩
    have f3 : (upd (upd H7 D1 (.lst (gv (g.set i (n + 1))))) D2 (.lst (iv (res.map (·.1.1)) ++ [V.int x.1]))) D3 = some (.lst (iv (res.map fun x => (x.2 : Int)))) := by rw [upd_ne d23.symm, upd_ne d13.symm]; exact e37
    refine ⟨_, rfl, .inl ⟨rfl, _, SqL.of f3⟩, _, rfl, D3, _, _, rfl, rfl, f3, szl (by rw [List.length_map, List.length_map]; omega), ?_⟩
    have hst := rem_step inv6.len hr1 hg1 hdrop.symm
    have hfl := flatten_step ei
    refine ⟨_, ?_, g.set i (n + 1), res ++ [(x, i)], _, _, _, _, rfl, ⟨by rw [List.length_set]; exact inv6.len, ?_, ?_, ?_, ?_, ?_, ?_, ?_⟩, rfl⟩
    · rw [hst]
      omega
    · exact same_mut (same_mut (same_mut (inv6.same.trans s67) hD1) n2) n3
    · rw [upd_ne d13, upd_ne d12, upd_same]
    · rw [upd_ne d23, upd_same]
      simp [iv]
    · rw [upd_same]
      simp [iv]
    · intro out hm
      rw [hst] at hm
      rw [List.append_assoc]
      exact inv6.mt _ (.step ei hbest hm)
    · rw [hst]
      exact inv6.dif.step ei
    · rw [hst, List.length_append, List.length_singleton]
      omega
  · have hge := of_decide_eq_false (Bool.eq_false_iff.mpr hge)
    have hm := inv6.mt [] (.done (flatten_zero (by omega)))
    rw [List.append_nil] at hm
    refine ⟨_, rfl, D2, _, rfl, SqL.of inv6.e2, fun q1 H7 hq1 s7 hT7 => ?_⟩
    refine ⟨_, rfl, D3, _, rfl, SqL.of (s7 _ _ inv6.e3), fun q2 H8 hq2 s8 hT8 => ?_⟩
    refine ⟨by show 2 ≤ sizeLine; decide, fun p H9 hp s9 hT9 => ?_⟩
    exact q H9 p q1 q2 res (((inv6.same.trans s7).trans s8).trans s9) hm hT9 (hT7.mono (s8.trans s9)) (hT8.mono s9)
end
end K46

namespace K46
open PySem PySem.Spec PyProof.Rows L2
/-- the pairs of a dict tell the rows by line -/
def DMap (H : Hp) (kvs : List (Key × V)) (f : Str → List Int) : Prop := ∀ s : Str, (∀ v, valV kvs (.inr s) = some v → ∃ b, v = .ref b ∧ TupAt H b (iv (f s))) ∧ (valV kvs (.inr s) = none → f s = [])
theorem DMap.fz {H H' : Hp} {kvs : List (Key × V)} {f : Str → List Int} (s : Fz H H') (h : DMap H kvs f) : DMap H' kvs f := fun z => ⟨fun v e => let ⟨b, e1, e2⟩ := (h z).1 v e; ⟨b, e1, e2.fz s⟩, (h z).2⟩
def RowsD (H : Hp) (d : Addr) (f : Str → List Int) : Prop := ∃ kvs, H d = some (.dK kvs) ∧ DMap H kvs f
theorem RowsD.mono {H H' : Hp} {d : Addr} {f : Str → List Int} (s : Same H H') (h : RowsD H d f) : RowsD H' d f := by
  obtain ⟨kvs, e, m⟩ := h
  exact ⟨kvs, s _ _ e, m.fz (fz_same s)⟩
/-- what outcome_of gives: the heights and the lines of o -/
def FoundAt (H : Hp) (y : V) (o : List Ps) : Prop := ∃ p q1 q2, y = .ref p ∧ TupAt H p [.ref q1, .ref q2] ∧ TupAt H q1 (iv (o.map (·.1))) ∧ TupAt H q2 (sv (o.map (·.2)))
theorem FoundAt.fz {H H' : Hp} {y : V} {o : List Ps} (s : Fz H H') (h : FoundAt H y o) : FoundAt H' y o := by
  obtain ⟨p, q1, q2, e, h1, h2, h3⟩ := h
  exact ⟨p, q1, q2, e, h1.fz s, h2.fz s, h3.fz s⟩
theorem outsAll_of {f : Str → List Int} : ∀ {ts : List T} {os : List (List Ps)}, ts.length = os.length → (∀ (i : Nat) t o, ts[i]? = some t → os[i]? = some o → Out f t o) → OutAll f ts os
  | [], [], _, _ => .nil
  | t :: ts, o :: os, hl, h => .cons (h 0 t o rfl rfl) (outsAll_of (by simpa using hl) fun i t' o' e1 e2 => h (i + 1) t' o' (by simpa using e1) (by simpa using e2))
theorem leaves_split {ts : List T} {i : Nat} {t : T} (h : ts[i]? = some t) : leavesAll ts = leavesAll (ts.take i) ++ t.leaves ++ leavesAll (ts.drop (i + 1)) := by
  rw [← leaves_take h, ← leavesAll_append, List.take_append_drop]
theorem folk_sub {f : Str → List Int} {ts : List T} {i : Nat} {t : T} (h : ts[i]? = some t) : (folkOf f t.leaves).Sublist (folkOf f (leavesAll ts)) := by
  rw [leaves_split h, folkOf_append, folkOf_append]
  exact (List.sublist_append_right _ _).trans (List.sublist_append_left _ _)
section
variable {P : Program} {w : World} {K : PySem.W.Frag} {mg : Str → Option Value} {base : Heap}
abbrev soutcome_of : Stmt := topS 33
abbrev noutcome_of : List Str := ["plan", "rows", "row", "kind", "parts", "found", "result", "turns", "gone", "lines_here", "turn", "part", "lines"]
abbrev poutcome_of : List Str := ["plan", "rows"]
theorem scoutcome_of : FnScope noutcome_of poutcome_of (defScope soutcome_of) := ⟨rfl, rfl, rfl, by decide +kernel, rfl, by decide +kernel, by decide +kernel⟩
-- slots: 0 plan 1 rows* 2 row 3 kind 4 parts 5 found 6 result 7 turns 8 gone 9 lines_here 10 turn 11 part~ 12 lines~
def spOutcome (n : Nat) : Sp := fun vs H Q _ => ∃ (v : V) (d : Addr) (t : T) (f : Str → List Int), vs = [v, .ref d] ∧ PlanAt H v t ∧ t.ok ∧ t.leaves.length ≤ 8 ∧ t.depth < n ∧ RowsD H d f ∧ ((folkOf f t.leaves).map (·.1)).Nodup ∧ (folkOf f t.leaves).length ≤ 100 ∧
  ∀ H' y out, Same H H' → Out f t out → FoundAt H' y out → Q y H'
theorem d_outcome_of (B : Bn mg) (E : Ent K mg "outcome_of" soutcome_of) (Dmeeting_of : Df P w K mg base 1 "meeting_of" pmeeting_of spMeet) : ∀ n : Nat, Df P w K mg base (n + 1) "outcome_of" poutcome_of (spOutcome n)
  | 0 => E.df0 (fun _ _ _ _ _ _ us hl => match us, hl with | [_, _], _ => rfl) fun vs H Q E ⟨_, _, _, _, _, _, _, _, h, _⟩ => absurd h (Nat.not_lt_zero _)
  | n + 1 => by
    have Doutcome_of := d_outcome_of B E Dmeeting_of n
    refine E.df scoutcome_of (fun _ _ _ _ _ _ us hl => match us, hl with | [_, _], _ => rfl) (fun vs H Q E h => ?_) (fun f cdv A outer s H vs Q E hr h => ?_)
    · obtain ⟨v, d, t, f, rfl, _⟩ := h
      rfl
    obtain ⟨v, d, t, fr, rfl, hp, hok, h8, hdp, hrows, hnd, h100, q⟩ := h
    refine ⟨_, pss_cons (ps_if (pt_val (pe_isTK K rfl B.isinstance rfl B.str b_str (pv 0))) (pss_cons (ps_set (i := 2) scoutcome_of.nd rfl (Or.inl rfl) (pe_dget2 (hu_of hr) (pv 1) (pv 0) (pe_tupF pa_nil) ⟨rfl, rfl, rfl, rfl⟩))
      (pss_one (ps_ret (pe_tupF (pa_cons (pv 2) (pa_cons (pe_op op_repF (pe_tupF (pa_cons (pv 0) pa_nil)) (pe_callB (call_len_seqK K) (by rfl) B.len b_len (pa_cons (pv 2) pa_nil))) pa_nil)))))) pss_nil)
      (pss_cons (ps_asg (pv 0) (pg_tupK K (n := 2) rfl (pgs_cons (pg_name (i := 3) scoutcome_of.nd rfl (Or.inl rfl)) (pgs_cons (pg_name (i := 4) scoutcome_of.nd rfl (Or.inl rfl)) pgs_nil))))
      (pss_cons (ps_setLc (i := 5) (own := [("part", 11)]) rfl scoutcome_of.nd rfl rfl (sw_true rfl rfl rfl (by decide +kernel)) (pi_tupK K (pv 4)) (blkOk_by (N := noutcome_of) (sc := defScope soutcome_of) (by decide +kernel)) (fun _ _ _ _ _ => (pg_name (i := 11) scoutcome_of.nd rfl (Or.inl rfl))) (fun _ _ _ _ _ => pts_nil) (fun _ _ _ _ _ => (pe_df Doutcome_of hr rfl (pa_cons (pv 11) (pa_cons (pv 1) pa_nil)))))
      (pss_cons (ps_asg (pe_df Dmeeting_of (hr.mono (by omega)) rfl (pa_cons (pe_callTy (call_tupFK K) (by rfl) B.tuple b_tuple (pa_cons (pe_lc (own := [("row", 2), ("lines", 12)]) rfl scoutcome_of.nd (pi_listK K (pv 5)) (blkOk_by (N := noutcome_of) (sc := defScope soutcome_of) (by decide +kernel)) (fun _ _ _ _ _ => (pg_tupK K (n := 2) rfl (pgs_cons (pg_name (i := 2) scoutcome_of.nd rfl (Or.inl rfl)) (pgs_cons (pg_name (i := 12) scoutcome_of.nd rfl (Or.inl rfl)) pgs_nil)))) (fun _ _ _ _ _ => pts_nil) (fun _ _ _ _ _ => (pv 2))) pa_nil)) (pa_cons (pv 3) pa_nil))) (pg_tupK K (n := 2) rfl (pgs_cons (pg_name (i := 6) scoutcome_of.nd rfl (Or.inl rfl)) (pgs_cons (pg_name (i := 7) scoutcome_of.nd rfl (Or.inl rfl)) pgs_nil))))
      (pss_cons (ps_par (i := 8) (j := 9) (by rfl) scoutcome_of.nd rfl rfl (by decide) rfl rfl (pa_cons (pe_lc (own := [("part", 11)]) rfl scoutcome_of.nd (pi_tupK K (pv 4)) (blkOk_by (N := noutcome_of) (sc := defScope soutcome_of) (by decide +kernel)) (fun _ _ _ _ _ => (pg_name (i := 11) scoutcome_of.nd rfl (Or.inl rfl))) (fun _ _ _ _ _ => pts_nil) (fun _ _ _ _ _ => pe_int)) (pa_cons (pe_lstS pa_nil) pa_nil)) (by rfl))
      (pss_cons (ps_for PassesOwn.never rfl (pi_tupK K (pv 7)) (pg_name (i := 10) scoutcome_of.nd rfl (Or.inl rfl)) (pss_cons (ps_expr (pe_bmK K PySem.F.plainAttrs_list PySem.F.slot_list_append PySem.F.type_list_append mt_append (pv 9) (pa_cons (pe_ix (ix_tupK K) (pe_ix (ix_tupK K) (pe_ix (ix_listK K) (pv 5) (pv 10) (fun _ _ => rfl)) pe_int (fun _ _ => rfl)) (pe_ix (ix_listK K) (pv 8) (pv 10) (fun _ _ => rfl)) (fun _ _ => rfl)) pa_nil)))
      (pss_one (ps_asg (pe_op op_add (pe_ix (ix_listK K) (pv 8) (pv 10) (fun _ _ => rfl)) pe_int) (pg_sub (pv 8) (pv 10) set_list)))))
      (pss_one (ps_ret (pe_tupF (pa_cons (pv 6) (pa_cons (pe_callTy (call_tupFK K) (by rfl) B.tuple b_tuple (pa_cons (pv 9) pa_nil)) pa_nil)))))))))), ?_⟩
    cases hp with
    | leaf z =>
      refine ⟨_, rfl, isi ty_str k_str_str ⟨true, rfl, iteT ?_⟩⟩
      obtain ⟨kvs, hd, hm⟩ := hrows
      refine ⟨_, rfl, d, rfl, .inl ⟨kvs, .inl hd⟩, _, rfl, Nat.zero_le _, fun p0 H1 hp0 s1 hT0 => ⟨_, DGet.k (k := Sum.inr z) (s1 _ _ hd), ?_⟩⟩
      have hrow : ∃ b, (valV kvs (Sum.inr z)).getD (.ref p0) = .ref b ∧ TupAt H1 b (iv (fr z)) := by
        cases e : valV kvs (Sum.inr z) with
        | none =>
          rw [(hm z).2 e]
          exact ⟨p0, rfl, hT0⟩
        | some v =>
          obtain ⟨b, e1, e2⟩ := (hm z).1 v e
          exact ⟨b, e1, e2.mono s1⟩
      obtain ⟨b, eb, hTb⟩ := hrow
      rw [eb]
      have hlen : (fr z).length ≤ 100 := by simpa [folkOf, T.leaves] using h100
      refine ⟨_, rfl, _, rfl, by show 1 ≤ sizeLine; decide, fun p1 H2 hp1 s2 hT1 => ?_⟩
      refine ⟨_, rfl, b, _, rfl, .inr (hTb.mono s2).sq, p1, (fr z).length, .str z, rfl, by rw [List.length_map], hT1, by omega, fun p2 H3 s3 hT2 => ?_⟩
      refine ⟨by show 2 ≤ sizeLine; decide, fun p H4 hp s4 hT => ?_⟩
      refine q H4 (.ref p) _ (((s1.trans s2).trans s3).trans s4) .leaf ⟨p, b, p2, rfl, hT, ?_, ?_⟩
      · have e : ((fr z).map fun h => (h, z)).map (·.1) = fr z := by simp [Function.comp_def]
        rw [e]
        exact hTb.mono ((s2.trans s3).trans s4)
      · have e : sv (((fr z).map fun h => (h, z)).map (·.2)) = List.replicate (fr z).length (V.str z) := by
          refine List.ext_getElem? fun i => ?_
          rw [List.getElem?_replicate]
          by_cases hi : i < (fr z).length
          · rw [if_pos hi]
            simp [sv, hi]
          · rw [if_neg hi]
            simp [sv]
            omega
        rw [e]
        exact hT2.mono s4
    | @node a b k vs ts h1 h2 h3 =>
      obtain ⟨hk, h2n, hoks⟩ := hok
      simp only [T.leaves] at h8 hnd h100
      have hlen := h3.length
      have hle := leaves_len hoks
      refine ⟨_, rfl, isi h1.ty k_tup_str ⟨false, rfl, iteF ?_⟩⟩
      -- kind, parts = plan
      refine ⟨_, rfl, g_pair h1.sq ?_⟩
      -- found
      refine ⟨_, rfl, b, rfl, ⟨_, h2.sq⟩, fun D hD => ?_⟩
      refine lc_gen (walk_tup (K := K) (xs := vs)) [] hD (AllE fun i y H' => ∃ t o, ts[i]? = some t ∧ Out fr t o ∧ FoundAt H' y o) ⟨rfl, fun j y e => by simp at e⟩ (fun i acc H' _ b _ => (h2.mono b.same).sq) ?_ ?_
      · rintro i acc x H1 H2 hi c ⟨rfl, hx⟩
        obtain ⟨t, et, ht⟩ := h3.get hx
        have hsub := folk_sub (f := fr) et
        have hd' : t.depth < n := by
          have := depth_get et
          simp only [T.depth] at hdp
          omega
        have hl' : t.leaves.length ≤ 8 := by
          have e := congrArg List.length (leaves_split et)
          rw [List.length_append, List.length_append] at e
          omega
        have hi' : i < ts.length := (List.getElem?_eq_some_iff.mp et).1
        refine ⟨rfl, tyes ?_⟩
        have s1 := c.but.same
        refine ⟨_, rfl, _, rfl, x, d, t, fr, rfl, ht.fz (fz_same s1), okAll_get hoks et, hl', hd', hrows.mono s1, (hsub.map _).nodup hnd, Nat.le_trans hsub.length_le h100, fun H4 y out s4 ho hF => ?_⟩
        exact c.one0 hD (fun i y H H' s ⟨t, o, e1, e2, e3⟩ => ⟨t, o, e1, e2, e3.fz s⟩) (szl (by omega)) s4 ⟨t, out, et, ho, hF⟩
      intro acc H1 c1
      have s1 := c1.but.same
      have hal : acc.length = ts.length := by rw [c1.rel.1]; exact hlen
      obtain ⟨os, hol, hos⟩ := list_of (P := fun j (o : List Ps) => ∃ y t, acc[j]? = some y ∧ ts[j]? = some t ∧ Out fr t o ∧ FoundAt H1 y o) ts.length fun j hj => by
        obtain ⟨t, o, e1, e2, e3⟩ := c1.rel.2 j acc[j] (List.getElem?_eq_getElem (by omega))
        exact ⟨o, _, t, List.getElem?_eq_getElem (by omega), e1, e2, e3⟩
      have hOA : OutAll fr ts os := outsAll_of hol.symm fun i t o e1 e2 => by
        obtain ⟨y, t', _, e3, e4, _⟩ := hos i o e2
        rw [e1] at e3
        cases e3
        exact e4
      have hperm := outs_perm hOA
      have hF : ∀ (i : Nat) o, os[i]? = some o → ∃ y, acc[i]? = some y ∧ FoundAt H1 y o := fun i o e => by
        obtain ⟨y, t', e1, _, _, e4⟩ := hos i o e
        exact ⟨y, e1, e4⟩
      -- result, turns = meeting_of(tuple([row for row, lines in found]), kind)
      refine ⟨_, rfl, D, rfl, ⟨_, SqL.of c1.at_⟩, fun D2 hD2 => ?_⟩
      refine lc_gen (walk_list (K := K) (xs := acc)) [] hD2 (AllE fun i y H' => ∃ q1 o, os[i]? = some o ∧ y = .ref q1 ∧ TupAt H' q1 (iv (o.map (·.1)))) ⟨rfl, fun j y e => by simp at e⟩ (fun i acc' H' _ b _ => SqL.of (b.same _ _ c1.at_)) ?_ ?_
      · rintro i acc' x H2 H3 hi c ⟨rfl, hx⟩
        have hi' : i < os.length := by omega
        obtain ⟨y, ey, p, q1, q2, rfl, hTp, hT1, hT2⟩ := hF i os[i] (List.getElem?_eq_getElem hi')
        rw [hx] at ey
        cases ey
        have s3 := c.but.same
        refine g_pair (hTp.mono s3).sq ⟨rfl, tyes ⟨_, rfl, ?_⟩⟩
        exact c.one0 hD2 (fun i y H H' s ⟨q, o, e1, e2, e3⟩ => ⟨q, o, e1, e2, e3.fz s⟩) (szl (by omega)) (Same.refl _) ⟨q1, os[i], List.getElem?_eq_getElem hi', rfl, hT1.mono s3⟩
      intro acc2 H2 c2
      have s2 := c2.but.same
      have hRA : RowsAt H2 acc2 os := ⟨by rw [c2.rel.1]; omega, fun i r e => by
        have hi : i < acc2.length := by
          have := (List.getElem?_eq_some_iff.mp e).1
          rw [c2.rel.1]
          omega
        obtain ⟨q1, o, e1, e2, e3⟩ := c2.rel.2 i acc2[i] (List.getElem?_eq_getElem hi)
        rw [e] at e1
        cases e1
        exact ⟨q1, by rw [List.getElem?_eq_getElem hi, e2], e3⟩⟩
      have hdif : Dif os := (hperm.map (fun x : Ps => x.1)).nodup_iff.mpr hnd
      refine ⟨D2, acc2, rfl, SqL.of c2.at_, fun p3 H3 hp3 s3 hT3 => ?_⟩
      refine ⟨_, rfl, p3, acc2, k, os, rfl, hT3, hRA.fz (fz_same s3), hdif, by omega, by rw [hperm.length_eq]; exact h100, fun H4 p4 q1 q2 out s4 hm hTp hT1 hT2 => ?_⟩
      refine g_pair hTp.sq ?_
      have s04 : Same H H4 := ((s1.trans s2).trans s3).trans s4
      have s14 : Same H1 H4 := (s2.trans s3).trans s4
      -- gone, lines_here
      refine ⟨_, rfl, b, rfl, ⟨_, (h2.mono s04).sq⟩, fun D5 hD5 => ?_⟩
      refine lc_gen (walk_tup (K := K) (xs := vs)) [] hD5 (AllE fun _ y _ => y = .int 0) ⟨rfl, fun j y e => by simp at e⟩ (fun i acc H' _ b _ => ((h2.mono s04).mono b.same).sq) ?_ ?_
      · rintro i acc' x H5 H6 hi c ⟨rfl, hx⟩
        refine ⟨rfl, tyes ?_⟩
        exact c.one0 hD5 (fun _ _ _ _ _ h => h) (szl (by omega)) (Same.refl _) rfl
      intro acc5 H5 c5
      have s5 := c5.but.same
      have hacc5 : acc5 = gv (List.replicate os.length 0) := acc_eq (by rw [c5.rel.1, List.length_map, List.length_replicate]; omega) fun i y e => by
        have hi : i < os.length := by
          have := (List.getElem?_eq_some_iff.mp e).1
          rw [c5.rel.1] at this
          omega
        rw [get_gv (n := 0) (by rw [List.getElem?_replicate, if_pos hi]), c5.rel.2 i y e]
        rfl
      refine ⟨Nat.zero_le _, fun D6 H6 hD6 s6 e6 => ⟨_, _, rfl, ?_⟩⟩
      have d56 : D5 ≠ D6 := ne_of_none c5.at_ hD6
      have n6 : H4 D6 = none := s5.free hD6
      have houtl : out.length ≤ 100 := by
        have := hm.perm.length_eq
        rw [List.length_map, hperm.length_eq] at this
        omega
      refine ⟨_, rfl, q2, rfl, ⟨_, (hT2.mono (s5.trans s6)).sq⟩, for_tup (K := K) (a := q2) (xs := iv (out.map fun x => (x.2 : Int)))
        (fun i σ H' => ∃ (y10 : Option V) (g : List Nat), σ = [some (.ref a), some (.ref d), none, some (.str k), some (.ref b), some (.ref D), some (.ref q1), some (.ref q2), some (.ref D5), some (.ref D6), y10, none, none] ∧ g.length = os.length ∧ Same H4 H' ∧
          H' D5 = some (.lst (gv g)) ∧ H' D6 = some (.lst (sv ((out.take i).map (·.1.2)))) ∧ Mt (isLow k) (rem os g) (out.drop i))
        ⟨none, List.replicate os.length 0, rfl, by simp, s5.trans s6, by rw [← hacc5]; exact s6 _ _ c5.at_, e6, by rw [rem_zero]; exact hm⟩ (fun i σ H' _ ⟨_, _, _, _, s', _⟩ => (hT2.mono s').sq) ?_ ?_⟩
      · rintro i x σ H7 hx ⟨y10, g, rfl, hgl, s7, e5, e6', hmt⟩
        obtain ⟨jj, ejj, rfl⟩ := map_get hx
        obtain ⟨⟨pp, j⟩, eo, rfl⟩ := map_get ejj
        have hio : i < out.length := (List.getElem?_eq_some_iff.mp eo).1
        have edr : out.drop i = (pp, j) :: out.drop (i + 1) := by
          rw [List.drop_eq_getElem_cons hio]
          rw [List.getElem?_eq_getElem hio] at eo
          rw [Option.some.inj eo]
        rw [edr] at hmt
        cases hmt with
        | @step _ _ _ r _ hij hbest hrest =>
          obtain ⟨o, nn, eos, egj, edp⟩ := rem_inv hgl hij
          obtain ⟨epp, _, hnn⟩ := drop_cons edp.symm
          obtain ⟨y, ey, p', q1', q2', rfl, hTp', hT1', hT2'⟩ := hF j o eos
          have s17 : Same H1 H7 := s14.trans s7
          have hgj : j < g.length := (List.getElem?_eq_some_iff.mp egj).1
          have eln : (sv (o.map (·.2)))[nn]? = some (.str pp.2) := by
            rw [List.getElem?_map, List.getElem?_map, epp]
            rfl
          refine ⟨_, rfl, .inl ⟨rfl, _, SqL.of e6'⟩, _, rfl, _, rfl, D, _, _, _, rfl, rfl, SqL.of (s17 _ _ c1.at_), atI_nat ey, p', _, _, _, rfl, rfl, (hTp'.mono s17).sq, atI_nat (j := 1) rfl, _, rfl, _, rfl, D5, _, _, _, rfl, rfl, SqL.of e5, atI_nat (get_gv egj),
            q2', _, _, _, rfl, rfl, (hT2'.mono s17).sq, atI_nat eln, D6, _, _, rfl, rfl, e6', szl (by rw [List.length_map, List.length_map, List.length_take]; omega), ?_⟩
          have e5' : (upd H7 D6 (.lst (sv ((out.take i).map (·.1.2)) ++ [V.str pp.2]))) D5 = some (.lst (gv g)) := by rw [upd_ne d56]; exact e5
          refine ⟨_, rfl, _, rfl, D5, _, _, _, rfl, rfl, SqL.of e5', atI_nat (get_gv egj), _, _, rfl, rfl, _, rfl, _, rfl, D5, _, _, j, rfl, rfl, e5', ixN_nat (by rw [List.length_map]; exact hgj), ?_⟩
          refine ⟨_, g.set j (nn + 1), rfl, by rw [List.length_set]; exact hgl, same_mut (same_mut s7 n6) hD5, ?_, ?_, ?_⟩
          · rw [upd_same]
            have eset : (gv g).set j (.int ((nn : Int) + 1)) = gv (g.set j (nn + 1)) := by
              show (List.map (fun n : Nat => V.int (n : Int)) g).set j _ = List.map (fun n : Nat => V.int (n : Int)) (g.set j (nn + 1))
              rw [List.map_set]
              rfl
            exact congrArg (fun z => some (HO.lst z)) eset
          · rw [upd_ne d56.symm, upd_same, List.take_add_one, eo]
            simp [sv]
          · rw [rem_step hgl eos egj edp.symm]
            exact hrest
      · rintro σ H7 ⟨y10, g, rfl, hgl, s7, e5, e6', _⟩
        rw [List.length_map, List.length_map, List.take_length] at e6'
        refine ⟨_, rfl, _, rfl, D6, _, rfl, SqL.of e6', fun q3 H8 hq3 s8 hT8 => ?_⟩
        refine ⟨by show 2 ≤ sizeLine; decide, fun p H9 hp s9 hT9 => ?_⟩
        refine q H9 (.ref p) _ (((s04.trans s7).trans s8).trans s9) (.node hOA hm) ⟨p, q1, q3, rfl, hT9, ?_, ?_⟩
        · rw [List.map_map]
          exact hT1.mono ((s7.trans s8).trans s9)
        · rw [List.map_map]
          exact hT8.mono s9
end
end K46

namespace K46
open PySem PySem.Spec PyProof.Rows L2
/-- the pairs (line, row) at the values -/
abbrev EntAt (H : Hp) (x : V) (p : Str × List Int) : Prop := ∃ t b, x = V.ref t ∧ TupAt H t [.str p.1, .ref b] ∧ TupAt H b (iv p.2)
theorem EntAt.fz {H H' : Hp} {x : V} {p : Str × List Int} (s : Fz H H') (h : EntAt H x p) : EntAt H' x p := by
  obtain ⟨t, b, e, h1, h2⟩ := h
  exact ⟨t, b, e, h1.fz s, h2.fz s⟩
def CrowdAt (H : Hp) (a : Addr) (c : Crowd) : Prop := ∃ vs, TupAt H a vs ∧ vs.length = c.length ∧ ∀ (i : Nat) p, c[i]? = some p → ∃ x, vs[i]? = some x ∧ EntAt H x p
theorem CrowdAt.fz {H H' : Hp} {a : Addr} {c : Crowd} (s : Fz H H') (h : CrowdAt H a c) : CrowdAt H' a c := by
  obtain ⟨vs, h1, h2, h3⟩ := h
  exact ⟨vs, h1.fz s, h2, fun i p e => let ⟨x, e1, e2⟩ := h3 i p e; ⟨x, e1, e2.fz s⟩⟩
structure okCrowd (c : Crowd) : Prop where
  len : c.length ≤ 8
  asc : (c.map (·.1)).Pairwise sLt
  line : ∀ p ∈ c, okLine p.1
  hgt : ∀ h ∈ folks c, okH h
  nd : (folks c).Nodup
  many : (folks c).length ≤ 40
theorem folks_take {c : Crowd} {i : Nat} {p : Str × List Int} (h : c[i]? = some p) : folks (c.take (i + 1)) = folks (c.take i) ++ p.2 := by
  show (c.take (i + 1)).flatMap (·.2) = (c.take i).flatMap (·.2) ++ p.2
  rw [List.take_add_one, h, List.flatMap_append]
  simp
theorem folks_sub {c : Crowd} {i : Nat} {p : Str × List Int} (h : c[i]? = some p) : (folks (c.take i) ++ p.2).Sublist (folks c) := by
  rw [← folks_take h]
  have e : folks c = folks (c.take (i + 1)) ++ folks (c.drop (i + 1)) := by
    show c.flatMap (·.2) = (c.take (i + 1)).flatMap (·.2) ++ (c.drop (i + 1)).flatMap (·.2)
    rw [← List.flatMap_append, List.take_append_drop]
  rw [e]
  exact List.sublist_append_left _ _
theorem okCrowd.row {c : Crowd} (ok : okCrowd c) {i : Nat} {p : Str × List Int} (h : c[i]? = some p) : okRow p.2 := by
  have hs := folks_sub h
  have hr : p.2.Sublist (folks c) := (List.sublist_append_right _ _).trans hs
  exact ⟨fun x hx => ok.hgt x (hr.subset hx), hr.nodup ok.nd, Nat.le_trans hr.length_le ok.many⟩
theorem asc_get {ls : List Str} (h : ls.Pairwise sLt) {i j : Nat} {a b : Str} (hij : i < j) (e1 : ls[i]? = some a) (e2 : ls[j]? = some b) : sLt a b := by
  have hi : i < ls.length := (List.getElem?_eq_some_iff.mp e1).1
  have hj : j < ls.length := (List.getElem?_eq_some_iff.mp e2).1
  have := List.pairwise_iff_getElem.mp h i j hi hj hij
  rw [List.getElem?_eq_getElem hi] at e1
  rw [List.getElem?_eq_getElem hj] at e2
  rw [← Option.some.inj e1, ← Option.some.inj e2]
  exact this
theorem empty_lt {s : Str} (h : okLine s) : sLt ("" : Str) s := by
  have e : ("" : Str).cps.toList = [] := by decide
  unfold sLt
  rw [e]
  have hl : s.cps.toList.length = s.length := by rw [Array.length_toList]; rfl
  cases hs : s.cps.toList with
  | nil =>
    rw [hs] at hl
    have := h.1
    simp at hl
    omega
  | cons x r => exact List.nil_lt_cons _ _
section
variable {P : Program} {w : World} {K : PySem.W.Frag} {mg : Str → Option Value} {base : Heap}
abbrev sfault_of_crowd : Stmt := topS 31
abbrev nfault_of_crowd : List Str := ["value", "people", "last", "index", "pair", "height"]
abbrev pfault_of_crowd : List Str := ["value"]
theorem scfault_of_crowd : FnScope nfault_of_crowd pfault_of_crowd (defScope sfault_of_crowd) := ⟨rfl, rfl, rfl, by decide +kernel, rfl, by decide +kernel, by decide +kernel⟩
-- slots: 0 value 1 people* 2 last 3 index 4 pair 5 height~
def spFault : Sp := fun vs H Q _ => ∃ (a : Addr) (c : Crowd), vs = [.ref a] ∧ CrowdAt H a c ∧ okCrowd c ∧ ∀ H', Same H H' → Q .non H'
theorem d_fault_of_crowd (B : Bn mg) (E : Ent K mg "fault_of_crowd" sfault_of_crowd) (Dis_line : Df P w K mg base 1 "is_line" pis_line spLine) (Dis_row : Df P w K mg base 3 "is_row" pis_row spRow) : Df P w K mg base 4 "fault_of_crowd" pfault_of_crowd spFault := by
  refine E.df scfault_of_crowd (fun _ _ _ _ _ _ us hl => match us, hl with | [_], _ => rfl) (fun vs H Q E h => ?_) (fun f cdv A outer s H vs Q E hr h => ?_)
  · obtain ⟨a, c, rfl, _⟩ := h
    rfl
  obtain ⟨a, c, rfl, ⟨vs, hT, hvl, hvs⟩, ok, q⟩ := h
  refine ⟨_, pss_cons (ps_if (PW.pt (pw_or (pt_not (pt_val (pe_isTK K rfl B.isinstance rfl B.tuple b_tuple (pv 0)))) (pw_or1 (pt_cmpR op_gt (pe_callB (call_len_seqK K) (by rfl) B.len b_len (pa_cons (pv 0) pa_nil)) (pe_kI rfl B.mostL) (nomark _))))) (pss_one (ps_ret (pe_tupF (pa_cons pe_non pa_nil)))) pss_nil)
      (pss_cons (ps_asg (pe_tupF (pa_cons (pe_tupF pa_nil) (pa_cons pe_str pa_nil))) (pg_tupK K (n := 2) rfl (pgs_cons (pg_name (i := 1) scfault_of_crowd.nd rfl (Or.inr rfl)) (pgs_cons (pg_name (i := 2) scfault_of_crowd.nd rfl (Or.inl rfl)) pgs_nil))))
      (pss_cons (ps_for PassesOwn.never rfl (pi_enumT rfl B.enumerate (pa_cons (pv 0) pa_nil)) (pg_tupK K (n := 2) rfl (pgs_cons (pg_name (i := 3) scfault_of_crowd.nd rfl (Or.inl rfl)) (pgs_cons (pg_name (i := 4) scfault_of_crowd.nd rfl (Or.inl rfl)) pgs_nil))) (pss_cons (ps_if (PW.pt (pw_or (pt_not (pt_val (pe_isTK K rfl B.isinstance rfl B.tuple b_tuple (pv 4)))) (pw_or (pt_cmpR op_ne (pe_callB (call_len_seqK K) (by rfl) B.len b_len (pa_cons (pv 4) pa_nil)) pe_int (nomark _)) (pw_or (pt_not (pt_val (pe_df Dis_line (hr.mono (by decide)) rfl (pa_cons (pe_ix (ix_tupK K) (pv 4) pe_int (fun _ _ => rfl)) pa_nil)))) (pw_or1 (pt_not (pt_val (pe_df Dis_row (hr.mono (by decide)) rfl (pa_cons (pe_ix (ix_tupK K) (pv 4) pe_int (fun _ _ => rfl)) pa_nil))))))))) (pss_one (ps_ret (pe_tupF (pa_cons (pv 3) pa_nil)))) pss_nil)
      (pss_cons (ps_if (PW.pt (pw_or (pt_cmpR op_le_str (pe_ix (ix_tupK K) (pv 4) pe_int (fun _ _ => rfl)) (pv 2) (nomark _)) (pw_or1 (pt_val (pe_callB (cr_anyK K rfl) (by rfl) B.any b_any (pa_cons (pe_lc (own := [("height", 5)]) rfl scfault_of_crowd.nd (pi_tupK K (pe_ix (ix_tupK K) (pv 4) pe_int (fun _ _ => rfl))) (blkOk_by (N := nfault_of_crowd) (sc := defScope sfault_of_crowd) (by decide +kernel)) (fun _ _ _ _ _ => (pg_name (i := 5) scfault_of_crowd.nd rfl (Or.inl rfl))) (fun _ _ _ _ _ => pts_nil) (fun _ _ _ _ _ => (pe_cmpR (op_in_seqK K) (pv 5) (pv 1) (by with_unfolding_all rfl)))) pa_nil)))))) (pss_one (ps_ret (pe_tupF (pa_cons (pv 3) pa_nil)))) pss_nil)
      (pss_cons (ps_asg (pe_tupF (pa_cons (pe_op op_catF (pv 1) (pe_ix (ix_tupK K) (pv 4) pe_int (fun _ _ => rfl))) (pa_cons (pe_ix (ix_tupK K) (pv 4) pe_int (fun _ _ => rfl)) pa_nil))) (pg_tupK K (n := 2) rfl (pgs_cons (pg_name (i := 1) scfault_of_crowd.nd rfl (Or.inr rfl)) (pgs_cons (pg_name (i := 2) scfault_of_crowd.nd rfl (Or.inl rfl)) pgs_nil))))
      (pss_one (ps_if (pt_cmpR op_gt (pe_callB (call_len_seqK K) (by rfl) B.len b_len (pa_cons (pv 1) pa_nil)) (pe_kI rfl B.mostP) (nomark _)) (pss_one (ps_ret (pe_tupF (pa_cons (pv 3) pa_nil)))) pss_nil))))))
      (pss_one (ps_ret pe_non)))), ?_⟩
  refine ⟨_, rfl, isi hT.ty k_tup_tup ⟨true, rfl, iteF ?_⟩⟩
  refine ⟨_, rfl, a, _, rfl, .inr hT.sq, _, _, rfl, rfl, false, congrArg V.bl (decide_eq_false (by have := ok.len; omega)), iteF ?_⟩
  refine ⟨Nat.zero_le _, fun p0 H1 hp0 s1 hT0 => ⟨by show 2 ≤ sizeLine; decide, fun p1 H2 hp1 s2 hT1 => ?_⟩⟩
  refine g_pair hT1.sq ?_
  have s02 : Same H H2 := s1.trans s2
  refine ⟨_, rfl, a, vs, rfl, hT.mono s02, for_it walk_enumT (fun i σ H' => ∃ (y3 y4 y5 : Option V) (pp : Addr) (ls : Str), σ = [some (.ref a), some (.ref pp), some (.str ls), y3, y4, y5] ∧ Same H H' ∧ TupAt H' pp (iv (folks (c.take i))) ∧ ∀ (j : Nat) p, i ≤ j → c[j]? = some p → sLt ls p.1)
    ⟨none, none, none, p0, _, rfl, s02, hT0.mono s2, fun j p _ e => empty_lt (ok.line p (List.mem_of_getElem? e))⟩ (fun i σ H' _ ⟨_, _, _, _, _, _, s', _⟩ => hT.mono s') ?_ ?_⟩
  · rintro i x σ H3 H4 hi ⟨y3, y4, y5, pp, ls, rfl, s3, hpp, hls⟩ hy
    have hic : i < c.length := by omega
    have ec : c[i]? = some c[i] := List.getElem?_eq_getElem hic
    obtain ⟨xv, exv, t, b, rfl, hTt, hTb⟩ := hvs i c[i] ec
    refine g_new hy rfl exv fun s34 => ?_
    have s04 : Same H H4 := s3.trans s34
    have hTt4 := hTt.mono s04
    have hTb4 := hTb.mono s04
    have hrow := ok.row ec
    refine ⟨_, rfl, isi hTt4.ty k_tup_tup ⟨true, rfl, iteF ?_⟩⟩
    refine ⟨_, rfl, t, _, rfl, .inr hTt4.sq, rfl, false, rfl, iteF ?_⟩
    refine ⟨_, rfl, t, _, _, _, rfl, rfl, hTt4.sq, atI_nat (j := 0) rfl, .inl ⟨c[i].1, rfl, ok.line _ (List.getElem_mem hic), fun H5 s5 => ⟨true, rfl, iteF ?_⟩⟩⟩
    have hTt5 := hTt4.mono s5
    have hTb5 := hTb4.mono s5
    refine ⟨_, rfl, t, _, _, _, rfl, rfl, hTt5.sq, atI_nat (j := 1) rfl, b, c[i].2, rfl, hTb5, hrow, fun H6 s6 => ⟨true, rfl, iteF ?_⟩⟩
    have hTt6 := hTt5.mono s6
    have hTb6 := hTb5.mono s6
    have s36 : Same H3 H6 := (s34.trans s5).trans s6
    have s06 : Same H H6 := s3.trans s36
    have hpp6 := hpp.mono s36
    -- pair[0] <= last or any(..)
    refine ⟨_, rfl, t, _, _, _, rfl, rfl, hTt6.sq, atI_nat (j := 0) rfl, _, rfl, _, _, rfl, rfl, false, ?_, iteF ?_⟩
    · rw [decide_eq_true (hls i c[i] (Nat.le_refl _) ec)]
      rfl
    refine ⟨_, rfl, t, _, _, _, rfl, rfl, hTt6.sq, atI_nat (j := 1) rfl, b, rfl, ⟨_, hTb6.sq⟩, fun D hD => ?_⟩
    refine lc_gen (walk_tup (K := K) (xs := iv c[i].2)) [] hD (AllE fun _ y _ => y = .bl false) ⟨rfl, fun j y e => by simp at e⟩ (fun i acc H' _ b _ => (hTb6.mono b.same).sq) ?_ ?_
    · rintro j acc xh H7 H8 hj cc ⟨rfl, hx⟩
      obtain ⟨hh, ehh, rfl⟩ := map_get hx
      refine ⟨rfl, tyes ?_⟩
      refine ⟨_, rfl, _, rfl, pp, _, rfl, .inr (hpp6.mono cc.but.same).sq, rfl, flat_intsV _, ?_⟩
      refine cc.one0 hD (fun _ _ _ _ _ h => h) (szl (by rw [List.length_map] at hj; have := hrow.2.2; omega)) (Same.refl _) ?_
      show V.bl (inV _ _) = V.bl false
      rw [in_iv, decide_eq_false]
      intro hm
      have hnd := (folks_sub ec).nodup ok.nd
      exact (List.nodup_append.mp hnd).2.2 hh hm hh (List.mem_of_getElem? ehh) rfl
    intro acc H7 c7
    have s67 := c7.but.same
    dsimp only [tNil]
    refine r_any c7.at_ c7.rel.2 ?_
    refine ⟨false, rfl, iteF ?_⟩
    -- people, last = (people + pair[1], pair[0])
    have htk := folks_take ec
    have hlen : (folks (c.take i) ++ c[i].2).length ≤ 40 := Nat.le_trans (folks_sub ec).length_le ok.many
    refine ⟨_, rfl, _, rfl, t, _, _, _, rfl, rfl, (hTt6.mono s67).sq, atI_nat (j := 1) rfl, pp, b, _, _, rfl, rfl, hpp6.mono s67, hTb6.mono s67, sze (by rw [List.length_append] at hlen; rw [List.length_map, List.length_map]; omega), fun p8 H8 s8 hT8 => ?_⟩
    refine ⟨_, rfl, t, _, _, _, rfl, rfl, ((hTt6.mono s67).mono s8).sq, atI_nat (j := 0) rfl, by show 2 ≤ sizeLine; decide, fun p9 H9 _ s9 hT9 => ?_⟩
    refine g_pair hT9.sq ?_
    have e8 : iv (folks (c.take i)) ++ iv c[i].2 = iv (folks (c.take (i + 1))) := by
      rw [htk]
      exact (List.map_append ..).symm
    rw [e8] at hT8
    refine ⟨_, rfl, p8, _, rfl, .inr (hT8.mono s9).sq, _, _, rfl, rfl, false, congrArg V.bl (decide_eq_false (by rw [List.length_map, htk]; omega)), iteF ?_⟩
    refine ⟨_, _, _, p8, c[i].1, rfl, ((s06.trans s67).trans s8).trans s9, hT8.mono s9, fun j p hj e => ?_⟩
    exact asc_get ok.asc (show i < j by omega) (by rw [List.getElem?_map, ec] <;> rfl) (by rw [List.getElem?_map, e] <;> rfl)
  · rintro σ H3 ⟨y3, y4, y5, pp, ls, rfl, s3, _⟩
    exact q H3 s3
end
end K46

namespace K46
open PySem PySem.Spec PyProof.Rows L2
/-- a comprehension of any kind: Pv at each turn -/
theorem walk_out {J : It} {n : Nat} {G : Hp → Prop} {Y : Nat → Hp → V → Hp → Prop} {g : TG} {tt : TT} {vs : List Nat} {σ : L2.St} {H0 : Hp} {Qd : Hp → Prop} (w : Walk J n G Y) {R : L2.St → Hp → (Hp → Prop) → Prop} (Pv : Nat → Hp → Prop) (h0 : Pv 0 H0) (hG : ∀ i H, i ≤ n → Pv i H → G H)
    (hs : ∀ i x H H', i < n → Pv i H → Y i H x H' → g x (wipe σ vs) H' fun σ2 H2 => wipe σ2 vs = wipe σ vs ∧ tt σ2 H2 fun b H3 => if b = true then R σ2 H3 (Pv (i + 1)) else Pv (i + 1) H3) (hd : ∀ H, Pv n H → Qd H) :
    ∃ W : Nat → Nat → Hp → Prop, (∃ m, W 0 m H0) ∧ ∀ i m H, W i m H →
      (J.stop i H ∧ Qd H) ∨ (J.go i H ∧ ∃ Nx : Hp → Prop, (∀ H', Nx H' → ∃ m', m' < m ∧ W (i + 1) m' H') ∧ ∀ x H', J.yld i H x H' → g x (wipe σ vs) H' fun σ2 H2 => wipe σ2 vs = wipe σ vs ∧ tt σ2 H2 fun b H3 =>
        if b = true then R σ2 H3 Nx else Nx H3) := by
  refine ⟨fun i m H => m = n - i ∧ i ≤ n ∧ Pv i H, ⟨n, by simp, Nat.zero_le _, h0⟩, ?_⟩
  rintro i m H ⟨rfl, hi, p⟩
  have q := hG i H hi p
  by_cases hlt : i < n
  · refine .inr ⟨w.goes i H hlt q, Pv (i + 1), fun H' p' => ⟨n - (i + 1), by omega, rfl, hlt, p'⟩, fun x H' y => hs i x H H' hlt p (w.yields i H x H' hlt q y)⟩
  · have e : i = n := by omega
    subst e
    exact .inl ⟨w.stops H q, hd H p⟩
section
variable {P : Program} {w : World} {K : PySem.W.Frag} {mg : Str → Option Value} {base : Heap}
abbrev scheck_crowd : Stmt := topS 32
abbrev ncheck_crowd : List Str := ["plan", "crowd", "fault", "lines", "line", "row"]
abbrev pcheck_crowd : List Str := ["plan", "crowd"]
theorem sccheck_crowd : FnScope ncheck_crowd pcheck_crowd (defScope scheck_crowd) := ⟨rfl, rfl, rfl, by decide +kernel, rfl, by decide +kernel, by decide +kernel⟩
-- slots: 0 plan 1 crowd 2 fault 3 lines 4 line 5 row
/-- a plan and a crowd of its lines -/
structure okBoth (t : T) (c : Crowd) : Prop where
  plan : okPlan t
  crowd : okCrowd c
  lines : ∀ p ∈ c, p.1 ∈ t.leaves
def spCheckCrowd : Sp := fun vs H Q _ => ∃ (v : V) (a : Addr) (t : T) (c : Crowd), vs = [v, .ref a] ∧ PlanAt H v t ∧ CrowdAt H a c ∧ okBoth t c ∧ ∀ H', Same H H' → Q .non H'
theorem d_check_crowd (B : Bn mg) (E : Ent K mg "check_crowd" scheck_crowd) (Dfault_of_crowd : Df P w K mg base 4 "fault_of_crowd" pfault_of_crowd spFault) (Dlines_in : Df P w K mg base 8 "lines_in" plines_in (spLines 8)) : Df P w K mg base 9 "check_crowd" pcheck_crowd spCheckCrowd := by
  refine E.df sccheck_crowd (fun _ _ _ _ _ _ us hl => match us, hl with | [_, _], _ => rfl) (fun vs H Q E h => ?_) (fun f cdv A outer s H vs Q E hr h => ?_)
  · obtain ⟨v, a, t, c, rfl, _⟩ := h
    rfl
  obtain ⟨v, a, t, c, rfl, hp, hc, ok, q⟩ := h
  refine ⟨_, pss_cons (ps_set (i := 2) sccheck_crowd.nd rfl (Or.inl rfl) (pe_df Dfault_of_crowd (hr.mono (by decide)) rfl (pa_cons (pv 1) pa_nil)))
      (pss_cons (ps_if (pt_cmpR op_notN (pv 2) pe_non (nomark _)) (pss_one (ps_never)) pss_nil)
      (pss_cons (ps_set (i := 3) sccheck_crowd.nd rfl (Or.inl rfl) (pe_df Dlines_in (hr.mono (by decide)) rfl (pa_cons (pv 0) pa_nil)))
      (pss_one (ps_for PassesOwn.never rfl (pi_tupK K (pv 1)) (pg_tupK K (n := 2) rfl (pgs_cons (pg_name (i := 4) sccheck_crowd.nd rfl (Or.inl rfl)) (pgs_cons (pg_name (i := 5) sccheck_crowd.nd rfl (Or.inl rfl)) pgs_nil))) (pss_one (ps_if (pt_cmpR (op_notIn_seqK K) (pv 4) (pv 3) (by with_unfolding_all rfl)) (pss_one (ps_never)) pss_nil)))))), ?_⟩
  have hd := depth_lt ok.plan.1
  have h8 := ok.plan.2.2
  refine ⟨_, rfl, a, c, rfl, hc, ok.crowd, fun H1 s1 => ?_⟩
  refine ⟨_, rfl, rfl, false, rfl, iteF ?_⟩
  refine ⟨_, rfl, v, t, rfl, hp.fz (fz_same s1), ok.plan.1, h8, by omega, fun H2 p ys s2 hT hperm => ?_⟩
  obtain ⟨vs, hTc, hvl, hvs⟩ := hc
  have s02 := s1.trans s2
  refine ⟨_, rfl, a, rfl, ⟨_, (hTc.mono s02).sq⟩, for_it (walk_tup (K := K) (xs := vs)) (fun i σ H' => ∃ (y4 y5 : Option V), σ = [some v, some (.ref a), some .non, some (.ref p), y4, y5] ∧ Same H2 H')
    ⟨none, none, rfl, Same.refl _⟩ (fun i σ H' _ ⟨_, _, _, s'⟩ => ((hTc.mono s02).mono s').sq) ?_ ?_⟩
  · rintro i x σ H3 H4 hi ⟨y4, y5, rfl, s3⟩ ⟨rfl, hx⟩
    have hic : i < c.length := by omega
    obtain ⟨xv, exv, t', b, rfl, hTt, hTb⟩ := hvs i c[i] (List.getElem?_eq_getElem hic)
    rw [hx] at exv
    cases exv
    refine g_pair ((hTt.mono s02).mono s3).sq ?_
    have hin : c[i].1 ∈ ys := hperm.mem_iff.mpr (ok.lines _ (List.getElem_mem hic))
    refine ⟨_, rfl, _, rfl, p, _, rfl, .inr (hT.mono s3).sq, rfl, flat_sv ys, false, ?_, iteF ⟨_, _, rfl, s3⟩⟩
    show V.bl (!inV _ _) = V.bl false
    rw [in_sv, decide_eq_true hin]
    rfl
  · rintro σ H3 ⟨y4, y5, rfl, s3⟩
    exact q H3 (s02.trans s3)
/-! ### rows_of, result_of, run_plan, source_lines -/
abbrev srows_of : Stmt := topS 34
abbrev nrows_of : List Str := ["crowd", "line", "row"]
abbrev prows_of : List Str := ["crowd"]
theorem scrows_of : FnScope nrows_of prows_of (defScope srows_of) := ⟨rfl, rfl, rfl, by decide +kernel, rfl, by decide +kernel, by decide +kernel⟩
-- slots: 0 crowd 1 line~ 2 row~
/-- a dict of the crowd's rows, in its order -/
abbrev KvsAt (H : Hp) (kvs : List (Key × V)) (c : Crowd) : Prop := Paired (fun (kv : Key × V) (p : Str × List Int) => kv.1 = Sum.inr p.1 ∧ ∃ b, kv.2 = V.ref b ∧ TupAt H b (iv p.2)) kvs c
theorem KvsAt.fz {H H' : Hp} {kvs : List (Key × V)} {c : Crowd} (s : Fz H H') (h : KvsAt H kvs c) : KvsAt H' kvs c := Paired.mapP h fun _ _ ⟨e, b, e1, e2⟩ => ⟨e, b, e1, e2.fz s⟩
theorem KvsAt.dmap {H : Hp} : ∀ {kvs : List (Key × V)} {c : Crowd}, KvsAt H kvs c → DMap H kvs (fOf c)
  | _, _, .nil => fun s => ⟨fun v e => by simp [valV] at e, fun _ => rfl⟩
  | _, _, .cons (a := kv) (b := p) (l₁ := kvs) (l₂ := c) ⟨e, b, e1, e2⟩ t => fun s => by
    by_cases h : p.1 = s
    · have hk : kv.1 = (Sum.inr s : Key) := by rw [e, h]
      rw [valV_pos hk]
      unfold fOf
      rw [if_pos h]
      exact ⟨fun v ev => ⟨b, by rw [← Option.some.inj ev]; exact e1, e2⟩, fun z => by cases z⟩
    · have hk : ¬ kv.1 = (Sum.inr s : Key) := fun z => h (by rw [e] at z; exact Sum.inr.inj z)
      rw [valV_neg hk]
      unfold fOf
      rw [if_neg h]
      exact KvsAt.dmap t s
theorem putK_new {kvs : List (Key × V)} {k : Key} {v : V} (h : ∀ kv ∈ kvs, ¬ kv.1 = k) : putK kvs k v = kvs ++ [(k, v)] := by
  unfold putK
  rw [if_neg]
  rw [List.any_eq_true]
  rintro ⟨kv, hm, e⟩
  exact h kv hm (of_decide_eq_true e)
theorem paired_mem {α β : Type} {F : α → β → Prop} : ∀ {xs : List α} {ys : List β} {x : α}, Paired F xs ys → x ∈ xs → ∃ y ∈ ys, F x y
  | _, _, _, .nil, h => by simp at h
  | _, _, x, .cons (a := a) (b := b) h1 h2, h => by
    rcases List.mem_cons.mp h with rfl | h
    · exact ⟨b, List.mem_cons_self, h1⟩
    · obtain ⟨y, hy, f⟩ := paired_mem h2 h
      exact ⟨y, List.mem_cons_of_mem _ hy, f⟩
def spRowsOf : Sp := fun vs H Q _ => ∃ (a : Addr) (c : Crowd), vs = [.ref a] ∧ CrowdAt H a c ∧ okCrowd c ∧ ∀ H' d kvs, Same H H' → H d = none → H' d = some (.dK kvs) → KvsAt H' kvs c → Q (.ref d) H'
theorem d_rows_of (B : Bn mg) (E : Ent K mg "rows_of" srows_of) : Df P w K mg base 1 "rows_of" prows_of spRowsOf := by
  refine E.df scrows_of (fun _ _ _ _ _ _ us hl => match us, hl with | [_], _ => rfl) (fun vs H Q E h => ?_) (fun f cdv A outer s H vs Q E hr h => ?_)
  · obtain ⟨a, c, rfl, _⟩ := h
    rfl
  obtain ⟨a, c, rfl, ⟨vs, hT, hvl, hvs⟩, ok, q⟩ := h
  refine ⟨_, pss_one (ps_ret (pe_dc (own := [("line", 1), ("row", 2)]) rfl scrows_of.nd (pi_tupK K (pv 0)) (blkOk_by (N := nrows_of) (sc := defScope srows_of) (by decide +kernel)) (fun _ _ _ _ _ => (pg_tupK K (n := 2) rfl (pgs_cons (pg_name (i := 1) scrows_of.nd rfl (Or.inl rfl)) (pgs_cons (pg_name (i := 2) scrows_of.nd rfl (Or.inl rfl)) pgs_nil)))) (fun _ _ _ _ _ => pts_nil) (fun _ _ _ _ _ => (pv 1)) (fun _ _ _ _ _ => (pv 2)))), ?_⟩
  refine ⟨_, rfl, a, rfl, ⟨_, hT.sq⟩, fun D hD => ?_⟩
  refine walk_out (walk_tup (K := K) (xs := vs)) (fun i H' => ∃ kvs, Same H H' ∧ H' D = some (.dK kvs) ∧ KvsAt H' kvs (c.take i)) ⟨[], same_up hD, upd_same, .nil⟩ (fun i H' _ ⟨_, s', _⟩ => (hT.mono s').sq) ?_ ?_
  · rintro i x H3 H4 hi ⟨kvs, s3, hD3, hk3⟩ ⟨rfl, hx⟩
    have hic : i < c.length := by omega
    have ec : c[i]? = some c[i] := List.getElem?_eq_getElem hic
    obtain ⟨xv, exv, t', b, rfl, hTt, hTb⟩ := hvs i c[i] ec
    rw [hx] at exv
    cases exv
    refine g_pair (hTt.mono s3).sq ⟨rfl, tyes ?_⟩
    have hkl := Paired.length hk3
    rw [List.length_take] at hkl
    refine ⟨_, rfl, _, rfl, kvs, Sum.inr c[i].1, rfl, hD3, szl (by have := ok.len; omega), kvs ++ [(Sum.inr c[i].1, .ref b)], same_mut s3 hD, ?_, ?_⟩
    · have hnew : ∀ kv ∈ kvs, ¬ kv.1 = (Sum.inr c[i].1 : Key) := by
        intro kv hm e
        obtain ⟨p, hp, e1, _⟩ := paired_mem hk3 hm
        rw [e] at e1
        have e1 := Sum.inr.inj e1
        obtain ⟨j, hj, rfl⟩ := List.getElem_of_mem hp
        rw [List.length_take] at hj
        rw [List.getElem_take] at e1
        have hlt : j < i := by omega
        exact sLt_ne (asc_get ok.asc hlt (by rw [List.getElem?_map, List.getElem?_eq_getElem (by omega)] <;> rfl) (by rw [List.getElem?_map, ec] <;> rfl)) e1.symm
      rw [upd_same, putK_new hnew]
    · rw [List.take_add_one, ec]
      refine (hk3.fz (fz_dK hD3)).snoc ⟨rfl, b, rfl, (hTb.mono s3).fz (fz_dK hD3)⟩
  · rintro H3 ⟨kvs, s3, hD3, hk3⟩
    rw [hvl, List.take_length] at hk3
    exact q H3 D kvs s3 hD hD3 hk3
abbrev sresult_of : Stmt := topS 35
abbrev nresult_of : List Str := ["plan", "crowd"]
abbrev presult_of : List Str := ["plan", "crowd"]
theorem scresult_of : FnScope nresult_of presult_of (defScope sresult_of) := ⟨rfl, rfl, rfl, by decide +kernel, rfl, by decide +kernel, by decide +kernel⟩
-- slots: 0 plan 1 crowd
def spResult : Sp := fun vs H Q _ => ∃ (v : V) (a : Addr) (t : T) (c : Crowd), vs = [v, .ref a] ∧ PlanAt H v t ∧ CrowdAt H a c ∧ okBoth t c ∧ ∀ H' q1 out, Same H H' → Out (fOf c) t out → TupAt H' q1 (iv (out.map (·.1))) → Q (.ref q1) H'
theorem okBoth.folk {t : T} {c : Crowd} (ok : okBoth t c) : ((folkOf (fOf c) t.leaves).map (·.1)).Nodup ∧ (folkOf (fOf c) t.leaves).length ≤ 100 := by
  obtain ⟨h1, h2⟩ := crowd_folk ok.crowd.nd ok.plan.2.1
  exact ⟨h1, by have := ok.crowd.many; omega⟩
theorem d_result_of (E : Ent K mg "result_of" sresult_of) (Doutcome_of : Df P w K mg base 9 "outcome_of" poutcome_of (spOutcome 8)) (Drows_of : Df P w K mg base 1 "rows_of" prows_of spRowsOf) : Df P w K mg base 10 "result_of" presult_of spResult := by
  refine E.df scresult_of (fun _ _ _ _ _ _ us hl => match us, hl with | [_, _], _ => rfl) (fun vs H Q E h => ?_) (fun f cdv A outer s H vs Q E hr h => ?_)
  · obtain ⟨v, a, t, c, rfl, _⟩ := h
    rfl
  obtain ⟨v, a, t, c, rfl, hp, hc, ok, q⟩ := h
  refine ⟨_, pss_one (ps_ret (pe_ix (ix_tupK K) (pe_df Doutcome_of (hr.mono (by decide)) rfl (pa_cons (pv 0) (pa_cons (pe_df Drows_of (hr.mono (by decide)) rfl (pa_cons (pv 1) pa_nil)) pa_nil))) pe_int (fun _ _ => rfl))), ?_⟩
  have hd := depth_lt ok.plan.1
  have h8 := ok.plan.2.2
  refine ⟨_, rfl, _, rfl, a, c, rfl, hc, ok.crowd, fun H1 d kvs s1 _ hD hk => ?_⟩
  refine ⟨v, d, t, fOf c, rfl, hp.fz (fz_same s1), ok.plan.1, h8, by omega, ⟨kvs, hD, hk.dmap⟩, ok.folk.1, ok.folk.2, fun H2 y out s2 ho ⟨p, q1, q2, ey, hT, h1, h2⟩ => ?_⟩
  subst ey
  exact ⟨p, _, _, _, rfl, rfl, hT.sq, atI_nat (j := 0) rfl, q H2 q1 out (s1.trans s2) ho h1⟩
abbrev srun_plan : Stmt := topS 36
abbrev nrun_plan : List Str := ["plan", "crowd"]
abbrev prun_plan : List Str := ["plan", "crowd"]
theorem scrun_plan : FnScope nrun_plan prun_plan (defScope srun_plan) := ⟨rfl, rfl, rfl, by decide +kernel, rfl, by decide +kernel, by decide +kernel⟩
-- slots: 0 plan 1 crowd
theorem d_run_plan (E : Ent K mg "run_plan" srun_plan) (Dcheck_plan : Df P w K mg base 11 "check_plan" pcheck_plan spCheckPlan) (Dcheck_crowd : Df P w K mg base 9 "check_crowd" pcheck_crowd spCheckCrowd) (Dresult_of : Df P w K mg base 10 "result_of" presult_of spResult) : Df P w K mg base 12 "run_plan" prun_plan spResult := by
  refine E.df scrun_plan (fun _ _ _ _ _ _ us hl => match us, hl with | [_, _], _ => rfl) (fun vs H Q E h => ?_) (fun f cdv A outer s H vs Q E hr h => ?_)
  · obtain ⟨v, a, t, c, rfl, _⟩ := h
    rfl
  obtain ⟨v, a, t, c, rfl, hp, hc, ok, q⟩ := h
  refine ⟨_, pss_cons (ps_expr (pe_df Dcheck_plan (hr.mono (by decide)) rfl (pa_cons (pv 0) pa_nil)))
      (pss_cons (ps_expr (pe_df Dcheck_crowd (hr.mono (by decide)) rfl (pa_cons (pv 0) (pa_cons (pv 1) pa_nil))))
      (pss_one (ps_ret (pe_df Dresult_of (hr.mono (by decide)) rfl (pa_cons (pv 0) (pa_cons (pv 1) pa_nil)))))), ?_⟩
  refine ⟨_, rfl, v, t, rfl, hp, ok.plan, fun H1 s1 => ?_⟩
  refine ⟨_, rfl, _, rfl, v, a, t, c, rfl, hp.fz (fz_same s1), hc.fz (fz_same s1), ok, fun H2 s2 => ?_⟩
  have s02 := s1.trans s2
  exact ⟨_, rfl, _, rfl, v, a, t, c, rfl, hp.fz (fz_same s02), hc.fz (fz_same s02), ok, fun H3 q1 out s3 ho h1 => q H3 q1 out (s02.trans s3) ho h1⟩
abbrev ssource_lines : Stmt := topS 37
abbrev nsource_lines : List Str := ["plan", "crowd"]
abbrev psource_lines : List Str := ["plan", "crowd"]
theorem scsource_lines : FnScope nsource_lines psource_lines (defScope ssource_lines) := ⟨rfl, rfl, rfl, by decide +kernel, rfl, by decide +kernel, by decide +kernel⟩
-- slots: 0 plan 1 crowd
def spSource : Sp := fun vs H Q _ => ∃ (v : V) (a : Addr) (t : T) (c : Crowd), vs = [v, .ref a] ∧ PlanAt H v t ∧ CrowdAt H a c ∧ okBoth t c ∧ ∀ H' q2 out, Same H H' → Out (fOf c) t out → TupAt H' q2 (sv (out.map (·.2))) → Q (.ref q2) H'
theorem d_source_lines (E : Ent K mg "source_lines" ssource_lines) (Dcheck_plan : Df P w K mg base 11 "check_plan" pcheck_plan spCheckPlan) (Dcheck_crowd : Df P w K mg base 9 "check_crowd" pcheck_crowd spCheckCrowd) (Doutcome_of : Df P w K mg base 9 "outcome_of" poutcome_of (spOutcome 8)) (Drows_of : Df P w K mg base 1 "rows_of" prows_of spRowsOf) :
    Df P w K mg base 12 "source_lines" psource_lines spSource := by
  refine E.df scsource_lines (fun _ _ _ _ _ _ us hl => match us, hl with | [_, _], _ => rfl) (fun vs H Q E h => ?_) (fun f cdv A outer s H vs Q E hr h => ?_)
  · obtain ⟨v, a, t, c, rfl, _⟩ := h
    rfl
  obtain ⟨v, a, t, c, rfl, hp, hc, ok, q⟩ := h
  refine ⟨_, pss_cons (ps_expr (pe_df Dcheck_plan (hr.mono (by decide)) rfl (pa_cons (pv 0) pa_nil)))
      (pss_cons (ps_expr (pe_df Dcheck_crowd (hr.mono (by decide)) rfl (pa_cons (pv 0) (pa_cons (pv 1) pa_nil))))
      (pss_one (ps_ret (pe_ix (ix_tupK K) (pe_df Doutcome_of (hr.mono (by decide)) rfl (pa_cons (pv 0) (pa_cons (pe_df Drows_of (hr.mono (by decide)) rfl (pa_cons (pv 1) pa_nil)) pa_nil))) pe_int (fun _ _ => rfl))))), ?_⟩
  have hd := depth_lt ok.plan.1
  have h8 := ok.plan.2.2
  refine ⟨_, rfl, v, t, rfl, hp, ok.plan, fun H1 s1 => ?_⟩
  refine ⟨_, rfl, _, rfl, v, a, t, c, rfl, hp.fz (fz_same s1), hc.fz (fz_same s1), ok, fun H2 s2 => ?_⟩
  have s02 := s1.trans s2
  refine ⟨_, rfl, _, rfl, a, c, rfl, hc.fz (fz_same s02), ok.crowd, fun H3 d kvs s3 _ hD hk => ?_⟩
  have s03 := s02.trans s3
  refine ⟨v, d, t, fOf c, rfl, hp.fz (fz_same s03), ok.plan.1, h8, by omega, ⟨kvs, hD, hk.dmap⟩, ok.folk.1, ok.folk.2, fun H4 y out s4 ho ⟨p, q1, q2, ey, hT, h1, h2⟩ => ?_⟩
  subst ey
  exact ⟨p, _, _, _, rfl, rfl, hT.sq, atI_nat (j := 1) rfl, q H4 q2 out (s03.trans s4) ho h2⟩
end
end K46

namespace K46
open PySem PySem.Spec PyProof.Rows L2
section
variable {P : Program} {w : World} {K : PySem.W.Frag} {mg : Str → Option Value} {base : Heap}
abbrev sexchanged : Stmt := topS 38
abbrev nexchanged : List Str := ["plan", "crowd", "line", "height", "rows", "people", "before", "after", "found", "index", "first", "second", "row", "person"]
abbrev pexchanged : List Str := ["plan", "crowd", "line", "height"]
theorem scexchanged : FnScope nexchanged pexchanged (defScope sexchanged) := ⟨rfl, rfl, rfl, by decide +kernel, rfl, by decide +kernel, by decide +kernel⟩
-- slots: 0 plan 1 crowd 2 line 3 height 4 rows 5 people 6 before 7 after 8 found 9 index 10 first 11 second 12 row~ 13 person~
def spExchanged : Sp := fun vs H Q _ => ∃ (v : V) (a : Addr) (t : T) (c : Crowd) (L : Str) (h : Int) (k : Str), vs = [v, .ref a, .str L, .int h] ∧ PlanAt H v t ∧ CrowdAt H a c ∧ okBoth t c ∧ L ∈ t.leaves ∧ okH h ∧ h ∉ folks c ∧ (folks c).length < 40 ∧ t.one k ∧
  ∀ H' p, Same H H' → TupAt H' p [] → Q (.ref p) H'
theorem d_exchanged (B : Bn mg) (E : Ent K mg "exchanged" sexchanged) (Dcheck_plan : Df P w K mg base 11 "check_plan" pcheck_plan spCheckPlan) (Dcheck_crowd : Df P w K mg base 9 "check_crowd" pcheck_crowd spCheckCrowd) (Dlines_in : Df P w K mg base 8 "lines_in" plines_in (spLines 8))
    (Dis_height : Df P w K mg base 2 "is_height" pis_height spHeight) (Doutcome_of : Df P w K mg base 9 "outcome_of" poutcome_of (spOutcome 8)) (Drows_of : Df P w K mg base 1 "rows_of" prows_of spRowsOf) : Df P w K mg base 12 "exchanged" pexchanged spExchanged := by
  refine E.df scexchanged (fun _ _ _ _ _ _ us hl => match us, hl with | [_, _, _, _], _ => rfl) (fun vs H Q E h => ?_) (fun f cdv A outer s H vs Q E hr h => ?_)
  · obtain ⟨v, a, t, c, L, h, k, rfl, _⟩ := h
    rfl
  obtain ⟨v, a, t, c, L, h, k, rfl, hp, hc, ok, hL, hh, hnew, h40, hone, q⟩ := h
  refine ⟨_, pss_cons (ps_expr (pe_df Dcheck_plan (hr.mono (by decide)) rfl (pa_cons (pv 0) pa_nil)))
      (pss_cons (ps_expr (pe_df Dcheck_crowd (hr.mono (by decide)) rfl (pa_cons (pv 0) (pa_cons (pv 1) pa_nil))))
      (pss_cons (ps_if (pt_cmpR (op_notIn_seqK K) (pv 2) (pe_df Dlines_in (hr.mono (by decide)) rfl (pa_cons (pv 0) pa_nil)) (by with_unfolding_all rfl)) (pss_one (ps_never)) pss_nil)
      (pss_cons (ps_if (pt_not (pt_val (pe_df Dis_height (hr.mono (by decide)) rfl (pa_cons (pv 3) pa_nil)))) (pss_one (ps_never)) pss_nil)
      (pss_cons (ps_set (i := 4) scexchanged.nd rfl (Or.inl rfl) (pe_df Drows_of (hr.mono (by decide)) rfl (pa_cons (pv 1) pa_nil)))
      (pss_cons (ps_lock (ps_setLc2 (i := 5) (own := [("row", 12), ("person", 13)]) (vs1 := [13]) rfl scexchanged.nd rfl rfl (sw_true rfl rfl rfl (by decide +kernel)) (pi_values (pv 4)) (blkOk_by (N := nexchanged) (sc := defScope sexchanged) (by decide +kernel)) (by decide) (fun _ _ _ _ _ => (pg_name (i := 12) scexchanged.nd rfl (Or.inl rfl))) (fun _ _ _ _ _ => pts_nil) (fun _ _ _ _ _ => (pi_tupK K (pv 12))) (fun _ _ _ _ _ => (pg_name (i := 13) scexchanged.nd rfl (Or.inl rfl))) (fun _ _ _ _ _ => pts_nil) (fun _ _ _ _ _ => (pv 13))))
      (pss_cons (ps_if (pt_cmpR (op_in_seqK K) (pv 3) (pv 5) (by with_unfolding_all rfl)) (pss_one (ps_never)) pss_nil)
      (pss_cons (ps_if (pt_cmpR op_eq (pe_callB (call_len_seqK K) (by rfl) B.len b_len (pa_cons (pv 5) pa_nil)) (pe_kI rfl B.mostP) (nomark _)) (pss_one (ps_never)) pss_nil)
      (pss_cons (ps_set (i := 6) scexchanged.nd rfl (Or.inl rfl) (pe_ix (ix_tupK K) (pe_df Doutcome_of (hr.mono (by decide)) rfl (pa_cons (pv 0) (pa_cons (pv 4) pa_nil))) pe_int (fun _ _ => rfl)))
      (pss_cons (ps_dput (hu_of hr) (pv 4) (pv 2) (pe_op op_catF (pe_dget2 (hu_of hr) (pv 4) (pv 2) (pe_tupF pa_nil) ⟨rfl, rfl, rfl, rfl⟩) (pe_tupF (pa_cons (pv 3) pa_nil))) rfl)
      (pss_cons (ps_set (i := 7) scexchanged.nd rfl (Or.inl rfl) (pe_ix (ix_tupK K) (pe_df Doutcome_of (hr.mono (by decide)) rfl (pa_cons (pv 0) (pa_cons (pv 4) pa_nil))) pe_int (fun _ _ => rfl)))
      (pss_cons (ps_set (i := 8) scexchanged.nd rfl (Or.inl rfl) (pe_lstS pa_nil))
      (pss_cons (ps_for PassesOwn.never rfl (pi_enumT rfl B.enumerate (pa_cons (pv 6) pa_nil)) (pg_tupK K (n := 2) rfl (pgs_cons (pg_name (i := 9) scexchanged.nd rfl (Or.inl rfl)) (pgs_cons (pg_name (i := 10) scexchanged.nd rfl (Or.inl rfl)) pgs_nil))) (pss_one (ps_for PassesOwn.never rfl (pi_tupK K (pe_slice sl_tupF (pv 6) (po_some (pe_op op_add (pv 9) pe_int)) po_none)) (pg_name (i := 11) scexchanged.nd rfl (Or.inl rfl)) (pss_one (ps_if (pt_cmpR op_gt (pe_idx (pv 7) (pa_cons (pv 10) pa_nil)) (pe_idx (pv 7) (pa_cons (pv 11) pa_nil)) (nomark _)) (pss_one (ps_expr (pe_bmK K PySem.F.plainAttrs_list PySem.F.slot_list_append PySem.F.type_list_append mt_append (pv 8) (pa_cons (pe_tupF (pa_cons (pv 10) (pa_cons (pv 11) pa_nil))) pa_nil)))) pss_nil)))))
      (pss_one (ps_ret (pe_callTy (call_tupFK K) (by rfl) B.tuple b_tuple (pa_cons (pe_callB cr_sortedI (by rfl) B.sorted b_sorted (pa_cons (pv 8) pa_nil)) pa_nil)))))))))))))))), ?_⟩
  have hd := depth_lt ok.plan.1
  have h8 := ok.plan.2.2
  refine ⟨_, rfl, v, t, rfl, hp, ok.plan, fun H1 s1 => ?_⟩
  refine ⟨_, rfl, _, rfl, v, a, t, c, rfl, hp.fz (fz_same s1), hc.fz (fz_same s1), ok, fun H2 s2 => ?_⟩
  have s02 := s1.trans s2
  -- line in lines_in(plan)
  refine ⟨_, rfl, _, rfl, v, t, rfl, hp.fz (fz_same s02), ok.plan.1, h8, by omega, fun H3 p3 ys s3 hT3 hperm => ?_⟩
  have s03 := s02.trans s3
  refine ⟨p3, _, rfl, .inr hT3.sq, rfl, flat_sv ys, false, ?_, iteF ?_⟩
  · show V.bl (!inV _ _) = V.bl false
    rw [in_sv, decide_eq_true (hperm.mem_iff.mpr hL)]
    rfl
  refine ⟨_, rfl, h, rfl, hh, true, rfl, iteF ?_⟩
  -- rows
  refine ⟨_, rfl, a, c, rfl, hc.fz (fz_same s03), ok.crowd, fun H4 d kvs s4 hdn hD hk => ?_⟩
  have s04 := s03.trans s4
  have hkl := Paired.length hk
  -- people
  refine ⟨d, .dK kvs, hD, trivial, fun od => ?_⟩
  have eL : (upd H4 d (.frz od (.dK kvs))) d = some (.frz od (.dK kvs)) := upd_same
  have nL : ∀ b, b ≠ d → (upd H4 d (.frz od (.dK kvs))) b = H4 b := fun b hb => upd_ne hb
  generalize upd H4 d (.frz od (.dK kvs)) = HL at eL nL
  have dT : ∀ {b : Addr} {xs : List V}, TupAt H4 b xs → TupAt HL b xs := fun {b xs} ⟨o, e1, e2⟩ => ⟨o, e1, by rw [nL b (fun z => by rw [z, hD] at e2; cases e2)]; exact e2⟩
  refine ⟨_, rfl, d, od, kvs, rfl, eL, fun D hDn => ?_⟩
  have dD : D ≠ d := fun z => by rw [z, eL] at hDn; cases hDn
  refine lc2_out walk_values (fun i H' => Same HL H' ∧ H' D = some (.lst (iv (folks (c.take i))))) ⟨same_up hDn, upd_same⟩ (fun i H' _ hH => hH.1 _ _ eL) ?_ ?_
  · rintro i x H5 H6 hi ⟨s5, hD5⟩ ⟨rfl, kk, hx⟩
    have hic : i < c.length := by omega
    have ec : c[i]? = some c[i] := List.getElem?_eq_getElem hic
    obtain ⟨_, b, eb, hTb⟩ := paired_get hk hx ec
    have eb : x = V.ref b := eb
    subst eb
    have hTb5 := (dT hTb).mono s5
    have hsub := folks_sub ec
    have hlen : (folks (c.take i) ++ c[i].2).length ≤ 40 := Nat.le_trans hsub.length_le ok.crowd.many
    refine ⟨rfl, tyes ?_⟩
    refine ⟨_, rfl, b, rfl, ⟨_, hTb5.sq⟩, lc2_in (walk_tup (K := K) (xs := iv c[i].2)) (fun j H' => Same HL H' ∧ H' D = some (.lst (iv (folks (c.take i) ++ c[i].2.take j)))) ⟨s5, by rw [List.take_zero, List.append_nil]; exact hD5⟩ (fun j H' _ hH => ((dT hTb).mono hH.1).sq) ?_ ?_⟩
    · rintro j y H6 H7 hj ⟨s6, hD6⟩ ⟨rfl, hy6⟩
      obtain ⟨z, ez, rfl⟩ := map_get hy6
      refine ⟨rfl, tyes ⟨_, rfl, _, hD6, szl ?_, same_mut s6 hDn, ?_⟩⟩
      · rw [List.length_append] at hlen
        rw [List.length_map, List.length_append, List.length_take]
        omega
      · rw [upd_same, List.take_add_one, ez]
        simp [iv]
    · rintro H6 ⟨s6, hD6⟩
      refine ⟨s6, ?_⟩
      rw [List.length_map, List.take_length] at hD6
      rw [folks_take ec]
      exact hD6
  rintro H5 ⟨s5, hD5⟩
  rw [hkl, List.take_length] at hD5
  refine ⟨s5 _ _ eL, ?_⟩
  have s45 : Same H4 (upd H5 d (.dK kvs)) := fun b o e => by
    by_cases hb : b = d
    · subst hb
      rw [upd_same, ← hD, e]
    · rw [upd_ne hb]
      exact s5 b o (by rw [nL b hb]; exact e)
  have eD5 : (upd H5 d (.dK kvs)) D = some (.lst (iv (folks c))) := by rw [upd_ne dD]; exact hD5
  generalize upd H5 d (.dK kvs) = H6 at s45 eD5
  clear hD5 s5 hDn dT nL eL
  refine ⟨_, rfl, _, rfl, D, _, rfl, .inl (SqL.of eD5), rfl, flat_intsV _, false, ?_, iteF ?_⟩
  · show V.bl (inV _ _) = V.bl false
    rw [in_iv, decide_eq_false hnew]
  refine ⟨_, rfl, D, _, rfl, .inl (SqL.of eD5), rfl, false, congrArg V.bl (decide_eq_false (by
    intro e
    have e := V.int.inj e
    rw [List.length_map] at e
    omega)), iteF ?_⟩
  -- before
  have s06 := s04.trans s45
  have hD6 := s45 _ _ hD
  have hk6 := hk.fz (fz_same s45)
  refine ⟨_, rfl, _, rfl, v, d, t, fOf c, rfl, hp.fz (fz_same s06), ok.plan.1, h8, by omega, ⟨kvs, hD6, hk6.dmap⟩, ok.folk.1, ok.folk.2, fun H7 y7 out s7 hout ⟨p7, q7, r7, ey, hT7, hq7, _⟩ => ?_⟩
  subst ey
  refine ⟨p7, _, _, _, rfl, rfl, hT7.sq, atI_nat (j := 0) rfl, ?_⟩
  -- rows[line] = rows.get(line, ()) + (height,)
  have s07 := s06.trans s7
  have hD7 := s7 _ _ hD6
  have hm7 := (hk6.fz (fz_same s7)).dmap
  refine ⟨_, rfl, d, rfl, .inl ⟨kvs, .inl hD7⟩, _, rfl, Nat.zero_le _, fun p0 H8 hp0 s8 hT0 => ⟨_, DGet.k (k := Sum.inr L) (s8 _ _ hD7), ?_⟩⟩
  have hrow : ∃ b, (valV kvs (Sum.inr L)).getD (.ref p0) = .ref b ∧ TupAt H8 b (iv (fOf c L)) := by
    cases e : valV kvs (Sum.inr L) with
    | none =>
      rw [(hm7 L).2 e]
      exact ⟨p0, rfl, hT0⟩
    | some v =>
      obtain ⟨b, e1, e2⟩ := (hm7 L).1 v e
      exact ⟨b, e1, e2.mono s8⟩
  obtain ⟨b, eb, hTb⟩ := hrow
  rw [eb]
  have hfl : (fOf c L).length ≤ 40 := Nat.le_trans ((fOf_nodup ok.crowd.nd).length_le_of_subset fun x hx => fOf_mem hx) ok.crowd.many
  refine ⟨_, rfl, by show 1 ≤ sizeLine; decide, fun p9 H9 hp9 s9 hT9 => ?_⟩
  refine ⟨b, p9, _, _, rfl, rfl, hTb.mono s9, hT9, sze (by rw [List.length_map]; show _ + 1 ≤ _; omega), fun p10 H10 s10 hT10 => ?_⟩
  have s710 := (s8.trans s9).trans s10
  have hD10 := s710 _ _ hD7
  have hkvl : kvs.length ≤ 8 := by have := ok.crowd.len; omega
  refine ⟨_, rfl, _, rfl, d, _, rfl, DPut.k (k := Sum.inr L) hD10 (szl (by omega)), ?_⟩
  have eD11 : (upd H10 d (.dK (putK kvs (Sum.inr L) (.ref p10)))) d = some (.dK (putK kvs (Sum.inr L) (.ref p10))) := upd_same
  have z11 : Fz H10 (upd H10 d (.dK (putK kvs (Sum.inr L) (.ref p10)))) := fz_dK hD10
  have s011 : Same H (upd H10 d (.dK (putK kvs (Sum.inr L) (.ref p10)))) := same_mut (s07.trans s710) (s03.free hdn)
  generalize upd H10 d (.dK (putK kvs (Sum.inr L) (.ref p10))) = H11 at eD11 z11 s011
  have z711 : Fz H7 H11 := (fz_same s710).trans z11
  have hm11 : DMap H11 (putK kvs (Sum.inr L) (.ref p10)) (fUp (fOf c) L h) := fun z => by
    rw [valV_put]
    by_cases hz : z = L
    · subst hz
      rw [if_pos rfl, fUp_at]
      refine ⟨fun v e => ⟨p10, (Option.some.inj e).symm, ?_⟩, fun e => by cases e⟩
      have e : iv (fOf c z ++ [h]) = iv (fOf c z) ++ [V.int h] := by simp [iv]
      rw [e]
      exact hT10.fz z11
    · rw [if_neg (fun e => hz (Sum.inr.inj e)), fUp_ne _ _ _ _ hz]
      exact (hm7.fz z711) z
  obtain ⟨hnd2, hln2⟩ := up_folk ok.crowd.nd ok.plan.2.1 hnew
  refine ⟨_, rfl, _, rfl, v, d, t, fUp (fOf c) L h, rfl, hp.fz (fz_same s011), ok.plan.1, h8, by omega, ⟨_, eD11, hm11⟩, hnd2, by omega, fun H12 y12 out2 s12 hout2 ⟨p12, q12, r12, ey2, hT12, hq12, _⟩ => ?_⟩
  subst ey2
  refine ⟨p12, _, _, _, rfl, rfl, hT12.sq, atI_nat (j := 0) rfl, ?_⟩
  refine ⟨Nat.zero_le _, fun F H13 hF s13 eF => ?_⟩
  obtain ⟨pp, qq, e1, e2, _⟩ := out_ins (fUp_at (fOf c) L h) (fUp_ne (fOf c) L h) ok.plan.2.1 hL hone hout hout2
  have ebs : out.map (·.1) = pp.map (·.1) ++ qq.map (·.1) := by rw [e1, List.map_append]
  have eas : out2.map (·.1) = pp.map (·.1) ++ h :: qq.map (·.1) := by rw [e2, List.map_append, List.map_cons]
  rw [ebs] at hq7
  rw [eas] at hq12
  have hndA : (pp.map (·.1) ++ h :: qq.map (·.1)).Nodup := by
    rw [← eas]
    exact ((out_perm hout2).map (fun x : Ps => x.1)).nodup_iff.mpr hnd2
  generalize hbs : pp.map (·.1) ++ qq.map (·.1) = bs at hq7
  generalize has : pp.map (·.1) ++ h :: qq.map (·.1) = as at hq12 hndA
  have pos : ∀ (i : Nat) z, bs[i]? = some z → as[shift (pp.map (·.1)).length i]? = some z := fun i z e => by
    rw [← has, shift_get, hbs]
    exact e
  have s713 : Fz H7 H13 := z711.trans (fz_same (s12.trans s13))
  have hq7a := hq7.fz s713
  have hq12a := hq12.mono s13
  have s013 : Same H H13 := (s011.trans s12).trans s13
  refine ⟨_, rfl, q7, _, rfl, hq7a, for_it walk_enumT (fun i σ H' => ∃ (y9 y10 y11 : Option V), σ = [some v, some (.ref a), some (.str L), some (.int h), some (.ref d), some (.ref D), some (.ref q7), some (.ref q12), some (.ref F), y9, y10, y11, none, none] ∧ Same H13 H')
    ⟨none, none, none, rfl, Same.refl _⟩ (fun i σ H' _ ⟨_, _, _, _, s'⟩ => hq7a.mono s') ?_ ?_⟩
  · rintro i x σ H14 H15 hi ⟨y9, y10, y11, rfl, s14⟩ hy
    rw [List.length_map] at hi
    refine g_new hy rfl (get_iv hi) fun s15 => ?_
    have s135 := s14.trans s15
    refine ⟨_, rfl, _, rfl, _, _, rfl, rfl, _, rfl, q7, _, rfl, hq7a.mono s135, fun p16 H16 s16 hT16 => ?_⟩
    have ecut : cutV (iv bs) (some ((i : Int) + 1)) none = iv (bs.drop (i + 1)) := by
      rw [show ((i : Int) + 1) = ((i + 1 : Nat) : Int) by omega, cut_drop]
      show (List.map V.int bs).drop (i + 1) = List.map V.int (bs.drop (i + 1))
      rw [List.map_drop]
    rw [ecut] at hT16
    refine ⟨p16, rfl, ⟨_, hT16.sq⟩, for_tup (K := K) (a := p16) (xs := iv (bs.drop (i + 1))) (fun j σ H' => ∃ (y11 : Option V), σ = [some v, some (.ref a), some (.str L), some (.int h), some (.ref d), some (.ref D), some (.ref q7), some (.ref q12), some (.ref F), some (.int (i : Int)), some (.int bs[i]), y11, none, none] ∧ Same H16 H')
      ⟨y11, rfl, Same.refl _⟩ (fun j σ H' _ ⟨_, _, s'⟩ => (hT16.mono s').sq) ?_ ?_⟩
    · rintro j x σ H17 hx ⟨y11, rfl, s17⟩
      obtain ⟨z, ez, rfl⟩ := map_get hx
      rw [List.getElem?_drop] at ez
      have hq12b := hq12a.mono ((s135.trans s16).trans s17)
      have p1 := pos i bs[i] (List.getElem?_eq_getElem hi)
      have p2 := pos _ _ ez
      refine ⟨_, rfl, q12, _, rfl, hq12b, _, rfl, as, bs[i], _, rfl, hq12b, p1, first_place hndA p1, ?_⟩
      refine ⟨_, rfl, q12, _, rfl, hq12b, _, rfl, as, z, _, rfl, hq12b, p2, first_place hndA p2, ?_⟩
      refine ⟨_, _, rfl, rfl, false, congrArg V.bl (decide_eq_false ?_), iteF ⟨_, rfl, s17⟩⟩
      have := shift_lt (n := (pp.map (·.1)).length) (show i < i + 1 + j by omega)
      omega
    · rintro σ H17 ⟨y11, rfl, s17⟩
      exact ⟨_, _, _, rfl, (s135.trans s16).trans s17⟩
  · rintro σ H14 ⟨y9, y10, y11, rfl, s14⟩
    refine ⟨_, rfl, F, [], rfl, SqL.of (s14 _ _ eF), fun ns' p15 hperm' _ hp15 => ?_⟩
    have en : ns' = [] := hperm'.eq_nil
    subst en
    refine ⟨p15, _, rfl, SqL.of upd_same, fun l H15 hl s15 hT15 => ?_⟩
    exact q H15 l (((s013.trans s14).trans (same_up hp15)).trans s15) hT15
end
end K46

namespace K46
open PySem PySem.Spec PyProof.Rows L2
section
variable {P : Program} {w : World} {K : PySem.W.Frag} {mg : Str → Option Value} {base : Heap}
abbrev s_law_cell : Stmt := topS 40
abbrev n_law_cell : List Str := ["_law_script", "_law_k", "_law_state", "_law_number_here"]
abbrev p_law_cell : List Str := ["_law_script", "_law_k"]
theorem sc_law_cell : FnScope n_law_cell p_law_cell (defScope s_law_cell) := ⟨rfl, rfl, rfl, by decide +kernel, rfl, by decide +kernel, by decide +kernel⟩
-- slots: 0 _law_script 1 _law_k 2 _law_state 3 _law_number_here
abbrev s_law_pool : Stmt := topS 41
abbrev n_law_pool : List Str := ["_law_cell_here", "_law_digits"]
abbrev p_law_pool : List Str := ["_law_cell_here"]
theorem sc_law_pool : FnScope n_law_pool p_law_pool (defScope s_law_pool) := ⟨rfl, rfl, rfl, by decide +kernel, rfl, by decide +kernel, by decide +kernel⟩
-- slots: 0 _law_cell_here 1 _law_digits
abbrev s_law_draw : Stmt := topS 42
abbrev n_law_draw : List Str := ["_law_pool_here", "_law_upto", "_law_state", "_law_digit"]
abbrev p_law_draw : List Str := ["_law_pool_here", "_law_upto"]
theorem sc_law_draw : FnScope n_law_draw p_law_draw (defScope s_law_draw) := ⟨rfl, rfl, rfl, by decide +kernel, rfl, by decide +kernel, by decide +kernel⟩
-- slots: 0 _law_pool_here 1 _law_upto 2 _law_state 3 _law_digit
def PoolAt (H : Hp) (a : Addr) : Prop := ∃ s d n : Int, H a = some (.lst [.int s, .int d, .int n]) ∧ 0 ≤ s ∧ s < 2147483387 ∧ 0 ≤ d
theorem PoolAt.mono {H H' : Hp} {a : Addr} (s : Same H H') (h : PoolAt H a) : PoolAt H' a := by
  obtain ⟨x, d, n, e, r⟩ := h
  exact ⟨x, d, n, s _ _ e, r⟩
theorem PoolAt.fz {H H' : Hp} {a : Addr} (h : PoolAt H a) (b : But [a] H H') : Fz H H' := by
  obtain ⟨x, d, n, e, r⟩ := h
  exact b.fz e
theorem PoolAt.ne {H : Hp} {a D : Addr} (h : PoolAt H a) (hD : H D = none) : D ∉ [a] := by
  obtain ⟨x, d, n, e, r⟩ := h
  intro hm
  rw [List.mem_singleton.mp hm, e] at hD
  cases hD
theorem PoolAt.up {H : Hp} {a D : Addr} {o : HO} (h : PoolAt H a) (hD : D ∉ [a]) : PoolAt (upd H D o) a := by
  obtain ⟨x, d, n, e, r⟩ := h
  exact ⟨x, d, n, by rw [upd_ne (fun z => hD (by rw [z]; simp))]; exact e, r⟩
def spDraw : Sp := fun vs H Q _ => ∃ (a : Addr) (m : Int), vs = [.ref a, .int m] ∧ PoolAt H a ∧ 1 ≤ m ∧ m ≤ 100000 ∧ ∀ H' (i : Nat), But [a] H H' → PoolAt H' a → (i : Int) < m → Q (.int (i : Int)) H'
theorem d__law_draw (B : Bn mg) (E : Ent K mg "_law_draw" s_law_draw) : Df P w K mg base 1 "_law_draw" p_law_draw spDraw := by
  refine E.df sc_law_draw (fun _ _ _ _ _ _ us hl => match us, hl with | [_, _], _ => rfl) (fun vs H Q E h => ?_) (fun f cdv A outer s H vs Q E hr h => ?_)
  · obtain ⟨a, m, rfl, _⟩ := h
    rfl
  obtain ⟨a, m, rfl, ⟨x, d, n, e0, hx0, hx1, hd0⟩, hm1, hm2, q⟩ := h
  refine ⟨_, pss_cons (ps_asg (pe_op op_add (pe_ix (ix_listK K) (pv 0) pe_int (fun _ _ => rfl)) pe_int) (pg_sub (pv 0) pe_int set_list))
      (pss_cons (ps_set (i := 2) sc_law_draw.nd rfl (Or.inl rfl) (pe_ix (ix_listK K) (pv 0) pe_int (fun _ _ => rfl)))
      (pss_cons (ps_asg (pe_op op_mod (pe_op op_add (pe_op op_add (pe_op op_mul (pv 2) (pe_op op_add (pe_op op_mod (pv 2) pe_int) pe_int)) (pe_op op_mul pe_int (pe_ix (ix_listK K) (pv 0) pe_int (fun _ _ => rfl)))) pe_int) pe_int) (pg_sub (pv 0) pe_int set_list))
      (pss_cons (ps_if (pt_cmpR op_gt (pe_ix (ix_listK K) (pv 0) pe_int (fun _ _ => rfl)) pe_int (nomark _)) (pss_cons (ps_asg (pe_callB call_divmod (by rfl) B.divmod b_divmod (pa_cons (pe_ix (ix_listK K) (pv 0) pe_int (fun _ _ => rfl)) (pa_cons (pv 1) pa_nil))) (pg_tupK K (n := 2) rfl (pgs_cons (pg_sub (pv 0) pe_int set_list) (pgs_cons (pg_name (i := 3) sc_law_draw.nd rfl (Or.inl rfl)) pgs_nil))))
      (pss_one (ps_ret (pv 3)))) pss_nil)
      (pss_one (ps_ret (pe_op op_mod (pe_op op_fdiv (pe_ix (ix_listK K) (pv 0) pe_int (fun _ _ => rfl)) pe_int) (pv 1))))))), ?_⟩
  -- pool[2] = pool[2] + 1
  refine ⟨_, rfl, a, _, _, _, rfl, rfl, SqL.of e0, atI_nat (j := 2) rfl, _, _, rfl, rfl, _, rfl, a, _, _, 2, rfl, rfl, e0, ixN_nat (by show 2 < 3; decide), ?_⟩
  have e1 : (upd H a (.lst ([V.int x, V.int d, V.int n].set 2 (V.int (n + 1))))) a = some (.lst [V.int x, V.int d, V.int (n + 1)]) := upd_same
  have b1 : But [a] H (upd H a (.lst ([V.int x, V.int d, V.int n].set 2 (V.int (n + 1))))) := but_up (by simp)
  generalize upd H a (.lst ([V.int x, V.int d, V.int n].set 2 (V.int (n + 1)))) = H1 at e1 b1 ⊢
  -- state
  refine ⟨_, rfl, a, _, _, _, rfl, rfl, SqL.of e1, atI_nat (j := 0) rfl, ?_⟩
  refine ⟨_, rfl, _, rfl, _, _, rfl, rfl, (by show (0 : Int) < 43019; decide), _, _, rfl, rfl, _, _, rfl, rfl, .inl ⟨by omega, by omega⟩, _, rfl, a, _, _, _, rfl, rfl, SqL.of e1, atI_nat (j := 2) rfl, _, _, rfl, rfl, .inl ⟨by decide, by decide⟩, _, _, rfl, rfl, _, _, rfl, rfl, _, _, rfl, rfl, (by show (0 : Int) < 2147483387; decide),
    _, rfl, a, _, _, 0, rfl, rfl, e1, ixN_nat (by show 0 < 3; decide), ?_⟩
  have hy0 : 0 ≤ (x * (x % 43019 + 28001) + 80021 * (n + 1) + 7) % 2147483387 := Int.emod_nonneg _ (by decide)
  have hy1 : (x * (x % 43019 + 28001) + 80021 * (n + 1) + 7) % 2147483387 < 2147483387 := Int.emod_lt_of_pos _ (by decide)
  dsimp only
  generalize (x * (x % 43019 + 28001) + 80021 * (n + 1) + 7) % 2147483387 = y at hy0 hy1 ⊢
  have e2 : (upd H1 a (.lst ([V.int x, V.int d, V.int (n + 1)].set 0 (V.int y)))) a = some (.lst [V.int y, V.int d, V.int (n + 1)]) := upd_same
  have b2 : But [a] H (upd H1 a (.lst ([V.int x, V.int d, V.int (n + 1)].set 0 (V.int y)))) := b1.trans (but_up (by simp))
  generalize upd H1 a (.lst ([V.int x, V.int d, V.int (n + 1)].set 0 (V.int y))) = H2 at e2 b2 ⊢
  clear e1 b1
  -- if pool[1] > 0
  refine ⟨_, rfl, a, _, _, _, rfl, rfl, SqL.of e2, atI_nat (j := 1) rfl, _, _, rfl, rfl, _, rfl, ite2 (fun hd => ?_) (fun hd => ?_)⟩
  · have hd : 0 < d := of_decide_eq_true hd
    refine ⟨_, rfl, a, _, _, _, rfl, rfl, SqL.of e2, atI_nat (j := 1) rfl, _, rfl, d, m, rfl, ⟨by omega, by omega⟩, fun p hp => ?_⟩
    have npa : a ≠ p := ne_of_none e2 hp
    have e3 : (upd H2 p (.tup [V.int (d / m), V.int (d % m)])) a = some (.lst [V.int y, V.int d, V.int (n + 1)]) := by rw [upd_ne npa]; exact e2
    refine ⟨p, _, rfl, SqT.of upd_same, rfl, _, _, rfl, _, rfl, a, _, _, 1, rfl, rfl, e3, ixN_nat (by show 1 < 3; decide), _, _, rfl, rfl, _, rfl, ?_⟩
    have h0 : 0 ≤ d % m := Int.emod_nonneg _ (by omega)
    have h1 : d % m < m := Int.emod_lt_of_pos _ (by omega)
    obtain ⟨i, ei⟩ := Int.eq_ofNat_of_zero_le h0
    rw [ei] at h1 ⊢
    refine q _ i ?_ ⟨y, d / m, n + 1, upd_same, hy0, hy1, Int.ediv_nonneg hd0 (by omega)⟩ h1
    exact (b2.trans (but_same (same_up hp))).trans (but_up (by simp))
  · refine ⟨_, rfl, a, _, _, _, rfl, rfl, SqL.of e2, atI_nat (j := 0) rfl, _, _, rfl, rfl, ⟨by decide, by decide⟩, _, rfl, _, _, rfl, rfl, (by show (0 : Int) < m; omega), ?_⟩
    have h0 : 0 ≤ y / 64 % m := Int.emod_nonneg _ (by omega)
    have h1 : y / 64 % m < m := Int.emod_lt_of_pos _ (by omega)
    obtain ⟨i, ei⟩ := Int.eq_ofNat_of_zero_le h0
    rw [ei] at h1
    show Q (V.int (y / 64 % m)) H2
    rw [ei]
    exact q _ i b2 ⟨y, d, n + 1, e2, hy0, hy1, hd0⟩ h1
end
end K46

namespace K46
open PySem PySem.Spec PyProof.Rows L2
section
variable {P : Program} {w : World} {K : PySem.W.Frag} {mg : Str → Option Value} {base : Heap}
def spCell (K : PySem.W.Frag) : Sp := fun vs H Q _ => ∃ (a : Addr) (ns : List Int) (k : Nat), vs = [.ref a, .int (k : Int)] ∧ SqL K H a (iv ns) ∧ ns.length ≤ 63 ∧ k ≤ 10 ∧ ∀ H' i, Same H H' → Q (.int i) H'
theorem d__law_cell (B : Bn mg) (E : Ent K mg "_law_cell" s_law_cell) : Df P w K mg base 1 "_law_cell" p_law_cell (spCell K) := by
  refine E.df sc_law_cell (fun _ _ _ _ _ _ us hl => match us, hl with | [_, _], _ => rfl) (fun vs H Q E h => ?_) (fun f cdv A outer s H vs Q E hr h => ?_)
  · obtain ⟨a, ns, k, rfl, _⟩ := h
    rfl
  obtain ⟨a, ns, k, rfl, hS, h63, hk, q⟩ := h
  refine ⟨_, pss_cons (ps_if (pt_cmpR op_lt (pv 1) (pe_callB (call_len_seqK K) (by rfl) B.len b_len (pa_cons (pv 0) pa_nil)) (nomark _)) (pss_one (ps_ret (pe_ix (ix_listK K) (pv 0) (pv 1) (fun _ _ => rfl)))) pss_nil)
      (pss_cons (ps_set (i := 2) sc_law_cell.nd rfl (Or.inl rfl) (pe_op op_mod (pe_op op_mul pe_int (pe_op op_add (pe_op op_add (pe_op op_mul (pv 1) (pv 1)) (pe_op op_mul pe_int (pv 1))) pe_int)) pe_int))
      (pss_cons (ps_for PassesOwn.never rfl (pi_listK K (pe_slice (sl_listK K) (pv 0) po_none (po_some pe_int))) (pg_name (i := 3) sc_law_cell.nd rfl (Or.inl rfl)) (pss_one (ps_set (i := 2) sc_law_cell.nd rfl (Or.inl rfl) (pe_op op_mod (pe_op op_add (pe_op op_mul (pv 2) pe_int) (pv 3)) pe_int))))
      (pss_one (ps_ret (pv 2))))), ?_⟩
  refine ⟨_, rfl, _, rfl, a, _, rfl, .inl hS, _, _, rfl, rfl, _, rfl, ite2 (fun hlt => ?_) (fun hlt => ?_)⟩
  · have hlt := of_decide_eq_true hlt
    rw [List.length_map] at hlt
    exact ⟨_, rfl, _, rfl, a, _, _, _, rfl, rfl, hS, atI_nat (get_iv (show k < ns.length by omega)), q H _ (Same.refl H)⟩
  · refine ⟨_, rfl, _, rfl, _, _, rfl, rfl, .inl ⟨by omega, by omega⟩, _, rfl, _, _, rfl, rfl, .inl ⟨by decide, by decide⟩, _, _, rfl, rfl, _, _, rfl, rfl, _, _, rfl, rfl, .inl ⟨by decide, by decide⟩, _, _, rfl, rfl, (by show (0 : Int) < 2147483387; decide), ?_⟩
    have hy0 : 0 ≤ (70003 * ((k : Int) * k + 13 * k + 11)) % 2147483387 := Int.emod_nonneg _ (by decide)
    have hy1 : (70003 * ((k : Int) * k + 13 * k + 11)) % 2147483387 < 2147483387 := Int.emod_lt_of_pos _ (by decide)
    dsimp only
    generalize (70003 * ((k : Int) * k + 13 * k + 11)) % 2147483387 = y at hy0 hy1 ⊢
    refine ⟨_, rfl, 3, rfl, a, _, rfl, hS, fun p hp => ?_⟩
    have e3 : cutV (iv ns) none (some 3) = iv (ns.take 3) := by
      have := cut_take (iv ns) 3
      rw [show ((3 : Nat) : Int) = 3 from rfl] at this
      rw [this]
      show (List.map V.int ns).take 3 = List.map V.int (ns.take 3)
      rw [List.map_take]
    rw [e3]
    refine ⟨p, rfl, ⟨_, SqL.of upd_same⟩, for_list (K := K) (a := p) (xs := iv (ns.take 3)) (fun i σ H' => ∃ (y : Int) (y3 : Option V), σ = [some (.ref a), some (.int (k : Int)), some (.int y), y3] ∧ 0 ≤ y ∧ y < 2147483387 ∧ H' = upd H p (.lst (iv (ns.take 3))))
      ⟨y, none, rfl, hy0, hy1, rfl⟩ (fun i σ H' _ ⟨_, _, _, _, _, e⟩ => by rw [e]; exact SqL.of upd_same) ?_ ?_⟩
    · rintro i x σ H' hx ⟨y, y3, rfl, h0, h1, rfl⟩
      obtain ⟨z, ez, rfl⟩ := map_get hx
      refine ⟨_, rfl, _, _, rfl, rfl, .inl ⟨by omega, by omega⟩, _, rfl, _, _, rfl, rfl, _, _, rfl, rfl, (by show (0 : Int) < 2147483387; decide), ?_⟩
      exact ⟨_, _, rfl, Int.emod_nonneg _ (by decide), Int.emod_lt_of_pos _ (by decide), rfl⟩
    · rintro σ H' ⟨y, y3, rfl, h0, h1, rfl⟩
      exact ⟨_, rfl, q _ _ (same_up hp)⟩
def spPool : Sp := fun vs H Q _ => ∃ (i : Int), vs = [.int i] ∧ ∀ H' p, Same H H' → H p = none → PoolAt H' p → Q (.ref p) H'
theorem d__law_pool (B : Bn mg) (E : Ent K mg "_law_pool" s_law_pool) : Df P w K mg base 1 "_law_pool" p_law_pool spPool := by
  refine E.df sc_law_pool (fun _ _ _ _ _ _ us hl => match us, hl with | [_], _ => rfl) (fun vs H Q E h => ?_) (fun f cdv A outer s H vs Q E hr h => ?_)
  · obtain ⟨i, rfl, _⟩ := h
    rfl
  obtain ⟨i, rfl, q⟩ := h
  refine ⟨_, pss_cons (ps_set (i := 1) sc_law_pool.nd rfl (Or.inl rfl) (pe_ifExp (PW.pt (pw_or (pt_cmpR op_lt (pv 0) pe_int (nomark _)) (pw_or1 (pt_cmpR op_ge (pv 0) (pe_op op_pow pe_int pe_int) (nomark _))))) (pe_callB call_abs (by rfl) B.abs b_abs (pa_cons (pv 0) pa_nil)) pe_int))
      (pss_one (ps_ret (pe_lstS (pa_cons (pe_op op_mod (pv 0) pe_int) (pa_cons (pv 1) (pa_cons pe_int pa_nil)))))), ?_⟩
  have fin : ∀ d : Int, 0 ≤ d → tRet (tLstS (tCons (tOp (rI (fun _ j => 0 < j) fun i j => .int (i % j)) (tVar 0) (tC (.int 2147483387))) (tCons (tVar 1) (tCons (tC (.int 0)) tNil)))) { nx := fun _ H' => Q .non H', rt := Q } [some (.int i), some (.int d)] H := fun d hd =>
    ⟨_, rfl, _, _, rfl, rfl, (by show (0 : Int) < 2147483387; decide), _, rfl, by show 3 ≤ sizeLine; decide, fun p H2 hp s2 e2 => q H2 p s2 hp ⟨_, d, 0, e2, Int.emod_nonneg _ (by decide), Int.emod_lt_of_pos _ (by decide), hd⟩⟩
  have habs : 0 ≤ (if i < 0 then -i else i) := by split <;> omega
  refine ⟨_, rfl, _, _, rfl, rfl, _, rfl, ?_⟩
  refine ite2 (fun h1 => ?_) (fun h1 => ?_)
  · refine iteT ?_
    exact ⟨_, rfl, i, rfl, fin _ habs⟩
  · refine ⟨_, rfl, _, _, rfl, rfl, ⟨by decide, by decide, by decide⟩, _, _, rfl, rfl, _, rfl, ?_⟩
    refine ite2 (fun h2 => ?_) (fun h2 => ?_)
    · exact ⟨_, rfl, i, rfl, fin _ habs⟩
    · exact fin 0 (Int.le_refl 0)
end
end K46

namespace K46
open PySem PySem.Spec PyProof.Rows L2
theorem But.freeP {a l : Addr} {H H' : Hp} (hP : PoolAt H' a) (e : But [a] H H') (h : H' l = none) : H l = none := e.free (hP.ne h) h
theorem PoolAt.no {H : Hp} {a l : Addr} (hP : PoolAt H a) (h : H l = none) : l ≠ a := fun z => hP.ne h (by rw [z]; simp)
theorem PoolAt.up' {H : Hp} {a D : Addr} {o : HO} (h : PoolAt H a) (hD : D ≠ a) : PoolAt (upd H D o) a := h.up (by simpa using hD)
/-- an unknown object changes -/
theorem but_mutP {as : List Addr} {H H' : Hp} {p : Addr} {o : HO} (e : But as H H') (h : H p = none) : But as H (upd H' p o) := but_mut e h
theorem eraseIdx_perm {α : Type} : ∀ {L : List α} {j : Nat} (h : j < L.length), (L[j] :: L.eraseIdx j).Perm L
  | x :: L, 0, _ => List.Perm.refl _
  | x :: L, j + 1, h => by
    have h' : j < L.length := by simpa using h
    show ((L[j]) :: x :: L.eraseIdx j).Perm (x :: L)
    exact (List.Perm.swap x L[j] _).trans (List.Perm.cons x (eraseIdx_perm h'))
section
variable {P : Program} {w : World} {K : PySem.W.Frag} {mg : Str → Option Value} {base : Heap}
abbrev s_law_mixed : Stmt := topS 43
abbrev n_law_mixed : List Str := ["_law_pool_here", "_law_things", "_law_left", "_law_found", "_law_k"]
abbrev p_law_mixed : List Str := ["_law_pool_here", "_law_things"]
theorem sc_law_mixed : FnScope n_law_mixed p_law_mixed (defScope s_law_mixed) := ⟨rfl, rfl, rfl, by decide +kernel, rfl, by decide +kernel, by decide +kernel⟩
-- slots: 0 _law_pool_here 1 _law_things 2 _law_left 3 _law_found 4 _law_k
def spMixed (K : PySem.W.Frag) : Sp := fun vs H Q _ => ∃ (a b : Addr) (xs : List V), vs = [.ref a, .ref b] ∧ PoolAt H a ∧ H b = some (.lst xs) ∧ xs.length ≤ 1000 ∧ ∀ H' p ys, But [a] H H' → PoolAt H' a → H p = none → p ≠ a → H' p = some (.lst ys) → ys.Perm xs → Q (.ref p) H'
theorem d__law_mixed (B : Bn mg) (E : Ent K mg "_law_mixed" s_law_mixed) (D_law_draw : Df P w K mg base 1 "_law_draw" p_law_draw spDraw) : Df P w K mg base 2 "_law_mixed" p_law_mixed (spMixed K) := by
  refine E.df sc_law_mixed (fun _ _ _ _ _ _ us hl => match us, hl with | [_, _], _ => rfl) (fun vs H Q E h => ?_) (fun f cdv A outer s H vs Q E hr h => ?_)
  · obtain ⟨a, b, xs, rfl, _⟩ := h
    rfl
  obtain ⟨a, b, xs, rfl, hP, hb, hx, q⟩ := h
  refine ⟨_, pss_cons (ps_par (i := 2) (j := 3) (by rfl) sc_law_mixed.nd rfl rfl (by decide) rfl rfl (pa_cons (pe_callTy call_list_of (by rfl) B.list b_list (pa_cons (pv 1) pa_nil)) (pa_cons (pe_lstS pa_nil) pa_nil)) (by rfl))
      (pss_cons (ps_for PassesOwn.never rfl (pi_range1 rfl B.range (pa_cons (pe_callB (call_len_seqK K) (by rfl) B.len b_len (pa_cons (pv 1) pa_nil)) pa_nil)) (pg_name (i := 4) sc_law_mixed.nd rfl (Or.inl rfl)) (pss_one (ps_expr (pe_bmK K PySem.F.plainAttrs_list PySem.F.slot_list_append PySem.F.type_list_append mt_append (pv 3) (pa_cons (pe_bmK K PySem.F.plainAttrs_list PySem.F.slot_list_pop PySem.F.type_list_pop mt_popAt (pv 2) (pa_cons (pe_df D_law_draw (hr.mono (by decide)) rfl (pa_cons (pv 0) (pa_cons (pe_callB (call_len_seqK K) (by rfl) B.len b_len (pa_cons (pv 2) pa_nil)) pa_nil))) pa_nil)) pa_nil)))))
      (pss_one (ps_ret (pv 3)))), ?_⟩
  refine ⟨_, rfl, b, xs, rfl, .inl (SqL.of hb), fun l hl => ?_⟩
  refine ⟨Nat.zero_le _, fun f H2 hf s2 e2 => ?_⟩
  have hla := hP.no hl
  have el : (upd H l (.lst xs)) l = some (.lst xs) := upd_same
  have hP1 : PoolAt (upd H l (.lst xs)) a := hP.up' hla
  have s1 : Same H (upd H l (.lst xs)) := same_up hl
  generalize upd H l (.lst xs) = H1 at *
  have hfa := hP1.no hf
  have lf : l ≠ f := ne_of_none el hf
  have hf0 : H f = none := s1.free hf
  refine ⟨_, _, rfl, _, rfl, b, xs, rfl, .inl (SqL.of (s2 _ _ (s1 _ _ hb))), (xs.length : Int), rfl, by omega, by omega, ?_⟩
  refine for_range (fun i σ H' => ∃ (L F : List V) (y4 : Option V), σ = [some (.ref a), some (.ref b), some (.ref l), some (.ref f), y4] ∧ But [a] H H' ∧ PoolAt H' a ∧ H' l = some (.lst L) ∧ H' f = some (.lst F) ∧ (F ++ L).Perm xs ∧ F.length = i)
    ⟨xs, [], none, rfl, but_same (s1.trans s2), hP1.mono s2, s2 _ _ el, e2, List.Perm.refl _, rfl⟩ ?_ ?_
  · rintro i σ H3 hi ⟨L, F, y4, rfl, hb3, hP3, hl3, hf3, hperm, hF⟩
    have hi : i < xs.length := by omega
    have hlen := hperm.length_eq
    rw [List.length_append] at hlen
    refine ⟨_, rfl, .inl ⟨rfl, _, SqL.of hf3⟩, _, rfl, .inl ⟨rfl, _, SqL.of hl3⟩, _, rfl, _, rfl, l, L, rfl, .inl (SqL.of hl3), a, _, rfl, hP3, by show (1 : Int) ≤ (L.length : Int); omega, by show (L.length : Int) ≤ 100000; omega, fun H4 j b4 hP4 hj => ?_⟩
    have hj : j < L.length := by omega
    have hl4 : H4 l = some (.lst L) := b4 _ _ (by simpa using hla) hl3
    have hf4 : H4 f = some (.lst F) := b4 _ _ (by simpa using hfa) hf3
    refine ⟨l, L, (j : Int), j, L[j], rfl, rfl, hl4, by omega, by omega, (ixN_seq (ixN_nat hj)).1, List.getElem?_eq_getElem hj, ?_⟩
    refine ⟨f, F, L[j], rfl, rfl, by rw [upd_ne lf.symm]; exact hf4, szl (by omega), ?_⟩
    refine ⟨L.eraseIdx j, F ++ [L[j]], _, rfl, but_mut (but_mut (hb3.trans b4) hl) hf0, (hP4.up' hla).up' hfa, by rw [upd_ne lf]; exact upd_same, upd_same, ?_, by rw [List.length_append, hF]; rfl⟩
    rw [List.append_assoc]
    refine List.Perm.trans (List.Perm.append_left F ?_) hperm
    exact eraseIdx_perm hj
  · rintro σ H3 ⟨L, F, y4, rfl, hb3, hP3, hl3, hf3, hperm, hF⟩
    have hlen := hperm.length_eq
    rw [List.length_append] at hlen
    have hL : L = [] := List.eq_nil_of_length_eq_zero (by omega)
    subst hL
    rw [List.append_nil] at hperm
    exact ⟨_, rfl, q H3 f F hb3 hP3 hf0 hfa hf3 hperm⟩
end
end K46

namespace K46
open PySem PySem.Spec PyProof.Rows L2
def rgN (a b : Int) : List Int := (List.range (b - a).toNat).map fun i : Nat => a + (i : Nat)
theorem rgV_eq (a b : Int) : rgV a b = iv (rgN a b) := by
  unfold rgV rgN iv
  rw [List.map_map]
  rfl
theorem rgN_len (a b : Int) : (rgN a b).length = (b - a).toNat := by unfold rgN; rw [List.length_map, List.length_range]
theorem rgN_nd (a b : Int) : (rgN a b).Nodup := by
  unfold rgN
  unfold List.Nodup
  rw [List.pairwise_map]
  refine List.Pairwise.imp ?_ List.pairwise_lt_range
  intro x y h e
  omega
theorem rgN_mem {a b h : Int} (hm : h ∈ rgN a b) : a ≤ h ∧ h < b := by
  unfold rgN at hm
  obtain ⟨i, hi, rfl⟩ := List.mem_map.mp hm
  have := List.mem_range.mp hi
  omega
/-- a list of heights to draw from -/
structure Gd (H : Hp) (a : Addr) (many : Nat) (H' : Hp) (l : Addr) (ns : List Int) : Prop where
  but : But [a] H H'
  pool : PoolAt H' a
  new : H l = none
  ne : l ≠ a
  at_ : H' l = some (.lst (iv ns))
  nd : ns.Nodup
  ok : ∀ h ∈ ns, okH h
  big : many ≤ ns.length
  small : ns.length ≤ 999
theorem gd_range {H H1 : Hp} {a q : Addr} {many : Nat} {lo hi : Int} (b : But [a] H H1) (hP : PoolAt H1 a) (hq : H1 q = none) (h1 : 1 ≤ lo) (h2 : hi ≤ 1000) (hb : many ≤ (hi - lo).toNat) : Gd H a many (upd H1 q (.lst (rgV lo hi))) q (rgN lo hi) := by
  have hn := hP.no hq
  refine ⟨b.trans (but_same (same_up hq)), hP.up' hn, b.freeP hP hq, hn, by rw [upd_same, rgV_eq], rgN_nd _ _, fun h hm => ?_, by rw [rgN_len]; exact hb, by rw [rgN_len]; omega⟩
  have := rgN_mem hm
  exact ⟨by omega, by omega⟩
theorem Gd.mono {H H1 H2 : Hp} {a l : Addr} {many : Nat} {ns : List Int} (g : Gd H a many H1 l ns) (s : Same H1 H2) : Gd H a many H2 l ns :=
  ⟨g.but.trans (but_same s), g.pool.mono s, g.new, g.ne, s _ _ g.at_, g.nd, g.ok, g.big, g.small⟩
theorem erase_map {α β : Type} (f : α → β) : ∀ {L : List α} {j : Nat}, (L.map f).eraseIdx j = (L.eraseIdx j).map f
  | [], _ => rfl
  | x :: L, 0 => rfl
  | x :: L, j + 1 => by
    show f x :: (L.map f).eraseIdx j = f x :: (L.eraseIdx j).map f
    rw [erase_map f]
section
variable {P : Program} {w : World} {K : PySem.W.Frag} {mg : Str → Option Value} {base : Heap}
abbrev s_law_sort : Stmt := topS 46
abbrev n_law_sort : List Str := ["_law_pool_here"]
abbrev p_law_sort : List Str := ["_law_pool_here"]
theorem sc_law_sort : FnScope n_law_sort p_law_sort (defScope s_law_sort) := ⟨rfl, rfl, rfl, by decide +kernel, rfl, by decide +kernel, by decide +kernel⟩
-- slots: 0 _law_pool_here
def spSort : Sp := fun vs H Q _ => ∃ (a : Addr), vs = [.ref a] ∧ PoolAt H a ∧ ∀ H' s, But [a] H H' → PoolAt H' a → okK s → Q (.str s) H'
theorem d__law_sort (B : Bn mg) (E : Ent K mg "_law_sort" s_law_sort) (D_law_draw : Df P w K mg base 1 "_law_draw" p_law_draw spDraw) : Df P w K mg base 2 "_law_sort" p_law_sort spSort := by
  refine E.df sc_law_sort (fun _ _ _ _ _ _ us hl => match us, hl with | [_], _ => rfl) (fun vs H Q E h => ?_) (fun f cdv A outer s H vs Q E hr h => ?_)
  · obtain ⟨a, rfl, _⟩ := h
    rfl
  obtain ⟨a, rfl, hP, q⟩ := h
  refine ⟨_, pss_one (ps_ret (pe_ix (ix_listK K) (pe_lstS (pa_cons pe_str (pa_cons pe_str pa_nil))) (pe_df D_law_draw (hr.mono (by decide)) rfl (pa_cons (pv 0) (pa_cons pe_int pa_nil))) (fun _ _ => rfl))), ?_⟩
  refine ⟨by show 2 ≤ sizeLine; decide, fun p H1 hp s1 e1 => ?_⟩
  have hP1 := hP.mono s1
  have hpa := hP.no hp
  refine ⟨_, rfl, a, 2, rfl, hP1, by decide, by decide, fun H2 i b2 hP2 hi => ?_⟩
  have e2 : H2 p = some (.lst (sv [kLow, kHigh])) := b2 _ _ (by simpa using hpa) e1
  have hi : i < [kLow, kHigh].length := by show i < 2; omega
  refine ⟨p, _, _, _, rfl, rfl, SqL.of e2, atI_nat (get_sv hi), q H2 _ ((but_same s1).trans b2) hP2 ?_⟩
  have := List.getElem_mem hi
  rcases List.mem_cons.mp this with h | h
  · exact .inl h
  · exact .inr (List.mem_singleton.mp h)
abbrev s_law_inches : Stmt := topS 45
abbrev n_law_inches : List Str := ["_law_pool_here", "_law_many", "_law_mode", "_law_left", "_law_k"]
abbrev p_law_inches : List Str := ["_law_pool_here", "_law_many"]
theorem sc_law_inches : FnScope n_law_inches p_law_inches (defScope s_law_inches) := ⟨rfl, rfl, rfl, by decide +kernel, rfl, by decide +kernel, by decide +kernel⟩
-- slots: 0 _law_pool_here* 1 _law_many 2 _law_mode 3 _law_left* 4 _law_k~
def spInches : Sp := fun vs H Q _ => ∃ (a : Addr) (many : Nat), vs = [.ref a, .int (many : Int)] ∧ PoolAt H a ∧ many ≤ 24 ∧
  ∀ H' p ns, But [a] H H' → PoolAt H' a → H p = none → p ≠ a → H' p = some (.lst (iv ns)) → ns.Nodup → (∀ h ∈ ns, okH h) → ns.length = many → Q (.ref p) H'
theorem d__law_inches (B : Bn mg) (E : Ent K mg "_law_inches" s_law_inches) (D_law_draw : Df P w K mg base 1 "_law_draw" p_law_draw spDraw) : Df P w K mg base 2 "_law_inches" p_law_inches spInches := by
  refine E.df sc_law_inches (fun _ _ _ _ _ _ us hl => match us, hl with | [_, _], _ => rfl) (fun vs H Q E h => ?_) (fun f cdv A outer s H vs Q E hr h => ?_)
  · obtain ⟨a, m, rfl, _⟩ := h
    rfl
  obtain ⟨a, many, rfl, hP, hm, q⟩ := h
  refine ⟨_, pss_cons (ps_asg (pe_tupF (pa_cons (pe_df D_law_draw (hr.mono (by decide)) rfl (pa_cons (pv 0) (pa_cons pe_int pa_nil))) (pa_cons (pe_listRg rfl rfl B.list (prg_2 rfl B.range pe_int pe_int)) pa_nil))) (pg_tupK K (n := 2) rfl (pgs_cons (pg_name (i := 2) sc_law_inches.nd rfl (Or.inl rfl)) (pgs_cons (pg_name (i := 3) sc_law_inches.nd rfl (Or.inr rfl)) pgs_nil))))
      (pss_cons (ps_if (pt_cmpR op_eq (pv 2) pe_int (nomark _)) (pss_one (ps_set (i := 3) sc_law_inches.nd rfl (Or.inr rfl) (pe_listRg rfl rfl B.list (prg_2 rfl B.range pe_int (pe_op op_add (pv 1) pe_int))))) pss_nil)
      (pss_cons (ps_if (pt_cmpR op_eq (pv 2) pe_int (nomark _)) (pss_one (ps_set (i := 3) sc_law_inches.nd rfl (Or.inr rfl) (pe_listRg rfl rfl B.list (prg_2 rfl B.range (pe_op op_sub pe_int (pv 1)) pe_int)))) pss_nil)
      (pss_one (ps_ret (pe_lc (own := [("_law_k", 4)]) rfl sc_law_inches.nd (pi_range1 rfl B.range (pa_cons (pv 1) pa_nil)) (blkOk_by (N := n_law_inches) (sc := defScope s_law_inches) (by decide +kernel)) (fun _ _ _ _ _ => (pg_name (i := 4) sc_law_inches.nd rfl (Or.inl rfl))) (fun _ _ _ _ _ => pts_nil) (fun _ _ _ _ _ => (pe_bmK K PySem.F.plainAttrs_list PySem.F.slot_list_pop PySem.F.type_list_pop mt_popAt (pv 3) (pa_cons (pe_df D_law_draw (hr.mono (by decide)) rfl (pa_cons (pv 0) (pa_cons (pe_callB (call_len_seqK K) (by rfl) B.len b_len (pa_cons (pv 3) pa_nil)) pa_nil))) pa_nil)))))))), ?_⟩
  refine ⟨_, rfl, a, 4, rfl, hP, by decide, by decide, fun H1 mode b1 hP1 hmode => ?_⟩
  refine ⟨1, 1000, rfl, rfl, RgOk.of_le (by decide) (by decide) (by decide) (by decide), fun l0 hl0 => ?_⟩
  have g0 := gd_range (many := many) b1 hP1 hl0 (by decide : (1 : Int) ≤ 1) (by decide : (1000 : Int) ≤ 1000) (by omega)
  refine ⟨sze (by show 2 ≤ 100000; decide), fun p2 H2 hp2 s2 hT2 => ?_⟩
  replace g0 := g0.mono s2
  refine ⟨p2, _, rfl, hT2.sq, rfl, _, _, rfl, _, _, rfl, rfl, ?_⟩
  dsimp only [tSeq]
  refine (fun N hN => ?_ : ∀ N : L2.St → Hp → Prop, (∀ H' l ns, Gd H a many H' l ns → N [some (.ref a), some (.int (many : Int)), some (.int (mode : Int)), some (.ref l), none] H') → tIfS _ _ _ { nx := N, rt := Q } _ _) _ (fun H3 l ns g => ?_)
  · refine ⟨_, rfl, rfl, _, rfl, ite2 (fun _ => ?_) (fun _ => hN _ _ _ g0)⟩
    refine ⟨_, rfl, _, _, rfl, rfl, _, _, rfl, rfl, RgOk.of_le (by decide) (by omega) (by decide) (by omega), fun l hl => hN _ _ _ (gd_range g0.but g0.pool hl (by decide) (by omega) (by omega))⟩
  clear g0 hl0 hT2 s2 hp2
  dsimp only [tSeq]
  refine (fun N hN => ?_ : ∀ N : L2.St → Hp → Prop, (∀ H' l ns, Gd H a many H' l ns → N [some (.ref a), some (.int (many : Int)), some (.int (mode : Int)), some (.ref l), none] H') → tIfS _ _ _ { nx := N, rt := Q } _ _) _ (fun H3 l ns g => ?_)
  · refine ⟨_, rfl, rfl, _, rfl, ite2 (fun _ => ?_) (fun _ => hN _ _ _ g)⟩
    refine ⟨_, rfl, _, _, rfl, rfl, _, _, rfl, rfl, RgOk.of_le (by omega) (by decide) (by omega) (by decide), fun l hl => hN _ _ _ (gd_range g.but g.pool hl (by omega) (by decide) (by omega))⟩
  rename_i gx
  clear gx
  refine ⟨_, rfl, _, rfl, by omega, by omega, fun D hD => ?_⟩
  have hDa := g.pool.no hD
  have hDl : D ≠ l := (ne_of_none g.at_ hD).symm
  refine lc_gen walk_range [a, l] hD (fun i acc H' => ∃ L M : List Int, PoolAt H' a ∧ H' l = some (.lst (iv L)) ∧ acc = iv M ∧ (M ++ L).Perm ns ∧ M.length = i) ⟨ns, [], g.pool.up' hDa, by rw [upd_ne hDl.symm]; exact g.at_, rfl, List.Perm.refl _, rfl⟩ (fun _ _ _ _ _ _ => trivial) ?_ ?_
  · rintro i acc x H3 H4 hi c ⟨rfl, rfl⟩
    obtain ⟨L, M, hP3, hl3, rfl, hperm, hM⟩ := c.rel
    have hlen := hperm.length_eq
    rw [List.length_append] at hlen
    have hbig := g.big
    have hsm := g.small
    refine ⟨rfl, lc_yes ?_⟩
    refine ⟨_, rfl, .inl ⟨rfl, _, SqL.of hl3⟩, _, rfl, _, rfl, l, _, rfl, .inl (SqL.of hl3), a, _, rfl, hP3, by rw [List.length_map]; omega, by rw [List.length_map]; omega, fun H4 j b4 hP4 hj => ?_⟩
    rw [List.length_map] at hj
    have hj : j < L.length := by omega
    have hl4 : H4 l = some (.lst (iv L)) := b4 _ _ (by simpa using g.ne) hl3
    refine ⟨l, _, (j : Int), j, _, rfl, rfl, hl4, by omega, by omega, (ixN_seq (ixN_nat (by rw [List.length_map]; exact hj))).1, get_iv hj, ?_⟩
    refine c.keep hD (by simp [hDa, hDl]) ?_ (szl (by omega)) ?_ ?_
    · rintro i acc H' xs ys e ⟨L, M, h1, h2, h3, h4, h5⟩
      exact ⟨L, M, h1.up' hDa, by rw [upd_ne hDl.symm]; exact h2, h3, h4, h5⟩
    · refine But.trans (fun b o hb e => b4 b o (fun z => hb (by simp at z; simp [z])) e) (but_up (by simp))
    · refine ⟨L.eraseIdx j, M ++ [L[j]], hP4.up' g.ne, ?_, by simp [iv], ?_, by rw [List.length_append, hM]; rfl⟩
      · rw [upd_same]
        exact congrArg (fun z => some (HO.lst z)) (erase_map V.int)
      · rw [List.append_assoc]
        exact List.Perm.trans (List.Perm.append_left M (eraseIdx_perm hj)) hperm
  · intro acc H3 c
    obtain ⟨L, M, hP3, hl3, rfl, hperm, hM⟩ := c.rel
    have hnd := (List.nodup_append.mp (hperm.nodup_iff.mpr g.nd)).1
    refine q H3 D M ?_ hP3 (g.but.freeP g.pool hD) hDa c.at_ hnd (fun h hh => g.ok h (hperm.mem_iff.mp (List.mem_append_left _ hh))) hM
    intro b o hb e
    have hb' : b ≠ a := by simpa using hb
    refine c.but b o ?_ (g.but b o hb e)
    simp only [List.mem_cons, List.not_mem_nil, or_false, not_or]
    exact ⟨hb', ne_of_none e g.new⟩
end
end K46

namespace K46
open PySem PyProof.Rows L2
/-! ### names -/
abbrev sLt' (a b : Str) : Prop := a.cps.toList < b.cps.toList
theorem rising_le : ∀ {l : List Str} {p : Str}, risingS p l = true → (∀ x ∈ l, ¬ x.cps.toList < p.cps.toList) ∧ l.Pairwise fun a b => ¬ b.cps.toList < a.cps.toList
  | [], _, _ => ⟨by simp, .nil⟩
  | x :: r, p, h => by
    unfold risingS at h
    rw [Bool.and_eq_true] at h
    obtain ⟨h1, h2⟩ := h
    obtain ⟨a, b⟩ := rising_le h2
    rw [ltCps_eq] at h1
    have h1 : ¬ x.cps.toList < p.cps.toList := fun z => by rw [decide_eq_true z] at h1; cases h1
    refine ⟨fun y hy => ?_, List.Pairwise.cons a b⟩
    rcases List.mem_cons.mp hy with rfl | hy
    · exact h1
    · exact List.not_lt.mpr (List.le_trans (List.not_lt.mp h1) (List.not_lt.mp (a y hy)))
theorem str_ext {a b : Str} (h : a.cps.toList = b.cps.toList) : a = b := by
  cases a
  cases b
  congr
  exact Array.toList_inj.mp h
theorem sorted_asc {l : List Str} (h : sortedS l = true) (hn : l.Nodup) : l.Pairwise sLt' := by
  cases l with
  | nil => exact .nil
  | cons x r =>
    obtain ⟨a, b⟩ := rising_le (show risingS x r = true from h)
    have hp : (x :: r).Pairwise fun a b => ¬ b.cps.toList < a.cps.toList := List.Pairwise.cons a b
    refine List.Pairwise.imp₂ ?_ hp hn
    intro u v h1 h2
    rcases List.le_iff_lt_or_eq.mp (List.not_lt.mp h1) with h | h
    · exact h
    · exact absurd (str_ext h) h2
abbrev Let (s : Str) : Prop := ∀ c ∈ s.cps.toList, 97 ≤ c ∧ c ≤ 122
theorem len_cps (s : Str) : s.length = s.cps.toList.length := by rw [Array.length_toList]; rfl
theorem join_let : ∀ {ys : List Str}, (∀ y ∈ ys, y.length = 1 ∧ Let y) → (Str.join ⟨#[]⟩ ys).length = ys.length ∧ Let (Str.join ⟨#[]⟩ ys)
  | [], _ => ⟨rfl, fun c h => by simp [Str.join, Str.empty] at h⟩
  | y :: r, h => by
    obtain ⟨h1, h2⟩ := h y List.mem_cons_self
    obtain ⟨a, b⟩ := join_let fun z hz => h z (List.mem_cons_of_mem _ hz)
    rw [join_nil_cons]
    refine ⟨by rw [Str.length_append, h1, a, List.length_cons]; omega, fun c hc => ?_⟩
    have hc : c ∈ (y.cps ++ (Str.join ⟨#[]⟩ r).cps).toList := hc
    rw [Array.toList_append, List.mem_append] at hc
    rcases hc with hc | hc
    · exact h2 c hc
    · exact b c hc
def ws : List Str := ["low", "high", "enter", "go", "rest", "same", "a", "none", "line", "plan", "kind", "undo"]
instance : DecidablePred okLine := fun s => by unfold okLine; infer_instance
theorem ws_ok : ∀ s ∈ ws, okLine s := by decide +kernel
theorem ws_nd : ws.Nodup := by decide +kernel
abbrev Stride (st : Nat) : Prop := st = 1 ∨ st = 5 ∨ st = 7 ∨ st = 11
theorem stride12 {st f i j : Nat} (h : Stride st) (hi : i < 12) (hj : j < 12) (e : (f + st * i) % 12 = (f + st * j) % 12) : i = j := by
  rcases h with rfl | rfl | rfl | rfl <;> omega
theorem stride26 {st f i j : Nat} (h : Stride st) (hi : i < 12) (hj : j < 12) (e : (f + st * i) % 26 = (f + st * j) % 26) : i = j := by
  rcases h with rfl | rfl | rfl | rfl <;> omega
theorem map_nd {α : Type} {f : Nat → α} {n : Nat} (h : ∀ i j, i < n → j < n → f i = f j → i = j) : ((List.range n).map f).Nodup := by
  unfold List.Nodup
  rw [List.pairwise_map]
  refine List.Pairwise.imp_of_mem ?_ List.pairwise_lt_range
  intro i j hi hj hlt e
  have := h i j (List.mem_range.mp hi) (List.mem_range.mp hj) e
  omega
/-- words of its own -/
def wsAt (f st k : Nat) : Str := ws[(f + st * k) % 12]'(by show _ < 12; omega)
def ws1 (f st many : Nat) : List Str := (List.range many).map (wsAt f st)
theorem ws1_nd {f st many : Nat} (h : Stride st) (hm : many ≤ 8) : (ws1 f st many).Nodup := by
  refine map_nd fun i j hi hj e => ?_
  exact stride12 h (by omega) (by omega) ((List.getElem_inj ws_nd).mp e)
theorem ws1_ok {f st many : Nat} : ∀ s ∈ ws1 f st many, okLine s := by
  intro s hs
  obtain ⟨k, _, rfl⟩ := List.mem_map.mp hs
  exact ws_ok _ (List.getElem_mem _)
/-- letters -/
abbrev abc : Str := "abcdefghijklmnopqrstuvwxyz"
theorem abc_at : ∀ i, i < 26 → abc.cps[i]? = some (97 + i) := by decide +kernel
theorem abc_len : abc.length = 26 := by decide +kernel
abbrev chr1 (c : Nat) : Str := ⟨#[c]⟩
def sign (b st k : Nat) : Str := chr1 (97 + (b + st * k) % 26)
theorem cutS_take {z : Str} {k : Nat} (h : k ≤ z.length) : (cutS z none (some (k : Int))).cps.toList = z.cps.toList.take k := by
  unfold cutS
  rw [HT.sIx_none, HT.sIx_nat, Nat.min_eq_left h]
  simp
theorem cutS_drop {z : Str} {k : Nat} (h : k ≤ z.length) : (cutS z (some (k : Int)) none).cps.toList = z.cps.toList.drop k := by
  unfold cutS
  rw [HT.sIx_none, HT.sIx_nat, Nat.min_eq_left h, len_cps]
  simp only
  rw [← List.length_drop, List.take_length]
/-- a name: the stem with a sign within -/
def named (stem : Str) (cut : Nat) (x : Str) : Str := cutS stem none (some (cut : Int)) ++ x ++ cutS stem (some (cut : Int)) none
theorem named_cps {stem x : Str} {cut : Nat} (h : cut ≤ stem.length) : (named stem cut x).cps.toList = stem.cps.toList.take cut ++ x.cps.toList ++ stem.cps.toList.drop cut := by
  rw [← cutS_take h, ← cutS_drop h]
  show ((cutS stem none (some (cut : Int))).cps ++ x.cps ++ (cutS stem (some (cut : Int)) none).cps).toList = _
  rw [Array.toList_append, Array.toList_append]
def ws2 (stem : Str) (cut b st many : Nat) : List Str := (List.range many).map fun k => named stem cut (sign b st k)
theorem ws2_nd {stem : Str} {cut b st many : Nat} (hs : Stride st) (hm : many ≤ 8) (hc : cut ≤ stem.length) : (ws2 stem cut b st many).Nodup := by
  refine map_nd fun i j hi hj e => ?_
  have e : (named stem cut (sign b st i)).cps.toList = (named stem cut (sign b st j)).cps.toList := congrArg (fun s : Str => s.cps.toList) e
  rw [named_cps hc, named_cps hc] at e
  have e := List.append_cancel_left (List.append_cancel_right e)
  have e : [97 + (b + st * i) % 26] = [97 + (b + st * j) % 26] := e
  have e : 97 + (b + st * i) % 26 = 97 + (b + st * j) % 26 := (List.cons.inj e).1
  exact stride26 hs (by omega) (by omega) (show (b + st * i) % 26 = (b + st * j) % 26 by omega)
theorem ws2_ok {stem : Str} {cut b st many : Nat} (hc : cut ≤ stem.length) (h5 : stem.length ≤ 5) (hl : Let stem) : ∀ s ∈ ws2 stem cut b st many, okLine s := by
  intro s hs
  obtain ⟨k, _, rfl⟩ := List.mem_map.mp hs
  have e := named_cps (x := sign b st k) hc
  have hl5 := len_cps stem
  have e1 : (sign b st k).cps.toList = [97 + (b + st * k) % 26] := rfl
  have hlen : (named stem cut (sign b st k)).length = stem.length + 1 := by
    rw [len_cps, e, e1]
    simp only [List.length_append, List.length_take, List.length_drop, List.length_cons, List.length_nil]
    omega
  refine ⟨by rw [hlen]; omega, by rw [hlen]; omega, fun c h => ?_⟩
  rw [e, e1] at h
  simp only [List.mem_append, List.mem_singleton] at h
  rcases h with (h | h) | h
  · exact hl c (List.mem_of_mem_take h)
  · omega
  · exact hl c (List.mem_of_mem_drop h)
end K46

namespace K46
open PySem PySem.Spec PyProof.Rows L2
section
variable {P : Program} {w : World} {K : PySem.W.Frag} {mg : Str → Option Value} {base : Heap}
abbrev s_law_calls : Stmt := topS 44
abbrev n_law_calls : List Str := ["_law_pool_here", "_law_many", "_law_own", "_law_first", "_law_stride", "_law_letters", "_law_stem", "_law_cut", "_law_begin", "_law_signs", "_law_k", "_law_sign"]
abbrev p_law_calls : List Str := ["_law_pool_here", "_law_many"]
theorem sc_law_calls : FnScope n_law_calls p_law_calls (defScope s_law_calls) := ⟨rfl, rfl, rfl, by decide +kernel, rfl, by decide +kernel, by decide +kernel⟩
-- slots: 0 _law_pool_here* 1 _law_many 2 _law_own* 3 _law_first* 4 _law_stride* 5 _law_letters* 6 _law_stem* 7 _law_cut* 8 _law_begin* 9 _law_signs 10 _law_k~ 11 _law_sign~
def spCalls : Sp := fun vs H Q _ => ∃ (a : Addr) (many : Nat), vs = [.ref a, .int (many : Int)] ∧ PoolAt H a ∧ many ≤ 8 ∧
  ∀ H' p ls, But [a] H H' → PoolAt H' a → H p = none → p ≠ a → H' p = some (.lst (sv ls)) → ls.Pairwise sLt → (∀ s ∈ ls, okLine s) → ls.length = many → Q (.ref p) H'
theorem d__law_calls (B : Bn mg) (E : Ent K mg "_law_calls" s_law_calls) (D_law_draw : Df P w K mg base 1 "_law_draw" p_law_draw spDraw) : Df P w K mg base 2 "_law_calls" p_law_calls spCalls := by
  refine E.df sc_law_calls (fun _ _ _ _ _ _ us hl => match us, hl with | [_, _], _ => rfl) (fun vs H Q E h => ?_) (fun f cdv A outer s H vs Q E hr h => ?_)
  · obtain ⟨a, m, rfl, _⟩ := h
    rfl
  obtain ⟨a, many, rfl, hP, hm, q⟩ := h
  refine ⟨_, pss_cons (ps_set (i := 2) sc_law_calls.nd rfl (Or.inr rfl) (pe_lstS (pa_cons pe_str (pa_cons pe_str (pa_cons pe_str (pa_cons pe_str (pa_cons pe_str (pa_cons pe_str (pa_cons pe_str (pa_cons pe_str (pa_cons pe_str (pa_cons pe_str (pa_cons pe_str (pa_cons pe_str pa_nil))))))))))))))
      (pss_cons (ps_asg (pe_tupF (pa_cons (pe_df D_law_draw (hr.mono (by decide)) rfl (pa_cons (pv 0) (pa_cons pe_int pa_nil))) (pa_cons (pe_ix (ix_listK K) (pe_lstS (pa_cons pe_int (pa_cons pe_int (pa_cons pe_int (pa_cons pe_int pa_nil))))) (pe_df D_law_draw (hr.mono (by decide)) rfl (pa_cons (pv 0) (pa_cons pe_int pa_nil))) (fun _ _ => rfl)) pa_nil))) (pg_tupK K (n := 2) rfl (pgs_cons (pg_name (i := 3) sc_law_calls.nd rfl (Or.inr rfl)) (pgs_cons (pg_name (i := 4) sc_law_calls.nd rfl (Or.inr rfl)) pgs_nil))))
      (pss_cons (ps_if (pt_cmpR op_eq (pe_df D_law_draw (hr.mono (by decide)) rfl (pa_cons (pv 0) (pa_cons pe_int pa_nil))) pe_int (nomark _)) (pss_one (ps_ret (pe_callB cr_sortedS (by rfl) B.sorted b_sorted (pa_cons (pe_lc (own := [("_law_k", 10)]) rfl sc_law_calls.nd (pi_range1 rfl B.range (pa_cons (pv 1) pa_nil)) (blkOk_by (N := n_law_calls) (sc := defScope s_law_calls) (by decide +kernel)) (fun _ _ _ _ _ => (pg_name (i := 10) sc_law_calls.nd rfl (Or.inl rfl))) (fun _ _ _ _ _ => pts_nil) (fun _ _ _ _ _ => (pe_ix (ix_listK K) (pv 2) (pe_op op_mod (pe_op op_add (pv 3) (pe_op op_mul (pv 4) (pv 10))) pe_int) (fun _ _ => rfl)))) pa_nil)))) pss_nil)
      (pss_cons (ps_set (i := 5) sc_law_calls.nd rfl (Or.inr rfl) pe_str)
      (pss_cons (ps_set (i := 6) sc_law_calls.nd rfl (Or.inr rfl) (pe_join pe_str (pe_lc (own := [("_law_k", 10)]) rfl sc_law_calls.nd (pi_range1 rfl B.range (pa_cons (pe_df D_law_draw (hr.mono (by decide)) rfl (pa_cons (pv 0) (pa_cons pe_int pa_nil))) pa_nil)) (blkOk_by (N := n_law_calls) (sc := defScope s_law_calls) (by decide +kernel)) (fun _ _ _ _ _ => (pg_name (i := 10) sc_law_calls.nd rfl (Or.inl rfl))) (fun _ _ _ _ _ => pts_nil) (fun _ _ _ _ _ => (pe_item_str (pv 5) (pe_df D_law_draw (hr.mono (by decide)) rfl (pa_cons (pv 0) (pa_cons pe_int pa_nil))) (fun _ _ => rfl))))))
      (pss_cons (ps_asg (pe_tupF (pa_cons (pe_df D_law_draw (hr.mono (by decide)) rfl (pa_cons (pv 0) (pa_cons (pe_op op_add (pe_callB call_len_str (by rfl) B.len b_len (pa_cons (pv 6) pa_nil)) pe_int) pa_nil))) (pa_cons (pe_df D_law_draw (hr.mono (by decide)) rfl (pa_cons (pv 0) (pa_cons pe_int pa_nil))) pa_nil))) (pg_tupK K (n := 2) rfl (pgs_cons (pg_name (i := 7) sc_law_calls.nd rfl (Or.inr rfl)) (pgs_cons (pg_name (i := 8) sc_law_calls.nd rfl (Or.inr rfl)) pgs_nil))))
      (pss_cons (ps_setLc (i := 9) (own := [("_law_k", 10)]) rfl sc_law_calls.nd rfl rfl (sw_true rfl rfl rfl (by decide +kernel)) (pi_range1 rfl B.range (pa_cons (pv 1) pa_nil)) (blkOk_by (N := n_law_calls) (sc := defScope s_law_calls) (by decide +kernel)) (fun _ _ _ _ _ => (pg_name (i := 10) sc_law_calls.nd rfl (Or.inl rfl))) (fun _ _ _ _ _ => pts_nil) (fun _ _ _ _ _ => (pe_item_str (pv 5) (pe_op op_mod (pe_op op_add (pv 8) (pe_op op_mul (pv 4) (pv 10))) pe_int) (fun _ _ => rfl))))
      (pss_one (ps_ret (pe_callB cr_sortedS (by rfl) B.sorted b_sorted (pa_cons (pe_lc (own := [("_law_sign", 11)]) rfl sc_law_calls.nd (pi_listK K (pv 9)) (blkOk_by (N := n_law_calls) (sc := defScope s_law_calls) (by decide +kernel)) (fun _ _ _ _ _ => (pg_name (i := 11) sc_law_calls.nd rfl (Or.inl rfl))) (fun _ _ _ _ _ => pts_nil) (fun _ _ _ _ _ => (pe_op op_add_str (pe_op op_add_str (pe_slice sl_str (pv 6) po_none (po_some (pv 7))) (pv 11)) (pe_slice sl_str (pv 6) (po_some (pv 7)) po_none)))) pa_nil)))))))))), ?_⟩
  -- the words
  refine ⟨by show 12 ≤ sizeLine; decide, fun pw H1 hpw s1 e1 => ?_⟩
  have hwa := hP.no hpw
  -- first, stride
  refine ⟨_, rfl, a, 12, rfl, hP.mono s1, by decide, by decide, fun H2 first b2 hP2 hfirst => ?_⟩
  refine ⟨by show 4 ≤ sizeLine; decide, fun p4 H3 hp4 s3 e3 => ?_⟩
  refine ⟨_, rfl, a, 4, rfl, hP2.mono s3, by decide, by decide, fun H4 j b4 hP4 hj => ?_⟩
  have e4 : H4 p4 = some (.lst (iv [1, 5, 7, 11])) := b4 _ _ (by simpa using hP2.no hp4) e3
  have hj : j < ([1, 5, 7, 11] : List Int).length := by show j < 4; omega
  obtain ⟨st, est, hst⟩ : ∃ st : Nat, ([1, 5, 7, 11] : List Int)[j] = (st : Int) ∧ Stride st := by
    have := List.getElem_mem hj
    simp only [List.mem_cons, List.not_mem_nil, or_false] at this
    rcases this with h | h | h | h <;> rw [h]
    · exact ⟨1, rfl, .inl rfl⟩
    · exact ⟨5, rfl, .inr (.inl rfl)⟩
    · exact ⟨7, rfl, .inr (.inr (.inl rfl))⟩
    · exact ⟨11, rfl, .inr (.inr (.inr rfl))⟩
  have eat := get_iv hj
  rw [est] at eat
  refine ⟨p4, _, _, _, rfl, rfl, SqL.of e4, atI_nat eat, by show 2 ≤ sizeLine; decide, fun p5 H5 hp5 s5 hT5 => ?_⟩
  refine ⟨p5, _, rfl, hT5.sq, rfl, _, _, rfl, _, _, rfl, rfl, ?_⟩
  have b15 : But [a] H1 H5 := ((b2.trans (but_same s3)).trans b4).trans (but_same s5)
  have b5 : But [a] H H5 := (but_same s1).trans b15
  have ew5 : H5 pw = some (.lst (sv ws)) := b15 _ _ (by simpa using hwa) e1
  have hP5 := hP4.mono s5
  generalize [V.int first, V.int st] = pr at hT5
  clear hT5 e4 eat e3 est hj b4 b2 s5 s3 s1 e1 hP4 hP2 b15 hp5 hp4 hpw
  -- own words?
  refine ⟨_, rfl, a, 3, rfl, hP5, by decide, by decide, fun H6 c6 b6 hP6 hc6 => ?_⟩
  have b06 := b5.trans b6
  have ew6 : H6 pw = some (.lst (sv ws)) := b6 _ _ (by simpa using hwa) ew5
  have hst' : st ≤ 11 := by
    rcases hst with h | h | h | h <;> omega
  refine ⟨rfl, _, rfl, ite2 (fun _ => ?_) (fun _ => ?_)⟩
  · refine ⟨_, rfl, _, rfl, by omega, by omega, fun D hD => ?_⟩
    have hDa := hP6.no hD
    refine lc_gen walk_range [] hD (AllE fun k y _ => y = .str (wsAt first st k)) ⟨rfl, fun j y e => by simp at e⟩ (fun _ _ _ _ _ _ => trivial) ?_ ?_
    · rintro k acc x H7 H8 hk c ⟨rfl, rfl⟩
      refine ⟨rfl, lc_yes ?_⟩
      have e : ((first : Int) + (st : Int) * (0 + (k : Nat))) % 12 = (((first + st * k) % 12 : Nat) : Int) := by
        push_cast
        rw [Int.zero_add]
      refine ⟨_, rfl, _, rfl, _, rfl, _, rfl, _, _, rfl, rfl, .inl ⟨by omega, by omega⟩, _, _, rfl, rfl, _, _, rfl, rfl, (by show (0 : Int) < 12; decide), pw, sv ws, _, .str (wsAt first st k), rfl, congrArg V.int e, SqL.of (c.but.same _ _ ew6), atI_nat (get_sv _), ?_⟩
      exact c.one0 hD (fun _ _ _ _ _ h => h) (szl (by omega)) (Same.refl _) rfl
    · intro acc H7 c
      have hacc : acc = sv (ws1 first st many) := acc_eq (by rw [c.rel.1]; simp [ws1]) fun i y e => by
        have hi : i < many := by
          have := (List.getElem?_eq_some_iff.mp e).1
          rw [c.rel.1] at this
          omega
        rw [c.rel.2 i y e]
        simp [ws1, hi]
      have hlen : (ws1 first st many).length = many := by simp [ws1]
      refine ⟨D, _, rfl, SqL.of (by rw [c.at_, hacc]), by omega, fun ys p hperm hsrt hp => ?_⟩
      have s67 := c.but.same
      have hn := hperm.nodup_iff.mpr (ws1_nd hst hm)
      refine q _ p ys ((b06.trans (but_same s67)).trans (but_same (same_up hp))) ((hP6.mono s67).up' ((hP6.mono s67).no hp)) (b06.freeP hP6 (s67.free hp)) ((hP6.mono s67).no hp) upd_same (sorted_asc hsrt hn) (fun s hs => ws1_ok s (hperm.mem_iff.mp hs)) (by rw [hperm.length_eq]; exact hlen)
  clear ew6 ew5 b5 b6 hc6 hP5
  -- the stem
  refine ⟨⟨_, rfl⟩, _, rfl, a, 6, rfl, hP6, by decide, by decide, fun H7 n b7 hP7 hn => ?_⟩
  refine ⟨_, rfl, by omega, by omega, fun D hD => ?_⟩
  have hDa := hP7.no hD
  have b07 := b06.trans b7
  refine lc_gen walk_range [a] hD (fun i acc H' => ∃ zs : List Str, PoolAt H' a ∧ acc = sv zs ∧ zs.length = i ∧ ∀ z ∈ zs, z.length = 1 ∧ Let z) ⟨[], hP7.up' hDa, rfl, rfl, by simp⟩ (fun _ _ _ _ _ _ => trivial) ?_ ?_
  · rintro k acc x H8 H9 hk c ⟨rfl, rfl⟩
    obtain ⟨zs, hP8, rfl, hz, hall⟩ := c.rel
    refine ⟨rfl, lc_yes ?_⟩
    refine ⟨_, rfl, _, rfl, a, 26, rfl, hP8, by decide, by decide, fun H9 i b9 hP9 hi => ?_⟩
    have hi : i < 26 := by omega
    refine ⟨abc, (i : Int), 97 + i, rfl, rfl, by omega, by omega, by rw [abc_len]; omega, abc_at i hi, ?_⟩
    refine c.keep hD (by simpa using hDa) ?_ (szl (by omega)) b9 ⟨zs ++ [chr1 (97 + i)], hP9, by simp [sv], by rw [List.length_append, hz]; rfl, fun z hz => ?_⟩
    · rintro i acc H' xs ys e ⟨zs, h1, h2, h3, h4⟩
      exact ⟨zs, h1.up' hDa, h2, h3, h4⟩
    · rcases List.mem_append.mp hz with hz | hz
      · exact hall z hz
      · rw [List.mem_singleton.mp hz]
        refine ⟨rfl, fun c hc => ?_⟩
        have : c = 97 + i := by simpa using hc
        omega
  intro acc H8 c
  obtain ⟨zs, hP8, rfl, hz, hall⟩ := c.rel
  have b08 : But [a] H H8 := b07.trans c.but
  have hz5 : zs.length ≤ 5 := by omega
  have hsum : ∀ l : List Str, (∀ z ∈ l, z.length = 1 ∧ Let z) → (l.map (·.length)).sum = l.length := by
    intro l
    induction l with
    | nil => exact fun _ => rfl
    | cons z l ih =>
      intro h
      rw [List.map_cons, List.sum_cons, ih fun y hy => h y (List.mem_cons_of_mem _ hy), (h z List.mem_cons_self).1, List.length_cons]
      omega
  have h0 : (Str.ofString "").length = 0 := by decide
  refine ⟨_, D, zs, rfl, rfl, .inl (SqL.of c.at_), by rw [hsum zs hall, h0]; omega, ?_⟩
  have ej : Txt.join (Str.ofString "") zs = Str.join ⟨#[]⟩ zs := by
    rw [TL.join_eq, show Str.ofString "" = ⟨#[]⟩ by decide +kernel]
  rw [ej]
  obtain ⟨hl1, hlet⟩ := join_let hall
  have hl5 : (Str.join ⟨#[]⟩ zs).length ≤ 5 := by omega
  generalize Str.join ⟨#[]⟩ zs = stem at hlet hl5
  clear hl1 ej hsum hall hz c zs hz5
  -- cut, begin
  refine ⟨_, rfl, _, rfl, stem, rfl, sze (by omega), _, _, rfl, rfl, a, _, rfl, hP8, by omega, by omega, fun H9 cut b9 hP9 hcut => ?_⟩
  have hcut : cut ≤ stem.length := by omega
  refine ⟨_, rfl, a, 26, rfl, hP9, by decide, by decide, fun H10 bg b10 hP10 hbg => ⟨by show 2 ≤ sizeLine; decide, fun p12 H12 hp12 s12 hT12 => ⟨p12, _, rfl, hT12.sq, rfl, _, _, rfl, _, _, rfl, rfl, ?_⟩⟩⟩
  have b012 : But [a] H H12 := ((b08.trans b9).trans b10).trans (but_same s12)
  have hP12 := hP10.mono s12
  -- signs
  refine ⟨_, rfl, _, rfl, by omega, by omega, fun D2 hD2 => ?_⟩
  refine lc_gen walk_range [] hD2 (AllE fun k y _ => y = .str (sign bg st k)) ⟨rfl, fun j y e => by simp at e⟩ (fun _ _ _ _ _ _ => trivial) ?_ ?_
  · rintro k acc x H7 H8 hk c ⟨rfl, rfl⟩
    refine ⟨rfl, lc_yes ?_⟩
    have e : ((bg : Int) + (st : Int) * (0 + (k : Nat))) % 26 = (((bg + st * k) % 26 : Nat) : Int) := by
      push_cast
      rw [Int.zero_add]
    have hi : (bg + st * k) % 26 < 26 := by omega
    refine ⟨_, rfl, _, rfl, _, rfl, _, rfl, _, _, rfl, rfl, .inl ⟨by omega, by omega⟩, _, _, rfl, rfl, _, _, rfl, rfl, (by show (0 : Int) < 26; decide), abc, _, 97 + (bg + st * k) % 26, rfl, congrArg V.int e, by omega, by omega, by rw [abc_len]; omega, abc_at _ hi, ?_⟩
    exact c.one0 hD2 (fun _ _ _ _ _ h => h) (szl (by omega)) (Same.refl _) rfl
  intro acc H13 c
  have hacc : acc = sv ((List.range many).map (sign bg st)) := acc_eq (by rw [c.rel.1]; simp) fun i y e => by
    have hi : i < many := by
      have := (List.getElem?_eq_some_iff.mp e).1
      rw [c.rel.1] at this
      omega
    rw [c.rel.2 i y e]
    simp [hi]
  have e13 : H13 D2 = some (.lst (sv ((List.range many).map (sign bg st)))) := by rw [c.at_, hacc]
  have s13 := c.but.same
  have hP13 := hP12.mono s13
  have b013 : But [a] H H13 := b012.trans (but_same s13)
  clear c hacc
  -- sorted
  refine ⟨_, rfl, D2, rfl, ⟨_, SqL.of e13⟩, fun D3 hD3 => ?_⟩
  refine lc_gen (walk_list (K := K) (xs := sv ((List.range many).map (sign bg st)))) [] hD3 (AllE fun k y _ => y = .str (named stem cut (sign bg st k))) ⟨rfl, fun j y e => by simp at e⟩ (fun i acc H' _ b _ => SqL.of (b.same _ _ e13)) ?_ ?_
  · rintro k acc x H14 H15 hk c ⟨rfl, hx⟩
    have hk : k < many := by simpa using hk
    obtain ⟨z, ez, rfl⟩ := map_get hx
    have ez : z = sign bg st k := by
      rw [List.getElem?_map, List.getElem?_range hk] at ez
      exact (Option.some.inj ez).symm
    subst ez
    refine ⟨rfl, lc_yes ?_⟩
    have l1 := cutS_length stem none (some (cut : Int))
    have l2 := cutS_length stem (some (cut : Int)) none
    have l3 : (sign bg st k).length = 1 := rfl
    refine ⟨_, rfl, _, rfl, _, rfl, stem, rfl, sze (by omega), _, rfl, _, _, rfl, rfl, sze (by omega), _, rfl, _, rfl, _, rfl, stem, rfl, sze (by omega), _, _, rfl, rfl, sze (by rw [Str.length_append]; omega), ?_⟩
    exact c.one0 hD3 (fun _ _ _ _ _ h => h) (szl (by omega)) (Same.refl _) rfl
  · intro acc H14 c
    have hacc : acc = sv (ws2 stem cut bg st many) := acc_eq (by rw [c.rel.1]; simp [ws2]) fun i y e => by
      have hi : i < many := by
        have := (List.getElem?_eq_some_iff.mp e).1
        rw [c.rel.1] at this
        simpa using this
      rw [c.rel.2 i y e]
      simp [ws2, hi]
    have hlen : (ws2 stem cut bg st many).length = many := by simp [ws2]
    refine ⟨D3, _, rfl, SqL.of (by rw [c.at_, hacc]), by omega, fun ys p hperm hsrt hp => ?_⟩
    have s14 := c.but.same
    have hn := hperm.nodup_iff.mpr (ws2_nd hst hm hcut)
    have hP14 := hP13.mono s14
    exact q _ p ys ((b013.trans (but_same s14)).trans (but_same (same_up hp))) (hP14.up' (hP14.no hp)) (b013.freeP hP13 (s14.free hp)) (hP14.no hp) upd_same (sorted_asc hsrt hn) (fun s hs => ws2_ok hcut hl5 hlet s (hperm.mem_iff.mp hs)) (by rw [hperm.length_eq]; exact hlen)
end
end K46

namespace K46
open PySem PySem.Spec PyProof.Rows L2
theorem PlansAt.take {H : Hp} : ∀ {vs : List V} {ts : List T} (n : Nat), PlansAt H vs ts → PlansAt H (vs.take n) (ts.take n)
  | _, _, 0, _ => .nil
  | _, _, n + 1, .nil => .nil
  | _, _, n + 1, .cons h t => .cons h (t.take n)
theorem PlansAt.drop {H : Hp} : ∀ {vs : List V} {ts : List T} (n : Nat), PlansAt H vs ts → PlansAt H (vs.drop n) (ts.drop n)
  | _, _, 0, h => h
  | _, _, n + 1, .nil => .nil
  | _, _, n + 1, .cons h t => t.drop n
theorem PlansAt.append {H : Hp} : ∀ {vs vs' : List V} {ts ts' : List T}, PlansAt H vs ts → PlansAt H vs' ts' → PlansAt H (vs ++ vs') (ts ++ ts')
  | _, _, _, _, .nil, h => h
  | _, _, _, _, .cons h t, h' => .cons h (t.append h')
theorem okAll_iff : ∀ {ts : List T}, okAll ts ↔ ∀ t ∈ ts, t.ok
  | [] => by simp [okAll]
  | t :: ts => by
    unfold okAll
    rw [okAll_iff]
    simp
theorem leaves_map : ∀ ls : List Str, leavesAll (ls.map T.leaf) = ls
  | [] => rfl
  | s :: ls => by
    rw [List.map_cons, leavesAll, leaves_map ls]
    rfl
theorem plans_leaf {H : Hp} : ∀ ls : List Str, PlansAt H (sv ls) (ls.map T.leaf)
  | [] => .nil
  | s :: ls => .cons (.leaf s) (plans_leaf ls)
theorem cut_mid {xs : List V} {i m : Nat} (h : i + m ≤ xs.length) : cutV xs (some (i : Int)) (some ((i + m : Nat) : Int)) = (xs.drop i).take m := by
  unfold cutV
  rw [HT.sIx_nat, HT.sIx_nat, Nat.min_eq_left h, Nat.min_eq_left (by omega), Nat.add_sub_cancel_left]
/-- one junction made of neighbours -/
def joinTs (ts : List T) (i m : Nat) (k : Str) : List T := ts.take i ++ [.node k ((ts.drop i).take m)] ++ ts.drop (i + m)
theorem joinTs_leaves {ts : List T} {i m : Nat} {k : Str} : leavesAll (joinTs ts i m k) = leavesAll ts := by
  have e : ts = ts.take i ++ ((ts.drop i).take m ++ ts.drop (i + m)) := by
    rw [← List.drop_drop, List.take_append_drop, List.take_append_drop]
  have h := congrArg leavesAll e
  rw [leavesAll_append, leavesAll_append] at h
  unfold joinTs
  rw [leavesAll_append, leavesAll_append, h, List.append_assoc]
  simp [leavesAll, T.leaves]
theorem joinTs_ok {ts : List T} {i m : Nat} {k : Str} (h : okAll ts) (hk : okK k) (hm : 2 ≤ m) (hi : i + m ≤ ts.length) : okAll (joinTs ts i m k) := by
  have h := okAll_iff.mp h
  refine okAll_iff.mpr fun t ht => ?_
  unfold joinTs at ht
  simp only [List.mem_append, List.mem_singleton] at ht
  rcases ht with (ht | ht) | ht
  · exact h t (List.mem_of_mem_take ht)
  · subst ht
    refine ⟨hk, by rw [List.length_take, List.length_drop]; omega, okAll_iff.mpr fun t ht => h t (List.mem_of_mem_drop (List.mem_of_mem_take ht))⟩
  · exact h t (List.mem_of_mem_drop ht)
def getS : V → Str
  | .str s => s
  | _ => ""
theorem perm_sv {ys : List V} {ls : List Str} (h : ys.Perm (sv ls)) : ∃ ls1 : List Str, ys = sv ls1 ∧ ls1.Perm ls := by
  refine ⟨ys.map getS, ?_, ?_⟩
  · show ys = (ys.map getS).map V.str
    rw [List.map_map]
    have e : ∀ y ∈ ys, (V.str ∘ getS) y = y := fun y hy => by
      obtain ⟨s, _, rfl⟩ := List.mem_map.mp (h.mem_iff.mp hy)
      rfl
    rw [List.map_congr_left e, List.map_id']
  · have := h.map getS
    rw [show (sv ls).map getS = ls by rw [List.map_map]; exact List.map_id _] at this
    exact this
section
variable {P : Program} {w : World} {K : PySem.W.Frag} {mg : Str → Option Value} {base : Heap}
abbrev s_law_tree : Stmt := topS 47
abbrev n_law_tree : List Str := ["_law_pool_here", "_law_calls_here", "_law_left", "_law_many", "_law_at"]
abbrev p_law_tree : List Str := ["_law_pool_here", "_law_calls_here"]
theorem sc_law_tree : FnScope n_law_tree p_law_tree (defScope s_law_tree) := ⟨rfl, rfl, rfl, by decide +kernel, rfl, by decide +kernel, by decide +kernel⟩
-- slots: 0 _law_pool_here 1 _law_calls_here 2 _law_left 3 _law_many 4 _law_at
def spTree : Sp := fun vs H Q _ => ∃ (a b : Addr) (ls : List Str), vs = [.ref a, .ref b] ∧ PoolAt H a ∧ H b = some (.lst (sv ls)) ∧ 1 ≤ ls.length ∧ ls.length ≤ 8 ∧ (∀ s ∈ ls, okLine s) ∧
  ∀ H' v t, But [a] H H' → PoolAt H' a → PlanAt H' v t → t.ok → t.leaves.Perm ls → Q v H'
theorem d__law_tree (B : Bn mg) (E : Ent K mg "_law_tree" s_law_tree) (D_law_draw : Df P w K mg base 1 "_law_draw" p_law_draw spDraw) (D_law_mixed : Df P w K mg base 2 "_law_mixed" p_law_mixed (spMixed K)) (D_law_sort : Df P w K mg base 2 "_law_sort" p_law_sort spSort) : Df P w K mg base 3 "_law_tree" p_law_tree spTree := by
  refine E.df sc_law_tree (fun _ _ _ _ _ _ us hl => match us, hl with | [_, _], _ => rfl) (fun vs H Q E h => ?_) (fun f cdv A outer s H vs Q E hr h => ?_)
  · obtain ⟨a, b, ls, rfl, _⟩ := h
    rfl
  obtain ⟨a, b, ls, rfl, hP, hb, h1, h8, hok, q⟩ := h
  refine ⟨_, pss_cons (ps_set (i := 2) sc_law_tree.nd rfl (Or.inl rfl) (pe_df D_law_mixed (hr.mono (by decide)) rfl (pa_cons (pv 0) (pa_cons (pv 1) pa_nil))))
      (pss_cons (ps_while PassesOwn.never (pt_cmpR op_gt (pe_callB (call_len_seqK K) (by rfl) B.len b_len (pa_cons (pv 2) pa_nil)) pe_int (nomark _)) (pss_cons (ps_set (i := 3) sc_law_tree.nd rfl (Or.inl rfl) (pe_op op_add pe_int (pe_df D_law_draw (hr.mono (by decide)) rfl (pa_cons (pv 0) (pa_cons (pe_callB (call_min2 rfl) (by rfl) B.min b_min (pa_cons pe_int (pa_cons (pe_op op_sub (pe_callB (call_len_seqK K) (by rfl) B.len b_len (pa_cons (pv 2) pa_nil)) pe_int) pa_nil))) pa_nil)))))
      (pss_cons (ps_set (i := 4) sc_law_tree.nd rfl (Or.inl rfl) (pe_df D_law_draw (hr.mono (by decide)) rfl (pa_cons (pv 0) (pa_cons (pe_op op_add (pe_op op_sub (pe_callB (call_len_seqK K) (by rfl) B.len b_len (pa_cons (pv 2) pa_nil)) (pv 3)) pe_int) pa_nil))))
      (pss_one (ps_set (i := 2) sc_law_tree.nd rfl (Or.inl rfl) (pe_op op_cat (pe_op op_cat (pe_slice (sl_listK K) (pv 2) po_none (po_some (pv 4))) (pe_lstS (pa_cons (pe_tupF (pa_cons (pe_df D_law_sort (hr.mono (by decide)) rfl (pa_cons (pv 0) pa_nil)) (pa_cons (pe_callTy (call_tupFK K) (by rfl) B.tuple b_tuple (pa_cons (pe_slice (sl_listK K) (pv 2) (po_some (pv 4)) (po_some (pe_op op_add (pv 4) (pv 3)))) pa_nil)) pa_nil))) pa_nil))) (pe_slice (sl_listK K) (pv 2) (po_some (pe_op op_add (pv 4) (pv 3))) po_none)))))))
      (pss_one (ps_ret (pe_ix (ix_listK K) (pv 2) pe_int (fun _ _ => rfl))))), ?_⟩
  refine ⟨_, rfl, _, rfl, a, b, _, rfl, hP, hb, by rw [List.length_map]; omega, fun H1 l ys b1 hP1 hl hla el hperm => ?_⟩
  obtain ⟨ls1, rfl, hp1⟩ := perm_sv hperm
  refine ⟨fun m σ H' => ∃ (l : Addr) (L : List V) (ts : List T) (y3 y4 : Option V), σ = [some (.ref a), some (.ref b), some (.ref l), y3, y4] ∧ But [a] H H' ∧ PoolAt H' a ∧ H' l = some (.lst L) ∧ l ≠ a ∧ PlansAt H' L ts ∧ okAll ts ∧ (leavesAll ts).Perm ls ∧ 1 ≤ ts.length ∧ ts.length ≤ 8 ∧ m = L.length,
    ⟨_, l, _, ls1.map T.leaf, none, none, rfl, b1, hP1, el, hla, plans_leaf ls1, ?_, ?_, ?_, ?_, rfl⟩, ?_⟩
  · refine okAll_iff.mpr fun t ht => ?_
    obtain ⟨s, hs, rfl⟩ := List.mem_map.mp ht
    exact hok s (hp1.mem_iff.mp hs)
  · rw [leaves_map]
    exact hp1
  · rw [List.length_map, hp1.length_eq]
    exact h1
  · rw [List.length_map, hp1.length_eq]
    exact h8
  clear hperm hp1 el hla hl hP1 b1
  rintro m σ H2 ⟨l, L, ts, y3, y4, rfl, b2, hP2, hl, hla, hpl, hokts, hperm, ht1, ht8, rfl⟩
  have hLl := hpl.length
  refine ⟨_, rfl, l, L, rfl, .inl (SqL.of hl), _, _, rfl, rfl, _, rfl, ?_⟩
  refine ite2 (fun hlt => ⟨fun σ' H' => ∃ m', m' < L.length ∧ ∃ (l : Addr) (L : List V) (ts : List T) (y3 y4 : Option V), σ' = [some (.ref a), some (.ref b), some (.ref l), y3, y4] ∧ But [a] H H' ∧ PoolAt H' a ∧ H' l = some (.lst L) ∧ l ≠ a ∧ PlansAt H' L ts ∧ okAll ts ∧ (leavesAll ts).Perm ls ∧ 1 ≤ ts.length ∧ ts.length ≤ 8 ∧ m' = L.length, fun _ _ n => n, ?_⟩) (fun hge => ?_)
  · have hlt : (1 : Int) < (L.length : Int) := of_decide_eq_true hlt
    -- many
    refine ⟨_, rfl, _, rfl, l, L, rfl, .inl (SqL.of hl), _, _, rfl, rfl, _, _, rfl, a, _, rfl, hP2, ?_, ?_, fun H3 m0 b3 hP3 hm0 => ?_⟩
    · split <;> omega
    · split <;> omega
    have hm : m0 + 2 ≤ L.length := by
      split at hm0 <;> omega
    refine ⟨_, _, rfl, rfl, ?_⟩
    have em : (2 : Int) + (m0 : Int) = ((m0 + 2 : Nat) : Int) := by omega
    have hl3 : H3 l = some (.lst L) := b3 _ _ (by simpa using hla) hl
    -- at
    refine ⟨_, rfl, _, rfl, l, L, rfl, .inl (SqL.of hl3), _, rfl, _, _, rfl, rfl, _, _, rfl, rfl, a, _, rfl, hP3, by omega, by omega, fun H4 i b4 hP4 hi => ?_⟩
    have hi : i + (m0 + 2) ≤ L.length := by omega
    have hl4 : H4 l = some (.lst L) := b4 _ _ (by simpa using hla) hl3
    -- left[:at]
    refine ⟨_, rfl, _, rfl, _, rfl, l, _, rfl, SqL.of hl4, fun p5 hp5 => ?_⟩
    rw [cut_take]
    have e5 : (upd H4 p5 (.lst (L.take i))) p5 = some (.lst (L.take i)) := upd_same
    have s5 : Same H4 (upd H4 p5 (.lst (L.take i))) := same_up hp5
    generalize upd H4 p5 (.lst (L.take i)) = H5 at e5 s5 ⊢
    have hP5 := hP4.mono s5
    have h5a := hP4.no hp5
    -- sort
    refine ⟨_, rfl, a, rfl, hP5, fun H6 k b6 hP6 hk => ?_⟩
    have e6 : H6 p5 = some (.lst (L.take i)) := b6 _ _ (by simpa using h5a) e5
    have hl6 : H6 l = some (.lst L) := b6 _ _ (by simpa using hla) (s5 _ _ hl4)
    have b06 : But [a] H2 H6 := ((b3.trans b4).trans (but_same s5)).trans b6
    have z26 : Fz H2 H6 := hP2.fz b06
    -- tuple
    refine ⟨_, rfl, _, rfl, _, rfl, _, rfl, _, rfl, _, _, rfl, rfl, ((i + (m0 + 2) : Nat) : Int), congrArg V.int (by omega), l, _, rfl, SqL.of hl6, fun p7 hp7 => ?_⟩
    rw [cut_mid hi]
    refine ⟨p7, _, rfl, SqL.of upd_same, fun p8 H8 hp8 s8 hT8 => ⟨by show 2 ≤ sizeLine; decide, fun p9 H9 hp9 s9 hT9 => ⟨by show 1 ≤ sizeLine; decide, fun p10 H10 hp10 s10 e10 => ?_⟩⟩⟩
    have s610 : Same H6 H10 := (((same_up hp7).trans s8).trans s9).trans s10
    refine ⟨p5, p10, _, _, rfl, rfl, s610 _ _ e6, e10, sze (by rw [List.length_take]; show _ + 1 ≤ _; omega), fun p11 hp11 => ?_⟩
    have e11 : (upd H10 p11 (.lst (L.take i ++ [V.ref p9]))) p11 = some (.lst (L.take i ++ [V.ref p9])) := upd_same
    have s11 : Same H10 (upd H10 p11 (.lst (L.take i ++ [V.ref p9]))) := same_up hp11
    generalize upd H10 p11 (.lst (L.take i ++ [V.ref p9])) = H11 at e11 s11 ⊢
    refine ⟨_, rfl, _, rfl, _, rfl, _, _, rfl, rfl, ((i + (m0 + 2) : Nat) : Int), congrArg V.int (by omega), l, _, rfl, SqL.of (s11 _ _ (s610 _ _ hl6)), fun p12 hp12 => ?_⟩
    rw [cut_drop]
    refine ⟨p11, p12, _, _, rfl, rfl, by rw [upd_ne (ne_of_none e11 hp12)]; exact e11, upd_same, sze (by rw [List.length_append, List.length_take, List.length_drop]; show _ + 1 + _ ≤ _; omega), fun p13 hp13 => ?_⟩
    have s612 : Same H6 (upd H11 p12 (.lst (L.drop (i + (m0 + 2))))) := (s610.trans s11).trans (same_up hp12)
    have s9x : Same H9 (upd H11 p12 (.lst (L.drop (i + (m0 + 2))))) := (s10.trans s11).trans (same_up hp12)
    generalize upd H11 p12 (.lst (L.drop (i + (m0 + 2)))) = H12 at s612 s9x hp13 ⊢
    have s613 : Same H6 (upd H12 p13 (.lst (L.take i ++ [V.ref p9] ++ L.drop (i + (m0 + 2))))) := s612.trans (same_up hp13)
    have s913 : Same H9 (upd H12 p13 (.lst (L.take i ++ [V.ref p9] ++ L.drop (i + (m0 + 2))))) := s9x.trans (same_up hp13)
    have z : Fz H2 (upd H12 p13 (.lst (L.take i ++ [V.ref p9] ++ L.drop (i + (m0 + 2))))) := z26.trans (fz_same s613)
    have hpl' := hpl.fz z
    have hlen : (L.take i ++ [V.ref p9] ++ L.drop (i + (m0 + 2))).length = L.length - (m0 + 2) + 1 := by
      simp only [List.length_append, List.length_take, List.length_drop, List.length_cons, List.length_nil]
      omega
    refine ⟨_, ?_, p13, _, joinTs ts i (m0 + 2) k, _, _, rfl, (b2.trans b06).trans (but_same s613), hP6.mono s613, upd_same, (hP6.mono s612).no hp13, ?_, joinTs_ok hokts hk (by omega) (by omega), by rw [joinTs_leaves]; exact hperm, ?_, ?_, rfl⟩
    · rw [hlen]
      omega
    · refine PlansAt.append (PlansAt.append (hpl'.take i) (.cons (.node (b := p8) (hT9.mono s913) ((hT8.mono s9).mono s913) ((hpl'.drop i).take (m0 + 2))) .nil)) (hpl'.drop (i + (m0 + 2)))
    · unfold joinTs
      simp only [List.length_append, List.length_cons, List.length_nil]
      omega
    · unfold joinTs
      simp only [List.length_append, List.length_take, List.length_drop, List.length_cons, List.length_nil]
      omega
  · have hge : ¬ (1 : Int) < (L.length : Int) := fun z => hge (decide_eq_true z)
    have hL : ts.length = 1 := by omega
    obtain ⟨t, rfl⟩ := List.length_eq_one_iff.mp hL
    cases hpl with
    | cons hv hnil =>
      cases hnil
      refine ⟨_, rfl, l, _, _, _, rfl, rfl, SqL.of hl, atI_nat (j := 0) rfl, q H2 _ t b2 hP2 hv hokts.1 ?_⟩
      simpa [leavesAll] using hperm
end
end K46

namespace K46
open PySem PySem.Spec PyProof.Rows L2
/-! ### crowds made of a map -/
def mk (f : Str → List Int) (ys : List Str) : Crowd := ys.map fun s => (s, f s)
theorem mk_keys (f : Str → List Int) (ys : List Str) : (mk f ys).map (·.1) = ys := by
  unfold mk
  rw [List.map_map]
  exact List.map_id _
theorem mk_folks (f : Str → List Int) : ∀ ys : List Str, folks (mk f ys) = ys.flatMap f
  | [] => rfl
  | y :: ys => by
    show folks ((y, f y) :: mk f ys) = _
    rw [folks_cons, mk_folks f ys, List.flatMap_cons]
theorem mk_fOf (f : Str → List Int) {s : Str} : ∀ {ys : List Str}, (s ∉ ys → f s = []) → fOf (mk f ys) s = f s
  | [], h => (h (by simp)).symm
  | y :: ys, h => by
    show fOf ((y, f y) :: mk f ys) s = f s
    unfold fOf
    by_cases e : y = s
    · rw [if_pos e, e]
    · rw [if_neg e]
      exact mk_fOf f fun hs => h fun hm => (List.mem_cons.mp hm).elim (fun z => e z.symm) hs
theorem flatMap_perm {f : Str → List Int} {xs ys : List Str} (h : xs.Perm ys) : (xs.flatMap f).Perm (ys.flatMap f) := List.Perm.flatMap_right f h
theorem up_perm {f : Str → List Int} {L : Str} {h : Int} : ∀ {ls : List Str}, ls.Nodup → L ∈ ls → (ls.flatMap (fUp f L h)).Perm (h :: ls.flatMap f)
  | [], _, hm => by simp at hm
  | s :: ls, hn, hm => by
    obtain ⟨h1, h2⟩ := List.nodup_cons.mp hn
    rw [List.flatMap_cons, List.flatMap_cons]
    by_cases e : s = L
    · subst e
      have e2 : ls.flatMap (fUp f s h) = ls.flatMap f := by
        refine flatMap_eq fun z hz => fUp_ne f s h z fun e => h1 (e ▸ hz)
      rw [e2, fUp_at, List.append_assoc]
      exact List.perm_middle
    · rw [fUp_ne f L h s e]
      have hm' : L ∈ ls := (List.mem_cons.mp hm).resolve_left fun z => e z.symm
      exact (List.Perm.append_left (f s) (up_perm h2 hm')).trans List.perm_middle
where
  flatMap_eq {f g : Str → List Int} : ∀ {ls : List Str}, (∀ s ∈ ls, g s = f s) → ls.flatMap g = ls.flatMap f
    | [], _ => rfl
    | s :: ls, h => by
      rw [List.flatMap_cons, List.flatMap_cons, h s List.mem_cons_self, flatMap_eq fun z hz => h z (List.mem_cons_of_mem _ hz)]
theorem filter_flat {f : Str → List Int} {p : Str → Bool} : ∀ {ys : List Str}, (∀ s ∈ ys, p s = false → f s = []) → (ys.filter p).flatMap f = ys.flatMap f
  | [], _ => rfl
  | y :: ys, h => by
    have ih := filter_flat fun s hs => h s (List.mem_cons_of_mem y hs)
    rw [List.flatMap_cons]
    by_cases e : p y = true
    · rw [List.filter_cons_of_pos e, List.flatMap_cons, ih]
    · rw [List.filter_cons_of_neg e, ih, h y List.mem_cons_self (by simpa using e), List.nil_append]
theorem mk_ok {f : Str → List Int} {ys : List Str} {ns : List Int} (h8 : ys.length ≤ 8) (ha : ys.Pairwise sLt) (hl : ∀ s ∈ ys, okLine s) (hp : (ys.flatMap f).Perm ns) (hn : ns.Nodup) (hh : ∀ x ∈ ns, okH x) (hm : ns.length ≤ 40) : okCrowd (mk f ys) := by
  refine ⟨by unfold mk; rw [List.length_map]; exact h8, by rw [mk_keys]; exact ha, fun p hp => ?_, fun x hx => ?_, ?_, ?_⟩
  · obtain ⟨s, hs, rfl⟩ := List.mem_map.mp hp
    exact hl s hs
  · rw [mk_folks] at hx
    exact hh x (hp.mem_iff.mp hx)
  · rw [mk_folks]
    exact hp.nodup_iff.mpr hn
  · rw [mk_folks, hp.length_eq]
    exact hm
/-! ### dicts of rows -/
theorem putK_in {kvs : List (Key × V)} {k : Key} {v : V} (hm : k ∈ kvs.map (·.1)) : (putK kvs k v).map (·.1) = kvs.map (·.1) := by
  unfold putK
  have h : (kvs.any fun kv => decide (kv.1 = k)) = true := by
    obtain ⟨p, hp, e⟩ := List.mem_map.mp hm
    exact List.any_eq_true.mpr ⟨p, hp, decide_eq_true e⟩
  rw [if_pos h, List.map_map]
  refine List.map_congr_left fun kv _ => ?_
  show (if kv.1 = k then (kv.1, v) else kv).1 = kv.1
  split <;> rfl
theorem putK_out {kvs : List (Key × V)} {k : Key} {v : V} (hm : ¬ k ∈ kvs.map (·.1)) : (putK kvs k v).map (·.1) = kvs.map (·.1) ++ [k] := by
  rw [putK_new fun kv hk e => hm (List.mem_map.mpr ⟨kv, hk, e⟩), List.map_append]
  rfl
theorem valV_some {kvs : List (Key × V)} {k : Key} (h : k ∈ kvs.map (·.1)) : ∃ v, valV kvs k = some v := by
  cases e : valV kvs k with
  | some v => exact ⟨v, rfl⟩
  | none => exact absurd h (valV_not e)
theorem merge_new : ∀ {more kvs : List (Key × V)}, (kvs.map (·.1) ++ more.map (·.1)).Nodup → mergeK kvs more = kvs ++ more
  | [], kvs, _ => (List.append_nil kvs).symm
  | kv :: more, kvs, h => by
    show mergeK (putK kvs kv.1 kv.2) more = kvs ++ kv :: more
    have hnew : ∀ x ∈ kvs, ¬ x.1 = kv.1 := fun x hx e => by
      have h3 := (List.nodup_append.mp h).2.2
      exact h3 x.1 (List.mem_map.mpr ⟨x, hx, rfl⟩) kv.1 (by simp) e
    rw [putK_new hnew, merge_new (by simpa using h), List.append_assoc]
    rfl
theorem merge_nil {kvs : List (Key × V)} (h : (kvs.map (·.1)).Nodup) : mergeK [] kvs = kvs := by
  have := merge_new (kvs := []) (more := kvs) (by simpa using h)
  simpa using this
theorem inr_nodup {ls : List Str} (h : ls.Nodup) : (ls.map (Sum.inr : Str → Key)).Nodup := by
  unfold List.Nodup
  rw [List.pairwise_map]
  exact h.imp fun h e => h (Sum.inr.inj e)
/-- the list of pairs, as a dict's pairs -/
theorem kvs_of {K : PySem.W.Frag} {H : Hp} : ∀ {acc : List V} {c : Crowd}, acc.length = c.length → (∀ (i : Nat) y p, acc[i]? = some y → c[i]? = some p → EntAt H y p) →
    ∃ (ps : List Addr) (kvs : List (Key × V)), acc = ps.map V.ref ∧ Paired (fun p kv => SqT K H p [kV kv.1, kv.2]) ps kvs ∧ KvsAt H kvs c
  | [], [], _, _ => ⟨[], [], rfl, .nil, .nil⟩
  | y :: acc, p :: c, hl, h => by
    obtain ⟨ps, kvs, e, h1, h2⟩ := kvs_of (acc := acc) (c := c) (by simpa using hl) fun i y' p' e1 e2 => h (i + 1) y' p' (by simpa using e1) (by simpa using e2)
    obtain ⟨t, b, rfl, ht, hb⟩ := h 0 y p rfl rfl
    exact ⟨t :: ps, (Sum.inr p.1, .ref b) :: kvs, by rw [List.map_cons, e], .cons ht.sq h1, .cons ⟨rfl, b, rfl, hb⟩ h2⟩
theorem kvs_keys {H : Hp} : ∀ {kvs : List (Key × V)} {c : Crowd}, KvsAt H kvs c → kvs.map (·.1) = (c.map (·.1)).map Sum.inr
  | _, _, .nil => rfl
  | _, _, .cons ⟨e, _⟩ t => by
    rw [List.map_cons, List.map_cons, List.map_cons, kvs_keys t, e]
/-- the dict of a map, its keys in this order -/
structure DAt (H : Hp) (d : Addr) (ks : List Str) (f : Str → List Int) : Prop where
  ex : ∃ kvs, H d = some (.dK kvs) ∧ kvs.map (·.1) = ks.map Sum.inr ∧ DMap H kvs f
theorem DMap.get {H : Hp} {kvs : List (Key × V)} {f : Str → List Int} {ks : List Str} {s : Str} (hm : DMap H kvs f) (hk : kvs.map (·.1) = ks.map Sum.inr) (hs : s ∈ ks) : ∃ b, valV kvs (Sum.inr s) = some (.ref b) ∧ TupAt H b (iv (f s)) := by
  obtain ⟨v, e⟩ := valV_some (kvs := kvs) (k := Sum.inr s) (by rw [hk]; exact List.mem_map.mpr ⟨s, hs, rfl⟩)
  obtain ⟨b, rfl, h⟩ := (hm s).1 v e
  exact ⟨b, e, h⟩
theorem DMap.out {H : Hp} {kvs : List (Key × V)} {f : Str → List Int} {ks : List Str} {s : Str} (hm : DMap H kvs f) (hk : kvs.map (·.1) = ks.map Sum.inr) (hs : s ∉ ks) : f s = [] := by
  cases e : valV kvs (Sum.inr s) with
  | none => exact (hm s).2 e
  | some v =>
    have := valV_in e
    rw [hk] at this
    obtain ⟨z, hz, e⟩ := List.mem_map.mp this
    exact absurd (Sum.inr.inj e ▸ hz) hs
theorem DMap.put {H H' : Hp} {kvs : List (Key × V)} {f : Str → List Int} {L : Str} {h : Int} {p : Addr} (hm : DMap H kvs f) (z : Fz H H') (hp : TupAt H' p (iv (f L) ++ [V.int h])) : DMap H' (putK kvs (Sum.inr L) (.ref p)) (fUp f L h) := fun s => by
  rw [valV_put]
  by_cases hz : s = L
  · subst hz
    rw [if_pos rfl, fUp_at]
    refine ⟨fun v e => ⟨p, (Option.some.inj e).symm, ?_⟩, fun e => by cases e⟩
    have e : iv (f s ++ [h]) = iv (f s) ++ [V.int h] := by simp [iv]
    rw [e]
    exact hp
  · rw [if_neg (fun e => hz (Sum.inr.inj e)), fUp_ne _ _ _ _ hz]
    exact (hm.fz z) s
/-! ### what is told apart -/
abbrev dI (ns : List Int) : PyData := .tuple (ns.map .int)
theorem dI_at {K : PySem.W.Frag} {H : Hp} {a : Addr} {ns : List Int} (h : TupAt H a (iv ns)) : Dp K H (.ref a) (dI ns) := .tup h.sq (all ns)
where
  all : ∀ ns : List Int, DpAll K H (iv ns) (ns.map .int)
    | [] => .nil
    | n :: ns => .cons (.int n) (all ns)
theorem dI_eq : ∀ ns ms : List Int, PyData.eqv (dI ns) (dI ms) = decide (ns = ms) := fun ns ms => by
  show PyData.eqv (.tuple (ns.map .int)) (.tuple (ms.map .int)) = _
  simp only [PyData.eqv]
  exact go ns ms
where
  go : ∀ ns ms : List Int, PyData.eqvAll (ns.map PyData.int) (ms.map PyData.int) = decide (ns = ms)
    | [], [] => by simp [PyData.eqvAll]
    | [], _ :: _ => by simp [PyData.eqvAll]
    | _ :: _, [] => by simp [PyData.eqvAll]
    | n :: ns, m :: ms => by
      rw [List.map_cons, List.map_cons, PyData.eqvAll, go ns ms]
      by_cases h : n = m
      · subst h
        simp [PyData.eqv]
      · simp [PyData.eqv, h]
theorem dI_sh (ns : List Int) : SeqAt.shaped (dI ns) = true := by
  have h1 : ∀ ns : List Int, PyData.canLayAll0 (ns.map PyData.int) = true := fun ns => by
    induction ns with
    | nil => rfl
    | cons n ns ih => rw [List.map_cons, PyData.canLayAll0, ih] <;> rfl
  have h2 : ∀ ns : List Int, PyData.depthAll (ns.map PyData.int) ≤ 4 := fun ns => by
    induction ns with
    | nil => simp [PyData.depthAll]
    | cons n ns ih =>
      rw [List.map_cons]
      simp only [PyData.depthAll, PyData.depth] at *
      omega
  have h3 := h2 ns
  show (PyData.canLay0 (.tuple (ns.map .int)) && decide (PyData.depth (.tuple (ns.map .int)) ≤ 64)) = true
  rw [Bool.and_eq_true]
  exact ⟨by simp only [PyData.canLay0]; exact h1 ns, decide_eq_true (by simp only [PyData.depth]; omega)⟩
abbrev dS (ys : List Str) : PyData := .tuple (ys.map .str)
theorem dS_at {K : PySem.W.Frag} {H : Hp} {a : Addr} {ys : List Str} (h : TupAt H a (sv ys)) : Dp K H (.ref a) (dS ys) := .tup h.sq (all ys)
where
  all : ∀ ys : List Str, DpAll K H (sv ys) (ys.map .str)
    | [] => .nil
    | n :: ns => .cons (.str n) (all ns)
theorem dS_sh {ys : List Str} (h : ∀ y ∈ ys, PyData.strOk y = true) : SeqAt.shaped (dS ys) = true := by
  have h1 : ∀ ys : List Str, (∀ y ∈ ys, PyData.strOk y = true) → PyData.canLayAll0 (ys.map PyData.str) = true := fun ys => by
    induction ys with
    | nil => exact fun _ => rfl
    | cons n ns ih =>
      intro h
      rw [List.map_cons, PyData.canLayAll0, ih fun y hy => h y (List.mem_cons_of_mem _ hy), Bool.and_true]
      exact h n List.mem_cons_self
  have h2 : ∀ ys : List Str, PyData.depthAll (ys.map PyData.str) ≤ 4 := fun ys => by
    induction ys with
    | nil => simp [PyData.depthAll]
    | cons n ns ih =>
      rw [List.map_cons]
      simp only [PyData.depthAll, PyData.depth] at *
      omega
  have h3 := h2 ys
  show (PyData.canLay0 (.tuple (ys.map .str)) && decide (PyData.depth (.tuple (ys.map .str)) ≤ 64)) = true
  rw [Bool.and_eq_true]
  exact ⟨by simp only [PyData.canLay0]; exact h1 ys h, decide_eq_true (by simp only [PyData.depth]; omega)⟩
theorem dS_refl (ys : List Str) : PyData.eqv (dS ys) (dS ys) = true := by
  show PyData.eqv (.tuple (ys.map .str)) (.tuple (ys.map .str)) = _
  simp only [PyData.eqv]
  exact go ys
where
  go : ∀ ys : List Str, PyData.eqvAll (ys.map PyData.str) (ys.map PyData.str) = true
    | [] => by simp [PyData.eqvAll]
    | y :: ys => by
      rw [List.map_cons, PyData.eqvAll, go ys]
      simp [PyData.eqv]
end K46

namespace K46
open PySem PySem.Spec PyProof.Rows L2
theorem crowd_of {H : Hp} {a : Addr} : ∀ {acc : List V} {c : Crowd}, TupAt H a acc → Paired (EntAt H) acc c → CrowdAt H a c := fun {acc c} h hp => by
  refine ⟨acc, h, Paired.length hp, fun i p e => ?_⟩
  have hi : i < acc.length := by
    have := (List.getElem?_eq_some_iff.mp e).1
    rw [Paired.length hp]
    exact this
  exact ⟨acc[i], List.getElem?_eq_getElem hi, paired_get hp (List.getElem?_eq_getElem hi) e⟩
theorem flat_le {f : Str → List Int} {L : Str} : ∀ {ls : List Str}, L ∈ ls → (f L).length ≤ (ls.flatMap f).length
  | s :: ls, h => by
    rw [List.flatMap_cons, List.length_append]
    rcases List.mem_cons.mp h with rfl | h
    · omega
    · have := flat_le (f := f) h
      omega
theorem get_key {H : Hp} {d : Addr} {kvs : List (Key × V)} {s : Str} {v : V} (hd : H d = some (.dK kvs)) (e : valV kvs (Sum.inr s) = some v) : DGet H d (.str s) (some v) := by
  have := DGet.k (k := (Sum.inr s : Key)) hd
  rw [e] at this
  exact this
/-- empty lines stay or go -/
def keepP (bare : Nat) (f : Str → List Int) (s : Str) : Bool := decide (bare = 0) || !decide (f s = [])
section
variable {P : Program} {w : World} {K : PySem.W.Frag} {mg : Str → Option Value} {base : Heap}
abbrev s_law_folk : Stmt := topS 48
abbrev n_law_folk : List Str := ["_law_pool_here", "_law_calls_here", "_law_inches_here", "_law_call", "_law_found", "_law_one_height", "_law_bare"]
abbrev p_law_folk : List Str := ["_law_pool_here", "_law_calls_here", "_law_inches_here"]
theorem sc_law_folk : FnScope n_law_folk p_law_folk (defScope s_law_folk) := ⟨rfl, rfl, rfl, by decide +kernel, rfl, by decide +kernel, by decide +kernel⟩
-- slots: 0 _law_pool_here 1 _law_calls_here 2 _law_inches_here 3 _law_call 4 _law_found* 5 _law_one_height 6 _law_bare*
def spFolk : Sp := fun vs H Q _ => ∃ (a b c : Addr) (ls : List Str) (ns : List Int), vs = [.ref a, .ref b, .ref c] ∧ PoolAt H a ∧ H b = some (.lst (sv ls)) ∧ b ≠ a ∧ H c = some (.lst (iv ns)) ∧ c ≠ a ∧ ls.Pairwise sLt ∧ (∀ s ∈ ls, okLine s) ∧ 1 ≤ ls.length ∧ ls.length ≤ 8 ∧
  ns.Nodup ∧ (∀ h ∈ ns, okH h) ∧ ns.length ≤ 24 ∧ ∀ H' p cr, But [a] H H' → PoolAt H' a → CrowdAt H' p cr → okCrowd cr → (∀ x ∈ cr, x.1 ∈ ls) → (folks cr).Perm ns → Q (.ref p) H'
theorem d__law_folk (B : Bn mg) (E : Ent K mg "_law_folk" s_law_folk) (D_law_draw : Df P w K mg base 1 "_law_draw" p_law_draw spDraw) : Df P w K mg base 2 "_law_folk" p_law_folk spFolk := by
  refine E.df sc_law_folk (fun _ _ _ _ _ _ us hl => match us, hl with | [_, _, _], _ => rfl) (fun vs H Q E h => ?_) (fun f cdv A outer s H vs Q E hr h => ?_)
  · obtain ⟨a, b, c, ls, ns, rfl, _⟩ := h
    rfl
  obtain ⟨a, b, cc, ls, ns, rfl, hP, hb, hba, hc, hca, hasc, hok, h1, h8, hnd, hH, h24, q⟩ := h
  refine ⟨_, pss_cons (ps_set (i := 4) sc_law_folk.nd rfl (Or.inr rfl) (pe_callTy (call_dictP rfl) (by rfl) B.dict b_dict (pa_cons (pe_lc (own := [("_law_call", 3)]) rfl sc_law_folk.nd (pi_listK K (pv 1)) (blkOk_by (N := n_law_folk) (sc := defScope s_law_folk) (by decide +kernel)) (fun _ _ _ _ _ => (pg_name (i := 3) sc_law_folk.nd rfl (Or.inl rfl))) (fun _ _ _ _ _ => pts_nil) (fun _ _ _ _ _ => (pe_tupF (pa_cons (pv 3) (pa_cons (pe_tupF pa_nil) pa_nil))))) pa_nil)))
      (pss_cons (ps_for PassesOwn.never rfl (pi_listK K (pv 2)) (pg_name (i := 5) sc_law_folk.nd rfl (Or.inl rfl)) (pss_cons (ps_set (i := 3) sc_law_folk.nd rfl (Or.inl rfl) (pe_ix (ix_listK K) (pv 1) (pe_df D_law_draw (hr.mono (by decide)) rfl (pa_cons (pv 0) (pa_cons (pe_callB (call_len_seqK K) (by rfl) B.len b_len (pa_cons (pv 1) pa_nil)) pa_nil))) (fun _ _ => rfl)))
      (pss_one (ps_dput (hu_of hr) (pv 4) (pv 3) (pe_op op_catF (pe_dget (hu_of hr) (pv 4) (pv 3) (fun _ _ => rfl)) (pe_tupF (pa_cons (pv 5) pa_nil))) rfl))))
      (pss_cons (ps_set (i := 6) sc_law_folk.nd rfl (Or.inr rfl) (pe_df D_law_draw (hr.mono (by decide)) rfl (pa_cons (pv 0) (pa_cons pe_int pa_nil))))
      (pss_one (ps_ret (pe_callTy (call_tupFK K) (by rfl) B.tuple b_tuple (pa_cons (pe_lc (own := [("_law_call", 3)]) rfl sc_law_folk.nd (pi_listK K (pe_callB cr_sortedS (by rfl) B.sorted b_sorted (pa_cons (pv 1) pa_nil))) (blkOk_by (N := n_law_folk) (sc := defScope s_law_folk) (by decide +kernel)) (fun _ _ _ _ _ => (pg_name (i := 3) sc_law_folk.nd rfl (Or.inl rfl))) (fun _ _ _ _ _ => (pts_one (PW.pt (pw_or (pt_cmpR op_eq (pv 6) pe_int (nomark _)) (pw_or1 (pt_cmpR (op_neDK K hr.units) (pe_dget (hu_of hr) (pv 4) (pv 3) (fun _ _ => rfl)) (pe_tupF pa_nil) (nomark _))))))) (fun _ _ _ _ _ => (pe_tupF (pa_cons (pv 3) (pa_cons (pe_dget (hu_of hr) (pv 4) (pv 3) (fun _ _ => rfl)) pa_nil))))) pa_nil)))))), ?_⟩
  -- found
  refine ⟨_, rfl, b, rfl, ⟨_, SqL.of hb⟩, fun D hD => ?_⟩
  have hDa := hP.no hD
  refine lc_gen (walk_list (K := K) (xs := sv ls)) [] hD (fun i acc H' => Paired (EntAt H') acc (mk (fun _ => []) (ls.take i))) .nil (fun i acc H' _ b' _ => SqL.of (b'.same _ _ hb)) ?_ ?_
  · rintro i acc x H1 H2 hi c ⟨rfl, hx⟩
    obtain ⟨s, es, rfl⟩ := map_get hx
    refine ⟨rfl, lc_yes ⟨_, rfl, Nat.zero_le _, fun e H3 he s3 hTe => ⟨by show 2 ≤ sizeLine; decide, fun t H4 ht s4 hTt => ?_⟩⟩⟩
    rw [List.length_map] at hi
    refine c.keep hD (by simp) (fun i acc H' xs ys e h => Paired.mapP h fun _ _ q => q.fz (fz_lst e)) (szl (by omega)) (but_same (s3.trans s4)) ?_
    show Paired (EntAt H4) (acc ++ [V.ref t]) (mk (fun _ => []) (ls.take (i + 1)))
    rw [List.take_add_one, es]
    unfold mk
    rw [List.map_append]
    exact Paired.snoc (Paired.mapP c.rel fun _ _ q => q.fz (fz_same (s3.trans s4))) ⟨t, e, rfl, hTt, hTe.mono s4⟩
  intro acc H1 c
  have hrel : Paired (EntAt H1) acc (mk (fun _ => []) ls) := by
    have := c.rel
    rw [List.length_map, List.take_length] at this
    exact this
  obtain ⟨ps, kvs, rfl, hps, hkv⟩ := kvs_of (K := K) (Paired.length hrel) (fun i y p e1 e2 => paired_get hrel e1 e2)
  have s01 : Same H H1 := c.but.same
  refine ⟨D, ps, kvs, rfl, SqL.of c.at_, hps, fun d hd => ?_⟩
  have hkeys : kvs.map (·.1) = ls.map Sum.inr := by rw [kvs_keys hkv, mk_keys]
  have hlnd := asc_nodup hasc
  rw [merge_nil (by rw [hkeys]; exact inr_nodup hlnd)]
  have hm1 : DMap (upd H1 d (.dK kvs)) kvs (fun _ => []) := by
    have := hkv.dmap.fz (fz_none (o' := .dK kvs) hd)
    rw [show fOf (mk (fun _ => []) ls) = fun _ => [] from funext fun s => mk_fOf _ fun _ => rfl] at this
    exact this
  have hda := (hP.mono s01).no hd
  have hd0 : H d = none := s01.free hd
  clear hrel hps hkv c
  have hc1 : (upd H1 d (.dK kvs)) cc = some (.lst (iv ns)) := same_up hd _ _ (s01 _ _ hc)
  refine ⟨_, rfl, cc, rfl, ⟨_, SqL.of hc1⟩, for_list (K := K) (a := cc) (xs := iv ns) (fun i σ H' => ∃ (kvs : List (Key × V)) (f : Str → List Int) (y3 y5 : Option V), σ = [some (.ref a), some (.ref b), some (.ref cc), y3, some (.ref d), y5, none] ∧ But [a] H H' ∧ PoolAt H' a ∧ H' d = some (.dK kvs) ∧ kvs.map (·.1) = ls.map Sum.inr ∧ DMap H' kvs f ∧ (ls.flatMap f).Perm (ns.take i))
    ⟨kvs, fun _ => [], none, none, rfl, but_same (s01.trans (same_up hd)), (hP.mono s01).up' hda, upd_same, hkeys, hm1, by simp⟩ (fun i σ H' _ ⟨_, _, _, _, _, b', _⟩ => SqL.of (b' _ _ (by simpa using hca) hc)) ?_ ?_⟩
  · clear hm1 hkeys hc1
    rintro i x σ H2 hx ⟨kvs, f, y3, y5, rfl, b2, hP2, hd2, hkeys, hm2, hperm⟩
    obtain ⟨h, eh, rfl⟩ := map_get hx
    have hb2 := b2 _ _ (by simpa using hba) hb
    refine ⟨_, rfl, _, rfl, _, rfl, b, _, rfl, .inl (SqL.of hb2), a, _, rfl, hP2, by rw [List.length_map]; omega, by rw [List.length_map]; omega, fun H3 j b3 hP3 hj => ?_⟩
    rw [List.length_map] at hj
    have hj : j < ls.length := by omega
    have b03 := b2.trans b3
    have hb3 := b03 _ _ (by simpa using hba) hb
    refine ⟨b, _, _, _, rfl, rfl, SqL.of hb3, atI_nat (get_sv hj), ?_⟩
    have hLm : ls[j] ∈ ls := List.getElem_mem hj
    generalize ls[j] = L at hLm ⊢
    have hd3 : H3 d = some (.dK kvs) := b3 _ _ (by simpa using hda) hd2
    have hm3 := hm2.fz (hP2.fz b3)
    obtain ⟨bb, eb, hTb⟩ := hm3.get hkeys hLm
    have hfl : (f L).length ≤ 24 := by
      have h1 := flat_le (f := f) hLm
      rw [hperm.length_eq, List.length_take] at h1
      omega
    refine ⟨_, rfl, _, rfl, d, _, rfl, get_key hd3 eb, _, rfl, by show 1 ≤ sizeLine; decide, fun p6 H6 hp6 s6 hT6 => ?_⟩
    refine ⟨bb, p6, _, _, rfl, rfl, hTb.mono s6, hT6, sze (by rw [List.length_map]; show _ + 1 ≤ _; omega), fun p7 H7 s7 hT7 => ?_⟩
    have hd7 := s7 _ _ (s6 _ _ hd3)
    have hkl : kvs.length ≤ 8 := by
      have := congrArg List.length hkeys
      rw [List.length_map, List.length_map] at this
      omega
    refine ⟨_, rfl, _, rfl, d, _, rfl, DPut.k (k := Sum.inr L) hd7 (szl (by omega)), ?_⟩
    have s37 := s6.trans s7
    have hin : (Sum.inr L : Key) ∈ kvs.map (·.1) := by rw [hkeys]; exact List.mem_map.mpr ⟨L, hLm, rfl⟩
    refine ⟨putK kvs (Sum.inr L) (.ref p7), fUp f L h, _, _, rfl, but_mut (b03.trans (but_same s37)) hd0, (hP3.mono s37).up' hda, upd_same, by rw [putK_in hin]; exact hkeys, hm3.put ((fz_same s37).trans (fz_dK hd7)) (hT7.fz (fz_dK hd7)), ?_⟩
    refine (up_perm hlnd hLm).trans ?_
    rw [List.take_add_one, eh]
    exact (List.Perm.cons h hperm).trans (List.perm_append_singleton h _).symm
  clear hm1 hkeys hc1
  rintro σ H2 ⟨kvs, f, y3, y5, rfl, b2, hP2, hd2, hkeys, hm2, hperm⟩
  rw [List.length_map, List.take_length] at hperm
  -- bare
  refine ⟨_, rfl, a, 2, rfl, hP2, by decide, by decide, fun H3 bare b3 hP3 hbare => ?_⟩
  have b03 := b2.trans b3
  have hb3 := b03 _ _ (by simpa using hba) hb
  have hd3 : H3 d = some (.dK kvs) := b3 _ _ (by simpa using hda) hd2
  have hm3 := hm2.fz (hP2.fz b3)
  refine ⟨_, rfl, b, _, rfl, SqL.of hb3, by omega, fun ys p4 hys hsrt hp4 => ?_⟩
  refine ⟨p4, rfl, ⟨_, SqL.of upd_same⟩, fun D2 hD2 => ?_⟩
  have hys1 := sorted_asc hsrt (hys.nodup_iff.mpr hlnd)
  have e4 : (upd H3 p4 (.lst (sv ys))) p4 = some (.lst (sv ys)) := upd_same
  have s34 : Same H3 (upd H3 p4 (.lst (sv ys))) := same_up hp4
  change (upd H3 p4 (.lst (sv ys))) D2 = none at hD2
  generalize upd H3 p4 (.lst (sv ys)) = H4 at e4 s34 hD2 ⊢
  have hd4 := s34 _ _ hd3
  have hm4 := hm3.fz (fz_same s34)
  refine lc_gen (walk_list (K := K) (xs := sv ys)) [] hD2 (fun i acc H' => Paired (EntAt H') acc (mk f ((ys.take i).filter (keepP bare f)))) .nil (fun i acc H' _ b' _ => SqL.of (b'.same _ _ e4)) ?_ ?_
  · rintro i acc x H6 H5 hi c ⟨rfl, hx⟩
    obtain ⟨s, es, rfl⟩ := map_get hx
    have hsm : s ∈ ls := hys.mem_iff.mp (List.mem_of_getElem? es)
    rw [List.length_map] at hi
    have hyl := hys.length_eq
    have s45 := c.but.same
    have hd5 := s45 _ _ hd4
    have hm5 := hm4.fz (fz_same s45)
    obtain ⟨bb, eb, hTb⟩ := hm5.get hkeys hsm
    refine ⟨rfl, ?_⟩
    have kp : ∀ (H7 H8 : Hp) (t : Addr), Same H5 H7 → Same H7 H8 → TupAt H8 t [.str s, .ref bb] → keepP bare f s = true →
        LcY [] H4 D2 (fun i acc H' => Paired (EntAt H') acc (mk f ((ys.take i).filter (keepP bare f)))) (i + 1) (.ref t) H8 := fun H7 H8 t s7 s8 hT e => by
      refine c.keep hD2 (by simp) (fun i acc H' xs ys e h => Paired.mapP h fun _ _ q => q.fz (fz_lst e)) (szl (by omega)) (but_same (s7.trans s8)) ?_
      show Paired (EntAt H8) (acc ++ [V.ref t]) (mk f ((ys.take (i + 1)).filter (keepP bare f)))
      rw [List.take_add_one, es, List.filter_append, Option.toList_some, List.filter_cons_of_pos e]
      unfold mk
      rw [List.map_append]
      exact Paired.snoc (Paired.mapP c.rel fun _ _ q => q.fz (fz_same (s7.trans s8))) ⟨t, bb, rfl, hT, hTb.mono (s7.trans s8)⟩
    refine ⟨_, rfl, rfl, _, rfl, ite2 (fun h0 => ?_) (fun h0 => ?_)⟩
    · refine iteT ⟨_, rfl, _, rfl, _, rfl, d, _, rfl, get_key hd5 eb, by show 2 ≤ sizeLine; decide, fun t H8 ht s8 hT8 => kp H5 H8 t (Same.refl _) s8 hT8 ?_⟩
      have h0 : V.int (bare : Int) = V.int 0 := of_decide_eq_true h0
      have h0 : bare = 0 := by have := V.int.inj h0; omega
      rw [keepP, decide_eq_true h0, Bool.true_or]
    · have h0 : ¬ bare = 0 := fun z => h0 (decide_eq_true (by rw [z]; rfl))
      refine ⟨_, rfl, _, rfl, d, _, rfl, get_key hd5 eb, Nat.zero_le _, fun p7 H7 hp7 s7 hT7 => ?_⟩
      refine ⟨dI (f s), dI [], dI_at (hTb.mono s7), dI_at hT7, dI_sh _, dI_sh _, _, rfl, ?_⟩
      rw [dI_eq]
      refine ite2 (fun h2 => ?_) (fun h2 => ?_)
      · refine ⟨_, rfl, _, rfl, _, rfl, d, _, rfl, get_key (s7 _ _ hd5) eb, by show 2 ≤ sizeLine; decide, fun t H8 ht s8 hT8 => kp H7 H8 t s7 s8 hT8 ?_⟩
        rw [keepP, h2, Bool.or_true]
      · refine c.skip (by simp) (but_same s7) ?_
        show Paired (EntAt H7) acc (mk f ((ys.take (i + 1)).filter (keepP bare f)))
        rw [List.take_add_one, es, List.filter_append, Option.toList_some, List.filter_cons_of_neg (by rw [keepP, decide_eq_false h0, Bool.false_or]; exact h2), List.filter_nil, List.append_nil]
        exact Paired.mapP c.rel fun _ _ q => q.fz (fz_same s7)
  · intro acc H5 c
    have hrel : Paired (EntAt H5) acc (mk f (ys.filter (keepP bare f))) := by
      have := c.rel
      rw [List.length_map, List.take_length] at this
      exact this
    refine ⟨D2, _, rfl, SqL.of c.at_, fun p6 H6 hp6 s6 hT6 => ?_⟩
    have s36 := (s34.trans c.but.same).trans s6
    have hsub : (ys.filter (keepP bare f)).Sublist ys := List.filter_sublist
    have hflat : (ys.filter (keepP bare f)).flatMap f = ys.flatMap f := filter_flat fun s _ e => by
      rw [keepP, Bool.or_eq_false_iff] at e
      have := e.2
      simpa using this
    have hpm : ((ys.filter (keepP bare f)).flatMap f).Perm ns := by
      rw [hflat]
      exact (flatMap_perm hys).trans hperm
    refine q H6 p6 _ (b03.trans (but_same s36)) (hP3.mono s36) (crowd_of hT6 (Paired.mapP hrel fun _ _ q => q.fz (fz_same s6))) (mk_ok ?_ (hys1.sublist hsub) (fun s hs => hok s (hys.mem_iff.mp (hsub.subset hs))) hpm hnd hH (by omega)) ?_ (by rw [mk_folks]; exact hpm)
    · have := hsub.length_le
      have := hys.length_eq
      omega
    · intro x hx
      obtain ⟨s, hs, rfl⟩ := List.mem_map.mp hx
      exact hys.mem_iff.mp (hsub.subset hs)
end
end K46

namespace K46
open PySem PySem.Spec PyProof.Rows L2
mutual
/-- the plan with one kind at all junctions -/
def T.all (k : Str) : T → T
  | .leaf s => .leaf s
  | .node _ ts => .node k (allAll k ts)
def allAll (k : Str) : List T → List T
  | [] => []
  | t :: ts => t.all k :: allAll k ts
end
theorem allAll_len (k : Str) : ∀ ts : List T, (allAll k ts).length = ts.length
  | [] => rfl
  | t :: ts => by rw [allAll, List.length_cons, List.length_cons, allAll_len k ts]
theorem allAll_get (k : Str) : ∀ {ts : List T} {i : Nat} {t : T}, ts[i]? = some t → (allAll k ts)[i]? = some (t.all k)
  | t :: ts, 0, u, h => by
    have e := Option.some.inj h
    subst e
    rfl
  | t :: ts, i + 1, u, h => by
    rw [allAll, List.getElem?_cons_succ]
    exact allAll_get k (by simpa using h)
mutual
theorem all_leaves (k : Str) : ∀ t : T, (t.all k).leaves = t.leaves
  | .leaf s => rfl
  | .node _ ts => by
    simp only [T.all, T.leaves]
    exact alls_leaves k ts
theorem alls_leaves (k : Str) : ∀ ts : List T, leavesAll (allAll k ts) = leavesAll ts
  | [] => rfl
  | t :: ts => by rw [allAll, leavesAll, leavesAll, all_leaves k t, alls_leaves k ts]
end
mutual
theorem all_one (k : Str) : ∀ t : T, (t.all k).one k
  | .leaf s => trivial
  | .node _ ts => ⟨rfl, alls_one k ts⟩
theorem alls_one (k : Str) : ∀ ts : List T, oneAll k (allAll k ts)
  | [] => trivial
  | t :: ts => ⟨all_one k t, alls_one k ts⟩
end
mutual
theorem all_ok {k : Str} (hk : okK k) : ∀ {t : T}, t.ok → (t.all k).ok
  | .leaf s, h => h
  | .node _ ts, ⟨_, h2, h3⟩ => ⟨hk, by rw [allAll_len]; exact h2, alls_ok hk h3⟩
theorem alls_ok {k : Str} (hk : okK k) : ∀ {ts : List T}, okAll ts → okAll (allAll k ts)
  | [], _ => trivial
  | t :: ts, ⟨h1, h2⟩ => ⟨all_ok hk h1, alls_ok hk h2⟩
end
section
variable {P : Program} {w : World} {K : PySem.W.Frag} {mg : Str → Option Value} {base : Heap}
abbrev s_law_all_of : Stmt := topS 49
abbrev n_law_all_of : List Str := ["_law_tree_here", "_law_sort_here", "_law_part"]
abbrev p_law_all_of : List Str := ["_law_tree_here", "_law_sort_here"]
theorem sc_law_all_of : FnScope n_law_all_of p_law_all_of (defScope s_law_all_of) := ⟨rfl, rfl, rfl, by decide +kernel, rfl, by decide +kernel, by decide +kernel⟩
-- slots: 0 _law_tree_here 1 _law_sort_here* 2 _law_part~
def spAllOf (n : Nat) : Sp := fun vs H Q _ => ∃ (v : V) (k : Str) (t : T), vs = [v, .str k] ∧ PlanAt H v t ∧ t.ok ∧ t.leaves.length ≤ 8 ∧ t.depth < n ∧ ∀ H' y, Same H H' → PlanAt H' y (t.all k) → Q y H'
theorem d__law_all_of (B : Bn mg) (E : Ent K mg "_law_all_of" s_law_all_of) : ∀ n : Nat, Df P w K mg base (n + 1) "_law_all_of" p_law_all_of (spAllOf n)
  | 0 => E.df0 (fun _ _ _ _ _ _ us hl => match us, hl with | [_, _], _ => rfl) fun vs H Q E ⟨_, _, _, _, _, _, _, h, _⟩ => absurd h (Nat.not_lt_zero _)
  | n + 1 => by
    have D_law_all_of := d__law_all_of B E n
    refine E.df sc_law_all_of (fun _ _ _ _ _ _ us hl => match us, hl with | [_, _], _ => rfl) (fun vs H Q E h => ?_) (fun f cdv A outer s H vs Q E hr h => ?_)
    · obtain ⟨v, k, t, rfl, _⟩ := h
      rfl
    obtain ⟨v, kk, t, rfl, hp, hok, h8, hdp, q⟩ := h
    refine ⟨_, pss_cons (ps_if (pt_val (pe_isTK K rfl B.isinstance rfl B.str b_str (pv 0))) (pss_one (ps_ret (pv 0))) pss_nil)
      (pss_one (ps_ret (pe_tupF (pa_cons (pv 1) (pa_cons (pe_callTy (call_tupFK K) (by rfl) B.tuple b_tuple (pa_cons (pe_lc (own := [("_law_part", 2)]) rfl sc_law_all_of.nd (pi_tupK K (pe_ix (ix_tupK K) (pv 0) pe_int (fun _ _ => rfl))) (blkOk_by (N := n_law_all_of) (sc := defScope s_law_all_of) (by decide +kernel)) (fun _ _ _ _ _ => (pg_name (i := 2) sc_law_all_of.nd rfl (Or.inl rfl))) (fun _ _ _ _ _ => pts_nil) (fun _ _ _ _ _ => (pe_df D_law_all_of hr rfl (pa_cons (pv 2) (pa_cons (pv 1) pa_nil))))) pa_nil)) pa_nil))))), ?_⟩
    cases hp with
    | leaf z => exact ⟨_, rfl, isi ty_str k_str_str ⟨true, rfl, iteT ⟨_, rfl, q H _ (Same.refl H) (.leaf z)⟩⟩⟩
    | @node a b k vs ts h1 h2 h3 =>
      obtain ⟨hk, h2n, hoks⟩ := hok
      simp only [T.leaves] at h8
      have hlen := h3.length
      have hle := leaves_len hoks
      refine ⟨_, rfl, isi h1.ty k_tup_str ⟨false, rfl, iteF ?_⟩⟩
      refine ⟨_, rfl, _, rfl, a, _, _, _, rfl, rfl, h1.sq, atI_nat (j := 1) rfl, b, rfl, ⟨_, h2.sq⟩, fun D hD => ?_⟩
      refine lc_gen (walk_tup (K := K) (xs := vs)) [] hD (AllE fun i y H' => ∃ t, ts[i]? = some t ∧ PlanAt H' y (t.all kk)) ⟨rfl, fun j y e => by simp at e⟩ (fun i acc H' _ b _ => (h2.mono b.same).sq) ?_ ?_
      · rintro i acc x H1 H2 hi c ⟨rfl, hx⟩
        obtain ⟨t, et, ht⟩ := h3.get hx
        have hd' : t.depth < n := by
          have := depth_get et
          simp only [T.depth] at hdp
          omega
        have hl' : t.leaves.length ≤ 8 := by
          have e := congrArg List.length (leaves_split et)
          rw [List.length_append, List.length_append] at e
          omega
        have hi' : i < ts.length := (List.getElem?_eq_some_iff.mp et).1
        refine ⟨rfl, tyes ?_⟩
        have s1 := c.but.same
        refine ⟨_, rfl, _, rfl, x, kk, t, rfl, ht.fz (fz_same s1), okAll_get hoks et, hl', hd', fun H4 y s4 hy => ?_⟩
        exact c.one0 hD (fun i y H H' s ⟨t, e1, e2⟩ => ⟨t, e1, e2.fz s⟩) (szl (by omega)) s4 ⟨t, et, hy⟩
      intro acc H1 c1
      have s1 := c1.but.same
      have hal : acc.length = ts.length := by rw [c1.rel.1]; exact hlen
      refine ⟨D, _, rfl, SqL.of c1.at_, fun p2 H2 hp2 s2 hT2 => ⟨by show 2 ≤ sizeLine; decide, fun p3 H3 hp3 s3 hT3 => ?_⟩⟩
      refine q H3 (.ref p3) ((s1.trans s2).trans s3) (.node hT3 (hT2.mono s3) (plans_of (by rw [allAll_len]; exact hal) fun i v t' e1 e2 => ?_))
      obtain ⟨t, et, hy⟩ := c1.rel.2 i v e1
      rw [allAll_get kk et] at e2
      cases e2
      exact hy.fz (fz_same (s2.trans s3))
abbrev s_law_joined : Stmt := topS 50
abbrev n_law_joined : List Str := ["_law_folk_here", "_law_call", "_law_inch", "_law_found", "_law_mate"]
abbrev p_law_joined : List Str := ["_law_folk_here", "_law_call", "_law_inch"]
theorem sc_law_joined : FnScope n_law_joined p_law_joined (defScope s_law_joined) := ⟨rfl, rfl, rfl, by decide +kernel, rfl, by decide +kernel, by decide +kernel⟩
-- slots: 0 _law_folk_here 1 _law_call 2 _law_inch 3 _law_found* 4 _law_mate~
def spJoined : Sp := fun vs H Q _ => ∃ (a : Addr) (c : Crowd) (L : Str) (h : Int) (ls : List Str), vs = [.ref a, .str L, .int h] ∧ CrowdAt H a c ∧ okCrowd c ∧ okH h ∧ h ∉ folks c ∧ (folks c).length < 40 ∧ ls.length ≤ 8 ∧ L ∈ ls ∧ (∀ s ∈ ls, okLine s) ∧ (∀ x ∈ c, x.1 ∈ ls) ∧
  ∀ H' p c', Same H H' → CrowdAt H' p c' → okCrowd c' → (∀ x ∈ c', x.1 ∈ ls) → fOf c' = fUp (fOf c) L h → Q (.ref p) H'
theorem d__law_joined (B : Bn mg) (E : Ent K mg "_law_joined" s_law_joined) : Df P w K mg base 1 "_law_joined" p_law_joined spJoined := by
  refine E.df sc_law_joined (fun _ _ _ _ _ _ us hl => match us, hl with | [_, _, _], _ => rfl) (fun vs H Q E h => ?_) (fun f cdv A outer s H vs Q E hr h => ?_)
  · obtain ⟨a, c, L, h, ls, rfl, _⟩ := h
    rfl
  obtain ⟨a, cr, L, h, ls, rfl, ⟨vs, hT, hvl, hvs⟩, ok, hh, hnew, h40, hl8, hL, hlok, hin, q⟩ := h
  refine ⟨_, pss_cons (ps_set (i := 3) sc_law_joined.nd rfl (Or.inr rfl) (pe_callTy (call_dictT rfl) (by rfl) B.dict b_dict (pa_cons (pv 0) pa_nil)))
      (pss_cons (ps_dput (hu_of hr) (pv 3) (pv 1) (pe_op op_catF (pe_dget2 (hu_of hr) (pv 3) (pv 1) (pe_tupF pa_nil) ⟨rfl, rfl, rfl, rfl⟩) (pe_tupF (pa_cons (pv 2) pa_nil))) rfl)
      (pss_one (ps_ret (pe_callTy (call_tupFK K) (by rfl) B.tuple b_tuple (pa_cons (pe_lc (own := [("_law_mate", 4)]) rfl sc_law_joined.nd (pi_listK K (pe_callB (call_sortedD rfl) (by rfl) B.sorted b_sorted (pa_cons (pv 3) pa_nil))) (blkOk_by (N := n_law_joined) (sc := defScope s_law_joined) (by decide +kernel)) (fun _ _ _ _ _ => (pg_name (i := 4) sc_law_joined.nd rfl (Or.inl rfl))) (fun _ _ _ _ _ => pts_nil) (fun _ _ _ _ _ => (pe_tupF (pa_cons (pv 4) (pa_cons (pe_dget (hu_of hr) (pv 3) (pv 4) (fun _ _ => rfl)) pa_nil))))) pa_nil))))), ?_⟩
  obtain ⟨ps, kvs, rfl, hps, hkv⟩ := kvs_of (K := K) hvl fun i y p e1 e2 => by
    obtain ⟨x, e3, e4⟩ := hvs i p e2
    rw [e1] at e3
    cases e3
    exact e4
  have hkeys := kvs_keys hkv
  have hnd := asc_nodup ok.asc
  refine ⟨_, rfl, a, ps, kvs, rfl, hT, hps, fun d hd => ?_⟩
  rw [merge_nil (by rw [hkeys]; exact inr_nodup hnd)]
  have hd1 : (upd H d (.dK kvs)) d = some (.dK kvs) := upd_same
  have s1 : Same H (upd H d (.dK kvs)) := same_up hd
  generalize upd H d (.dK kvs) = H1 at hd1 s1 ⊢
  have hm1 := hkv.dmap.fz (fz_same s1)
  -- found[call] = found.get(call, ()) + (inch,)
  refine ⟨_, rfl, d, rfl, .inl ⟨kvs, .inl hd1⟩, _, rfl, Nat.zero_le _, fun p0 H2 hp0 s2 hT0 => ⟨_, DGet.k (k := Sum.inr L) (s2 _ _ hd1), ?_⟩⟩
  have hrow : ∃ b, (valV kvs (Sum.inr L)).getD (.ref p0) = .ref b ∧ TupAt H2 b (iv (fOf cr L)) := by
    cases e : valV kvs (Sum.inr L) with
    | none =>
      rw [(hm1 L).2 e]
      exact ⟨p0, rfl, hT0⟩
    | some v =>
      obtain ⟨b, e1, e2⟩ := (hm1 L).1 v e
      exact ⟨b, e1, e2.mono s2⟩
  obtain ⟨b, eb, hTb⟩ := hrow
  rw [eb]
  have hfl : (fOf cr L).length ≤ 40 := Nat.le_trans ((fOf_nodup ok.nd).length_le_of_subset fun x hx => fOf_mem hx) ok.many
  refine ⟨_, rfl, by show 1 ≤ sizeLine; decide, fun p3 H3 hp3 s3 hT3 => ?_⟩
  refine ⟨b, p3, _, _, rfl, rfl, hTb.mono s3, hT3, sze (by rw [List.length_map]; show _ + 1 ≤ _; omega), fun p4 H4 s4 hT4 => ?_⟩
  have s14 := (s2.trans s3).trans s4
  have hd4 := s14 _ _ hd1
  have hkvl : kvs.length ≤ 8 := by
    have := congrArg List.length hkeys
    rw [List.length_map, List.length_map, List.length_map] at this
    have := ok.len
    omega
  refine ⟨_, rfl, _, rfl, d, _, rfl, DPut.k (k := Sum.inr L) hd4 (szl (by omega)), ?_⟩
  have hm5 : DMap (upd H4 d (.dK (putK kvs (Sum.inr L) (.ref p4)))) (putK kvs (Sum.inr L) (.ref p4)) (fUp (fOf cr) L h) := hm1.put ((fz_same s14).trans (fz_dK hd4)) (hT4.fz (fz_dK hd4))
  have hd5 : (upd H4 d (.dK (putK kvs (Sum.inr L) (.ref p4)))) d = some (.dK (putK kvs (Sum.inr L) (.ref p4))) := upd_same
  have s05 : Same H (upd H4 d (.dK (putK kvs (Sum.inr L) (.ref p4)))) := same_mut (s1.trans s14) hd
  have hks : ∃ ks : List Str, (putK kvs (Sum.inr L) (.ref p4)).map (·.1) = ks.map Sum.inr ∧ ks.Nodup ∧ ∀ s ∈ ks, s ∈ ls := by
    by_cases hm : L ∈ cr.map (·.1)
    · refine ⟨cr.map (·.1), ?_, hnd, fun s hs => ?_⟩
      · rw [putK_in (by rw [hkeys]; exact List.mem_map.mpr ⟨L, hm, rfl⟩)]
        exact hkeys
      · obtain ⟨x, hx, rfl⟩ := List.mem_map.mp hs
        exact hin x hx
    · refine ⟨cr.map (·.1) ++ [L], ?_, ?_, fun s hs => ?_⟩
      · rw [putK_out (fun hz => hm ?_), hkeys, List.map_append]
        · rfl
        · rw [hkeys] at hz
          obtain ⟨z, hz, e⟩ := List.mem_map.mp hz
          exact Sum.inr.inj e ▸ hz
      · rw [List.nodup_append]
        exact ⟨hnd, by simp, fun x hx y hy e => hm (by rw [List.mem_singleton.mp hy] at e; exact e ▸ hx)⟩
      · rcases List.mem_append.mp hs with hs | hs
        · obtain ⟨x, hx, rfl⟩ := List.mem_map.mp hs
          exact hin x hx
        · rw [List.mem_singleton.mp hs]
          exact hL
  obtain ⟨ks, hk2, hknd, hkl⟩ := hks
  generalize putK kvs (Sum.inr L) (.ref p4) = kv2 at hm5 hd5 s05 hk2 ⊢
  generalize upd H4 d (.dK kv2) = H5 at hm5 hd5 s05 ⊢
  have hk8 : ks.length ≤ 8 := Nat.le_trans (hknd.length_le_of_subset fun s hs => hkl s hs) hl8
  refine ⟨_, rfl, d, kv2, ks, rfl, .inl hd5, hk2, by omega, fun ys p6 hys hsrt hp6 => ?_⟩
  have e6 : (upd H5 p6 (.lst (sv ys))) p6 = some (.lst (sv ys)) := upd_same
  have s56 : Same H5 (upd H5 p6 (.lst (sv ys))) := same_up hp6
  refine ⟨p6, rfl, ⟨_, SqL.of upd_same⟩, fun D2 hD2 => ?_⟩
  change (upd H5 p6 (.lst (sv ys))) D2 = none at hD2
  generalize upd H5 p6 (.lst (sv ys)) = H6 at e6 s56 hD2 ⊢
  have hd6 := s56 _ _ hd5
  have hm6 := hm5.fz (fz_same s56)
  have hyl := hys.length_eq
  refine lc_gen (walk_list (K := K) (xs := sv ys)) [] hD2 (fun i acc H' => Paired (EntAt H') acc (mk (fUp (fOf cr) L h) (ys.take i))) .nil (fun i acc H' _ b' _ => SqL.of (b'.same _ _ e6)) ?_ ?_
  · rintro i acc x H8 H7 hi c ⟨rfl, hx⟩
    obtain ⟨s, es, rfl⟩ := map_get hx
    rw [List.length_map] at hi
    have s67 := c.but.same
    have hd7 := s67 _ _ hd6
    obtain ⟨bb, eb, hTb⟩ := (hm6.fz (fz_same s67)).get hk2 (hys.mem_iff.mp (List.mem_of_getElem? es))
    refine ⟨rfl, lc_yes ⟨_, rfl, _, rfl, _, rfl, d, _, rfl, get_key hd7 eb, by show 2 ≤ sizeLine; decide, fun t H8 ht s8 hT8 => ?_⟩⟩
    refine c.keep hD2 (by simp) (fun i acc H' xs ys e h => Paired.mapP h fun _ _ q => q.fz (fz_lst e)) (szl (by omega)) (but_same s8) ?_
    show Paired (EntAt H8) (acc ++ [V.ref t]) (mk (fUp (fOf cr) L h) (ys.take (i + 1)))
    rw [List.take_add_one, es]
    unfold mk
    rw [List.map_append]
    exact Paired.snoc (Paired.mapP c.rel fun _ _ q => q.fz (fz_same s8)) ⟨t, bb, rfl, hT8, hTb.mono s8⟩
  · intro acc H7 c
    have hrel : Paired (EntAt H7) acc (mk (fUp (fOf cr) L h) ys) := by
      have := c.rel
      rw [List.length_map, List.take_length] at this
      exact this
    refine ⟨D2, _, rfl, SqL.of c.at_, fun p8 H8 hp8 s8 hT8 => ?_⟩
    have s58 := (s56.trans c.but.same).trans s8
    have hynd := hys.nodup_iff.mpr hknd
    obtain ⟨u1, u2⟩ := up_folk ok.nd hynd hnew
    rw [folk_map] at u1
    have hlenf : (ys.flatMap (fUp (fOf cr) L h)).length = (folkOf (fUp (fOf cr) L h) ys).length := by rw [← folk_map, List.length_map]
    refine q H8 p8 _ (s05.trans s58) (crowd_of hT8 (Paired.mapP hrel fun _ _ q => q.fz (fz_same s8))) (mk_ok (by omega) (sorted_asc hsrt hynd) (fun s hs => hlok s (hkl s (hys.mem_iff.mp hs))) (List.Perm.refl _) u1 (fun x hx => ?_) (by omega)) ?_ ?_
    · obtain ⟨s, hs, hx⟩ := List.mem_flatMap.mp hx
      unfold fUp at hx
      by_cases e : s = L
      · rw [if_pos e, List.mem_append] at hx
        rcases hx with hx | hx
        · exact ok.hgt x (fOf_mem hx)
        · rw [List.mem_singleton.mp hx]
          exact hh
      · rw [if_neg e] at hx
        exact ok.hgt x (fOf_mem hx)
    · intro x hx
      obtain ⟨s, hs, rfl⟩ := List.mem_map.mp hx
      exact hkl s (hys.mem_iff.mp hs)
    · funext s
      exact mk_fOf _ fun hs => hm5.out hk2 fun hz => hs (hys.mem_iff.mpr hz)
end
end K46

namespace K46
open PySem PySem.Spec PyProof.Rows L2
mutual
theorem leaf_ok : ∀ {t : T}, t.ok → ∀ s ∈ t.leaves, okLine s
  | .leaf z, h => fun s hs => by
    have e : s = z := by simpa [T.leaves] using hs
    rw [e]
    exact h
  | .node k ts, ⟨_, _, h⟩ => fun s hs => leafs_ok h s (by simpa only [T.leaves] using hs)
theorem leafs_ok : ∀ {ts : List T}, okAll ts → ∀ s ∈ leavesAll ts, okLine s
  | [], _ => fun s hs => by simp [leavesAll] at hs
  | t :: ts, ⟨h1, h2⟩ => fun s hs => by
    simp only [leavesAll, List.mem_append] at hs
    rcases hs with hs | hs
    · exact leaf_ok h1 s hs
    · exact leafs_ok h2 s hs
end
theorem cut_out {xs ys : List V} {z : V} {n : Nat} (hn : n = xs.length) : cutV (xs ++ z :: ys) none (some (n : Int)) ++ cutV (xs ++ z :: ys) (some ((n : Int) + 1)) none = xs ++ ys := by
  rw [cut_take, show ((n : Int) + 1) = ((n + 1 : Nat) : Int) by omega, cut_drop, hn]
  simp
theorem line_ok {s : Str} (h : okLine s) : PyData.strOk s = true := by
  unfold PyData.strOk
  rw [Array.all_eq_true']
  intro c hc
  have := h.2.2 c (Array.mem_toList_iff.mpr hc)
  exact decide_eq_true (by omega)
theorem out_lines {f : Str → List Int} {t : T} {o : List Ps} (h : Out f t o) : ∀ x ∈ o, x.2 ∈ t.leaves := by
  intro x hx
  have := (out_perm h).mem_iff.mp hx
  obtain ⟨s, hs, hx⟩ := List.mem_flatMap.mp this
  obtain ⟨y, _, rfl⟩ := List.mem_map.mp hx
  exact hs
section
variable {P : Program} {w : World} {K : PySem.W.Frag} {mg : Str → Option Value} {base : Heap}
abbrev s_law_nobody_right : Stmt := topS 51
abbrev n_law_nobody_right : List Str := ["_law_tree_here", "_law_folk_here", "_law_call", "_law_inch", "_law_whole", "_law_homes", "_law_other", "_law_later", "_law_ends", "_law_at"]
abbrev p_law_nobody_right : List Str := ["_law_tree_here", "_law_folk_here", "_law_call", "_law_inch"]
theorem sc_law_nobody_right : FnScope n_law_nobody_right p_law_nobody_right (defScope s_law_nobody_right) := ⟨rfl, rfl, rfl, by decide +kernel, rfl, by decide +kernel, by decide +kernel⟩
-- slots: 0 _law_tree_here 1 _law_folk_here 2 _law_call 3 _law_inch 4 _law_whole 5 _law_homes 6 _law_other 7 _law_later 8 _law_ends 9 _law_at
def spNobody : Sp := fun vs H Q _ => ∃ (v : V) (a : Addr) (t : T) (c : Crowd) (L : Str) (h : Int) (k : Str), vs = [v, .ref a, .str L, .int h] ∧ PlanAt H v t ∧ CrowdAt H a c ∧ okBoth t c ∧ L ∈ t.leaves ∧ okH h ∧ h ∉ folks c ∧ (folks c).length < 40 ∧ t.one k ∧
  ∀ H', Same H H' → Q (.bl true) H'
theorem d__law_nobody_right (B : Bn mg) (E : Ent K mg "_law_nobody_right" s_law_nobody_right) (Drun_plan : Df P w K mg base 12 "run_plan" prun_plan spResult) (Dsource_lines : Df P w K mg base 12 "source_lines" psource_lines spSource)
    (Dexchanged : Df P w K mg base 12 "exchanged" pexchanged spExchanged) (D_law_joined : Df P w K mg base 1 "_law_joined" p_law_joined spJoined) : Df P w K mg base 13 "_law_nobody_right" p_law_nobody_right spNobody := by
  refine E.df sc_law_nobody_right (fun _ _ _ _ _ _ us hl => match us, hl with | [_, _, _, _], _ => rfl) (fun vs H Q E h => ?_) (fun f cdv A outer s H vs Q E hr h => ?_)
  · obtain ⟨v, a, t, c, L, h, k, rfl, _⟩ := h
    rfl
  obtain ⟨v, a, t, c, L, h, k, rfl, hp, hc, ok, hL, hh, hnew, h40, hone, q⟩ := h
  refine ⟨_, pss_cons (ps_par3 (i := 4) (j := 5) (l := 6) (by rfl) sc_law_nobody_right.nd rfl rfl rfl (by decide) (by decide) (by decide) rfl rfl rfl (pa_cons (pe_df Drun_plan (hr.mono (by decide)) rfl (pa_cons (pv 0) (pa_cons (pv 1) pa_nil))) (pa_cons (pe_df Dsource_lines (hr.mono (by decide)) rfl (pa_cons (pv 0) (pa_cons (pv 1) pa_nil))) (pa_cons (pe_df D_law_joined (hr.mono (by decide)) rfl (pa_cons (pv 1) (pa_cons (pv 2) (pa_cons (pv 3) pa_nil)))) pa_nil))) (by rfl))
      (pss_cons (ps_par (i := 7) (j := 8) (by rfl) sc_law_nobody_right.nd rfl rfl (by decide) rfl rfl (pa_cons (pe_df Drun_plan (hr.mono (by decide)) rfl (pa_cons (pv 0) (pa_cons (pv 6) pa_nil))) (pa_cons (pe_df Dsource_lines (hr.mono (by decide)) rfl (pa_cons (pv 0) (pa_cons (pv 6) pa_nil))) pa_nil)) (by rfl))
      (pss_cons (ps_if (PW.pt (pw_or (pt_cmpR (op_neDK K hr.units) (pe_df Dexchanged (hr.mono (by decide)) rfl (pa_cons (pv 0) (pa_cons (pv 1) (pa_cons (pv 2) (pa_cons (pv 3) pa_nil))))) (pe_tupF pa_nil) (nomark _)) (pw_or1 (pt_cmpR (op_notIn_seqK K) (pv 3) (pv 7) (by with_unfolding_all rfl))))) (pss_one (ps_ret pe_bl)) pss_nil)
      (pss_cons (ps_set (i := 9) sc_law_nobody_right.nd rfl (Or.inl rfl) (pe_idx (pv 7) (pa_cons (pv 3) pa_nil)))
      (pss_cons (ps_if (PW.pt (pw_or (pt_cmpR (op_neDK K hr.units) (pe_op op_catF (pe_slice sl_tupF (pv 7) po_none (po_some (pv 9))) (pe_slice sl_tupF (pv 7) (po_some (pe_op op_add (pv 9) pe_int)) po_none)) (pv 4) (nomark _)) (pw_or1 (pt_cmpR (op_neDK K hr.units) (pe_op op_catF (pe_slice sl_tupF (pv 8) po_none (po_some (pv 9))) (pe_slice sl_tupF (pv 8) (po_some (pe_op op_add (pv 9) pe_int)) po_none)) (pv 5) (nomark _))))) (pss_one (ps_ret pe_bl)) pss_nil)
      (pss_one (ps_ret (pe_cmpR op_eq (pe_ix (ix_tupK K) (pv 8) (pv 9) (fun _ _ => rfl)) (pv 2) (nomark _)))))))), ?_⟩
  -- whole, homes, other
  refine ⟨_, rfl, _, rfl, v, a, t, c, rfl, hp, hc, ok, fun H1 q1 o1 s1 ho1 hT1 => ?_⟩
  refine ⟨_, rfl, _, rfl, v, a, t, c, rfl, hp.fz (fz_same s1), hc.fz (fz_same s1), ok, fun H2 q2 o2 s2 ho2 hT2 => ?_⟩
  have s02 := s1.trans s2
  have e12 := out_agree (fun _ _ => rfl) ho2 ho1
  subst e12
  refine ⟨_, rfl, _, rfl, _, rfl, a, c, L, h, t.leaves, rfl, hc.fz (fz_same s02), ok.crowd, hh, hnew, h40, ok.plan.2.2, hL, leaf_ok ok.plan.1, ok.lines, fun H3 p3 c' s3 hc3 ok3 hl3 hf3 => ?_⟩
  have s03 := s02.trans s3
  have okB : okBoth t c' := ⟨ok.plan, ok3, hl3⟩
  -- later, ends
  refine ⟨_, _, _, rfl, ?_⟩
  refine ⟨_, rfl, _, rfl, v, p3, t, c', rfl, hp.fz (fz_same s03), hc3, okB, fun H4 q4 o4 s4 ho4 hT4 => ?_⟩
  have s04 := s03.trans s4
  refine ⟨_, rfl, _, rfl, v, p3, t, c', rfl, hp.fz (fz_same s04), hc3.fz (fz_same s4), okB, fun H5 q5 o5 s5 ho5 hT5 => ?_⟩
  have s05 := s04.trans s5
  have e45 := out_agree (fun _ _ => rfl) ho5 ho4
  subst e45
  have ha5 := hc.fz (fz_same s05)
  rw [hf3] at ho5
  obtain ⟨pp, qq, e1, e2, _⟩ := out_ins (fUp_at (fOf c) L h) (fUp_ne (fOf c) L h) ok.plan.2.1 hL hone ho2 ho5
  obtain ⟨hnd2, hln2⟩ := up_folk (L := L) ok.crowd.nd ok.plan.2.1 hnew
  have hlen5 : o5.length ≤ 40 := by
    rw [(out_perm ho5).length_eq]
    omega
  have hlines := out_lines ho2
  have hnd5 : (o5.map (·.1)).Nodup := ((out_perm ho5).map (fun x : Ps => x.1)).nodup_iff.mpr hnd2
  rw [e2, List.length_append, List.length_cons] at hlen5
  have w4 : iv (o5.map (·.1)) = iv (pp.map (·.1)) ++ V.int h :: iv (qq.map (·.1)) := by rw [e2]; simp [iv]
  have w5 : sv (o5.map (·.2)) = sv (pp.map (·.2)) ++ V.str L :: sv (qq.map (·.2)) := by rw [e2]; simp [sv]
  have w1 : iv (pp.map (·.1)) ++ iv (qq.map (·.1)) = iv (o2.map (·.1)) := by rw [e1]; simp [iv]
  have w2 : sv (pp.map (·.2)) ++ sv (qq.map (·.2)) = sv (o2.map (·.2)) := by rw [e1]; simp [sv]
  have l1 : pp.length = (iv (pp.map (·.1))).length := by simp [iv]
  have l2 : pp.length = (sv (pp.map (·.2))).length := by simp [sv]
  have g4 : (o5.map (·.1))[pp.length]? = some h := by rw [e2]; simp
  have hmem : h ∈ o5.map (·.1) := List.mem_of_getElem? g4
  refine ⟨_, _, rfl, ?_⟩
  -- exchanged
  refine ⟨_, rfl, _, rfl, _, rfl, _, rfl, v, a, t, c, L, h, k, rfl, hp.fz (fz_same s05), ha5, ok, hL, hh, hnew, h40, hone, fun H6 p6 s6 hT6 => ?_⟩
  refine ⟨Nat.zero_le _, fun p7 H7 hp7 s7 hT7 => ?_⟩
  refine ⟨dI [], dI [], dI_at (hT6.mono s7), dI_at hT7, dI_sh _, dI_sh _, false, by rw [dI_eq]; rfl, iteF ?_⟩
  have s57 := s6.trans s7
  have hT4' := hT4.mono (s5.trans s57)
  refine ⟨_, rfl, _, rfl, q4, _, rfl, .inr hT4'.sq, rfl, flat_intsV _, false, ?_, iteF ?_⟩
  · show V.bl (!inV _ _) = V.bl false
    rw [in_iv, decide_eq_true hmem]
    rfl
  -- at
  refine ⟨_, rfl, q4, _, rfl, hT4', _, rfl, o5.map (·.1), h, pp.length, rfl, hT4', g4, first_place hnd5 g4, ?_⟩
  -- later
  refine ⟨_, rfl, _, rfl, _, rfl, q4, _, rfl, hT4', fun p8 H8 s8 hT8 => ?_⟩
  refine ⟨_, rfl, _, rfl, _, _, rfl, rfl, _, rfl, q4, _, rfl, hT4'.mono s8, fun p9 H9 s9 hT9 => ?_⟩
  have lc1 := cutV_length (iv (o5.map (·.1))) none (some (pp.length : Int))
  have lc2 := cutV_length (iv (o5.map (·.1))) (some ((pp.length : Int) + 1)) none
  have lo5 : (iv (o5.map (·.1))).length ≤ 40 := by rw [w4]; simp; omega
  refine ⟨p8, p9, _, _, rfl, rfl, hT8.mono s9, hT9, sze (by omega), fun p10 H10 s10 hT10 => ?_⟩
  rw [w4, cut_out l1, w1] at hT10
  have s510 := ((s57.trans s8).trans s9).trans s10
  have s1x := ((s2.trans s3).trans (s4.trans s5)).trans s510
  refine ⟨_, rfl, dI (o2.map (·.1)), dI (o2.map (·.1)), dI_at hT10, dI_at (hT1.mono s1x), dI_sh _, dI_sh _, false, by rw [dI_eq]; simp, iteF ?_⟩
  -- ends
  have hT5' := hT5.mono s510
  refine ⟨_, rfl, _, rfl, _, rfl, q5, _, rfl, hT5', fun p11 H11 s11 hT11 => ?_⟩
  refine ⟨_, rfl, _, rfl, _, _, rfl, rfl, _, rfl, q5, _, rfl, hT5'.mono s11, fun p12 H12 s12 hT12 => ?_⟩
  have lc3 := cutV_length (sv (o5.map (·.2))) none (some (pp.length : Int))
  have lc4 := cutV_length (sv (o5.map (·.2))) (some ((pp.length : Int) + 1)) none
  have lo6 : (sv (o5.map (·.2))).length ≤ 40 := by rw [w5]; simp; omega
  refine ⟨p11, p12, _, _, rfl, rfl, hT11.mono s12, hT12, sze (by omega), fun p13 H13 s13 hT13 => ?_⟩
  rw [w5, cut_out l2, w2] at hT13
  have s1013 := (s11.trans s12).trans s13
  have s213 := ((s3.trans (s4.trans s5)).trans s510).trans s1013
  have hok2 : ∀ y ∈ o2.map (·.2), PyData.strOk y = true := fun y hy => by
    obtain ⟨x, hx, rfl⟩ := List.mem_map.mp hy
    exact line_ok (leaf_ok ok.plan.1 _ (hlines x hx))
  refine ⟨_, rfl, dS (o2.map (·.2)), dS (o2.map (·.2)), dS_at hT13, dS_at (hT2.mono s213), dS_sh hok2, dS_sh hok2, false, by rw [dS_refl]; rfl, iteF ?_⟩
  -- the line
  have g5 : (sv (o5.map (·.2)))[pp.length]? = some (.str L) := by rw [w5, l2]; simp
  refine ⟨_, rfl, _, rfl, q5, _, _, _, rfl, rfl, (hT5'.mono s1013).sq, atI_nat g5, _, rfl, rfl, ?_⟩
  rw [decide_eq_true rfl]
  exact q H13 ((s05.trans s510).trans s1013)
end
end K46

namespace K46
open PySem PySem.Spec PyProof.Rows L2
theorem atI_end {ns : List Int} (h : ns ≠ []) : ∃ x, x ∈ ns ∧ atI (iv ns) (-1) = some (.int x) := by
  refine ⟨ns.getLast h, List.getLast_mem h, ?_⟩
  have e : iv ns = iv ns.dropLast ++ [V.int (ns.getLast h)] := by
    rw [← List.map_singleton, ← List.map_append, List.dropLast_concat_getLast]
  rw [e]
  exact atI_last _ _
section
variable {P : Program} {w : World} {K : PySem.W.Frag} {mg : Str → Option Value} {base : Heap}
abbrev s_law_right : Stmt := topS 52
abbrev n_law_right : List Str := ["_law_pool_here", "_law_calls_here", "_law_left", "_law_folk_here", "_law_tree_here", "_law_free", "_law_some", "_law_inch", "_law_turn"]
abbrev p_law_right : List Str := ["_law_pool_here"]
theorem sc_law_right : FnScope n_law_right p_law_right (defScope s_law_right) := ⟨rfl, rfl, rfl, by decide +kernel, rfl, by decide +kernel, by decide +kernel⟩
-- slots: 0 _law_pool_here* 1 _law_calls_here* 2 _law_left* 3 _law_folk_here* 4 _law_tree_here* 5 _law_free* 6 _law_some 7 _law_inch~ 8 _law_turn~
def spRight : Sp := fun vs H Q _ => ∃ (a : Addr), vs = [.ref a] ∧ PoolAt H a ∧ ∀ H', But [a] H H' → Q (.bl true) H'
theorem d__law_right (B : Bn mg) (E : Ent K mg "_law_right" s_law_right) (D_law_draw : Df P w K mg base 1 "_law_draw" p_law_draw spDraw) (D_law_calls : Df P w K mg base 2 "_law_calls" p_law_calls spCalls) (D_law_inches : Df P w K mg base 2 "_law_inches" p_law_inches spInches)
    (D_law_folk : Df P w K mg base 2 "_law_folk" p_law_folk spFolk) (D_law_tree : Df P w K mg base 3 "_law_tree" p_law_tree spTree) (D_law_sort : Df P w K mg base 2 "_law_sort" p_law_sort spSort) (D_law_all_of : Df P w K mg base 9 "_law_all_of" p_law_all_of (spAllOf 8))
    (D_law_nobody_right : Df P w K mg base 13 "_law_nobody_right" p_law_nobody_right spNobody) : Df P w K mg base 14 "_law_right" p_law_right spRight := by
  refine E.df sc_law_right (fun _ _ _ _ _ _ us hl => match us, hl with | [_], _ => rfl) (fun vs H Q E h => ?_) (fun f cdv A outer s H vs Q E hr h => ?_)
  · obtain ⟨a, rfl, _⟩ := h
    rfl
  obtain ⟨a, rfl, hP, q⟩ := h
  refine ⟨_, pss_cons (ps_set (i := 1) sc_law_right.nd rfl (Or.inr rfl) (pe_df D_law_calls (hr.mono (by decide)) rfl (pa_cons (pv 0) (pa_cons (pe_op op_add pe_int (pe_df D_law_draw (hr.mono (by decide)) rfl (pa_cons (pv 0) (pa_cons pe_int pa_nil)))) pa_nil))))
      (pss_cons (ps_set (i := 2) sc_law_right.nd rfl (Or.inr rfl) (pe_df D_law_inches (hr.mono (by decide)) rfl (pa_cons (pv 0) (pa_cons (pe_ix (ix_listK K) (pe_lstS (pa_cons (pe_df D_law_draw (hr.mono (by decide)) rfl (pa_cons (pv 0) (pa_cons pe_int pa_nil))) (pa_cons (pe_df D_law_draw (hr.mono (by decide)) rfl (pa_cons (pv 0) (pa_cons pe_int pa_nil))) pa_nil))) (pe_df D_law_draw (hr.mono (by decide)) rfl (pa_cons (pv 0) (pa_cons pe_int pa_nil))) (fun _ _ => rfl)) pa_nil))))
      (pss_cons (ps_asg (pe_tupF (pa_cons (pe_df D_law_folk (hr.mono (by decide)) rfl (pa_cons (pv 0) (pa_cons (pv 1) (pa_cons (pv 2) pa_nil)))) (pa_cons (pe_df D_law_all_of (hr.mono (by decide)) rfl (pa_cons (pe_df D_law_tree (hr.mono (by decide)) rfl (pa_cons (pv 0) (pa_cons (pv 1) pa_nil))) (pa_cons (pe_df D_law_sort (hr.mono (by decide)) rfl (pa_cons (pv 0) pa_nil)) pa_nil))) pa_nil))) (pg_tupK K (n := 2) rfl (pgs_cons (pg_name (i := 3) sc_law_right.nd rfl (Or.inr rfl)) (pgs_cons (pg_name (i := 4) sc_law_right.nd rfl (Or.inr rfl)) pgs_nil))))
      (pss_cons (ps_set (i := 5) sc_law_right.nd rfl (Or.inr rfl) (pe_lc (own := [("_law_inch", 7)]) rfl sc_law_right.nd (pi_range2 rfl B.range (pa_cons pe_int (pa_cons pe_int pa_nil))) (blkOk_by (N := n_law_right) (sc := defScope s_law_right) (by decide +kernel)) (fun _ _ _ _ _ => (pg_name (i := 7) sc_law_right.nd rfl (Or.inl rfl))) (fun _ _ _ _ _ => (pts_one (pt_cmpR (op_notIn_seqK K) (pv 7) (pv 2) (by with_unfolding_all rfl)))) (fun _ _ _ _ _ => (pv 7))))
      (pss_cons (ps_set (i := 6) sc_law_right.nd rfl (Or.inl rfl) (pe_op op_cat (pe_lstS (pa_cons (pe_ix (ix_listK K) (pv 5) pe_int (fun _ _ => rfl)) (pa_cons (pe_ix (ix_listK K) (pv 5) (pe_un un_neg pe_int) (fun _ _ => rfl)) pa_nil))) (pe_lc (own := [("_law_turn", 8)]) rfl sc_law_right.nd (pi_range1 rfl B.range (pa_cons (pe_df D_law_draw (hr.mono (by decide)) rfl (pa_cons (pv 0) (pa_cons pe_int pa_nil))) pa_nil)) (blkOk_by (N := n_law_right) (sc := defScope s_law_right) (by decide +kernel)) (fun _ _ _ _ _ => (pg_name (i := 8) sc_law_right.nd rfl (Or.inl rfl))) (fun _ _ _ _ _ => pts_nil) (fun _ _ _ _ _ => (pe_ix (ix_listK K) (pv 5) (pe_df D_law_draw (hr.mono (by decide)) rfl (pa_cons (pv 0) (pa_cons (pe_callB (call_len_seqK K) (by rfl) B.len b_len (pa_cons (pv 5) pa_nil)) pa_nil))) (fun _ _ => rfl))))))
      (pss_one (ps_ret (pe_callB (cr_allK K rfl) (by rfl) B.all b_all (pa_cons (pe_lc (own := [("_law_inch", 7)]) rfl sc_law_right.nd (pi_listK K (pv 6)) (blkOk_by (N := n_law_right) (sc := defScope s_law_right) (by decide +kernel)) (fun _ _ _ _ _ => (pg_name (i := 7) sc_law_right.nd rfl (Or.inl rfl))) (fun _ _ _ _ _ => pts_nil) (fun _ _ _ _ _ => (pe_df D_law_nobody_right (hr.mono (by decide)) rfl (pa_cons (pv 4) (pa_cons (pv 3) (pa_cons (pe_ix (ix_listK K) (pv 1) (pe_df D_law_draw (hr.mono (by decide)) rfl (pa_cons (pv 0) (pa_cons (pe_callB (call_len_seqK K) (by rfl) B.len b_len (pa_cons (pv 1) pa_nil)) pa_nil))) (fun _ _ => rfl)) (pa_cons (pv 7) pa_nil))))))) pa_nil)))))))), ?_⟩
  -- calls
  refine ⟨_, rfl, _, rfl, a, 8, rfl, hP, by decide, by decide, fun H1 i b1 hP1 hi => ?_⟩
  refine ⟨_, _, rfl, rfl, a, i + 1, by rw [show ((i + 1 : Nat) : Int) = 1 + (i : Int) by omega]; rfl, hP1, by omega, fun H2 pc ls b2 hP2 hpc hpca epc hasc hok hlen => ?_⟩
  have b02 := b1.trans b2
  -- left
  refine ⟨_, rfl, _, rfl, a, 9, rfl, hP2, by decide, by decide, fun H3 m1 b3 hP3 hm1 => ?_⟩
  refine ⟨_, rfl, a, 25, rfl, hP3, by decide, by decide, fun H4 m2 b4 hP4 hm2 => ⟨by show 2 ≤ sizeLine; decide, fun p5 H5 hp5 s5 e5 => ?_⟩⟩
  refine ⟨_, rfl, a, 2, rfl, hP4.mono s5, by decide, by decide, fun H6 j b6 hP6 hj => ?_⟩
  obtain ⟨many, em, hmany⟩ : ∃ many : Nat, [V.int (m1 : Int), V.int (m2 : Int)][j]? = some (.int (many : Int)) ∧ many ≤ 24 := by
    have : j = 0 ∨ j = 1 := by omega
    rcases this with rfl | rfl
    · exact ⟨m1, rfl, by omega⟩
    · exact ⟨m2, rfl, by omega⟩
  have e6 := b6 _ _ (by simpa using hP4.no hp5) e5
  refine ⟨p5, _, _, _, rfl, rfl, SqL.of e6, atI_nat em, a, many, rfl, hP6, hmany, fun H7 pl ns b7 hP7 hpl hpla epl hnd hH hlen2 => ?_⟩
  have b27 := (((b3.trans b4).trans (but_same s5)).trans b6).trans b7
  have b07 := b02.trans b27
  have epc7 := b27 _ _ (by simpa using hpca) epc
  clear e6 em b27 b6 e5 hp5 s5 b4 b3 b1 b2
  -- folk, tree
  refine ⟨_, rfl, _, rfl, _, rfl, a, pc, pl, ls, ns, rfl, hP7, epc7, hpca, epl, hpla, hasc, hok, by omega, by omega, hnd, hH, by omega, fun H8 pf cr b8 hP8 hcr okcr hin hperm => ?_⟩
  have epc8 := b8 _ _ (by simpa using hpca) epc7
  have epl8 := b8 _ _ (by simpa using hpla) epl
  refine ⟨_, rfl, _, rfl, a, pc, ls, rfl, hP8, epc8, by omega, by omega, hok, fun H9 v t b9 hP9 hpt htok hleaves => ?_⟩
  refine ⟨_, rfl, a, rfl, hP9, fun H10 k b10 hP10 hk => ?_⟩
  have hl8 : t.leaves.length ≤ 8 := by rw [hleaves.length_eq]; omega
  have hdl := depth_lt htok
  refine ⟨v, k, t, rfl, hpt.fz (hP9.fz b10), htok, hl8, by omega, fun H11 y s11 hy => ⟨by show 2 ≤ sizeLine; decide, fun p12 H12 hp12 s12 hT12 => ⟨p12, _, rfl, hT12.sq, rfl, _, _, rfl, _, _, rfl, rfl, ?_⟩⟩⟩
  have b812 : But [a] H8 H12 := ((b9.trans b10).trans (but_same s11)).trans (but_same s12)
  have b012 := (b07.trans b8).trans b812
  have epc12 := b812 _ _ (by simpa using hpca) epc8
  have epl12 := b812 _ _ (by simpa using hpla) epl8
  have hcr12 := hcr.fz (hP8.fz b812)
  have hy12 := hy.fz (fz_same s12)
  have hP12 := (hP10.mono s11).mono s12
  have okB : okBoth (t.all k) cr := ⟨⟨all_ok hk htok, by rw [all_leaves]; exact hleaves.nodup_iff.mpr (asc_nodup hasc), by rw [all_leaves]; exact hl8⟩, okcr, fun p hp => by rw [all_leaves]; exact hleaves.mem_iff.mpr (hin p hp)⟩
  have hfl : (folks cr).length < 40 := by rw [hperm.length_eq]; omega
  clear hT12 s12 hy s11 hP10 b10 hpt b9 hcr epc8 epl8 epc7 epl hP9 hP8
  -- free
  refine ⟨1, 1000, rfl, ⟨by decide, by decide, by decide, by decide⟩, fun D hD => ?_⟩
  have hDa := hP12.no hD
  refine lc_gen walk_range [] hD (fun i acc H' => ∃ M : List Int, acc = iv M ∧ (∀ x ∈ M, okH x ∧ x ∉ ns) ∧ ∀ x : Int, 1 ≤ x → x < 1 + (i : Int) → x ∈ M ∨ x ∈ ns) ⟨[], rfl, by simp, fun x h1 h2 => by omega⟩ (fun _ _ _ _ _ _ => trivial) ?_ ?_
  · rintro i acc x H13 H14 hi c ⟨rfl, rfl⟩
    obtain ⟨M, rfl, hM1, hM2⟩ := c.rel
    have hi : i < 999 := hi
    have epl13 := c.but.same _ _ epl12
    refine ⟨rfl, _, rfl, _, rfl, pl, _, rfl, .inl (SqL.of epl13), rfl, flat_intsV _, _, rfl, ?_⟩
    rw [if_pos rfl, in_iv]
    refine ite2 (fun hn => ?_) (fun hn => ?_)
    · have hn : ¬ (1 + (i : Int)) ∈ ns := fun z => by rw [decide_eq_true z] at hn; cases hn
      refine ⟨_, rfl, ?_⟩
      refine c.keep hD (by simp) (fun i acc H' xs ys e h => h) (szl (by omega)) (But.refl _ _) ⟨M ++ [1 + (i : Int)], by simp [iv], fun x hx => ?_, fun x h1 h2 => ?_⟩
      · rcases List.mem_append.mp hx with hx | hx
        · exact hM1 x hx
        · rw [List.mem_singleton.mp hx]
          exact ⟨⟨by omega, by omega⟩, hn⟩
      · by_cases e : x = 1 + (i : Int)
        · exact .inl (by rw [e]; simp)
        · rcases hM2 x h1 (by omega) with h | h
          · exact .inl (List.mem_append_left _ h)
          · exact .inr h
    · have hn : (1 + (i : Int)) ∈ ns := by
        refine Classical.byContradiction fun z => hn ?_
        rw [decide_eq_false z]
        rfl
      refine c.skip (by simp) (But.refl _ _) ⟨M, rfl, hM1, fun x h1 h2 => ?_⟩
      by_cases e : x = 1 + (i : Int)
      · exact .inr (by rw [e]; exact hn)
      · exact hM2 x h1 (by omega)
  intro acc H13 c
  obtain ⟨F, rfl, hF1, hF2⟩ := c.rel
  have hFne : F ≠ [] := by
    intro e
    subst e
    have hsub : (rgN 1 1000).length ≤ ns.length := (rgN_nd 1 1000).length_le_of_subset fun x hx => by
      have := rgN_mem hx
      rcases hF2 x this.1 (by have := this.2; show x < 1 + ((999 : Nat) : Int); omega) with h | h
      · simp at h
      · exact h
    rw [rgN_len] at hsub
    have : ((1000 : Int) - 1).toNat = 999 := rfl
    omega
  have hFl : F.length ≤ 999 := by
    have := c.len
    rw [List.length_map] at this
    exact this
  have s13 := c.but.same
  have eF := c.at_
  have hP13 := hP12.mono s13
  have b013 := b012.trans (but_same s13)
  have epc13 := s13 _ _ epc12
  have hcr13 := hcr12.fz (fz_same s13)
  have hy13 := hy12.fz (fz_same s13)
  clear c hF2 epl12 epc12 hcr12 hy12 hP12 b012 hD
  -- some
  obtain ⟨x0, hx0, ex0⟩ : ∃ x, x ∈ F ∧ atI (iv F) 0 = some (.int x) := by
    cases F with
    | nil => exact absurd rfl hFne
    | cons x r => exact ⟨x, List.mem_cons_self, atI_nat (j := 0) rfl⟩
  obtain ⟨x1, hx1, ex1⟩ := atI_end hFne
  refine ⟨_, rfl, D, _, _, _, rfl, rfl, SqL.of eF, ex0, ?_⟩
  refine ⟨_, rfl, _, rfl, D, _, _, _, rfl, rfl, SqL.of eF, ex1, by show 2 ≤ sizeLine; decide, fun p14 H14 hp14 s14 e14 => ?_⟩
  have hP14 := hP13.mono s14
  have h14a := hP13.no hp14
  have hDa : D ≠ a := hDa
  have eF14 := s14 _ _ eF
  refine ⟨_, rfl, a, 5, rfl, hP14, by decide, by decide, fun H15 n b15 hP15 hn => ⟨_, rfl, by omega, by omega, fun D2 hD2 => ?_⟩⟩
  have hD2a := hP15.no hD2
  have eF15 := b15 _ _ (by simpa using hDa) eF14
  have e15 := b15 _ _ (by simpa using h14a) e14
  have hFpos : 1 ≤ F.length := List.length_pos_iff.mpr hFne
  refine lc_gen walk_range [a] hD2 (fun i acc H' => ∃ M : List Int, PoolAt H' a ∧ acc = iv M ∧ ∀ x ∈ M, x ∈ F) ⟨[], hP15.up' hD2a, rfl, by simp⟩ (fun _ _ _ _ _ _ => trivial) ?_ ?_
  · rintro i acc x H16 H17 hi c ⟨rfl, rfl⟩
    obtain ⟨M, hP16, rfl, hM⟩ := c.rel
    have eF16 := c.but _ _ (by simpa using hDa) eF15
    refine ⟨rfl, lc_yes ?_⟩
    refine ⟨_, rfl, _, rfl, _, rfl, D, _, rfl, .inl (SqL.of eF16), a, _, rfl, hP16, by rw [List.length_map]; omega, by rw [List.length_map]; omega, fun H18 j b18 hP18 hj => ?_⟩
    rw [List.length_map] at hj
    have hj : j < F.length := by omega
    refine ⟨D, _, _, _, rfl, rfl, SqL.of (b18 _ _ (by simpa using hDa) eF16), atI_nat (get_iv hj), ?_⟩
    refine c.keep hD2 (by simpa using hD2a) ?_ (szl (by omega)) b18 ⟨M ++ [F[j]], hP18, by simp [iv], fun x hx => ?_⟩
    · rintro i acc H' xs ys e ⟨M, h1, h2, h3⟩
      exact ⟨M, h1.up' hD2a, h2, h3⟩
    · rcases List.mem_append.mp hx with hx | hx
      · exact hM x hx
      · rw [List.mem_singleton.mp hx]
        exact List.getElem_mem hj
  intro acc H16 c
  obtain ⟨M, hP16, rfl, hM⟩ := c.rel
  have hMl : M.length ≤ 5 := by
    have := c.len
    rw [List.length_map] at this
    omega
  have b1316 : But [a] H13 H16 := ((but_same s14).trans b15).trans c.but
  have b016 := b013.trans b1316
  have e16 := c.but _ _ (by simpa using h14a) e15
  have hcr16 := hcr13.fz (hP13.fz b1316)
  have hy16 := hy13.fz (hP13.fz b1316)
  have epc16 := b1316 _ _ (by simpa using hpca) epc13
  have hS : ∀ x ∈ [x0, x1] ++ M, x ∈ F := fun x hx => by
    rcases List.mem_append.mp hx with hx | hx
    · rcases List.mem_cons.mp hx with rfl | hx
      · exact hx0
      · rw [List.mem_singleton.mp hx]
        exact hx1
    · exact hM x hx
  have hSl : ([x0, x1] ++ M).length ≤ 7 := by rw [List.length_append]; show 2 + _ ≤ _; omega
  have eS : [V.int x0, V.int x1] ++ iv M = iv ([x0, x1] ++ M) := by simp [iv]
  refine ⟨p14, D2, _, _, rfl, rfl, e16, c.at_, sze (by show 2 + (List.map V.int M).length ≤ _; rw [List.length_map]; omega), fun p17 hp17 => ?_⟩
  have e17 : (upd H16 p17 (.lst ([V.int x0, V.int x1] ++ iv M))) p17 = some (.lst (iv ([x0, x1] ++ M))) := by rw [upd_same, eS]
  have s17 : Same H16 (upd H16 p17 (.lst ([V.int x0, V.int x1] ++ iv M))) := same_up hp17
  clear c e16 hcr13 hy13 epc13 b1316 e15 eF15 eF14 e14 s14 b15 hp14 hP15 hP14 hP13 b013
  generalize upd H16 p17 (.lst ([V.int x0, V.int x1] ++ iv M)) = H17 at e17 s17 ⊢
  generalize [x0, x1] ++ M = S at hS hSl eS e17
  have h17a := hP16.no hp17
  refine ⟨_, rfl, p17, rfl, ⟨_, SqL.of e17⟩, fun D3 hD3 => ?_⟩
  have hP17 := hP16.mono s17
  have hD3a := hP17.no hD3
  have b017 := b016.trans (but_same s17)
  have hcr17 := hcr16.fz (fz_same s17)
  have hy17 := hy16.fz (fz_same s17)
  have epc17 := s17 _ _ epc16
  refine lc_gen (walk_list (K := K) (xs := iv S)) [a] hD3 (fun i acc H' => PoolAt H' a ∧ ∀ (j : Nat) (y : V), acc[j]? = some y → y = .bl true) ⟨hP17.up' hD3a, fun j y e => by simp at e⟩ (fun i acc H' _ b' _ => SqL.of (b' _ _ (by simpa using h17a) e17)) ?_ ?_
  · rintro i acc x H19 H18 hi c ⟨rfl, hx⟩
    obtain ⟨z, ez, rfl⟩ := map_get hx
    obtain ⟨hP18, hall⟩ := c.rel
    rw [List.length_map] at hi
    have hz := hF1 z (hS z (List.mem_of_getElem? ez))
    have epc18 := c.but _ _ (by simpa using hpca) epc17
    refine ⟨rfl, lc_yes ?_⟩
    refine ⟨_, rfl, _, rfl, _, rfl, _, rfl, _, rfl, pc, _, rfl, .inl (SqL.of epc18), a, _, rfl, hP18, by rw [List.length_map]; omega, by rw [List.length_map]; omega, fun H20 j b20 hP20 hj => ?_⟩
    rw [List.length_map] at hj
    have hj : j < ls.length := by omega
    have b1720 := c.but.trans b20
    have z20 := hP17.fz b1720
    refine ⟨pc, _, _, _, rfl, rfl, SqL.of (b20 _ _ (by simpa using hpca) epc18), atI_nat (get_sv hj), _, rfl, y, pf, t.all k, cr, ls[j], z, k, rfl, hy17.fz z20, hcr17.fz z20, okB, ?_, hz.1, ?_, hfl, all_one k t, fun H21 s21 => ?_⟩
    · rw [all_leaves]
      exact hleaves.mem_iff.mpr (List.getElem_mem hj)
    · exact fun hm => hz.2 (hperm.mem_iff.mp hm)
    · refine c.keep hD3 (by simpa using hD3a) ?_ (szl (by omega)) (b20.trans (but_same s21)) ⟨hP20.mono s21, fun j y e => ?_⟩
      · rintro i acc H' xs ys e ⟨h1, h2⟩
        exact ⟨h1.up' hD3a, h2⟩
      · by_cases hj : j < acc.length
        · rw [List.getElem?_append_left hj] at e
          exact hall j y e
        · rw [List.getElem?_append_right (by omega)] at e
          cases hk : j - acc.length with
          | zero =>
            rw [hk] at e
            simpa using e.symm
          | succ m =>
            rw [hk] at e
            simp at e
  · intro acc H18 c
    dsimp only [tNil]
    refine r_all c.at_ c.rel.2 (q H18 (b017.trans c.but))
end
end K46

namespace K46
open PySem PySem.Spec PyProof.Rows L2
theorem SqL.same {K : PySem.W.Frag} {H H' : Hp} {a : Addr} {xs : List V} (h : SqL K H a xs) (e : Same H H') : SqL K H' a xs :=
  h.elim (fun h => .inl (h.elim (fun h => .inl (e _ _ h)) fun ⟨o, h⟩ => .inr ⟨o, e _ _ h⟩)) fun h => .inr h
section
variable {P : Program} {w : World} {K : PySem.W.Frag} {mg : Str → Option Value} {base : Heap}
abbrev slaw : Stmt := topS 53
abbrev nlaw : List Str := ["_law_script", "_law_k"]
abbrev plaw : List Str := ["_law_script"]
theorem sclaw : FnScope nlaw plaw (defScope slaw) := ⟨rfl, rfl, rfl, by decide +kernel, rfl, by decide +kernel, by decide +kernel⟩
-- slots: 0 _law_script* 1 _law_k~
def spLaw (K : PySem.W.Frag) : Sp := fun vs H Q _ => ∃ (a : Addr) (ns : List Int), vs = [.ref a] ∧ SqL K H a (iv ns) ∧ ns.length ≤ 63 ∧ ∀ H', Q (.bl true) H'
theorem ok_law {f : Addr} {fd : FuncData} (B : Bn mg) (F : Fun K "law" "law" slaw f fd) (D_law_right : Df P w K mg base 14 "_law_right" p_law_right spRight) (D_law_pool : Df P w K mg base 1 "_law_pool" p_law_pool spPool) (D_law_cell : Df P w K mg base 1 "_law_cell" p_law_cell (spCell K)) : FnOk P w K mg base CX0 15 f fd plaw (spLaw K) := by
  refine F.ok sclaw (fun vs H Q E h => ?_) (fun cdv A outer s H vs Q E hr h => ?_)
  · obtain ⟨a, ns, rfl, _⟩ := h
    rfl
  obtain ⟨a, ns, rfl, hS, h63, q⟩ := h
  refine ⟨_, pss_one (ps_ret (pe_callB (cr_allK K rfl) (by rfl) B.all b_all (pa_cons (pe_lc (own := [("_law_k", 1)]) rfl sclaw.nd (pi_range1 rfl B.range (pa_cons (pe_callB (call_max2 rfl) (by rfl) B.max b_max (pa_cons pe_int (pa_cons (pe_callB (call_min2 rfl) (by rfl) B.min b_min (pa_cons (pe_callB (call_len_seqK K) (by rfl) B.len b_len (pa_cons (pv 0) pa_nil)) (pa_cons pe_int pa_nil))) pa_nil))) pa_nil)) (blkOk_by (N := nlaw) (sc := defScope slaw) (by decide +kernel)) (fun _ _ _ _ _ => (pg_name (i := 1) sclaw.nd rfl (Or.inl rfl))) (fun _ _ _ _ _ => pts_nil) (fun _ _ _ _ _ => (pe_df D_law_right (hr.mono (by decide)) rfl (pa_cons (pe_df D_law_pool (hr.mono (by decide)) rfl (pa_cons (pe_df D_law_cell (hr.mono (by decide)) rfl (pa_cons (pv 0) (pa_cons (pv 1) pa_nil))) pa_nil)) pa_nil)))) pa_nil))), ?_⟩
  refine ⟨_, rfl, a, _, rfl, .inl hS, _, _, rfl, _, _, rfl, ?_⟩
  rw [List.length_map]
  have hn : ∃ n : Nat, n ≤ 5 ∧ (if (if (5 : Int) < (ns.length : Int) then (5 : Int) else (ns.length : Int)) > 2 then (if (5 : Int) < (ns.length : Int) then (5 : Int) else (ns.length : Int)) else 2) = (n : Int) := by
    by_cases h1 : (5 : Int) < (ns.length : Int)
    · rw [if_pos h1]
      exact ⟨5, by omega, by decide⟩
    · rw [if_neg h1]
      by_cases h2 : (ns.length : Int) > 2
      · rw [if_pos h2]
        exact ⟨ns.length, by omega, rfl⟩
      · rw [if_neg h2]
        exact ⟨2, by omega, rfl⟩
  obtain ⟨n, hn5, en⟩ := hn
  refine ⟨(n : Int), congrArg (fun i => [V.int i]) en, by omega, by omega, fun D hD => ?_⟩
  refine lc_gen walk_range [] hD (AllE fun _ y _ => y = .bl true) ⟨rfl, fun j y e => by simp at e⟩ (fun _ _ _ _ _ _ => trivial) ?_ ?_
  · rintro i acc x H1 H2 hi c ⟨rfl, rfl⟩
    refine ⟨rfl, lc_yes ?_⟩
    refine ⟨_, rfl, _, rfl, a, ns, i, congrArg (fun z => [V.ref a, V.int z]) (Int.zero_add (i : Int)), SqL.same hS c.but.same, h63, by omega, fun H3 z s3 => ⟨z, rfl, fun H4 p s4 hp hP => ⟨p, rfl, hP, fun H5 b5 => ?_⟩⟩⟩
    refine c.one0 hD (fun _ _ _ _ _ h => h) (szl (by omega)) (s3.trans fun b o e => b5 b o ?_ (s4 _ _ e)) rfl
    intro hm
    rw [List.mem_singleton.mp hm, hp] at e
    cases e
  · intro acc H1 c
    dsimp only [tNil]
    exact r_all c.at_ c.rel.2 (q H1)
end
end K46

namespace K46
open PySem PySem.Spec PyProof.Rows L2
/-! ### what the top has left -/
theorem ent_mk {K : PySem.W.Frag} {h : Heap} {mg : Str → Option Value} (X : K.In h) (G : h.Ns mainGlobals mg) {x : Str} {st : Stmt} {f : Addr} {oc : Value} {od an : Option Addr} {osl : Array (Option Value)} {kV doc pm cdv ct : Value}
    (a : PySem.W.nsIn K mainGlobals x = some (some (.ref f))) (l : K.lookup f = some ⟨oc, od, .func (PySem.W.fnOf x x (defArgs st) (defBody st) (defScope st) .none kV doc pm an cdv ct), osl⟩)
    (c : PySem.W.codeIn K cdv x = true) (k : PySem.W.keepIn K (.ref f) = true) : Ent K mg x st := ⟨f, _, fun_mk l c k, PySem.W.mg_of X G a⟩
theorem bn_mk {K : PySem.W.Frag} {h : Heap} {mg : Str → Option Value} (X : K.In h) (G : h.Ns mainGlobals mg) {t0 t1 t2 t3 t4 t5 t6 : Tok}
    (z0 : PySem.W.nsIn K mainGlobals "isinstance" = some none)
    (z1 : PySem.W.nsIn K mainGlobals "int" = some none)
    (z2 : PySem.W.nsIn K mainGlobals "bool" = some none)
    (z3 : PySem.W.nsIn K mainGlobals "str" = some none)
    (z4 : PySem.W.nsIn K mainGlobals "tuple" = some none)
    (z5 : PySem.W.nsIn K mainGlobals "list" = some none)
    (z6 : PySem.W.nsIn K mainGlobals "dict" = some none)
    (z7 : PySem.W.nsIn K mainGlobals "len" = some none)
    (z8 : PySem.W.nsIn K mainGlobals "all" = some none)
    (z9 : PySem.W.nsIn K mainGlobals "any" = some none)
    (z10 : PySem.W.nsIn K mainGlobals "sum" = some none)
    (z11 : PySem.W.nsIn K mainGlobals "min" = some none)
    (z12 : PySem.W.nsIn K mainGlobals "max" = some none)
    (z13 : PySem.W.nsIn K mainGlobals "abs" = some none)
    (z14 : PySem.W.nsIn K mainGlobals "divmod" = some none)
    (z15 : PySem.W.nsIn K mainGlobals "sorted" = some none)
    (z16 : PySem.W.nsIn K mainGlobals "range" = some none)
    (z17 : PySem.W.nsIn K mainGlobals "enumerate" = some none)
    (y0 : PySem.W.nsIn K mainGlobals "MOST_HEIGHT" = some (some (.int 999 t0)))
    (y1 : PySem.W.nsIn K mainGlobals "MOST_PEOPLE" = some (some (.int 40 t1)))
    (y2 : PySem.W.nsIn K mainGlobals "MOST_LINES" = some (some (.int 8 t2)))
    (y3 : PySem.W.nsIn K mainGlobals "MOST_LETTERS" = some (some (.int 6 t3)))
    (y4 : PySem.W.nsIn K mainGlobals "LOW" = some (some (.str "low" t4)))
    (y5 : PySem.W.nsIn K mainGlobals "HIGH" = some (some (.str "high" t5)))
    (y6 : PySem.W.nsIn K mainGlobals "LETTERS" = some (some (.str "abcdefghijklmnopqrstuvwxyz" t6)))
    : Bn mg :=
  { isinstance := PySem.W.mg_none_of X G z0
    int := PySem.W.mg_none_of X G z1
    bool := PySem.W.mg_none_of X G z2
    str := PySem.W.mg_none_of X G z3
    tuple := PySem.W.mg_none_of X G z4
    list := PySem.W.mg_none_of X G z5
    dict := PySem.W.mg_none_of X G z6
    len := PySem.W.mg_none_of X G z7
    all := PySem.W.mg_none_of X G z8
    any := PySem.W.mg_none_of X G z9
    sum := PySem.W.mg_none_of X G z10
    min := PySem.W.mg_none_of X G z11
    max := PySem.W.mg_none_of X G z12
    abs := PySem.W.mg_none_of X G z13
    divmod := PySem.W.mg_none_of X G z14
    sorted := PySem.W.mg_none_of X G z15
    range := PySem.W.mg_none_of X G z16
    enumerate := PySem.W.mg_none_of X G z17
    mostH := ⟨t0, PySem.W.mg_of X G y0⟩
    mostP := ⟨t1, PySem.W.mg_of X G y1⟩
    mostL := ⟨t2, PySem.W.mg_of X G y2⟩
    mostT := ⟨t3, PySem.W.mg_of X G y3⟩
    low := ⟨t4, PySem.W.mg_of X G y4⟩
    high := ⟨t5, PySem.W.mg_of X G y5⟩
    letters := ⟨t6, PySem.W.mg_of X G y6⟩ }
theorem all_mk {l : PySem.W.OpenLaw} {w : World} {K : PySem.W.Frag} {h : Heap} {mg : Str → Option Value} {fa f : Addr} (X : K.In h) (G : h.Ns mainGlobals mg) (hfa : mg "law" = some (.ref fa))
    {od an : Option Addr} {sl : Array (Option Value)} {oc kV dc pm cd ct : Value}
    (a : PySem.W.nsIn K mainGlobals "law" = some (some (.ref f))) (l1 : K.lookup f = some ⟨oc, od, .func (PySem.W.fnOf "law" "law" (defArgs slaw) (defBody slaw) (defScope slaw) .none kV dc pm an cd ct), sl⟩) (c : PySem.W.codeIn K cd "law" = true) (k : PySem.W.keepIn K (.ref f) = true)
    (B : Bn mg)
    (Eis_integer : Ent K mg "is_integer" sis_integer)
    (Eis_height : Ent K mg "is_height" sis_height)
    (Eis_row : Ent K mg "is_row" sis_row)
    (Eis_kind : Ent K mg "is_kind" sis_kind)
    (Eis_line : Ent K mg "is_line" sis_line)
    (Eis_part : Ent K mg "is_part" sis_part)
    (Eis_plan : Ent K mg "is_plan" sis_plan)
    (Echeck_plan : Ent K mg "check_plan" scheck_plan)
    (Elines_in : Ent K mg "lines_in" slines_in)
    (Emeeting_of : Ent K mg "meeting_of" smeeting_of)
    (Eoutcome_of : Ent K mg "outcome_of" soutcome_of)
    (Efault_of_crowd : Ent K mg "fault_of_crowd" sfault_of_crowd)
    (Echeck_crowd : Ent K mg "check_crowd" scheck_crowd)
    (Erows_of : Ent K mg "rows_of" srows_of)
    (Eresult_of : Ent K mg "result_of" sresult_of)
    (Erun_plan : Ent K mg "run_plan" srun_plan)
    (Esource_lines : Ent K mg "source_lines" ssource_lines)
    (Eexchanged : Ent K mg "exchanged" sexchanged)
    (E_law_cell : Ent K mg "_law_cell" s_law_cell)
    (E_law_pool : Ent K mg "_law_pool" s_law_pool)
    (E_law_draw : Ent K mg "_law_draw" s_law_draw)
    (E_law_mixed : Ent K mg "_law_mixed" s_law_mixed)
    (E_law_calls : Ent K mg "_law_calls" s_law_calls)
    (E_law_inches : Ent K mg "_law_inches" s_law_inches)
    (E_law_sort : Ent K mg "_law_sort" s_law_sort)
    (E_law_tree : Ent K mg "_law_tree" s_law_tree)
    (E_law_folk : Ent K mg "_law_folk" s_law_folk)
    (E_law_all_of : Ent K mg "_law_all_of" s_law_all_of)
    (E_law_joined : Ent K mg "_law_joined" s_law_joined)
    (E_law_nobody_right : Ent K mg "_law_nobody_right" s_law_nobody_right)
    (E_law_right : Ent K mg "_law_right" s_law_right)
    : ∃ fd : FuncData, (∀ (s : Shared) (v : Value), BindsTo s fd ⟨[v], []⟩ [("_law_script", v)]) ∧ ∀ base : Heap, K.In base → base.Ns mainGlobals mg → FnOk l.prog w K mg base CX0 15 fa fd plaw (spLaw K) := by
  have e := hfa.symm.trans (PySem.W.mg_of X G a)
  cases e
  have F := fun_mk (st := slaw) l1 c k
  refine ⟨PySem.W.fnOf "law" "law" (defArgs slaw) (defBody slaw) (defScope slaw) .none kV dc pm an cd ct, fun s v => .of_eq rfl, fun base _ _ => ?_⟩
  have Dis_integer := d_is_integer (P := l.prog) (w := w) (base := base) B Eis_integer
  have Dis_height := d_is_height (P := l.prog) (w := w) (base := base) B Eis_height Dis_integer
  have Dis_row := d_is_row (P := l.prog) (w := w) (base := base) B Eis_row Dis_height
  have Dis_kind := d_is_kind (P := l.prog) (w := w) (base := base) B Eis_kind
  have Dis_line := d_is_line (P := l.prog) (w := w) (base := base) B Eis_line
  have Dis_part := d_is_part (P := l.prog) (w := w) (base := base) B Eis_part Dis_line Dis_kind 8
  have Dis_plan := d_is_plan (P := l.prog) (w := w) (base := base) Eis_plan Dis_part
  have Dcheck_plan := d_check_plan (P := l.prog) (w := w) (base := base) Echeck_plan Dis_plan
  have Dlines_in := d_lines_in (P := l.prog) (w := w) (base := base) B Elines_in 8
  have Dmeeting_of := d_meeting_of (P := l.prog) (w := w) (base := base) B Emeeting_of
  have Doutcome_of := d_outcome_of (P := l.prog) (w := w) (base := base) B Eoutcome_of Dmeeting_of 8
  have Dfault_of_crowd := d_fault_of_crowd (P := l.prog) (w := w) (base := base) B Efault_of_crowd Dis_line Dis_row
  have Dcheck_crowd := d_check_crowd (P := l.prog) (w := w) (base := base) B Echeck_crowd Dfault_of_crowd Dlines_in
  have Drows_of := d_rows_of (P := l.prog) (w := w) (base := base) B Erows_of
  have Dresult_of := d_result_of (P := l.prog) (w := w) (base := base) Eresult_of Doutcome_of Drows_of
  have Drun_plan := d_run_plan (P := l.prog) (w := w) (base := base) Erun_plan Dcheck_plan Dcheck_crowd Dresult_of
  have Dsource_lines := d_source_lines (P := l.prog) (w := w) (base := base) Esource_lines Dcheck_plan Dcheck_crowd Doutcome_of Drows_of
  have Dexchanged := d_exchanged (P := l.prog) (w := w) (base := base) B Eexchanged Dcheck_plan Dcheck_crowd Dlines_in Dis_height Doutcome_of Drows_of
  have D_law_cell := d__law_cell (P := l.prog) (w := w) (base := base) B E_law_cell
  have D_law_pool := d__law_pool (P := l.prog) (w := w) (base := base) B E_law_pool
  have D_law_draw := d__law_draw (P := l.prog) (w := w) (base := base) B E_law_draw
  have D_law_mixed := d__law_mixed (P := l.prog) (w := w) (base := base) B E_law_mixed D_law_draw
  have D_law_calls := d__law_calls (P := l.prog) (w := w) (base := base) B E_law_calls D_law_draw
  have D_law_inches := d__law_inches (P := l.prog) (w := w) (base := base) B E_law_inches D_law_draw
  have D_law_sort := d__law_sort (P := l.prog) (w := w) (base := base) B E_law_sort D_law_draw
  have D_law_tree := d__law_tree (P := l.prog) (w := w) (base := base) B E_law_tree D_law_draw D_law_mixed D_law_sort
  have D_law_folk := d__law_folk (P := l.prog) (w := w) (base := base) B E_law_folk D_law_draw
  have D_law_all_of := d__law_all_of (P := l.prog) (w := w) (base := base) B E_law_all_of 8
  have D_law_joined := d__law_joined (P := l.prog) (w := w) (base := base) B E_law_joined
  have D_law_nobody_right := d__law_nobody_right (P := l.prog) (w := w) (base := base) B E_law_nobody_right Drun_plan Dsource_lines Dexchanged D_law_joined
  have D_law_right := d__law_right (P := l.prog) (w := w) (base := base) B E_law_right D_law_draw D_law_calls D_law_inches D_law_folk D_law_tree D_law_sort D_law_all_of D_law_nobody_right
  exact ok_law B F D_law_right D_law_pool D_law_cell
theorem walk {l : PySem.W.OpenLaw} {q : Program} {loose : List Str} {XP : (Str → Option Value) → Heap → Prop} {YP : World → Heap → Prop} {d : DefRec} {K : Params → PySem.W.Frag} (hn : l.most = some 63) (hdf : d.params.defaults = [])
    (hY : ∀ (w : World) (h : Heap), YP w h → (K w.params).In h)
    (F : ∀ (w : World) (mg : Str → Option Value) (fa : Addr) (h : Heap), (K w.params).In h → h.Ns mainGlobals mg → mg d.name = some (.ref fa) →
      ∃ fd : FuncData, (∀ (s : Shared) (u : Value), BindsTo s fd ⟨[u], []⟩ [("_law_script", u)]) ∧ ∀ base : Heap, (K w.params).In base → base.Ns mainGlobals mg → FnOk l.prog w (K w.params) mg base CX0 15 fa fd plaw (spLaw (K w.params))) :
    PySem.W.WalkO q loose XP YP l.row.toRowW d [] (fun f vs => PySem.call f vs) :=
  L2.walk_of (n := 63) (k := 15) (x := "_law_script") (CX := fun _ => CX0) (sp := fun w => spLaw (K w.params)) hn (by decide) hdf ⟨rfl, by decide, by decide⟩ hY F (fun _ _ a ns hl _ hS => ⟨a, ns, rfl, hS, hl, fun _ => rfl⟩) fun _ _ _ _ _ z => z
end K46

open PySem PySem.W PyProof.Rows
set_option maxRecDepth 100000 in
set_option maxHeartbeats 0 in
theorem PySem.Challenge.cw_frontmeets_k46_whole_one_kind_exchanges_holds : PySem.Challenge.rw_frontmeets_k46_whole_one_kind_exchanges.Holds := by
  w_on; o_law; k_head; (case hw => w_witness2)
  k_fill
  refine K46.walk (l := PySem.Challenge.rw_frontmeets_k46_whole_one_kind_exchanges) rfl rfl (fun w h Y => PySem.W.kIn_of Y) ?F
  case F =>
    intro w mg fa h KX G hmg
    refine' K46.all_mk KX G hmg ?a ?l ?c ?k
      (K46.bn_mk KX G ?z0 ?z1 ?z2 ?z3 ?z4 ?z5 ?z6 ?z7 ?z8 ?z9 ?z10 ?z11 ?z12 ?z13 ?z14 ?z15 ?z16 ?z17 ?y0 ?y1 ?y2 ?y3 ?y4 ?y5 ?y6)
      (K46.ent_mk KX G ?a0 ?l0 ?c0 ?k0)
      (K46.ent_mk KX G ?a1 ?l1 ?c1 ?k1)
      (K46.ent_mk KX G ?a2 ?l2 ?c2 ?k2)
      (K46.ent_mk KX G ?a3 ?l3 ?c3 ?k3)
      (K46.ent_mk KX G ?a4 ?l4 ?c4 ?k4)
      (K46.ent_mk KX G ?a5 ?l5 ?c5 ?k5)
      (K46.ent_mk KX G ?a6 ?l6 ?c6 ?k6)
      (K46.ent_mk KX G ?a7 ?l7 ?c7 ?k7)
      (K46.ent_mk KX G ?a8 ?l8 ?c8 ?k8)
      (K46.ent_mk KX G ?a9 ?l9 ?c9 ?k9)
      (K46.ent_mk KX G ?a10 ?l10 ?c10 ?k10)
      (K46.ent_mk KX G ?a11 ?l11 ?c11 ?k11)
      (K46.ent_mk KX G ?a12 ?l12 ?c12 ?k12)
      (K46.ent_mk KX G ?a13 ?l13 ?c13 ?k13)
      (K46.ent_mk KX G ?a14 ?l14 ?c14 ?k14)
      (K46.ent_mk KX G ?a15 ?l15 ?c15 ?k15)
      (K46.ent_mk KX G ?a16 ?l16 ?c16 ?k16)
      (K46.ent_mk KX G ?a17 ?l17 ?c17 ?k17)
      (K46.ent_mk KX G ?a18 ?l18 ?c18 ?k18)
      (K46.ent_mk KX G ?a19 ?l19 ?c19 ?k19)
      (K46.ent_mk KX G ?a20 ?l20 ?c20 ?k20)
      (K46.ent_mk KX G ?a21 ?l21 ?c21 ?k21)
      (K46.ent_mk KX G ?a22 ?l22 ?c22 ?k22)
      (K46.ent_mk KX G ?a23 ?l23 ?c23 ?k23)
      (K46.ent_mk KX G ?a24 ?l24 ?c24 ?k24)
      (K46.ent_mk KX G ?a25 ?l25 ?c25 ?k25)
      (K46.ent_mk KX G ?a26 ?l26 ?c26 ?k26)
      (K46.ent_mk KX G ?a27 ?l27 ?c27 ?k27)
      (K46.ent_mk KX G ?a28 ?l28 ?c28 ?k28)
      (K46.ent_mk KX G ?a29 ?l29 ?c29 ?k29)
      (K46.ent_mk KX G ?a30 ?l30 ?c30 ?k30)
    (case a => k_is); (case l => k_is); (case c => k_is); (case k => k_is)
    (case a0 => k_is); (case l0 => k_is); (case c0 => k_is); (case k0 => k_is)
    (case a1 => k_is); (case l1 => k_is); (case c1 => k_is); (case k1 => k_is)
    (case a2 => k_is); (case l2 => k_is); (case c2 => k_is); (case k2 => k_is)
    (case a3 => k_is); (case l3 => k_is); (case c3 => k_is); (case k3 => k_is)
    (case a4 => k_is); (case l4 => k_is); (case c4 => k_is); (case k4 => k_is)
    (case a5 => k_is); (case l5 => k_is); (case c5 => k_is); (case k5 => k_is)
    (case a6 => k_is); (case l6 => k_is); (case c6 => k_is); (case k6 => k_is)
    (case a7 => k_is); (case l7 => k_is); (case c7 => k_is); (case k7 => k_is)
    (case a8 => k_is); (case l8 => k_is); (case c8 => k_is); (case k8 => k_is)
    (case a9 => k_is); (case l9 => k_is); (case c9 => k_is); (case k9 => k_is)
    (case a10 => k_is); (case l10 => k_is); (case c10 => k_is); (case k10 => k_is)
    (case a11 => k_is); (case l11 => k_is); (case c11 => k_is); (case k11 => k_is)
    (case a12 => k_is); (case l12 => k_is); (case c12 => k_is); (case k12 => k_is)
    (case a13 => k_is); (case l13 => k_is); (case c13 => k_is); (case k13 => k_is)
    (case a14 => k_is); (case l14 => k_is); (case c14 => k_is); (case k14 => k_is)
    (case a15 => k_is); (case l15 => k_is); (case c15 => k_is); (case k15 => k_is)
    (case a16 => k_is); (case l16 => k_is); (case c16 => k_is); (case k16 => k_is)
    (case a17 => k_is); (case l17 => k_is); (case c17 => k_is); (case k17 => k_is)
    (case a18 => k_is); (case l18 => k_is); (case c18 => k_is); (case k18 => k_is)
    (case a19 => k_is); (case l19 => k_is); (case c19 => k_is); (case k19 => k_is)
    (case a20 => k_is); (case l20 => k_is); (case c20 => k_is); (case k20 => k_is)
    (case a21 => k_is); (case l21 => k_is); (case c21 => k_is); (case k21 => k_is)
    (case a22 => k_is); (case l22 => k_is); (case c22 => k_is); (case k22 => k_is)
    (case a23 => k_is); (case l23 => k_is); (case c23 => k_is); (case k23 => k_is)
    (case a24 => k_is); (case l24 => k_is); (case c24 => k_is); (case k24 => k_is)
    (case a25 => k_is); (case l25 => k_is); (case c25 => k_is); (case k25 => k_is)
    (case a26 => k_is); (case l26 => k_is); (case c26 => k_is); (case k26 => k_is)
    (case a27 => k_is); (case l27 => k_is); (case c27 => k_is); (case k27 => k_is)
    (case a28 => k_is); (case l28 => k_is); (case c28 => k_is); (case k28 => k_is)
    (case a29 => k_is); (case l29 => k_is); (case c29 => k_is); (case k29 => k_is)
    (case a30 => k_is); (case l30 => k_is); (case c30 => k_is); (case k30 => k_is)
    (case z0 => k_is); (case z1 => k_is); (case z2 => k_is); (case z3 => k_is); (case z4 => k_is); (case z5 => k_is); (case z6 => k_is); (case z7 => k_is); (case z8 => k_is); (case z9 => k_is); (case z10 => k_is); (case z11 => k_is); (case z12 => k_is); (case z13 => k_is); (case z14 => k_is); (case z15 => k_is); (case z16 => k_is); (case z17 => k_is)
    (case y0 => k_is); (case y1 => k_is); (case y2 => k_is); (case y3 => k_is); (case y4 => k_is); (case y5 => k_is); (case y6 => k_is)
