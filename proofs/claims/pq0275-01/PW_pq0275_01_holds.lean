import PyProof.Rows.All
import Wide.All
import OpenK.AllK
import Wide.FinOn
import PySem.Challenge.RW_pq0275_01

set_option Elab.async false
set_option rowWalk.seconds 0
section
open PySem PySem.W PyProof.Rows
set_option maxRecDepth 100000
set_option maxHeartbeats 8000000
namespace Mine
open_top hd for PySem.Challenge.rw_pq0275_01
end Mine
end

section
open PySem PySem.W PySem.Spec PyProof.Rows PyProof.V PySem.Calls
set_option maxRecDepth 100000
set_option maxHeartbeats 8000000
namespace Mine

abbrev Ar (dp un : Nat) (gd : Option (List Code)) (env : Env) (outer : List Env) : Around :=
  { handled := none, depth := dp, frames := some (env :: outer), guards := gd, units := un }

/-- all but ds stays -/
def Grown (ds : List Addr) (h h' : Heap) : Prop := ∀ b o, b ∉ ds → h.get? b = some o → h'.get? b = some o

/-- a list of ints at l -/
def LAt (h : Heap) (l : Addr) (ns : List Int) : Prop := ∃ vs n, h.get? l = some (listOf vs.toArray n) ∧ IntsAre vs ns

theorem LAt.mono {ds : List Addr} {h h' : Heap} {l : Addr} {ns : List Int} (x : LAt h l ns) (g : Grown ds h h') (hl : l ∉ ds) : LAt h' l ns :=
  let ⟨vs, n, a, b⟩ := x; ⟨vs, n, g l _ hl a, b⟩

/-- where a call stands -/
def Site (w : World) (env : Env) (outer : List Env) (L : Addr) (ds : List Addr) (s : Shared) : Prop :=
  ∃ (p : Program) (loose : List Str) (mean : ExcName → Option Value) (mg mb : Str → Option Value) (A₀ : Around) (base h₀ : Heap) (m : Str → Option Value),
    Below A₀ base outer h₀ ∧ Fr h₀ L s.heap m ∧ (Mine.hd.heap_39 w.params).In h₀ ∧ Top p loose mean mg mb h₀ ∧ env.frame = some L ∧ env.scope.kind = .function ∧ ∀ d ∈ ds, d ≠ L ∧ h₀.get? d = none

/-- a contract -/
def Ctr (f : Addr) (k u : Nat) (ds : List Addr) (vs : List Value) (Pre : Heap → Prop) (Out : Heap → Value → Heap → Prop) : Prop :=
  ∀ (prog : Program) (w : World) (dp un : Nat) (gd : Option (List Code)) (env : Env) (outer : List Env) (L : Addr) (s : Shared) (Q E : Value → Shared → Prop),
    Site w env outer L ds s → dp + k < recursionLimit → un + u < cLine → Pre s.heap →
    (∀ r h' tk', Grown ds s.heap h' → Out s.heap r h' → Q r { s with heap := h', toks := tk' }) →
    wpAny (model prog w) (Ar dp un gd env outer) (call (.ref f) vs) Q E s

/-- the goal out of sight while a fact is taken apart -/
theorem hide {P : Prop} (h : ∀ G : Prop, (P → G) → G) : P := h P id

/-- the end of a turn -/
def EnumEnd (h₀ : Heap) (L : Addr) (s : Shared) (e it : Addr) (oe oi : Obj) (J : (Str → Option Value) → List (Addr × Obj) → Prop) (f : Flow) (s₂ : Shared) : Prop :=
  f = .next ∧ ∃ h' tk' m' nx', s₂ = { s with heap := h', toks := tk' } ∧ Fr h₀ L h' m' ∧ News h₀ L h' ((e, oe) :: (it, oi) :: nx') ∧ (∀ p ∈ nx', p.1 ≠ e ∧ p.1 ≠ it) ∧ J m' nx'
theorem EnumEnd.mk {h₀ : Heap} {L : Addr} {s : Shared} {e it : Addr} {oe oi : Obj} {J : (Str → Option Value) → List (Addr × Obj) → Prop} {h' : Heap} {tk' : Nat} {m' : Str → Option Value} {news nx' : List (Addr × Obj)}
    (F : Fr h₀ L h' m') (N : News h₀ L h' news) (hn : ∀ p ∈ (e, oe) :: (it, oi) :: nx', p ∈ news) (ho : ∀ p ∈ nx', p.1 ≠ e ∧ p.1 ≠ it) (hJ : J m' nx') : EnumEnd h₀ L s e it oe oi J .next { s with heap := h', toks := tk' } :=
  ⟨rfl, h', tk', m', nx', rfl, F, fun p hp => N p (hn p hp), ho, hJ⟩

section
variable {prog : Program} {w : World} {A : Around} {E : Value → Shared → Prop} {s : Shared} {env : Env} {h₀ : Heap} {L : Addr}

/-- a for over enumerate of a list of ints, nothing raised -/
theorem For_enumK {l : Addr} {vs : List Value} {n₀ : Nat} {ns : List Int} {xi xv : Str} {pi pv pt : Pos} {x1 : Nat} {body : List Stmt} {m₀ : Str → Option Value} {news : List (Addr × Obj)} {Q : Flow → Shared → Prop}
    (hL : env.locals = L) (hh : A.handled = none) (hxi : env.kindOf xi = some .local) (hxv : env.kindOf xv = some .local)
    (hp : (env.scope.kind == .class || (env.scope.kind == .module && env.locals != env.globals)) = false)
    (F : Fr h₀ L s.heap m₀) (N : News h₀ L s.heap news) (hl : s.heap.get? l = some (listOf vs.toArray n₀)) (hi : IntsAre vs ns)
    (J : Nat → (Str → Option Value) → List (Addr × Obj) → Prop) (hJ : J 0 m₀ news)
    (stay : ∀ i m nx h, J i m nx → Fr h₀ L h m → News h₀ L h nx → h.get? l = some (listOf vs.toArray n₀))
    (turn : ∀ i n t tk tk₁ m₁ nx h e it oe oi, ns[i]? = some n → J i m₁ nx → (∀ p ∈ news, p.1 < it) → it < e →
      Fr h₀ L h (fun y => if y = xv then some (.int n t) else if y = xi then some (.int i tk) else m₁ y) → News h₀ L h ((e, oe) :: (it, oi) :: nx) →
      wpAny (model prog w) A (execs body env) (EnumEnd h₀ L s e it oe oi (J (i + 1))) (fun _ _ => False) { s with heap := h, toks := tk₁ })
    (done : ∀ m nx h tk, J ns.length m nx → Fr h₀ L h m → News h₀ L h nx → Q .next { s with heap := h, toks := tk }) :
    wpAny (model prog w) A (call (.type "enumerate") [.ref l]) (fun xv' s₁ => wpAny (model prog w) A (pyIter xv') (fun it s₂ =>
      codeAny (model prog w) A (.forLoop (.Tuple [.Name xi pi, .Name xv pv] x1 pt) it body [] env) (fun r s' => match r with | .ok f => Q f s' | .error e => cameBackBy (model prog w) A env E e s') s₂) E s₁) E s := by
  subst hL
  refine call_enumerate_1 hl fun h₁ he hit hsz hk => ?_
  refine wpAny_pyIter_enum he ?_
  have hlt : l < s.heap.objs.size := Heap.lt_size hl
  have hLlt : env.locals < s.heap.objs.size := F.ns.lt
  have hb0 : h₀.objs.size ≤ s.heap.objs.size := Nat.le_trans F.above (Nat.le_of_lt F.ns.lt)
  obtain ⟨it, hit'⟩ : ∃ it, s.heap.objs.size = it := ⟨_, rfl⟩
  rw [hit'] at he hit hsz hlt hLlt hb0
  rw [hit']
  have off : ∀ p ∈ news, p.1 < it := fun p hp => by rw [← hit']; exact Heap.lt_size (N p hp).1
  have F1 : Fr h₀ env.locals h₁ m₀ := F.keeps fun b o x => hk b o x
  have N1 : News h₀ env.locals h₁ news := N.grown fun b o x => hk b o x
  have none_of : ∀ b, it ≤ b → h₀.get? b = none := fun b hb => Heap.get?_none_of_le (Nat.le_trans hb0 hb)
  have lt_of : ∀ b o, h₀.get? b = some o → b < it := fun b o e => Nat.lt_of_lt_of_le (Heap.lt_size e) hb0
  refine codeAny_forLoop_any (fun k s' => ∃ h' tk m' nx i old, s' = { s with heap := h', toks := tk } ∧ IsEnum h' (it + 1) it ((i : Nat) : Int) old ∧ h'.IsListIter it l i ∧
      Fr h₀ env.locals h' m' ∧ News h₀ env.locals h' nx ∧ (∀ p ∈ nx, p.1 ≠ it + 1 ∧ p.1 ≠ it) ∧ J i m' nx ∧ i ≤ ns.length ∧ k = ns.length + 1 - i) ?_ (ns.length + 1)
    ⟨h₁, s.toks, m₀, news, 0, .none, rfl, he, hit, F1, N1, (fun p hp => by have := off p hp; exact ⟨Nat.ne_of_lt (Nat.lt_succ_of_lt this), Nat.ne_of_lt this⟩), hJ, Nat.zero_le _, rfl⟩
  intro k s' hI
  refine hide fun G hG => ?_
  obtain ⟨H, tk, m', nx, i, old, rfl, he', hit₂, F', N', hoff, hJ', hile, rfl⟩ := hI
  refine hG ?_
  clear hG G
  have hlH := stay i m' nx H hJ' F' N'
  have hlist : H.IsList l vs.toArray := ⟨_, hlH, rfl, n₀, rfl⟩
  have hIH : it < H.objs.size := by obtain ⟨o, ho, _⟩ := id hit₂; exact Heap.lt_size ho
  have heH : it + 1 < H.objs.size := Heap.lt_size he'
  cases hv : ns[i]? with
  | none =>
    have hin : i = ns.length := Nat.le_antisymm hile (by simpa using hv)
    have hv' : vs.toArray[i]? = none := by simp [hin, hi.length]
    refine wpAny_pyNext_enum_end hh he' hit₂ hlist hv' fun h₃ he₃ => wpAny_execs_nil ?_
    subst hin
    refine done m' nx h₃ tk hJ' ⟨F'.ns.at' fun o x => he₃ _ o (Nat.ne_of_lt hLlt) x, fun b o e => he₃ b o (Nat.ne_of_lt (lt_of b o e)) (F'.keep b o e), F'.above⟩ fun p hp => ⟨he₃ _ _ (hoff p hp).2 (N' p hp).1, (N' p hp).2⟩
  | some n =>
    have hlt' : i < ns.length := (List.getElem?_eq_some_iff.mp hv).1
    obtain ⟨t, hx⟩ := hi.get i n hv
    have hx' : vs.toArray[i]? = some (.int n t) := by simpa using hx
    refine wpAny_pyNext_enum_item he' hit₂ hlist hx' (Nat.succ_ne_self it) fun h₂ heo hit₃ ht₂ hz₂ hk₂ => ?_
    refine wpAny_letOwnedTupleGo_enum heo fun h₃ he₃ hs₃ => ?_
    replace hs₃ : Heap.SameBut (it + 1) h₂ h₃ := hs₃
    have ht₃ : h₃.IsTuple H.objs.size #[.int i tk, .int n t] := ⟨_, (hs₃.2 _ (Nat.ne_of_gt heH)).trans ht₂, rfl, _, rfl⟩
    have hz₃ : h₃.objs.size = H.objs.size + 1 := hs₃.1.trans hz₂
    refine wpAny_assign_Tuple hh ht₃ rfl rfl fun h₄ hx₄ => ?_
    replace hx₄ : Heap.ExtBut h₃.objs.size h₃ h₄ := hx₄
    have old₄ : ∀ b o, b < H.objs.size → h₃.get? b = some o → h₄.get? b = some o := fun b o hb x => hx₄ b o (by rw [hz₃]; exact Nat.ne_of_lt (Nat.lt_succ_of_lt hb)) x
    have up : ∀ b o, b ≠ it + 1 → b ≠ it → H.get? b = some o → h₄.get? b = some o := fun b o h1 h2 x =>
      old₄ b o (Heap.lt_size x) ((hs₃.2 b h1).trans (hk₂ b o h1 h2 x))
    have F₄ : Fr h₀ env.locals h₄ m' := ⟨F'.ns.at' fun o x => up _ o (Nat.ne_of_lt (Nat.lt_succ_of_lt hLlt)) (Nat.ne_of_lt hLlt) x, fun b o e => up b o (Nat.ne_of_lt (Nat.lt_succ_of_lt (lt_of b o e))) (Nat.ne_of_lt (lt_of b o e)) (F'.keep b o e), F'.above⟩
    have N₄ : News h₀ env.locals h₄ nx := fun p hp => ⟨up _ _ (hoff p hp).1 (hoff p hp).2 (N' p hp).1, (N' p hp).2⟩
    have he₄ : IsEnum h₄ (it + 1) it ((i : Int) + 1) (.int n t) := old₄ _ _ heH he₃
    have hit₄ : h₄.IsListIter it l (i + 1) := (hit₃.at fun o x => (hs₃.2 it (Nat.ne_of_lt (Nat.lt_succ_self it))).trans x).at fun o x => old₄ it o hIH x
    obtain ⟨oi, hoi, hoi'⟩ := id hit₄
    show wpAny _ A (do holding [.int n t] (assign (.Name xi pi) env (.int i tk)); do holding [] (assign (.Name xv pv) env (.int n t)); pure ()) _ _ _
    have nEI : News h₀ env.locals h₄ ((it + 1, _) :: (it, oi) :: nx) := fun p hp => by
      rcases List.mem_cons.mp hp with rfl | hp
      · exact ⟨he₄, Nat.ne_of_gt (Nat.lt_succ_of_lt hLlt), none_of _ (Nat.le_succ it)⟩
      · rcases List.mem_cons.mp hp with rfl | hp
        · exact ⟨hoi, Nat.ne_of_gt hLlt, none_of _ (Nat.le_refl it)⟩
        · exact N₄ p hp
    refine wpAny_bind (wpAny_holding (wpAny_assign_Name (wpAny_storeName_local hxi F₄.ns (fun h₅ hn₅ hs₅ => ?_) hp)))
    have F₅ := F₄.set hn₅ hs₅
    have N₅ := nEI.set hs₅
    refine wpAny_bind (wpAny_holding (wpAny_assign_Name (wpAny_storeName_local hxv F₅.ns (fun h₆ hn₆ hs₆ => wpAny_pure ?_) hp)))
    have F₆ := F₅.set hn₆ hs₆
    have N₆ := N₅.set hs₆
    refine wpAny_mono (turn i n t tk _ m' nx h₆ (it + 1) it _ oi hv hJ' off (Nat.lt_succ_self it) F₆ N₆) (fun f s₃ h₇ => ?_) fun _ _ x => x.elim
    refine hide fun G hG => ?_
    obtain ⟨rfl, h', tk', m₂, nx', rfl, F₇, N₇, ho₇, hJ₇⟩ := h₇
    refine hG ?_
    clear hG G
    refine ⟨ns.length + 1 - (i + 1), by omega, h', tk', m₂, nx', i + 1, .int n t, rfl, ?_, ⟨oi, (N₇ _ (.tail _ (.head _))).1, hoi'⟩, F₇, fun p hp => N₇ p (.tail _ (.tail _ hp)), ho₇, hJ₇, hlt', rfl⟩
    have := (N₇ _ (.head _)).1
    exact this
end
end Mine
end

section
open PySem PySem.W PySem.Spec PyProof.Rows PyProof.V PySem.Calls
set_option maxRecDepth 100000
set_option maxHeartbeats 8000000
namespace Mine
def Halt (P : Prop) : Prop := P
theorem halt {P : Prop} (h : Halt P) : P := h
theorem Halt.out {P : Prop} (h : P) : Halt P := h
theorem kst_self {m : Str → Option Value} {ps : List (Str × Value)} (h : ∀ p ∈ ps, m p.1 = some p.2) : kstB m ps = m := funext fun _ => kstB_eq h fun _ => rfl
theorem Fr.kst {h₀ h : Heap} {L : Addr} {m : Str → Option Value} {ps : List (Str × Value)} (F : Fr h₀ L h m) (hp : ∀ p ∈ ps, m p.1 = some p.2) : Fr h₀ L h (kstB m ps) := by rw [kst_self hp]; exact F
theorem Fr.kst2 {h₀ h : Heap} {L : Addr} {m : Str → Option Value} {x y : Str} {v u : Value} {ps : List (Str × Value)} (F : Fr h₀ L h (fun z => if z = x then some v else if z = y then some u else m z)) (hp : ∀ p ∈ ps, m p.1 = some p.2) :
    Fr h₀ L h (fun z => if z = x then some v else if z = y then some u else kstB m ps z) := by rw [kst_self hp]; exact F

/-- the table of distances of prefixes -/
def D (a b : List Int) : Nat → Nat → Int
  | 0, j => (j : Int)
  | i + 1, 0 => ((i + 1 : Nat) : Int)
  | i + 1, j + 1 => min (min (D a b i j + (if a.getD i 0 = b.getD j 0 then 0 else 1)) (D a b i (j + 1) + 1)) (D a b (i + 1) j + 1)
termination_by i j => (i, j)
def rowD (a b : List Int) (i n : Nat) : List Int := (List.range n).map (D a b i)
theorem rowD_zero (a b : List Int) (n : Nat) : rangeKs 0 n = rowD a b 0 n := by
  unfold rangeKs rowD
  apply List.map_congr_left
  intro j _
  simp [D]
theorem row_start (a b : List Int) {i : Nat} {t : Tok} : IntsAre [.int ((i : Int) + 1) t] (rowD a b (i + 1) (0 + 1)) := by
  have e : rowD a b (i + 1) (0 + 1) = [(i : Int) + 1] := by
    unfold rowD
    simp [D]
  rw [e]
  exact .cons _ _ .nil
theorem rowD_len (a b : List Int) (i n : Nat) : (rowD a b i n).length = n := by simp [rowD]
theorem rowD_getD (a b : List Int) {i n j : Nat} (h : j < n) : (rowD a b i n).getD j 0 = D a b i j := by
  unfold rowD
  rw [List.getD_eq_getElem?_getD, List.getElem?_map, List.getElem?_range h]
  rfl
theorem item_row {prog : Program} {w : World} {A : Around} {E : Value → Shared → Prop} {s : Shared} {value slice : PySem.Expr} {l : Addr} {vs : List Value} {a b : List Int} {i n j : Nat} {k : Int} {u : Tok} {Q : Value → Shared → Prop} (hl : s.heap.IsList l vs.toArray) (hi : IntsAre vs (rowD a b i n))
    (hk : k = (j : Int)) (hj : j < n) (hn : n ≤ 2000) (h : ∀ t, Q (.int (D a b i j) t) s)
    (hs : subscripted slice false (.ref l) (.int k u) = operate [.ref l, .int k u] (getItem (.ref l) (.int k u)) := by with_unfolding_all rfl) :
    wpAny (model prog w) A (subscriptTail value slice (.ref l) (.int k u)) Q E s := by
  refine item_anyK hl hi (by omega) (by rw [rowD_len]; omega) (by omega) (fun t => ?_) hs
  rw [hk, Int.toNat_natCast, rowD_getD a b hj]
  exact h t
theorem min3_N {prog : Program} {w : World} {A : Around} {E : Value → Shared → Prop} {s : Shared} {h₀ : Heap} {L : Addr} {m : Str → Option Value} {news : List (Addr × Obj)} {a b c : Int} {t u x : Tok} {Q : Value → Shared → Prop}
    (hh : A.handled = none) (F : Fr h₀ L s.heap m) (N : News h₀ L s.heap news)
    (h : ∀ t' h' tk', Fr h₀ L h' m → News h₀ L h' news → Q (.int (min (min a b) c) t') { s with heap := h', toks := tk' }) :
    wpAny (model prog w) A (call (.builtin "min") [.int a t, .int b u, .int c x]) Q E s :=
  min_three_ints hh fun h' tk hk => by
    have F' := F.grownK hk
    have N' := N.grown hk
    by_cases h1 : b < a <;> simp only [h1, if_true, if_false]
    · by_cases h2 : c < b <;> simp only [h2, if_true, if_false]
      · have e : min (min a b) c = c := by omega
        rw [← e]; exact h _ _ _ F' N'
      · have e : min (min a b) c = b := by omega
        rw [← e]; exact h _ _ _ F' N'
    · by_cases h2 : c < a <;> simp only [h2, if_true, if_false]
      · have e : min (min a b) c = c := by omega
        rw [← e]; exact h _ _ _ F' N'
      · have e : min (min a b) c = a := by omega
        rw [← e]; exact h _ _ _ F' N'
theorem row_size {us : List Value} {a b : List Int} {i n : Nat} (h : IntsAre us (rowD a b i n)) (hn : n ≤ 2000) : us.toArray.size ≤ sizeLine := by
  have := h.length
  rw [rowD_len] at this
  rw [List.size_toArray, sizeLine_eq]
  omega
theorem IntsAre.snoc : ∀ {us : List Value} {ns : List Int} (_ : IntsAre us ns) (k : Int) (t : Tok), IntsAre (us ++ [.int k t]) (ns ++ [k])
  | _, _, .nil, k, t => .cons k t .nil
  | _, _, .cons k' t' r, k, t => .cons k' t' (IntsAre.snoc r k t)
theorem rowD_succ (a b : List Int) (i n : Nat) : rowD a b i (n + 1) = rowD a b i n ++ [D a b i n] := by
  simp [rowD, List.range_succ]
theorem row_snoc {us : List Value} {a b : List Int} {i j : Nat} {x y : Int} {t : Tok} (h : IntsAre us (rowD a b (i + 1) (j + 1))) (hx : a[i]? = some x) (hy : b[j]? = some y) :
    IntsAre (us ++ [.int (min (min (D a b i j + (if (x != y) = true then 1 else 0)) (D a b i (j + 1) + 1)) (D a b (i + 1) j + 1)) t]) (rowD a b (i + 1) (j + 1 + 1)) := by
  rw [rowD_succ a b (i + 1) (j + 1)]
  have e : D a b (i + 1) (j + 1) = min (min (D a b i j + (if (x != y) = true then 1 else 0)) (D a b i (j + 1) + 1)) (D a b (i + 1) j + 1) := by
    have h1 : a.getD i 0 = x := by simp [hx]
    have h2 : b.getD j 0 = y := by simp [hy]
    rw [D, h1, h2]
    by_cases h : x = y <;> simp [h]
  rw [e]
  exact IntsAre.snoc h _ _
theorem item_last {prog : Program} {w : World} {A : Around} {E : Value → Shared → Prop} {s : Shared} {value slice : PySem.Expr} {l : Addr} {vs : List Value} {a b : List Int} {i n : Nat} {u : Tok} {Q : Value → Shared → Prop} (hl : s.heap.IsList l vs.toArray) (hi : IntsAre vs (rowD a b i (n + 1)))
    (h : ∀ t, Q (.int (D a b i n) t) s)
    (hs : subscripted slice false (.ref l) (.int (-1) u) = operate [.ref l, .int (-1) u] (getItem (.ref l) (.int (-1) u)) := by with_unfolding_all rfl) :
    wpAny (model prog w) A (subscriptTail value slice (.ref l) (.int (-1) u)) Q E s := by
  have hlen := hi.length
  rw [rowD_len] at hlen
  obtain ⟨t, hx⟩ := hi.get n (D a b i n) (by rw [rowD_succ, List.getElem?_append_right (by simp [rowD_len])]; simp [rowD_len])
  refine tail_any hl.typeIs slot_list_getitem.lookup (wpAny_getItem_list_neg (x := .int (D a b i n) t) hl (by decide) (by rw [List.size_toArray, hlen]; omega) (by decide) ?_ (h t)) hs
  have e : ((-1 : Int) + (vs.toArray.size : Int)).toNat = n := by rw [List.size_toArray, hlen]; omega
  rw [e]
  simpa using hx
theorem off_cons {e it : Addr} {p : Addr × Obj} {r : List (Addr × Obj)} (h1 : (p.1 : Nat) ≠ e) (h2 : (p.1 : Nat) ≠ it) (hr : ∀ q ∈ r, q.1 ≠ e ∧ q.1 ≠ it) : ∀ q ∈ p :: r, q.1 ≠ e ∧ q.1 ≠ it := List.forall_mem_cons.mpr ⟨⟨h1, h2⟩, hr⟩
theorem off_nil {e it : Addr} : ∀ q ∈ ([] : List (Addr × Obj)), q.1 ≠ e ∧ q.1 ≠ it := fun _ h => nomatch h
theorem no_raise {a b : List Int} (h : (4194304 : Int) < (a.length : Int) * (b.length : Int)) (ha : a.length ≤ 1000) (hb : b.length ≤ 1000) : False := by
  have h1 := Nat.mul_le_mul ha hb
  rw [← Int.natCast_mul] at h
  omega
def lev (a b : List Int) : Int := D a b a.length b.length

/-- a contract used at a call -/
theorem Ctr.use {f : Addr} {k u : Nat} {vs : List Value} {Pre : Heap → Prop} {Out : Heap → Value → Heap → Prop} (C : Ctr f k u [] vs Pre Out)
    {prog : Program} {w : World} {dp un : Nat} {gd : Option (List Code)} {env : Env} {outer : List Env} {A₀ : Around} {base h₀ : Heap} {L : Addr} {m : Str → Option Value} {news : List (Addr × Obj)}
    {p : Program} {loose : List Str} {mean : ExcName → Option Value} {mg mb : Str → Option Value} {s : Shared} {Q E : Value → Shared → Prop}
    (B : Below A₀ base outer h₀) (F : Fr h₀ L s.heap m) (X : (Mine.hd.heap_39 w.params).In h₀) (N : News h₀ L s.heap news) (T : Top p loose mean mg mb h₀)
    (hf : env.frame = some L) (hk : env.scope.kind = .function) (hd : dp + k < recursionLimit) (hu : un + u < cLine) (hp : Pre s.heap)
    (ret : ∀ r h' tk', Fr h₀ L h' m → News h₀ L h' news → Grown [] s.heap h' → Out s.heap r h' → Q r { s with heap := h', toks := tk' }) :
    wpAny (model prog w) (Ar dp un gd env outer) (call (.ref f) vs) Q E s :=
  C prog w dp un gd env outer L s Q E ⟨p, loose, mean, mg, mb, A₀, base, h₀, m, B, F, X, T, hf, hk, fun _ h => nomatch h⟩ hd hu hp
    fun r h' tk' g o => ret r h' tk' (F.keeps fun b x e => g b x (fun h => nomatch h) e) (N.grown fun b x e => g b x (fun h => nomatch h) e) g o

/-- a contract used at a call -/
theorem Ctr.useV {f : Addr} {k u : Nat} {vs : List Value} {Pre : Heap → Prop} {v : Value} (C : Ctr f k u [] vs Pre (fun _ r _ => r = v))
    {prog : Program} {w : World} {dp un : Nat} {gd : Option (List Code)} {env : Env} {outer : List Env} {A₀ : Around} {base h₀ : Heap} {L : Addr} {m : Str → Option Value} {news : List (Addr × Obj)}
    {p : Program} {loose : List Str} {mean : ExcName → Option Value} {mg mb : Str → Option Value} {s : Shared} {Q E : Value → Shared → Prop}
    (B : Below A₀ base outer h₀) (F : Fr h₀ L s.heap m) (X : (Mine.hd.heap_39 w.params).In h₀) (N : News h₀ L s.heap news) (T : Top p loose mean mg mb h₀)
    (hf : env.frame = some L) (hk : env.scope.kind = .function) (hd : dp + k < recursionLimit) (hu : un + u < cLine) (hp : Pre s.heap)
    (ret : ∀ h' tk', Fr h₀ L h' m → News h₀ L h' news → Q v { s with heap := h', toks := tk' }) :
    wpAny (model prog w) (Ar dp un gd env outer) (call (.ref f) vs) Q E s :=
  C.use B F X N T hf hk hd hu hp fun r h' tk' F' N' _ o => by subst o; exact ret h' tk' F' N'
/-- a contract used at a call -/
theorem Ctr.useI {f : Addr} {k u : Nat} {vs : List Value} {Pre : Heap → Prop} {x : Int} (C : Ctr f k u [] vs Pre (fun _ r _ => ∃ t, r = .int x t))
    {prog : Program} {w : World} {dp un : Nat} {gd : Option (List Code)} {env : Env} {outer : List Env} {A₀ : Around} {base h₀ : Heap} {L : Addr} {m : Str → Option Value} {news : List (Addr × Obj)}
    {p : Program} {loose : List Str} {mean : ExcName → Option Value} {mg mb : Str → Option Value} {s : Shared} {Q E : Value → Shared → Prop}
    (B : Below A₀ base outer h₀) (F : Fr h₀ L s.heap m) (X : (Mine.hd.heap_39 w.params).In h₀) (N : News h₀ L s.heap news) (T : Top p loose mean mg mb h₀)
    (hf : env.frame = some L) (hk : env.scope.kind = .function) (hd : dp + k < recursionLimit) (hu : un + u < cLine) (hp : Pre s.heap)
    (ret : ∀ t h' tk', Fr h₀ L h' m → News h₀ L h' news → Q (.int x t) { s with heap := h', toks := tk' }) :
    wpAny (model prog w) (Ar dp un gd env outer) (call (.ref f) vs) Q E s :=
  C.use B F X N T hf hk hd hu hp fun r h' tk' F' N' _ o => by obtain ⟨t, rfl⟩ := o; exact ret t h' tk' F' N'
theorem news_add {h₀ h h' : Heap} {L a : Addr} {o : Obj} {m : Str → Option Value} {news : List (Addr × Obj)} (F : Fr h₀ L h m) (N : News h₀ L h' news) (hn : h.get? a = none) (ho : h'.get? a = some o) : News h₀ L h' ((a, o) :: news) := fun p hp => by
  rcases List.mem_cons.mp hp with rfl | hp
  · refine ⟨ho, fun e => ?_, ?_⟩
    · obtain ⟨oL, _, _, hL, _⟩ := F.ns
      have e' : a = L := e
      rw [← e', hn] at hL
      cases hL
    · cases q : h₀.get? a with
      | none => rfl
      | some o' => have := F.keep _ _ q; rw [hn] at this; cases this
  · exact N p hp
theorem fresh_of {g h : Heap} {h' : Heap} {L : Addr} {news : List (Addr × Obj)} {p : Addr × Obj} (hG : ∀ b o, h.get? b = some o → g.get? b = some o) (N : News g L h' news) (hp : p ∈ news) : h.get? p.1 = none := by
  cases q : h.get? p.1 with
  | none => rfl
  | some o => have := hG _ _ q; rw [(N p hp).2.2] at this; cases this
def isFig (c : Int) : Bool := decide (48 ≤ c) && decide (c ≤ 57)
/-- the number ahead and what is behind it -/
def numGo : Int → List Int → Int × List Int
  | f, [] => (f, [])
  | f, c :: r => if isFig c = true then numGo (10 * f + c - 48) r else (f, c :: r)
theorem drop_at {ns : List Int} {j : Nat} (hj : j < ns.length) : ns.drop j = ns.getD j 0 :: ns.drop (j + 1) := by
  rw [List.drop_eq_getElem_cons hj, List.getD_eq_getElem?_getD, List.getElem?_eq_getElem hj]
  rfl
theorem numGo_step {ns : List Int} {f : Int} {j : Nat} (hj : j < ns.length) (h : isFig (ns.getD j 0) = true) : numGo f (ns.drop j) = numGo (10 * f + ns.getD j 0 - 48) (ns.drop (j + 1)) := by
  rw [drop_at hj, numGo, if_pos h]
theorem numGo_stop {ns : List Int} {f : Int} {j : Nat} (hj : j < ns.length) (h : isFig (ns.getD j 0) = false) : numGo f (ns.drop j) = (f, ns.drop j) := by
  rw [drop_at hj, numGo, if_neg (by rw [h]; decide)]
theorem numGo_end {ns : List Int} {f : Int} {j : Nat} (hj : ¬ j < ns.length) : numGo f (ns.drop j) = (f, []) := by
  rw [List.drop_of_length_le (by omega), numGo]
theorem numGo_len : ∀ (f : Int) (r : List Int), (numGo f r).2.length ≤ r.length
  | _, [] => by simp [numGo]
  | f, c :: r => by
    rw [numGo]
    split
    · have := numGo_len (10 * f + c - 48) r
      simp only [List.length_cons]; omega
    · exact Nat.le_refl _
theorem numGo_lt {f : Int} {c : Int} {r : List Int} (h : isFig c = true) : (numGo f (c :: r)).2.length < (c :: r).length := by
  rw [numGo, if_pos h]
  have := numGo_len (10 * f + c - 48) r
  simp only [List.length_cons]; omega
/-- the order of names with figures in them -/
def vless : List Int → List Int → Bool
  | [], b => decide (0 < b.length)
  | _ :: _, [] => false
  | x :: a, y :: b =>
    if h : isFig x = true ∧ isFig y = true then
      (if (numGo 0 (x :: a)).1 = (numGo 0 (y :: b)).1 then vless (numGo 0 (x :: a)).2 (numGo 0 (y :: b)).2 else decide ((numGo 0 (x :: a)).1 < (numGo 0 (y :: b)).1))
    else if x = y then vless a b else decide (x < y)
termination_by a => a.length
decreasing_by
  · exact numGo_lt h.1
  · simp
theorem LAt.of {g h : Heap} {L l : Addr} {m : Str → Option Value} {vs : List Value} {n : Nat} {ns : List Int} (F : Fr g L h m) (hl : g.get? l = some (listOf vs.toArray n)) (hi : IntsAre vs ns) : LAt h l ns := ⟨vs, n, F.keep _ _ hl, hi⟩
theorem Ctr.useT {f : Addr} {k u : Nat} {vs : List Value} {Pre : Heap → Prop} {x y : Int} (C : Ctr f k u [] vs Pre (fun h r h' => ∃ a t1 t2 n, r = .ref a ∧ h.get? a = none ∧ h'.get? a = some { cls := .type "tuple", data := .seq #[.int x t1, .int y t2] n }))
    {prog : Program} {w : World} {dp un : Nat} {gd : Option (List Code)} {env : Env} {outer : List Env} {A₀ : Around} {base h₀ : Heap} {L : Addr} {m : Str → Option Value} {news : List (Addr × Obj)}
    {p : Program} {loose : List Str} {mean : ExcName → Option Value} {mg mb : Str → Option Value} {s : Shared} {Q E : Value → Shared → Prop}
    (B : Below A₀ base outer h₀) (F : Fr h₀ L s.heap m) (X : (Mine.hd.heap_39 w.params).In h₀) (N : News h₀ L s.heap news) (T : Top p loose mean mg mb h₀)
    (hf : env.frame = some L) (hk : env.scope.kind = .function) (hd : dp + k < recursionLimit) (hu : un + u < cLine) (hp : Pre s.heap)
    (ret : ∀ a t1 t2 n h' tk', Fr h₀ L h' m → News h₀ L h' ((a, { cls := .type "tuple", data := .seq #[.int x t1, .int y t2] n }) :: news) → Q (.ref a) { s with heap := h', toks := tk' }) :
    wpAny (model prog w) (Ar dp un gd env outer) (call (.ref f) vs) Q E s :=
  C.use B F X N T hf hk hd hu hp fun r h' tk' F' N' _ o => by
    obtain ⟨a, t1, t2, n, rfl, hn, ho⟩ := o
    exact ret a t1 t2 n h' tk' F' (news_add F N' hn ho)
theorem int_at {o : Option Value} {x y : Int} {t : Tok} (h : o = some (.int x t)) (e : x = y) : ∃ t, o = some (.int y t) := ⟨t, e ▸ h⟩
theorem numGo_drop : ∀ (f : Int) (r : List Int), (numGo f r).2 = r.drop (r.length - (numGo f r).2.length)
  | _, [] => by simp [numGo]
  | f, c :: r => by
    by_cases h : isFig c = true
    · have ih := numGo_drop (10 * f + c - 48) r
      have hl := numGo_len (10 * f + c - 48) r
      rw [numGo, if_pos h]
      rw [show (c :: r).length - (numGo (10 * f + c - 48) r).2.length = (r.length - (numGo (10 * f + c - 48) r).2.length) + 1 by simp only [List.length_cons]; omega, List.drop_succ_cons]
      exact ih
    · rw [numGo, if_neg h]
      simp
theorem numGo_drop' {ns : List Int} {i : Nat} (hi : i ≤ ns.length) : (numGo 0 (ns.drop i)).2 = ns.drop (ns.length - (numGo 0 (ns.drop i)).2.length) := by
  have h1 := numGo_drop 0 (ns.drop i)
  have h2 := numGo_len 0 (ns.drop i)
  rw [List.drop_drop, List.length_drop] at h1
  rw [List.length_drop] at h2
  rw [show i + (ns.length - i - (numGo 0 (ns.drop i)).2.length) = ns.length - (numGo 0 (ns.drop i)).2.length by omega] at h1
  exact h1
section
variable {a b : List Int} {i j : Nat}
theorem vl_fig (hi : i < a.length) (hj : j < b.length) (h1 : isFig (a.getD i 0) = true) (h2 : isFig (b.getD j 0) = true) :
    vless (a.drop i) (b.drop j) = if (numGo 0 (a.drop i)).1 = (numGo 0 (b.drop j)).1 then vless (numGo 0 (a.drop i)).2 (numGo 0 (b.drop j)).2 else decide ((numGo 0 (a.drop i)).1 < (numGo 0 (b.drop j)).1) := by
  rw [drop_at hi, drop_at hj, vless, dif_pos ⟨h1, h2⟩]
theorem vl_not (hi : i < a.length) (hj : j < b.length) (h : ¬ (isFig (a.getD i 0) = true ∧ isFig (b.getD j 0) = true)) :
    vless (a.drop i) (b.drop j) = if a.getD i 0 = b.getD j 0 then vless (a.drop (i + 1)) (b.drop (j + 1)) else decide (a.getD i 0 < b.getD j 0) := by
  rw [drop_at hi, drop_at hj, vless, dif_neg h]
theorem vl_r1 (hgo : vless a b = vless (a.drop i) (b.drop j)) (hi : (i : Int) < a.length) (hj : (j : Int) < b.length) (h1 : isFig (a.getD (i : Int).toNat 0) = true) (h2 : isFig (b.getD (j : Int).toNat 0) = true)
    (h : (numGo 0 (a.drop i)).1 ≠ (numGo 0 (b.drop j)).1) : decide ((numGo 0 (a.drop i)).1 < (numGo 0 (b.drop j)).1) = vless a b := by
  rw [Int.toNat_natCast] at h1 h2
  rw [hgo, vl_fig (by omega) (by omega) h1 h2, if_neg h]
theorem vl_r2 (hgo : vless a b = vless (a.drop i) (b.drop j)) (hi : (i : Int) < a.length) (hj : (j : Int) < b.length) (h : a.getD (i : Int).toNat 0 ≠ b.getD (j : Int).toNat 0) (h1 : isFig (b.getD (j : Int).toNat 0) = false) :
    decide (a.getD (i : Int).toNat 0 < b.getD (j : Int).toNat 0) = vless a b := by
  rw [Int.toNat_natCast, Int.toNat_natCast] at *
  rw [hgo, vl_not (by omega) (by omega) (by rw [h1]; simp), if_neg h]
theorem vl_r3 (hgo : vless a b = vless (a.drop i) (b.drop j)) (hi : (i : Int) < a.length) (hj : (j : Int) < b.length) (h : a.getD (i : Int).toNat 0 ≠ b.getD (j : Int).toNat 0) (h1 : isFig (a.getD (i : Int).toNat 0) = false) :
    decide (a.getD (i : Int).toNat 0 < b.getD (j : Int).toNat 0) = vless a b := by
  rw [Int.toNat_natCast, Int.toNat_natCast] at *
  rw [hgo, vl_not (by omega) (by omega) (by rw [h1]; simp), if_neg h]
theorem vl_r4 (hgo : vless a b = vless (a.drop i) (b.drop j)) (hi : (i : Int) < a.length) (hj : ¬ (j : Int) < b.length) : decide ((j : Int) < b.length) = vless a b := by
  rw [hgo, List.drop_of_length_le (l := b) (by omega), drop_at (by omega), vless, decide_eq_false hj]
theorem vl_r5 (hgo : vless a b = vless (a.drop i) (b.drop j)) (hi : ¬ (i : Int) < a.length) : decide ((j : Int) < b.length) = vless a b := by
  rw [hgo, List.drop_of_length_le (l := a) (by omega), vless, List.length_drop]
  congr 1
  apply propext
  omega
theorem vl_t1 (hgo : vless a b = vless (a.drop i) (b.drop j)) (hi : (i : Int) < a.length) (hj : (j : Int) < b.length) (h1 : isFig (a.getD (i : Int).toNat 0) = true) (h2 : isFig (b.getD (j : Int).toNat 0) = true)
    (h : (numGo 0 (a.drop i)).1 = (numGo 0 (b.drop j)).1) : vless a b = vless (a.drop (a.length - (numGo 0 (a.drop i)).2.length)) (b.drop (b.length - (numGo 0 (b.drop j)).2.length)) := by
  rw [Int.toNat_natCast] at h1 h2
  rw [hgo, vl_fig (by omega) (by omega) h1 h2, if_pos h, ← numGo_drop' (by omega), ← numGo_drop' (by omega)]
theorem vl_t2 (hgo : vless a b = vless (a.drop i) (b.drop j)) (hi : (i : Int) < a.length) (hj : (j : Int) < b.length) (h : a.getD (i : Int).toNat 0 = b.getD (j : Int).toNat 0) (h1 : isFig (b.getD (j : Int).toNat 0) = false) :
    vless a b = vless (a.drop (i + 1)) (b.drop (j + 1)) := by
  rw [Int.toNat_natCast, Int.toNat_natCast] at *
  rw [hgo, vl_not (by omega) (by omega) (by rw [h1]; simp), if_pos h]
theorem vl_t3 (hgo : vless a b = vless (a.drop i) (b.drop j)) (hi : (i : Int) < a.length) (hj : (j : Int) < b.length) (h : a.getD (i : Int).toNat 0 = b.getD (j : Int).toNat 0) (h1 : isFig (a.getD (i : Int).toNat 0) = false) :
    vless a b = vless (a.drop (i + 1)) (b.drop (j + 1)) := by
  rw [Int.toNat_natCast, Int.toNat_natCast] at *
  rw [hgo, vl_not (by omega) (by omega) (by rw [h1]; simp), if_pos h]
theorem vl_n1 (hi : (i : Int) < a.length) (h1 : isFig (a.getD (i : Int).toNat 0) = true) : a.length - (a.length - (numGo 0 (a.drop i)).2.length) < a.length - i := by
  rw [Int.toNat_natCast] at h1
  have hi' : i < a.length := by omega
  have h2 := numGo_lt (f := 0) (r := a.drop (i + 1)) h1
  rw [← drop_at hi', List.length_drop] at h2
  omega
theorem vl_i1 {x : List Int} (h : x.length ≤ a.length) : (a.length : Int) - (x.length : Int) = ((a.length - x.length : Nat) : Int) := by omega
theorem vl_i2 : (numGo 0 (a.drop i)).2.length ≤ a.length := Nat.le_trans (numGo_len _ _) (by rw [List.length_drop]; omega)
theorem bool_eq {x y : Bool} (h : x = y) : Value.bool x = .bool y := congrArg _ h
end

/-- what a deck's cell is -/
def Cell (x : Int) : Prop := 0 ≤ x ∧ x < 10 ^ 30
/-- a deck stands at d -/
def DeckAt (h : Heap) (d : Addr) : Prop := ∃ vs n ns, h.get? d = some (listOf (List.toArray vs) n) ∧ IntsAre vs ns ∧ ns.length ≤ 16 ∧ ∀ x ∈ ns, Cell x

theorem pop0 {prog : Program} {w : World} {A : Around} {E : Value → Shared → Prop} {s : Shared} {h₀ : Heap} {L D : Addr} {m : Str → Option Value} {news news' : List (Addr × Obj)} {x : Value} {r : List Value} {n : Nat} {u : Tok} {Q : Value → Shared → Prop}
    (F : Fr h₀ L s.heap m) (N : News h₀ L s.heap news) (U : Upd D (listOf (List.toArray (x :: r)) n) (listOf (List.toArray r) (n + 1)) news news') (hz : r.length ≤ 1000)
    (h : ∀ h', Fr h₀ L h' m → News h₀ L h' news' → Q x { s with heap := h' }) : wpAny (model prog w) A (call (.builtin "list.pop") [.ref D, .int 0 u]) Q E s := by
  refine kl_popAt (k := 0) (p := []) (q := r) F N (by decide) ?_ rfl U ?_ h
  · exact PySem.seqIndex_of (k := 0) (n := (List.toArray (x :: r)).size) (by decide) (by simp)
  · simp only [List.length_cons, sizeLine_eq]
    omega
theorem cell_div {x k : Int} (h : Cell x) (hk : 0 < k) : Cell (Int.fdiv x k) := by
  obtain ⟨h0, h1⟩ := h
  refine ⟨Int.fdiv_nonneg h0 (Int.le_of_lt hk), Int.lt_of_le_of_lt ?_ h1⟩
  rw [Int.fdiv_eq_ediv_of_nonneg _ (Int.le_of_lt hk)]
  exact Int.ediv_le_self _ h0
end Mine
end

section
open PySem PySem.W PySem.Spec PyProof.Rows PyProof.V PySem.Calls
set_option maxRecDepth 100000
set_option maxHeartbeats 8000000
theorem Mine.offC1 : True := by
  w_top off
  trivial
namespace Mine
local macro_rules | `(tactic| walk_at "exec For Tuple Call cons nil") => `(tactic| (k_here; refine wpAny_For ?_ (by intro _; rfl)))
local macro_rules | `(tactic| walk_at "call type:enumerate") => `(tactic| (k_here; refine halt ?_))

local macro_rules | `(tactic| walk_at "exec Raise some none") => `(tactic| (k_here; exfalso; exact no_raise (by assumption) (by assumption) (by assumption)))

local macro_rules | `(tactic| walk_at "subscriptTail Name Name ref int") => `(tactic| (k_here; (with_unfolding_all refine' item_row ?k1 ?k2 ?k3 ?k4 ?k5 ?_ ?k6; (case k1 => exact News.isList (by assumption) (by k_mem)); (case k2 => assumption); (case k3 => rfl); (case k4 | k5 => omega); (case k6 => with_unfolding_all rfl)); intro _))
local macro_rules | `(tactic| walk_at "subscriptTail Name BinOp ref int") => `(tactic| (k_here; (with_unfolding_all refine' item_row ?k1 ?k2 ?k3 ?k4 ?k5 ?_ ?k6; (case k1 => exact News.isList (by assumption) (by k_mem)); (case k2 => assumption); (case k3 => exact (Int.natCast_succ _).symm); (case k4 | k5 => omega); (case k6 => with_unfolding_all rfl)); intro _))

local macro_rules | `(tactic| walk_at "call builtin:min cons nil") => `(tactic| (k_here; (with_unfolding_all refine' min3_N ?k0 ?k1 ?k2 ?_; (case k0 => rfl); (case k1 => k_asm); (case k2 => k_asm)); intro t' h' tk' F' N'; (try k_sweep)))

local macro_rules | `(tactic| walk_at "call builtin:list.append cons nil") => `(tactic| (k_here; k_dflt (refine' append_K ?k1 ?k2 ?k3 ?_ ?z; (case k1 => k_asm); (case k2 => k_asm); (case k3 => k_upd); (case z => exact row_size (by assumption) (by omega)); k_whole); intro h' F' N'; (try simp only [List.push_toArray] at N'); (try k_sweep)))

local macro_rules | `(tactic| walk_at "subscriptTail Name UnaryOp ref int") => `(tactic| (k_here; (with_unfolding_all refine' item_last ?k1 ?k2 ?_ ?k6; (case k1 => exact News.isList (by assumption) (by k_mem)); (case k2 => assumption); (case k6 => with_unfolding_all rfl)); intro _))

theorem edits_ctr {l1 l2 : Addr} {ns1 ns2 : List Int} (hz1 : ns1.length ≤ 1000) (hz2 : ns2.length ≤ 1000) :
    Ctr 111 3 16 [] [.ref l1, .ref l2] (fun h => LAt h l1 ns1 ∧ LAt h l2 ns2) (fun _ r _ => ∃ t, r = .int (lev ns1 ns2) t) := by
  intro prog w dp un gd env outer L s Q E S hd hu hpre hret
  obtain ⟨p, loose, mean, mg, mb, A₀, base, h₀, m, B, F, X, T, hf, hke, -⟩ := S
  have N : News h₀ L s.heap [] := News.nil
  obtain ⟨⟨vs1, k1, hl1, hi1⟩, ⟨vs2, k2, hl2, hi2⟩⟩ := hpre
  refine wpAny_call ?_
  k_dflt (refine' code_defG ?k1 ?k2 ?k3 ?k4 ?k5 ?kA ?kF ?kK ?k6 ?k7 ?k8 ?k9 ?kB ?_ ?c2 ?c3 ?c4 ?c5; (case kA => exact rfl); (case kF => assumption); (case kK => assumption); (case k1 => k_asm); (case k2 => k_asm); (case k3 => k_asm); (case k4 => k_asm); (case k5 => k_asm); (case k6 => k_is); (case k7 => k_is); (case k8 => ktr_room); (case k9 => first | exact BindsTo.of_eq rfl | exact binds_K (by k_in) rfl (by k_is) rfl rfl rfl); (case c5 => decide); (case kB => exact locs rfl); (case c2 => exact rfl); (case c3 => exact rfl); (case c4 => exact rfl); k_whole; intro g' L' h' FG' F' N' B' X' T' kG'; (try dsimp only))
  have hG : ∀ b o, s.heap.get? b = some o → g'.get? b = some o := fun b o e => kG' b o e (fun h => nomatch h)
  have hg1 := hG _ _ hl1
  have hg2 := hG _ _ hl2
  have hL1 : g'.IsList l1 vs1.toArray := ⟨_, hg1, rfl, _, rfl⟩
  have hL2 : g'.IsList l2 vs2.toArray := ⟨_, hg2, rfl, _, rfl⟩
  refine wpAny_noRaise ?_
  clear F N B T X
  k_fold
  k_steps
  rename IntsAre _ (rangeKs _ _) => hI
  rename Fr _ _ _ _ => F₁
  rename News _ _ _ _ => N₁
  refine Halt.out ?_
  rw [show ((ns2.length : Int) + 1 - 0).toNat = ns2.length + 1 by omega, rowD_zero ns1 ns2] at hI
  refine For_enumK rfl rfl rfl rfl rfl F₁ N₁ (F₁.keep _ _ hg1) hi1
    (fun i m nx => ∃ a k us, nx = [(a, listOf (List.toArray us) k)] ∧ IntsAre us (rowD ns1 ns2 i (ns2.length + 1)) ∧ m (Str.ofString "last") = some (.ref a) ∧ m (Str.ofString "other") = some (.ref l2)) ?_ ?_ ?_ ?_
  · exact ⟨_, _, _, rfl, hI, rfl, rfl⟩
  · intro i m nx h _ F₂ _
    exact F₂.keep _ _ hg1
  · intro i n t tk tk₁ m₁ nx h e it oe oi hn hI
    refine hide fun G hG => ?_
    obtain ⟨a, k, us, rfl, hus, hm1, hm2⟩ := hI
    refine hG ?_
    clear hG G
    intro hoff hlt F₂ N₂
    replace F₂ := Fr.kst2 (ps := [(Str.ofString "last", .ref a), (Str.ofString "other", .ref l2)]) F₂ (by simp [hm1, hm2])
    dsimp only [kstB] at F₂
    clear F₁ N₁
    (try k_unmd)
    (try k_fold)
    k_steps
    rename_i l' h9 F9 N9 l9 h8 F8 N8
    refine Halt.out ?_
    refine For_enumK rfl rfl rfl rfl rfl F8 N8 (F8.keep _ _ hg2) hi2
      (fun j m nx => ∃ k' us', nx = [(l', listOf (List.toArray us') k'), (e, oe), (it, oi), (a, listOf us.toArray k)] ∧ IntsAre us' (rowD ns1 ns2 (i + 1) (j + 1)) ∧ m (Str.ofString "last") = some (.ref a) ∧ m (Str.ofString "line") = some (.ref l') ∧ m (Str.ofString "left") = some (.int n t) ∧ m (Str.ofString "other") = some (.ref l2)) ?_ ?_ ?_ ?_
    · exact ⟨_, _, rfl, row_start _ _, rfl, rfl, rfl, rfl⟩
    · intro i m nx h _ F₂ _
      exact F₂.keep _ _ hg2
    · intro j n2 t2 tk2 tk3 m₃ nx3 h3 e3 it3 oe3 oi3 hn2 hI'
      refine hide fun G hG => ?_
      obtain ⟨k', us', rfl, hus', hm1', hm2', hm3', hm4'⟩ := hI'
      refine hG ?_
      clear hG G
      intro hoff' hlt' F₃ N₃
      replace F₃ := Fr.kst2 (ps := [(Str.ofString "last", .ref a), (Str.ofString "line", .ref l'), (Str.ofString "left", .int n t)]) F₃ (by simp [hm1', hm2', hm3'])
      dsimp only [kstB] at F₃
      clear F8 N8 F9 N9
      replace hoff' := allLt_of hoff'
      simp only [AllLt, and_true] at hoff'
      replace hlt' := ltN hlt'
      have hj : j < ns2.length := (List.getElem?_eq_some_iff.mp hn2).1
      (try k_unmd)
      (try k_fold)
      k_steps
      rename Fr _ _ _ _ => F4
      rename News _ _ _ _ => N4
      refine EnumEnd.mk (nx' := [(l', _), (e, oe), (it, oi), (a, _)]) F4 N4 (fun _ h => h) ?_ ⟨_, _, rfl, row_snoc hus' hn hn2, rfl, rfl, rfl, hm4'⟩
      (repeat' (first | exact off_nil | refine off_cons (neN ?_) (neN ?_) ?_)) <;> (try dsimp only) <;> omega
    · intro m5 nx5 h5 tk5 hI'
      refine hide fun G hG => ?_
      obtain ⟨k5, us5, rfl, hus5, hm5, hm6, hm7, hm8⟩ := hI'
      refine hG ?_
      clear hG G
      intro F5 N5
      replace F5 := Fr.kst (ps := [(Str.ofString "line", .ref l')]) F5 (by simp [hm6])
      dsimp only [kstB] at F5
      clear F8 N8 F9 N9
      (try k_unmd)
      (try k_fold)
      k_steps
      rename Fr _ _ _ _ => F4
      rename News _ _ _ _ => N4
      refine EnumEnd.mk (nx' := [(l', _)]) F4 N4 (by simp only [List.forall_mem_cons]; exact ⟨.tail _ (.head _), .tail _ (.tail _ (.head _)), .head _, List.forall_mem_nil _⟩) ?_ ⟨_, _, _, rfl, hus5, rfl, hm8⟩
      (repeat' (first | exact off_nil | refine off_cons (neN ?_) (neN ?_) ?_)) <;> (try dsimp only) <;> omega
  · intro m5 nx5 h5 tk5 hI'
    refine hide fun G hG => ?_
    obtain ⟨a5, k5, us5, rfl, hus5, hm5, hm6⟩ := hI'
    refine hG ?_
    clear hG G
    intro F5 N5
    replace F5 := Fr.kst (ps := [(Str.ofString "last", .ref a5)]) F5 (by simp [hm5])
    dsimp only [kstB] at F5
    clear F₁ N₁
    (try k_unmd)
    (try k_fold)
    k_steps
    exact leaveK_ F5 N5 fun _ _ => hret _ _ _ (fun b o _ e => F5.keep b o (hG b o e)) ⟨_, rfl⟩
end Mine
end

section
open PySem PySem.W PySem.Spec PyProof.Rows PyProof.V PySem.Calls
set_option maxRecDepth 100000
set_option maxHeartbeats 8000000
theorem Mine.offC2 : True := by
  w_top off
  trivial
namespace Mine

theorem fig_ctr {c : Int} {t : Tok} : Ctr 125 2 8 [] [.int c t] (fun _ => True) (fun _ r _ => r = .bool (isFig c)) := by
  intro prog w dp un gd env outer L s Q E S hd hu hpre hret
  obtain ⟨p, loose, mean, mg, mb, A₀, base, h₀, m, B, F, X, T, hf, hke, -⟩ := S
  have N : News h₀ L s.heap [] := News.nil
  refine wpAny_call ?_
  k_dflt (refine' code_defG ?k1 ?k2 ?k3 ?k4 ?k5 ?kA ?kF ?kK ?k6 ?k7 ?k8 ?k9 ?kB ?_ ?c2 ?c3 ?c4 ?c5; (case kA => exact rfl); (case kF => assumption); (case kK => assumption); (case k1 => k_asm); (case k2 => k_asm); (case k3 => k_asm); (case k4 => k_asm); (case k5 => k_asm); (case k6 => k_is); (case k7 => k_is); (case k8 => ktr_room); (case k9 => first | exact BindsTo.of_eq rfl | exact binds_K (by k_in) rfl (by k_is) rfl rfl rfl); (case c5 => decide); (case kB => exact locs rfl); (case c2 => exact rfl); (case c3 => exact rfl); (case c4 => exact rfl); k_whole; intro g' L' h' FG' F' N' B' X' T' kG'; (try dsimp only))
  have hG : ∀ b o, s.heap.get? b = some o → g'.get? b = some o := fun b o e => kG' b o e (fun h => nomatch h)
  refine wpAny_noRaise ?_
  clear F N B T X
  k_fold
  k_steps
  · rename _ ≤ _ => hc
    exact leaveK_ F' N' fun _ _ => hret _ _ _ (fun b o _ e => F'.keep b o (hG b o e)) (by simp [isFig, hc])
  · rename ¬ _ => hc
    exact leaveK_ F' N' fun _ _ => hret _ _ _ (fun b o _ e => F'.keep b o (hG b o e)) (by simp [isFig, hc])

local macro_rules | `(tactic| walk_at "call ref cons nil") => `(tactic| (k_here; (with_reducible show wpAny _ _ (call (Value.ref 125) [Value.int _ _]) _ _ _); k_dflt (refine' Ctr.useV fig_ctr ?k1 ?k2 ?k3 ?k4 ?k5 ?k6 ?k7 ?k8 ?k9 ?kp ?_; (case k1 => k_asm); (case k2 | k3 | k4 | k5 => k_asm); (case k6 | k7 => first | exact rfl | assumption); (case k8 => ktr_room); (case k9 => ktr_units); (case kp => trivial)); intro h' tk' F' N'; (try dsimp only); (try k_sweep)))
local macro_rules | `(tactic| walk_at "exec While BoolOp cons nil") => `(tactic| (k_here; refine halt ?_))

theorem num_ctr {l : Addr} {ns : List Int} {i : Nat} {t : Tok} (hz : ns.length ≤ 1000) (hi : i ≤ ns.length) : Ctr 132 3 16 [] [.ref l, .int i t] (fun h => LAt h l ns)
    (fun h r h' => ∃ a t1 t2 n, r = .ref a ∧ h.get? a = none ∧ h'.get? a = some { cls := .type "tuple", data := .seq #[.int (numGo 0 (ns.drop i)).1 t1, .int ((ns.length : Int) - (numGo 0 (ns.drop i)).2.length) t2] n }) := by
  intro prog w dp un gd env outer L s Q E S hd hu hpre hret
  obtain ⟨p, loose, mean, mg, mb, A₀, base, h₀, m, B, F, X, T, hf, hke, -⟩ := S
  have N : News h₀ L s.heap [] := News.nil
  obtain ⟨vs1, k1, hl1, hi1⟩ := hpre
  refine wpAny_call ?_
  k_dflt (refine' code_defG ?k1 ?k2 ?k3 ?k4 ?k5 ?kA ?kF ?kK ?k6 ?k7 ?k8 ?k9 ?kB ?_ ?c2 ?c3 ?c4 ?c5; (case kA => exact rfl); (case kF => assumption); (case kK => assumption); (case k1 => k_asm); (case k2 => k_asm); (case k3 => k_asm); (case k4 => k_asm); (case k5 => k_asm); (case k6 => k_is); (case k7 => k_is); (case k8 => ktr_room); (case k9 => first | exact BindsTo.of_eq rfl | exact binds_K (by k_in) rfl (by k_is) rfl rfl rfl); (case c5 => decide); (case kB => exact locs rfl); (case c2 => exact rfl); (case c3 => exact rfl); (case c4 => exact rfl); k_whole; intro g' L' h' FG' F' N' B' X' T' kG'; (try dsimp only))
  have hG : ∀ b o, s.heap.get? b = some o → g'.get? b = some o := fun b o e => kG' b o e (fun h => nomatch h)
  have hg1 := hG _ _ hl1
  have hL1 : g'.IsList l vs1.toArray := ⟨_, hg1, rfl, _, rfl⟩
  refine wpAny_noRaise ?_
  clear F N B T X
  k_fold
  k_steps
  rename Fr _ _ _ _ => F₁
  rename News _ _ _ _ => N₁
  refine Halt.out ?_
  refine While_inv2 (fun n m nx => ∃ (j : Nat) (f : Int), j ≤ ns.length ∧ numGo 0 (ns.drop i) = numGo f (ns.drop j) ∧ n = ns.length - j ∧ nx = [] ∧ (∃ tf, m (Str.ofString "found") = some (.int f tf)) ∧ (∃ tj, m (Str.ofString "at") = some (.int (j : Int) tj)) ∧ m (Str.ofString "codes") = some (.ref l)) F₁ N₁ ⟨i, 0, hi, rfl, rfl, rfl, ⟨_, rfl⟩, ⟨_, rfl⟩, rfl⟩ ?_ PassesOwn.never
  intro n m₁ nx h tk F₂ N₂ hI'
  refine hide fun G hG => ?_
  obtain ⟨j, f, hj, hgo, rfl, rfl, ⟨tf, hm1⟩, ⟨tj, hm2⟩, hm3⟩ := hI'
  refine hG ?_
  clear hG G
  replace F₂ := Fr.kst (ps := [(Str.ofString "found", .int f tf), (Str.ofString "at", .int (j : Int) tj), (Str.ofString "codes", .ref l)]) F₂ (by simp [hm1, hm2, hm3])
  dsimp only [kstB] at F₂
  clear F₁ N₁
  (try k_unmd)
  (try k_fold)
  k_steps
  · rename _ = true => hfig
    rename (_ : Int) < _ => hlt
    rename Fr _ _ _ _ => F4
    have hlt' : j < ns.length := by omega
    rw [Int.toNat_natCast] at hfig
    exact ⟨_, _, _, [], _, rfl, F4, News.nil, by omega, j + 1, 10 * f + ns.getD j 0 - 48, hlt', hgo.trans (numGo_step hlt' hfig), rfl, rfl, ⟨_, rfl⟩, ⟨_, rfl⟩, rfl⟩
  · rename _ = false => hfig
    rename (_ : Int) < _ => hlt
    rename Fr _ _ _ _ => F4
    rename News _ _ _ _ => N4
    have hlt' : j < ns.length := by omega
    rw [Int.toNat_natCast] at hfig
    have e := hgo.trans (numGo_stop hlt' hfig)
    refine leaveK_ F4 N4 fun _ _ => hret _ _ _ (fun b o _ e => F4.keep b o (hG b o e)) ⟨_, tf, tj, 0, rfl, fresh_of hG N4 (.head _), ?_⟩
    have e1 : (ns.length : Int) - ((ns.drop j).length : Int) = j := by rw [List.length_drop]; omega
    rw [e]
    dsimp only
    rw [e1]
    exact (N4 _ (.head _)).1
  · rename ¬ _ => hlt
    rename Fr _ _ _ _ => F4
    rename News _ _ _ _ => N4
    have hlt' : ¬ j < ns.length := by omega
    have e := hgo.trans (numGo_end hlt')
    refine leaveK_ F4 N4 fun _ _ => hret _ _ _ (fun b o _ e => F4.keep b o (hG b o e)) ⟨_, tf, tj, 0, rfl, fresh_of hG N4 (.head _), ?_⟩
    rw [e]
    have e1 : (ns.length : Int) - (([] : List Int).length : Int) = j := by simp; omega
    dsimp only
    rw [e1]
    exact (N4 _ (.head _)).1


local macro_rules | `(tactic| walk_at "call ref cons nil") => `(tactic| (k_here; (with_reducible show wpAny _ _ (call (Value.ref 132) [Value.ref _, Value.int _ _]) _ _ _); k_dflt (refine' Ctr.useT (num_ctr ?h1 ?h2) ?k1 ?k2 ?k3 ?k4 ?k5 ?k6 ?k7 ?k8 ?k9 ?kp ?_; (case k1 => k_asm); (case k2 | k3 | k4 | k5 => k_asm); (case k6 | k7 => first | exact rfl | assumption); (case k8 => ktr_room); (case k9 => ktr_units); (case kp => exact LAt.of (by k_asm) (by assumption) (by assumption)); (case h1 => assumption); (case h2 => assumption)); intro a' t1' t2' n' h' tk' F' N'; (try dsimp only); (try k_sweep)))

theorem vl_ctr {l1 l2 : Addr} {ns1 ns2 : List Int} (hz1 : ns1.length ≤ 1000) (hz2 : ns2.length ≤ 1000) :
    Ctr 139 6 40 [] [.ref l1, .ref l2] (fun h => LAt h l1 ns1 ∧ LAt h l2 ns2) (fun _ r _ => r = .bool (vless ns1 ns2)) := by
  intro prog w dp un gd env outer L s Q E S hd hu hpre hret
  obtain ⟨p, loose, mean, mg, mb, A₀, base, h₀, m, B, F, X, T, hf, hke, -⟩ := S
  have N : News h₀ L s.heap [] := News.nil
  obtain ⟨⟨vs1, k1, hl1, hi1⟩, ⟨vs2, k2, hl2, hi2⟩⟩ := hpre
  refine wpAny_call ?_
  k_dflt (refine' code_defG ?k1 ?k2 ?k3 ?k4 ?k5 ?kA ?kF ?kK ?k6 ?k7 ?k8 ?k9 ?kB ?_ ?c2 ?c3 ?c4 ?c5; (case kA => exact rfl); (case kF => assumption); (case kK => assumption); (case k1 => k_asm); (case k2 => k_asm); (case k3 => k_asm); (case k4 => k_asm); (case k5 => k_asm); (case k6 => k_is); (case k7 => k_is); (case k8 => ktr_room); (case k9 => first | exact BindsTo.of_eq rfl | exact binds_K (by k_in) rfl (by k_is) rfl rfl rfl); (case c5 => decide); (case kB => exact locs rfl); (case c2 => exact rfl); (case c3 => exact rfl); (case c4 => exact rfl); k_whole; intro g' L' h' FG' F' N' B' X' T' kG'; (try dsimp only))
  have hG : ∀ b o, s.heap.get? b = some o → g'.get? b = some o := fun b o e => kG' b o e (fun h => nomatch h)
  have hg1 := hG _ _ hl1
  have hg2 := hG _ _ hl2
  have hL1 : g'.IsList l1 vs1.toArray := ⟨_, hg1, rfl, _, rfl⟩
  have hL2 : g'.IsList l2 vs2.toArray := ⟨_, hg2, rfl, _, rfl⟩
  refine wpAny_noRaise ?_
  clear F N B T X
  k_fold
  k_steps
  rename Fr _ _ _ _ => F₁
  rename News _ _ _ _ => N₁
  refine Halt.out ?_
  refine While_inv2 (fun n m nx => ∃ (i j : Nat), i ≤ ns1.length ∧ j ≤ ns2.length ∧ vless ns1 ns2 = vless (ns1.drop i) (ns2.drop j) ∧ n = ns1.length - i ∧ nx = [] ∧ (∃ t, m (Str.ofString "at") = some (.int (i : Int) t)) ∧ (∃ t, m (Str.ofString "to") = some (.int (j : Int) t)) ∧ m (Str.ofString "one") = some (.ref l1) ∧ m (Str.ofString "other") = some (.ref l2)) F₁ News.nil ⟨0, 0, Nat.zero_le _, Nat.zero_le _, rfl, rfl, rfl, ⟨_, rfl⟩, ⟨_, rfl⟩, rfl, rfl⟩ ?_ PassesOwn.never
  intro n m₁ nx h tk F₂ N₂ hI'
  refine hide fun G hG => ?_
  obtain ⟨i, j, hi, hj, hgo, rfl, rfl, ⟨ti, hm1⟩, ⟨tj, hm2⟩, hm3, hm4⟩ := hI'
  refine hG ?_
  clear hG G
  replace F₂ := Fr.kst (ps := [(Str.ofString "at", .int (i : Int) ti), (Str.ofString "to", .int (j : Int) tj), (Str.ofString "one", .ref l1), (Str.ofString "other", .ref l2)]) F₂ (by simp [hm1, hm2, hm3, hm4])
  dsimp only [kstB] at F₂
  clear F₁ N₁
  (try k_unmd)
  (try k_fold)
  k_steps
  all_goals (rename Fr _ _ _ _ => F4)
  · rename News _ _ _ _ => N4
    dsimp only [WhileStep2]
    show LeaveK _ _ _ _ _ _ _
    exact leaveK_ F4 N4 fun _ _ => hret _ _ _ (fun b o _ e => F4.keep b o (hG b o e)) (bool_eq (vl_r1 hgo (by assumption) (by assumption) (by assumption) (by assumption) (by assumption)))
  · exact ⟨_, _, _, [], _, rfl, F4, News.nil, vl_n1 (i := i) (by assumption) (by assumption), _, _, Nat.sub_le _ _, Nat.sub_le _ _, vl_t1 hgo (by assumption) (by assumption) (by assumption) (by assumption) (by assumption), rfl, rfl, int_at rfl (vl_i1 vl_i2), int_at rfl (vl_i1 vl_i2), rfl, rfl⟩
  · rename News _ _ _ _ => N4
    dsimp only [WhileStep2]
    show LeaveK _ _ _ _ _ _ _
    exact leaveK_ F4 N4 fun _ _ => hret _ _ _ (fun b o _ e => F4.keep b o (hG b o e)) (bool_eq (vl_r2 hgo (by assumption) (by assumption) (by assumption) (by assumption)))
  · exact ⟨_, _, _, [], ns1.length - (i + 1), rfl, F4, News.nil, (by omega), i + 1, j + 1, (by omega), (by omega), vl_t2 hgo (by assumption) (by assumption) (by assumption) (by assumption), rfl, rfl, ⟨_, rfl⟩, ⟨_, rfl⟩, rfl, rfl⟩
  · rename News _ _ _ _ => N4
    dsimp only [WhileStep2]
    show LeaveK _ _ _ _ _ _ _
    exact leaveK_ F4 N4 fun _ _ => hret _ _ _ (fun b o _ e => F4.keep b o (hG b o e)) (bool_eq (vl_r3 hgo (by assumption) (by assumption) (by assumption) (by assumption)))
  · exact ⟨_, _, _, [], ns1.length - (i + 1), rfl, F4, News.nil, (by omega), i + 1, j + 1, (by omega), (by omega), vl_t3 hgo (by assumption) (by assumption) (by assumption) (by assumption), rfl, rfl, ⟨_, rfl⟩, ⟨_, rfl⟩, rfl, rfl⟩
  · exact leaveK_ F4 News.nil fun _ _ => hret _ _ _ (fun b o _ e => F4.keep b o (hG b o e)) (bool_eq (vl_r4 hgo (by assumption) (by assumption)))
  · exact leaveK_ F4 News.nil fun _ _ => hret _ _ _ (fun b o _ e => F4.keep b o (hG b o e)) (bool_eq (vl_r5 hgo (by assumption)))

end Mine
end

section
open PySem PySem.W PySem.Spec PyProof.Rows PyProof.V PySem.Calls
set_option maxRecDepth 100000
set_option maxHeartbeats 8000000
namespace Mine
/-- the end of an element of a comprehension -/
def CompEndK (h₀ : Heap) (L : Addr) (m : Str → Option Value) (s : Shared) (C D I : Addr) (oC oD oI : Obj) (J : Value → List (Addr × Obj) → Prop) (y : Value) (s₃ : Shared) : Prop :=
  ∃ h' tk' nx', s₃ = { s with heap := h', toks := tk' } ∧ Fr h₀ L h' m ∧ News h₀ L h' ((C, oC) :: (D, oD) :: (I, oI) :: nx') ∧ (∀ p ∈ nx', p.1 ≠ C ∧ p.1 ≠ D ∧ p.1 ≠ I) ∧ J y nx'
theorem CompEndK.mk {h₀ : Heap} {L : Addr} {m : Str → Option Value} {s : Shared} {C D I : Addr} {oC oD oI : Obj} {J : Value → List (Addr × Obj) → Prop} {y : Value} {h' : Heap} {tk' : Nat} {news nx' : List (Addr × Obj)}
    (F : Fr h₀ L h' m) (N : News h₀ L h' news) (hn : ∀ p ∈ (C, oC) :: (D, oD) :: (I, oI) :: nx', p ∈ news) (ho : ∀ p ∈ nx', p.1 ≠ C ∧ p.1 ≠ D ∧ p.1 ≠ I) (hJ : J y nx') : CompEndK h₀ L m s C D I oC oD oI J y { s with heap := h', toks := tk' } :=
  ⟨h', tk', nx', rfl, F, fun p hp => N p (hn p hp), ho, hJ⟩

section
variable {prog : Program} {w : World} {A : Around} {E : Value → Shared → Prop} {s : Shared} {env : Env} {h₀ : Heap} {L : Addr}
theorem comp_range {elt iter : Expr} {x : Str} {px : Pos} {scope : Scope} {cl : List (Str × Addr)} {pos : Pos} {k : Nat} {r : Addr} {t₀ u₀ v₀ : Tok} {m : Str → Option Value} {news : List (Addr × Obj)} {Q : Value → Shared → Prop} {use : Option (Value → Sem Unit)}
    (hcell : ∀ y ∈ scope.names, y.2 ≠ .cell) (hkind : scope.kind = .function) (hx : scope.names.lookup x = some .local) (hh : A.handled = none)
    (hr : IsRange s.heap r 0 (k : Int) 1 t₀ u₀ v₀) (hk : k ≤ 1000) (F : Fr h₀ L s.heap m) (N : News h₀ L s.heap news)
    (J : Nat → List Value → List (Addr × Obj) → Prop) (hJ : J 0 [] news)
    (turn : ∀ i vs nx D C I oD oC oI h tk, i < k → J i vs nx → (∀ p ∈ nx, p.1 ≠ C ∧ p.1 ≠ D ∧ p.1 ≠ I) → (∀ p ∈ news, p.1 < I) → I < D → D < C → Fr h₀ L h m → News h₀ L h ((C, oC) :: (D, oD) :: (I, oI) :: nx) →
      wpAny (model prog w) A (eval elt (compEnvC scope cl C env)) (CompEndK h₀ L m s C D I oC oD oI fun y nx' => J (i + 1) (vs ++ [y]) nx') (fun _ _ => False) { s with heap := h, toks := tk })
    (done : ∀ vs nx D C I c mC h tk, J k vs nx → (∀ p ∈ nx, p.1 ≠ C ∧ p.1 ≠ D ∧ p.1 ≠ I) → (∀ p ∈ news, p.1 < D) → L ≠ C → L ≠ D → C ≠ D → h₀.get? C = none → h.Ns C mC → Fr h₀ L h m → News h₀ L h ((D, listOf (List.toArray vs) c) :: nx) → compPost (model prog w) A E use Q (.ref D) C (.ok .next) { s with heap := h, toks := tk }) :
    wpAny (model prog w) A (pyIter (.ref r)) (fun it s₂ => wpAny (model prog w) A (newList []) (fun acc s₃ =>
      wpAny (model prog w) A (newFunctionEnv scope env.globals cl [] env.qual none .none (some env)) (fun cenv s₄ =>
        codeAny (model prog w) A (.compStart (.ListComp elt [⟨.Name x px, iter, [], 0⟩] scope pos) 0 it acc { cenv with scope := relabel scope env }) (compPost (model prog w) A E use Q acc cenv.locals) s₄) E s₃) E s₂) E s := by
  have hn : Builtin.Range.rangeSize 0 (k : Int) 1 = (k : Int) := by rw [rangeSize_one]; split <;> omega
  refine wpAny_pyIter_range hr (small_one (by decide) (by decide) (by omega) (by omega)) ?_
  rw [hn]
  have hLlt : L < s.heap.objs.size := F.ns.lt
  have hb0 : h₀.objs.size ≤ s.heap.objs.size := Nat.le_trans F.above (Nat.le_of_lt F.ns.lt)
  obtain ⟨I, hI⟩ : ∃ I, s.heap.objs.size = I := ⟨_, rfl⟩
  rw [hI] at hLlt hb0
  rw [hI]
  have hIo : (s.heap.push { cls := .type "range_iterator", data := .fields #[rawInt 0, rawInt (k : Int), rawInt 1] }).get? I = some { cls := .type "range_iterator", data := .fields #[rawInt 0, rawInt (k : Int), rawInt 1] } := by
    rw [← hI]; exact Heap.get?_push_size _ rfl
  have hz1 : (s.heap.push { cls := .type "range_iterator", data := .fields #[rawInt 0, rawInt (k : Int), rawInt 1] }).objs.size = I + 1 := by rw [Heap.size_push, hI]
  have F1 : Fr h₀ L (s.heap.push { cls := .type "range_iterator", data := .fields #[rawInt 0, rawInt (k : Int), rawInt 1] }) m := F.push _
  have N1 : News h₀ L (s.heap.push { cls := .type "range_iterator", data := .fields #[rawInt 0, rawInt (k : Int), rawInt 1] }) news := N.grown fun b o e => Heap.get?_push_of_some _ e
  have off : ∀ p ∈ news, p.1 < I := fun p hp => by rw [← hI]; exact Heap.lt_size (N p hp).1
  generalize s.heap.push { cls := .type "range_iterator", data := .fields #[rawInt 0, rawInt (k : Int), rawInt 1] } = H1 at hIo hz1 F1 N1 ⊢
  refine wpAny_newObj_type ?_
  dsimp only
  rw [hz1]
  have hDo : (H1.push (listOf ([] : List Value).toArray 0)).get? (I + 1) = some (listOf ([] : List Value).toArray 0) := by rw [← hz1]; exact Heap.get?_push_size _ rfl
  have hz2 : (H1.push (listOf ([] : List Value).toArray 0)).objs.size = I + 2 := by rw [Heap.size_push, hz1]
  have hI2 := Heap.get?_push_of_some (listOf ([] : List Value).toArray 0) hIo
  have F2 : Fr h₀ L (H1.push (listOf ([] : List Value).toArray 0)) m := F1.push _
  have N2 : News h₀ L (H1.push (listOf ([] : List Value).toArray 0)) news := N1.grown fun b o e => Heap.get?_push_of_some _ e
  generalize H1.push (listOf ([] : List Value).toArray 0) = H2 at hDo hz2 hI2 F2 N2 ⊢
  refine wpAny_newFunctionEnv hcell (by intro y hy; cases hy) (fun H3 hns₃ hsb₃ => ?_) hkind
  dsimp only at hns₃ hsb₃ ⊢
  rw [hz2] at hns₃ hsb₃
  rw [hz2]
  have old₃ : ∀ b o, H2.get? b = some o → H3.get? b = some o := fun b o e => hsb₃.extBut b o (by have := Heap.lt_size e; rw [hz2] at this; exact Nat.ne_of_lt this) (Heap.get?_push_of_some _ e)
  have F3 : Fr h₀ L H3 m := F2.keeps old₃
  have N3 : News h₀ L H3 news := N2.grown old₃
  have hI3 := old₃ _ _ hI2
  have hD3 := old₃ _ _ hDo
  have lt_of : ∀ b o, h₀.get? b = some o → b < I := fun b o e => Nat.lt_of_lt_of_le (Heap.lt_size e) hb0
  have none_of : ∀ b, I ≤ b → h₀.get? b = none := fun b hb => Heap.get?_none_of_le (Nat.le_trans hb0 hb)
  have hIL : L ≠ I := Nat.ne_of_lt hLlt
  have hDL : L ≠ I + 1 := Nat.ne_of_lt (Nat.lt_succ_of_lt hLlt)
  have hCL : L ≠ I + 2 := Nat.ne_of_lt (Nat.lt_succ_of_lt (Nat.lt_succ_of_lt hLlt))
  have hID : I ≠ I + 1 := Nat.ne_of_lt (Nat.lt_succ_self _)
  have hIC : I ≠ I + 2 := Nat.ne_of_lt (Nat.lt_succ_of_lt (Nat.lt_succ_self _))
  have hDC : I + 1 ≠ I + 2 := Nat.ne_of_lt (Nat.lt_succ_self _)
  have W := Walks.range (prog := prog) (w := w) hh I 0 1 k
  have loop : ∀ s₃ : Shared, s₃ = { s with heap := H3, toks := s.toks + ([] : List (Str × Value)).length } →
      codeAny (model prog w) A (.compLoop (.ListComp elt [⟨.Name x px, iter, [], 0⟩] scope pos) 0 (.ref I) (.ref (I + 1)) (compEnvC scope cl (I + 2) env)) (compPost (model prog w) A E use Q (.ref (I + 1)) (I + 2)) s₃ := by
    rintro s₃ rfl
    refine codeAny_compLoop_tests (fun q s' => ∃ h' tk i vs c nx mC, s' = { s with heap := h', toks := tk } ∧ IsRangeIter h' I (0 + (i : Nat) * 1) ((k : Int) - (i : Nat)) 1 ∧ h'.get? (I + 1) = some (listOf (List.toArray vs) c) ∧ h'.Ns (I + 2) mC ∧
      Fr h₀ L h' m ∧ News h₀ L h' nx ∧ (∀ p ∈ nx, p.1 ≠ I + 2 ∧ p.1 ≠ I + 1 ∧ p.1 ≠ I) ∧ J i vs nx ∧ vs.length = i ∧ i ≤ k ∧ q = k + 1 - i) ?_ (k + 1)
      ⟨H3, _, 0, [], 0, news, _, rfl, by simpa using hI3, hD3, hns₃, F3, N3, (fun p hp => by have := off p hp; exact ⟨Nat.ne_of_lt (Nat.lt_succ_of_lt (Nat.lt_succ_of_lt this)), Nat.ne_of_lt (Nat.lt_succ_of_lt this), Nat.ne_of_lt this⟩), hJ, rfl, Nat.zero_le _, rfl⟩
    intro q s' hI
    refine hide fun G hG => ?_
    obtain ⟨H, tk, i, vs, c, nx, mC, rfl, hit, hD', hC', F', N', hoff, hJ', hlen, hile, rfl⟩ := hI
    refine hG ?_
    clear hG G
    by_cases hlt : i < k
    · refine W.item i _ _ _ hlt hit fun v h₁ tk₁ hP hst₁ hk₁ => ?_
      have k1 : ∀ b o, b ≠ I → H.get? b = some o → h₁.get? b = some o := fun b o hb e => hk₁ b o (fun h => hb (List.mem_singleton.mp h)) e
      refine wpAny_assign_Name (wpAny_storeName_local (lookup_relabel_local hx) (hC'.at' fun o e => k1 _ o hIC.symm e) (fun h₂ hn₂ hs₂ => ?_) (by simp [compEnvC, relabel, hkind]))
      have k2 : ∀ b o, b ≠ I → b ≠ I + 2 → H.get? b = some o → h₂.get? b = some o := fun b o hb hb2 e => (hs₂.2 b hb2).trans (k1 b o hb e)
      have F₂ : Fr h₀ L h₂ m := ⟨F'.ns.at' fun o e => k2 _ o hIL hCL e, fun b o e => k2 b o (Nat.ne_of_lt (lt_of b o e)) (Nat.ne_of_lt (Nat.lt_succ_of_lt (Nat.lt_succ_of_lt (lt_of b o e)))) (F'.keep b o e), F'.above⟩
      have N₂ : News h₀ L h₂ nx := fun p hp => ⟨k2 _ _ (hoff p hp).2.2 (hoff p hp).1 (N' p hp).1, (N' p hp).2⟩
      have hD₂ := k2 _ _ hID.symm hDC hD'
      have hst₂ : IsRangeIter h₂ I (0 + ((i + 1 : Nat) : Int) * 1) ((k : Int) - ((i + 1 : Nat) : Int)) 1 := (hs₂.2 I hIC).trans hst₁
      refine hide fun G hG => ?_
      obtain ⟨oC, esC, epC, hoC, hdC, hkC, hfC⟩ := id hn₂
      refine hG ?_
      clear hG G
      have NN : News h₀ L h₂ ((I + 2, oC) :: (I + 1, listOf (List.toArray vs) c) :: (I, _) :: nx) := fun p hp => by
        rcases List.mem_cons.mp hp with rfl | hp
        · exact ⟨hoC, hCL.symm, none_of _ (Nat.le_succ_of_le (Nat.le_succ _))⟩
        · rcases List.mem_cons.mp hp with rfl | hp
          · exact ⟨hD₂, hDL.symm, none_of _ (Nat.le_succ _)⟩
          · rcases List.mem_cons.mp hp with rfl | hp
            · exact ⟨hst₂, hIL.symm, none_of _ (Nat.le_refl _)⟩
            · exact N₂ p hp
      refine wpAny_tests_nil ?_
      simp only [if_true]
      refine wpAny_mono (turn i vs nx (I + 1) (I + 2) I _ oC _ h₂ _ hlt hJ' hoff off (Nat.lt_succ_self _) (Nat.lt_succ_self _) F₂ NN) (fun y s₃ h₃ => ?_) fun _ _ e => e.elim
      refine hide fun G hG => ?_
      obtain ⟨h₃, tk₃, nx', rfl, F₃, N₃, ho₃, hJ₃⟩ := h₃
      refine hG ?_
      clear hG G
      have hD₃ := (N₃ _ (.tail _ (.head _))).1
      refine wpAny_list_append_plain (hsz := by rw [List.size_toArray, sizeLine_eq]; omega) (l := I + 1) (items := List.toArray vs) ⟨c, hD₃⟩ fun h₄ hl₄ hs₄ => ?_
      obtain ⟨c', hD₄⟩ := hl₄
      have hI₄ : h₄.get? I = _ := (hs₄.2 I hID).trans (N₃ _ (.tail _ (.tail _ (.head _)))).1
      have hC₄ : h₄.get? (I + 2) = some oC := (hs₄.2 (I + 2) hDC.symm).trans (N₃ _ (.head _)).1
      refine ⟨k + 1 - (i + 1), by omega, h₄, tk₃, i + 1, vs ++ [y], c', nx', _, rfl, hI₄, by rw [hD₄, List.push_toArray], ⟨oC, esC, epC, hC₄, hdC, hkC, hfC⟩, ?_, ?_, ho₃, hJ₃, by simp [hlen], hlt, rfl⟩
      · exact ⟨F₃.ns.at' fun o e => (hs₄.2 _ hDL).trans e, fun b o e => (hs₄.2 b (Nat.ne_of_lt (Nat.lt_succ_of_lt (lt_of b o e)))).trans (F₃.keep b o e), F₃.above⟩
      · exact fun p hp => ⟨(hs₄.2 _ (ho₃ p hp).2.1).trans (N₃ p (.tail _ (.tail _ (.tail _ hp)))).1, (N₃ p (.tail _ (.tail _ (.tail _ hp)))).2⟩
    · have hik : i = k := by omega
      subst hik
      refine W.done _ _ _ hit fun h₁ tk₁ hk₁ => ?_
      have k1 : ∀ b o, b ≠ I → H.get? b = some o → h₁.get? b = some o := fun b o hb e => hk₁ b o (fun h => hb (List.mem_singleton.mp h)) e
      refine done vs nx (I + 1) (I + 2) I c mC h₁ tk₁ hJ' hoff (fun p hp => Nat.lt_succ_of_lt (off p hp)) hCL hDL hDC.symm (none_of _ (Nat.le_succ_of_le (Nat.le_succ _))) (hC'.at' fun o e => k1 _ o hIC.symm e) ?_ ?_
      · exact ⟨F'.ns.at' fun o e => k1 _ o hIL e, fun b o e => k1 b o (Nat.ne_of_lt (lt_of b o e)) (F'.keep b o e), F'.above⟩
      · intro p hp
        rcases List.mem_cons.mp hp with rfl | hp
        · exact ⟨k1 _ _ hID.symm hD', hDL.symm, none_of _ (Nat.le_succ _)⟩
        · exact ⟨k1 _ _ (hoff p hp).2.2 (N' p hp).1, (N' p hp).2⟩
  refine codeAny_compStart_list (loop _ rfl) (W.self 0 _ _ _ (by simpa using hI3) (loop _ rfl))
theorem comp_rangeK {elt iter : Expr} {x : Str} {px : Pos} {scope : Scope} {cl : List (Str × Addr)} {pos : Pos} {k : Nat} {r : Addr} {t₀ u₀ v₀ : Tok} {m : Str → Option Value} {news : List (Addr × Obj)} {Q : Value → Shared → Prop}
    (hcell : ∀ y ∈ scope.names, y.2 ≠ .cell) (hkind : scope.kind = .function) (hx : scope.names.lookup x = some .local) (hh : A.handled = none)
    (hr : IsRange s.heap r 0 (k : Int) 1 t₀ u₀ v₀) (hk : k ≤ 1000) (F : Fr h₀ L s.heap m) (N : News h₀ L s.heap news)
    (J : Nat → List Value → List (Addr × Obj) → Prop) (hJ : J 0 [] news)
    (turn : ∀ i vs nx D C I oD oC oI h tk, i < k → J i vs nx → (∀ p ∈ nx, p.1 ≠ C ∧ p.1 ≠ D ∧ p.1 ≠ I) → (∀ p ∈ news, p.1 < I) → I < D → D < C → Fr h₀ L h m → News h₀ L h ((C, oC) :: (D, oD) :: (I, oI) :: nx) →
      wpAny (model prog w) A (eval elt (compEnvC scope cl C env)) (CompEndK h₀ L m s C D I oC oD oI fun y nx' => J (i + 1) (vs ++ [y]) nx') (fun _ _ => False) { s with heap := h, toks := tk })
    (done : ∀ vs nx D c h tk, J k vs nx → (∀ p ∈ news, p.1 < D) → (∀ p ∈ nx, p.1 ≠ D) → Fr h₀ L h m → News h₀ L h ((D, listOf (List.toArray vs) c) :: nx) → Q (.ref D) { s with heap := h, toks := tk }) :
    wpAny (model prog w) A (pyIter (.ref r)) (fun it s₂ => wpAny (model prog w) A (newList []) (fun acc s₃ =>
      wpAny (model prog w) A (newFunctionEnv scope env.globals cl [] env.qual none .none (some env)) (fun cenv s₄ =>
        codeAny (model prog w) A (.compStart (.ListComp elt [⟨.Name x px, iter, [], 0⟩] scope pos) 0 it acc { cenv with scope := relabel scope env }) (compPost (model prog w) A E none Q acc cenv.locals) s₄) E s₃) E s₂) E s := by
  refine comp_range hcell hkind hx hh hr hk F N J hJ turn fun vs nx D C I c mC h tk hJ' hoff off hLC hLD hCD hC0 hC F' N' => ?_
  refine ⟨mC, hC, fun h₂ hs₂ => ?_⟩
  refine done vs nx D c h₂ tk hJ' off (fun p hp => (hoff p hp).2.1) ⟨F'.ns.at' fun o e => (hs₂.2 _ hLC).trans e, fun b o e => (hs₂.2 b fun q => ?_).trans (F'.keep b o e), F'.above⟩ fun p hp => ⟨(hs₂.2 _ fun q => ?_).trans (N' p hp).1, (N' p hp).2⟩
  · have e' := e
    rw [q, hC0] at e'
    cases e'
  · rcases List.mem_cons.mp hp with rfl | hp
    · exact hCD q.symm
    · exact (hoff p hp).1 q
end

section
variable {prog : Program} {w : World} {A : Around} {E : Value → Shared → Prop} {s : Shared} {env : Env} {M : Model}
theorem ListComp_freeK {elt iter : Expr} {x : Str} {px : Pos} {scope : Scope} {cl : List (Str × Addr)} {pos : Pos} {Q : Value → Shared → Prop}
    (hclos : closureFor scope env = pure cl) (hkind : scope.kind = .function) (hnames : ∀ y ∈ scope.names, y.2 = .local → scope.names.lookup y.1 = some .local) (hs : ∀ x, foldedSetIterable iter env x = pure x)
    (h : wpAny M A (eval iter env) (fun x' s₁ => wpAny M A (pyIter x') (fun it s₂ => wpAny M A (newList []) (fun acc s₃ =>
      wpAny M A (newFunctionEnv scope env.globals cl [] env.qual none .none (some env)) (fun cenv s₄ =>
        codeAny M A (.compStart (.ListComp elt [⟨.Name x px, iter, [], 0⟩] scope pos) 0 it acc { cenv with scope := relabel scope env }) (compPost M A E none Q acc cenv.locals) s₄) E s₃) E s₂) E s₁) E s) :
    wpAny M A (eval (.ListComp elt [⟨.Name x px, iter, [], 0⟩] scope pos) env) Q E s := by
  rw [eval_ListComp]
  exact wpAny_comprehension_free rfl hs hclos hkind hnames h
end
/-- the deck among what was made: a contract that turns it -/
theorem Ctr.useD {f : Addr} {k u : Nat} {vs : List Value} {d : Addr} {Post : Heap → Value → Prop} (C : Ctr f k u [d] vs (fun h => DeckAt h d) (fun _ r h' => DeckAt h' d ∧ Post h' r))
    {prog : Program} {w : World} {dp un : Nat} {gd : Option (List Code)} {env : Env} {outer : List Env} {A₀ : Around} {base h₀ : Heap} {L : Addr} {m : Str → Option Value} {news : List (Addr × Obj)} {G : Obj → List (Addr × Obj)} {ws : List Value} {c : Nat} {ns : List Int}
    {p : Program} {loose : List Str} {mean : ExcName → Option Value} {mg mb : Str → Option Value} {s : Shared} {Q E : Value → Shared → Prop}
    (B : Below A₀ base outer h₀) (F : Fr h₀ L s.heap m) (X : (Mine.hd.heap_39 w.params).In h₀) (N : News h₀ L s.heap news) (T : Top p loose mean mg mb h₀)
    (hf : env.frame = some L) (hk : env.scope.kind = .function) (hd : dp + k < recursionLimit) (hu : un + u < cLine)
    (U : UpdF d (listOf (List.toArray ws) c) news G) (hi : IntsAre ws ns) (hz : ns.length ≤ 16) (hc : ∀ x ∈ ns, Cell x)
    (ret : ∀ r h' tk' ws' c' ns', Fr h₀ L h' m → News h₀ L h' (G (listOf (List.toArray ws') c')) → IntsAre ws' ns' → ns'.length ≤ 16 → (∀ x ∈ ns', Cell x) → Grown [d] s.heap h' → Post h' r → Q r { s with heap := h', toks := tk' }) :
    wpAny (model prog w) (Ar dp un gd env outer) (call (.ref f) vs) Q E s := by
  obtain ⟨own, rest, rfl, hg, h1, h2⟩ := U.split
  have hm := N (d, listOf (List.toArray ws) c) (List.mem_append_right _ (.head _))
  refine C prog w dp un gd env outer L s Q E ⟨p, loose, mean, mg, mb, A₀, base, h₀, m, B, F, X, T, hf, hk, fun d' h => by rw [List.mem_singleton.mp h]; exact hm.2⟩ hd hu ⟨ws, c, ns, hm.1, hi, hz, hc⟩ ?_
  rintro r h' tk' g ⟨⟨ws', c', ns', ho', hi', hz', hc'⟩, hp⟩
  have keep : ∀ b o, b ≠ d → s.heap.get? b = some o → h'.get? b = some o := fun b o hb e => g b o (fun h => hb (List.mem_singleton.mp h)) e
  refine ret r h' tk' ws' c' ns' ⟨F.ns.at' fun o e => keep _ o hm.2.1.symm e, fun b o e => keep b o (fun q => ?_) (F.keep b o e), F.above⟩ ?_ hi' hz' hc' g hp
  · have h3 : h₀.get? d = none := hm.2.2
    rw [← q, e] at h3
    cases h3
  · rw [hg]
    intro q hq
    rcases List.mem_append.mp hq with hq | hq
    · exact ⟨keep _ _ (h1 q hq) (N q (List.mem_append_left _ hq)).1, (N q (List.mem_append_left _ hq)).2⟩
    · rcases List.mem_cons.mp hq with rfl | hq
      · exact ⟨ho', hm.2⟩
      · exact ⟨keep _ _ (h2 q hq) (N q (List.mem_append_right _ (.tail _ hq))).1, (N q (List.mem_append_right _ (.tail _ hq))).2⟩

theorem Ctr.useDI {f : Addr} {k u : Nat} {vs : List Value} {d : Addr} {n : Int} (C : Ctr f k u [d] vs (fun h => DeckAt h d) (fun _ r h' => DeckAt h' d ∧ ∃ x t, r = .int x t ∧ 0 ≤ x ∧ x < n))
    {prog : Program} {w : World} {dp un : Nat} {gd : Option (List Code)} {env : Env} {outer : List Env} {A₀ : Around} {base h₀ : Heap} {L : Addr} {m : Str → Option Value} {news : List (Addr × Obj)} {G : Obj → List (Addr × Obj)} {ws : List Value} {c : Nat} {ns : List Int}
    {p : Program} {loose : List Str} {mean : ExcName → Option Value} {mg mb : Str → Option Value} {s : Shared} {Q E : Value → Shared → Prop}
    (B : Below A₀ base outer h₀) (F : Fr h₀ L s.heap m) (X : (Mine.hd.heap_39 w.params).In h₀) (N : News h₀ L s.heap news) (T : Top p loose mean mg mb h₀)
    (hf : env.frame = some L) (hk : env.scope.kind = .function) (hd : dp + k < recursionLimit) (hu : un + u < cLine)
    (U : UpdF d (listOf (List.toArray ws) c) news G) (hi : IntsAre ws ns) (hz : ns.length ≤ 16) (hc : ∀ x ∈ ns, Cell x)
    (ret : ∀ x t h' tk' ws' c' ns', Fr h₀ L h' m → News h₀ L h' (G (listOf (List.toArray ws') c')) → IntsAre ws' ns' → ns'.length ≤ 16 → (∀ x ∈ ns', Cell x) → 0 ≤ x → x < n → Q (.int x t) { s with heap := h', toks := tk' }) :
    wpAny (model prog w) (Ar dp un gd env outer) (call (.ref f) vs) Q E s :=
  C.useD B F X N T hf hk hd hu U hi hz hc fun _ h' tk' ws' c' ns' F' N' a b c _ ⟨x, t, e, p, q⟩ => e ▸ ret x t h' tk' ws' c' ns' F' N' a b c p q

theorem off3_cons {C D I : Addr} {p : Addr × Obj} {r : List (Addr × Obj)} (h : @LT.lt Nat _ p.1 I) (h1 : @LT.lt Nat _ I D) (h2 : @LT.lt Nat _ D C) (hr : ∀ q ∈ r, q.1 ≠ C ∧ q.1 ≠ D ∧ q.1 ≠ I) : ∀ q ∈ p :: r, q.1 ≠ C ∧ q.1 ≠ D ∧ q.1 ≠ I :=
  List.forall_mem_cons.mpr ⟨⟨Nat.ne_of_lt (Nat.lt_trans h (Nat.lt_trans h1 h2)), Nat.ne_of_lt (Nat.lt_trans h h1), Nat.ne_of_lt h⟩, hr⟩
theorem off3_all {C D I : Addr} : ∀ {r : List (Addr × Obj)} (_ : AllLt I r) (_ : @LT.lt Nat _ I D) (_ : @LT.lt Nat _ D C), ∀ q ∈ r, q.1 ≠ C ∧ q.1 ≠ D ∧ q.1 ≠ I
  | [], _, _, _ => fun _ h => nomatch h
  | _ :: _, h, h1, h2 => off3_cons h.1 h1 h2 (off3_all h.2 h1 h2)

theorem fin_halt {α : Type} {M : Model} {A : Around} {t : Sem α} {Q : α → Shared → Prop} {E : Value → Shared → Prop} {s : Shared} (h : wpAny M A t (fun fl s' => Halt (Q fl s')) (fun _ _ => False) s) : wpAny M A t Q E s := wpAny_mono h (fun _ _ x => x) fun _ _ x => x.elim
theorem LAt.news {h₀ h : Heap} {L l : Addr} {vs : List Value} {n : Nat} {ns : List Int} {news : List (Addr × Obj)} (N : News h₀ L h news) (hm : (l, listOf (List.toArray vs) n) ∈ news) (hi : IntsAre vs ns) : LAt h l ns := ⟨vs, n, (N _ hm).1, hi⟩

theorem Ctr.useD2 {f : Addr} {k u : Nat} {vs : List Value} {d : Addr} {P : Heap → Prop} {v : Value} (C : Ctr f k u [d] vs (fun h => DeckAt h d ∧ P h) (fun _ r h' => DeckAt h' d ∧ r = v))
    {prog : Program} {w : World} {dp un : Nat} {gd : Option (List Code)} {env : Env} {outer : List Env} {A₀ : Around} {base h₀ : Heap} {L : Addr} {m : Str → Option Value} {news : List (Addr × Obj)} {G : Obj → List (Addr × Obj)} {ws : List Value} {c : Nat} {ns : List Int}
    {p : Program} {loose : List Str} {mean : ExcName → Option Value} {mg mb : Str → Option Value} {s : Shared} {Q E : Value → Shared → Prop}
    (B : Below A₀ base outer h₀) (F : Fr h₀ L s.heap m) (X : (Mine.hd.heap_39 w.params).In h₀) (N : News h₀ L s.heap news) (T : Top p loose mean mg mb h₀)
    (hf : env.frame = some L) (hk : env.scope.kind = .function) (hd : dp + k < recursionLimit) (hu : un + u < cLine)
    (U : UpdF d (listOf (List.toArray ws) c) news G) (hi : IntsAre ws ns) (hz : ns.length ≤ 16) (hc : ∀ x ∈ ns, Cell x) (hp : P s.heap)
    (ret : ∀ h' tk' ws' c' ns', Fr h₀ L h' m → News h₀ L h' (G (listOf (List.toArray ws') c')) → IntsAre ws' ns' → ns'.length ≤ 16 → (∀ x ∈ ns', Cell x) → Q v { s with heap := h', toks := tk' }) :
    wpAny (model prog w) (Ar dp un gd env outer) (call (.ref f) vs) Q E s := by
  have C' : Ctr f k u [d] vs (fun h => DeckAt h d ∧ P h) (fun _ r h' => DeckAt h' d ∧ r = v) := C
  obtain ⟨own, rest, rfl, hg, h1, h2⟩ := U.split
  have hm := N (d, listOf (List.toArray ws) c) (List.mem_append_right _ (.head _))
  refine C' prog w dp un gd env outer L s Q E ⟨p, loose, mean, mg, mb, A₀, base, h₀, m, B, F, X, T, hf, hk, fun d' h => by rw [List.mem_singleton.mp h]; exact hm.2⟩ hd hu ⟨⟨ws, c, ns, hm.1, hi, hz, hc⟩, hp⟩ ?_
  rintro r h' tk' g ⟨⟨ws', c', ns', ho', hi', hz', hc'⟩, rfl⟩
  have keep : ∀ b o, b ≠ d → s.heap.get? b = some o → h'.get? b = some o := fun b o hb e => g b o (fun h => hb (List.mem_singleton.mp h)) e
  refine ret h' tk' ws' c' ns' ⟨F.ns.at' fun o e => keep _ o hm.2.1.symm e, fun b o e => keep b o (fun q => ?_) (F.keep b o e), F.above⟩ ?_ hi' hz' hc'
  · have h3 : h₀.get? d = none := hm.2.2
    rw [← q, e] at h3
    cases h3
  · rw [hg]
    intro q hq
    rcases List.mem_append.mp hq with hq | hq
    · exact ⟨keep _ _ (h1 q hq) (N q (List.mem_append_left _ hq)).1, (N q (List.mem_append_left _ hq)).2⟩
    · rcases List.mem_cons.mp hq with rfl | hq
      · exact ⟨ho', hm.2⟩
      · exact ⟨keep _ _ (h2 q hq) (N q (List.mem_append_right _ (.tail _ hq))).1, (N q (List.mem_append_right _ (.tail _ hq))).2⟩
end Mine
end

section
open PySem PySem.W PySem.Spec PyProof.Rows PyProof.V PySem.Calls
set_option maxRecDepth 100000
set_option maxHeartbeats 8000000
theorem Mine.offC3 : True := by
  w_top off
  trivial
namespace Mine

local macro_rules | `(tactic| walk_at "exec While BoolOp cons nil") => `(tactic| (k_here; refine halt ?_))

theorem pop_room {vs : List Value} {ns : List Int} {x : Int} (hi : IntsAre vs ns) (hz : (x :: ns).length ≤ 16) : vs.length ≤ 1000 := by
  have := hi.length
  simp only [List.length_cons] at hz
  omega
local macro_rules | `(tactic| walk_at "call builtin:list.pop cons nil") => `(tactic| (k_here; k_dflt (refine' pop0 ?k1 ?k2 ?k3 ?z ?_; (case k1 => k_asm); (case k2 => k_asm); (case k3 => k_upd); (case z => exact pop_room (by assumption) (by assumption))); intro h' F' N'; (try k_sweep)))

theorem draw_ctr {d : Addr} {many : Int} {t : Tok} (hm : 0 < many) (hb : many ≤ 1000) : Ctr 158 3 80 [d] [.ref d, .int many t] (fun h => DeckAt h d)
    (fun _ r h' => DeckAt h' d ∧ ∃ x t, r = .int x t ∧ 0 ≤ x ∧ x < many) := by
  intro prog w dp un gd env outer L s Q E S hd hu hpre hret
  obtain ⟨p, loose, mean, mg, mb, A₀, base, h₀, m, B, F, X, T, hf, hke, hds⟩ := S
  obtain ⟨vs, c, ns, hl, hi, hz, hc⟩ := hpre
  have N : News h₀ L s.heap [(d, listOf (List.toArray vs) c)] := fun p hp => by
    rw [List.mem_singleton.mp hp]
    exact ⟨hl, hds d (.head _)⟩
  refine wpAny_call ?_
  k_dflt (refine' code_defG ?k1 ?k2 ?k3 ?k4 ?k5 ?kA ?kF ?kK ?k6 ?k7 ?k8 ?k9 ?kB ?_ ?c2 ?c3 ?c4 ?c5; (case kA => exact rfl); (case kF => assumption); (case kK => assumption); (case k1 => k_asm); (case k2 => k_asm); (case k3 => k_asm); (case k4 => k_asm); (case k5 => k_asm); (case k6 => k_is); (case k7 => k_is); (case k8 => ktr_room); (case k9 => first | exact BindsTo.of_eq rfl | exact binds_K (by k_in) rfl (by k_is) rfl rfl rfl); (case c5 => decide); (case kB => exact locs rfl); (case c2 => exact rfl); (case c3 => exact rfl); (case c4 => exact rfl); k_whole; intro g' L' h' FG' F' N' B' X' T' kG'; (try dsimp only))
  have hG : ∀ b o, b ∉ [d] → s.heap.get? b = some o → g'.get? b = some o := fun b o hb e => kG' b o e hb
  refine wpAny_noRaise ?_
  clear F N B T X
  k_fold
  k_steps
  rename Fr _ _ _ _ => F₁
  rename News _ _ _ _ => N₁
  refine Halt.out ?_
  refine While_inv2 (fun n m nx => ∃ vs c ns, nx = [(d, listOf (List.toArray vs) c)] ∧ IntsAre vs ns ∧ ns.length ≤ 16 ∧ (∀ x ∈ ns, Cell x) ∧ n = ns.length ∧ m (Str.ofString "deck") = some (.ref d) ∧ m (Str.ofString "many") = some (.int many t)) F₁ N₁ ⟨_, _, _, rfl, hi, hz, hc, rfl, rfl, rfl⟩ ?_ PassesOwn.never
  clear hi hz hc hl
  rintro n m₁ nx h tk F₂ N₂ ⟨vs, c, ns, rfl, hi, hz, hc, rfl, hm1, hm2⟩
  replace F₂ := Fr.kst (ps := [(Str.ofString "deck", .ref d), (Str.ofString "many", .int many t)]) F₂ (by simp [hm1, hm2])
  dsimp only [kstB] at F₂
  clear F₁ N₁
  cases hi with
  | nil =>
    have hi : IntsAre [] [] := .nil
    (try k_unmd)
    (try k_fold)
    k_steps
    rename Fr _ _ _ _ => F4
    rename News _ _ _ _ => N4
    dsimp only
    show LeaveK _ _ _ _ _ _ _
    refine leaveK_ F4 N4 fun _ _ => hret _ _ _ (fun b o hb e => F4.keep b o (hG b o hb e)) ⟨⟨[], _, [], (N4 _ (.tail _ (.tail _ (.head _)))).1, hi, hz, hc⟩, _, _, rfl, Int.le_refl _, hm⟩
  | cons x tx hi' =>
    rename_i vs ns
    have hi : IntsAre (.int x tx :: vs) (x :: ns) := .cons x tx hi'
    (try k_unmd)
    (try k_fold)
    k_steps
    · exact absurd (by assumption : decide (x :: ns = []) = true) (by simp)
    · rename Fr _ _ _ _ => F4
      rename News _ _ _ _ => N4
      exact ⟨_, _, _, [(d, _)], ns.length, rfl, F4, fun p hp => N4 p (.tail _ hp), by simp, _, _, _, rfl, hi', by simp only [List.length_cons] at hz; omega, fun y hy => hc y (.tail _ hy), rfl, rfl, rfl⟩
    · rename Fr _ _ _ _ => F4
      rename News _ _ _ _ => N4
      rename List.length _ = _ => hl9
      rename IntsAre (List.set _ _ _) _ => hi9
      dsimp only
      show LeaveK _ _ _ _ _ _ _
      refine leaveK_ F4 N4 fun _ _ => hret _ _ _ (fun b o hb e => F4.keep b o (hG b o hb e)) ⟨⟨_, _, _, (N4 _ (.tail _ (.tail _ (.head _)))).1, hi9, by rw [hl9]; exact hz, ?_⟩, _, _, rfl, Int.fmod_nonneg_of_pos _ hm, Int.fmod_lt_of_pos _ hm⟩
      intro y hy
      rcases List.mem_cons.mp hy with rfl | hy
      · exact cell_div (hc x (.head _)) hm
      · exact hc y (.tail _ hy)
end Mine
end

section
open PySem PySem.W PySem.Spec PyProof.Rows PyProof.V PySem.Calls
set_option maxRecDepth 100000
set_option maxHeartbeats 8000000
theorem Mine.offC4 : True := by
  w_top off
  trivial
namespace Mine
local macro_rules | `(tactic| walk_at "no such key") => `(tactic| fail)
local macro_rules | `(tactic| walk_at "call ref cons nil") => `(tactic| (k_here; (with_reducible show wpAny _ _ (call (Value.ref 158) [Value.ref _, Value.int _ _]) _ _ _); k_dflt (refine' Ctr.useDI (draw_ctr ?h1 ?h2) ?k1 ?k2 ?k3 ?k4 ?k5 ?k6 ?k7 ?k8 ?k9 ?kU ?ki ?kz ?kc ?_; (case k1 => k_asm); (case k2 | k3 | k4 | k5 => k_asm); (case k6 | k7 => first | exact rfl | assumption); (case k8 => ktr_room); (case k9 => ktr_units); (case kU => k_updF); (case ki | kz | kc => assumption); (case h1 => omega); (case h2 => omega)); intro x' t' h' tk' ws' c' ns' F' N' hi' hz' hc' hx0' hx1'; (try dsimp only); (try dsimp only at N'); (try k_sweep)))
local macro_rules | `(tactic| k_all) => `(tactic| assumption)
local macro_rules | `(tactic| walk_at "eval ListComp Subscript cons") => `(tactic| (k_here; k_dflt (refine' ListComp_freeK ?k1 ?k2 ?k3 ?k4 ?_; (case k1 => with_unfolding_all rfl); (case k2 => rfl); (case k3 => decide); (case k4 => intro _; rfl)); (try k_fold)))

theorem getD_mem_of {menu : List Int} {k : Nat} (h : k < menu.length) : menu.getD k 0 ∈ menu := by
  rw [List.getD_eq_getElem?_getD, List.getElem?_eq_getElem h]
  exact List.getElem_mem h
theorem some_ctr {prog : Program} {w : World} {dp un : Nat} {gd : Option (List Code)} {env : Env} {outer : List Env} {A₀ : Around} {base h₀ : Heap} {L : Addr} {m : Str → Option Value} {news : List (Addr × Obj)} {mvs ws : List Value} {c0 c : Nat} {menu ns : List Int} {d mn : Addr} {most : Int} {t : Tok}
    {p : Program} {loose : List Str} {mean : ExcName → Option Value} {mg mb : Str → Option Value} {s : Shared} {Q E : Value → Shared → Prop}
    (B : Below A₀ base outer h₀) (F : Fr h₀ L s.heap m) (X : (Mine.hd.heap_39 w.params).In h₀) (T : Top p loose mean mg mb h₀)
    (hf : env.frame = some L) (hke : env.scope.kind = .function) (hd : dp + 6 < recursionLimit) (hu : un + 120 < cLine)
    (N : News h₀ L s.heap ((d, listOf (List.toArray ws) c) :: (mn, listOf (List.toArray mvs) c0) :: news)) (hdn : @Ne Nat d mn) (hoff : ∀ p ∈ news, p.1 ≠ d)
    (hi : IntsAre ws ns) (hz : ns.length ≤ 16) (hc : ∀ x ∈ ns, Cell x) (hmi : IntsAre mvs menu) (hm0 : 0 < menu.length) (hm1 : menu.length ≤ 8) (hb0 : 0 ≤ most) (hb1 : most ≤ 8)
    (ret : ∀ r vs cr rs ws' c' ns' h' tk', Fr h₀ L h' m → News h₀ L h' ((r, listOf (List.toArray vs) cr) :: (d, listOf (List.toArray ws') c') :: (mn, listOf (List.toArray mvs) c0) :: news) → (∀ p ∈ (d, listOf (List.toArray ws) c) :: (mn, listOf (List.toArray mvs) c0) :: news, p.1 < r) →
      IntsAre ws' ns' → ns'.length ≤ 16 → (∀ x ∈ ns', Cell x) → IntsAre vs rs → (rs.length : Int) ≤ most → (∀ x ∈ rs, x ∈ menu) → Q (.ref r) { s with heap := h', toks := tk' }) :
    wpAny (model prog w) (Ar dp un gd env outer) (call (.ref 163) [.ref d, .ref mn, .int most t]) Q E s := by
  refine wpAny_call ?_
  k_dflt (refine' code_defC ?k1 ?k2 ?k3 ?k4 ?k5 ?kA ?kF ?kK ?k6 ?k7 ?k8 ?k9 ?kB ?kD ?_ ?c2 ?c3 ?c4; (case kA => exact rfl); (case kF | kK => assumption); (case k1 | k2 | k3 | k4 | k5 => k_asm); (case k6 | k7 => k_is); (case k8 => ktr_room); (case k9 => first | exact BindsTo.of_eq rfl | exact binds_K (by k_in) rfl (by k_is) rfl rfl rfl); (case kB => exact rfl); (case kD => decide +kernel); (case c2 | c3 => exact rfl); (case c4 => exact rfl); k_whole; intro g' L' h1 tk1 cells' FG' F' N' Y' B' X' T' l1; (try k_lt l1); k_cells Y'; (try simp only [List.cons_append, List.nil_append] at N'); (try dsimp only))
  rename_i o1 o2 d1 d2
  refine wpAny_noRaise ?_
  clear F N B T X
  k_fold
  k_steps
  rename IsRange _ _ _ _ _ _ _ _ => rgX
  rename Fr _ _ _ _ => F₁
  rename News _ _ _ _ => N₁
  rename (_ : Int) < most + 1 => hx1
  rename (0 : Int) ≤ _ => hx0
  rename List.length _ ≤ 16 => hz₁
  rename IntsAre _ _ => hi₁
  rename ∀ _ ∈ _, Cell _ => hc₁
  obtain ⟨k, hk⟩ := Int.eq_ofNat_of_zero_le hx0
  subst hk
  refine comp_rangeK (by decide) rfl rfl rfl rgX (by omega) F₁ N₁ (fun i vs nx => ∃ ws c ns rs, nx = (L' + 1 + 1, o1) :: (L' + 1, o2) :: (d, listOf (List.toArray ws) c) :: (mn, listOf (List.toArray mvs) c0) :: news ∧ IntsAre ws ns ∧ ns.length ≤ 16 ∧ (∀ x ∈ ns, Cell x) ∧ IntsAre vs rs ∧ rs.length = i ∧ ∀ x ∈ rs, x ∈ menu) ?_ ?_ ?_
  · exact ⟨_, _, _, [], rfl, hi₁, hz₁, hc₁, .nil, rfl, fun _ h => nomatch h⟩
  · clear hi hz hc
    intro i vs nx D C I oD oC oI h tk hik hI'
    refine hide fun G hG => ?_
    obtain ⟨ws2, c2, ns2, rs, rfl, hi2, hz2, hc2, hvs, hrl, hrm⟩ := hI'
    refine hG ?_
    clear hG G
    intro hnx hoffI hID hDC F₂ N₂
    replace hoffI := allLt_of hoffI
    simp only [AllLt] at hoffI
    replace hID := ltN hID
    replace hDC := ltN hDC
    clear F₁ N₁ hi₁ hz₁ hc₁
    (try k_unmd)
    (try k_fold)
    k_steps
    rename Fr _ _ _ _ => F4
    rename News _ _ _ _ => N4
    rename IntsAre _ _ => hi4
    rename List.length _ ≤ 16 => hz4
    rename ∀ _ ∈ _, Cell _ => hc4
    rename _ < (List.length menu : Int) => hx3
    rename (0 : Int) ≤ _ => hx2
    refine CompEndK.mk (nx' := _ :: _ :: (d, _) :: _ :: news) F4 N4 (fun _ h => h) ?_ ⟨_, _, _, _, rfl, hi4, hz4, hc4, IntsAre.snoc hvs _ _, by rw [List.length_append, hrl]; rfl, ?_⟩
    · exact off3_cons hoffI.1 hID hDC (off3_cons hoffI.2.1 hID hDC (off3_cons hoffI.2.2.1 hID hDC (off3_cons hoffI.2.2.2.1 hID hDC (off3_all hoffI.2.2.2.2 hID hDC))))
    · intro y hy
      rcases List.mem_append.mp hy with hy | hy
      · exact hrm y hy
      · rw [List.mem_singleton.mp hy]
        exact getD_mem_of (by omega)
  · intro vs nx D cc h tk hI'
    refine hide fun G hG => ?_
    obtain ⟨ws2, c2, ns2, rs, rfl, hi2, hz2, hc2, hvs, hrl, hrm⟩ := hI'
    refine hG ?_
    clear hG G
    intro hoffD hnx F₂ N₂
    refine leaveK_ (news' := (D, listOf (List.toArray vs) cc) :: (d, listOf (List.toArray ws2) c2) :: (mn, listOf (List.toArray mvs) c0) :: news) F₂ (fun p hp => N₂ p ?_) fun kF kN => ret D vs cc rs ws2 c2 ns2 h tk kF kN (fun p hp => ?_) hi2 hz2 hc2 hvs (by omega) hrm
    · rcases List.mem_cons.mp hp with rfl | hp
      · exact .head _
      · exact .tail _ (.tail _ (.tail _ hp))
    · rcases List.mem_cons.mp hp with rfl | hp
      · have h9 := hoffD _ (List.Mem.tail _ (List.Mem.tail _ (List.Mem.head _)))
        exact h9
      · exact hoffD p (.tail _ (.tail _ (.tail _ hp)))
end Mine
end

section
open PySem PySem.W PySem.Spec PyProof.Rows PyProof.V PySem.Calls
set_option maxRecDepth 100000
set_option maxHeartbeats 8000000
namespace Mine
theorem some_use {prog : Program} {w : World} {dp un : Nat} {gd : Option (List Code)} {env : Env} {outer : List Env} {A₀ : Around} {base h₀ : Heap} {L : Addr} {m : Str → Option Value} {news : List (Addr × Obj)} {G : Obj → List (Addr × Obj)} {mvs ws : List Value} {c0 c : Nat} {menu ns : List Int} {d mn : Addr} {most : Int} {t : Tok}
    {p : Program} {loose : List Str} {mean : ExcName → Option Value} {mg mb : Str → Option Value} {s : Shared} {Q E : Value → Shared → Prop}
    (B : Below A₀ base outer h₀) (F : Fr h₀ L s.heap m) (X : (Mine.hd.heap_39 w.params).In h₀) (N : News h₀ L s.heap news) (T : Top p loose mean mg mb h₀)
    (hf : env.frame = some L) (hke : env.scope.kind = .function) (hd : dp + 6 < recursionLimit) (hu : un + 120 < cLine)
    (U : UpdF d (listOf (List.toArray ws) c) news G) (hmn : (mn, listOf (List.toArray mvs) c0) ∈ news) (hdn : @Ne Nat d mn)
    (hi : IntsAre ws ns) (hz : ns.length ≤ 16) (hc : ∀ x ∈ ns, Cell x) (hmi : IntsAre mvs menu) (hm0 : 0 < menu.length) (hm1 : menu.length ≤ 8) (hb0 : 0 ≤ most) (hb1 : most ≤ 8)
    (ret : ∀ r vs cr rs ws' c' ns' h' tk', Fr h₀ L h' m → News h₀ L h' ((r, listOf (List.toArray vs) cr) :: G (listOf (List.toArray ws') c')) → (∀ p ∈ news, p.1 < r) →
      IntsAre ws' ns' → ns'.length ≤ 16 → (∀ x ∈ ns', Cell x) → IntsAre vs rs → (rs.length : Int) ≤ most → (∀ x ∈ rs, x ∈ menu) → Q (.ref r) { s with heap := h', toks := tk' }) :
    wpAny (model prog w) (Ar dp un gd env outer) (call (.ref 163) [.ref d, .ref mn, .int most t]) Q E s := by
  obtain ⟨pre, post, rfl, hg, h1, h2⟩ := U.split
  have hd0 : (d, listOf (List.toArray ws) c) ∈ pre ++ (d, listOf (List.toArray ws) c) :: post := List.mem_append_right _ (.head _)
  refine some_ctr (news := pre ++ post) (c := c) (c0 := c0) B F X T hf hke hd hu (fun p hp => ?_) hdn (fun p hp => ?_) hi hz hc hmi hm0 hm1 hb0 hb1 fun r vs cr rs ws' c' ns' h' tk' F' N' hl hi' hz' hc' hv hb hm => ret r vs cr rs ws' c' ns' h' tk' F' (fun p hp => ?_) (fun p hp => ?_) hi' hz' hc' hv hb hm
  · rcases List.mem_cons.mp hp with rfl | hp
    · exact N _ hd0
    · rcases List.mem_cons.mp hp with rfl | hp
      · exact N _ hmn
      · rcases List.mem_append.mp hp with hp | hp
        · exact N _ (List.mem_append_left _ hp)
        · exact N _ (List.mem_append_right _ (.tail _ hp))
  · exact (List.mem_append.mp hp).elim (h1 p) (h2 p)
  · rcases List.mem_cons.mp hp with rfl | hp
    · exact N' _ (.head _)
    · rw [hg] at hp
      rcases List.mem_append.mp hp with hp | hp
      · exact N' _ (.tail _ (.tail _ (.tail _ (List.mem_append_left _ hp))))
      · rcases List.mem_cons.mp hp with rfl | hp
        · exact N' _ (.tail _ (.head _))
        · exact N' _ (.tail _ (.tail _ (.tail _ (List.mem_append_right _ hp))))
  · rcases List.mem_append.mp hp with hp | hp
    · exact hl _ (.tail _ (.tail _ (List.mem_append_left _ hp)))
    · rcases List.mem_cons.mp hp with rfl | hp
      · exact hl _ (.head _)
      · exact hl _ (.tail _ (.tail _ (List.mem_append_right _ hp)))
end Mine
end

section
open PySem PySem.W PySem.Spec PyProof.Rows PyProof.V PySem.Calls
set_option maxRecDepth 100000
set_option maxHeartbeats 8000000
theorem Mine.offC5 : True := by
  w_top off
  trivial
namespace Mine
local macro_rules | `(tactic| k_room) => `(tactic| ktr_room)
local macro_rules | `(tactic| walk_at "call ref cons nil") => `(tactic| (k_here; (with_reducible show wpAny _ _ (call (Value.ref 111) [Value.ref _, Value.ref _]) _ _ _); k_dflt (refine' Ctr.useI (edits_ctr ?h1 ?h2) ?k1 ?k2 ?k3 ?k4 ?k5 ?k6 ?k7 ?k8 ?k9 ?kp ?_; (case k1 => k_asm); (case k2 | k3 | k4 | k5 => k_asm); (case k6 | k7 => first | exact rfl | assumption); (case k8 => ktr_room); (case k9 => ktr_units); (case kp => exact ⟨LAt.news (by k_asm) (by k_mem) (by assumption), LAt.news (by k_asm) (by k_mem) (by assumption)⟩); (case h1 => assumption); (case h2 => assumption)); intro t' h' tk' F' N'; (try dsimp only); (try k_sweep)))

theorem far_ctr {l1 l2 : Addr} {ns1 ns2 : List Int} (hz1 : ns1.length ≤ 1000) (hz2 : ns2.length ≤ 1000) :
    Ctr 170 9 60 [] [.ref l1, .ref l2] (fun h => LAt h l1 ns1 ∧ LAt h l2 ns2) (fun _ r _ => ∃ t, r = .int (lev ns1 ns2) t) := by
  intro prog w dp un gd env outer L s Q E S hd hu hpre hret
  obtain ⟨p, loose, mean, mg, mb, A₀, base, h₀, m, B, F, X, T, hf, hke, -⟩ := S
  have N : News h₀ L s.heap [] := News.nil
  obtain ⟨⟨vs1, k1, hl1, hi1⟩, ⟨vs2, k2, hl2, hi2⟩⟩ := hpre
  refine wpAny_call ?_
  k_dflt (refine' code_defG ?k1 ?k2 ?k3 ?k4 ?k5 ?kA ?kF ?kK ?k6 ?k7 ?k8 ?k9 ?kB ?_ ?c2 ?c3 ?c4 ?c5; (case kA => exact rfl); (case kF => assumption); (case kK => assumption); (case k1 => k_asm); (case k2 => k_asm); (case k3 => k_asm); (case k4 => k_asm); (case k5 => k_asm); (case k6 => k_is); (case k7 => k_is); (case k8 => ktr_room); (case k9 => first | exact BindsTo.of_eq rfl | exact binds_K (by k_in) rfl (by k_is) rfl rfl rfl); (case c5 => decide); (case kB => exact locs rfl); (case c2 => exact rfl); (case c3 => exact rfl); (case c4 => exact rfl); k_whole; intro g' L' h' FG' F' N' B' X' T' kG'; (try dsimp only))
  have hG : ∀ b o, s.heap.get? b = some o → g'.get? b = some o := fun b o e => kG' b o e (fun h => nomatch h)
  have hg1 := hG _ _ hl1
  have hg2 := hG _ _ hl2
  have hL1 : g'.IsList l1 vs1.toArray := ⟨_, hg1, rfl, _, rfl⟩
  have hL2 : g'.IsList l2 vs2.toArray := ⟨_, hg2, rfl, _, rfl⟩
  refine fin_halt ?_
  clear F N B T X
  k_fold
  k_steps
  rename Fr g' _ _ _ => F4
  rename News g' _ _ _ => N4
  refine Halt.out ?_
  exact leaveK_ F4 N4 fun _ _ => hret _ _ _ (fun b o _ e => F4.keep b o (hG b o e)) ⟨_, rfl⟩
end Mine
end

section
open PySem PySem.W PySem.Spec PyProof.Rows PyProof.V PySem.Calls
set_option maxRecDepth 100000
set_option maxHeartbeats 8000000
theorem Mine.offC6 : True := by
  w_top off
  trivial
namespace Mine
local macro_rules | `(tactic| walk_at "no such key") => `(tactic| fail)
local macro_rules | `(tactic| k_room) => `(tactic| ktr_room)
local macro_rules | `(tactic| walk_at "call ref cons nil") => `(tactic| (k_here; (with_reducible show wpAny _ _ (call (Value.ref 139) [Value.ref _, Value.ref _]) _ _ _); k_dflt (refine' Ctr.useV (vl_ctr ?h1 ?h2) ?k1 ?k2 ?k3 ?k4 ?k5 ?k6 ?k7 ?k8 ?k9 ?kp ?_; (case k1 => k_asm); (case k2 | k3 | k4 | k5 => k_asm); (case k6 | k7 => first | exact rfl | assumption); (case k8 => ktr_room); (case k9 => ktr_units); (case kp => exact ⟨LAt.news (by k_asm) (by k_mem) (by assumption), LAt.news (by k_asm) (by k_mem) (by assumption)⟩); (case h1 => assumption); (case h2 => assumption)); intro h' tk' F' N'; (try dsimp only); (try k_sweep)))

theorem before_ctr {l1 l2 : Addr} {ns1 ns2 : List Int} (hz1 : ns1.length ≤ 1000) (hz2 : ns2.length ≤ 1000) :
    Ctr 191 14 100 [] [.ref l1, .ref l2] (fun h => LAt h l1 ns1 ∧ LAt h l2 ns2) (fun _ r _ => r = .bool (vless ns1 ns2)) := by
  intro prog w dp un gd env outer L s Q E S hd hu hpre hret
  obtain ⟨p, loose, mean, mg, mb, A₀, base, h₀, m, B, F, X, T, hf, hke, -⟩ := S
  have N : News h₀ L s.heap [] := News.nil
  obtain ⟨⟨vs1, k1, hl1, hi1⟩, ⟨vs2, k2, hl2, hi2⟩⟩ := hpre
  refine wpAny_call ?_
  k_dflt (refine' code_defG ?k1 ?k2 ?k3 ?k4 ?k5 ?kA ?kF ?kK ?k6 ?k7 ?k8 ?k9 ?kB ?_ ?c2 ?c3 ?c4 ?c5; (case kA => exact rfl); (case kF => assumption); (case kK => assumption); (case k1 => k_asm); (case k2 => k_asm); (case k3 => k_asm); (case k4 => k_asm); (case k5 => k_asm); (case k6 => k_is); (case k7 => k_is); (case k8 => ktr_room); (case k9 => first | exact BindsTo.of_eq rfl | exact binds_K (by k_in) rfl (by k_is) rfl rfl rfl); (case c5 => decide); (case kB => exact locs rfl); (case c2 => exact rfl); (case c3 => exact rfl); (case c4 => exact rfl); k_whole; intro g' L' h' FG' F' N' B' X' T' kG'; (try dsimp only))
  have hG : ∀ b o, s.heap.get? b = some o → g'.get? b = some o := fun b o e => kG' b o e (fun h => nomatch h)
  have hg1 := hG _ _ hl1
  have hg2 := hG _ _ hl2
  have hL1 : g'.IsList l1 vs1.toArray := ⟨_, hg1, rfl, _, rfl⟩
  have hL2 : g'.IsList l2 vs2.toArray := ⟨_, hg2, rfl, _, rfl⟩
  refine fin_halt ?_
  clear F N B T X
  k_fold
  k_steps
  all_goals (rename Fr g' _ _ _ => F4)
  all_goals (rename News g' _ _ _ => N4)
  all_goals (rename vless ns1 ns2 = _ => hv)
  all_goals (refine Halt.out ?_)
  all_goals (exact leaveK_ F4 N4 fun _ _ => hret _ _ _ (fun b o _ e => F4.keep b o (hG b o e)) (bool_eq hv.symm))
end Mine
end

section
namespace Mine
/-- the distance of two lists, from their heads -/
def lv : List Int → List Int → Nat
  | [], b => b.length
  | _ :: a, [] => a.length + 1
  | x :: a, y :: b => min (min (lv a b + (if x = y then 0 else 1)) (lv a (y :: b) + 1)) (lv (x :: a) b + 1)
termination_by a b => a.length + b.length

theorem lv_nil (a : List Int) : lv a [] = a.length := by cases a <;> simp [lv]
theorem lv_nil' (a : List Int) : lv [] a = a.length := by simp [lv]
theorem lv_cons (x y : Int) (a b : List Int) : lv (x :: a) (y :: b) = min (min (lv a b + (if x = y then 0 else 1)) (lv a (y :: b) + 1)) (lv (x :: a) b + 1) := by rw [lv]

inductive Ed : List Int → List Int → Nat → Prop
  | nil : Ed [] [] 0
  | keep (x : Int) {a b : List Int} {n : Nat} : Ed a b n → Ed (x :: a) (x :: b) n
  | sub (x y : Int) {a b : List Int} {n : Nat} : Ed a b n → Ed (x :: a) (y :: b) (n + 1)
  | del (x : Int) {a b : List Int} {n : Nat} : Ed a b n → Ed (x :: a) b (n + 1)
  | ins (y : Int) {a b : List Int} {n : Nat} : Ed a b n → Ed a (y :: b) (n + 1)

theorem Ed.insAll : ∀ b : List Int, Ed [] b b.length
  | [] => .nil
  | y :: b => .ins y (Ed.insAll b)
theorem Ed.delAll : ∀ a : List Int, Ed a [] a.length
  | [] => .nil
  | x :: a => .del x (Ed.delAll a)
theorem min3_cases (p q r : Nat) : min (min p q) r = p ∨ min (min p q) r = q ∨ min (min p q) r = r := by omega
theorem lv_ed : ∀ a b : List Int, Ed a b (lv a b)
  | [], b => by rw [lv_nil']; exact .insAll b
  | x :: a, [] => by rw [lv_nil]; exact .delAll (x :: a)
  | x :: a, y :: b => by
    rw [lv_cons]
    rcases min3_cases (lv a b + (if x = y then 0 else 1)) (lv a (y :: b) + 1) (lv (x :: a) b + 1) with h | h | h <;> rw [h]
    · by_cases e : x = y
      · subst e; simpa using Ed.keep x (lv_ed a b)
      · simpa [e] using Ed.sub x y (lv_ed a b)
    · exact .del x (lv_ed a (y :: b))
    · exact .ins y (lv_ed (x :: a) b)
termination_by a b => a.length + b.length
theorem lv_del (x : Int) (a b : List Int) : lv (x :: a) b ≤ lv a b + 1 := by
  cases b with
  | nil => simp [lv_nil]
  | cons y b => rw [lv_cons]; omega
theorem lv_ins (y : Int) (a b : List Int) : lv a (y :: b) ≤ lv a b + 1 := by
  cases a with
  | nil => simp [lv_nil']
  | cons x a => rw [lv_cons]; omega
theorem ed_lv {a b : List Int} {n : Nat} (h : Ed a b n) : lv a b ≤ n := by
  induction h with
  | nil => simp [lv]
  | keep x _ ih => rw [lv_cons]; simp only [if_true]; omega
  | sub x y _ ih => rw [lv_cons]; split <;> omega
  | @del x a b n _ ih => have := lv_del x a b; omega
  | @ins y a b n _ ih => have := lv_ins y a b; omega
theorem Ed.symm {a b : List Int} {n : Nat} (h : Ed a b n) : Ed b a n := by
  induction h with
  | nil => exact .nil
  | keep x _ ih => exact .keep x ih
  | sub x y _ ih => exact .sub y x ih
  | del x _ ih => exact .ins x ih
  | ins y _ ih => exact .del y ih
theorem Ed.refl : ∀ a : List Int, Ed a a 0
  | [] => .nil
  | x :: a => .keep x (Ed.refl a)
theorem Ed.app {a b c d : List Int} {n m : Nat} (h : Ed a b n) (k : Ed c d m) : Ed (a ++ c) (b ++ d) (n + m) := by
  induction h with
  | nil => simpa using k
  | keep x _ ih => exact .keep x ih
  | @sub x y a b n _ ih => have := Ed.sub x y ih; rw [show n + 1 + m = n + m + 1 by omega]; exact this
  | @del x a b n _ ih => have := Ed.del x ih; rw [show n + 1 + m = n + m + 1 by omega]; exact this
  | @ins y a b n _ ih => have := Ed.ins y ih; rw [show n + 1 + m = n + m + 1 by omega]; exact this
theorem Ed.rev {a b : List Int} {n : Nat} (h : Ed a b n) : Ed a.reverse b.reverse n := by
  induction h with
  | nil => exact .nil
  | keep x _ ih => simpa using ih.app (Ed.keep x .nil)
  | sub x y _ ih => simpa using ih.app (Ed.sub x y .nil)
  | del x _ ih => simpa using ih.app (Ed.del x .nil)
  | ins y _ ih => simpa using ih.app (Ed.ins y .nil)
theorem lv_comm (a b : List Int) : lv a b = lv b a := Nat.le_antisymm (ed_lv (lv_ed b a).symm) (ed_lv (lv_ed a b).symm)
theorem lv_refl (a : List Int) : lv a a = 0 := Nat.le_zero.mp (ed_lv (Ed.refl a))
theorem lv_app (a b c d : List Int) : lv (a ++ c) (b ++ d) ≤ lv a b + lv c d := ed_lv ((lv_ed a b).app (lv_ed c d))
theorem lv_rev (a b : List Int) : lv a.reverse b.reverse = lv a b := by
  refine Nat.le_antisymm (ed_lv (lv_ed a b).rev) ?_
  have := ed_lv (lv_ed a.reverse b.reverse).rev
  simpa using this
theorem lv_lo : ∀ a b : List Int, a.length ≤ lv a b + b.length ∧ b.length ≤ lv a b + a.length
  | [], b => by simp [lv_nil']
  | x :: a, [] => by simp [lv_nil]
  | x :: a, y :: b => by
    have h1 := lv_lo a b
    have h2 := lv_lo a (y :: b)
    have h3 := lv_lo (x :: a) b
    rw [lv_cons]
    simp only [List.length_cons] at *
    split <;> omega
termination_by a b => a.length + b.length
theorem lv_sub (x y : Int) (a b : List Int) : lv (x :: a) (y :: b) ≤ lv a b + (if x = y then 0 else 1) := by
  rw [lv_cons]; exact Nat.le_trans (Nat.min_le_left _ _) (Nat.min_le_left _ _)
theorem cost_le (x y : Int) : (if x = y then 0 else 1) ≤ 1 := by split <;> decide
theorem max_step {d p q e : Nat} (h : d ≤ max p q) (he : e ≤ 1) : d + e ≤ max (p + 1) (q + 1) := by omega
theorem lv_hi : ∀ a b : List Int, lv a b ≤ max a.length b.length
  | [], b => by rw [lv_nil']; exact Nat.le_max_right _ _
  | x :: a, [] => by rw [lv_nil]; exact Nat.le_max_left _ _
  | x :: a, y :: b => Nat.le_trans (lv_sub x y a b) (max_step (lv_hi a b) (cost_le x y))
theorem lv_zero : ∀ a b : List Int, lv a b = 0 → a = b
  | [], b, h => by rw [lv_nil'] at h; exact (List.length_eq_zero_iff.mp h).symm
  | x :: a, [], h => by rw [lv_nil] at h; cases h
  | x :: a, y :: b, h => by
    rw [lv_cons] at h
    by_cases e : x = y
    · rw [if_pos e] at h
      rw [e, lv_zero a b (by omega)]
    · rw [if_neg e] at h
      omega
theorem lv_less (y : Int) (b : List Int) : ∀ c : List Int, lv b c ≤ lv (y :: b) c + 1
  | [] => by rw [lv_nil, lv_nil, List.length_cons]; exact Nat.le_add_right _ 2
  | z :: c => by
    have h1 := lv_less y b c
    have h2 := lv_ins z b c
    rw [lv_cons]
    rcases min3_cases (lv b c + (if y = z then 0 else 1)) (lv b (z :: c) + 1) (lv (y :: b) c + 1) with h | h | h <;> rw [h] <;> clear h <;> generalize (if y = z then 0 else 1) = e <;> omega
theorem turn (x y : Int) {a b : List Int} {n k : Nat} (ih : ∀ c, lv a c ≤ n + lv b c) (hk : ∀ z, (if x = z then 0 else 1) ≤ k + (if y = z then 0 else 1)) : ∀ c : List Int, lv (x :: a) c ≤ n + k + lv (y :: b) c
  | [] => by have := ih []; rw [lv_nil, lv_nil] at *; simp only [List.length_cons]; omega
  | z :: c => by
    have g1 := lv_sub x z a c
    have g2 := lv_del x a (z :: c)
    have g3 := lv_ins z (x :: a) c
    have h1 := ih c
    have h2 := ih (z :: c)
    have h3 := turn x y ih hk c
    have hz := hk z
    rw [lv_cons y z]
    revert g1 hz
    generalize (if x = z then 0 else 1) = d
    generalize (if y = z then 0 else 1) = e
    intro g1 hz
    rcases min3_cases (lv b c + e) (lv b (z :: c) + 1) (lv (y :: b) c + 1) with h | h | h <;> rw [h] <;> clear h <;> omega
theorem ed_tri {a b : List Int} {n : Nat} (h : Ed a b n) : ∀ c, lv a c ≤ n + lv b c := by
  induction h with
  | nil => intro c; rw [Nat.zero_add]; exact Nat.le_refl _
  | @keep x a b n _ ih => exact turn (k := 0) x x ih (fun z => by rw [Nat.zero_add]; exact Nat.le_refl _)
  | @sub x y a b n _ ih => exact turn (k := 1) x y ih (fun z => Nat.le_trans (cost_le x z) (Nat.le_add_right _ _))
  | @del x a b n _ ih => intro c; have := lv_del x a c; have := ih c; omega
  | @ins y a b n _ ih => intro c; have := lv_less y b c; have := ih c; omega
theorem lv_tri (a b c : List Int) : lv a c ≤ lv a b + lv b c := ed_tri (lv_ed a b) c

theorem take_rev {a : List Int} {i : Nat} (h : i < a.length) : (a.take (i + 1)).reverse = a.getD i 0 :: (a.take i).reverse := by
  rw [List.take_add_one, List.getElem?_eq_getElem h, List.getD_eq_getElem?_getD, List.getElem?_eq_getElem h]
  simp
theorem min_cast (p q : Nat) : min (p : Int) (q : Int) = ((min p q : Nat) : Int) := by omega
theorem cost_cast (x y : Int) : (if x = y then 0 else 1 : Int) = ((if x = y then 0 else 1 : Nat) : Int) := by split <;> rfl
theorem min_up (p q r : Nat) (x y : Int) : min (min ((p : Int) + (if x = y then 0 else 1)) ((q : Int) + 1)) ((r : Int) + 1) = ((min (min (p + (if x = y then 0 else 1)) (q + 1)) (r + 1) : Nat) : Int) := by
  rw [cost_cast]
  exact (congrArg (min · ((r : Int) + 1)) (min_cast _ (q + 1))).trans (min_cast _ (r + 1))
theorem D_lv (a b : List Int) : ∀ i j : Nat, i ≤ a.length → j ≤ b.length → D a b i j = (lv (a.take i).reverse (b.take j).reverse : Int)
  | 0, j, _, hj => by
    rw [D]
    simp [lv_nil', Nat.min_eq_left hj]
  | i + 1, 0, hi, _ => by
    rw [D]
    simp [lv_nil, Nat.min_eq_left hi]
  | i + 1, j + 1, hi, hj => by
    rw [D, D_lv a b i j (by omega) (by omega), D_lv a b i (j + 1) (by omega) hj, D_lv a b (i + 1) j hi (by omega), take_rev hi, take_rev hj, lv_cons]
    exact min_up _ _ _ _ _
termination_by i j => i + j
theorem lev_lv (a b : List Int) : lev a b = (lv a b : Int) := by
  unfold lev
  rw [D_lv a b _ _ (Nat.le_refl _) (Nat.le_refl _), List.take_length, List.take_length, lv_rev]
theorem lev_zero (a b : List Int) : lev a b = 0 ↔ a = b := by
  rw [lev_lv]
  constructor
  · intro h; exact lv_zero a b (by omega)
  · rintro rfl; rw [lv_refl]; rfl
theorem lev_refl (a : List Int) : lev a a = 0 := (lev_zero a a).mpr rfl
theorem lev_comm (a b : List Int) : lev a b = lev b a := by rw [lev_lv, lev_lv, lv_comm]
theorem lev_tri (a b c : List Int) : lev a b ≤ lev a c + lev c b := by
  rw [lev_lv, lev_lv, lev_lv]
  have := lv_tri a c b
  omega
theorem lev_lo (a b : List Int) : (a.length : Int) - b.length ≤ lev a b ∧ (b.length : Int) - a.length ≤ lev a b := by
  rw [lev_lv]
  have := lv_lo a b
  omega
theorem lev_hi (a b : List Int) : lev a b ≤ max (a.length : Int) b.length := by
  rw [lev_lv]
  have := lv_hi a b
  omega
theorem lev_join (a b c d : List Int) : lev (a ++ c) (b ++ d) ≤ lev a b + lev c d := by
  rw [lev_lv, lev_lv, lev_lv]
  have := lv_app a b c d
  omega
theorem lv_head (x : Int) (a b : List Int) : lv (x :: a) (x :: b) = lv a b := by
  refine Nat.le_antisymm (ed_lv (Ed.keep x (lv_ed a b))) ?_
  rw [lv_cons, if_pos rfl]
  have h1 : lv a b ≤ lv a (x :: b) + 1 := by
    have h := lv_tri a (x :: b) b
    have h' := ed_lv (Ed.del x (Ed.refl b))
    omega
  have h2 : lv a b ≤ lv (x :: a) b + 1 := by
    have h := lv_tri a (x :: a) b
    have h' := ed_lv (Ed.ins x (Ed.refl a))
    omega
  omega
theorem lv_front (f a b : List Int) : lv (f ++ a) (f ++ b) = lv a b := by
  induction f with
  | nil => rfl
  | cons x f ih => rw [List.cons_append, List.cons_append, lv_head, ih]
theorem lv_back (r a b : List Int) : lv (a ++ r) (b ++ r) = lv a b := by
  rw [← lv_rev, List.reverse_append, List.reverse_append, lv_front, lv_rev]
theorem lev_led (f a b r : List Int) : lev (f ++ a ++ r) (f ++ b ++ r) = lev a b := by
  rw [lev_lv, lev_lv, lv_back, lv_front]
theorem lev_ins (a : List Int) (p : Nat) (x : Int) : lev a (a.take p ++ [x] ++ a.drop p) = 1 := by
  have h := lev_led (a.take p) [] [x] (a.drop p)
  rw [List.append_nil, List.take_append_drop] at h
  rw [h, lev_lv, lv_nil']
  rfl
theorem lev_ins' (a : List Int) (p : Nat) (x : Int) : lev (a.take p ++ [x] ++ a.drop p) a = 1 := by rw [lev_comm, lev_ins]
theorem lev_sub (a : List Int) {p : Nat} (hp : p < a.length) (x : Int) : lev a (a.take p ++ [x] ++ a.drop (p + 1)) = if a.getD p 0 = x then 0 else 1 := by
  have h := lev_led (a.take p) [a.getD p 0] [x] (a.drop (p + 1))
  have e : a.take p ++ [a.getD p 0] ++ a.drop (p + 1) = a := by
    rw [List.append_assoc, List.singleton_append, ← drop_at hp, List.take_append_drop]
  rw [e] at h
  rw [h, lev_lv, lv_cons]
  simp only [lv_nil, lv_nil']
  generalize a.getD p 0 = y
  by_cases c : y = x <;> simp [c]

section
variable {a b c : List Int}
theorem met1 : ((lev a b == 0) != decide (a = b)) = false := by
  by_cases h : a = b
  · subst h
    simp [lev_refl]
  · have : lev a b ≠ 0 := fun e => h ((lev_zero a b).mp e)
    simp [this, h]
theorem met1' (h : ((lev a b == 0) != decide (a = b)) = true) : False := by rw [met1] at h; cases h
theorem met2 (h : lev b a ≠ lev a b) : False := h (lev_comm b a)
theorem met3 (h : lev a a ≠ 0) : False := h (lev_refl a)
theorem met4 (h : lev a c + lev c b < lev a b) : False := by have := lev_tri a b c; omega
theorem met5 : decide (lev a b ≤ if (b.length : Int) > a.length then (b.length : Int) else a.length) = true := by
  have := lev_hi a b
  apply decide_eq_true
  split <;> omega
theorem met6 (h : ¬ (if (a.length : Int) - b.length < 0 then -((a.length : Int) - b.length) else (a.length : Int) - b.length) ≤ lev a b) : False := by
  have := lev_lo a b
  split at h <;> omega
end

section
variable {a b c d f r : List Int}
theorem led1 (h : lev (f ++ a ++ r) (f ++ b ++ r) ≠ lev a b) : False := h (lev_led f a b r)
theorem led2 {p : Nat} {x : Int} (h : lev a (a.take p ++ [x] ++ a.drop p) ≠ 1) : False := h (lev_ins a p x)
theorem led3 {p : Nat} {x : Int} (h : lev (a.take p ++ [x] ++ a.drop p) a ≠ 1) : False := h (lev_ins' a p x)
theorem led4 {x y : Int} (h : lev a (a.take x.toNat ++ [y] ++ a.drop (x + 1).toNat) ≠ if (a.getD x.toNat 0 != y) = true then 1 else 0) (h0 : 0 ≤ x) (h1 : x < a.length) : False := by
  apply h
  rw [show (x + 1).toNat = x.toNat + 1 by omega, lev_sub a (by omega) y]
  by_cases c : a.getD x.toNat 0 = y
  · rw [if_pos c, c]; simp
  · rw [if_neg c, if_pos (by simpa using c)]
theorem led5 : decide (lev (a ++ c) (b ++ d) ≤ lev a b + lev c d) = true := decide_eq_true (lev_join a b c d)
end
end Mine
end

section
namespace Mine
/-- a name's words: a number (of figures) or a sign -/
inductive Wd where
  | num (n : Int)
  | sign (c : Int)
/-- the words of a name -/
def wds : List Int → List Wd
  | [] => []
  | c :: r => if h : isFig c = true then .num (numGo 0 (c :: r)).1 :: wds (numGo 0 (c :: r)).2 else .sign c :: wds r
termination_by a => a.length
decreasing_by
  · exact numGo_lt h
  · simp
/-- where a word stands: a sign below the figures, a number, a sign above them -/
def Wd.key : Wd → Int × Int
  | .num n => (0, n)
  | .sign c => if c < 48 then (-1, c) else (1, c)
abbrev keyLt (p q : Int × Int) : Prop := p.1 < q.1 ∨ (p.1 = q.1 ∧ p.2 < q.2)
def lex : List (Int × Int) → List (Int × Int) → Bool
  | [], b => decide (0 < b.length)
  | _ :: _, [] => false
  | p :: a, q :: b => if p = q then lex a b else decide (keyLt p q)
def keys (a : List Int) : List (Int × Int) := (wds a).map Wd.key
theorem keys_nil : keys [] = [] := by simp [keys, wds]
theorem keys_num {c : Int} {r : List Int} (h : isFig c = true) : keys (c :: r) = (0, (numGo 0 (c :: r)).1) :: keys (numGo 0 (c :: r)).2 := by
  unfold keys
  rw [wds, dif_pos h]
  rfl
theorem keys_sign {c : Int} {r : List Int} (h : ¬ isFig c = true) : keys (c :: r) = (if c < 48 then (-1, c) else (1, c)) :: keys r := by
  unfold keys
  rw [wds, dif_neg h]
  rfl
theorem fig_iff {c : Int} : isFig c = true ↔ 48 ≤ c ∧ c ≤ 57 := by simp [isFig]
theorem keys_len (a : List Int) (h : a ≠ []) : 0 < (keys a).length := by
  cases a with
  | nil => exact absurd rfl h
  | cons c r =>
    by_cases hc : isFig c = true
    · rw [keys_num hc]; simp
    · rw [keys_sign hc]; simp
theorem vless_lex : ∀ a b : List Int, vless a b = lex (keys a) (keys b)
  | [], b => by
    rw [vless, keys_nil, lex]
    congr 1
    apply propext
    constructor
    · intro h; exact keys_len b (by intro e; rw [e] at h; simp at h)
    · intro h
      cases b with
      | nil => rw [keys_nil] at h; simp at h
      | cons => simp
  | x :: a, [] => by
    rw [vless, keys_nil]
    have := keys_len (x :: a) (by simp)
    cases h : keys (x :: a) with
    | nil => rw [h] at this; simp at this
    | cons => rw [lex]
  | x :: a, y :: b => by
    rw [vless]
    by_cases hx : isFig x = true
    · by_cases hy : isFig y = true
      · rw [dif_pos ⟨hx, hy⟩, keys_num hx, keys_num hy, lex]
        have ih := vless_lex (numGo 0 (x :: a)).2 (numGo 0 (y :: b)).2
        by_cases e : (numGo 0 (x :: a)).1 = (numGo 0 (y :: b)).1
        · rw [if_pos e, if_pos (by rw [e]), ih]
        · rw [if_neg e, if_neg (by simpa using e)]
          congr 1
          simp [keyLt]
      · rw [dif_neg (fun h => hy h.2), keys_num hx, keys_sign hy, lex]
        have h1 := fig_iff.mp hx
        have h2 : ¬ (48 ≤ y ∧ y ≤ 57) := fun h => hy (fig_iff.mpr h)
        rw [if_neg (by intro e; rw [e] at hx; exact hy hx)]
        by_cases hl : y < 48
        · rw [if_pos hl, if_neg (by simp)]
          congr 1
          simp only [keyLt]
          apply propext
          omega
        · rw [if_neg hl, if_neg (by simp)]
          congr 1
          simp only [keyLt]
          apply propext
          omega
    · rw [dif_neg (fun h => hx h.1)]
      have h2 : ¬ (48 ≤ x ∧ x ≤ 57) := fun h => hx (fig_iff.mpr h)
      by_cases hy : isFig y = true
      · rw [keys_sign hx, keys_num hy, lex]
        have h1 := fig_iff.mp hy
        rw [if_neg (by intro e; rw [e] at hx; exact hx hy)]
        by_cases hl : x < 48
        · rw [if_pos hl, if_neg (by simp)]
          congr 1
          simp only [keyLt]
          apply propext
          omega
        · rw [if_neg hl, if_neg (by simp)]
          congr 1
          simp only [keyLt]
          apply propext
          omega
      · rw [keys_sign hx, keys_sign hy, lex]
        have h3 : ¬ (48 ≤ y ∧ y ≤ 57) := fun h => hy (fig_iff.mpr h)
        have ih := vless_lex a b
        by_cases e : x = y
        · rw [if_pos e, if_pos (by rw [e]), ih]
        · rw [if_neg e]
          by_cases hl : x < 48 <;> by_cases hm : y < 48 <;> simp only [hl, hm, if_true, if_false]
          · rw [if_neg (by simpa using e)]
            congr 1
            simp [keyLt]
          · rw [if_neg (by simp)]
            congr 1
            simp only [keyLt]
            apply propext
            omega
          · rw [if_neg (by simp)]
            congr 1
            simp only [keyLt]
            apply propext
            omega
          · rw [if_neg (by simpa using e)]
            congr 1
            simp [keyLt]
termination_by a => a.length
decreasing_by
  · exact numGo_lt hx
  · simp

theorem lex_irr : ∀ a, lex a a = false
  | [] => by simp [lex]
  | p :: a => by rw [lex, if_pos rfl]; exact lex_irr a
theorem lex_asym : ∀ a b, lex a b = true → lex b a = false
  | [], [], h => by simp [lex] at h
  | [], _ :: _, _ => by rw [lex]
  | _ :: _, [], h => by rw [lex] at h; cases h
  | p :: a, q :: b, h => by
    rw [lex] at h
    by_cases e : p = q
    · rw [if_pos e] at h
      rw [lex, if_pos e.symm]
      exact lex_asym a b h
    · rw [if_neg e] at h
      rw [lex, if_neg (fun x => e x.symm)]
      refine decide_eq_false fun k => ?_
      have h := of_decide_eq_true h
      simp only [keyLt] at h k
      omega
theorem lex_trans : ∀ a b c, lex a b = true → lex b c = true → lex a c = true
  | [], [], _, h, _ => by simp [lex] at h
  | [], _ :: _, [], _, k => by rw [lex] at k; cases k
  | [], _ :: _, _ :: _, _, _ => by simp [lex]
  | _ :: _, [], _, h, _ => by rw [lex] at h; cases h
  | _ :: _, _ :: _, [], _, k => by rw [lex] at k; cases k
  | p :: a, q :: b, r :: c, h, k => by
    rw [lex] at h k ⊢
    by_cases e : p = q
    · subst e
      rw [if_pos rfl] at h
      by_cases e' : p = r
      · rw [if_pos e'] at k ⊢
        exact lex_trans a b c h k
      · rw [if_neg e'] at k ⊢
        exact k
    · rw [if_neg e] at h
      by_cases e' : q = r
      · subst e'
        rw [if_neg e]
        exact h
      · rw [if_neg e'] at k
        have h := of_decide_eq_true h
        have k := of_decide_eq_true k
        simp only [keyLt] at h k
        have e2 : p ≠ r := by rintro rfl; omega
        rw [if_neg e2]
        refine decide_eq_true ?_
        simp only [keyLt]
        omega
theorem lex_total : ∀ a b, lex a b = false → lex b a = false → a = b
  | [], [], _, _ => rfl
  | [], _ :: _, h, _ => by simp [lex] at h
  | _ :: _, [], _, k => by simp [lex] at k
  | p :: a, q :: b, h, k => by
    rw [lex] at h k
    by_cases e : p = q
    · rw [if_pos e] at h
      rw [if_pos e.symm] at k
      rw [e, lex_total a b h k]
    · rw [if_neg e] at h
      rw [if_neg (fun x => e x.symm)] at k
      have h := of_decide_eq_false h
      have k := of_decide_eq_false k
      simp only [keyLt] at h k
      exfalso
      apply e
      obtain ⟨p1, p2⟩ := p
      obtain ⟨q1, q2⟩ := q
      simp only at h k
      congr 1 <;> omega
theorem vless_irr (a : List Int) : vless a a = false := by rw [vless_lex, lex_irr]
theorem vless_asym {a b : List Int} (h : vless a b = true) : vless b a = false := by rw [vless_lex] at *; exact lex_asym _ _ h
theorem vless_trans {a b c : List Int} (h : vless a b = true) (k : vless b c = true) : vless a c = true := by rw [vless_lex] at *; exact lex_trans _ _ _ h k
theorem vless_same {a b : List Int} (h : vless a b = false) (k : vless b a = false) (c : List Int) : vless a c = vless b c ∧ vless c a = vless c b := by
  rw [vless_lex] at h k
  simp only [vless_lex]
  rw [lex_total _ _ h k]
  exact ⟨rfl, rfl⟩

section
variable {a b c : List Int}
theorem ord1 (h : vless a a = true) : False := by rw [vless_irr] at h; cases h
theorem ord2 (h : vless a b = true) (k : vless b a = true) : False := by rw [vless_asym h] at k; cases k
theorem ord4 (h : vless a b = true) (k : vless b c = true) (l : vless a c = false) : False := by rw [vless_trans h k] at l; cases l
theorem ord7 (h : vless a b = false) (k : vless b a = false) : (vless c a == vless c b) = true := by rw [(vless_same h k c).2]; exact beq_self_eq_true _
theorem ord8 (h : vless a b = false) (k : vless b a = false) (l : (vless a c == vless b c) = false) : False := by
  rw [(vless_same h k c).1, beq_self_eq_true] at l
  cases l
end
end Mine
end

section
open PySem PySem.W PySem.Spec PyProof.Rows PyProof.V PySem.Calls
set_option maxRecDepth 100000
set_option maxHeartbeats 8000000
theorem Mine.offC7 : True := by
  w_top off
  trivial
namespace Mine
local macro_rules | `(tactic| k_room) => `(tactic| ktr_room)
local macro_rules | `(tactic| walk_at "call ref cons nil") => `(tactic| (k_here; (with_reducible show wpAny _ _ (call (Value.ref 170) [Value.ref _, Value.ref _]) _ _ _); k_dflt (refine' Ctr.useI (far_ctr ?h1 ?h2) ?k1 ?k2 ?k3 ?k4 ?k5 ?k6 ?k7 ?k8 ?k9 ?kp ?_; (case k1 => k_asm); (case k2 | k3 | k4 | k5 => k_asm); (case k6 | k7 => first | exact rfl | assumption); (case k8 => ktr_room); (case k9 => ktr_units); (case kp => exact ⟨LAt.of (by k_asm) (by assumption) (by assumption), LAt.of (by k_asm) (by assumption) (by assumption)⟩); (case h1 => assumption); (case h2 => assumption)); intro t' h' tk' F' N'; (try dsimp only); (try k_sweep)))

theorem metric_ctr {l1 l2 l3 : Addr} {ns1 ns2 ns3 : List Int} (hz1 : ns1.length ≤ 1000) (hz2 : ns2.length ≤ 1000) (hz3 : ns3.length ≤ 1000) :
    Ctr 177 10 80 [] [.ref l1, .ref l2, .ref l3] (fun h => LAt h l1 ns1 ∧ LAt h l2 ns2 ∧ LAt h l3 ns3) (fun _ r _ => r = .bool true) := by
  intro prog w dp un gd env outer L s Q E S hd hu hpre hret
  obtain ⟨p, loose, mean, mg, mb, A₀, base, h₀, m, B, F, X, T, hf, hke, -⟩ := S
  have N : News h₀ L s.heap [] := News.nil
  obtain ⟨⟨vs1, k1, hl1, hi1⟩, ⟨vs2, k2, hl2, hi2⟩, ⟨vs3, k3, hl3, hi3⟩⟩ := hpre
  refine wpAny_call ?_
  k_dflt (refine' code_defG ?k1 ?k2 ?k3 ?k4 ?k5 ?kA ?kF ?kK ?k6 ?k7 ?k8 ?k9 ?kB ?_ ?c2 ?c3 ?c4 ?c5; (case kA => exact rfl); (case kF => assumption); (case kK => assumption); (case k1 => k_asm); (case k2 => k_asm); (case k3 => k_asm); (case k4 => k_asm); (case k5 => k_asm); (case k6 => k_is); (case k7 => k_is); (case k8 => ktr_room); (case k9 => first | exact BindsTo.of_eq rfl | exact binds_K (by k_in) rfl (by k_is) rfl rfl rfl); (case c5 => decide); (case kB => exact locs rfl); (case c2 => exact rfl); (case c3 => exact rfl); (case c4 => exact rfl); k_whole; intro g' L' h' FG' F' N' B' X' T' kG'; (try dsimp only))
  have hG : ∀ b o, s.heap.get? b = some o → g'.get? b = some o := fun b o e => kG' b o e (fun h => nomatch h)
  have hg1 := hG _ _ hl1
  have hg2 := hG _ _ hl2
  have hg3 := hG _ _ hl3
  have hL1 : g'.IsList l1 vs1.toArray := ⟨_, hg1, rfl, _, rfl⟩
  have hL2 : g'.IsList l2 vs2.toArray := ⟨_, hg2, rfl, _, rfl⟩
  have hL3 : g'.IsList l3 vs3.toArray := ⟨_, hg3, rfl, _, rfl⟩
  refine fin_halt ?_
  clear F N B T X
  k_fold
  k_steps
  · exact (met1' (by assumption)).elim
  · exact (met2 (by assumption)).elim
  · exact (met3 (by assumption)).elim
  · exact (met4 (by assumption)).elim
  · rename Fr g' _ _ _ => F4
    rename News g' _ _ _ => N4
    refine Halt.out ?_
    exact leaveK_ F4 N4 fun _ _ => hret _ _ _ (fun b o _ e => F4.keep b o (hG b o e)) (bool_eq met5)
  · exact (met6 (by assumption)).elim
end Mine
end

section
open PySem PySem.W PySem.Spec PyProof.Rows PyProof.V PySem.Calls
set_option maxRecDepth 100000
set_option maxHeartbeats 8000000
theorem Mine.offC8 : True := by
  w_top off
  trivial
namespace Mine
local macro_rules | `(tactic| walk_at "no such key") => `(tactic| fail)
local macro_rules | `(tactic| k_room) => `(tactic| ktr_room)
local macro_rules | `(tactic| walk_at "call ref cons nil") => `(tactic| (k_here; (with_reducible show wpAny _ _ (call (Value.ref 191) [Value.ref _, Value.ref _]) _ _ _); k_dflt (refine' Ctr.useV (before_ctr ?h1 ?h2) ?k1 ?k2 ?k3 ?k4 ?k5 ?k6 ?k7 ?k8 ?k9 ?kp ?_; (case k1 => k_asm); (case k2 | k3 | k4 | k5 => k_asm); (case k6 | k7 => first | exact rfl | assumption); (case k8 => ktr_room); (case k9 => ktr_units); (case kp => exact ⟨LAt.of (by k_asm) (by assumption) (by assumption), LAt.of (by k_asm) (by assumption) (by assumption)⟩); (case h1 => assumption); (case h2 => assumption)); intro h' tk' F' N'; (try dsimp only); (try k_sweep)))

theorem order_ctr {l1 l2 l3 : Addr} {ns1 ns2 ns3 : List Int} (hz1 : ns1.length ≤ 1000) (hz2 : ns2.length ≤ 1000) (hz3 : ns3.length ≤ 1000) :
    Ctr 198 15 120 [] [.ref l1, .ref l2, .ref l3] (fun h => LAt h l1 ns1 ∧ LAt h l2 ns2 ∧ LAt h l3 ns3) (fun _ r _ => r = .bool true) := by
  intro prog w dp un gd env outer L s Q E S hd hu hpre hret
  obtain ⟨p, loose, mean, mg, mb, A₀, base, h₀, m, B, F, X, T, hf, hke, -⟩ := S
  have N : News h₀ L s.heap [] := News.nil
  obtain ⟨⟨vs1, k1, hl1, hi1⟩, ⟨vs2, k2, hl2, hi2⟩, ⟨vs3, k3, hl3, hi3⟩⟩ := hpre
  refine wpAny_call ?_
  k_dflt (refine' code_defG ?k1 ?k2 ?k3 ?k4 ?k5 ?kA ?kF ?kK ?k6 ?k7 ?k8 ?k9 ?kB ?_ ?c2 ?c3 ?c4 ?c5; (case kA => exact rfl); (case kF => assumption); (case kK => assumption); (case k1 => k_asm); (case k2 => k_asm); (case k3 => k_asm); (case k4 => k_asm); (case k5 => k_asm); (case k6 => k_is); (case k7 => k_is); (case k8 => ktr_room); (case k9 => first | exact BindsTo.of_eq rfl | exact binds_K (by k_in) rfl (by k_is) rfl rfl rfl); (case c5 => decide); (case kB => exact locs rfl); (case c2 => exact rfl); (case c3 => exact rfl); (case c4 => exact rfl); k_whole; intro g' L' h' FG' F' N' B' X' T' kG'; (try dsimp only))
  have hG : ∀ b o, s.heap.get? b = some o → g'.get? b = some o := fun b o e => kG' b o e (fun h => nomatch h)
  have hg1 := hG _ _ hl1
  have hg2 := hG _ _ hl2
  have hg3 := hG _ _ hl3
  have hL1 : g'.IsList l1 vs1.toArray := ⟨_, hg1, rfl, _, rfl⟩
  have hL2 : g'.IsList l2 vs2.toArray := ⟨_, hg2, rfl, _, rfl⟩
  have hL3 : g'.IsList l3 vs3.toArray := ⟨_, hg3, rfl, _, rfl⟩
  refine fin_halt ?_
  clear F N B T X
  k_fold
  k_steps
  · exact (ord1 (by assumption)).elim
  · exact (ord2 (a := ns1) (b := ns2) (by assumption) (by assumption)).elim
  · rename Fr g' _ _ _ => F4
    rename News g' _ _ _ => N4
    dsimp only
    show Halt _
    refine Halt.out ?_
    exact leaveK_ F4 N4 fun _ _ => hret _ _ _ (fun b o _ e => F4.keep b o (hG b o e)) rfl
  · exact (ord4 (a := ns1) (b := ns2) (c := ns3) (by assumption) (by assumption) (by assumption)).elim
  · rename Fr g' _ _ _ => F4
    rename News g' _ _ _ => N4
    dsimp only
    show Halt _
    refine Halt.out ?_
    exact leaveK_ F4 N4 fun _ _ => hret _ _ _ (fun b o _ e => F4.keep b o (hG b o e)) rfl
  · rename Fr g' _ _ _ => F4
    rename News g' _ _ _ => N4
    dsimp only
    show Halt _
    refine Halt.out ?_
    exact leaveK_ F4 N4 fun _ _ => hret _ _ _ (fun b o _ e => F4.keep b o (hG b o e)) rfl
  · rename Fr g' _ _ _ => F4
    rename News g' _ _ _ => N4
    refine Halt.out ?_
    exact leaveK_ F4 N4 fun _ _ => hret _ _ _ (fun b o _ e => F4.keep b o (hG b o e)) (bool_eq (ord7 (a := ns1) (b := ns2) (by assumption) (by assumption)))
  · exact (ord8 (a := ns1) (b := ns2) (c := ns3) (by assumption) (by assumption) (by assumption)).elim
end Mine
end

section
open PySem PySem.W PySem.Spec PyProof.Rows PyProof.V PySem.Calls
set_option maxRecDepth 100000
set_option maxHeartbeats 8000000
namespace Mine
section
variable {prog : Program} {w : World} {A : Around} {E : Value → Shared → Prop} {s : Shared} {env : Env} {h₀ : Heap} {L : Addr}
theorem comp_rangeU {elt iter : Expr} {x : Str} {px : Pos} {scope : Scope} {cl : List (Str × Addr)} {pos : Pos} {k : Nat} {r : Addr} {t₀ u₀ v₀ : Tok} {m : Str → Option Value} {news : List (Addr × Obj)} {Q : Value → Shared → Prop}
    {y : Str} {py : Pos}
    (hL : env.locals = L) (hy : env.kindOf y = some .local) (hpp : (env.scope.kind == .class || (env.scope.kind == .module && env.locals != env.globals)) = false)
    (hcell : ∀ y ∈ scope.names, y.2 ≠ .cell) (hkind : scope.kind = .function) (hx : scope.names.lookup x = some .local) (hh : A.handled = none)
    (hr : IsRange s.heap r 0 (k : Int) 1 t₀ u₀ v₀) (hk : k ≤ 1000) (F : Fr h₀ L s.heap m) (N : News h₀ L s.heap news)
    (J : Nat → List Value → List (Addr × Obj) → Prop) (hJ : J 0 [] news)
    (turn : ∀ i vs nx D C I oD oC oI h tk, i < k → J i vs nx → (∀ p ∈ nx, p.1 ≠ C ∧ p.1 ≠ D ∧ p.1 ≠ I) → (∀ p ∈ news, p.1 < I) → I < D → D < C → Fr h₀ L h m → News h₀ L h ((C, oC) :: (D, oD) :: (I, oI) :: nx) →
      wpAny (model prog w) A (eval elt (compEnvC scope cl C env)) (CompEndK h₀ L m s C D I oC oD oI fun y nx' => J (i + 1) (vs ++ [y]) nx') (fun _ _ => False) { s with heap := h, toks := tk })
    (done : ∀ vs nx D c h tk, J k vs nx → (∀ p ∈ news, p.1 < D) → (∀ p ∈ nx, p.1 ≠ D) → Fr h₀ L h (fun z => if z = y then some (.ref D) else m z) → News h₀ L h ((D, listOf (List.toArray vs) c) :: nx) → Q .none { s with heap := h, toks := tk }) :
    wpAny (model prog w) A (pyIter (.ref r)) (fun it s₂ => wpAny (model prog w) A (newList []) (fun acc s₃ =>
      wpAny (model prog w) A (newFunctionEnv scope env.globals cl [] env.qual none .none (some env)) (fun cenv s₄ =>
        codeAny (model prog w) A (.compStart (.ListComp elt [⟨.Name x px, iter, [], 0⟩] scope pos) 0 it acc { cenv with scope := relabel scope env }) (compPost (model prog w) A E (some (assign (.Name y py) env)) Q acc cenv.locals) s₄) E s₃) E s₂) E s := by
  refine comp_range hcell hkind hx hh hr hk F N J hJ turn fun vs nx D C I c mC h tk hJ' hoff off hLC hLD hCD hC0 hC F' N' => ?_
  show wpAny _ A (assign (.Name y py) env (.ref D)) _ _ _
  refine wpAny_assign_Name (wpAny_storeName_local hy (by rw [hL]; exact F'.ns) (fun h₂ hn₂ hs₂ => ?_) hpp)
  rw [hL] at hn₂ hs₂
  refine ⟨mC, hC.sameBut hs₂ (Ne.symm hLC), fun h₃ hs₃ => ?_⟩
  have k2 : ∀ b o, b ≠ L → b ≠ C → h.get? b = some o → h₃.get? b = some o := fun b o hl hc e => (hs₃.2 b hc).trans ((hs₂.2 b hl).trans e)
  refine done vs nx D c h₃ _ hJ' off (fun p hp => (hoff p hp).2.1) ⟨hn₂.sameBut hs₃ hLC, fun b o e => k2 b o (Nat.ne_of_lt (Nat.lt_of_lt_of_le (Heap.lt_size e) F'.above)) (fun q => ?_) (F'.keep b o e), F'.above⟩ fun p hp => ⟨k2 _ _ (N' p hp).2.1 (fun q => ?_) (N' p hp).1, (N' p hp).2⟩
  · have e' := e
    rw [q, hC0] at e'
    cases e'
  · rcases List.mem_cons.mp hp with rfl | hp
    · exact hCD q.symm
    · exact (hoff p hp).1 q
end

section
variable {M : Model} {A : Around} {E : Value → Shared → Prop} {s : Shared} {env : Env}
/-- a list comprehension put under a plain name -/
theorem Assign_ListCompK {elt iter : Expr} {x y : Str} {px py : Pos} {scope : Scope} {cl : List (Str × Addr)} {pos spos : Pos} {Q : Flow → Shared → Prop}
    (hsw : swapsWith (.ListComp elt [⟨.Name x px, iter, [], 0⟩] scope pos) (some (.Name y py)) spos.line env = pure true)
    (hclos : closureFor scope env = pure cl) (hkind : scope.kind = .function) (hnames : ∀ y ∈ scope.names, y.2 = .local → scope.names.lookup y.1 = some .local) (hs : ∀ x, foldedSetIterable iter env x = pure x)
    (h : wpAny M A (eval iter env) (fun x' s₁ => wpAny M A (pyIter x') (fun it s₂ => wpAny M A (newList []) (fun acc s₃ =>
      wpAny M A (newFunctionEnv scope env.globals cl [] env.qual none .none (some env)) (fun cenv s₄ =>
        codeAny M A (.compStart (.ListComp elt [⟨.Name x px, iter, [], 0⟩] scope pos) 0 it acc { cenv with scope := relabel scope env }) (compPost M A E (some (assign (.Name y py) env)) (fun _ s' => Q .next s') acc cenv.locals) s₄) E s₃) E s₂) E s₁) E s) :
    wpAny M A (exec (.Assign [.Name y py] (.ListComp elt [⟨.Name x px, iter, [], 0⟩] scope pos) spos) env) Q E s := by
  rw [exec_Assign_Name_used _ _ _ _ hsw]
  refine wpAny_bind (wpAny_standAt (wpAny_bind ?_))
  show wpAny _ A (do let _ ← comprehension (.ListComp elt [⟨.Name x px, iter, [], 0⟩] scope pos) scope env _ (newList []) false (eval iter env) (some (assign (.Name y py) env))) _ _ s
  exact wpAny_bind (wpAny_mono (wpAny_comprehension_free (use := some (assign (.Name y py) env)) (Q := fun _ s' => Q .next s') rfl hs hclos hkind hnames h) (fun _ s' hq => wpAny_pure (wpAny_pure hq)) fun _ _ e => e)
end

/-- the end of a turn of a loop over a range -/
def RangeEnd (h₀ : Heap) (L : Addr) (s : Shared) (it : Addr) (oi : Obj) (J : (Str → Option Value) → List (Addr × Obj) → Prop) (f : Flow) (s₂ : Shared) : Prop :=
  f = .next ∧ ∃ h' tk' m' nx', s₂ = { s with heap := h', toks := tk' } ∧ Fr h₀ L h' m' ∧ News h₀ L h' ((it, oi) :: nx') ∧ (∀ p ∈ nx', p.1 ≠ it) ∧ J m' nx'
theorem RangeEnd.mk {h₀ : Heap} {L : Addr} {s : Shared} {it : Addr} {oi : Obj} {J : (Str → Option Value) → List (Addr × Obj) → Prop} {h' : Heap} {tk' : Nat} {m' : Str → Option Value} {news nx' : List (Addr × Obj)}
    (F : Fr h₀ L h' m') (N : News h₀ L h' news) (hn : ∀ p ∈ (it, oi) :: nx', p ∈ news) (ho : ∀ p ∈ nx', p.1 ≠ it) (hJ : J m' nx') : RangeEnd h₀ L s it oi J .next { s with heap := h', toks := tk' } :=
  ⟨rfl, h', tk', m', nx', rfl, F, fun p hp => N p (hn p hp), ho, hJ⟩

section
variable {prog : Program} {w : World} {A : Around} {E : Value → Shared → Prop} {s : Shared} {env : Env} {h₀ : Heap} {L : Addr}
theorem For_rangeK {x : Str} {px : Pos} {body : List Stmt} {k : Nat} {r : Addr} {t₀ u₀ v₀ : Tok} {m : Str → Option Value} {news : List (Addr × Obj)} {Q : Flow → Shared → Prop}
    (hL : env.locals = L) (hh : A.handled = none) (hx : env.kindOf x = some .local)
    (hp : (env.scope.kind == .class || (env.scope.kind == .module && env.locals != env.globals)) = false)
    (hr : IsRange s.heap r 0 (k : Int) 1 t₀ u₀ v₀) (hk : k ≤ 1000) (F : Fr h₀ L s.heap m) (N : News h₀ L s.heap news)
    (J : Nat → (Str → Option Value) → List (Addr × Obj) → Prop) (hJ : J 0 m news)
    (turn : ∀ i t tk m₁ nx h it oi, i < k → J i m₁ nx → (∀ p ∈ news, p.1 < it) → (∀ p ∈ nx, p.1 ≠ it) →
      Fr h₀ L h (fun y => if y = x then some (.int i t) else m₁ y) → News h₀ L h ((it, oi) :: nx) →
      wpAny (model prog w) A (execs body env) (RangeEnd h₀ L s it oi (J (i + 1))) (fun _ _ => False) { s with heap := h, toks := tk })
    (done : ∀ m nx h tk, J k m nx → Fr h₀ L h m → News h₀ L h nx → Q .next { s with heap := h, toks := tk }) :
    wpAny (model prog w) A (pyIter (.ref r)) (fun it s₂ =>
      codeAny (model prog w) A (.forLoop (.Name x px) it body [] env) (fun r s' => match r with | .ok f => Q f s' | .error e => cameBackBy (model prog w) A env E e s') s₂) E s := by
  subst hL
  have hn : Builtin.Range.rangeSize 0 (k : Int) 1 = (k : Int) := by rw [rangeSize_one]; split <;> omega
  refine wpAny_pyIter_range hr (small_one (by decide) (by decide) (by omega) (by omega)) ?_
  rw [hn]
  have hLlt : env.locals < s.heap.objs.size := F.ns.lt
  have hb0 : h₀.objs.size ≤ s.heap.objs.size := Nat.le_trans F.above (Nat.le_of_lt F.ns.lt)
  obtain ⟨I, hI⟩ : ∃ I, s.heap.objs.size = I := ⟨_, rfl⟩
  rw [hI] at hLlt hb0
  rw [hI]
  have hIo : (s.heap.push { cls := .type "range_iterator", data := .fields #[rawInt 0, rawInt (k : Int), rawInt 1] }).get? I = some { cls := .type "range_iterator", data := .fields #[rawInt 0, rawInt (k : Int), rawInt 1] } := by
    rw [← hI]; exact Heap.get?_push_size _ rfl
  have F1 : Fr h₀ env.locals (s.heap.push { cls := .type "range_iterator", data := .fields #[rawInt 0, rawInt (k : Int), rawInt 1] }) m := F.push _
  have N1 : News h₀ env.locals (s.heap.push { cls := .type "range_iterator", data := .fields #[rawInt 0, rawInt (k : Int), rawInt 1] }) news := N.grown fun b o e => Heap.get?_push_of_some _ e
  have off : ∀ p ∈ news, p.1 < I := fun p hp => by rw [← hI]; exact Heap.lt_size (N p hp).1
  generalize s.heap.push { cls := .type "range_iterator", data := .fields #[rawInt 0, rawInt (k : Int), rawInt 1] } = H1 at hIo F1 N1 ⊢
  have lt_of : ∀ b o, h₀.get? b = some o → b < I := fun b o e => Nat.lt_of_lt_of_le (Heap.lt_size e) hb0
  have noneI : h₀.get? I = none := Heap.get?_none_of_le hb0
  have hIL : env.locals ≠ I := Nat.ne_of_lt hLlt
  refine codeAny_forLoop (fun q s' => ∃ h' tk m' nx i, s' = { s with heap := h', toks := tk } ∧ IsRangeIter h' I (0 + (i : Nat) * 1) ((k : Int) - (i : Nat)) 1 ∧
      Fr h₀ env.locals h' m' ∧ News h₀ env.locals h' nx ∧ (∀ p ∈ nx, p.1 ≠ I) ∧ J i m' nx ∧ i ≤ k ∧ q = k + 1 - i) ?_ (k + 1)
    ⟨H1, s.toks, m, news, 0, rfl, by simpa using hIo, F1, N1, (fun p hp => Nat.ne_of_lt (off p hp)), hJ, Nat.zero_le _, rfl⟩
  intro q s' hI
  refine hide fun G hG => ?_
  obtain ⟨H, tk, m', nx, i, rfl, hit, F', N', hoff, hJ', hile, rfl⟩ := hI
  refine hG ?_
  clear hG G
  by_cases hlt : i < k
  · refine wpAny_pyNext_range_item hit (by omega) fun h₁ hit₁ hs₁ => ?_
    have k1 : ∀ b o, b ≠ I → H.get? b = some o → h₁.get? b = some o := fun b o hb e => hs₁.extBut b o hb e
    have F₁ : Fr h₀ env.locals h₁ m' := ⟨F'.ns.at' fun o e => k1 _ o hIL e, fun b o e => k1 b o (Nat.ne_of_lt (lt_of b o e)) (F'.keep b o e), F'.above⟩
    refine wpAny_assign_Name (wpAny_storeName_local hx F₁.ns (fun h₂ hn₂ hs₂ => ?_) hp)
    have NI : News h₀ env.locals h₁ ((I, _) :: nx) := fun p hp => by
      rcases List.mem_cons.mp hp with rfl | hp
      · exact ⟨hit₁, hIL.symm, noneI⟩
      · exact ⟨k1 _ _ (hoff p hp) (N' p hp).1, (N' p hp).2⟩
    have F₂ := F₁.set hn₂ hs₂
    have N₂ := NI.set hs₂
    have e0 : (0 : Int) + (i : Nat) * 1 = (i : Int) := by omega
    rw [e0] at F₂
    refine wpAny_mono (turn i _ _ m' nx h₂ I _ hlt hJ' off hoff F₂ N₂) (fun f s₃ h₃ => ?_) fun _ _ x => x.elim
    refine hide fun G hG => ?_
    obtain ⟨rfl, h', tk', m₂, nx', rfl, F₃, N₃, ho₃, hJ₃⟩ := h₃
    refine hG ?_
    clear hG G
    refine ⟨k + 1 - (i + 1), by omega, h', tk', m₂, nx', i + 1, rfl, ?_, F₃, fun p hp => N₃ p (.tail _ hp), ho₃, hJ₃, hlt, rfl⟩
    have e1 : (0 : Int) + ((i + 1 : Nat) : Int) * 1 = 0 + (i : Nat) * 1 + 1 := by push_cast; omega
    have e2 : (k : Int) - ((i + 1 : Nat) : Int) = (k : Int) - (i : Nat) - 1 := by push_cast; omega
    rw [e1, e2]
    exact (N₃ _ (.head _)).1
  · have hin : i = k := by omega
    subst hin
    refine wpAny_pyNext_range_end hh hit (by omega) fun h₁ he₁ => wpAny_execs_nil ?_
    exact done m' nx h₁ tk hJ' ⟨F'.ns.at' fun o e => he₁ _ o hIL e, fun b o e => he₁ b o (Nat.ne_of_lt (lt_of b o e)) (F'.keep b o e), F'.above⟩ fun p hp => ⟨he₁ _ _ (hoff p hp) (N' p hp).1, (N' p hp).2⟩
end
end Mine
end

section
open PySem PySem.W PySem.Spec PyProof.Rows PyProof.V PySem.Calls
set_option maxRecDepth 100000
set_option maxHeartbeats 8000000
namespace Mine
theorem deck_len (f : Int → Int) (script : List Int) : (List.map f (List.take 16 script)).length ≤ 16 := by
  rw [List.length_map, List.length_take]; omega
theorem deck_cell (f : Int → Int) (n : Nat) (hn : (10 : Int) ^ n = 10 ^ 30) (script : List Int) : ∀ x ∈ List.map (fun k' => (f k').fmod (10 ^ n)) (List.take 16 script), Cell x := by
  intro x hx
  obtain ⟨k', _, rfl⟩ := List.mem_map.mp hx
  rw [hn]
  exact ⟨Int.fmod_nonneg_of_pos _ (by decide), Int.fmod_lt_of_pos _ (by decide)⟩
/-- words among what was made -/
def Words (rest : List (Addr × Obj)) : List Value → Prop
  | [] => True
  | v :: vs => (∃ r ws c rs, v = .ref r ∧ (r, listOf (List.toArray ws) c) ∈ rest ∧ IntsAre ws rs ∧ rs.length ≤ 5) ∧ Words rest vs
theorem Words.mono {r r' : List (Addr × Obj)} (h : ∀ p ∈ r, p ∈ r') : ∀ {vs}, Words r vs → Words r' vs
  | [], _ => trivial
  | _ :: _, ⟨⟨a, ws, c, rs, h1, h2, h3, h4⟩, t⟩ => ⟨⟨a, ws, c, rs, h1, h _ h2, h3, h4⟩, Words.mono h t⟩
theorem Words.snoc {r : List (Addr × Obj)} {a : Addr} {ws : List Value} {c : Nat} {rs : List Int} (h2 : (a, listOf (List.toArray ws) c) ∈ r) (h3 : IntsAre ws rs) (h4 : rs.length ≤ 5) : ∀ {vs}, Words r vs → Words r (vs ++ [.ref a])
  | [], _ => ⟨⟨a, ws, c, rs, rfl, h2, h3, h4⟩, trivial⟩
  | _ :: _, ⟨x, t⟩ => ⟨x, Words.snoc h2 h3 h4 t⟩
/-- where the deck and the words made so far lie -/
def Hand (ce : Addr) (oc : Obj) (d : Addr) (i : Nat) (vs : List Value) (nx : List (Addr × Obj)) : Prop :=
  ∃ ws c ns rest, nx = (ce, oc) :: (d, listOf (List.toArray ws) c) :: rest ∧ (∀ p ∈ rest, p.1 ≠ d) ∧ IntsAre ws ns ∧ ns.length ≤ 16 ∧ (∀ x ∈ ns, Cell x) ∧ Words rest vs ∧ vs.length = i
theorem Hand.elim {ce d : Addr} {oc : Obj} {i : Nat} {vs : List Value} {nx : List (Addr × Obj)} {G : Prop} (h : Hand ce oc d i vs nx)
    (k : ∀ ws c ns rest, nx = (ce, oc) :: (d, listOf (List.toArray ws) c) :: rest → (∀ p ∈ rest, p.1 ≠ d) → IntsAre ws ns → ns.length ≤ 16 → (∀ x ∈ ns, Cell x) → Words rest vs → vs.length = i → G) : G :=
  let ⟨ws, c, ns, rest, e, x⟩ := h; k ws c ns rest e x.1 x.2.1 x.2.2.1 x.2.2.2.1 x.2.2.2.2.1 x.2.2.2.2.2
theorem Words.one {rest : List (Addr × Obj)} {v : Value} {vs : List Value} {G : Prop} (h : Words rest (v :: vs))
    (k : ∀ r ws c rs, v = .ref r → (r, listOf (List.toArray ws) c) ∈ rest → IntsAre ws rs → rs.length ≤ 5 → Words rest vs → G) : G :=
  let ⟨⟨r, ws, c, rs, x⟩, t⟩ := h; k r ws c rs x.1 x.2.1 x.2.2.1 x.2.2.2 t
theorem five_sub {X : Type} {a b c d e : X} {r : List X} (h1 : c ∈ r) (h2 : d ∈ r) (h3 : e ∈ r) : ∀ p ∈ [a, b, c, d, e], p ∈ a :: b :: r :=
  List.forall_mem_cons.mpr ⟨.head _, List.forall_mem_cons.mpr ⟨.tail _ (.head _), List.forall_mem_cons.mpr ⟨.tail _ (.tail _ h1), List.forall_mem_cons.mpr ⟨.tail _ (.tail _ h2), List.forall_mem_cons.mpr ⟨.tail _ (.tail _ h3), fun _ h => nomatch h⟩⟩⟩⟩⟩
theorem Hand.three {ce d : Addr} {oc : Obj} {vs : List Value} {nx : List (Addr × Obj)} {G : Prop} (h : Hand ce oc d 3 vs nx)
    (k : ∀ r1 ws1 c1 ns1 r2 ws2 c2 ns2 r3 ws3 c3 ns3 ws c ns, vs = [.ref r1, .ref r2, .ref r3] → @Ne Nat r1 d → @Ne Nat r2 d → @Ne Nat r3 d → IntsAre ws ns → ns.length ≤ 16 → (∀ x ∈ ns, Cell x) →
      IntsAre ws1 ns1 → ns1.length ≤ 5 → IntsAre ws2 ns2 → ns2.length ≤ 5 → IntsAre ws3 ns3 → ns3.length ≤ 5 →
      (∀ p ∈ [(ce, oc), (d, listOf (List.toArray ws) c), (r1, listOf (List.toArray ws1) c1), (r2, listOf (List.toArray ws2) c2), (r3, listOf (List.toArray ws3) c3)], p ∈ nx) → G) : G := by
  refine h.elim fun ws c ns rest e hd hi hz hc hw hl => ?_
  obtain _ | ⟨a, _ | ⟨b, _ | ⟨e, _ | ⟨f, t⟩⟩⟩⟩ := vs
  · cases hl
  · cases hl
  · cases hl
  · refine hw.one fun r1 ws1 c1 ns1 e1 m1 i1 z1 hw => hw.one fun r2 ws2 c2 ns2 e2 m2 i2 z2 hw => hw.one fun r3 ws3 c3 ns3 e3 m3 i3 z3 _ => ?_
    exact k r1 ws1 c1 ns1 r2 ws2 c2 ns2 r3 ws3 c3 ns3 ws c ns (by rw [e1, e2, e3]) (hd _ m1) (hd _ m2) (hd _ m3) hi hz hc i1 z1 i2 z2 i3 z3 (by rw [‹nx = _›]; exact five_sub m1 m2 m3)
  · simp at hl
theorem hand_start {h₀ h : Heap} {L : Addr} {ys : List Value} {ns : List Int} {d x ce : Addr} {o1 o' : Obj} (N : News h₀ L h [(d, LCg.lst ys), (x, o1), (ce, o')]) (hi : IntsAre ys ns) (hz : ns.length ≤ 16) (hc : ∀ x ∈ ns, Cell x) (hx : x ≠ d) (hce : ce ≠ d) :
    News h₀ L h [(ce, o'), (d, listOf (List.toArray ys) ys.length), (x, o1)] ∧ Hand ce o' d 0 [] [(ce, o'), (d, listOf (List.toArray ys) ys.length), (x, o1)] ∧ @Ne Nat ce d := by
  refine ⟨fun p hp => ?_, ⟨ys, ys.length, ns, _, rfl, fun p hp => ?_, hi, hz, hc, trivial, rfl⟩, hce⟩
  · simp only [List.mem_cons, List.not_mem_nil, or_false] at hp
    rcases hp with rfl | rfl | rfl
    · exact N _ (.tail _ (.tail _ (.head _)))
    · exact N _ (.head _)
    · exact N _ (.tail _ (.head _))
  · rw [List.mem_singleton.mp hp]
    exact hx
theorem news_sub {h₀ h : Heap} {L : Addr} {a b : List (Addr × Obj)} (N : News h₀ L h a) (hs : ∀ p ∈ b, p ∈ a) : News h₀ L h b := fun p hp => N p (hs p hp)
theorem news_sub_cons {a b : List (Addr × Obj)} {q : Addr × Obj} (hs : ∀ p ∈ b, p ∈ a) : ∀ p ∈ q :: b, p ∈ q :: a := fun p hp => by
  rcases List.mem_cons.mp hp with rfl | hp
  · exact .head _
  · exact .tail _ (hs p hp)
theorem mem_turn {X : Type} {a b c d i e f : X} {r : List X} : ∀ p ∈ c :: d :: i :: e :: f :: a :: r, p ∈ a :: b :: c :: d :: i :: e :: f :: r := by
  intro p hp
  simp only [List.mem_cons] at hp ⊢
  rcases hp with h | h | h | h | h | h | h
  · exact .inr (.inr (.inl h))
  · exact .inr (.inr (.inr (.inl h)))
  · exact .inr (.inr (.inr (.inr (.inl h))))
  · exact .inr (.inr (.inr (.inr (.inr (.inl h)))))
  · exact .inr (.inr (.inr (.inr (.inr (.inr (.inl h))))))
  · exact .inl h
  · exact .inr (.inr (.inr (.inr (.inr (.inr (.inr h))))))
theorem hand_turn {h₀ h : Heap} {L : Addr} {m : Str → Option Value} {s : Shared} {tk : Nat} {ce d C D I r l : Addr} {oc oC oD oI ol : Obj} {i : Nat} {vs ws ws' vs' : List Value} {ns' rs : List Int} {c c' cr : Nat} {rest : List (Addr × Obj)}
    (F : Fr h₀ L h m) (N : News h₀ L h ((r, listOf (List.toArray vs') cr) :: (l, ol) :: (C, oC) :: (D, oD) :: (I, oI) :: (ce, oc) :: (d, listOf (List.toArray ws') c') :: rest))
    (hi : IntsAre ws' ns') (hz : ns'.length ≤ 16) (hc : ∀ x ∈ ns', Cell x) (hv : IntsAre vs' rs) (hb : (rs.length : Int) ≤ 5)
    (l4 : @LT.lt Nat _ l r ∧ @LT.lt Nat _ C r ∧ @LT.lt Nat _ D r ∧ @LT.lt Nat _ I r ∧ @LT.lt Nat _ ce r ∧ @LT.lt Nat _ d r ∧ AllLt r rest)
    (hdr : ∀ p ∈ rest, p.1 ≠ d) (hnx : ∀ p ∈ (ce, oc) :: (d, listOf (List.toArray ws) c) :: rest, p.1 ≠ C ∧ p.1 ≠ D ∧ p.1 ≠ I) (hw : Words rest vs) (hl : vs.length = i) :
    CompEndK h₀ L m s C D I oC oD oI (fun y nx' => Hand ce oc d (i + 1) (vs ++ [y]) nx') (.ref r) { s with heap := h, toks := tk } := by
  refine CompEndK.mk (nx' := (ce, oc) :: (d, listOf (List.toArray ws') c') :: (r, listOf (List.toArray vs') cr) :: rest) F N mem_turn ?_
    ⟨ws', c', ns', (r, listOf (List.toArray vs') cr) :: rest, rfl, ?_, hi, hz, hc, Words.snoc (.head _) hv (by omega) (hw.mono fun p hp => .tail _ hp), by rw [List.length_append, hl]; rfl⟩
  · have h2 := hnx _ (.tail _ (.head _))
    exact List.forall_mem_cons.mpr ⟨hnx _ (.head _), List.forall_mem_cons.mpr ⟨h2, List.forall_mem_cons.mpr ⟨⟨Nat.ne_of_gt l4.2.1, Nat.ne_of_gt l4.2.2.1, Nat.ne_of_gt l4.2.2.2.1⟩, fun p hp => hnx p (.tail _ (.tail _ hp))⟩⟩⟩
  · exact List.forall_mem_cons.mpr ⟨Nat.ne_of_gt l4.2.2.2.2.2.1, hdr⟩
theorem hand_again {h₀ h : Heap} {L : Addr} {ce d : Addr} {o' : Obj} {x y1 y2 y3 : Addr × Obj} {ws : List Value} {c : Nat} {ns : List Int} (N : News h₀ L h [x, (ce, o'), (d, listOf (List.toArray ws) c), y1, y2, y3]) (hi : IntsAre ws ns) (hz : ns.length ≤ 16) (hc : ∀ x ∈ ns, Cell x) :
    News h₀ L h [(ce, o'), (d, listOf (List.toArray ws) c)] ∧ Hand ce o' d 0 [] [(ce, o'), (d, listOf (List.toArray ws) c)] := by
  refine ⟨fun p hp => N p ?_, ws, c, ns, [], rfl, (fun _ h => nomatch h), hi, hz, hc, trivial, rfl⟩
  simp only [List.mem_cons, List.not_mem_nil, or_false] at hp
  rcases hp with rfl | rfl
  · exact .tail _ (.head _)
  · exact .tail _ (.tail _ (.head _))
theorem mem_turnI {X : Type} {a b c d i t e f : X} {r : List X} : ∀ p ∈ c :: d :: i :: t :: e :: f :: a :: r, p ∈ a :: b :: c :: d :: i :: t :: e :: f :: r := by
  intro p hp
  simp only [List.mem_cons] at hp ⊢
  rcases hp with h | h | h | h | h | h | h | h
  · exact .inr (.inr (.inl h))
  · exact .inr (.inr (.inr (.inl h)))
  · exact .inr (.inr (.inr (.inr (.inl h))))
  · exact .inr (.inr (.inr (.inr (.inr (.inl h)))))
  · exact .inr (.inr (.inr (.inr (.inr (.inr (.inl h))))))
  · exact .inr (.inr (.inr (.inr (.inr (.inr (.inr (.inl h)))))))
  · exact .inl h
  · exact .inr (.inr (.inr (.inr (.inr (.inr (.inr (.inr h)))))))
/-- the hand beside the loop's own iterator -/
def HandI (it : Addr) (oi : Obj) (ce : Addr) (oc : Obj) (d : Addr) (i : Nat) (vs : List Value) (nx : List (Addr × Obj)) : Prop := ∃ nx0, nx = (it, oi) :: nx0 ∧ Hand ce oc d i vs nx0
theorem HandI.elim {it ce d : Addr} {oi oc : Obj} {i : Nat} {vs : List Value} {nx : List (Addr × Obj)} {G : Prop} (h : HandI it oi ce oc d i vs nx)
    (k : ∀ ws c ns rest, nx = (it, oi) :: (ce, oc) :: (d, listOf (List.toArray ws) c) :: rest → (∀ p ∈ rest, p.1 ≠ d) → IntsAre ws ns → ns.length ≤ 16 → (∀ x ∈ ns, Cell x) → Words rest vs → vs.length = i → G) : G :=
  let ⟨_, e1, x⟩ := h; x.elim fun ws c ns rest e => k ws c ns rest (e1.trans (congrArg _ e))
theorem hand_turnI {h₀ h : Heap} {L : Addr} {m : Str → Option Value} {s : Shared} {tk : Nat} {it ce d C D I r l : Addr} {oi oc oC oD oI ol : Obj} {i : Nat} {vs ws ws' vs' : List Value} {ns' rs : List Int} {c c' cr : Nat} {rest : List (Addr × Obj)}
    (F : Fr h₀ L h m) (N : News h₀ L h ((r, listOf (List.toArray vs') cr) :: (l, ol) :: (C, oC) :: (D, oD) :: (I, oI) :: (it, oi) :: (ce, oc) :: (d, listOf (List.toArray ws') c') :: rest))
    (hi : IntsAre ws' ns') (hz : ns'.length ≤ 16) (hc : ∀ x ∈ ns', Cell x) (hv : IntsAre vs' rs) (hb : (rs.length : Int) ≤ 5)
    (l4 : @LT.lt Nat _ l r ∧ @LT.lt Nat _ C r ∧ @LT.lt Nat _ D r ∧ @LT.lt Nat _ I r ∧ @LT.lt Nat _ it r ∧ @LT.lt Nat _ ce r ∧ @LT.lt Nat _ d r ∧ AllLt r rest)
    (hdr : ∀ p ∈ rest, p.1 ≠ d) (hnx : ∀ p ∈ (it, oi) :: (ce, oc) :: (d, listOf (List.toArray ws) c) :: rest, p.1 ≠ C ∧ p.1 ≠ D ∧ p.1 ≠ I) (hw : Words rest vs) (hl : vs.length = i) :
    CompEndK h₀ L m s C D I oC oD oI (fun y nx' => HandI it oi ce oc d (i + 1) (vs ++ [y]) nx') (.ref r) { s with heap := h, toks := tk } := by
  refine CompEndK.mk (nx' := (it, oi) :: (ce, oc) :: (d, listOf (List.toArray ws') c') :: (r, listOf (List.toArray vs') cr) :: rest) F N mem_turnI ?_
    ⟨_, rfl, ws', c', ns', (r, listOf (List.toArray vs') cr) :: rest, rfl, ?_, hi, hz, hc, Words.snoc (.head _) hv (by omega) (hw.mono fun p hp => .tail _ hp), by rw [List.length_append, hl]; rfl⟩
  · have h1 := hnx _ (.tail _ (.head _))
    have h2 := hnx _ (.tail _ (.tail _ (.head _)))
    exact List.forall_mem_cons.mpr ⟨hnx _ (.head _), List.forall_mem_cons.mpr ⟨h1, List.forall_mem_cons.mpr ⟨h2, List.forall_mem_cons.mpr ⟨⟨Nat.ne_of_gt l4.2.1, Nat.ne_of_gt l4.2.2.1, Nat.ne_of_gt l4.2.2.2.1⟩, fun p hp => hnx p (.tail _ (.tail _ (.tail _ hp)))⟩⟩⟩⟩
  · exact List.forall_mem_cons.mpr ⟨Nat.ne_of_gt l4.2.2.2.2.2.2.1, hdr⟩
end Mine
end

section
open PySem PySem.W PySem.Spec PyProof.Rows PyProof.V PySem.Calls
set_option maxRecDepth 100000
set_option maxHeartbeats 8000000
namespace Mine
theorem Fr.kst1 {h₀ h : Heap} {L : Addr} {m : Str → Option Value} {x : Str} {v : Value} {ps : List (Str × Value)} (F : Fr h₀ L h (fun z => if z = x then some v else m z)) (hp : ∀ p ∈ ps, m p.1 = some p.2) :
    Fr h₀ L h (fun z => if z = x then some v else kstB m ps z) := by rw [kst_self hp]; exact F
section
variable {M : Model} {A : Around} {E : Value → Shared → Prop} {s : Shared} {env : Env}
theorem folded_tuple {elts : List PySem.Expr} {k : Nat} {pos : Pos} {x : Value} : foldedSetIterable (.Tuple elts k pos) env x = pure x := rfl
theorem wpAny_ForTup {target : PySem.Expr} {elts : List PySem.Expr} {k : Nat} {tp : Pos} {body orelse : List Stmt} {pos : Pos} {Q : Flow → Shared → Prop}
    (h : wpAny M A (eval (.Tuple elts k tp) env) (fun x s₁ => wpAny M A (pyIter x) (fun it s₂ =>
      codeAny M A (.forLoop target it body orelse env) (fun r s' => match r with | .ok f => Q f s' | .error e => cameBackBy M A env E e s') s₂) E s₁) E s) :
    wpAny M A (exec (.For target (.Tuple elts k tp) body orelse pos) env) Q E s := wpAny_For h (fun _ => folded_tuple)
end
section
variable {prog : Program} {w : World} {A : Around} {E : Value → Shared → Prop} {s : Shared} {env : Env} {h₀ : Heap} {L : Addr}
theorem For_tupK {x : Str} {px : Pos} {body : List Stmt} {t : Addr} {vals : Array Value} {m : Str → Option Value} {news : List (Addr × Obj)} {Q : Flow → Shared → Prop}
    (hL : env.locals = L) (hh : A.handled = none) (hx : env.kindOf x = some .local)
    (hp : (env.scope.kind == .class || (env.scope.kind == .module && env.locals != env.globals)) = false)
    (ht : s.heap.IsTuple t vals) (F : Fr h₀ L s.heap m) (N : News h₀ L s.heap news)
    (J : Nat → (Str → Option Value) → List (Addr × Obj) → Prop) (hJ : J 0 m news)
    (stay : ∀ i m nx h, J i m nx → News h₀ L h nx → h.IsTuple t vals)
    (turn : ∀ i v tk m₁ nx h it oi, vals[i]? = some v → J i m₁ nx → (∀ p ∈ news, p.1 < it) → (∀ p ∈ nx, p.1 ≠ it) →
      Fr h₀ L h (fun y => if y = x then some v else m₁ y) → News h₀ L h ((it, oi) :: nx) →
      wpAny (model prog w) A (execs body env) (RangeEnd h₀ L s it oi (J (i + 1))) (fun _ _ => False) { s with heap := h, toks := tk })
    (done : ∀ m nx h tk, J vals.size m nx → Fr h₀ L h m → News h₀ L h nx → Q .next { s with heap := h, toks := tk }) :
    wpAny (model prog w) A (pyIter (.ref t)) (fun it s₂ =>
      codeAny (model prog w) A (.forLoop (.Name x px) it body [] env) (fun r s' => match r with | .ok f => Q f s' | .error e => cameBackBy (model prog w) A env E e s') s₂) E s := by
  subst hL
  refine wpAny_pyIter_tuple ht ?_
  have hLlt : env.locals < s.heap.objs.size := F.ns.lt
  have hb0 : h₀.objs.size ≤ s.heap.objs.size := Nat.le_trans F.above (Nat.le_of_lt F.ns.lt)
  obtain ⟨I, hI⟩ : ∃ I, s.heap.objs.size = I := ⟨_, rfl⟩
  rw [hI] at hLlt hb0
  rw [hI]
  have hIo : (s.heap.push { cls := .type "tuple_iterator", data := .fields #[.ref t, .int 0 0] }).IsTupleIter I t 0 := ⟨_, by rw [← hI]; exact Heap.get?_push_size _ rfl, rfl, rfl⟩
  have F1 : Fr h₀ env.locals (s.heap.push { cls := .type "tuple_iterator", data := .fields #[.ref t, .int 0 0] }) m := F.push _
  have N1 : News h₀ env.locals (s.heap.push { cls := .type "tuple_iterator", data := .fields #[.ref t, .int 0 0] }) news := N.grown fun b o e => Heap.get?_push_of_some _ e
  have off : ∀ p ∈ news, p.1 < I := fun p hp => by rw [← hI]; exact Heap.lt_size (N p hp).1
  generalize s.heap.push { cls := .type "tuple_iterator", data := .fields #[.ref t, .int 0 0] } = H1 at hIo F1 N1 ⊢
  have lt_of : ∀ b o, h₀.get? b = some o → b < I := fun b o e => Nat.lt_of_lt_of_le (Heap.lt_size e) hb0
  have noneI : h₀.get? I = none := Heap.get?_none_of_le hb0
  have hIL : env.locals ≠ I := Nat.ne_of_lt hLlt
  refine codeAny_forLoop (fun q s' => ∃ h' tk m' nx i, s' = { s with heap := h', toks := tk } ∧ h'.IsTupleIter I t i ∧
      Fr h₀ env.locals h' m' ∧ News h₀ env.locals h' nx ∧ (∀ p ∈ nx, p.1 ≠ I) ∧ J i m' nx ∧ i ≤ vals.size ∧ q = vals.size + 1 - i) ?_ (vals.size + 1)
    ⟨H1, s.toks, m, news, 0, rfl, hIo, F1, N1, (fun p hp => Nat.ne_of_lt (off p hp)), hJ, Nat.zero_le _, rfl⟩
  intro q s' hI
  refine hide fun G hG => ?_
  obtain ⟨H, tk, m', nx, i, rfl, hit, F', N', hoff, hJ', hile, rfl⟩ := hI
  refine hG ?_
  clear hG G
  have htH := stay i m' nx H hJ' N'
  by_cases hlt : i < vals.size
  · refine wpAny_pyNext_tuple_item hit htH (x := vals[i]) (by simp [hlt]) fun h₁ hit₁ hs₁ => ?_
    have k1 : ∀ b o, b ≠ I → H.get? b = some o → h₁.get? b = some o := fun b o hb e => hs₁.extBut b o hb e
    have F₁ : Fr h₀ env.locals h₁ m' := ⟨F'.ns.at' fun o e => k1 _ o hIL e, fun b o e => k1 b o (Nat.ne_of_lt (lt_of b o e)) (F'.keep b o e), F'.above⟩
    refine wpAny_assign_Name (wpAny_storeName_local hx F₁.ns (fun h₂ hn₂ hs₂ => ?_) hp)
    obtain ⟨oi, hoi, hoi'⟩ := id hit₁
    have NI : News h₀ env.locals h₁ ((I, oi) :: nx) := fun p hp => by
      rcases List.mem_cons.mp hp with rfl | hp
      · exact ⟨hoi, hIL.symm, noneI⟩
      · exact ⟨k1 _ _ (hoff p hp) (N' p hp).1, (N' p hp).2⟩
    have F₂ := F₁.set hn₂ hs₂
    have N₂ := NI.set hs₂
    refine wpAny_mono (turn i _ _ m' nx h₂ I _ (by simp [hlt]) hJ' off hoff F₂ N₂) (fun f s₃ h₃ => ?_) fun _ _ x => x.elim
    refine hide fun G hG => ?_
    obtain ⟨rfl, h', tk', m₂, nx', rfl, F₃, N₃, ho₃, hJ₃⟩ := h₃
    refine hG ?_
    clear hG G
    exact ⟨vals.size + 1 - (i + 1), by omega, h', tk', m₂, nx', i + 1, rfl, ⟨oi, (N₃ _ (.head _)).1, hoi'⟩, F₃, fun p hp => N₃ p (.tail _ hp), ho₃, hJ₃, hlt, rfl⟩
  · have hin : i = vals.size := by omega
    subst hin
    refine wpAny_pyNext_tuple_end hh hit htH (by simp) fun h₁ he₁ => wpAny_execs_nil ?_
    exact done m' nx h₁ tk hJ' ⟨F'.ns.at' fun o e => he₁ _ o hIL e, fun b o e => he₁ b o (Nat.ne_of_lt (lt_of b o e)) (F'.keep b o e), F'.above⟩ fun p hp => ⟨he₁ _ _ (hoff p hp) (N' p hp).1, (N' p hp).2⟩
end
end Mine
end

section
open PySem PySem.W PySem.Spec PyProof.Rows PyProof.V PySem.Calls
set_option maxRecDepth 100000
set_option maxHeartbeats 8000000
theorem Mine.offC9 : True := by
  w_top off
  trivial
namespace Mine
local macro_rules | `(tactic| walk_at "no such key") => `(tactic| fail)
local macro_rules | `(tactic| walk_at "call ref cons nil") => `(tactic| k_extra "call ref cons nil")

local macro_rules | `(tactic| walk_at "subscriptTail Name Slice ref ref") => `(tactic| k_extra "subscriptTail Name Slice ref ref")
theorem led_ctr {d l1 l2 l3 : Addr} {ns1 ns2 ns3 : List Int} (hz1 : ns1.length ≤ 9) (hz2 : ns2.length ≤ 9) (hz3 : ns3.length ≤ 9) (hd1 : l1 ≠ d) (hd2 : l2 ≠ d) (hd3 : l3 ≠ d) :
    Ctr 184 16 200 [d] [.ref d, .ref l1, .ref l2, .ref l3] (fun h => DeckAt h d ∧ LAt h l1 ns1 ∧ LAt h l2 ns2 ∧ LAt h l3 ns3) (fun _ r h' => DeckAt h' d ∧ r = .bool true) := by
  intro prog w dp un gd env outer L s Q E S hd hu hpre hret
  obtain ⟨p, loose, mean, mg, mb, A₀, base, h₀, m, B, F, X, T, hf, hke, hds⟩ := S
  obtain ⟨⟨vs, c, ns, hl, hi, hz, hc⟩, ⟨vs1, k1, hl1, hi1⟩, ⟨vs2, k2, hl2, hi2⟩, ⟨vs3, k3, hl3, hi3⟩⟩ := hpre
  have N : News h₀ L s.heap [(d, listOf (List.toArray vs) c)] := fun p hp => by
    rw [List.mem_singleton.mp hp]
    exact ⟨hl, hds d (.head _)⟩
  refine wpAny_call ?_
  k_dflt (refine' code_defG ?k1 ?k2 ?k3 ?k4 ?k5 ?kA ?kF ?kK ?k6 ?k7 ?k8 ?k9 ?kB ?_ ?c2 ?c3 ?c4 ?c5; (case kA => exact rfl); (case kF => assumption); (case kK => assumption); (case k1 => k_asm); (case k2 => k_asm); (case k3 => k_asm); (case k4 => k_asm); (case k5 => k_asm); (case k6 => k_is); (case k7 => k_is); (case k8 => ktr_room); (case k9 => first | exact BindsTo.of_eq rfl | exact binds_K (by k_in) rfl (by k_is) rfl rfl rfl); (case c5 => decide); (case kB => exact locs rfl); (case c2 => exact rfl); (case c3 => exact rfl); (case c4 => exact rfl); k_whole; intro g' L' h' FG' F' N' B' X' T' kG'; (try dsimp only))
  have hG : ∀ b o, b ∉ [d] → s.heap.get? b = some o → g'.get? b = some o := fun b o hb e => kG' b o e hb
  have hg1 := hG _ _ (fun h => hd1 (List.mem_singleton.mp h)) hl1
  have hg2 := hG _ _ (fun h => hd2 (List.mem_singleton.mp h)) hl2
  have hg3 := hG _ _ (fun h => hd3 (List.mem_singleton.mp h)) hl3
  have hL1 : g'.IsList l1 vs1.toArray := ⟨_, hg1, rfl, _, rfl⟩
  have hL2 : g'.IsList l2 vs2.toArray := ⟨_, hg2, rfl, _, rfl⟩
  have hL3 : g'.IsList l3 vs3.toArray := ⟨_, hg3, rfl, _, rfl⟩
  refine fin_halt ?_
  clear F N B T X hl hl1 hl2 hl3
  k_fold
  k_with_none
  (k_with "call ref cons nil" => (k_here; (with_reducible show wpAny _ _ (call (Value.ref 170) [Value.ref _, Value.ref _]) _ _ _); k_dflt (refine' Ctr.useI (far_ctr ?h1 ?h2) ?k1 ?k2 ?k3 ?k4 ?k5 ?k6 ?k7 ?k8 ?k9 ?kp ?_; (case k1 => k_asm); (case k2 | k3 | k4 | k5 => k_asm); (case k6 | k7 => first | exact rfl | assumption); (case k8 => ktr_room); (case k9 => ktr_units); (case kp => exact ⟨by first | exact LAt.of (by k_asm) (by assumption) (by assumption) | exact LAt.news (by k_asm) (by k_mem) (by assumption), by first | exact LAt.of (by k_asm) (by assumption) (by assumption) | exact LAt.news (by k_asm) (by k_mem) (by assumption)⟩); (case h1 => ((try simp only [List.length_append, List.length_cons, List.length_nil, List.length_take, List.length_drop]); omega)); (case h2 => ((try simp only [List.length_append, List.length_cons, List.length_nil, List.length_take, List.length_drop]); omega))); intro t' h' tk' F' N'; (try dsimp only); (try k_sweep)))
  (k_with "call ref cons nil" => (k_here; (with_reducible show wpAny _ _ (call (Value.ref 158) [Value.ref _, Value.int _ _]) _ _ _); k_dflt (refine' Ctr.useDI (draw_ctr ?h1 ?h2) ?k1 ?k2 ?k3 ?k4 ?k5 ?k6 ?k7 ?k8 ?k9 ?kU ?ki ?kz ?kc ?_; (case k1 => k_asm); (case k2 | k3 | k4 | k5 => k_asm); (case k6 | k7 => first | exact rfl | assumption); (case k8 => ktr_room); (case k9 => ktr_units); (case kU => k_updF); (case ki | kz | kc => assumption); (case h1 => omega); (case h2 => omega)); intro x' t' h' tk' ws' c' ns' F' N' hi' hz' hc' hx0' hx1'; (try dsimp only); (try dsimp only at N'); (try k_sweep)))
  (k_with "call ref cons nil" => (k_here; (with_reducible show wpAny _ _ (call (Value.ref 163) [Value.ref _, Value.ref _, Value.int _ _]) _ _ _); k_dflt (refine' some_use ?k1 ?k2 ?k3 ?k4 ?k5 ?k6 ?k7 ?k8 ?k9 ?kU ?kM ?kN ?ki ?kz ?kc ?kI ?h1 ?h2 ?h3 ?h4 ?_; (case k1 => k_asm); (case k2 | k3 | k4 | k5 => k_asm); (case k6 | k7 => first | exact rfl | assumption); (case k8 => ktr_room); (case k9 => ktr_units); (case kU => k_updF); (case kM => k_mem); (case kN => (refine neN ?_; omega)); (case kI => (first | exact IntsAre.cons _ _ (IntsAre.cons _ _ IntsAre.nil) | exact IntsAre.cons _ _ (IntsAre.cons _ _ (IntsAre.cons _ _ IntsAre.nil)) | exact IntsAre.cons _ _ (IntsAre.cons _ _ (IntsAre.cons _ _ (IntsAre.cons _ _ (IntsAre.cons _ _ IntsAre.nil)))))); (case ki | kz | kc => assumption); (case h1 | h2 | h3 => decide); (case h4 => decide)); intro r' vs' cr' rs' ws' c' ns' h' tk' F' N' l1' hi' hz' hc' hv' hb' hm'; (try k_lt l1'); (try dsimp only); (try dsimp only at N'); (try k_sweep)))
  (k_with "subscriptTail Name Slice ref ref" => (k_here; (with_reducible show wpAny _ _ (subscriptTail _ (PySem.Expr.Slice _ _ none _) (Value.ref _) (Value.ref _)) _ _ _); k_dflt (refine' kmk_slice_ints ?uF ?uN ?ul ?up ?uq ?ui ?um ?uc ?_ ?us ?ut ?uz; (case uF => k_asm); (case uN => k_asm); (case ul => exact Fr.lst (by k_asm) (by assumption)); (case up | uq => kmk_part); (case ui => assumption); (case um => first | exact kmk_from (by assumption) (by omega) | exact kmk_upto (by assumption) (by omega)); (case uc => kmk_len); (case us => with_unfolding_all rfl); (case ut => kmk_pure); (case uz => exact kmk_sz (by assumption) (by rw [sizeLine_eq]; omega))); intro D' ws' h' F' N' l1 hI' hC' hL'; (try k_lt l1); (try k_sweep)))
  k_steps
  · exact (led1 (by assumption)).elim
  · exact (led2 (by assumption)).elim
  · exact (led3 (by assumption)).elim
  · exact (led4 (by assumption) (by assumption) (by assumption)).elim
  · rename Fr g' _ _ _ => F4
    rename News g' _ _ _ => N4
    refine Halt.out ?_
    refine leaveK_ F4 N4 fun _ _ => hret _ _ _ (fun b o hb e => F4.keep b o (hG b o hb e)) ⟨⟨_, _, _, (N4 (d, listOf (List.toArray _) _) (by k_mem)).1, by assumption, by assumption, by assumption⟩, bool_eq led5⟩
  · rename Fr g' _ _ _ => F4
    rename News g' _ _ _ => N4
    refine Halt.out ?_
    refine leaveK_ F4 N4 fun _ _ => hret _ _ _ (fun b o hb e => F4.keep b o (hG b o hb e)) ⟨⟨_, _, _, (N4 (d, listOf (List.toArray _) _) (by k_mem)).1, by assumption, by assumption, by assumption⟩, bool_eq led5⟩
local macro_rules | `(tactic| walk_at "exec Assign cons ListComp") => `(tactic| k_extra "exec Assign cons ListComp")
local macro_rules | `(tactic| walk_at "eval ListComp Call cons") => `(tactic| k_extra "eval ListComp Call cons")
local macro_rules | `(tactic| k_all) => `(tactic| assumption)
local macro_rules | `(tactic| walk_at "exec For Name Call cons nil") => `(tactic| (k_here; refine halt ?_))
local macro_rules | `(tactic| walk_at "exec For Name Tuple cons nil") => `(tactic| (k_here; refine halt ?_))
theorem law_holds : PySem.Challenge.rw_pq0275_01.Holds := Mine.hd (by
  k_go0
  all_goals (try k_fold)
  k_with_none
  (k_with "exec Assign cons ListComp" => (k_here; (with_reducible show wpAny _ _ (exec (Stmt.Assign [PySem.Expr.Name _ _] _ _) _) _ _ _); k_dflt (refine' Assign_ListCompK ?k0 ?k1 ?k2 ?k3 ?k4 ?_; (case k0 => with_unfolding_all rfl); (case k1 => with_unfolding_all rfl); (case k2 => rfl); (case k3 => decide); (case k4 => intro _; rfl)); (try k_fold)))
  (k_with "eval ListComp Call cons" => (k_here; k_dflt (refine' ListComp_freeK ?k1 ?k2 ?k3 ?k4 ?_; (case k1 => with_unfolding_all rfl); (case k2 => rfl); (case k3 => decide); (case k4 => intro _; rfl)); (try k_fold)))
  (k_with "call ref cons nil" => (k_here; (with_reducible show wpAny _ _ (call (Value.ref 163) [Value.ref _, Value.ref _, Value.int _ _]) _ _ _); k_dflt (refine' some_use ?k1 ?k2 ?k3 ?k4 ?k5 ?k6 ?k7 ?k8 ?k9 ?kU ?kM ?kN ?ki ?kz ?kc ?kI ?h1 ?h2 ?h3 ?h4 ?_; (case k1 => k_asm); (case k2 | k3 | k4 | k5 => k_asm); (case k6 | k7 => first | exact rfl | assumption); (case k8 => ktr_room); (case k9 => ktr_units); (case kU => k_updF); (case kM => k_mem); (case kN => (refine neN ?_; omega)); (case kI => (first | exact IntsAre.cons _ _ (IntsAre.cons _ _ IntsAre.nil) | exact IntsAre.cons _ _ (IntsAre.cons _ _ (IntsAre.cons _ _ IntsAre.nil)) | exact IntsAre.cons _ _ (IntsAre.cons _ _ (IntsAre.cons _ _ (IntsAre.cons _ _ (IntsAre.cons _ _ IntsAre.nil)))))); (case ki | kz | kc => assumption); (case h1 | h2 | h3 => decide); (case h4 => decide)); intro r' vs' cr' rs' ws' c' ns' h' tk' F' N' l1' hi' hz' hc' hv' hb' hm'; (try k_lt l1'); (try dsimp only); (try dsimp only at N'); (try k_sweep)))
  (k_with "call ref cons nil" => (k_here; (with_reducible show wpAny _ _ (call (Value.ref 177) _) _ _ _); k_dflt (refine' Ctr.useV (metric_ctr ?h1 ?h2 ?h3) ?k1 ?k2 ?k3 ?k4 ?k5 ?k6 ?k7 ?k8 ?k9 ?kp ?_; (case k1 => k_asm); (case k2 | k3 | k4 | k5 => k_asm); (case k6 | k7 => first | exact rfl | assumption); (case k8 => ktr_room); (case k9 => ktr_units); (case kp => exact ⟨LAt.news (by k_asm) (by k_mem) (by assumption), LAt.news (by k_asm) (by k_mem) (by assumption), LAt.news (by k_asm) (by k_mem) (by assumption)⟩); (case h1 | h2 => omega); (case h3 => omega)); intro h' tk' F' N'; (try dsimp only); (try k_sweep)))
  (k_with "call ref cons nil" => (k_here; (with_reducible show wpAny _ _ (call (Value.ref 198) _) _ _ _); k_dflt (refine' Ctr.useV (order_ctr ?h1 ?h2 ?h3) ?k1 ?k2 ?k3 ?k4 ?k5 ?k6 ?k7 ?k8 ?k9 ?kp ?_; (case k1 => k_asm); (case k2 | k3 | k4 | k5 => k_asm); (case k6 | k7 => first | exact rfl | assumption); (case k8 => ktr_room); (case k9 => ktr_units); (case kp => exact ⟨LAt.news (by k_asm) (by k_mem) (by assumption), LAt.news (by k_asm) (by k_mem) (by assumption), LAt.news (by k_asm) (by k_mem) (by assumption)⟩); (case h1 | h2 => omega); (case h3 => omega)); intro h' tk' F' N'; (try dsimp only); (try k_sweep)))
  (k_with "call ref cons nil" => (k_here; (with_reducible show wpAny _ _ (call (Value.ref 184) _) _ _ _); k_dflt (refine' Ctr.useD2 (led_ctr ?h1 ?h2 ?h3 ?d1 ?d2 ?d3) ?k1 ?k2 ?k3 ?k4 ?k5 ?k6 ?k7 ?k8 ?k9 ?kU ?ki ?kz ?kc ?kp ?_; (case k1 => k_asm); (case k2 | k3 | k4 | k5 => k_asm); (case k6 | k7 => first | exact rfl | assumption); (case k8 => ktr_room); (case k9 => ktr_units); (case kU => k_updF); (case ki | kz | kc => assumption); (case kp => exact ⟨LAt.news (by k_asm) (by k_mem) (by assumption), LAt.news (by k_asm) (by k_mem) (by assumption), LAt.news (by k_asm) (by k_mem) (by assumption)⟩); (case d1 | d2 | d3 => assumption); (case h1 | h2 => omega); (case h3 => omega)); intro h' tk' ws' c' ns' F' N' hi' hz' hc'; (try dsimp only); (try dsimp only at N'); (try k_sweep)))
  k_steps
  rename IsRange _ _ _ _ _ _ _ _ => rgX
  rename Fr _ _ _ _ => F₁
  rename News _ _ _ _ => N₁
  rename IntsAre _ (List.map _ _) => hi₁
  with_reducible rename (_ ≠ _) ∧ (_ ≠ _) => o1x
  obtain ⟨N₂, H₀, hcd⟩ := hand_start N₁ hi₁ (deck_len _ _) (deck_cell _ _ rfl _) o1x.1 o1x.2
  refine comp_rangeK (k := 3) (by decide) rfl rfl rfl rgX (by decide) F₁ N₂ (fun i vs nx => Hand _ _ _ i vs nx) H₀ ?_ ?_
  · intro i vs nx D C I oD oC oI h tk hik hH hnx hoff hID hDC F₂ N₃
    (try k_unmd)
    (try k_fold)
    with_reducible refine Hand.elim hH fun ws c ns rest e hdr hi2 hz2 hc2 hw hl => ?_
    subst e
    clear hH
    clear F₁ N₁ N₂ H₀ hi₁
    replace hoff := allLt_of hoff
    simp only [AllLt] at hoff
    replace hID := ltN hID
    replace hDC := ltN hDC
    (try k_unmd)
    (try k_fold)
    k_steps
    exact hand_turn F' N' hi' hz' hc' hv' hb' l1' hdr hnx hw hl
  · rintro vs nx D c h tk hH hoffD hnx F₂ N₃
    (try k_unmd)
    (try k_fold)
    with_reducible refine Hand.three hH fun r1 ws1 c1 ns1 r2 ws2 c2 ns2 r3 ws3 c3 ns3 ws c' ns e hd1 hd2 hd3 hi2 hz2 hc2 hi1' hz1' hi2' hz2' hi3' hz3' hsub => ?_
    subst e
    have N₄ := news_sub N₃ (news_sub_cons hsub)
    have hDd : @Ne Nat D _ := fun e => hnx _ (hsub _ (.tail _ (.head _))) e.symm
    clear N₃ F₁ N₁ N₂ H₀ hi₁ hH hoffD hnx hsub
    (try k_unmd)
    (try k_fold)
    k_steps
    refine Halt.out ?_
    refine wpAny_For ?_ (by intro _; rfl)
    k_steps
    rename IsRange _ _ _ _ _ _ _ _ => rgY
    rename Fr _ _ _ _ => F5
    rename News _ _ _ _ => N5
    rename IntsAre _ _ => hi5
    rename List.length _ ≤ 16 => hz5
    rename ∀ _ ∈ _, Cell _ => hc5
    obtain ⟨N6, H6⟩ := hand_again N5 hi5 hz5 hc5
    refine For_rangeK (k := 2) rfl rfl rfl rfl rgY (by decide) F5 N6 (fun i m nx => Hand _ _ _ 0 [] nx) H6 ?_ ?_
    · intro i t tk m₁ nx h7 it oi hik hH hoffI hnxI F7 N7
      (try k_unmd)
      (try k_fold)
      with_reducible refine Hand.elim hH fun ws c ns rest e hdr hi7 hz7 hc7 _ _ => ?_
      subst e
      clear hH
      clear F5 N5 N6 H6 hi5 hz5 hc5
      (try clear N₄)
      have hit : @Ne Nat it _ := fun e => hnxI _ (.tail _ (.head _)) e.symm
      have hic : @Ne Nat it _ := fun e => hnxI _ (.head _) e.symm
      (try k_unmd)
      (try k_fold)
      k_steps
      rename IsRange _ _ _ _ _ _ _ _ => rgZ
      rename Fr _ _ _ _ => F8
      rename News _ _ _ _ => N8
      refine comp_rangeU (k := 3) rfl rfl rfl (by decide) rfl rfl rfl rgZ (by decide) F8 N8 (fun i vs nx => HandI it oi _ _ _ i vs nx) ⟨_, rfl, _, _, _, _, rfl, hdr, hi7, hz7, hc7, trivial, rfl⟩ ?_ ?_
      · intro i vs nx D C I oD oC oI h tk hik hH hnx hoff hID hDC F₂ N₃
        (try k_unmd)
        (try k_fold)
        with_reducible refine HandI.elim hH fun ws c ns rest e hdr hi2 hz2 hc2 hw hl => ?_
        subst e
        clear hH
        clear F8 N8
        have hoff2 := allLt_of hoff
        simp only [AllLt] at hoff2
        replace hID := ltN hID
        replace hDC := ltN hDC
        (try k_unmd)
        (try k_fold)
        k_steps
        exact hand_turnI F' N' hi' hz' hc' hv' hb' l1' hdr hnx hw hl
      · intro vs nx D c h tk hHI hoffD hnx F₂ N₃
        (try k_unmd)
        (try k_fold)
        obtain ⟨_, rfl, hH⟩ := hHI
        (try k_unmd)
        (try k_fold)
        with_reducible refine Hand.three hH fun r1 ws1 c1 ns1 r2 ws2 c2 ns2 r3 ws3 c3 ns3 ws c' ns e hd1 hd2 hd3 hi2 hz2 hc2 hi1' hz1' hi2' hz2' hi3' hz3' hsub => ?_
        subst e
        have N₄ := news_sub N₃ (news_sub_cons (news_sub_cons hsub))
        clear N₃ F8 N8 hH hoffD hnx hsub
        (try k_unmd)
        (try k_fold)
        k_steps
        refine Halt.out ?_
        refine wpAny_ForTup ?_
        k_steps
        rename Fr _ _ _ _ => F9
        rename News _ _ _ _ => N9
        refine For_tupK rfl rfl rfl rfl ⟨_, (N9 _ (.head _)).1, rfl, _, rfl⟩ F9 N9 (fun i m nx => nx = _ ∧ m (Str.ofString "titles") = some (.ref D)) ⟨rfl, rfl⟩ ?_ ?_ ?_
        · rintro i m nx h ⟨rfl, -⟩ N
          exact ⟨_, (N _ (.head _)).1, rfl, _, rfl⟩
        · rintro i v tk m₁ nx h it2 oi2 hv ⟨rfl, hm⟩ hoffW hnxW F10 N10
          replace F10 := Fr.kst1 (ps := [(Str.ofString "titles", .ref D)]) F10 (by simp [hm])
          dsimp only [kstB] at F10
          clear F9 N9 hoffW
          have hv0 := hv
          clear hv
          rcases i with _ | _ | _ | _ | _ | _ | i
          rotate_right
          · simp at hv0
          all_goals
            simp at hv0
            subst hv0
            (try k_unmd)
            (try k_fold)
          all_goals
            k_steps
            rename Fr _ _ _ _ => F11
            rename News _ _ _ _ => N11
            exact RangeEnd.mk F11 N11 (fun _ h => h) hnxW ⟨rfl, rfl⟩
        · rintro m nx h tk ⟨rfl, hm⟩ F12 N12
          clear F9 N9
          (try k_unmd)
          (try k_fold)
          k_steps
          refine RangeEnd.mk (nx' := [(_, _), (_, listOf (List.toArray ws) c')]) F12 N12 (List.forall_mem_cons.mpr ⟨?_, List.forall_mem_cons.mpr ⟨?_, List.forall_mem_cons.mpr ⟨?_, fun _ h => nomatch h⟩⟩⟩)
            (List.forall_mem_cons.mpr ⟨?_, List.forall_mem_cons.mpr ⟨?_, fun _ h => nomatch h⟩⟩) ⟨ws, c', ns, [], rfl, (fun _ h => nomatch h), hi2, hz2, hc2, trivial, rfl⟩
          · repeat (first | exact List.Mem.head _ | apply List.Mem.tail)
          · repeat (first | exact List.Mem.head _ | apply List.Mem.tail)
          · repeat (first | exact List.Mem.head _ | apply List.Mem.tail)
          · exact fun e => hic e.symm
          · exact fun e => hit e.symm
    · intro m nx h tk hH F7 N7
      (try k_unmd)
      (try k_fold)
      with_reducible refine Hand.elim hH fun ws c ns rest e hdr hi7 hz7 hc7 _ _ => ?_
      subst e
      clear hH
      clear F5 N5 N6 H6 hi5 hz5 hc5
      (try clear N₄)
      (try k_unmd)
      (try k_fold)
      k_steps)
end Mine
end
theorem PySem.Challenge.cw_pq0275_01_holds : PySem.Challenge.rw_pq0275_01.Holds := by
  exact Mine.law_holds
