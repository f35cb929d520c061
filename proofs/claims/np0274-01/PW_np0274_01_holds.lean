import PyProof.Rows.All
import Wide.All
import OpenK.AllK
import Wide.FinOn
import PySem.Challenge.RW_np0274_01
open PySem PySem.W PyProof.Rows PySem.Spec PySem.Calls
set_option Elab.async false
set_option maxRecDepth 100000
namespace Mine
/-! the written heap and the view: the library's own head step lays them down (a row that its last step refuses, so nothing else is laid) -/
def rowX : OpenRow := { PySem.Challenge.rw_np0274_01.row with writes := true }
def tag (n : Nat) : Nat := n
theorem lemX (n : Nat) (_ : rowX.Holds) : tag n = n := rfl
set_option maxHeartbeats 8000000 in
theorem tops : tag 1 = 1 ∧ True := by
  simp (discharger := k_head) only [lemX, and_true]
  rfl
/-- what a call of the def at f with these arguments over this ledger comes to -/
def Spec (w : World) (f : Addr) (args : List Value) (led : List (Addr × Obj)) (dd uu : Nat) (post : Value → List (Addr × Obj) → Prop) : Prop :=
  ∀ (dp un : Nat) (gd : Option (List Code)) (cn : Str) (cs : Scope) (a : Addr) (ccd : Value) (cl : List (Str × Addr)) (outer : List Env) (A₀ : Around) (base h₀ : Heap) (L : Addr) (m : Str → Option Value) (s : Shared)
    (loose : List Str) (mean : ExcName → Option Value) (mg mb : Str → Option Value) (Q E : Value → Shared → Prop),
    Below A₀ base outer h₀ → Fr h₀ L s.heap m → (tops.heap_1 w.params).In h₀ → News h₀ L s.heap led → Top tops.view_1 loose mean mg mb h₀ → cs.kind = .function → dp + dd < recursionLimit → un + uu < cLine →
    (∀ r led' h' tk', Fr h₀ L h' m → News h₀ L h' led' → post r led' → Q r { s with heap := h', toks := tk' }) →
    wpAny (model PySem.Challenge.rw_np0274_01.row.prog w) (ktrTop dp un gd cn cs L a ccd cl outer) (call (.ref f) args) Q E s
section
variable {prog : Program} {w : World} {A : Around} {E : Value → Shared → Prop} {s : Shared} {h₀ : Heap} {L : Addr} {m : Str → Option Value} {news : List (Addr × Obj)}
theorem mul_times {l : Addr} {v : Value} {x : Int} {u : Tok} {k n : Nat} {Q : Value → Shared → Prop} (F : Fr h₀ L s.heap m) (N : News h₀ L s.heap news) (hm : (l, W.listOf #[v] k) ∈ news) (hx : x = (n : Int)) (hn : n ≤ 3)
    (h : ∀ D h', Fr h₀ L h' m → News h₀ L h' ((D, W.listOf (List.replicate n v).toArray 0) :: news) → (∀ p ∈ news, p.1 < D) → Q (.ref D) { s with heap := h' }) :
    wpAny (model prog w) A (binaryOp .Mult (.ref l) (.int x u)) Q E s := by
  subst hx
  refine mul_list F N (N _ hm).1 (by omega) (by omega) (by simp; omega) fun h' F' N' => ?_
  refine h _ h' F' ?_ (fun p hp => Heap.lt_size (N p hp).1)
  have e : (List.foldl (fun x1 x2 => x1 ++ x2) #[] (List.replicate (if (#[v] : Array Value).isEmpty = true then 0 else ((n : Nat) : Int).toNat) #[v])) = (List.replicate n v).toArray := by
    have : n = 0 ∨ n = 1 ∨ n = 2 ∨ n = 3 := by omega
    rcases this with rfl | rfl | rfl | rfl <;> rfl
  rw [e] at N'
  exact N'
theorem mod_known {n k r : Int} {t u : Tok} {Q : Value → Shared → Prop} (hm : n.fmod k = r) (hk : k ≠ 0) (h : Q (.int r s.toks) { s with toks := s.toks + 1 }) :
    wpAny (model prog w) A (binaryOp .Mod (.int n t) (.int k u)) Q E s := by
  subst hm
  exact mod_int' hk h
theorem item_made {value slice : Expr} {l : Addr} {items : List Value} {k : Nat} {i : Int} {u : Tok} {v : Value} {Q : Value → Shared → Prop} (N : News h₀ L s.heap news) (hm : (l, W.listOf items.toArray k) ∈ news)
    (h0 : 0 ≤ i) (hhi : i < 2 ^ 63) (hx : items[i.toNat]? = some v) (h : Q v s)
    (hs : subscripted slice false (.ref l) (.int i u) = operate [.ref l, .int i u] (getItem (.ref l) (.int i u)) := by with_unfolding_all rfl) :
    wpAny (model prog w) A (subscriptTail value slice (.ref l) (.int i u)) Q E s :=
  item_litK (vs := items) ⟨_, (N _ hm).1, rfl, _, rfl⟩ h0 hhi hx h hs
theorem tuple_same {t : Addr} {vs : List Value} {k : Nat} {Q : Value → Shared → Prop} (N : News h₀ L s.heap news) (hm : (t, ({ cls := .type "tuple", data := .seq vs.toArray k } : Obj)) ∈ news) (h : Q (.ref t) s) :
    wpAny (model prog w) A (call (.type "tuple") [.ref t]) Q E s := call_tuple_same ⟨_, (N _ hm).1, rfl, _, rfl⟩ h
theorem len_made {l : Addr} {vs : List Value} {k n : Nat} {Q : Value → Shared → Prop} (N : News h₀ L s.heap news) (hm : (l, W.listOf (List.toArray vs) k) ∈ news) (hn : vs.length = n) (hsz : (n : Int) < 2 ^ 63)
    (h : Q (.int n (s.toks + 1)) { s with toks := s.toks + 1 + 1 }) : wpAny (model prog w) A (call (.builtin "len") [.ref l]) Q E s := by
  subst hn
  have e : (List.toArray vs).size = vs.length := List.size_toArray
  exact call_len_list (items := List.toArray vs) ⟨_, (N _ hm).1, rfl, _, rfl⟩ (by rw [e]; exact hsz) (by rw [e]; exact h)
theorem ne_same {a : Int} {t u : Tok} {Q : Value → Shared → Prop} (h : Q (.bool false) s) : wpAny (model prog w) A (compareOp .NotEq (.int a t) (.int a u)) Q E s := by
  refine ne_int ?_
  rw [bne_self_eq_false]
  exact h
theorem item_ints {value slice : Expr} {l : Addr} {vs : List Value} {ns : List Int} {k : Nat} {i : Int} {u : Tok} {Q : Value → Shared → Prop} (N : News h₀ L s.heap news) (hm : (l, W.listOf vs.toArray k) ∈ news) (hi : IntsAre vs ns)
    (h0 : 0 ≤ i) (h1 : i < ns.length) (hhi : i < 2 ^ 63) (h : ∀ n t, ns[i.toNat]? = some n → Q (.int n t) s)
    (hs : subscripted slice false (.ref l) (.int i u) = operate [.ref l, .int i u] (getItem (.ref l) (.int i u)) := by with_unfolding_all rfl) :
    wpAny (model prog w) A (subscriptTail value slice (.ref l) (.int i u)) Q E s := by
  have hn : i.toNat < ns.length := by omega
  obtain ⟨t, ht⟩ := hi.get i.toNat ns[i.toNat] (by simp [hn])
  exact item_made (items := vs) N hm h0 hhi ht (h _ t (by simp [hn])) hs
theorem ne_diff {a b : Int} {t u : Tok} {Q : Value → Shared → Prop} (hab : a ≠ b) (h : Q (.bool true) s) : wpAny (model prog w) A (compareOp .NotEq (.int a t) (.int b u)) Q E s := by
  refine ne_int ?_
  rw [bne_iff_ne.mpr hab]
  exact h
end
/-! what a value reads as, over a ledger (and the text's own objects) -/
def ReadsIn (w : World) (led : List (Addr × Obj)) (v : Value) (d : PyData) : Prop := ∀ h : Heap, (tops.heap_1 w.params).In h → (∀ p ∈ led, h.get? p.1 = some p.2) → ∃ as, Reads h v d as
def ReadsInAll (w : World) (led : List (Addr × Obj)) (vs : List Value) (ds : List PyData) : Prop := ∀ h : Heap, (tops.heap_1 w.params).In h → (∀ p ∈ led, h.get? p.1 = some p.2) → ∃ as, ReadsAll h vs ds as
abbrev tupOf (vs : List Value) (k : Nat) : Obj := { cls := .type "tuple", data := .seq vs.toArray k }
section
variable {w : World} {led led' : List (Addr × Obj)}
theorem ReadsIn.mono {v : Value} {d : PyData} (r : ReadsIn w led v d) (hs : ∀ p ∈ led, p ∈ led') : ReadsIn w led' v d := fun h X N => r h X fun p hp => N p (hs p hp)
theorem ReadsInAll.mono {vs : List Value} {ds : List PyData} (r : ReadsInAll w led vs ds) (hs : ∀ p ∈ led, p ∈ led') : ReadsInAll w led' vs ds := fun h X N => r h X fun p hp => N p (hs p hp)
theorem ReadsIn.none : ReadsIn w led .none .none := fun _ _ _ => ⟨_, Reads.none⟩
theorem ReadsIn.bool (b : Bool) : ReadsIn w led (.bool b) (.bool b) := fun _ _ _ => ⟨_, Reads.bool b⟩
theorem ReadsIn.int (i : Int) (t : Tok) : ReadsIn w led (.int i t) (.int i) := fun _ _ _ => ⟨_, Reads.int i t⟩
theorem ReadsIn.str (x : Str) (t : Tok) : ReadsIn w led (.str x t) (.str x) := fun _ _ _ => ⟨_, Reads.str x t⟩
theorem ReadsInAll.nil : ReadsInAll w led [] [] := fun _ _ _ => ⟨_, ReadsAll.nil⟩
theorem ReadsInAll.cons {v : Value} {vs : List Value} {d : PyData} {ds : List PyData} (a : ReadsIn w led v d) (b : ReadsInAll w led vs ds) : ReadsInAll w led (v :: vs) (d :: ds) := fun h X N =>
  let ⟨_, r⟩ := a h X N
  let ⟨_, q⟩ := b h X N
  ⟨_, ReadsAll.cons r q⟩
theorem ReadsIn.tuple {a : Addr} {vs : List Value} {k : Nat} {ds : List PyData} (hm : (a, tupOf vs k) ∈ led) (r : ReadsInAll w led vs ds) : ReadsIn w led (.ref a) (.tuple ds) := fun h X N =>
  let ⟨as, q⟩ := r h X N
  ⟨as, reads_tuple_at (N _ hm) rfl rfl (by simpa using q)⟩
theorem ReadsIn.list {a : Addr} {vs : List Value} {k : Nat} {ds : List PyData} (hm : (a, W.listOf vs.toArray k) ∈ led) (r : ReadsInAll w led vs ds) : ReadsIn w led (.ref a) (.list ds) := fun h X N =>
  let ⟨_, q⟩ := r h X N
  ⟨_, reads_list_at (N _ hm) rfl rfl (by simpa using q)⟩
theorem ReadsInAll.snoc {v : Value} {vs : List Value} {d : PyData} {ds : List PyData} (b : ReadsInAll w led vs ds) (a : ReadsIn w led v d) : ReadsInAll w led (vs ++ [v]) (ds ++ [d]) := by
  intro h X N
  obtain ⟨as, q⟩ := b h X N
  obtain ⟨bs, p⟩ := a h X N
  clear a b N
  induction vs generalizing ds as with
  | nil => cases q; exact ⟨_, ReadsAll.cons p ReadsAll.nil⟩
  | cons u vs ih =>
    cases q with
    | cons r q => obtain ⟨_, z⟩ := ih _ q; exact ⟨_, ReadsAll.cons r z⟩
end
def penP : PyData := .tuple [.int 0, .int (-1), .int (-1), .int (-1), .int 0]
theorem pen_reads {w : World} {led : List (Addr × Obj)} : ReadsIn w led (.ref 95) penP := fun h X _ => by
  have e : (tops.heap_1 w.params).lookup 95 = some (tupOf [.int 0 291, .int (-1) 289, .int (-1) 289, .int (-1) 289, .int 0 292] 0) := by rfl
  exact ⟨_, reads_tuple_at (X _ _ e) rfl rfl (.cons (Reads.int _ _) (.cons (Reads.int _ _) (.cons (Reads.int _ _) (.cons (Reads.int _ _) (.cons (Reads.int _ _) .nil)))))⟩
def blankP : PyData := .tuple [.tuple [], .int 1, penP, .bool false]
def signP (n : Int) : PyData := .tuple [.tuple [.int (97 + n)], .int 1, penP, .bool false]
def cellP (n i : Int) : PyData := if n.fmod 3 = i then signP n else blankP
def cellsP (n : Int) : List PyData := [cellP n 0, cellP n 1, cellP n 2]
def wrapB (n : Int) : Bool := n.fmod 2 == 1
def toldP (n : Int) : PyData := .tuple [.list (cellsP n), .bool (wrapB n)]
/-- a cell: a tuple that reads as this -/
def CellAt (w : World) (led : List (Addr × Obj)) (e : Addr) (d : PyData) : Prop := (∃ vs k, (e, tupOf vs k) ∈ led) ∧ ReadsIn w led (.ref e) d
abbrev lineD (h1 h2 h3 : Int) (t1 t2 t3 t4 : Tok) (c : Addr) (b : Bool) : Obj := dictOf [⟨h1, .str (Str.ofString "cells") t1, .ref c⟩, ⟨h2, .str (Str.ofString "is_wrapped") t2, .bool b⟩, ⟨h3, .str (Str.ofString "size") t3, .str (Str.ofString "single") t4⟩] 3
/-- the line number n stands at a -/
def LineIs (w : World) (led : List (Addr × Obj)) (a : Addr) (n : Int) : Prop :=
  ∃ d c e0 e1 e2 k h1 h2 h3 t1 t2 t3 t4, (a, instObj 256 d) ∈ led ∧ (d, lineD h1 h2 h3 t1 t2 t3 t4 c (wrapB n)) ∈ led ∧ (c, W.listOf [.ref e0, .ref e1, .ref e2].toArray k) ∈ led ∧
    CellAt w led e0 (cellP n 0) ∧ CellAt w led e1 (cellP n 1) ∧ CellAt w led e2 (cellP n 2)
theorem CellAt.mono {w : World} {led led' : List (Addr × Obj)} {e : Addr} {d : PyData} (c : CellAt w led e d) (hs : ∀ p ∈ led, p ∈ led') : CellAt w led' e d := let ⟨⟨vs, k, h⟩, r⟩ := c; ⟨⟨vs, k, hs _ h⟩, r.mono hs⟩
theorem LineIs.mono {w : World} {led led' : List (Addr × Obj)} {a : Addr} {n : Int} (l : LineIs w led a n) (hs : ∀ p ∈ led, p ∈ led') : LineIs w led' a n := by
  obtain ⟨d, c, e0, e1, e2, k, h1, h2, h3, t1, t2, t3, t4, a1, a2, a3, a4, a5, a6⟩ := l
  exact ⟨d, c, e0, e1, e2, k, h1, h2, h3, t1, t2, t3, t4, hs _ a1, hs _ a2, hs _ a3, a4.mono hs, a5.mono hs, a6.mono hs⟩
/-- what is new lies apart from what stood -/
def Fresh (tl led : List (Addr × Obj)) : Prop := ∀ q ∈ tl, ∀ p ∈ led, p.1 ≠ q.1
/-- all is tl, then rest -/
inductive Tl (rest : List (Addr × Obj)) : List (Addr × Obj) → List (Addr × Obj) → Prop
  | nil : Tl rest [] rest
  | cons {p : Addr × Obj} {tl all : List (Addr × Obj)} : Tl rest tl all → Tl rest (p :: tl) (p :: all)
theorem Tl.eq {rest tl all : List (Addr × Obj)} (t : Tl rest tl all) : all = tl ++ rest := by
  induction t with
  | nil => rfl
  | cons _ ih => rw [ih]; rfl
theorem Tl.news {h₀ h : Heap} {L : Addr} {mid tl all led : List (Addr × Obj)} (t : Tl mid tl all) (N : News h₀ L h all) (hs : ∀ p ∈ led, p ∈ mid) : News h₀ L h (tl ++ led) := by
  intro p hp
  refine N p ?_
  rw [t.eq]
  rcases List.mem_append.mp hp with q | q
  · exact List.mem_append.mpr (.inl q)
  · exact List.mem_append.mpr (.inr (hs p q))
/-- a value comes back that reads as d; what is new lies apart; all else stands -/
def ReadPost (w : World) (d : PyData) (sup led : List (Addr × Obj)) (r : Value) (led' : List (Addr × Obj)) : Prop := ∃ tl, led' = tl ++ led ∧ Fresh tl led ∧ ReadsIn w (tl ++ sup) r d
theorem neOf {l : List (Addr × Obj)} {d : Addr} {p : Addr × Obj} (h : ∀ q ∈ l, q.1 ≠ d) (hp : p ∈ l) : p.1 ≠ d := h p hp
theorem off1_of {D : Addr} : ∀ {l : List (Addr × Obj)}, LCg.Off1 D l → ∀ p ∈ l, p.1 ≠ D
  | [], _, _, hp => nomatch hp
  | _ :: _, h, p, hp => by
    rcases List.mem_cons.mp hp with rfl | hp
    · exact h.1
    · exact off1_of h.2 p hp
theorem read_close {w : World} {h₀ h' : Heap} {L : Addr} {m : Str → Option Value} {s : Shared} {d : PyData} {r : Value} {tk' : Nat} {sup led mid tl all : List (Addr × Obj)} {Q : Value → Shared → Prop}
    (hret : ∀ r led' h' tk', Fr h₀ L h' m → News h₀ L h' led' → ReadPost w d sup led r led' → Q r { s with heap := h', toks := tk' }) (kF : Fr h₀ L h' m) (kN : News h₀ L h' all) (t : Tl mid tl all)
    (hs : ∀ p ∈ led, p ∈ mid) (hf : Fresh tl led) (hr : ReadsIn w (tl ++ sup) r d) : Q r { s with heap := h', toks := tk' } :=
  hret r (tl ++ led) h' tk' kF (t.news kN hs) ⟨tl, rfl, hf, hr⟩
theorem lt_of_sub {led mid : List (Addr × Obj)} (hs : ∀ p ∈ led, p ∈ mid) {p : Addr × Obj} (hp : p ∈ led) {d : Addr} (h : AllLt d mid) : @LT.lt Nat _ p.1 d := tb_ltOf h p (hs p hp)
/-! a list comprehension by a relation between an element and its place -/
def EltEnd (h₀ : Heap) (L : Addr) (m : Str → Option Value) (s₁ : Shared) (led : List (Addr × Obj)) (R : List (Addr × Obj) → Value → Nat → Prop) (sup : List (Addr × Obj)) (i : Nat) (y : Value) (s₂ : Shared) : Prop :=
  ∃ h' tk' tl', s₂ = { s₁ with heap := h', toks := tk' } ∧ Fr h₀ L h' m ∧ News h₀ L h' (tl' ++ led) ∧ Fresh tl' led ∧ R (tl' ++ sup) y i
def AllAt (R : List (Addr × Obj) → Value → Nat → Prop) (sup : List (Addr × Obj)) (n : Nat) (ys : List Value) : Prop := ys.length = n ∧ ∀ i y, ys[i]? = some y → R sup y i
theorem off3_of {I C D : Addr} {oI oC oD : Obj} {tl l : List (Addr × Obj)} (hf : Fresh tl ((I, oI) :: (C, oC) :: (D, oD) :: l)) (ho : LCg.Off3 I C D l) : LCg.Off3 I C D (tl ++ l) := by
  refine LCg.Off3.of fun p hp => ?_
  rcases List.mem_append.mp hp with q | q
  · exact ⟨(hf p q _ (.head _)).symm, (hf p q _ (.tail _ (.head _))).symm, (hf p q _ (.tail _ (.tail _ (.head _)))).symm⟩
  · exact LCg.Off3.mem ho p q
section
variable {prog : Program} {w : World} {A : Around} {h₀ : Heap} {L : Addr} {m : Str → Option Value} {env : Env} {elt : Expr} {x : Str} {scope : Scope} {cl : List (Str × Addr)} {s : Shared}
theorem comp_rest {S : List (Addr × Obj) → Prop} {P : Nat → Value → Prop} {Fin : List Value → List (Addr × Obj) → Prop} {R : List (Addr × Obj) → Value → Nat → Prop} {news sup : List (Addr × Obj)} {n : Nat}
    (hmono : ∀ l l' y i, (∀ p ∈ l, p ∈ l') → R l y i → R l' y i) (hsup : ∀ p ∈ sup, p ∈ news) (hS : ∀ tl, S (tl ++ news))
    (step : ∀ i v I oI C oC D ys m₂ h tk tl (E' : Value → Shared → Prop), i < n → P i v → LCg.NsObj oC m₂ → m₂ x = some v → Fr h₀ L h m → News h₀ L h ((I, oI) :: (C, oC) :: (D, LCg.lst ys) :: (tl ++ news)) →
      wpAny (model prog w) A (eval elt (compEnvC scope cl C env)) (EltEnd h₀ L m { s with heap := h, toks := tk } ((I, oI) :: (C, oC) :: (D, LCg.lst ys) :: (tl ++ news)) R sup i) E' { s with heap := h, toks := tk })
    (fin : ∀ ys tl, AllAt R (tl ++ sup) n ys → Fresh tl news → Fin ys (tl ++ news)) :
    LCg.CompRest prog w A h₀ L m env elt x scope cl s S P Fin n 0 [] news := by
  have key : ∀ k i ys tl, i + k = n → AllAt R (tl ++ sup) i ys → Fresh tl news → LCg.CompRest prog w A h₀ L m env elt x scope cl s S P Fin k i ys (tl ++ news) := by
    intro k
    induction k with
    | zero =>
      intro i ys tl hik ha hf
      have : i = n := by omega
      subst this
      exact LCg.CompRest.zero (fin ys tl ha hf)
    | succ k ih =>
      intro i ys tl hik ha hf
      refine LCg.CompRest.succ fun v I oI C oC D m₂ h tk E' hv hC hx F N off ne => ?_
      refine wpAny_mono (step i v I oI C oC D ys m₂ h tk tl E' (by omega) hv hC hx F N) (fun y s₂ he => ?_) fun _ _ e => e
      obtain ⟨h', tk', tl', rfl, F', N', hf', hR⟩ := he
      refine LCg.CompEnd.intro F' N' (tl' ++ (tl ++ news)) (fun p hp => ?_) (off3_of hf' off) (by rw [← List.append_assoc]; exact hS _) ?_
      · simp only [List.mem_cons, List.mem_append] at hp ⊢
        rcases hp with h | h | h | h | h | h <;> simp [h]
      · rw [← List.append_assoc]
        refine ih (i + 1) (ys ++ [y]) (tl' ++ tl) (by omega) ⟨by rw [List.length_append, ha.1]; rfl, fun j z hz => ?_⟩ ?_
        · by_cases hj : j < ys.length
          · rw [List.getElem?_append_left hj] at hz
            refine hmono _ _ _ _ (fun p hp => ?_) (ha.2 j z hz)
            simp only [List.mem_append] at hp ⊢
            rcases hp with h | h <;> simp [h]
          · rw [List.getElem?_append_right (by omega)] at hz
            have hj2 : j - ys.length = 0 := by
              cases hq : j - ys.length with
              | zero => rfl
              | succ q => rw [hq] at hz; simp at hz
            have hji : j = i := by have := ha.1; omega
            rw [hj2] at hz
            simp only [List.getElem?_cons_zero, Option.some.injEq] at hz
            subst hz hji
            refine hmono _ _ _ _ (fun p hp => ?_) hR
            simp only [List.mem_append] at hp ⊢
            rcases hp with h | h <;> simp [h]
        · intro q hq p hp
          rcases List.mem_append.mp hq with h | h
          · exact hf' q h p (.tail _ (.tail _ (.tail _ (List.mem_append.mpr (.inr hp)))))
          · exact hf q h p hp
  exact key n 0 [] [] (by omega) ⟨rfl, fun i y h => by simp at h⟩ (fun q hq => nomatch hq)
end
inductive LinesAll (w : World) (led : List (Addr × Obj)) : List Value → List Int → Prop
  | nil : LinesAll w led [] []
  | cons {a : Addr} {n : Int} {vs : List Value} {ns : List Int} : LineIs w led a n → LinesAll w led vs ns → LinesAll w led (.ref a :: vs) (n :: ns)
theorem LinesAll.mono {w : World} {led led' : List (Addr × Obj)} {vs : List Value} {ns : List Int} (h : LinesAll w led vs ns) (hs : ∀ p ∈ led, p ∈ led') : LinesAll w led' vs ns := by
  induction h with
  | nil => exact .nil
  | cons a _ ih => exact .cons (a.mono hs) ih
theorem LinesAll.length {w : World} {led : List (Addr × Obj)} {vs : List Value} {ns : List Int} (h : LinesAll w led vs ns) : vs.length = ns.length := by
  induction h with
  | nil => rfl
  | cons _ _ ih => rw [List.length_cons, List.length_cons, ih]
theorem LinesAll.get {w : World} {led : List (Addr × Obj)} {vs : List Value} {ns : List Int} (h : LinesAll w led vs ns) : ∀ {i : Nat} {v : Value}, vs[i]? = some v → ∃ a n, v = .ref a ∧ ns[i]? = some n ∧ LineIs w led a n := by
  induction h with
  | nil => intro i v e; simp at e
  | cons l _ ih =>
    intro i v e
    cases i with
    | zero => simp only [List.getElem?_cons_zero, Option.some.injEq] at e; exact ⟨_, _, e.symm, rfl, l⟩
    | succ i => exact ih (by simpa using e)
theorem LinesAll.append {w : World} {led : List (Addr × Obj)} {vs vs' : List Value} {ns ns' : List Int} (h : LinesAll w led vs ns) (h' : LinesAll w led vs' ns') : LinesAll w led (vs ++ vs') (ns ++ ns') := by
  induction h with
  | nil => exact h'
  | cons a _ ih => exact .cons a ih
theorem LinesAll.take {w : World} {led : List (Addr × Obj)} {vs : List Value} {ns : List Int} (h : LinesAll w led vs ns) : ∀ k, LinesAll w led (vs.take k) (ns.take k) := by
  induction h with
  | nil => intro k; simpa using LinesAll.nil
  | cons a _ ih => intro k; cases k with
    | zero => exact .nil
    | succ k => exact .cons a (ih k)
theorem LinesAll.drop {w : World} {led : List (Addr × Obj)} {vs : List Value} {ns : List Int} (h : LinesAll w led vs ns) : ∀ k, LinesAll w led (vs.drop k) (ns.drop k) := by
  induction h with
  | nil => intro k; simpa using LinesAll.nil
  | cons a r ih => intro k; cases k with
    | zero => exact .cons a r
    | succ k => exact ih k
abbrev histD (h1 h2 h3 : Int) (t1 t2 t3 u1 u3 : Tok) (most gone : Int) (l : Addr) : Obj := dictOf [⟨h1, .str (Str.ofString "most") t1, .int most u1⟩, ⟨h2, .str (Str.ofString "lines") t2, .ref l⟩, ⟨h3, .str (Str.ofString "gone") t3, .int gone u3⟩] 3
/-- a history that keeps the lines of these numbers stands at a -/
def HistIs (w : World) (led : List (Addr × Obj)) (a : Addr) (ns : List Int) : Prop :=
  ∃ d l vs k h1 h2 h3 t1 t2 t3 u1 u3 most gone, (a, instObj 85 d) ∈ led ∧ (d, histD h1 h2 h3 t1 t2 t3 u1 u3 most gone l) ∈ led ∧ (l, W.listOf (List.toArray vs) k) ∈ led ∧ LinesAll w led vs ns
theorem HistIs.mono {w : World} {led led' : List (Addr × Obj)} {a : Addr} {ns : List Int} (h : HistIs w led a ns) (hs : ∀ p ∈ led, p ∈ led') : HistIs w led' a ns := by
  obtain ⟨d, l, vs, k, h1, h2, h3, t1, t2, t3, u1, u3, most, gone, a1, a2, a3, a4⟩ := h
  exact ⟨d, l, vs, k, h1, h2, h3, t1, t2, t3, u1, u3, most, gone, hs _ a1, hs _ a2, hs _ a3, a4.mono hs⟩
theorem news_swap {h₀ h : Heap} {L : Addr} {tl led : List (Addr × Obj)} (N : News h₀ L h (tl ++ led)) : News h₀ L h (led ++ tl) := fun p hp => N p (by rcases List.mem_append.mp hp with q | q <;> simp [q])
theorem spec_use {w : World} {q : Program} {f : Addr} {args : List Value} {led : List (Addr × Obj)} {dd uu : Nat} {post : Value → List (Addr × Obj) → Prop} (S : Spec w f args led dd uu post)
    {dp un : Nat} {gd : Option (List Code)} {cn : Str} {cs : Scope} {a : Addr} {ccd : Value} {cl : List (Str × Addr)} {outer : List Env} {A₀ : Around} {base h₀ : Heap} {L : Addr} {m : Str → Option Value} {s : Shared}
    {loose : List Str} {mean : ExcName → Option Value} {mg mb : Str → Option Value} {Q E : Value → Shared → Prop} (B : Below A₀ base outer h₀) (F : Fr h₀ L s.heap m) (X : (tops.heap_1 w.params).In h₀) (N : News h₀ L s.heap led)
    (T : Top q loose mean mg mb h₀) (hk : cs.kind = .function) (hd : dp + dd < recursionLimit) (hu : un + uu < cLine) (hq : q = tops.view_1)
    (ret : ∀ r led' h' tk', Fr h₀ L h' m → News h₀ L h' led' → post r led' → Q r { s with heap := h', toks := tk' }) :
    wpAny (model PySem.Challenge.rw_np0274_01.row.prog w) (ktrTop dp un gd cn cs L a ccd cl outer) (call (.ref f) args) Q E s := by
  subst hq
  exact S _ _ _ _ _ _ _ _ _ _ _ _ _ _ _ _ _ _ _ _ _ B F X N T hk hd hu ret
section
variable {w : World} {A : Around} {E : Value → Shared → Prop} {s : Shared} {led : List (Addr × Obj)} {a b : Value} {da db : PyData} {Q : Value → Shared → Prop} {prog : Program} {h₀ : Heap} {L : Addr} {m : Str → Option Value}
theorem eq_reads (F : Fr h₀ L s.heap m) (X : (tops.heap_1 w.params).In h₀) (N : News h₀ L s.heap led) (ra : ReadsIn w led a da) (rb : ReadsIn w led b db) (ha : SeqAt.shaped da = true) (hb : SeqAt.shaped db = true) (hu : A.units + 64 < cLine)
    (h : Q (.bool (PyData.eqv da db)) s) : wpAny (model prog w) A (compareOp .Eq a b) Q E s := by
  obtain ⟨_, ra⟩ := ra s.heap (X.keeps F.keep) fun p hp => (N p hp).1
  obtain ⟨_, rb⟩ := rb s.heap (X.keeps F.keep) fun p hp => (N p hp).1
  exact eq_dataH ra rb ha hb hu h
theorem ne_reads (F : Fr h₀ L s.heap m) (X : (tops.heap_1 w.params).In h₀) (N : News h₀ L s.heap led) (ra : ReadsIn w led a da) (rb : ReadsIn w led b db) (ha : SeqAt.shaped da = true) (hb : SeqAt.shaped db = true) (hu : A.units + 64 < cLine)
    (h : Q (.bool (!PyData.eqv da db)) s) : wpAny (model prog w) A (compareOp .NotEq a b) Q E s := by
  obtain ⟨_, ra⟩ := ra s.heap (X.keeps F.keep) fun p hp => (N p hp).1
  obtain ⟨_, rb⟩ := rb s.heap (X.keeps F.keep) fun p hp => (N p hp).1
  exact ne_dataH ra rb ha hb hu h
end
/-- a call that makes and changes nothing that stood -/
def PurePost (P : Value → List (Addr × Obj) → Prop) (sup led : List (Addr × Obj)) (r : Value) (led' : List (Addr × Obj)) : Prop := ∃ tl, led' = tl ++ led ∧ Fresh tl led ∧ P r (tl ++ sup)
mutual
theorem eqv_self : ∀ d : PyData, PyData.canLay0 d = true → PyData.eqv d d = true
  | .none, _ => by simp [PyData.eqv]
  | .bool b, _ => by simp [PyData.eqv]
  | .int i, _ => by simp [PyData.eqv]
  | .str x, _ => by simp [PyData.eqv]
  | .list xs, h => by simp only [PyData.eqv]; exact eqvAll_self xs (by simpa [PyData.canLay0] using h)
  | .tuple xs, h => by simp only [PyData.eqv]; exact eqvAll_self xs (by simpa [PyData.canLay0] using h)
  | .dict _, h => by simp [PyData.canLay0] at h
theorem eqvAll_self : ∀ xs : List PyData, PyData.canLayAll0 xs = true → PyData.eqvAll xs xs = true
  | [], _ => by simp [PyData.eqvAll]
  | x :: xs, h => by
    simp only [PyData.canLayAll0, Bool.and_eq_true] at h
    simp only [PyData.eqvAll, eqv_self x h.1, eqvAll_self xs h.2, Bool.and_self]
end
theorem cellP_lay (n i : Int) : PyData.canLay0 (cellP n i) = true ∧ PyData.depth (cellP n i) ≤ 2 := by
  unfold cellP
  split
  · simp [signP, penP, PyData.canLay0, PyData.canLayAll0, PyData.depth, PyData.depthAll]
  · simp [blankP, penP, PyData.canLay0, PyData.canLayAll0, PyData.depth, PyData.depthAll]
theorem toldP_lay (n : Int) : PyData.canLay0 (toldP n) = true ∧ PyData.depth (toldP n) ≤ 4 := by
  have a := cellP_lay n 0
  have b := cellP_lay n 1
  have c := cellP_lay n 2
  simp only [toldP, cellsP, PyData.canLay0, PyData.canLayAll0, PyData.depth, PyData.depthAll, a.1, b.1, c.1, Bool.and_self, true_and]
  omega
theorem toldP_shaped (n : Int) : SeqAt.shaped (toldP n) = true := by
  unfold SeqAt.shaped
  rw [(toldP_lay n).1, Bool.true_and]
  exact decide_eq_true (Nat.le_trans (toldP_lay n).2 (by decide))
theorem none_shaped : SeqAt.shaped PyData.none = true := by rfl
theorem tolds_lay : ∀ ns : List Int, PyData.canLayAll0 (ns.map toldP) = true ∧ PyData.depthAll (ns.map toldP) ≤ 4
  | [] => by simp [PyData.canLayAll0, PyData.depthAll]
  | n :: ns => by
    have a := toldP_lay n
    have b := tolds_lay ns
    simp only [List.map_cons, PyData.canLayAll0, PyData.depthAll, a.1, b.1, Bool.and_self, true_and]
    omega
theorem tolds_shaped (ns : List Int) : SeqAt.shaped (.list (ns.map toldP)) = true := by
  have a := tolds_lay ns
  unfold SeqAt.shaped
  simp only [PyData.canLay0, PyData.depth, a.1, Bool.true_and]
  exact decide_eq_true (by have := a.2; omega)
theorem tolds_self (ns : List Int) : PyData.eqv (.list (ns.map toldP)) (.list (ns.map toldP)) = true := eqv_self _ (by simp only [PyData.canLay0]; exact (tolds_lay ns).1)
theorem told_self (n : Int) : PyData.eqv (toldP n) (toldP n) = true := eqv_self _ (toldP_lay n).1
theorem readsAll_of {w : World} {ns : List Int} : ∀ {ys : List Value} {sup : List (Addr × Obj)}, AllAt (fun l y i => ∃ n, ns[i]? = some n ∧ ReadsIn w l y (toldP n)) sup ns.length ys → ReadsInAll w sup ys (ns.map toldP) := by
  induction ns with
  | nil =>
    intro ys sup h
    have : ys = [] := List.length_eq_zero_iff.mp h.1
    subst this
    exact .nil
  | cons n ns ih =>
    intro ys sup h
    obtain ⟨hl, hg⟩ := h
    cases ys with
    | nil => simp at hl
    | cons y ys =>
      obtain ⟨k, hk, hr⟩ := hg 0 y rfl
      simp only [List.getElem?_cons_zero, Option.some.injEq] at hk
      subst hk
      exact .cons hr (ih ⟨by simpa using hl, fun i z hz => by simpa using hg (i + 1) z (by simpa using hz)⟩)
theorem elt_two {h₀ h : Heap} {L : Addr} {t1 t2 led : List (Addr × Obj)} (N : News h₀ L h (t2 ++ (t1 ++ led))) (f1 : Fresh t1 led) (f2 : Fresh t2 (t1 ++ led)) : News h₀ L h ((t2 ++ t1) ++ led) ∧ Fresh (t2 ++ t1) led := by
  refine ⟨by rw [List.append_assoc]; exact N, fun q hq p hp => ?_⟩
  rcases List.mem_append.mp hq with z | z
  · exact f2 q z p (List.mem_append.mpr (.inr hp))
  · exact f1 q z p hp
local macro_rules | `(tactic| k_room) => `(tactic| ((try simp only [depth_mark, depth_under_make, depth_under_kw, depth_in1, depth_deeper, depth_caller]); (try dsimp only [ktrTop]); omega))
local macro_rules | `(tactic| k_units) => `(tactic| ((try simp only [units_in1, units_deeper, Around.mark_units, units_caller]); (try dsimp only [ktrTop]); omega))
local macro_rules | `(tactic| walk_at "binaryOp Mod int int") => `(tactic| (k_here; (with_reducible refine' mod_known ?k1 ?k2 ?_); (case k1 => with_reducible assumption); (case k2 => decide); k_whole))
local macro_rules | `(tactic| walk_at "subscriptTail Name Name ref int") => `(tactic| (k_here; (with_reducible show wpAny _ _ (subscriptTail _ _ (Value.ref _) (Value.int _ _)) _ _ _); k_dflt (refine' item_made ?k1 ?k2 ?k3 ?k4 ?k5 ?_ ?k6; (case k1 => k_asm); (case k2 => k_mem); (case k3 => decide); (case k4 => decide); (case k5 => rfl); (case k6 => with_unfolding_all rfl); k_whole)))
local macro_rules | `(tactic| walk_at "binaryOp Mult ref int") => `(tactic| (k_here; (with_reducible show wpAny _ _ (binaryOp Operator.Mult (Value.ref _) (Value.int _ _)) _ _ _); k_dflt (first
  | (refine' mul_times (n := 3) ?k1 ?k2 ?k3 ?k4 ?k5 ?_; (case k1 => k_asm); (case k2 => k_asm); (case k3 => k_mem); (case k4 => first | rfl | decide | omega); (case k5 => decide); k_whole)
  | (refine' mul_times (n := 0) ?k1 ?k2 ?k3 ?k4 ?k5 ?_; (case k1 => k_asm); (case k2 => k_asm); (case k3 => k_mem); (case k4 => first | rfl | decide | omega); (case k5 => decide); k_whole)); intro D' h' F' N' l1; (try k_lt l1); (try simp only [List.replicate] at N'); (try k_sweep)))
local macro_rules | `(tactic| kd_above) => `(tactic| (intro p9 h9; (with_reducible rename ∀ p ∈ _, Prod.fst p < _ => l9); (have l8 := ltN (l9 p9 h9)); (refine neN ?_); (try dsimp only); omega))
local macro_rules | `(tactic| walk_at "call type:tuple") => `(tactic| (k_here; (with_reducible show wpAny _ _ (call (Value.type _) [Value.ref _]) _ _ _); k_dflt (refine' tuple_same ?k1 ?k2 ?_; (case k1 => k_asm); (case k2 => k_mem); k_whole)))
local macro_rules | `(tactic| walk_at "CompEnd") => `(tactic| (k_dflt (refine LCg.CompEnd.intro (by k_asm) (by k_asm) _ (fun p hp => hp) (by k_asm) (by lcg_src) ?_)))
local macro_rules | `(tactic| walk_at "FinE") => `(tactic| ((unfold LCg.FinE); intro D' h' tk' F' N' o1'; (have o2' := off1_of o1'); (try simp only [LCg.Off1, and_true] at o1'); (try simp only [List.nil_append, List.cons_append] at N'); (try dsimp only)))
local macro_rules | `(tactic| kd_above) => `(tactic| (intro p9 h9; refine neOf (by assumption) ?_; k_ownIn))
local macro_rules | `(tactic| walk_at "call builtin:len") => `(tactic| (k_here; (with_reducible show wpAny _ _ (call (Value.builtin "len") [Value.ref _]) _ _ _); k_dflt (refine' len_made ?k1 ?k2 ?k3 ?k4 ?_; (case k1 => k_asm); (case k2 => k_mem); (case k3 => with_reducible assumption); (case k4 => omega); k_whole)))
local macro_rules | `(tactic| walk_at "compareOp NotEq int int") => `(tactic| (k_here; (with_reducible refine ne_same ?_)))
local macro_rules | `(tactic| walk_at "eval ListComp") => `(tactic| (k_here; (with_reducible show wpAny _ _ (eval (Expr.ListComp _ _ _ _) _) _ _ _); lcg_look; k_dflt (refine LCg.ListComp_U (F₀ := by k_asm) (by rfl) (by decide) (by rfl) (by decide) (by rfl) ?_)))
local macro_rules | `(tactic| ktr_room) => `(tactic| ((try simp only [depth_mark, depth_under_make, depth_under_kw, depth_in1, depth_deeper, depth_caller]); (try dsimp only [ktrTop]); omega))
local macro_rules | `(tactic| ktr_units) => `(tactic| ((try simp only [units_in1, units_deeper, Around.mark_units, units_caller]); (try dsimp only [ktrTop]); omega))
local macro_rules | `(tactic| kd_above) => `(tactic| (intro p9 h9; refine neN (Nat.ne_of_lt (Nat.lt_trans ?_ (by assumption))); exact lt_of_sub (by assumption) h9 (by assumption)))
local macro_rules | `(tactic| walk_at "compareOp NotEq int int") => `(tactic| (k_here; k_dflt (refine' ne_diff ?k1 ?_; (case k1 => omega))))
section
variable {prog : Program} {w : World} {A : Around} {E : Value → Shared → Prop} {s : Shared} {h₀ : Heap} {L : Addr} {m : Str → Option Value} {news news' : List (Addr × Obj)}
theorem append_to {l : Addr} {vs ws : List Value} {v : Value} {k : Nat} {Q : Value → Shared → Prop} (F : Fr h₀ L s.heap m) (N : News h₀ L s.heap news) (U : Upd l (W.listOf vs.toArray k) (W.listOf ws.toArray (k + 1)) news news') (hw : vs ++ [v] = ws) (hz : vs.length ≤ 1000)
    (h : ∀ h', Fr h₀ L h' m → News h₀ L h' news' → Q .none { s with heap := h' }) : wpAny (model prog w) A (call (.builtin "list.append") [.ref l, v]) Q E s := by
  subst hw
  have e : vs.toArray.push v = (vs ++ [v]).toArray := by simp
  exact append_K F N (e ▸ U) h (by rw [List.size_toArray, sizeLine_eq]; omega)
theorem kl_last_snoc : ∀ (p : List Value) (y : Value), kl_last (p ++ [y]) = some (p, y)
  | [], y => rfl
  | x :: p, y => by
    show (match kl_last (p ++ [y]) with | some (p, y) => some (x :: p, y) | none => some ([], x)) = _
    rw [kl_last_snoc p y]
theorem pop_end {l : Addr} {p : List Value} {y : Value} {k : Nat} {Q : Value → Shared → Prop} (F : Fr h₀ L s.heap m) (N : News h₀ L s.heap news) (U : Upd l (W.listOf (p ++ [y]).toArray k) (W.listOf p.toArray (k + 1)) news news') (hz : p.length ≤ 1000)
    (h : ∀ h', Fr h₀ L h' m → News h₀ L h' news' → Q y { s with heap := h' }) : wpAny (model prog w) A (call (.builtin "list.pop") [.ref l]) Q E s :=
  kl_pop F N (kl_last_snoc p y) U (by show (p ++ [y]).length ≤ sizeLine; rw [List.length_append, sizeLine_eq, List.length_singleton]; omega) h
theorem pop_first {l : Addr} {q : List Value} {y : Value} {k : Nat} {u : Tok} {Q : Value → Shared → Prop} (F : Fr h₀ L s.heap m) (N : News h₀ L s.heap news) (U : Upd l (W.listOf (y :: q).toArray k) (W.listOf q.toArray (k + 1)) news news') (hz : q.length ≤ 1000)
    (h : ∀ h', Fr h₀ L h' m → News h₀ L h' news' → Q y { s with heap := h' }) : wpAny (model prog w) A (call (.builtin "list.pop") [.ref l, .int 0 u]) Q E s :=
  kl_popAt (p := []) (k := 0) F N rfl (by unfold seqIndex?; simp) rfl U (by show (y :: q).length ≤ sizeLine; rw [List.length_cons, sizeLine_eq]; omega) h
theorem kms_upto {vs : List Value} {y : Int} (h : 0 ≤ y) : kms_pick vs none (some y) = vs.take y.toNat := by
  unfold kms_pick kms_lo kms_hi
  simp only [List.drop_zero, Nat.sub_zero, if_neg (show ¬ y < 0 by omega)]
  exact kmk_take_min vs y.toNat
theorem kms_from {vs : List Value} {x : Int} (h : 0 ≤ x) : kms_pick vs (some x) none = vs.drop x.toNat := by
  unfold kms_pick kms_lo kms_hi
  simp only [if_neg (show ¬ x < 0 by omega)]
  rw [kmk_drop_min, List.take_of_length_le]
  rw [List.length_drop]
  omega
theorem slice_upto {value slice : Expr} {l : Addr} {vs : List Value} {y : Int} {u : Tok} {k : Nat} {Q : Value → Shared → Prop} (F : Fr h₀ L s.heap m) (N : News h₀ L s.heap news) (hm : (l, W.listOf vs.toArray k) ∈ news) (hy : 0 ≤ y) (hz : vs.length ≤ 1000)
    (h : ∀ D h', Fr h₀ L h' m → News h₀ L h' ((D, W.listOf (vs.take y.toNat).toArray 0) :: news) → (∀ p ∈ news, p.1 < D) → Q (.ref D) { s with heap := h' })
    (hs : subscripted slice false (.ref l) (.ref s.heap.objs.size) = operate [.ref s.heap.objs.size, .ref l] (getItem (.ref l) (.ref s.heap.objs.size))) (ht : ∀ r, letTemporaryGo value (.ref l) r = pure ()) :
    wpAny (model prog w) A (subscriptTail value slice (.ref l) (.ref s.heap.objs.size)) Q E { s with heap := s.heap.push { cls := .type "slice", data := .fields #[.none, .int y u, .none] } } :=
  kms_slice_lit F N (News.isList N hm) IsPart.none (IsPart.int _ _) (kms_upto hy) h hs ht (by rw [List.size_toArray, sizeLine_eq]; omega)
theorem slice_from {value slice : Expr} {l : Addr} {vs : List Value} {x : Int} {u : Tok} {k : Nat} {Q : Value → Shared → Prop} (F : Fr h₀ L s.heap m) (N : News h₀ L s.heap news) (hm : (l, W.listOf vs.toArray k) ∈ news) (hx : 0 ≤ x) (hz : vs.length ≤ 1000)
    (h : ∀ D h', Fr h₀ L h' m → News h₀ L h' ((D, W.listOf (vs.drop x.toNat).toArray 0) :: news) → (∀ p ∈ news, p.1 < D) → Q (.ref D) { s with heap := h' })
    (hs : subscripted slice false (.ref l) (.ref s.heap.objs.size) = operate [.ref s.heap.objs.size, .ref l] (getItem (.ref l) (.ref s.heap.objs.size))) (ht : ∀ r, letTemporaryGo value (.ref l) r = pure ()) :
    wpAny (model prog w) A (subscriptTail value slice (.ref l) (.ref s.heap.objs.size)) Q E { s with heap := s.heap.push { cls := .type "slice", data := .fields #[.int x u, .none, .none] } } :=
  kms_slice_lit F N (News.isList N hm) (IsPart.int _ _) IsPart.none (kms_from hx) h hs ht (by rw [List.size_toArray, sizeLine_eq]; omega)
end
theorem wrap_eq (n : Int) : (n.fmod 2 == 1) = wrapB n := rfl
theorem cellP_is {n i r : Int} (hm : n.fmod 3 = r) (h : r = i) : cellP n i = signP n := by unfold cellP; rw [if_pos (hm.trans h)]
theorem cellP_not {n i r : Int} (hm : n.fmod 3 = r) (h : r ≠ i) : cellP n i = blankP := by unfold cellP; rw [if_neg (by rw [hm]; exact h)]
theorem blank_at {w : World} {led : List (Addr × Obj)} {e p z : Addr} {t1 t2 t3 t4 t5 t6 : Tok} {k1 k2 k3 : Nat} (he : (e, tupOf [.ref z, .int 1 t1, .ref p, .bool false] k1) ∈ led) (hz : (z, tupOf [] k2) ∈ led)
    (hp : (p, tupOf [.int 0 t2, .int (-1) t3, .int (-1) t4, .int (-1) t5, .int 0 t6] k3) ∈ led) : CellAt w led e blankP :=
  ⟨⟨_, _, he⟩, .tuple he (.cons (.tuple hz .nil) (.cons (.int _ _) (.cons (.tuple hp (.cons (.int _ _) (.cons (.int _ _) (.cons (.int _ _) (.cons (.int _ _) (.cons (.int _ _) .nil)))))) (.cons (.bool _) .nil))))⟩
theorem sign_at {w : World} {led : List (Addr × Obj)} {e z : Addr} {n : Int} {t1 t2 : Tok} {k1 k2 : Nat} (he : (e, tupOf [.ref z, .int 1 t1, .ref 95, .bool false] k1) ∈ led) (hz : (z, tupOf [.int (97 + n) t2] k2) ∈ led) : CellAt w led e (signP n) :=
  ⟨⟨_, _, he⟩, .tuple he (.cons (.tuple hz (.cons (.int _ _) .nil)) (.cons (.int _ _) (.cons pen_reads (.cons (.bool _) .nil))))⟩
def LinePost (w : World) (n : Int) (rest : List (Addr × Obj)) (r : Value) (led' : List (Addr × Obj)) : Prop := ∃ a tl, r = .ref a ∧ Tl rest tl led' ∧ Fresh tl rest ∧ LineIs w tl a n
theorem linePost_intro {w : World} {n : Int} {a : Addr} {tl all rest : List (Addr × Obj)} (myT : Tl rest tl all) (myF : Fresh tl rest) (myL : LineIs w tl a n) : LinePost w n rest (.ref a) all := ⟨a, tl, rfl, myT, myF, myL⟩
set_option maxHeartbeats 8000000 in
theorem line_spec0 {w : World} {n : Int} {tb : Tok} {rest : List (Addr × Obj)} (hm : n.fmod 3 = 0) : Spec w 279 [.int n tb] rest 40 800 (LinePost w n rest) := by
  unfold Spec
  k_fill
  intro dp un gd cn cs a ccd cl outer A₀ base h₀ L m s loose mean mg mb Q E B F X N T hk hd hu hret
  refine wpAny_call ?_
  k_dflt ktr_enter
  k_steps
  rename_i kN _ _
  with_reducible rename Fr h₀ _ _ _ => kF
  refine hret _ _ _ _ kF kN ?_
  apply linePost_intro
  case myT => repeat (first | exact Tl.nil | apply Tl.cons)
  case myF => (unfold Fresh; repeat (first | exact List.forall_mem_nil _ | (refine List.forall_mem_cons.mpr ⟨?_, ?_⟩; (focus kd_above))))
  case myL => exact ⟨_, _, _, _, _, _, _, _, _, _, _, _, _, by k_memK, by k_memK, by k_memK, (by rw [cellP_is hm (by decide)]; exact sign_at (by k_memK) (by k_memK)), (by rw [cellP_not hm (by decide)]; exact blank_at (by k_memK) (by k_memK) (by k_memK)), (by rw [cellP_not hm (by decide)]; exact blank_at (by k_memK) (by k_memK) (by k_memK))⟩
set_option maxHeartbeats 8000000 in
theorem line_spec1 {w : World} {n : Int} {tb : Tok} {rest : List (Addr × Obj)} (hm : n.fmod 3 = 1) : Spec w 279 [.int n tb] rest 40 800 (LinePost w n rest) := by
  unfold Spec
  k_fill
  intro dp un gd cn cs a ccd cl outer A₀ base h₀ L m s loose mean mg mb Q E B F X N T hk hd hu hret
  refine wpAny_call ?_
  k_dflt ktr_enter
  k_steps
  rename_i kN _ _
  with_reducible rename Fr h₀ _ _ _ => kF
  refine hret _ _ _ _ kF kN ?_
  apply linePost_intro
  case myT => repeat (first | exact Tl.nil | apply Tl.cons)
  case myF => (unfold Fresh; repeat (first | exact List.forall_mem_nil _ | (refine List.forall_mem_cons.mpr ⟨?_, ?_⟩; (focus kd_above))))
  case myL => exact ⟨_, _, _, _, _, _, _, _, _, _, _, _, _, by k_memK, by k_memK, by k_memK, (by rw [cellP_not hm (by decide)]; exact blank_at (by k_memK) (by k_memK) (by k_memK)), (by rw [cellP_is hm (by decide)]; exact sign_at (by k_memK) (by k_memK)), (by rw [cellP_not hm (by decide)]; exact blank_at (by k_memK) (by k_memK) (by k_memK))⟩
set_option maxHeartbeats 8000000 in
theorem line_spec2 {w : World} {n : Int} {tb : Tok} {rest : List (Addr × Obj)} (hm : n.fmod 3 = 2) : Spec w 279 [.int n tb] rest 40 800 (LinePost w n rest) := by
  unfold Spec
  k_fill
  intro dp un gd cn cs a ccd cl outer A₀ base h₀ L m s loose mean mg mb Q E B F X N T hk hd hu hret
  refine wpAny_call ?_
  k_dflt ktr_enter
  k_steps
  rename_i kN _ _
  with_reducible rename Fr h₀ _ _ _ => kF
  refine hret _ _ _ _ kF kN ?_
  apply linePost_intro
  case myT => repeat (first | exact Tl.nil | apply Tl.cons)
  case myF => (unfold Fresh; repeat (first | exact List.forall_mem_nil _ | (refine List.forall_mem_cons.mpr ⟨?_, ?_⟩; (focus kd_above))))
  case myL => exact ⟨_, _, _, _, _, _, _, _, _, _, _, _, _, by k_memK, by k_memK, by k_memK, (by rw [cellP_not hm (by decide)]; exact blank_at (by k_memK) (by k_memK) (by k_memK)), (by rw [cellP_not hm (by decide)]; exact blank_at (by k_memK) (by k_memK) (by k_memK)), (by rw [cellP_is hm (by decide)]; exact sign_at (by k_memK) (by k_memK))⟩
theorem line_spec {w : World} {n : Int} {tb : Tok} {rest : List (Addr × Obj)} : Spec w 279 [.int n tb] rest 40 800 (LinePost w n rest) := by
  have h : n.fmod 3 = 0 ∨ n.fmod 3 = 1 ∨ n.fmod 3 = 2 := by
    have h1 := Int.fmod_nonneg_of_pos n (b := 3) (by decide)
    have h2 := Int.fmod_lt_of_pos n (b := 3) (by decide)
    omega
  rcases h with h | h | h
  · exact line_spec0 h
  · exact line_spec1 h
  · exact line_spec2 h
theorem lineD_news {w : World} {h₀ h : Heap} {L a : Addr} {n : Int} {sup led : List (Addr × Obj)} (N : News h₀ L h led) (hsup : ∀ p ∈ sup, p ∈ led) (hl : LineIs w sup a n) :
    ∃ d c e0 e1 e2 k h1 h2 h3 t1 t2 t3 t4 v0 k0 v1 k1 v2 k2 mid, mid = (a, instObj 256 d) :: (d, lineD h1 h2 h3 t1 t2 t3 t4 c (wrapB n)) :: (c, W.listOf [.ref e0, .ref e1, .ref e2].toArray k) :: (e0, tupOf v0 k0) :: (e1, tupOf v1 k1) :: (e2, tupOf v2 k2) :: led ∧
      News h₀ L h mid ∧ (∀ p ∈ led, p ∈ mid) ∧ CellAt w sup e0 (cellP n 0) ∧ CellAt w sup e1 (cellP n 1) ∧ CellAt w sup e2 (cellP n 2) := by
  obtain ⟨d, c, e0, e1, e2, k, h1, h2, h3, t1, t2, t3, t4, a1, a2, a3, a4, a5, a6⟩ := hl
  obtain ⟨⟨v0, k0, m0⟩, r0⟩ := id a4
  obtain ⟨⟨v1, k1, m1⟩, r1⟩ := id a5
  obtain ⟨⟨v2, k2, m2⟩, r2⟩ := id a6
  have hs2 : ∀ p ∈ (a, instObj 256 d) :: (d, lineD h1 h2 h3 t1 t2 t3 t4 c (wrapB n)) :: (c, W.listOf [.ref e0, .ref e1, .ref e2].toArray k) :: (e0, tupOf v0 k0) :: (e1, tupOf v1 k1) :: (e2, tupOf v2 k2) :: led, p ∈ led := by
    intro p hp
    simp only [List.mem_cons] at hp
    rcases hp with rfl | rfl | rfl | rfl | rfl | rfl | hp <;> first | assumption | exact hsup _ (by assumption)
  refine ⟨d, c, e0, e1, e2, k, h1, h2, h3, t1, t2, t3, t4, v0, k0, v1, k1, v2, k2, _, rfl, fun p hp => N p (hs2 p hp), ?_, a4, a5, a6⟩
  intro p hp
  exact .tail _ (.tail _ (.tail _ (.tail _ (.tail _ (.tail _ hp)))))
set_option maxHeartbeats 8000000 in
theorem told_spec {w : World} {n : Int} {a : Addr} {sup led : List (Addr × Obj)} (hsup : ∀ p ∈ sup, p ∈ led) (hl : LineIs w sup a n) : Spec w 284 [.ref a] led 40 800 (ReadPost w (toldP n) sup led) := by
  unfold Spec
  k_fill
  intro dp un gd cn cs a' ccd cl outer A₀ base h₀ L m s loose mean mg mb Q E B F X N T hk hd hu hret
  obtain ⟨d, c, e0, e1, e2, k, h1, h2, h3, t1, t2, t3, t4, v0, k0, v1, k1, v2, k2, mid, hmid, N1, hs, a4, a5, a6⟩ := lineD_news N hsup hl
  subst hmid
  clear N
  refine wpAny_call ?_
  k_dflt ktr_enter
  k_steps
  rename_i kN _ _
  with_reducible rename Fr h₀ _ _ _ => kF
  apply read_close hret kF kN (Tl.cons (Tl.cons Tl.nil)) hs
  · unfold Fresh
    exact List.forall_mem_cons.mpr ⟨by kd_above, List.forall_mem_cons.mpr ⟨by kd_above, List.forall_mem_nil _⟩⟩
  · refine .tuple (.head _) (.cons (.list (.tail _ (.head _)) (.cons (a4.2.mono ?_) (.cons (a5.2.mono ?_) (.cons (a6.2.mono ?_) .nil)))) (.cons (.bool _) .nil)) <;> exact fun p hp => .tail _ (.tail _ hp)
abbrev deckL (w : World) (od : Obj) (c : Addr) (at_ : Int) (t : Tok) : Prop := Obj.IsDictOf (PySem.strKind PySem.Challenge.rw_np0274_01.row.prog w) od [(Str.ofString "cells", .ref c), (Str.ofString "at", .int at_ t)]
def DrawPost (w : World) (d c : Addr) (vs : List Value) (at_ below : Int) (rest : List (Addr × Obj)) (r : Value) (led' : List (Addr × Obj)) : Prop :=
  ∃ k t t' od', r = .int k t ∧ 0 ≤ k ∧ k < below ∧ deckL w od' c (at_ + 1) t' ∧ led' = (c, LCg.lst vs) :: (d, od') :: rest
theorem news_tail {h₀ h : Heap} {L : Addr} {p : Addr × Obj} {l : List (Addr × Obj)} (N : News h₀ L h (p :: l)) : News h₀ L h l := fun q hq => N q (.tail _ hq)
section
variable {w : World} {d c D l : Addr} {oD ol od' : Obj} {at_ below k : Int} {t t' : Tok} {vs : List Value} {rest : List (Addr × Obj)} {h₀ h' : Heap} {L : Addr} {m : Str → Option Value} {s : Shared} {tk' : Nat} {Q : Value → Shared → Prop}
theorem draw_close (hret : ∀ r led' h' tk', Fr h₀ L h' m → News h₀ L h' led' → DrawPost w d c vs at_ below rest r led' → Q r { s with heap := h', toks := tk' }) (F : Fr h₀ L h' m) (N : News h₀ L h' ((D, oD) :: (c, LCg.lst vs) :: (d, od') :: rest))
    (h0 : 0 ≤ k) (h1 : k < below) (hD : deckL w od' c (at_ + 1) t') : Q (.int k t) { s with heap := h', toks := tk' } := hret _ _ _ _ F (news_tail N) ⟨_, _, _, _, rfl, h0, h1, hD, rfl⟩
theorem draw_close2 (hret : ∀ r led' h' tk', Fr h₀ L h' m → News h₀ L h' led' → DrawPost w d c vs at_ below rest r led' → Q r { s with heap := h', toks := tk' }) (F : Fr h₀ L h' m) (N : News h₀ L h' ((l, ol) :: (D, oD) :: (c, LCg.lst vs) :: (d, od') :: rest))
    (h0 : 0 ≤ k) (h1 : k < below) (hD : deckL w od' c (at_ + 1) t') : Q (.int k t) { s with heap := h', toks := tk' } := draw_close hret F (news_tail N) h0 h1 hD
end
local macro_rules | `(tactic| walk_at "subscriptTail Name BinOp ref int") => `(tactic| (k_here; k_dflt (refine' item_ints ?k1 ?k2 ?k3 ?k4 ?k5 ?k6 ?_ ?k7; (case k1 => k_asm); (case k2 => k_mem); (case k3 => k_asm); (case k4 => exact Int.fmod_nonneg_of_pos _ (by omega)); (case k5 => exact Int.fmod_lt_of_pos _ (by omega)); (case k6 => exact Int.lt_trans (Int.fmod_lt_of_pos _ (by omega)) (by omega)); (case k7 => with_unfolding_all rfl); k_whole; intro n9 t9 e9)))
set_option maxHeartbeats 8000000 in
theorem draw_spec {w : World} {d c : Addr} {ta tb : Tok} {at_ below : Int} {vs : List Value} {ns : List Int} {od : Obj} {rest : List (Addr × Obj)}
    (hi : IntsAre vs ns) (hlen : ns.length ≤ 60) (h0 : 0 ≤ at_) (h9 : at_ ≤ 100) (hb0 : 0 < below) (hb9 : below ≤ 9) (hns : ∀ n ∈ ns, 0 ≤ n ∧ n < 1000000007)
    (hrd : OwnOff rest [c, d]) (hcd : c ≠ d) (hsys : (d == sysModules) = false) (hD : deckL w od c at_ ta) :
    Spec w 272 [.ref d, .int below tb] ((c, LCg.lst vs) :: (d, od) :: rest) 20 400 (DrawPost w d c vs at_ below rest) := by
  unfold Spec
  k_fill
  intro dp un gd cn cs a ccd cl outer A₀ base h₀ L m s loose mean mg mb Q E B F X N T hk hd hu hret
  refine wpAny_call ?_
  unfold deckL at hD
  have hvl := hi.length
  have hcase : at_ < (ns.length : Int) ∨ ns = [] ∨ (ns.length ≠ 0 ∧ ¬ at_ < (ns.length : Int)) := by
    by_cases h1 : at_ < (ns.length : Int)
    · exact .inl h1
    · cases ns with
      | nil => exact .inr (.inl rfl)
      | cons _ _ => exact .inr (.inr ⟨by simp, h1⟩)
  rcases hcase with hc | hc | ⟨hc, hc2⟩
  · k_dflt ktr_enter
    k_steps
    all_goals (try k_data)
    exact draw_close hret (by assumption) (by assumption) (Int.fmod_nonneg_of_pos _ hb0) (Int.fmod_lt_of_pos _ hb0) (by assumption)
  · subst hc
    k_dflt ktr_enter
    k_steps
    all_goals (try k_data)
    · exfalso; simp only [List.length_nil] at *; omega
    · exact draw_close2 hret (by assumption) (by assumption) (Int.fmod_nonneg_of_pos _ hb0) (Int.fmod_lt_of_pos _ hb0) (by assumption)
  · obtain ⟨n0, ns', rfl⟩ : ∃ n0 ns', ns = n0 :: ns' := by
      cases ns with
      | nil => exact absurd rfl hc
      | cons a b => exact ⟨a, b, rfl⟩
    k_dflt ktr_enter
    k_steps
    all_goals (try k_data)
    · rename decide (_ :: _ = []) = true => hx
      simp at hx
    · exact draw_close2 hret (by assumption) (by assumption) (Int.fmod_nonneg_of_pos _ hb0) (Int.fmod_lt_of_pos _ hb0) (by assumption)
/-! a list comprehension over pairs that an iterator of its own hands out (zip) -/
section
variable {prog : Program} {w : World} {A : Around} {E : Value → Shared → Prop} {s : Shared} {h₀ : Heap} {L : Addr} {m : Str → Option Value} {env : Env}
theorem fr_wr {h h' : Heap} {wr : List Addr} (F : Fr h₀ L h m) (hk : ∀ b o, b ∉ wr → h.get? b = some o → h'.get? b = some o) (hL : L ∉ wr) (hwr : ∀ b ∈ wr, h₀.get? b = none) : Fr h₀ L h' m :=
  ⟨F.ns.at' fun o e => hk L o hL e, fun b o e => hk b o (fun hm => by rw [hwr b hm] at e; cases e) (F.keep b o e), F.above⟩
theorem news_wr {h h' : Heap} {wr : List Addr} {news : List (Addr × Obj)} (N : News h₀ L h news) (hk : ∀ b o, b ∉ wr → h.get? b = some o → h'.get? b = some o) (off : ∀ p ∈ news, p.1 ∉ wr) : News h₀ L h' news :=
  fun p hp => ⟨hk _ _ (off p hp) (N p hp).1, (N p hp).2⟩
theorem off1_to {D : Addr} : ∀ {l : List (Addr × Obj)}, (∀ p ∈ l, p.1 ≠ D) → LCg.Off1 D l
  | [], _ => trivial
  | _ :: _, h => ⟨h _ (.head _), off1_to fun p hp => h p (.tail _ hp)⟩
theorem none_above {h₁ h : Heap} (hk : ∀ b o, h₁.get? b = some o → h.get? b = some o) {a : Addr} (ha : h.objs.size ≤ a) : h₁.get? a = none := by
  rcases ho : h₁.get? a with _ | o
  · rfl
  · exact absurd (Nat.lt_of_lt_of_le (Heap.lt_size (hk a o ho)) ha) (Nat.lt_irrefl _)
/-- what stands when a comprehension has made its own list (at D) and its own names (at C) -/
structure Opened (h₀ h h₁ : Heap) (C D : Addr) (m₁ : Str → Option Value) : Prop where
  keep : ∀ b o, h.get? b = some o → h₁.get? b = some o
  list : h₁.get? D = some (LCg.lst [])
  names : h₁.Ns C m₁
  new : ∀ b, b < h.objs.size → b ≠ C ∧ b ≠ D
  apart : D ≠ C
  noC : h₀.get? C = none
  noD : h₀.get? D = none
theorem opened {e : Expr} {g : Nat} {it : Value} {scope : Scope} {cl : List (Str × Addr)} {s₂ : Shared} {RR : Value → Addr → Result → Shared → Prop} (F : Fr h₀ L s₂.heap m) (hcell : ∀ y ∈ scope.names, y.2 ≠ .cell) (hkind : scope.kind = .function)
    (go : ∀ C D h₁ tk m₁, Opened h₀ s₂.heap h₁ C D m₁ → codeAny (model prog w) A (.compStart e g it (.ref D) (compEnvC scope cl C env)) (RR (.ref D) C) { s₂ with heap := h₁, toks := tk }) :
    wpAny (model prog w) A (newList []) (fun acc s₃ => wpAny (model prog w) A (newFunctionEnv scope env.globals cl [] env.qual none .none (some env))
      (fun cenv s₄ => codeAny (model prog w) A (.compStart e g it acc { cenv with scope := relabel scope env }) (RR acc cenv.locals) s₄) E s₃) E s₂ := by
  refine wpAny_newObj_type (wpAny_newFunctionEnv hcell (fun y hy => absurd hy List.not_mem_nil) (fun h₁ hn hb => ?_) hkind)
  have z : ∀ o : Obj, (s₂.heap.push o).objs.size = s₂.heap.objs.size + 1 := fun o => Heap.size_push ..
  have up : ∀ (o : Obj) b x, s₂.heap.get? b = some x → (s₂.heap.push o).get? b = some x := fun o b x hx => Heap.get?_push_of_some _ hx
  have lo : ∀ (o : Obj) b, b < s₂.heap.objs.size → b ≠ (s₂.heap.push o).objs.size := fun o b hlt he => by
    rw [z o] at he
    exact Nat.lt_irrefl _ (Nat.lt_trans hlt (he ▸ Nat.lt_succ_self _))
  refine go _ _ h₁ _ _ ⟨fun b x hx => ?_, ?_, hn, fun b hlt => ⟨lo _ b hlt, Nat.ne_of_lt hlt⟩, fun he => ?_, none_above F.keep ?_, none_above F.keep (Nat.le_refl _)⟩
  · exact hb.extBut b x (lo _ b (Heap.lt_size hx)) (Heap.get?_push_of_some _ (up _ b x hx))
  · refine hb.extBut _ _ (fun he => ?_) (Heap.get?_push_of_some _ (Heap.get?_push_size _ rfl))
    exact absurd (he.trans (z _)) (Nat.ne_of_lt (Nat.lt_succ_self _))
  · exact absurd (he.trans (z _)) (Nat.ne_of_lt (Nat.lt_succ_self _))
  · exact Nat.le_trans (Nat.le_succ _) (Nat.le_of_eq (z _).symm)
/-- between two of the loop's turns: i elements stand -/
def ZipMid (h₀ : Heap) (L : Addr) (m : Str → Option Value) (s : Shared) (St : Nat → Heap → Prop) (wr : List Addr) (R : List (Addr × Obj) → Value → Nat → Prop) (C D : Addr) (n : Nat) (news sup : List (Addr × Obj)) (k : Nat) (s' : Shared) : Prop :=
  ∃ h tk i ys mC tl, s' = { s with heap := h, toks := tk } ∧ i ≤ n ∧ k = n + 1 - i ∧ St i h ∧ Fr h₀ L h m ∧ h.Ns C mC ∧ News h₀ L h ((D, LCg.lst ys) :: (tl ++ news)) ∧ (∀ p ∈ tl ++ news, p.1 ∉ wr ∧ p.1 ≠ C ∧ p.1 ≠ D) ∧ AllAt R (tl ++ sup) i ys ∧ Fresh tl news
theorem allAt_snoc {R : List (Addr × Obj) → Value → Nat → Prop} {l l' : List (Addr × Obj)} {i : Nat} {ys : List Value} {y : Value} (hmono : ∀ l l' y i, (∀ p ∈ l, p ∈ l') → R l y i → R l' y i) (hl : ∀ p ∈ l, p ∈ l') (ha : AllAt R l i ys) (hy : R l' y i) : AllAt R l' (i + 1) (ys ++ [y]) := by
  obtain ⟨hn, hg⟩ := ha
  subst hn
  refine ⟨by simp, fun j z hz => ?_⟩
  rcases Nat.lt_or_ge j ys.length with hj | hj
  · exact hmono _ _ _ _ hl (hg j z (by rwa [List.getElem?_append_left hj] at hz))
  · rw [List.getElem?_append_right hj] at hz
    obtain ⟨d, rfl⟩ := Nat.exists_eq_add_of_le hj
    rw [Nat.add_sub_cancel_left] at hz
    cases d with
    | zero =>
      obtain rfl : y = z := by simpa using hz
      exact hy
    | succ d => simp at hz
theorem zip_block {elt iter : Expr} {x x₂ : Str} {px px₂ tp : Pos} {tk} {scope : Scope} {cl : List (Str × Addr)} {pos : Pos} {s₂ : Shared} {I : Addr} {fp wr : List Addr} {n : Nat} {Pt : Nat → Array Value → Prop} {St : Nat → Heap → Prop} {Mid : Nat → Addr → Heap → Prop}
    {R : List (Addr × Obj) → Value → Nat → Prop} {news sup : List (Addr × Obj)} {RR : Value → Addr → Result → Shared → Prop}
    (W : WalksU prog w A I fp wr n Pt St Mid) (hPt : ∀ i vals, Pt i vals → ∃ v₁ v₂, vals = #[v₁, v₂]) (hob : ∀ i h, St i h → ∀ b ∈ wr, ∃ o, h.get? b = some o) (hsz : n ≤ sizeLine)
    (hcell : ∀ y ∈ scope.names, y.2 ≠ .cell) (hkind : scope.kind = .function) (hx : scope.names.lookup x = some .local) (hx₂ : scope.names.lookup x₂ = some .local) (hxx : x ≠ x₂) (hh : A.handled = none)
    (hst : St 0 s₂.heap) (hfp : ∀ b ∈ fp, b < s₂.heap.objs.size) (F : Fr h₀ L s₂.heap m) (N : News h₀ L s₂.heap news) (hLf : L ∉ fp) (hwr : ∀ b ∈ wr, h₀.get? b = none) (off : ∀ p ∈ news, p.1 ∉ wr)
    (hmono : ∀ l l' y i, (∀ p ∈ l, p ∈ l') → R l y i → R l' y i)
    (step : ∀ i v₁ v₂ C oC D ys m₂ h tk own tl (E' : Value → Shared → Prop), i < n → Pt i #[v₁, v₂] → LCg.NsObj oC m₂ → m₂ x = some v₁ → m₂ x₂ = some v₂ → Fr h₀ L h m → News h₀ L h ((C, oC) :: (D, LCg.lst ys) :: (own ++ (tl ++ news))) →
      wpAny (model prog w) A (eval elt (compEnvC scope cl C env)) (EltEnd h₀ L m { s₂ with heap := h, toks := tk } ((C, oC) :: (D, LCg.lst ys) :: (own ++ (tl ++ news))) R sup i) E' { s₂ with heap := h, toks := tk })
    (hRR : ∀ D C h tk m' ys tl, AllAt R (tl ++ sup) n ys → Fresh tl news → Fr h₀ L h m → News h₀ L h ((D, LCg.lst ys) :: (tl ++ news)) → (∀ p ∈ tl ++ news, p.1 ≠ D) → h.Ns C m' → h₀.get? C = none → h₀.get? D = none → C ≠ L → D ≠ L → C ≠ D → (∀ p ∈ tl ++ news, p.1 ≠ C) →
      RR (.ref D) C (.ok .next) { s₂ with heap := h, toks := tk }) :
    wpAny (model prog w) A (newList []) (fun acc s₃ => wpAny (model prog w) A (newFunctionEnv scope env.globals cl [] env.qual none .none (some env))
      (fun cenv s₄ => codeAny (model prog w) A (.compStart (.ListComp elt [⟨.Tuple [.Name x px, .Name x₂ px₂] tk tp, iter, [], 0⟩] scope pos) 0 (.ref I) acc { cenv with scope := relabel scope env }) (RR acc cenv.locals) s₄) E s₃) E s₂ := by
  refine opened F hcell hkind fun C D h₁ tk₁ m₁ O => ?_
  have cL := (O.new L F.ns.lt).1.symm
  have dL := (O.new L F.ns.lt).2.symm
  have cf : C ∉ fp := fun hm => (O.new _ (hfp _ hm)).1 rfl
  have df : D ∉ fp := fun hm => (O.new _ (hfp _ hm)).2 rfl
  have cw : C ∉ wr := fun hm => cf (W.sub _ hm)
  have dw : D ∉ wr := fun hm => df (W.sub _ hm)
  have lw : L ∉ wr := fun hm => hLf (W.sub _ hm)
  have st1 : St 0 h₁ := W.frame _ _ _ hst fun b _ o hb => O.keep b o hb
  have main : ∀ s₃ : Shared, s₃ = { s₂ with heap := h₁, toks := tk₁ } →
      codeAny (model prog w) A (.compLoop (.ListComp elt [⟨.Tuple [.Name x px, .Name x₂ px₂] tk tp, iter, [], 0⟩] scope pos) 0 (.ref I) (.ref D) (compEnvC scope cl C env)) (RR (.ref D) C) s₃ := by
    rintro s₃ rfl
    refine LCp.codeAny_compLoop_pair (ZipMid h₀ L m s₂ St wr R C D n news sup) ?_ (n + 1) ⟨h₁, tk₁, 0, [], m₁, [], rfl, Nat.zero_le n, rfl, st1, F.keeps O.keep, O.names, ?_, ?_, ⟨rfl, fun i y hy => by simp at hy⟩, fun q hq => nomatch hq⟩
    · rintro k s' ⟨h, tkh, i, ys, mC, tl, rfl, hin, rfl, hSt, hF, hN, hNews, hoff, hall, hfr⟩
      have doff : ∀ p ∈ (D, LCg.lst ys) :: (tl ++ news), p.1 ∉ wr := List.forall_mem_cons.mpr ⟨dw, fun p hp => (hoff p hp).1⟩
      rcases Nat.lt_or_ge i n with hlt | hge
      · refine W.item i _ _ _ hlt hSt fun T vals ha tka hPv hT hMid hka => ?_
        obtain ⟨v₁, v₂, rfl⟩ := hPt i vals hPv
        refine W.go _ _ _ i T _ _ _ hMid fun hb hSb hkb => ?_
        have up : ∀ b o, b ∉ wr → h.get? b = some o → hb.get? b = some o := fun b o hbw ho => hkb b o hbw (hka b o hbw ho)
        refine assign_Tuple_tuple hh (hT.at fun o ho => hkb T o (W.apart i T _ hMid) ho) rfl rfl fun hc hcu => ?_
        have up2 : ∀ b o, hb.get? b = some o → hc.get? b = some o := fun b o ho => hcu b o (Nat.ne_of_lt (Heap.lt_size ho)) ho
        have nc : hc.Ns C mC := (hN.at' fun o ho => up _ o cw ho).at' fun o ho => up2 _ o ho
        have knd : ((compEnvC scope cl C env).scope.kind == .class || ((compEnvC scope cl C env).scope.kind == .module && (compEnvC scope cl C env).locals != (compEnvC scope cl C env).globals)) = false := by simp [compEnvC, relabel, hkind]
        refine assignInOrder_cons (wpAny_assign_Name (wpAny_storeName_local (lookup_relabel_local hx) nc (fun h4 n4 k4 => ?_) knd))
        refine assignInOrder_cons (wpAny_assign_Name (wpAny_storeName_local (lookup_relabel_local hx₂) n4 (fun h5 n5 k5 => ?_) knd))
        refine assignInOrder_nil ?_
        have up3 : ∀ b o, b ≠ C → hb.get? b = some o → h5.get? b = some o := fun b o hbC ho => k5.extBut b o hbC (k4.extBut b o hbC (up2 b o ho))
        have st5 : St (i + 1) h5 := W.frame _ _ _ hSb fun b hbf o ho => up3 b o (fun he => cf (he ▸ hbf)) ho
        obtain ⟨oC, eC, sC⟩ := LCg.ns_obj n5
        have f5 : Fr h₀ L h5 m := (((fr_wr hF up lw hwr).keeps up2).change k4 cL O.noC).change k5 cL O.noC
        have nb := news_wr hNews up doff
        have n5' : News h₀ L h5 ((C, oC) :: (D, LCg.lst ys) :: (ownOf h₀ fp h5 ++ (tl ++ news))) := by
          refine List.forall_mem_cons.mpr ⟨⟨eC, cL, O.noC⟩, List.forall_mem_cons.mpr ⟨⟨up3 _ _ O.apart (nb _ (.head _)).1, dL, O.noD⟩, List.forall_mem_append.mpr ⟨news_ownOf hLf, fun p hp => ?_⟩⟩⟩
          exact ⟨up3 _ _ (hoff p hp).2.1 (nb p (.tail _ hp)).1, (nb p (.tail _ hp)).2⟩
        refine wpAny_mono (step i v₁ v₂ C oC D ys _ h5 _ (ownOf h₀ fp h5) tl _ hlt hPv sC (by simp [hxx]) (by simp) f5 n5') (fun y s6 e6 => ?_) fun _ _ e => e
        obtain ⟨h6, tk6, tl', rfl, f6, n6, fr6, r6⟩ := e6
        have mem : ∀ {p}, p ∈ (C, oC) :: (D, LCg.lst ys) :: (ownOf h₀ fp h5 ++ (tl ++ news)) → p ∈ tl' ++ ((C, oC) :: (D, LCg.lst ys) :: (ownOf h₀ fp h5 ++ (tl ++ news))) := fun hp => List.mem_append_right _ hp
        have gC := (n6 _ (mem (.head _))).1
        have gD := (n6 _ (mem (.tail _ (.head _)))).1
        have st6 : St (i + 1) h6 := W.frame _ _ _ st5 fun b hbf o ho => by
          rcases hn : h₀.get? b with _ | o₀
          · exact (n6 _ (mem (.tail _ (.tail _ (List.mem_append_left _ (mem_ownOf hbf hn ho)))))).1
          · have q := f5.keep b o₀ hn
            rw [ho] at q
            exact Option.some.inj q ▸ f6.keep b o₀ hn
        refine append_at (hsz := by show ys.toArray.size ≤ sizeLine; rw [List.size_toArray, hall.1]; exact Nat.le_trans hin hsz) gD fun h7 k7 g7 => ?_
        have off7 : ∀ p ∈ (tl' ++ tl) ++ news, p.1 ∉ wr ∧ p.1 ≠ C ∧ p.1 ≠ D := by
          rw [List.append_assoc]
          refine List.forall_mem_append.mpr ⟨fun p hp => ⟨fun hw => ?_, (fr6 p hp _ (.head _)).symm, (fr6 p hp _ (.tail _ (.head _))).symm⟩, hoff⟩
          obtain ⟨o, ho⟩ := hob _ _ st5 _ hw
          exact fr6 p hp _ (.tail _ (.tail _ (List.mem_append_left _ (mem_ownOf (W.sub _ hw) (hwr _ hw) ho)))) rfl
        refine ⟨n + 1 - (i + 1), by omega, h7, tk6, i + 1, ys ++ [y], _, tl' ++ tl, rfl, hlt, rfl, W.frame _ _ _ st6 fun b hbf o ho => k7.extBut b o (fun he => df (he ▸ hbf)) ho, f6.change k7 dL O.noD,
          (sC.ns gC).sameBut k7 O.apart.symm, List.forall_mem_cons.mpr ⟨⟨g7.trans (congrArg some (LCg.lst_snoc ys y)), dL, O.noD⟩, fun p hp => ?_⟩, off7, allAt_snoc hmono (fun p hp => ?_) hall (hmono _ _ _ _ (fun p hp => ?_) r6), fun q hq => ?_⟩
        · have q : p ∈ tl' ++ ((C, oC) :: (D, LCg.lst ys) :: (ownOf h₀ fp h5 ++ (tl ++ news))) := by
            simp only [List.mem_append, List.mem_cons] at hp ⊢
            rcases hp with (hp | hp) | hp <;> simp [hp]
          exact ⟨k7.extBut _ _ (off7 p hp).2.2 (n6 p q).1, (n6 p q).2⟩
        · simp only [List.mem_append] at hp ⊢
          rcases hp with hp | hp <;> simp [hp]
        · simp only [List.mem_append] at hp ⊢
          rcases hp with hp | hp <;> simp [hp]
        · rcases List.mem_append.mp hq with hq | hq
          · exact fun p hp => fr6 q hq p (.tail _ (.tail _ (List.mem_append_right _ (List.mem_append_right _ hp))))
          · exact hfr q hq
      · obtain rfl : i = n := Nat.le_antisymm hin hge
        refine W.done _ _ _ hSt fun hb tkb hkb => ?_
        exact hRR D C hb tkb mC ys tl hall hfr (fr_wr hF hkb lw hwr) (news_wr hNews hkb doff) (fun p hp => (hoff p hp).2.2) (hN.at' fun o ho => hkb _ o cw ho) O.noC O.noD cL dL O.apart.symm fun p hp => (hoff p hp).2.1
    · exact List.forall_mem_cons.mpr ⟨⟨O.list, dL, O.noD⟩, fun p hp => ⟨O.keep _ _ (N p hp).1, (N p hp).2⟩⟩
    · exact fun p hp => ⟨off p hp, O.new _ (Heap.lt_size (N p hp).1)⟩
  exact codeAny_compStart_list (main _ rfl) (W.self 0 _ _ _ st1 (main _ rfl))
def ZipStep (prog : Program) (w : World) (A : Around) (h₀ : Heap) (L : Addr) (m : Str → Option Value) (env : Env) (elt : Expr) (x x₂ : Str) (scope : Scope) (cl : List (Str × Addr)) (s : Shared) (R : List (Addr × Obj) → Value → Nat → Prop) (xs ys : Array Value) (news sup : List (Addr × Obj)) : Prop :=
  ∀ i v₁ v₂ C oC D zs m₂ h tk own tl (E' : Value → Shared → Prop), xs[i]? = some v₁ → ys[i]? = some v₂ → LCg.NsObj oC m₂ → m₂ x = some v₁ → m₂ x₂ = some v₂ → Fr h₀ L h m → News h₀ L h ((C, oC) :: (D, LCg.lst zs) :: (own ++ (tl ++ news))) →
    wpAny (model prog w) A (eval elt (compEnvC scope cl C env)) (EltEnd h₀ L m { s with heap := h, toks := tk } ((C, oC) :: (D, LCg.lst zs) :: (own ++ (tl ++ news))) R sup i) E' { s with heap := h, toks := tk }
def ZipSrc (prog : Program) (w : World) (A : Around) (h₀ : Heap) (L : Addr) (m : Str → Option Value) (env : Env) (elt : Expr) (x x₂ : Str) (scope : Scope) (cl : List (Str × Addr)) (Q : Value → Shared → Prop) (xv : Value) (s₁ : Shared) : Prop :=
  ∃ z TI TO i1 i2 l1 l2 xs ys R news sup, xv = .ref z ∧ A.handled = none ∧ ZipApart z TI TO i1 i2 l1 l2 ∧ (IsZip s₁.heap z TI TO .none ∧ IsPair s₁.heap TI (.ref i1) (.ref i2) ∧ (∃ a b, IsPair s₁.heap TO a b) ∧ s₁.heap.IsListIter i1 l1 0 ∧ s₁.heap.IsListIter i2 l2 0 ∧ s₁.heap.IsList l1 xs ∧ s₁.heap.IsList l2 ys) ∧
    xs.size = ys.size ∧ xs.size ≤ sizeLine ∧ Fr h₀ L s₁.heap m ∧ News h₀ L s₁.heap news ∧ L ∉ [z, TI, TO, i1, i2, l1, l2] ∧ (∀ b ∈ [z, TO, i1, i2], h₀.get? b = none) ∧ (∀ p ∈ news, p.1 ∉ [z, TO, i1, i2]) ∧
    (∀ l l' y i, (∀ p ∈ l, p ∈ l') → R l y i → R l' y i) ∧ ZipStep prog w A h₀ L m env elt x x₂ scope cl s₁ R xs ys news sup ∧ (∀ zs tl, AllAt R (tl ++ sup) xs.size zs → Fresh tl news → LCg.FinE h₀ L m s₁ Q zs (tl ++ news))
theorem ListComp_Z {elt iter : Expr} {x x₂ : Str} {px px₂ tp : Pos} {tk} {scope : Scope} {cl : List (Str × Addr)} {pos : Pos} {Q : Value → Shared → Prop} (F₀ : Fr h₀ L s.heap m)
    (hclos : closureFor scope env = pure cl) (hcell : ∀ y ∈ scope.names, y.2 ≠ .cell) (hkind : scope.kind = .function)
    (hnames : ∀ y ∈ scope.names, y.2 = .local → scope.names.lookup y.1 = some .local) (hx : scope.names.lookup x = some .local) (hx₂ : scope.names.lookup x₂ = some .local) (hxx : x ≠ x₂)
    (h : wpAny (model prog w) A (eval iter env) (ZipSrc prog w A h₀ L m env elt x x₂ scope cl Q) E s)
    (hs : ∀ x, foldedSetIterable iter env x = pure x := by intro _; rfl) :
    wpAny (model prog w) A (eval (.ListComp elt [⟨.Tuple [.Name x px, .Name x₂ px₂] tk tp, iter, [], 0⟩] scope pos) env) Q E s := by
  rw [eval_ListComp]
  refine wpAny_comprehension_free (use := none) rfl hs hclos hkind hnames (wpAny_mono h (fun xv s₁ h₁ => ?_) fun _ _ e => e)
  obtain ⟨z, TI, TO, i1, i2, l1, l2, xs, ys, R, news, sup, rfl, hh, D, hst, hxy, hsz, F, N, hLf, hwr, off, hmono, step, fin⟩ := h₁
  have hsz2 : min xs.size ys.size = xs.size := by rw [← hxy, Nat.min_self]
  refine wpAny_pyIter_zip hst.1 ?_
  refine zip_block (R := R) (sup := sup) (WalksT.zip2 hh z TI TO i1 i2 l1 l2 D xs ys).toU (fun i vals ⟨a, b, _, _, e⟩ => ⟨a, b, e⟩) ?_ (by rw [hsz2]; exact hsz) hcell hkind hx hx₂ hxx hh hst ?_ F N hLf hwr off hmono ?_ ?_
  · rintro i h ⟨hz, hTI, ⟨a, b, hTO⟩, ⟨o1, h1, _⟩, ⟨o2, h2, _⟩, _⟩ b hb
    simp only [List.mem_cons, List.not_mem_nil, or_false] at hb
    rcases hb with rfl | rfl | rfl | rfl
    · exact ⟨_, hz⟩
    · exact ⟨_, hTO⟩
    · exact ⟨_, h1⟩
    · exact ⟨_, h2⟩
  · obtain ⟨hz, hTI, ⟨a, b, hTO⟩, ⟨o1, h1, _⟩, ⟨o2, h2, _⟩, ⟨o3, h3, _⟩, ⟨o4, h4, _⟩⟩ := hst
    intro b hb
    simp only [List.mem_cons, List.not_mem_nil, or_false] at hb
    rcases hb with rfl | rfl | rfl | rfl | rfl | rfl | rfl
    · exact Heap.lt_size hz
    · exact Heap.lt_size hTI
    · exact Heap.lt_size hTO
    · exact Heap.lt_size h1
    · exact Heap.lt_size h2
    · exact Heap.lt_size h3
    · exact Heap.lt_size h4
  · rintro i v₁ v₂ C oC D' zs m₂ h tk own tl E' hi ⟨a, b, ha, hb, e⟩ hoC h1 h2 F' N'
    have e1 : v₁ = a ∧ v₂ = b := by simpa using e
    obtain ⟨rfl, rfl⟩ := e1
    exact step i v₁ v₂ C oC D' zs m₂ h tk own tl E' ha hb hoC h1 h2 F' N'
  · intro D' C h tk m' zs tl hall hfr F' N' o1 hn hC₀ hD₀ hCL hDL hCD offC
    rw [hsz2] at hall
    refine ⟨m', hn, fun h'' hs'' => fin zs tl hall hfr D' h'' tk (F'.change hs'' hCL hC₀) (fun p hp => ?_) (off1_to o1)⟩
    refine ⟨hs''.extBut _ _ ?_ (N' p hp).1, (N' p hp).2⟩
    rcases List.mem_cons.mp hp with rfl | hp
    · exact Ne.symm hCD
    · exact offC p hp
theorem call_zip_src {elt : Expr} {x x₂ : Str} {scope : Scope} {cl : List (Str × Addr)} {Q : Value → Shared → Prop} {l1 l2 : Addr} {xs ys : List Value} {k1 k2 : Nat} {R : List (Addr × Obj) → Value → Nat → Prop} {news sup : List (Addr × Obj)}
    (hh : A.handled = none) (F : Fr h₀ L s.heap m) (N : News h₀ L s.heap news) (hm1 : (l1, W.listOf xs.toArray k1) ∈ news) (hm2 : (l2, W.listOf ys.toArray k2) ∈ news) (hxy : xs.length = ys.length) (hz : xs.length ≤ 1000)
    (hmono : ∀ l l' y i, (∀ p ∈ l, p ∈ l') → R l y i → R l' y i) (step : ZipStep prog w A h₀ L m env elt x x₂ scope cl s R xs.toArray ys.toArray news sup)
    (fin : ∀ g zs tl, AllAt R (tl ++ sup) xs.length zs → Fresh tl news → LCg.FinE h₀ L m { s with heap := g } Q zs (tl ++ news)) :
    wpAny (model prog w) A (call (.type "zip") [.ref l1, .ref l2]) (ZipSrc prog w A h₀ L m env elt x x₂ scope cl Q) E s := by
  obtain ⟨p1, q1, -⟩ := N _ hm1
  obtain ⟨p2, q2, -⟩ := N _ hm2
  have isl1 : s.heap.IsList l1 xs.toArray := ⟨_, p1, rfl, _, rfl⟩
  have isl2 : s.heap.IsList l2 ys.toArray := ⟨_, p2, rfl, _, rfl⟩
  have newer : ∀ {b : Addr}, b < s.heap.objs.size → b ∉ [s.heap.objs.size + 4, s.heap.objs.size + 3, s.heap.objs.size, s.heap.objs.size + 1] := fun {b} hb hm => by
    have old : ∀ j : Nat, b ≠ s.heap.objs.size + j := fun j => Nat.ne_of_lt (Nat.lt_of_lt_of_le hb (Nat.le_add_right _ j))
    simp only [List.mem_cons, List.not_mem_nil, or_false] at hm
    exact hm.elim (old 4) fun hm => hm.elim (old 3) fun hm => hm.elim (old 0) (old 1)
  refine call_zip_2 isl1 isl2 fun g hz hTI hTO hi1 hi2 _ hk => ?_
  refine ⟨s.heap.objs.size + 4, s.heap.objs.size + 2, s.heap.objs.size + 3, s.heap.objs.size, s.heap.objs.size + 1, l1, l2, xs.toArray, ys.toArray, R, news, sup, rfl, hh, ktu_apart _ _ _ (Heap.lt_size p1) (Heap.lt_size p2),
    ⟨hz, hTI, ⟨_, _, hTO⟩, hi1, hi2, isl1.at fun o e => hk l1 o e, isl2.at fun o e => hk l2 o e⟩, by simpa using hxy, by rw [List.size_toArray, sizeLine_eq]; omega, F.keeps hk, N.grown hk, fun hL => ?_, fun b hb => none_above F.keep ?_, fun p hp => newer (Heap.lt_size (N p hp).1), hmono, step, fun zs tl ha hf => fin g zs tl (by simpa using ha) hf⟩
  · have hL' : L ∈ [s.heap.objs.size + 4, s.heap.objs.size + 3, s.heap.objs.size, s.heap.objs.size + 1] ∨ L = s.heap.objs.size + 2 ∨ L = l1 ∨ L = l2 := by
      simp only [List.mem_cons, List.not_mem_nil, or_false] at hL ⊢
      rcases hL with h | h | h | h | h | h | h <;> simp [h]
    exact hL'.elim (newer F.ns.lt) fun h => h.elim (fun h => absurd F.ns.lt (Nat.not_lt.mpr (h ▸ Nat.le_add_right _ 2))) fun h => h.elim (fun h => q1 h.symm) fun h => q2 h.symm
  · simp only [List.mem_cons, List.not_mem_nil, or_false] at hb
    rcases hb with rfl | rfl | rfl | rfl
    · exact Nat.le_add_right _ 4
    · exact Nat.le_add_right _ 3
    · exact Nat.le_refl _
    · exact Nat.le_add_right _ 1
end
local macro_rules | `(tactic| walk_at "call ref") => `(tactic| (k_here; k_dflt (refine' spec_use (told_spec ?ks ?kl) ?k1 ?k2 ?k3 ?k4 ?k5 ?k6 ?k7 ?k8 ?kq ?_; (case kl => k_asm); (case k1 => k_asm); (case k2 => k_asm); (case k3 => k_asm); (case k4 => k_asm); (case k5 => k_asm); (case k6 => first | rfl | assumption); (case k7 => ktr_room); (case k8 => ktr_units); (case kq => rfl); (case ks => first | k_asm | exact fun p hp => List.mem_append_left _ hp)); intro r9 led9 h9 tk9 F9 N9 p9; k_dflt ((obtain ⟨tl9, e9, f9, q9⟩ := p9); subst e9)))
local macro_rules | `(tactic| walk_at "call ref") => `(tactic| (k_here; k_dflt (refine' spec_use line_spec ?k1 ?k2 ?k3 ?k4 ?k5 ?k6 ?k7 ?k8 ?kq ?_; (case k1 => k_asm); (case k2 => k_asm); (case k3 => k_asm); (case k4 => k_asm); (case k5 => k_asm); (case k6 => first | rfl | assumption); (case k7 => ktr_room); (case k8 => ktr_units); (case kq => rfl)); intro r9 led9 h9 tk9 F9 N9 p9; k_dflt ((obtain ⟨a9, tl9, e9, t9, f9, q9⟩ := p9); subst e9; (have e8 := Tl.eq t9); subst e8)))
theorem hist_news {w : World} {h₀ h : Heap} {L a : Addr} {ns : List Int} {sup led : List (Addr × Obj)} (N : News h₀ L h led) (hsup : ∀ p ∈ sup, p ∈ led) (hl : HistIs w sup a ns) :
    ∃ d l vs k h1 h2 h3 t1 t2 t3 u1 u3 most gone mid, mid = (a, instObj 85 d) :: (d, histD h1 h2 h3 t1 t2 t3 u1 u3 most gone l) :: (l, W.listOf (List.toArray vs) k) :: led ∧ News h₀ L h mid ∧ (∀ p ∈ led, p ∈ mid) ∧ LinesAll w sup vs ns := by
  obtain ⟨d, l, vs, k, h1, h2, h3, t1, t2, t3, u1, u3, most, gone, a1, a2, a3, a4⟩ := hl
  refine ⟨d, l, vs, k, h1, h2, h3, t1, t2, t3, u1, u3, most, gone, _, rfl, ?_, fun p hp => .tail _ (.tail _ (.tail _ hp)), a4⟩
  intro p hp
  simp only [List.mem_cons] at hp
  rcases hp with rfl | rfl | rfl | hp
  · exact N _ (hsup _ a1)
  · exact N _ (hsup _ a2)
  · exact N _ (hsup _ a3)
  · exact N _ hp
theorem news_cons {h₀ h : Heap} {L : Addr} {p : Addr × Obj} {led mid : List (Addr × Obj)} (N : News h₀ L h mid) (hs : ∀ q ∈ led, q ∈ mid) (hp : p ∈ led) : News h₀ L h (p :: mid) := by
  intro q hq
  rcases List.mem_cons.mp hq with rfl | hq
  · exact N _ (hs _ hp)
  · exact N _ hq
theorem two_close {h₀ h : Heap} {L D1 D2 : Addr} {x1 x2 : Obj} {tl1 tl2 mid led : List (Addr × Obj)} (hs : ∀ p ∈ led, p ∈ mid) (hf1 : Fresh tl1 mid) (o1 : ∀ p ∈ tl1 ++ mid, p.1 ≠ D1) (hf2 : Fresh tl2 ((D1, x1) :: (tl1 ++ mid)))
    (o2 : ∀ p ∈ tl2 ++ ((D1, x1) :: (tl1 ++ mid)), p.1 ≠ D2) (N : News h₀ L h ((D2, x2) :: (tl2 ++ ((D1, x1) :: (tl1 ++ mid))))) :
    News h₀ L h ((((D2, x2) :: tl2) ++ ((D1, x1) :: tl1)) ++ led) ∧ Fresh (((D2, x2) :: tl2) ++ ((D1, x1) :: tl1)) led := by
  refine ⟨fun p hp => N p ?_, fun q hq p hp => ?_⟩
  · simp only [List.mem_cons, List.mem_append] at hp ⊢
    rcases hp with ((h | h) | h | h) | h
    · simp [h]
    · simp [h]
    · simp [h]
    · simp [h]
    · simp [hs p h]
  · have hm := hs p hp
    simp only [List.mem_cons, List.mem_append] at hq
    rcases hq with (rfl | h) | rfl | h
    · exact o2 p (List.mem_append.mpr (.inr (.tail _ (List.mem_append.mpr (.inr hm)))))
    · exact hf2 q h p (.tail _ (List.mem_append.mpr (.inr hm)))
    · exact o1 p (List.mem_append.mpr (.inr hm))
    · exact hf1 q h p hm
set_option maxHeartbeats 8000000 in
theorem stands_spec {w : World} {ns : List Int} {a b : Addr} {ws : List Value} {kb : Nat} {sup led : List (Addr × Obj)} (hsup : ∀ p ∈ sup, p ∈ led) (hl : HistIs w sup a ns) (hb : (b, W.listOf ws.toArray kb) ∈ led) (hi : IntsAre ws ns) (h8 : ns.length ≤ 8) :
    Spec w 289 [.ref a, .ref b] led 100 2000 (PurePost (fun r _ => r = .bool true) sup led) := by
  unfold Spec
  k_fill
  intro dp un gd cn cs a' ccd cl outer A₀ base h₀ L m s loose mean mg mb Q E B F X N T hk hd hu hret
  obtain ⟨d, l, vs, k, h1, h2, h3, t1, t2, t3, u1, u3, most, gone, mid0, hmid, N0, hs0, a4⟩ := hist_news N hsup hl
  subst hmid
  have N1 := news_cons N0 hs0 hb
  have hs1 : ∀ p ∈ led, p ∈ (b, W.listOf ws.toArray kb) :: (a, instObj 85 d) :: (d, histD h1 h2 h3 t1 t2 t3 u1 u3 most gone l) :: (l, W.listOf (List.toArray vs) k) :: led := fun p hp => .tail _ (hs0 p hp)
  clear N N0 hs0
  have hvl := a4.length
  have hwl := hi.length
  refine wpAny_call ?_
  k_dflt ktr_enter
  k_steps
  all_goals (try k_data)
  k_dflt (refine LCg.CompSrc.ledger (by rfl) (by k_asm) (by k_asm) (.tail _ (.tail _ (.tail _ (.head _)))) ?_ (fun g => ?_))
  · simp only [List.size_toArray, sizeLine_eq]; omega
  refine comp_rest (R := fun l y i => ∃ n, ns[i]? = some n ∧ ReadsIn w l y (toldP n)) (sup := sup) (fun l l' y i hs ⟨n, e, r⟩ => ⟨n, e, r.mono hs⟩) (fun p hp => hs1 _ (hsup p hp)) (fun tl => Or.inr ⟨_, List.mem_append.mpr (.inr (.tail _ (.tail _ (.tail _ (.head _))))), rfl, _, rfl⟩) ?_ ?_
  · intro i v I oI C oC D ys m₂ h9 tk9 tl9 E9 hi9 hv9 hC9 hx9 F9 N9
    obtain ⟨a9, n9, rfl, hn9, hl9⟩ := a4.get (i := i) (v := v) (by simpa using hv9)
    have hs9 : ∀ p ∈ sup, p ∈ (I, oI) :: (C, oC) :: (D, LCg.lst ys) :: (tl9 ++ (b, W.listOf ws.toArray kb) :: (a, instObj 85 d) :: (d, histD h1 h2 h3 t1 t2 t3 u1 u3 most gone l) :: (l, W.listOf (List.toArray vs) k) :: led) :=
      fun p hp => .tail _ (.tail _ (.tail _ (List.mem_append.mpr (.inr (hs1 _ (hsup p hp))))))
    k_steps
    exact ⟨_, _, _, rfl, by assumption, by assumption, by assumption, _, hn9, by assumption⟩
  · intro ys1 tl1 hall1 hf1
    rw [List.size_toArray, hvl] at hall1
    k_steps
    all_goals (try k_data)
    k_dflt (refine LCg.CompSrc.ledger (by rfl) (by k_asm) (by k_asm) (.tail _ (List.mem_append.mpr (.inr (.head _)))) ?_ (fun g => ?_))
    · simp only [List.size_toArray, sizeLine_eq]; omega
    refine comp_rest (R := fun l y i => ∃ n, ns[i]? = some n ∧ ReadsIn w l y (toldP n)) (sup := []) (fun l l' y i hs ⟨n, e, r⟩ => ⟨n, e, r.mono hs⟩) (fun p hp => nomatch hp) (fun tl => Or.inr ⟨_, List.mem_append.mpr (.inr (.tail _ (List.mem_append.mpr (.inr (.head _))))), rfl, _, rfl⟩) ?_ ?_
    · intro i v I oI C oC D ys m₂ h9 tk9 tl9 E9 hi9 hv9 hC9 hx9 F9 N9
      have hi8 : i < ns.length := by simpa [hwl] using hi9
      obtain ⟨t9, hv8⟩ := hi.get i ns[i] (by simp [hi8])
      have hv7 : v = .int ns[i] t9 := by
        have hv6 : ws[i]? = some v := by simpa using hv9
        rw [hv8] at hv6; exact (Option.some.inj hv6).symm
      subst hv7
      k_steps
      obtain ⟨N8, f8⟩ := elt_two (by assumption) (by assumption) (by assumption)
      exact ⟨_, _, _, rfl, by assumption, N8, f8, ns[i], by simp [hi8], ReadsIn.mono (by assumption) (fun p hp => by rw [List.append_nil]; exact hp)⟩
    · intro ys2 tl2 hall2 hf2
      rw [List.size_toArray, hwl] at hall2
      k_steps
      all_goals (try k_data)
      refine eq_reads (by k_asm) (by k_asm) (by k_asm) (.list (.tail _ (List.mem_append.mpr (.inr (.head _)))) ((readsAll_of hall1).mono ?_)) (.list (.head _) ((readsAll_of hall2).mono ?_)) (tolds_shaped ns) (tolds_shaped ns) ?_ ?_
      · intro p hp
        refine .tail _ (List.mem_append.mpr (.inr (.tail _ (List.mem_append.mpr ?_))))
        exact (List.mem_append.mp hp).imp id fun q => hs1 _ (hsup p q)
      · intro p hp
        rw [List.append_nil] at hp
        exact .tail _ (List.mem_append.mpr (.inl hp))
      · ktr_units
      rw [tolds_self]
      k_steps
      all_goals (try k_data)
      obtain ⟨N8, f8⟩ := two_close hs1 hf1 (by assumption) hf2 (by assumption) (by assumption)
      exact hret _ _ _ _ (by assumption) N8 ⟨_, rfl, f8, rfl⟩
local macro_rules | `(tactic| walk_at "call builtin:list.append") => `(tactic| (k_here; k_dflt (refine' append_to ?k1 ?k2 ?k3 ?k4 ?k5 ?_; (case k1 => k_asm); (case k2 => k_asm); (case k4 => with_reducible first | assumption | rfl); (case k3 => k_upd); (case k5 => omega)); intro h' F' N'))
local macro_rules | `(tactic| walk_at "call builtin:list.pop") => `(tactic| (k_here; (with_reducible show wpAny _ _ (call (Value.builtin _) [Value.ref _]) _ _ _); k_dflt (refine' pop_end ?k1 ?k2 ?k3 ?k5 ?_; (case k1 => k_asm); (case k2 => k_asm); (case k3 => k_upd); (case k5 => omega)); intro h' F' N'))
local macro_rules | `(tactic| walk_at "call builtin:list.pop") => `(tactic| (k_here; (with_reducible show wpAny _ _ (call (Value.builtin _) [Value.ref _, Value.int _ _]) _ _ _); k_dflt (refine' pop_first ?k1 ?k2 ?k3 ?k5 ?_; (case k1 => k_asm); (case k2 => k_asm); (case k3 => k_upd); (case k5 => omega)); intro h' F' N'))
local macro_rules | `(tactic| walk_at "subscriptTail Name Slice ref ref") => `(tactic| (k_here; k_dflt (first
  | (refine' slice_upto ?k1 ?k2 ?k3 ?k4 ?k5 ?_ ?k6 ?k7; (case k1 => k_asm); (case k2 => k_asm); (case k3 => k_mem); (case k4 => omega); (case k5 => omega); (case k6 => with_unfolding_all rfl); (case k7 => kmk_pure))
  | (refine' slice_from ?k1 ?k2 ?k3 ?k4 ?k5 ?_ ?k6 ?k7; (case k1 => k_asm); (case k2 => k_asm); (case k3 => k_mem); (case k4 => omega); (case k5 => omega); (case k6 => with_unfolding_all rfl); (case k7 => kmk_pure))); intro D' h' F' N' l1; (try k_lt l1)))
/-- the three objects of a history, written out -/
abbrev histL (a d l : Addr) (h1 h2 h3 : Int) (t1 t2 t3 u1 u3 : Tok) (most gone : Int) (vs : List Value) (k : Nat) : List (Addr × Obj) := [(a, instObj 85 d), (d, histD h1 h2 h3 t1 t2 t3 u1 u3 most gone l), (l, W.listOf (List.toArray vs) k)]
def HistL (a d : Addr) (most : Int) (l : Addr) (vs : List Value) (hl : List (Addr × Obj)) : Prop := ∃ h1 h2 h3 t1 t2 t3 u1 u3 gone k, hl = histL a d l h1 h2 h3 t1 t2 t3 u1 u3 most gone vs k
def PushPost (a d l : Addr) (most : Int) (vs : List Value) (v : Value) (rest : List (Addr × Obj)) (r : Value) (led' : List (Addr × Obj)) : Prop :=
  ∃ vs' hl', HistL a d most l vs' hl' ∧ led' = hl' ++ rest ∧ (((vs.length : Int) + 1 ≤ most ∧ r = .none ∧ vs' = vs ++ [v]) ∨ (¬ (vs.length : Int) + 1 ≤ most ∧ vs ++ [v] = r :: vs'))
set_option maxHeartbeats 8000000 in
theorem push_spec {w : World} {a d l x : Addr} {h1 h2 h3 : Int} {t1 t2 t3 u1 u3 : Tok} {most gone : Int} {vs : List Value} {k : Nat} {rest : List (Addr × Obj)} (hz : vs.length ≤ 100)
    (hrd : OwnOff rest [d, l]) (had : a ≠ d) (hal : a ≠ l) (hdl : d ≠ l) :
    Spec w 49 [.ref a, .ref x] ((a, instObj 85 d) :: (d, histD h1 h2 h3 t1 t2 t3 u1 u3 most gone l) :: (l, W.listOf (List.toArray vs) k) :: rest) 20 400 (PushPost a d l most vs (.ref x) rest) := by
  unfold Spec
  k_fill
  intro dp un gd cn cs a' ccd cl outer A₀ base h₀ L m s loose mean mg mb Q E B F X N T hk hd hu hret
  have hld := hdl.symm
  refine wpAny_call ?_
  by_cases hc : (vs.length : Int) + 1 ≤ most
  · obtain ⟨ws, hws⟩ : ∃ ws, vs ++ [.ref x] = ws := ⟨_, rfl⟩
    have hwl : ws.length = vs.length + 1 := by rw [← hws]; simp
    k_dflt ktr_enter
    k_steps
    all_goals (try k_data)
    exact hret _ _ _ _ (by assumption) (by assumption) ⟨ws, _, ⟨h1, h2, h3, t1, t2, t3, u1, _, _, _, rfl⟩, rfl, .inl ⟨hc, rfl, hws.symm⟩⟩
  · obtain ⟨y, q, hws⟩ : ∃ y q, vs ++ [.ref x] = y :: q := by
      cases vs with
      | nil => exact ⟨_, _, rfl⟩
      | cons y q => exact ⟨_, _, rfl⟩
    have hwl : (y :: q).length = vs.length + 1 := by rw [← hws]; simp
    have hwq : q.length = vs.length := by simpa using hwl
    k_dflt ktr_enter
    k_steps
    all_goals (try k_data)
    exact hret _ _ _ _ (by assumption) (by assumption) ⟨q, _, ⟨h1, h2, h3, t1, t2, t3, u1, _, _, _, rfl⟩, rfl, .inr ⟨hc, hws⟩⟩
theorem news_2 {h₀ h : Heap} {L : Addr} {x y z o : Addr × Obj} {rest : List (Addr × Obj)} (N : News h₀ L h (x :: y :: z :: o :: rest)) : News h₀ L h (y :: z :: x :: rest) := fun p hp => N p (by
  simp only [List.mem_cons] at hp ⊢
  rcases hp with h | h | h | h <;> simp [h])
theorem news_3 {h₀ h : Heap} {L : Addr} {x g y z o : Addr × Obj} {rest : List (Addr × Obj)} (N : News h₀ L h (x :: g :: y :: z :: o :: rest)) : News h₀ L h (g :: y :: z :: x :: rest) := fun p hp => N p (by
  simp only [List.mem_cons] at hp ⊢
  rcases hp with h | h | h | h | h <;> simp [h])
def PopPost (a d l : Addr) (most : Int) (vs : List Value) (rest : List (Addr × Obj)) (r : Value) (led' : List (Addr × Obj)) : Prop :=
  ∃ vs' hl', HistL a d most l vs' hl' ∧ led' = hl' ++ rest ∧ ((vs = [] ∧ r = .none ∧ vs' = []) ∨ vs = vs' ++ [r])
set_option maxHeartbeats 8000000 in
theorem pop_spec {w : World} {a d l : Addr} {h1 h2 h3 : Int} {t1 t2 t3 u1 u3 : Tok} {most gone : Int} {vs : List Value} {ns : List Int} {sup : List (Addr × Obj)} {k : Nat} {rest : List (Addr × Obj)} (hz : vs.length ≤ 100) (hla : LinesAll w sup vs ns)
    (hrd : OwnOff rest [d, l]) (had : a ≠ d) (hal : a ≠ l) (hdl : d ≠ l) :
    Spec w 56 [.ref a] ((a, instObj 85 d) :: (d, histD h1 h2 h3 t1 t2 t3 u1 u3 most gone l) :: (l, W.listOf (List.toArray vs) k) :: rest) 20 400 (PopPost a d l most vs rest) := by
  unfold Spec
  k_fill
  intro dp un gd cn cs a' ccd cl outer A₀ base h₀ L m s loose mean mg mb Q E B F X N T hk hd hu hret
  have hld := hdl.symm
  refine wpAny_call ?_
  rcases List.eq_nil_or_concat vs with hv | ⟨p, y, hv⟩
  · subst hv
    have hvl : ([] : List Value).length = 0 := rfl
    k_dflt ktr_enter
    k_steps
    all_goals (try k_data)
    exact hret _ _ _ _ (by assumption) (by assumption) ⟨[], _, ⟨h1, h2, h3, t1, t2, t3, u1, u3, _, _, rfl⟩, rfl, .inl ⟨rfl, rfl, rfl⟩⟩
  · have hvl : (p ++ [y]).length = p.length + 1 := by simp
    have hv' : vs = p ++ [y] := by rw [hv]; simp
    subst hv'
    have hpl : p.length ≤ 100 := by omega
    have hy : ∃ x, y = .ref x := by
      obtain ⟨x, _, e, _⟩ := hla.get (i := p.length) (v := y) (by simp)
      exact ⟨x, e⟩
    obtain ⟨x, rfl⟩ := hy
    k_dflt ktr_enter
    k_steps
    all_goals (try k_data)
    exact hret _ _ _ _ (by assumption) (by assumption) ⟨p, _, ⟨h1, h2, h3, t1, t2, t3, u1, u3, _, _, rfl⟩, rfl, .inr rfl⟩
def ClearPost (a d : Addr) (most : Int) (rest : List (Addr × Obj)) (r : Value) (led' : List (Addr × Obj)) : Prop :=
  ∃ l' hl', HistL a d most l' [] hl' ∧ led' = hl' ++ rest ∧ r = .none ∧ a ≠ l' ∧ d ≠ l' ∧ ∀ p ∈ rest, p.1 ≠ l'
set_option maxHeartbeats 8000000 in
theorem clear_spec {w : World} {a d l : Addr} {h1 h2 h3 : Int} {t1 t2 t3 u1 u3 : Tok} {most gone : Int} {vs : List Value} {k : Nat} {rest : List (Addr × Obj)} (hz : vs.length ≤ 100)
    (hrd : OwnOff rest [d, l]) (had : a ≠ d) (hal : a ≠ l) (hdl : d ≠ l) :
    Spec w 63 [.ref a] ((a, instObj 85 d) :: (d, histD h1 h2 h3 t1 t2 t3 u1 u3 most gone l) :: (l, W.listOf (List.toArray vs) k) :: rest) 20 400 (ClearPost a d most rest) := by
  unfold Spec
  k_fill
  intro dp un gd cn cs a' ccd cl outer A₀ base h₀ L m s loose mean mg mb Q E B F X N T hk hd hu hret
  have hld := hdl.symm
  have hvl : vs.length = vs.length := rfl
  refine wpAny_call ?_
  k_dflt ktr_enter
  k_steps
  all_goals (try k_data)
  exact hret _ _ _ _ (by assumption) (news_2 (by assumption)) ⟨_, _, ⟨h1, h2, h3, t1, t2, t3, u1, _, _, _, rfl⟩, rfl, rfl, by k_ne, by k_ne, by kd_above⟩
def cutZ (n : Nat) (most : Int) : Int := if (n : Int) - most > 0 then (n : Int) - most else 0
def TrimPost (a d : Addr) (most : Int) (vs : List Value) (rest : List (Addr × Obj)) (r : Value) (led' : List (Addr × Obj)) : Prop :=
  ∃ l' g kg hl', HistL a d most l' (vs.drop (cutZ vs.length most).toNat) hl' ∧ led' = (g, W.listOf (vs.take (cutZ vs.length most).toNat).toArray kg) :: (hl' ++ rest) ∧ r = .ref g ∧ a ≠ l' ∧ d ≠ l' ∧ (∀ p ∈ rest, p.1 ≠ l') ∧ a ≠ g ∧ d ≠ g ∧ l' ≠ g ∧ ∀ p ∈ rest, p.1 ≠ g
set_option maxHeartbeats 8000000 in
theorem trim_spec {w : World} {a d l : Addr} {h1 h2 h3 : Int} {t1 t2 t3 u1 u3 tm : Tok} {most gone most' : Int} {vs : List Value} {k : Nat} {rest : List (Addr × Obj)} (hz : vs.length ≤ 100)
    (hrd : OwnOff rest [d, l]) (had : a ≠ d) (hal : a ≠ l) (hdl : d ≠ l) :
    Spec w 70 [.ref a, .int most' tm] ((a, instObj 85 d) :: (d, histD h1 h2 h3 t1 t2 t3 u1 u3 most gone l) :: (l, W.listOf (List.toArray vs) k) :: rest) 20 400 (TrimPost a d most' vs rest) := by
  unfold Spec
  k_fill
  intro dp un gd cn cs a' ccd cl outer A₀ base h₀ L m s loose mean mg mb Q E B F X N T hk hd hu hret
  have hld := hdl.symm
  have hvl : vs.length = vs.length := rfl
  refine wpAny_call ?_
  k_dflt ktr_enter
  k_steps
  all_goals (try k_data)
  exact hret _ _ _ _ (by assumption) (news_3 (by assumption)) ⟨_, _, _, _, ⟨h1, h2, h3, t1, t2, t3, _, _, _, _, rfl⟩, rfl, rfl, by k_ne, by k_ne, by kd_above, by k_ne, by k_ne, by k_ne, by kd_above⟩
def lineP (n : Int) : PyData := .tuple [.list (cellsP n), .bool (wrapB n), .str (Str.ofString "single")]
theorem fmod3 (n : Int) : n.fmod 3 = 0 ∨ n.fmod 3 = 1 ∨ n.fmod 3 = 2 := by
  have h1 := Int.fmod_nonneg_of_pos n (b := 3) (by decide)
  have h2 := Int.fmod_lt_of_pos n (b := 3) (by decide)
  omega
theorem cells_ne {n m : Int} (h : n ≠ m) : PyData.eqvAll (cellsP n) (cellsP m) = false := by
  have hn : (97 + n == 97 + m) = false := by rw [beq_eq_false_iff_ne]; omega
  rcases fmod3 n with a | a | a <;> rcases fmod3 m with b | b | b <;> simp [cellsP, cellP, a, b, signP, blankP, penP, PyData.eqv, PyData.eqvAll, h]
theorem lineP_lay (n : Int) : PyData.canLay0 (lineP n) = true ∧ PyData.depth (lineP n) ≤ 4 := by
  have a := cellP_lay n 0
  have b := cellP_lay n 1
  have c := cellP_lay n 2
  have hs : PyData.strOk (Str.ofString "single") = true := by decide +kernel
  simp only [lineP, cellsP, PyData.canLay0, PyData.canLayAll0, PyData.depth, PyData.depthAll, a.1, b.1, c.1, hs, Bool.and_self, true_and]
  omega
theorem lineP_shaped (n : Int) : SeqAt.shaped (lineP n) = true := by
  unfold SeqAt.shaped
  rw [(lineP_lay n).1, Bool.true_and]
  exact decide_eq_true (Nat.le_trans (lineP_lay n).2 (by decide))
theorem lineP_eqv (n m : Int) : PyData.eqv (lineP n) (lineP m) = decide (n = m) := by
  by_cases h : n = m
  · subst h
    rw [eqv_self _ (lineP_lay n).1, decide_eq_true rfl]
  · rw [decide_eq_false h]
    simp only [lineP, PyData.eqv, PyData.eqvAll, cells_ne h, Bool.false_and]
def LinePostS (w : World) (n : Int) (sup led : List (Addr × Obj)) (r : Value) (led' : List (Addr × Obj)) : Prop := ∃ a tl, r = .ref a ∧ led' = tl ++ led ∧ Fresh tl led ∧ LineIs w (tl ++ sup) a n
theorem lineS_close {w : World} {h₀ h' : Heap} {L a : Addr} {m : Str → Option Value} {s : Shared} {n : Int} {tk' : Nat} {sup led mid tl all : List (Addr × Obj)} {Q : Value → Shared → Prop}
    (hret : ∀ r led' h' tk', Fr h₀ L h' m → News h₀ L h' led' → LinePostS w n sup led r led' → Q r { s with heap := h', toks := tk' }) (kF : Fr h₀ L h' m) (kN : News h₀ L h' all) (hs : ∀ p ∈ led, p ∈ mid) (myT : Tl mid tl all)
    (myF : Fresh tl led) (myL : LineIs w (tl ++ sup) a n) : Q (.ref a) { s with heap := h', toks := tk' } :=
  hret _ (tl ++ led) h' tk' kF (myT.news kN hs) ⟨a, tl, rfl, rfl, myF, myL⟩
set_option maxHeartbeats 8000000 in
theorem lcopy_spec {w : World} {n : Int} {a : Addr} {sup led : List (Addr × Obj)} (hsup : ∀ p ∈ sup, p ∈ led) (hl : LineIs w sup a n) : Spec w 224 [.ref a] led 60 1200 (LinePostS w n sup led) := by
  unfold Spec
  k_fill
  intro dp un gd cn cs a' ccd cl outer A₀ base h₀ L m s loose mean mg mb Q E B F X N T hk hd hu hret
  obtain ⟨d, c, e0, e1, e2, k, h1, h2, h3, t1, t2, t3, t4, v0, k0, v1, k1, v2, k2, mid, hmid, N1, hs, a4, a5, a6⟩ := lineD_news N hsup hl
  subst hmid
  clear N
  refine wpAny_call ?_
  k_dflt ktr_enter
  k_steps
  all_goals (try k_data)
  apply lineS_close hret (by assumption) (by assumption) (hs := hs)
  case myT => repeat (first | exact Tl.nil | apply Tl.cons)
  case myF => (unfold Fresh; repeat (first | exact List.forall_mem_nil _ | (refine List.forall_mem_cons.mpr ⟨?_, ?_⟩; (focus kd_above))))
  case myL => exact ⟨_, _, _, _, _, _, _, _, _, _, _, _, _, List.mem_append_left _ (by k_memK), List.mem_append_left _ (by k_memK), List.mem_append_left _ (by k_memK), a4.mono fun p hp => List.mem_append_right _ hp, a5.mono fun p hp => List.mem_append_right _ hp, a6.mono fun p hp => List.mem_append_right _ hp⟩
theorem sub_app {sup l : List (Addr × Obj)} {p : Addr × Obj} (h : ∀ q ∈ sup, q ∈ l) (hp : p ∈ sup) : p ∈ l := h p hp
theorem line_reads {w : World} {sup led : List (Addr × Obj)} {D c e0 e1 e2 : Addr} {n : Int} {t : Tok} {k k' : Nat} (hs : ∀ p ∈ sup, p ∈ led) (h1 : (D, tupOf [.ref c, .bool (wrapB n), .str (Str.ofString "single") t] k) ∈ led) (h2 : (c, W.listOf [.ref e0, .ref e1, .ref e2].toArray k') ∈ led)
    (a4 : CellAt w sup e0 (cellP n 0)) (a5 : CellAt w sup e1 (cellP n 1)) (a6 : CellAt w sup e2 (cellP n 2)) : ReadsIn w led (.ref D) (lineP n) :=
  .tuple h1 (.cons (.list h2 (.cons (a4.2.mono hs) (.cons (a5.2.mono hs) (.cons (a6.2.mono hs) .nil)))) (.cons (.bool _) (.cons (.str _ _) .nil)))
section
local macro_rules | `(tactic| walk_at "compareOp Eq ref ref") => `(tactic| (k_here; k_dflt (refine' eq_reads ?k1 ?k2 ?k3 (line_reads ?a1 ?a2 ?a3 ?a4 ?a5 ?a6) (line_reads ?b1 ?b2 ?b3 ?b4 ?b5 ?b6) (lineP_shaped _) (lineP_shaped _) ?k4 ?_; (case k1 => k_asm); (case k2 => k_asm); (case k3 => k_asm); (case a2 => k_mem); (case b2 => k_mem); (case a3 => k_mem); (case b3 => k_mem); (case a4 => k_asm); (case a5 => k_asm); (case a6 => k_asm); (case b4 => k_asm); (case b5 => k_asm); (case b6 => k_asm); (case k4 => ktr_units); (case a1 => exact fun p hp => List.Mem.tail _ (List.Mem.tail _ (sub_app (by k_asm) hp))); (case b1 => exact fun p hp => List.Mem.tail _ (List.Mem.tail _ (sub_app (by k_asm) hp)))); rw [lineP_eqv]))
set_option maxHeartbeats 8000000 in
theorem lequals_spec {w : World} {n m' : Int} {a b : Addr} {sup led : List (Addr × Obj)} (hsup : ∀ p ∈ sup, p ∈ led) (hl : LineIs w sup a n) (hl' : LineIs w sup b m') : Spec w 253 [.ref a, .ref b] led 60 1200 (PurePost (fun r _ => r = .bool (decide (n = m'))) sup led) := by
  unfold Spec
  k_fill
  intro dp un gd cn cs a' ccd cl outer A₀ base h₀ L m s loose mean mg mb Q E B F X N T hk hd hu hret
  obtain ⟨d, c, e0, e1, e2, k, h1, h2, h3, t1, t2, t3, t4, v0, k0, v1, k1, v2, k2, mid, hmid, N1, hs, a4, a5, a6⟩ := lineD_news N hsup hl
  obtain ⟨d', c', e0', e1', e2', k', h1', h2', h3', t1', t2', t3', t4', v0', k0', v1', k1', v2', k2', mid', hmid', N2, hs', b4, b5, b6⟩ := lineD_news N1 (fun p hp => hs p (hsup p hp)) hl'
  have hs2 : ∀ p ∈ led, p ∈ mid' := fun p hp => hs' p (hs p hp)
  subst hmid'
  subst hmid
  clear N N1 hs hs'
  refine wpAny_call ?_
  have hs3 : ∀ p ∈ sup, p ∈ _ := fun p hp => hs2 p (hsup p hp)
  k_dflt ktr_enter
  k_steps
  all_goals (try k_data)
  exact hret _ (_ :: _ :: led) _ _ (by assumption) (Tl.news (.cons (.cons .nil)) (by assumption) hs2) ⟨[_, _], rfl, List.forall_mem_cons.mpr ⟨by kd_above, List.forall_mem_cons.mpr ⟨by kd_above, List.forall_mem_nil _⟩⟩, rfl⟩
end
/-- objects of two kinds lie apart -/
theorem ne_of_obj {h₀ h : Heap} {L a b : Addr} {oa ob : Obj} {led : List (Addr × Obj)} (N : News h₀ L h led) (ha : (a, oa) ∈ led) (hb : (b, ob) ∈ led) (h : oa ≠ ob) : a ≠ b := fun e => h (by
  have h1 := (N _ ha).1
  have h2 := (N _ hb).1
  simp only at h1 h2
  rw [e, h2] at h1
  exact (Option.some.inj h1).symm)
def CopyPost (w : World) (ns : List Int) (sup led : List (Addr × Obj)) (r : Value) (led' : List (Addr × Obj)) : Prop :=
  ∃ b d l vs k h1 h2 h3 t1 t2 t3 u1 u3 most gone tl, r = .ref b ∧ led' = ((l, W.listOf (List.toArray vs) k) :: (b, instObj 85 d) :: (d, histD h1 h2 h3 t1 t2 t3 u1 u3 most gone l) :: tl) ++ led ∧
    Fresh ((l, W.listOf (List.toArray vs) k) :: (b, instObj 85 d) :: (d, histD h1 h2 h3 t1 t2 t3 u1 u3 most gone l) :: tl) led ∧ OwnOff tl [d, l] ∧ LinesAll w (tl ++ sup) vs ns
theorem linesAll_of {w : World} {ns : List Int} : ∀ {ys : List Value} {sup : List (Addr × Obj)}, AllAt (fun l y i => ∃ a n, y = .ref a ∧ ns[i]? = some n ∧ LineIs w l a n) sup ns.length ys → LinesAll w sup ys ns := by
  induction ns with
  | nil =>
    intro ys sup h
    have : ys = [] := List.length_eq_zero_iff.mp h.1
    subst this
    exact .nil
  | cons n ns ih =>
    intro ys sup h
    obtain ⟨hl, hg⟩ := h
    cases ys with
    | nil => simp at hl
    | cons y ys =>
      obtain ⟨a, k, rfl, hk, hr⟩ := hg 0 y rfl
      simp only [List.getElem?_cons_zero, Option.some.injEq] at hk
      subst hk
      exact .cons hr (ih ⟨by simpa using hl, fun i z hz => by simpa using hg (i + 1) z (by simpa using hz)⟩)
theorem news_appsub {h₀ h : Heap} {L : Addr} {tl led mid : List (Addr × Obj)} (hs : ∀ p ∈ led, p ∈ mid) (N : News h₀ L h (tl ++ mid)) : News h₀ L h (tl ++ led) := fun p hp => N p (by
  rcases List.mem_append.mp hp with q | q
  · exact List.mem_append_left _ q
  · exact List.mem_append_right _ (hs p q))
theorem fresh_appsub {tl led mid : List (Addr × Obj)} (hs : ∀ p ∈ led, p ∈ mid) (f : Fresh tl mid) : Fresh tl led := fun q hq p hp => f q hq p (hs p hp)
theorem hcopy_fin {h₀ h : Heap} {L D l0 x d : Addr} {oD o0 od p1 p2 p3 : Obj} {a1 a2 a3 : Addr} {tl led : List (Addr × Obj)} (N : News h₀ L h ((D, oD) :: (tl ++ ((l0, o0) :: (x, instObj 85 d) :: (d, od) :: (a1, p1) :: (a2, p2) :: (a3, p3) :: led))))
    (o : ∀ p ∈ tl ++ ((l0, o0) :: (x, instObj 85 d) :: (d, od) :: (a1, p1) :: (a2, p2) :: (a3, p3) :: led), p.1 ≠ D) (hf : Fresh tl ((l0, o0) :: (x, instObj 85 d) :: (d, od) :: (a1, p1) :: (a2, p2) :: (a3, p3) :: led)) (hd : ∀ p ∈ led, p.1 ≠ d) :
    News h₀ L h ((D, oD) :: (x, instObj 85 d) :: (d, od) :: (a1, p1) :: (a2, p2) :: (a3, p3) :: (led ++ tl)) ∧ OwnOff (led ++ tl) [d] ∧ D ≠ d ∧ (∀ p ∈ led, p.1 ≠ D) ∧ Fresh tl led ∧ OwnOff tl [d, D] := by
  refine ⟨fun p hp => N p ?_, fun p hp b hb => ?_, ?_, fun p hp => o p (List.mem_append_right _ (.tail _ (.tail _ (.tail _ (.tail _ (.tail _ (.tail _ hp))))))), fun q hq p hp => hf q hq p (.tail _ (.tail _ (.tail _ (.tail _ (.tail _ (.tail _ hp)))))), fun p hp b hb => ?_⟩
  · simp only [List.mem_cons, List.mem_append] at hp ⊢
    rcases hp with h | h | h | h | h | h | h | h <;> simp [h]
  · rw [List.mem_singleton.mp hb]
    rcases List.mem_append.mp hp with q | q
    · exact hd p q
    · exact (hf p q _ (.tail _ (.tail _ (.head _)))).symm
  · exact (o (d, od) (List.mem_append_right _ (.tail _ (.tail _ (.head _))))).symm
  · simp only [List.mem_cons, List.not_mem_nil, or_false] at hb
    rcases hb with rfl | rfl
    · exact (hf p hp _ (.tail _ (.tail _ (.head _)))).symm
    · exact o p (List.mem_append_left _ hp)
theorem hcopy_close {h₀ h : Heap} {L : Addr} {a b c p1 p2 p3 : Addr × Obj} {tl led : List (Addr × Obj)} (N : News h₀ L h (a :: b :: c :: p1 :: p2 :: p3 :: (led ++ tl))) : News h₀ L h ((a :: b :: c :: tl) ++ led) := fun p hp => N p (by
  simp only [List.mem_cons, List.mem_append] at hp ⊢
  rcases hp with (h | h | h | h) | h <;> simp [h])
section
local macro_rules | `(tactic| walk_at "call ref") => `(tactic| (k_here; k_dflt (refine' spec_use (lcopy_spec ?ks ?kl) ?k1 ?k2 ?k3 ?k4 ?k5 ?k6 ?k7 ?k8 ?kq ?_; (case kl => k_asm); (case k1 => k_asm); (case k2 => k_asm); (case k3 => k_asm); (case k4 => k_asm); (case k5 => k_asm); (case k6 => first | rfl | assumption); (case k7 => ktr_room); (case k8 => ktr_units); (case kq => rfl); (case ks => k_asm)); intro r9 led9 h9 tk9 F9 N9 p9; k_dflt ((obtain ⟨a9, tl9, e9, e8, f9, q9⟩ := p9); subst e9; subst e8)))
set_option maxHeartbeats 8000000 in
theorem hcopy_spec {w : World} {ns : List Int} {a d l : Addr} {vs : List Value} {k : Nat} {h1 h2 h3 : Int} {t1 t2 t3 u1 u3 : Tok} {most gone : Int} {sup led : List (Addr × Obj)} (hsup : ∀ p ∈ sup, p ∈ led) (m1 : (a, instObj 85 d) ∈ led) (m2 : (d, histD h1 h2 h3 t1 t2 t3 u1 u3 most gone l) ∈ led)
    (m3 : (l, W.listOf (List.toArray vs) k) ∈ led) (a4 : LinesAll w sup vs ns) (h8 : ns.length ≤ 100) : Spec w 75 [.ref a] led 100 2000 (CopyPost w ns sup led) := by
  unfold Spec
  k_fill
  intro dp un gd cn cs a' ccd cl outer A₀ base h₀ L m s loose mean mg mb Q E B F X N T hk hd hu hret
  have N0 : News h₀ L s.heap ((a, instObj 85 d) :: (d, histD h1 h2 h3 t1 t2 t3 u1 u3 most gone l) :: (l, W.listOf (List.toArray vs) k) :: led) := by
    intro p hp
    simp only [List.mem_cons] at hp
    rcases hp with rfl | rfl | rfl | hp
    · exact N _ m1
    · exact N _ m2
    · exact N _ m3
    · exact N _ hp
  have hs0 : ∀ p ∈ led, p ∈ (a, instObj 85 d) :: (d, histD h1 h2 h3 t1 t2 t3 u1 u3 most gone l) :: (l, W.listOf (List.toArray vs) k) :: led := fun p hp => .tail _ (.tail _ (.tail _ hp))
  clear N m1 m2 m3
  have hvl := a4.length
  refine wpAny_call ?_
  k_dflt ktr_enter
  k_steps
  all_goals (try k_data)
  k_dflt (refine LCg.CompSrc.ledger (by rfl) (by k_asm) (by k_asm) (.tail _ (.tail _ (.tail _ (.tail _ (.tail _ (.head _)))))) ?_ (fun g => ?_))
  · simp only [List.size_toArray, sizeLine_eq]; omega
  refine comp_rest (R := fun l y i => ∃ a n, y = .ref a ∧ ns[i]? = some n ∧ LineIs w l a n) (sup := sup) (fun l l' y i hs ⟨a, n, e1, e2, r⟩ => ⟨a, n, e1, e2, r.mono hs⟩) (fun p hp => .tail _ (.tail _ (.tail _ (.tail _ (.tail _ (.tail _ (hsup p hp))))))) (fun tl => Or.inr ⟨_, List.mem_append.mpr (.inr (.tail _ (.tail _ (.tail _ (.tail _ (.tail _ (.head _))))))), rfl, _, rfl⟩) ?_ ?_
  · intro i v I oI C oC D ys m₂ h9 tk9 tl9 E9 hi9 hv9 hC9 hx9 F9 N9
    obtain ⟨a9, n9, rfl, hn9, hl9⟩ := a4.get (i := i) (v := v) (by simpa using hv9)
    obtain ⟨d8, c8, e08, e18, e28, k8, h18, h28, h38, t18, t28, t38, t48, v08, k08, v18, k18, v28, k28, mid, hmid, N8, hs8, b4, b5, b6⟩ := lineD_news N9 (fun p hp => .tail _ (.tail _ (.tail _ (List.mem_append_right _ (.tail _ (.tail _ (.tail _ (.tail _ (.tail _ (.tail _ (hsup p hp)))))))))) ) hl9
    have hs7 : ∀ p ∈ sup, p ∈ mid := fun p hp => hs8 p (.tail _ (.tail _ (.tail _ (List.mem_append_right _ (.tail _ (.tail _ (.tail _ (.tail _ (.tail _ (.tail _ (hsup p hp))))))))))) 
    subst hmid
    clear N9
    k_steps
    all_goals (try k_data)
    exact ⟨_, _, _, rfl, by assumption, news_appsub hs8 (by assumption), fresh_appsub hs8 (by assumption), _, _, rfl, hn9, by assumption⟩
  · intro ys1 tl1 hall1 hf1
    rw [List.size_toArray, hvl] at hall1
    unfold LCg.FinE
    intro D9 h9 tk9 F9 N9 o9
    obtain ⟨N8, q1, q2, q3, q4, q5⟩ := hcopy_fin N9 (off1_of o9) hf1 (by kd_above)
    clear N9 o9
    k_steps
    all_goals (try k_data)
    refine hret _ _ _ _ (by assumption) (hcopy_close (by assumption)) ⟨_, _, _, ys1, _, _, _, _, _, _, _, _, _, _, _, _, rfl, rfl, ?_, q5, linesAll_of hall1⟩
    exact List.forall_mem_cons.mpr ⟨q3, List.forall_mem_cons.mpr ⟨by kd_above, List.forall_mem_cons.mpr ⟨by kd_above, q4⟩⟩⟩
end
section
theorem lines_eq_len {ns ms : List Int} (h : ns.length ≠ ms.length) : decide (ns = ms) = false := decide_eq_false fun e => h (by rw [e])
theorem bools_of {ns ms : List Int} : ∀ {ys : List Value} {sup : List (Addr × Obj)}, ns.length = ms.length → AllAt (fun _ y i => ∃ n m, ns[i]? = some n ∧ ms[i]? = some m ∧ y = .bool (decide (n = m))) sup ns.length ys → ∃ bs, LSm.BoolsAre ys bs ∧ bs.all id = decide (ns = ms) := by
  induction ns generalizing ms with
  | nil =>
    intro ys sup hl h
    have h1 : ys = [] := List.length_eq_zero_iff.mp h.1
    have h2 : ms = [] := List.length_eq_zero_iff.mp hl.symm
    subst h1 h2
    exact ⟨[], .nil, by simp⟩
  | cons n ns ih =>
    intro ys sup hl h
    obtain ⟨hl', hg⟩ := h
    cases ms with
    | nil => simp at hl
    | cons m ms =>
      cases ys with
      | nil => simp at hl'
      | cons y ys =>
        obtain ⟨a, b, ha, hb, rfl⟩ := hg 0 y rfl
        simp only [List.getElem?_cons_zero, Option.some.injEq] at ha hb
        subst ha hb
        obtain ⟨bs, h1, h2⟩ := ih (ms := ms) (sup := sup) (by simpa using hl) ⟨by simpa using hl', fun i z hz => by simpa using hg (i + 1) z (by simpa using hz)⟩
        refine ⟨decide (n = m) :: bs, .cons _ h1, ?_⟩
        simp only [List.all_cons, id_eq, h2]
        by_cases e1 : n = m <;> by_cases e2 : ns = ms <;> simp [e1, e2]
theorem heq_close {h₀ h : Heap} {L : Addr} {d p q : Addr × Obj} {tl led : List (Addr × Obj)} (N : News h₀ L h (d :: (tl ++ p :: q :: led))) : News h₀ L h ((d :: tl) ++ led) := fun x hx => N x (by
  simp only [List.mem_cons, List.mem_append] at hx ⊢
  rcases hx with (h | h) | h <;> simp [h])
theorem heq_fresh {D : Addr} {o : Obj} {p q : Addr × Obj} {tl led : List (Addr × Obj)} (off : LCg.Off1 D (tl ++ p :: q :: led)) (hf : Fresh tl (p :: q :: led)) : Fresh ((D, o) :: tl) led :=
  List.forall_mem_cons.mpr ⟨fun p hp => off1_of off p (List.mem_append_right _ (.tail _ (.tail _ hp))), fun x hx p hp => hf x hx p (.tail _ (.tail _ hp))⟩
def ZMono (R : List (Addr × Obj) → Value → Nat → Prop) : Prop := ∀ l l' y i, (∀ p ∈ l, p ∈ l') → R l y i → R l' y i
/-- two goals that the walk leaves alone -/
def Todo2 (P Q : Prop) : Prop := P ∧ Q
theorem zip_todo {prog : Program} {w : World} {A : Around} {E : Value → Shared → Prop} {s : Shared} {h₀ : Heap} {L : Addr} {m : Str → Option Value} {env : Env} {elt : Expr} {x x₂ : Str} {scope : Scope} {cl : List (Str × Addr)} {Q : Value → Shared → Prop} {l1 l2 : Addr} {xs ys : List Value} {k1 k2 : Nat} {R : List (Addr × Obj) → Value → Nat → Prop} {news : List (Addr × Obj)}
    (hmono : ZMono R) (hh : A.handled = none) (F : Fr h₀ L s.heap m) (N : News h₀ L s.heap news) (hm1 : (l1, W.listOf xs.toArray k1) ∈ news) (hm2 : (l2, W.listOf ys.toArray k2) ∈ news) (hxy : xs.length = ys.length) (hz : xs.length ≤ 1000)
    (todo : Todo2 (ZipStep prog w A h₀ L m env elt x x₂ scope cl s R xs.toArray ys.toArray news []) (∀ g zs tl, AllAt R (tl ++ []) xs.length zs → Fresh tl news → LCg.FinE h₀ L m { s with heap := g } Q zs (tl ++ news))) :
    wpAny (model prog w) A (call (.type "zip") [.ref l1, .ref l2]) (ZipSrc prog w A h₀ L m env elt x x₂ scope cl Q) E s :=
  call_zip_src hh F N hm1 hm2 hxy hz hmono todo.1 todo.2
theorem news_tail2 {h₀ h : Heap} {L : Addr} {p q : Addr × Obj} {l : List (Addr × Obj)} (N : News h₀ L h (p :: q :: l)) : News h₀ L h l := fun x hx => N x (.tail _ (.tail _ hx))
section
local macro_rules | `(tactic| walk_at "call builtin:all") => `(tactic| (k_here; k_dflt (refine LSm.all_bools (by k_asm) (by k_asm) (by rfl) (News.isList (by k_asm) (.head _)) (by assumption) ?_); intro h' tk' F' N'))
local macro_rules | `(tactic| walk_at "call type:zip") => `(tactic| (k_here; k_dflt (refine' zip_todo ?k0 ?k1 ?k2 ?k3 ?k4 ?k5 ?k6 ?k7 ?_; (case k0 => with_reducible assumption); (case k1 => rfl); (case k2 => k_asm); (case k3 => k_asm); (case k4 => k_mem); (case k5 => k_mem); (case k6 => omega); (case k7 => omega))))
local macro_rules | `(tactic| walk_at "call ref") => `(tactic| (k_here; k_dflt (refine' spec_use (lequals_spec ?ks ?kl ?km) ?k1 ?k2 ?k3 ?k4 ?k5 ?k6 ?k7 ?k8 ?kq ?_; (case kl => k_asm); (case km => k_asm); (case k1 => k_asm); (case k2 => k_asm); (case k3 => k_asm); (case k4 => k_asm); (case k5 => k_asm); (case k6 => first | rfl | assumption); (case k7 => ktr_room); (case k8 => ktr_units); (case kq => rfl); (case ks => k_asm)); intro r9 led9 h9 tk9 F9 N9 p9; k_dflt ((obtain ⟨tl9, e9, f9, q9⟩ := p9); subst e9; subst q9)))
local macro_rules | `(tactic| walk_at "eval ListComp") => `(tactic| (k_here; (with_reducible show wpAny _ _ (eval (Expr.ListComp _ _ _ _) _) _ _ _); lcp_look; k_dflt (refine ListComp_Z (by k_asm) (by rfl) (by decide) (by rfl) (by decide) (by rfl) (by rfl) (by decide) ?_)))
set_option maxHeartbeats 8000000 in
theorem rle_spec {w : World} {ns ms : List Int} {l1 l2 : Addr} {vs ws : List Value} {k1 k2 : Nat} {sup led : List (Addr × Obj)} (hsup : ∀ p ∈ sup, p ∈ led) (hm1 : (l1, W.listOf (List.toArray vs) k1) ∈ led) (hm2 : (l2, W.listOf (List.toArray ws) k2) ∈ led)
    (hl1 : LinesAll w sup vs ns) (hl2 : LinesAll w sup ws ms) (h8 : ns.length ≤ 100) (h9 : ms.length ≤ 100) : Spec w 94 [.ref l1, .ref l2] led 120 2400 (PurePost (fun r _ => r = .bool (decide (ns = ms))) sup led) := by
  unfold Spec
  k_fill
  intro dp un gd cn cs a' ccd cl outer A₀ base h₀ L m s loose mean mg mb Q E B F X N T hk hd hu hret
  have N1 : News h₀ L s.heap ((l1, W.listOf (List.toArray vs) k1) :: (l2, W.listOf (List.toArray ws) k2) :: led) := by
    intro p hp
    simp only [List.mem_cons] at hp
    rcases hp with rfl | rfl | hp
    · exact N _ hm1
    · exact N _ hm2
    · exact N _ hp
  clear N
  have hvl := hl1.length
  have hwl := hl2.length
  refine wpAny_call ?_
  by_cases hc : ns.length = ms.length
  · have hwl' : ws.length = ns.length := by omega
    clear hwl
    have hM : ZMono (fun _ y i => ∃ n m, ns[i]? = some n ∧ ms[i]? = some m ∧ y = .bool (decide (n = m))) := fun l l' y i hs h => h
    k_dflt ktr_enter
    k_steps
    all_goals (try k_data)
    unfold Todo2
    refine ⟨?_, ?_⟩
    · unfold ZipStep
      intro i v₁ v₂ C oC D zs m₂ h9 tk9 own tl9 E9 hv1 hv2 hoC hx1 hx2 F9 N9
      obtain ⟨a9, n9, rfl, hn9, hl9⟩ := hl1.get (i := i) (v := v₁) (by simpa using hv1)
      obtain ⟨b9, m9, rfl, hm9, hl8⟩ := hl2.get (i := i) (v := v₂) (by simpa using hv2)
      obtain ⟨d8, c8, e08, e18, e28, k8, h18, h28, h38, t18, t28, t38, t48, v08, k08, v18, k18, v28, k28, mid, hmid, N8, hs8, b4, b5, b6⟩ := lineD_news N9 (fun p hp => .tail _ (.tail _ (List.mem_append_right _ (List.mem_append_right _ (.tail _ (.tail _ (hsup p hp))))))) hl9
      obtain ⟨d7, c7, e07, e17, e27, k7, h17, h27, h37, t17, t27, t37, t47, v07, k07, v17, k17, v27, k27, mid', hmid', N7, hs7, c4, c5, c6⟩ := lineD_news N8 (fun p hp => hs8 p (.tail _ (.tail _ (List.mem_append_right _ (List.mem_append_right _ (.tail _ (.tail _ (hsup p hp)))))))) hl8
      have hs6 : ∀ p ∈ sup, p ∈ mid' := fun p hp => hs7 p (hs8 p (.tail _ (.tail _ (List.mem_append_right _ (List.mem_append_right _ (.tail _ (.tail _ (hsup p hp))))))))
      have hs5 := fun p hp => hs7 p (hs8 p hp)
      subst hmid'
      subst hmid
      clear N9 N8 hs8 hs7
      k_steps
      all_goals (try k_data)
      exact ⟨_, _, _, rfl, by assumption, news_appsub hs5 (by assumption), fresh_appsub hs5 (by assumption), n9, m9, hn9, hm9, rfl⟩
    · intro g zs tl hall hf
      rw [hvl] at hall
      unfold LCg.FinE
      intro D9 h9 tk9 F9 N9 o9
      obtain ⟨bs, hb1, hb2⟩ := bools_of hc hall
      k_steps
      all_goals (try k_data)
      rw [hb2]
      exact hret _ _ _ _ (by assumption) (heq_close (by assumption)) ⟨_, rfl, heq_fresh o9 hf, rfl⟩
  · k_dflt ktr_enter
    k_steps
    all_goals (try k_data)
    rw [← lines_eq_len hc]
    exact hret _ ([] ++ led) _ _ (by assumption) (news_tail2 (by assumption)) ⟨[], rfl, List.forall_mem_nil _, rfl⟩
end
section
local macro_rules | `(tactic| walk_at "call ref") => `(tactic| (k_here; k_dflt (refine' spec_use (rle_spec ?ks ?km1 ?km2 ?kl ?km ?kz1 ?kz2) ?k1 ?k2 ?k3 ?k4 ?k5 ?k6 ?k7 ?k8 ?kq ?_; (case k4 => k_asm); (case km1 => k_mem); (case km2 => k_mem); (case kl => k_asm); (case km => k_asm); (case kz1 => k_asm); (case kz2 => k_asm); (case k1 => k_asm); (case k2 => k_asm); (case k3 => k_asm); (case k5 => k_asm); (case k6 => first | rfl | assumption); (case k7 => ktr_room); (case k8 => ktr_units); (case kq => rfl); (case ks => k_asm)); intro r9 led9 h9 tk9 F9 N9 p9; k_dflt ((obtain ⟨tl9, e9, f9, q9⟩ := p9); subst e9; subst q9)))
set_option maxHeartbeats 8000000 in
theorem hequals_spec {w : World} {ns ms : List Int} {a b : Addr} {sup led : List (Addr × Obj)} (hsup : ∀ p ∈ sup, p ∈ led) (hl : HistIs w sup a ns) (hl' : HistIs w sup b ms) (h8 : ns.length ≤ 100) (h9 : ms.length ≤ 100) :
    Spec w 82 [.ref a, .ref b] led 140 2600 (PurePost (fun r _ => r = .bool (decide (ns = ms))) sup led) := by
  unfold Spec
  k_fill
  intro dp un gd cn cs a' ccd cl outer A₀ base h₀ L m s loose mean mg mb Q E B F X N T hk hd hu hret
  obtain ⟨d, l, vs, k, h1, h2, h3, t1, t2, t3, u1, u3, most, gone, mid, hmid, N1, hs, a4⟩ := hist_news N hsup hl
  obtain ⟨d', l', vs', k', h1', h2', h3', t1', t2', t3', u1', u3', most', gone', mid', hmid', N2, hs', b4⟩ := hist_news N1 (fun p hp => hs p (hsup p hp)) hl'
  have hs2 : ∀ p ∈ led, p ∈ mid' := fun p hp => hs' p (hs p hp)
  subst hmid'
  subst hmid
  clear N N1 hs hs'
  refine wpAny_call ?_
  have hs3 : ∀ p ∈ sup, p ∈ _ := fun p hp => hs2 p (hsup p hp)
  k_dflt ktr_enter
  k_steps
  all_goals (try k_data)
  exact hret _ _ _ _ (by assumption) (news_appsub hs2 (by assumption)) ⟨_, rfl, fresh_appsub hs2 (by assumption), rfl⟩
end
end
/-- a goal that the walk leaves alone -/
def Halt (P : Prop) : Prop := P
theorem halt_call {prog : Program} {w : World} {A : Around} {Q E : Value → Shared → Prop} {s : Shared} (f : Addr) {args : List Value} (h : Halt (wpAny (model prog w) A (call (.ref f) args) Q E s)) : wpAny (model prog w) A (call (.ref f) args) Q E s := h
def DeckIs (w : World) (c d : Addr) (vs : List Value) (od : Obj) (at_ : Int) : Prop :=
  ∃ ns t, IntsAre vs ns ∧ ns.length ≤ 60 ∧ (∀ n ∈ ns, 0 ≤ n ∧ n < 1000000007) ∧ c ≠ d ∧ (d == sysModules) = false ∧ deckL w od c at_ t
theorem deck_start {w : World} {c d : Addr} {vs : List Value} {od : Obj} {ns : List Int} {t : Tok} (hi : IntsAre vs ((ns.take 60).map fun k => k.fmod 1000000007)) (hcd : d ≠ c) (hs : (d == sysModules) = false) (hD : deckL w od c 0 t) : DeckIs w c d vs od 0 := by
  refine ⟨_, t, hi, ?_, ?_, hcd.symm, hs, hD⟩
  · rw [List.length_map, List.length_take]; omega
  · intro n hn
    obtain ⟨k, _, rfl⟩ := List.mem_map.mp hn
    exact ⟨Int.fmod_nonneg_of_pos _ (by decide), Int.fmod_lt_of_pos _ (by decide)⟩
theorem draw_go {w : World} {c d : Addr} {vs : List Value} {od : Obj} {at_ below : Int} {tb : Tok} {rest : List (Addr × Obj)}
    {dp un : Nat} {gd : Option (List Code)} {cn : Str} {cs : Scope} {a : Addr} {ccd : Value} {cl : List (Str × Addr)} {outer : List Env} {A₀ : Around} {base h₀ : Heap} {L : Addr} {m : Str → Option Value} {s : Shared}
    {loose : List Str} {mean : ExcName → Option Value} {mg mb : Str → Option Value} {Q E : Value → Shared → Prop} (B : Below A₀ base outer h₀) (F : Fr h₀ L s.heap m) (X : (tops.heap_1 w.params).In h₀)
    {pq : Program} (T : Top pq loose mean mg mb h₀) (hk : cs.kind = .function) (hd : dp + 20 < recursionLimit) (hu : un + 400 < cLine) (hpq : pq = tops.view_1)
    (hDk : DeckIs w c d vs od at_) (N : News h₀ L s.heap ((c, LCg.lst vs) :: (d, od) :: rest)) (hoff : OwnOff rest [c, d]) (h0 : 0 ≤ at_) (h9 : at_ ≤ 100) (hb0 : 0 < below) (hb9 : below ≤ 9)
    (ret : ∀ k t od' h' tk', 0 ≤ k → k < below → DeckIs w c d vs od' (at_ + 1) → Fr h₀ L h' m → News h₀ L h' ((c, LCg.lst vs) :: (d, od') :: rest) → Q (.int k t) { s with heap := h', toks := tk' }) :
    wpAny (model PySem.Challenge.rw_np0274_01.row.prog w) (ktrTop dp un gd cn cs L a ccd cl outer) (call (.ref 272) [.ref d, .int below tb]) Q E s := by
  obtain ⟨ns, t, d1, d2, d3, d4, d5, d6⟩ := hDk
  refine spec_use (draw_spec d1 d2 h0 h9 hb0 hb9 d3 hoff d4 d5 d6) B F X N T hk hd hu hpq fun r led' h' tk' F' N' p => ?_
  obtain ⟨k, t', t'', od', rfl, k0, k1, hD', rfl⟩ := p
  exact ret k t' od' h' tk' k0 k1 ⟨ns, _, d1, d2, d3, d4, d5, hD'⟩ F' N'
theorem news_132 {h₀ h : Heap} {L : Addr} {x y z : Addr × Obj} {l : List (Addr × Obj)} (N : News h₀ L h (x :: y :: z :: l)) : News h₀ L h (x :: z :: y :: l) := fun p hp => N p (by
  simp only [List.mem_cons] at hp ⊢
  rcases hp with h | h | h | h <;> simp [h])
theorem off_one {x c d : Addr} {o : Obj} (h1 : x ≠ c) (h2 : x ≠ d) : OwnOff [(x, o)] [c, d] := by
  intro p hp b hb
  simp only [List.mem_cons, List.not_mem_nil, or_false] at hp hb
  subst hp
  rcases hb with rfl | rfl
  · exact h1
  · exact h2
theorem halt_iter {prog : Program} {w : World} {A : Around} {Q E : Value → Shared → Prop} {s : Shared} {r : Addr} (h : Halt (wpAny (model prog w) A (pyIter (.ref r)) Q E s)) : wpAny (model prog w) A (pyIter (.ref r)) Q E s := h
/-- the copy: none, or a history of its own -/
def MateIs (w : World) (fz mt : List (Addr × Obj)) (mv : Value) (ks : List Int) : Prop :=
  (mv = .none ∧ mt = [] ∧ ks = []) ∨
  ∃ b d l vs k h1 h2 h3 t1 t2 t3 u1 u3 most gone, mv = .ref b ∧ mt = [(l, W.listOf (List.toArray vs) k), (b, instObj 85 d), (d, histD h1 h2 h3 t1 t2 t3 u1 u3 most gone l)] ∧ OwnOff fz [d, l] ∧ LinesAll w fz vs ks
theorem offSub {x : List (Addr × Obj)} {l l' : List Addr} (h : OwnOff x l) (hs : ∀ b ∈ l', b ∈ l) : OwnOff x l' := fun p hp b hb => h p hp b (hs b hb)
theorem offApp {x y : List (Addr × Obj)} {l : List Addr} (h : OwnOff x l) (h' : OwnOff y l) : OwnOff (x ++ y) l := fun p hp => (List.mem_append.mp hp).elim (h p) (h' p)
theorem offCons {p : Addr × Obj} {x : List (Addr × Obj)} {l : List Addr} (h : ∀ b ∈ l, p.1 ≠ b) (h' : OwnOff x l) : OwnOff (p :: x) l := List.forall_mem_cons.mpr ⟨h, h'⟩
theorem MateIs.more {w : World} {fz mt tl led : List (Addr × Obj)} {mv : Value} {ks : List Int} (h : MateIs w fz mt mv ks) (hf : Fresh tl led) (hs : ∀ p ∈ mt, p ∈ led) : MateIs w (tl ++ fz) mt mv ks := by
  rcases h with h | ⟨b, d, l, vs, k, h1, h2, h3, t1, t2, t3, u1, u3, most, gone, rfl, rfl, ho, hl⟩
  · exact .inl h
  · refine .inr ⟨b, d, l, vs, k, h1, h2, h3, t1, t2, t3, u1, u3, most, gone, rfl, rfl, offApp (fun q hq x hx => ?_) ho, hl.mono fun p hp => List.mem_append_right _ hp⟩
    simp only [List.mem_cons, List.not_mem_nil, or_false] at hx
    rcases hx with rfl | rfl
    · exact (hf q hq _ (hs _ (.tail _ (.tail _ (.head _))))).symm
    · exact (hf q hq _ (hs _ (.head _))).symm
/-- what the frame's names hold -/
def MapIs (m : Str → Option Value) (d : Addr) (most : Int) (tm : Tok) (a lb : Addr) (mv : Value) (kb : Addr) : Prop :=
  m (Str.ofString "deck") = some (.ref d) ∧ m (Str.ofString "most") = some (.int most tm) ∧ m (Str.ofString "history") = some (.ref a) ∧ m (Str.ofString "lines") = some (.ref lb) ∧ m (Str.ofString "mate") = some mv ∧ m (Str.ofString "kept") = some (.ref kb)
theorem MapIs.eq {m : Str → Option Value} {d : Addr} {most : Int} {tm : Tok} {a lb : Addr} {mv : Value} {kb : Addr} (h : MapIs m d most tm a lb mv kb) :
    m = fun y => if y = Str.ofString "kept" then some (.ref kb) else if y = Str.ofString "mate" then some mv else if y = Str.ofString "lines" then some (.ref lb) else if y = Str.ofString "history" then some (.ref a) else if y = Str.ofString "most" then some (.int most tm) else if y = Str.ofString "deck" then some (.ref d) else m y := by
  obtain ⟨h1, h2, h3, h4, h5, h6⟩ := h
  funext y
  repeat' split
  all_goals first | rfl | (subst_vars; assumption)
/-- the parts lie apart from each other and from these addresses -/
def Parts (c d a hd hl : Addr) (od oh ol : Obj) (vsC : List Value) (mt fz : List (Addr × Obj)) (O : List Addr) : Prop :=
  OwnOff fz (c :: d :: hd :: hl :: O) ∧ OwnOff mt (c :: d :: hd :: hl :: O) ∧ OwnOff [(a, instObj 85 hd), (hd, oh), (hl, ol)] (c :: d :: O) ∧ OwnOff [(c, LCg.lst vsC), (d, od)] O
abbrev ledL (c d a hd hl : Addr) (od oh ol : Obj) (vsC : List Value) (mt fz : List (Addr × Obj)) : List (Addr × Obj) := (c, LCg.lst vsC) :: (d, od) :: (a, instObj 85 hd) :: (hd, oh) :: (hl, ol) :: (mt ++ fz)
/-- between two turns -/
def St (w : World) (i : Nat) (m : Str → Option Value) (nx : List (Addr × Obj)) : Prop :=
  ∃ c d a hd hl lb kb od vsC at_ most tm mv h1 h2 h3 t1 t2 t3 u1 u3 gone vs k ns ws kw ks wk kk mt fz,
    MapIs m d most tm a lb mv kb ∧ nx = ledL c d a hd hl od (histD h1 h2 h3 t1 t2 t3 u1 u3 most gone hl) (W.listOf (List.toArray vs) k) vsC mt fz ∧
    Parts c d a hd hl od (histD h1 h2 h3 t1 t2 t3 u1 u3 most gone hl) (W.listOf (List.toArray vs) k) vsC mt fz [] ∧
    DeckIs w c d vsC od at_ ∧ 0 ≤ at_ ∧ at_ ≤ 2 + 2 * (i : Int) ∧ 0 ≤ most ∧ most ≤ 4 ∧ (ns.length : Int) ≤ most ∧ LinesAll w fz vs ns ∧ (lb, W.listOf (List.toArray ws) kw) ∈ fz ∧ IntsAre ws ns ∧
    MateIs w fz mt mv ks ∧ ks.length ≤ 4 ∧ (kb, W.listOf (List.toArray wk) kk) ∈ fz ∧ IntsAre wk ks
theorem Parts.own {c d a hd hl : Addr} {od oh ol : Obj} {vsC : List Value} {mt fz own : List (Addr × Obj)} (h : Parts c d a hd hl od oh ol vsC mt fz []) (ho : TbOff own (ledL c d a hd hl od oh ol vsC mt fz)) : Parts c d a hd hl od oh ol vsC mt fz (own.map (·.1)) := by
  obtain ⟨p1, p2, p3, p4⟩ := h
  have key : ∀ q ∈ ledL c d a hd hl od oh ol vsC mt fz, ∀ b ∈ own.map (·.1), q.1 ≠ b := fun q hq b hb => by
    obtain ⟨p, hp, rfl⟩ := List.mem_map.mp hb
    exact (ho p hp q hq).symm
  refine ⟨fun q hq b hb => ?_, fun q hq b hb => ?_, fun q hq b hb => ?_, fun q hq b hb => ?_⟩
  · have e : b ∈ [c, d, hd, hl] ++ own.map (·.1) := by simpa using hb
    rcases List.mem_append.mp e with e | e
    · exact p1 q hq b e
    · exact key q (.tail _ (.tail _ (.tail _ (.tail _ (.tail _ (List.mem_append_right _ hq)))))) b e
  · have e : b ∈ [c, d, hd, hl] ++ own.map (·.1) := by simpa using hb
    rcases List.mem_append.mp e with e | e
    · exact p2 q hq b e
    · exact key q (.tail _ (.tail _ (.tail _ (.tail _ (.tail _ (List.mem_append_left _ hq)))))) b e
  · have e : b ∈ [c, d] ++ own.map (·.1) := by simpa using hb
    rcases List.mem_append.mp e with e | e
    · exact p3 q hq b e
    · refine key q ?_ b e
      simp only [List.mem_cons, List.not_mem_nil, or_false] at hq
      rcases hq with rfl | rfl | rfl
      · exact .tail _ (.tail _ (.head _))
      · exact .tail _ (.tail _ (.tail _ (.head _)))
      · exact .tail _ (.tail _ (.tail _ (.tail _ (.head _))))
  · refine key q ?_ b hb
    simp only [List.mem_cons, List.not_mem_nil, or_false] at hq
    rcases hq with rfl | rfl
    · exact .head _
    · exact .tail _ (.head _)
theorem Parts.back {c d a hd hl : Addr} {od oh ol : Obj} {vsC : List Value} {mt fz own : List (Addr × Obj)} (h : Parts c d a hd hl od oh ol vsC mt fz (own.map (·.1))) : Parts c d a hd hl od oh ol vsC mt fz [] ∧ TbOff own (ledL c d a hd hl od oh ol vsC mt fz) := by
  obtain ⟨p1, p2, p3, p4⟩ := h
  refine ⟨⟨offSub p1 ?_, offSub p2 ?_, offSub p3 ?_, fun _ _ b hb => nomatch hb⟩, fun p hp q hq => ?_⟩
  · intro b hb; simp only [List.mem_cons, List.not_mem_nil, or_false] at hb ⊢; rcases hb with h | h | h | h <;> simp [h]
  · intro b hb; simp only [List.mem_cons, List.not_mem_nil, or_false] at hb ⊢; rcases hb with h | h | h | h <;> simp [h]
  · intro b hb; simp only [List.mem_cons, List.not_mem_nil, or_false] at hb ⊢; rcases hb with h | h <;> simp [h]
  · have hb : p.1 ∈ own.map (·.1) := List.mem_map.mpr ⟨p, hp, rfl⟩
    have e : q ∈ [(c, LCg.lst vsC), (d, od)] ∨ q ∈ [(a, instObj 85 hd), (hd, oh), (hl, ol)] ∨ q ∈ mt ∨ q ∈ fz := by
      simp only [List.mem_cons, List.mem_append, List.not_mem_nil, or_false] at hq ⊢
      rcases hq with h | h | h | h | h | h | h <;> simp [h]
    rcases e with e | e | e | e
    · exact (p4 q e _ hb).symm
    · exact (p3 q e _ (.tail _ (.tail _ hb))).symm
    · exact (p2 q e _ (.tail _ (.tail _ (.tail _ (.tail _ hb))))).symm
    · exact (p1 q e _ (.tail _ (.tail _ (.tail _ (.tail _ hb))))).symm
theorem news_head {h₀ h : Heap} {L : Addr} {t lk ll hl a hd c d x : Addr × Obj} (N : News h₀ L h [t, lk, ll, hl, a, hd, c, d, x]) : News h₀ L h (c :: d :: [a, hd, hl, ll, lk]) := fun p hp => N p (by
  simp only [List.mem_cons, List.not_mem_nil, or_false] at hp ⊢
  rcases hp with h | h | h | h | h | h | h <;> simp [h])
theorem st_start {w : World} {m : Str → Option Value} {c d a hd hl ll lk : Addr} {od' : Obj} {vsC : List Value} {most : Int} {tm u3 : Tok} {h1 h2 h3 : Int} {t1 t2 t3 : Tok}
    (hm : MapIs m d most tm a ll .none lk) (hD : DeckIs w c d vsC od' (1 + 1)) (m0 : 0 ≤ most) (m4 : most < 5)
    (o : OwnOff [(a, instObj 85 hd), (hd, histD h1 h2 h3 t1 t2 t3 tm u3 most 0 hl), (hl, W.listOf #[] 0), (ll, W.listOf #[] 0), (lk, W.listOf #[] 0)] [c, d]) (n1 : ll ≠ hd) (n2 : ll ≠ hl) (n3 : lk ≠ hd) (n4 : lk ≠ hl) :
    St w 0 m [(c, LCg.lst vsC), (d, od'), (a, instObj 85 hd), (hd, histD h1 h2 h3 t1 t2 t3 tm u3 most 0 hl), (hl, W.listOf #[] 0), (ll, W.listOf #[] 0), (lk, W.listOf #[] 0)] := by
  refine ⟨c, d, a, hd, hl, ll, lk, od', vsC, 2, most, tm, .none, h1, h2, h3, t1, t2, t3, tm, u3, 0, [], 0, [], [], 0, [], [], 0, [], [(ll, W.listOf #[] 0), (lk, W.listOf #[] 0)], hm, rfl, ⟨?_, fun _ h => (nomatch h), ?_, fun _ _ _ h => nomatch h⟩, hD, by decide, by decide, m0, by omega, by simpa using m0, .nil, .head _, .nil, .inl ⟨rfl, rfl, rfl⟩, by decide, .tail _ (.head _), .nil⟩
  · intro p hp b hb
    simp only [List.mem_cons, List.not_mem_nil, or_false] at hp hb
    have k1 := o (ll, W.listOf #[] 0) (by simp)
    have k2 := o (lk, W.listOf #[] 0) (by simp)
    rcases hp with rfl | rfl <;> rcases hb with rfl | rfl | rfl | rfl
    · exact k1 _ (by simp)
    · exact k1 _ (by simp)
    · exact n1
    · exact n2
    · exact k2 _ (by simp)
    · exact k2 _ (by simp)
    · exact n3
    · exact n4
  · intro p hp b hb
    refine o p ?_ b hb
    simp only [List.mem_cons, List.not_mem_nil, or_false] at hp ⊢
    rcases hp with h | h | h <;> simp [h]
theorem off_nil {l : List Addr} : OwnOff [] l := fun _ h => nomatch h
theorem off_two {p : Addr × Obj} {x : List (Addr × Obj)} {c d : Addr} (h1 : p.1 ≠ c) (h2 : p.1 ≠ d) (h : OwnOff x [c, d]) : OwnOff (p :: x) [c, d] := offCons (by intro b hb; simp only [List.mem_cons, List.not_mem_nil, or_false] at hb; rcases hb with rfl | rfl <;> assumption) h
/-- a mark: the walk leaves the next if alone -/
def Mark : Prop := True
theorem halt_if {prog : Program} {w : World} {A : Around} {Q : Flow → Shared → Prop} {E : Value → Shared → Prop} {s : Shared} {test : Expr} {body orelse : List Stmt} {pos : Pos} {env : Env}
    (h : Halt (wpAny (model prog w) A (exec (.If test body orelse pos) env) Q E s)) : wpAny (model prog w) A (exec (.If test body orelse pos) env) Q E s := h
theorem turn_at {i n : Nat} {k : Int} (h : (rangeKs 0 n)[i]? = some k) : k = (i : Int) ∧ i < n := by
  have h1 := (List.getElem?_eq_some_iff.mp h).1
  rw [rangeKs_length] at h1
  refine ⟨?_, h1⟩
  have : (rangeKs 0 n)[i]? = some (0 + (i : Int)) := by simp [rangeKs, h1]
  rw [this] at h
  have := Option.some.inj h
  omega
/-- a turn's start: the ledger with the lines' list ahead, the rest a letter -/
theorem turn_news {h₀ h : Heap} {L c d a hd hl lb : Addr} {od oh ol olb : Obj} {vsC : List Value} {mt fz own : List (Addr × Obj)} (N : News h₀ L h (ledL c d a hd hl od oh ol vsC mt fz ++ own)) (hlb : (lb, olb) ∈ fz)
    (hP : Parts c d a hd hl od oh ol vsC mt fz (own.map (·.1))) :
    ∃ R, News h₀ L h ((c, LCg.lst vsC) :: (d, od) :: (a, instObj 85 hd) :: (hd, oh) :: (hl, ol) :: (lb, olb) :: R) ∧ (∀ p ∈ mt, p ∈ R) ∧ (∀ p ∈ fz, p ∈ R) ∧ (∀ p ∈ own, p ∈ R) ∧
      OwnOff ((a, instObj 85 hd) :: (hd, oh) :: (hl, ol) :: (lb, olb) :: R) [c, d] ∧ OwnOff ((c, LCg.lst vsC) :: (d, od) :: (lb, olb) :: R) [hd, hl] := by
  obtain ⟨p1, p2, p3, p4⟩ := hP
  have key1 : ∀ q ∈ (mt ++ fz) ++ own, q.1 ≠ c ∧ q.1 ≠ d ∧ q.1 ≠ hd ∧ q.1 ≠ hl := by
    intro q hq
    rcases List.mem_append.mp hq with hq | hq
    · rcases List.mem_append.mp hq with hq | hq
      · exact ⟨p2 q hq _ (.head _), p2 q hq _ (.tail _ (.head _)), p2 q hq _ (.tail _ (.tail _ (.head _))), p2 q hq _ (.tail _ (.tail _ (.tail _ (.head _))))⟩
      · exact ⟨p1 q hq _ (.head _), p1 q hq _ (.tail _ (.head _)), p1 q hq _ (.tail _ (.tail _ (.head _))), p1 q hq _ (.tail _ (.tail _ (.tail _ (.head _))))⟩
    · have hb : q.1 ∈ own.map (·.1) := List.mem_map.mpr ⟨q, hq, rfl⟩
      exact ⟨(p4 _ (.head _) _ hb).symm, (p4 _ (.tail _ (.head _)) _ hb).symm, (p3 _ (.tail _ (.head _)) _ (.tail _ (.tail _ hb))).symm, (p3 _ (.tail _ (.tail _ (.head _))) _ (.tail _ (.tail _ hb))).symm⟩
  refine ⟨(mt ++ fz) ++ own, fun p hp => N p ?_, fun p hp => by simp [hp], fun p hp => by simp [hp], fun p hp => by simp [hp], fun p hp b hb => ?_, fun p hp b hb => ?_⟩
  · simp only [List.mem_cons, List.mem_append] at hp ⊢
    rcases hp with h | h | h | h | h | h | (h | h) | h <;> simp [h, hlb]
  · have hl1 := key1 _ (List.mem_append_left own (List.mem_append_right mt hlb))
    simp only [List.mem_cons, List.not_mem_nil, or_false] at hp hb
    rcases hp with rfl | rfl | rfl | rfl | hp
    · exact p3 _ (.head _) _ (by rcases hb with rfl | rfl <;> simp)
    · exact p3 _ (.tail _ (.head _)) _ (by rcases hb with rfl | rfl <;> simp)
    · exact p3 _ (.tail _ (.tail _ (.head _))) _ (by rcases hb with rfl | rfl <;> simp)
    · rcases hb with rfl | rfl
      · exact hl1.1
      · exact hl1.2.1
    · rcases hb with rfl | rfl
      · exact (key1 p hp).1
      · exact (key1 p hp).2.1
  · have hl1 := key1 _ (List.mem_append_left own (List.mem_append_right mt hlb))
    simp only [List.mem_cons, List.not_mem_nil, or_false] at hp hb
    rcases hp with rfl | rfl | rfl | hp
    · rcases hb with rfl | rfl
      · exact (p3 _ (.tail _ (.head _)) _ (.head _)).symm
      · exact (p3 _ (.tail _ (.tail _ (.head _))) _ (.head _)).symm
    · rcases hb with rfl | rfl
      · exact (p3 _ (.tail _ (.head _)) _ (.tail _ (.head _))).symm
      · exact (p3 _ (.tail _ (.tail _ (.head _))) _ (.tail _ (.head _))).symm
    · rcases hb with rfl | rfl
      · exact hl1.2.2.1
      · exact hl1.2.2.2
    · rcases hb with rfl | rfl
      · exact (key1 p hp).2.2.1
      · exact (key1 p hp).2.2.2
/-- the end of a turn's way -/
def WayEnd (h₀ : Heap) (L : Addr) (J : (Str → Option Value) → List (Addr × Obj) → Prop) (own : List (Addr × Obj)) (s₁ : Shared) (f : Flow) (s' : Shared) : Prop := f = .next ∧ TbEnd h₀ L J own s₁ s'
theorem cut_turn {prog : Program} {w : World} {A : Around} {Q : Flow → Shared → Prop} {E : Value → Shared → Prop} {s : Shared} {t : Sem Flow} {h₀ : Heap} {L : Addr} {m : Str → Option Value} (J : (Str → Option Value) → List (Addr × Obj) → Prop) (own : List (Addr × Obj))
    (_F : Fr h₀ L s.heap m) (h1 : wpAny (model prog w) A t (WayEnd h₀ L J own s) E s) (h2 : ∀ s', TbEnd h₀ L J own s s' → Q .next s') : wpAny (model prog w) A t Q E s :=
  wpAny_mono h1 (fun f s' ⟨e, h⟩ => e ▸ h2 s' h) fun _ _ e => e
theorem inst_ne_dict {e d : Addr} {es : List DictEntry} {n : Nat} : instObj e d ≠ dictOf es n := fun h => by have := congrArg Obj.cls h; simp [instObj, dictOf] at this
theorem inst_ne_list {e d : Addr} {xs : Array Value} {n : Nat} : instObj e d ≠ W.listOf xs n := fun h => by have := congrArg Obj.cls h; simp [instObj, W.listOf] at this
theorem dict_ne_list {xs : Array Value} {n k : Nat} {es : List DictEntry} : dictOf es n ≠ W.listOf xs k := fun h => by have := congrArg Obj.cls h; simp [dictOf, W.listOf] at this
theorem hist_ne {h₀ h : Heap} {L a d l : Addr} {es : List DictEntry} {xs : Array Value} {n k : Nat} {led : List (Addr × Obj)} (N : News h₀ L h led) (h1 : (a, instObj 85 d) ∈ led) (h2 : (d, dictOf es n) ∈ led) (h3 : (l, W.listOf xs k) ∈ led) : a ≠ d ∧ a ≠ l ∧ d ≠ l :=
  ⟨ne_of_obj N h1 h2 inst_ne_dict, ne_of_obj N h1 h3 inst_ne_list, ne_of_obj N h2 h3 dict_ne_list⟩
theorem push_news {h₀ h : Heap} {L : Addr} {x y a d l z : Addr × Obj} {tl R : List (Addr × Obj)} (N : News h₀ L h (tl ++ (x :: y :: a :: d :: l :: z :: R))) : News h₀ L h (a :: d :: l :: (x :: y :: z :: (tl ++ R))) := fun p hp => N p (by
  simp only [List.mem_cons, List.mem_append] at hp ⊢
  rcases hp with h | h | h | h | h | h | h | h <;> simp [h])
theorem push_back {h₀ h : Heap} {L : Addr} {x y a d l z : Addr × Obj} {T : List (Addr × Obj)} (N : News h₀ L h (a :: d :: l :: (x :: y :: z :: T))) : News h₀ L h (x :: y :: a :: d :: l :: z :: T) := fun p hp => N p (by
  simp only [List.mem_cons] at hp ⊢
  rcases hp with h | h | h | h | h | h | h <;> simp [h])
theorem push_off {x y a d l z : Addr × Obj} {tl R : List (Addr × Obj)} (hf : Fresh tl (x :: y :: a :: d :: l :: z :: R)) (ho : OwnOff (x :: y :: z :: R) [d.1, l.1]) : OwnOff (x :: y :: z :: (tl ++ R)) [d.1, l.1] := by
  intro p hp b hb
  simp only [List.mem_cons, List.mem_append] at hp
  have key : p ∈ tl ∨ p ∈ x :: y :: z :: R := by
    simp only [List.mem_cons]
    rcases hp with h | h | h | h | h <;> simp [h]
  rcases key with q | q
  · simp only [List.mem_cons, List.not_mem_nil, or_false] at hb
    rcases hb with rfl | rfl
    · exact (hf p q _ (.tail _ (.tail _ (.tail _ (.head _))))).symm
    · exact (hf p q _ (.tail _ (.tail _ (.tail _ (.tail _ (.head _)))))).symm
  · exact ho p q b hb
theorem lines_split {w : World} {led : List (Addr × Obj)} {vs vs' : List Value} {ns : List Int} {b : Addr} {n : Int} {r : Value} (h : LinesAll w led vs ns) (l : LineIs w led b n) (e : vs ++ [.ref b] = r :: vs') :
    ∃ q n0 ns', r = .ref q ∧ ns ++ [n] = n0 :: ns' ∧ LineIs w led q n0 ∧ LinesAll w led vs' ns' := by
  have h1 : LinesAll w led (r :: vs') (ns ++ [n]) := e ▸ h.append (.cons l .nil)
  generalize ns ++ [n] = ms at h1
  cases h1 with
  | cons a b => exact ⟨_, _, _, rfl, rfl, a, b⟩
/-- what holds of the parts in a turn -/
def Bun (w : World) (c d a hd hl : Addr) (od oh ol : Obj) (vsC : List Value) (mt fz own R : List (Addr × Obj)) (mv : Value) (ks : List Int) : Prop :=
  Parts c d a hd hl od oh ol vsC mt fz (own.map (·.1)) ∧ MateIs w fz mt mv ks ∧ (∀ p ∈ mt, p ∈ R) ∧ (∀ p ∈ fz, p ∈ R) ∧ ∀ p ∈ own, p ∈ R
theorem Bun.objs {w : World} {c d a hd hl : Addr} {od oh ol : Obj} {vsC : List Value} {mt fz own R : List (Addr × Obj)} {mv : Value} {ks : List Int} (b : Bun w c d a hd hl od oh ol vsC mt fz own R mv ks) (od' oh' ol' : Obj) : Bun w c d a hd hl od' oh' ol' vsC mt fz own R mv ks := by
  obtain ⟨⟨p1, p2, p3, p4⟩, b2⟩ := b
  refine ⟨⟨p1, p2, fun p hp => ?_, fun p hp => ?_⟩, b2⟩
  · simp only [List.mem_cons, List.not_mem_nil, or_false] at hp
    rcases hp with rfl | rfl | rfl
    · exact p3 _ (.head _)
    · exact p3 (hd, oh) (.tail _ (.head _))
    · exact p3 (hl, ol) (.tail _ (.tail _ (.head _)))
  · simp only [List.mem_cons, List.not_mem_nil, or_false] at hp
    rcases hp with rfl | rfl
    · exact p4 _ (.head _)
    · exact p4 (d, od) (.tail _ (.head _))
theorem Bun.grow {w : World} {c d a hd hl : Addr} {od oh ol : Obj} {vsC : List Value} {mt fz own R tl : List (Addr × Obj)} {z : Addr × Obj} {mv : Value} {ks : List Int} (b : Bun w c d a hd hl od oh ol vsC mt fz own R mv ks)
    (hf : Fresh tl ((c, LCg.lst vsC) :: (d, od) :: (a, instObj 85 hd) :: (hd, oh) :: (hl, ol) :: z :: R)) : Bun w c d a hd hl od oh ol vsC mt (tl ++ fz) own (tl ++ R) mv ks := by
  obtain ⟨⟨p1, p2, p3, p4⟩, b2, b3, b4, b5⟩ := b
  refine ⟨⟨offApp (fun q hq x hx => ?_) p1, p2, p3, p4⟩, b2.more hf fun p hp => .tail _ (.tail _ (.tail _ (.tail _ (.tail _ (.tail _ (b3 p hp)))))), fun p hp => List.mem_append_right _ (b3 p hp), fun p hp => ?_, fun p hp => List.mem_append_right _ (b5 p hp)⟩
  · simp only [List.mem_cons, List.mem_map] at hx
    rcases hx with rfl | rfl | rfl | rfl | ⟨p, hp, rfl⟩
    · exact (hf q hq _ (.head _)).symm
    · exact (hf q hq _ (.tail _ (.head _))).symm
    · exact (hf q hq _ (.tail _ (.tail _ (.tail _ (.head _))))).symm
    · exact (hf q hq _ (.tail _ (.tail _ (.tail _ (.tail _ (.head _)))))).symm
    · exact (hf q hq _ (.tail _ (.tail _ (.tail _ (.tail _ (.tail _ (.tail _ (b5 p hp)))))))).symm
  · rcases List.mem_append.mp hp with h | h
    · exact List.mem_append_left _ h
    · exact List.mem_append_right _ (b4 p h)
/-- a turn's way ends -/
theorem way_end {w : World} {i : Nat} {h₀ h' : Heap} {L : Addr} {m' : Str → Option Value} {s : Shared} {tk' : Nat} {c d a hd hl lb kb : Addr} {od : Obj} {vsC vs ws wk : List Value} {at_ most gone h1 h2 h3 : Int} {tm t1 t2 t3 u1 u3 : Tok} {mv : Value} {k kw kk : Nat} {ns ks : List Int} {z : Addr × Obj}
    {mt fz own R tl Lc : List (Addr × Obj)} (F : Fr h₀ L h' m') (N : News h₀ L h' Lc) (hm : MapIs m' d most tm a lb mv kb)
    (b : Bun w c d a hd hl od (histD h1 h2 h3 t1 t2 t3 u1 u3 most gone hl) (W.listOf (List.toArray vs) k) vsC mt fz own R mv ks)
    (hf : Fresh tl ((c, LCg.lst vsC) :: (d, od) :: (a, instObj 85 hd) :: (hd, histD h1 h2 h3 t1 t2 t3 u1 u3 most gone hl) :: (hl, W.listOf (List.toArray vs) k) :: z :: R))
    (hs : ∀ p ∈ (c, LCg.lst vsC) :: (d, od) :: (a, instObj 85 hd) :: (hd, histD h1 h2 h3 t1 t2 t3 u1 u3 most gone hl) :: (hl, W.listOf (List.toArray vs) k) :: z :: R, p ∈ Lc) (ht : ∀ p ∈ tl, p ∈ Lc)
    (hD : DeckIs w c d vsC od at_) (c0 : 0 ≤ at_) (c9 : at_ ≤ 4 + 2 * (i : Int)) (m0 : 0 ≤ most) (m4 : most ≤ 4) (hl4 : (ns.length : Int) ≤ most) (hla : LinesAll w fz vs ns) (hlb : (lb, W.listOf (List.toArray ws) kw) ∈ tl ++ fz) (hiw : IntsAre ws ns)
    (hk4 : ks.length ≤ 4) (hkb : (kb, W.listOf (List.toArray wk) kk) ∈ tl ++ fz) (hik : IntsAre wk ks) : WayEnd h₀ L (St w (i + 1)) own s .next { s with heap := h', toks := tk' } := by
  obtain ⟨hP, hM, b3, b4, b5⟩ := b.grow hf
  obtain ⟨hP, hoff⟩ := hP.back
  refine ⟨rfl, h', tk', m', Lc, ledL c d a hd hl od (histD h1 h2 h3 t1 t2 t3 u1 u3 most gone hl) (W.listOf (List.toArray vs) k) vsC mt (tl ++ fz), rfl, F, N, fun p hp => ?_, fun p hp => hs p ?_, hoff, ?_⟩
  · have key : p ∈ tl ∨ p ∈ (c, LCg.lst vsC) :: (d, od) :: (a, instObj 85 hd) :: (hd, histD h1 h2 h3 t1 t2 t3 u1 u3 most gone hl) :: (hl, W.listOf (List.toArray vs) k) :: z :: R := by
      obtain ⟨_, _, c3, c4, _⟩ := b
      simp only [List.mem_cons, List.mem_append] at hp ⊢
      rcases hp with h | h | h | h | h | h | h | h
      · simp [h]
      · simp [h]
      · simp [h]
      · simp [h]
      · simp [h]
      · simp [c3 p h]
      · simp [h]
      · simp [c4 p h]
    exact key.elim (ht p) (hs p)
  · exact .tail _ (.tail _ (.tail _ (.tail _ (.tail _ (.tail _ (b.2.2.2.2 p hp))))))
  · exact ⟨c, d, a, hd, hl, lb, kb, od, vsC, at_, most, tm, mv, h1, h2, h3, t1, t2, t3, u1, u3, gone, vs, k, ns, ws, kw, ks, wk, kk, mt, tl ++ fz, hm, rfl, hP, hD, c0, by push_cast; omega, m0, m4, hl4, hla.mono fun p hp => List.mem_append_right _ hp, hlb, hiw, hM, hk4, hkb, hik⟩
theorem fresh_one {D : Addr} {o : Obj} {led : List (Addr × Obj)} (h : ∀ p ∈ led, p.1 ≠ D) : Fresh [(D, o)] led := List.forall_mem_cons.mpr ⟨h, List.forall_mem_nil _⟩
theorem sub_at {S T : List (Addr × Obj)} {p : Addr × Obj} (hp : p ∈ S) (h : ∀ q ∈ S, q ∈ T) : p ∈ T := h p hp
theorem off_obj {x : Addr × Obj} {d : Addr} {o o' : Obj} {l : List (Addr × Obj)} {A : List Addr} (h : OwnOff (x :: (d, o) :: l) A) : OwnOff (x :: (d, o') :: l) A := offCons (h x (.head _)) (offCons (h (d, o) (.tail _ (.head _))) fun p hp => h p (.tail _ (.tail _ hp)))
section
variable {w : World} {dp un : Nat} {gd : Option (List Code)} {cn : Str} {cs : Scope} {a' : Addr} {ccd : Value} {cl : List (Str × Addr)} {outer : List Env} {A₀ : Around} {base h₀ : Heap} {L : Addr} {m : Str → Option Value} {s : Shared}
    {loose : List Str} {mean : ExcName → Option Value} {mg mb : Str → Option Value} {Q E : Value → Shared → Prop}
theorem push_go {c d a hd' hl lb b : Addr} {od olb : Obj} {vsC : List Value} {h1 h2 h3 : Int} {t1 t2 t3 u1 u3 : Tok} {most gone n : Int} {vs : List Value} {ns ks : List Int} {mv : Value} {k : Nat} {tl R fz mt own : List (Addr × Obj)} (B : Below A₀ base outer h₀) (F : Fr h₀ L s.heap m) (X : (tops.heap_1 w.params).In h₀)
    {pq : Program} (T : Top pq loose mean mg mb h₀) (hk : cs.kind = .function) (hd : dp + 20 < recursionLimit) (hu : un + 400 < cLine) (hpq : pq = tops.view_1)
    (N : News h₀ L s.heap (tl ++ ((c, LCg.lst vsC) :: (d, od) :: (a, instObj 85 hd') :: (hd', histD h1 h2 h3 t1 t2 t3 u1 u3 most gone hl) :: (hl, W.listOf (List.toArray vs) k) :: (lb, olb) :: R))) (hf : Fresh tl ((c, LCg.lst vsC) :: (d, od) :: (a, instObj 85 hd') :: (hd', histD h1 h2 h3 t1 t2 t3 u1 u3 most gone hl) :: (hl, W.listOf (List.toArray vs) k) :: (lb, olb) :: R))
    (ho : OwnOff ((c, LCg.lst vsC) :: (d, od) :: (lb, olb) :: R) [hd', hl]) (hn : LineIs w tl b n) (hla : LinesAll w fz vs ns) (h9 : ns.length ≤ 9) (hB : Bun w c d a hd' hl od (histD h1 h2 h3 t1 t2 t3 u1 u3 most gone hl) (W.listOf (List.toArray vs) k) vsC mt fz own R mv ks)
    (ret1 : (ns.length : Int) + 1 ≤ most → ∀ fz2 R2 vs' h1 h2 h3 t1 t2 t3 u1 u3 gone k h' tk', (∀ p ∈ fz, p ∈ fz2) → Bun w c d a hd' hl od (histD h1 h2 h3 t1 t2 t3 u1 u3 most gone hl) (W.listOf (List.toArray vs') k) vsC mt fz2 own R2 mv ks → LinesAll w fz2 vs' (ns ++ [n]) → Fr h₀ L h' m →
      News h₀ L h' ((c, LCg.lst vsC) :: (d, od) :: (a, instObj 85 hd') :: (hd', histD h1 h2 h3 t1 t2 t3 u1 u3 most gone hl) :: (hl, W.listOf (List.toArray vs') k) :: (lb, olb) :: R2) → Q .none { s with heap := h', toks := tk' })
    (ret2 : ¬ (ns.length : Int) + 1 ≤ most → ∀ fz2 R2 q n0 ns' vs' h1 h2 h3 t1 t2 t3 u1 u3 gone k h' tk', (∀ p ∈ fz, p ∈ fz2) → Bun w c d a hd' hl od (histD h1 h2 h3 t1 t2 t3 u1 u3 most gone hl) (W.listOf (List.toArray vs') k) vsC mt fz2 own R2 mv ks → ns ++ [n] = n0 :: ns' → LineIs w fz2 q n0 → LinesAll w fz2 vs' ns' → Fr h₀ L h' m →
      News h₀ L h' ((c, LCg.lst vsC) :: (d, od) :: (a, instObj 85 hd') :: (hd', histD h1 h2 h3 t1 t2 t3 u1 u3 most gone hl) :: (hl, W.listOf (List.toArray vs') k) :: (lb, olb) :: R2) → Q (.ref q) { s with heap := h', toks := tk' }) :
    wpAny (model PySem.Challenge.rw_np0274_01.row.prog w) (ktrTop dp un gd cn cs L a' ccd cl outer) (call (.ref 49) [.ref a, .ref b]) Q E s := by
  have N' := push_news N
  obtain ⟨n1, n2, n3⟩ := hist_ne N' (.head _) (.tail _ (.head _)) (.tail _ (.tail _ (.head _)))
  have hvl := hla.length
  have hla' : LinesAll w (tl ++ fz) vs ns := hla.mono fun p hp => List.mem_append_right _ hp
  have hn' : LineIs w (tl ++ fz) b n := hn.mono fun p hp => List.mem_append_left _ hp
  have hs : ∀ p ∈ fz, p ∈ tl ++ fz := fun p hp => List.mem_append_right _ hp
  refine spec_use (push_spec (by omega) (push_off hf ho) n1 n2 n3) B F X N' T hk hd hu hpq fun r led' h' tk' F' N' p => ?_
  obtain ⟨vs', hl', ⟨h1, h2, h3, t1, t2, t3, u1, u3, gone, k, rfl⟩, rfl, p | p⟩ := p
  · obtain ⟨hc, rfl, rfl⟩ := p
    rw [hvl] at hc
    exact ret1 hc _ _ _ _ _ _ _ _ _ _ _ _ _ _ _ hs ((hB.grow hf).objs _ _ _) (hla'.append (.cons hn' .nil)) F' (push_back N')
  · obtain ⟨hc, e⟩ := p
    rw [hvl] at hc
    obtain ⟨q, n0, ns', rfl, e2, l1, l2⟩ := lines_split hla' hn' e
    exact ret2 hc _ _ _ _ _ _ _ _ _ _ _ _ _ _ _ _ _ _ hs ((hB.grow hf).objs _ _ _) e2 l1 l2 F' (push_back N')
theorem pop_news {h₀ h : Heap} {L : Addr} {x y a d l : Addr × Obj} {R : List (Addr × Obj)} (N : News h₀ L h (x :: y :: a :: d :: l :: R)) : News h₀ L h (a :: d :: l :: (x :: y :: R)) := fun p hp => N p (by
  simp only [List.mem_cons] at hp ⊢
  rcases hp with h | h | h | h | h | h <;> simp [h])
theorem pop_back {h₀ h : Heap} {L : Addr} {x y a d l : Addr × Obj} {R : List (Addr × Obj)} (N : News h₀ L h (a :: d :: l :: (x :: y :: R))) : News h₀ L h (x :: y :: a :: d :: l :: R) := fun p hp => N p (by
  simp only [List.mem_cons] at hp ⊢
  rcases hp with h | h | h | h | h | h <;> simp [h])
theorem lines_snoc {w : World} {led : List (Addr × Obj)} {vs : List Value} {ns : List Int} {r : Value} (h : LinesAll w led (vs ++ [r]) ns) : ∃ q n ns', r = .ref q ∧ ns = ns' ++ [n] ∧ LineIs w led q n ∧ LinesAll w led vs ns' := by
  generalize e : vs ++ [r] = us at h
  induction h generalizing vs with
  | nil => simp at e
  | cons a b ih =>
    cases vs with
    | nil =>
      simp only [List.nil_append, List.cons.injEq] at e
      obtain ⟨rfl, rfl⟩ := e
      cases b
      exact ⟨_, _, [], rfl, rfl, a, .nil⟩
    | cons v vs =>
      simp only [List.cons_append, List.cons.injEq] at e
      obtain ⟨rfl, e⟩ := e
      obtain ⟨q, n, ns', rfl, rfl, l1, l2⟩ := ih e
      exact ⟨q, n, _ :: ns', rfl, rfl, l1, .cons a l2⟩
theorem pop_go {c d a hd' hl : Addr} {od : Obj} {vsC : List Value} {h1 h2 h3 : Int} {t1 t2 t3 u1 u3 : Tok} {most gone : Int} {vs : List Value} {ns ks : List Int} {mv : Value} {k : Nat} {z : Addr × Obj} {R fz mt own : List (Addr × Obj)} (B : Below A₀ base outer h₀) (F : Fr h₀ L s.heap m) (X : (tops.heap_1 w.params).In h₀)
    {pq : Program} (T : Top pq loose mean mg mb h₀) (hk : cs.kind = .function) (hd : dp + 20 < recursionLimit) (hu : un + 400 < cLine) (hpq : pq = tops.view_1)
    (N : News h₀ L s.heap ((c, LCg.lst vsC) :: (d, od) :: (a, instObj 85 hd') :: (hd', histD h1 h2 h3 t1 t2 t3 u1 u3 most gone hl) :: (hl, W.listOf (List.toArray vs) k) :: z :: R))
    (ho : OwnOff ((c, LCg.lst vsC) :: (d, od) :: z :: R) [hd', hl]) (hla : LinesAll w fz vs ns) (h9 : ns.length ≤ 9) (hB : Bun w c d a hd' hl od (histD h1 h2 h3 t1 t2 t3 u1 u3 most gone hl) (W.listOf (List.toArray vs) k) vsC mt fz own R mv ks)
    (ret1 : ns = [] → ∀ h1 h2 h3 t1 t2 t3 u1 u3 gone k h' tk', Bun w c d a hd' hl od (histD h1 h2 h3 t1 t2 t3 u1 u3 most gone hl) (W.listOf (List.toArray []) k) vsC mt fz own R mv ks → Fr h₀ L h' m →
      News h₀ L h' ((c, LCg.lst vsC) :: (d, od) :: (a, instObj 85 hd') :: (hd', histD h1 h2 h3 t1 t2 t3 u1 u3 most gone hl) :: (hl, W.listOf (List.toArray []) k) :: z :: R) → Q .none { s with heap := h', toks := tk' })
    (ret2 : ∀ q n ns' vs' h1 h2 h3 t1 t2 t3 u1 u3 gone k h' tk', ns = ns' ++ [n] → Bun w c d a hd' hl od (histD h1 h2 h3 t1 t2 t3 u1 u3 most gone hl) (W.listOf (List.toArray vs') k) vsC mt fz own R mv ks → LineIs w fz q n → LinesAll w fz vs' ns' → Fr h₀ L h' m →
      News h₀ L h' ((c, LCg.lst vsC) :: (d, od) :: (a, instObj 85 hd') :: (hd', histD h1 h2 h3 t1 t2 t3 u1 u3 most gone hl) :: (hl, W.listOf (List.toArray vs') k) :: z :: R) → Q (.ref q) { s with heap := h', toks := tk' }) :
    wpAny (model PySem.Challenge.rw_np0274_01.row.prog w) (ktrTop dp un gd cn cs L a' ccd cl outer) (call (.ref 56) [.ref a]) Q E s := by
  have N1 := pop_news N
  obtain ⟨n1, n2, n3⟩ := hist_ne N1 (.head _) (.tail _ (.head _)) (.tail _ (.tail _ (.head _)))
  have hvl := hla.length
  refine spec_use (pop_spec (by omega) hla ho n1 n2 n3) B F X N1 T hk hd hu hpq fun r led' h' tk' F' N' p => ?_
  obtain ⟨vs', hl', ⟨h1, h2, h3, t1, t2, t3, u1, u3, gone, k, rfl⟩, rfl, p | p⟩ := p
  · obtain ⟨rfl, rfl, rfl⟩ := p
    cases hla
    exact ret1 rfl _ _ _ _ _ _ _ _ _ _ _ _ (hB.objs _ _ _) F' (pop_back N')
  · subst p
    obtain ⟨q, n, ns', rfl, e2, l1, l2⟩ := lines_snoc hla
    exact ret2 _ _ _ _ _ _ _ _ _ _ _ _ _ _ _ _ e2 (hB.objs _ _ _) l1 l2 F' (pop_back N')
end
theorem fresh_lt {D : Addr} {o : Obj} {led : List (Addr × Obj)} (h : AllLt D led) : Fresh [(D, o)] led := fresh_one fun p hp => Nat.ne_of_lt (tb_ltOf h p hp)
theorem way_end1 {w : World} {i : Nat} {h₀ h' : Heap} {L : Addr} {m' : Str → Option Value} {s : Shared} {tk' : Nat} {c d a hd hl lb kb : Addr} {od : Obj} {vsC vs ws wk : List Value} {at_ most gone h1 h2 h3 : Int} {tm t1 t2 t3 u1 u3 : Tok} {mv : Value} {k kw kk : Nat} {ns ks : List Int} {z : Addr × Obj}
    {mt fz own R Lc : List (Addr × Obj)} (F : Fr h₀ L h' m') (N : News h₀ L h' ((lb, W.listOf (List.toArray ws) kw) :: Lc)) (hm : MapIs m' d most tm a lb mv kb)
    (b : Bun w c d a hd hl od (histD h1 h2 h3 t1 t2 t3 u1 u3 most gone hl) (W.listOf (List.toArray vs) k) vsC mt fz own R mv ks)
    (hf : AllLt lb ((c, LCg.lst vsC) :: (d, od) :: (a, instObj 85 hd) :: (hd, histD h1 h2 h3 t1 t2 t3 u1 u3 most gone hl) :: (hl, W.listOf (List.toArray vs) k) :: z :: R))
    (hs : ∀ p ∈ (c, LCg.lst vsC) :: (d, od) :: (a, instObj 85 hd) :: (hd, histD h1 h2 h3 t1 t2 t3 u1 u3 most gone hl) :: (hl, W.listOf (List.toArray vs) k) :: z :: R, p ∈ Lc)
    (hD : DeckIs w c d vsC od at_) (c0 : 0 ≤ at_) (c9 : at_ ≤ 4 + 2 * (i : Int)) (m0 : 0 ≤ most) (m4 : most ≤ 4) (hl4 : (ns.length : Int) ≤ most) (hla : LinesAll w fz vs ns) (hiw : IntsAre ws ns)
    (hk4 : ks.length ≤ 4) (hkb : (kb, W.listOf (List.toArray wk) kk) ∈ fz) (hik : IntsAre wk ks) : WayEnd h₀ L (St w (i + 1)) own s .next { s with heap := h', toks := tk' } :=
  way_end (tl := [(lb, W.listOf (List.toArray ws) kw)]) F N hm b (fresh_lt hf) (fun p hp => .tail _ (hs p hp)) (List.forall_mem_singleton.mpr (.head _)) hD c0 c9 m0 m4 hl4 hla (.head _) hiw hk4 (.tail _ hkb) hik
section
variable {prog : Program} {w : World} {A : Around} {E : Value → Shared → Prop} {s : Shared} {h₀ : Heap} {L : Addr} {m : Str → Option Value} {news : List (Addr × Obj)}
theorem len_snoc {l : Addr} {vs : List Value} {ns : List Int} {a : Int} {k : Nat} {Q : Value → Shared → Prop} (N : News h₀ L s.heap news) (hm : (l, W.listOf (List.toArray vs) k) ∈ news) (hi : IntsAre vs (ns ++ [a])) (hz : (ns.length : Int) ≤ 100)
    (h : ∀ t tk, Q (.int ((ns.length : Int) + 1) t) { s with toks := tk }) : wpAny (model prog w) A (call (.builtin "len") [.ref l]) Q E s := by
  have e : vs.length = ns.length + 1 := by rw [hi.length]; simp
  refine len_made (n := ns.length + 1) N hm e (by omega) ?_
  have e2 : ((ns.length + 1 : Nat) : Int) = (ns.length : Int) + 1 := by omega
  rw [e2]
  exact h _ _
theorem item_head {value slice : Expr} {l : Addr} {vs : List Value} {ns ns' : List Int} {n0 : Int} {k : Nat} {u : Tok} {Q : Value → Shared → Prop} (N : News h₀ L s.heap news) (hm : (l, W.listOf (List.toArray vs) k) ∈ news) (hi : IntsAre vs ns) (he : ns = n0 :: ns')
    (h : ∀ t, Q (.int n0 t) s)
    (hs : subscripted slice false (.ref l) (.int 0 u) = operate [.ref l, .int 0 u] (getItem (.ref l) (.int 0 u)) := by with_unfolding_all rfl) :
    wpAny (model prog w) A (subscriptTail value slice (.ref l) (.int 0 u)) Q E s := by
  obtain ⟨t, ht⟩ := hi.get 0 n0 (by rw [he]; rfl)
  exact item_made (i := 0) (items := vs) N hm (by decide) (by decide) ht (h t) hs
theorem told_ne {a b : Value} {x : PyData} {sup sup' tl tl' : List (Addr × Obj)} {Q : Value → Shared → Prop} (F : Fr h₀ L s.heap m) (X : (tops.heap_1 w.params).In h₀) (N : News h₀ L s.heap news) (ra : ReadsIn w (tl ++ sup) a x) (rb : ReadsIn w (tl' ++ sup') b x)
    (h1 : ∀ p ∈ tl, p ∈ news) (h2 : ∀ p ∈ sup, p ∈ news) (h3 : ∀ p ∈ tl', p ∈ news) (h4 : ∀ p ∈ sup', p ∈ news)
    (hx : SeqAt.shaped x = true) (he : PyData.eqv x x = true) (hu : A.units + 64 < cLine) (h : Q (.bool false) s) : wpAny (model prog w) A (compareOp .NotEq a b) Q E s := by
  refine ne_reads F X N (ra.mono fun p hp => (List.mem_append.mp hp).elim (h1 p) (h2 p)) (rb.mono fun p hp => (List.mem_append.mp hp).elim (h3 p) (h4 p)) hx hx hu ?_
  rw [he]
  exact h
end
theorem ints_drop1 {ws : List Value} {ms ns : List Int} {n : Int} (h : IntsAre ws (List.drop 1 ms)) (e : ms = n :: ns) : IntsAre ws ns := by rw [e] at h; exact h
theorem len_tail {ns ns' : List Int} {k n : Int} (e : ns ++ [k] = n :: ns') : ns'.length = ns.length := by
  have := congrArg List.length e
  simp only [List.length_append, List.length_cons, List.length_nil] at this
  omega
theorem ints_lay : ∀ ns : List Int, PyData.canLayAll0 (ns.map PyData.int) = true ∧ PyData.depthAll (ns.map PyData.int) ≤ 4
  | [] => by simp [PyData.canLayAll0, PyData.depthAll]
  | n :: ns => by
    have b := ints_lay ns
    simp only [List.map_cons, PyData.canLayAll0, PyData.depthAll, PyData.canLay0, PyData.depth, b.1, Bool.and_self, true_and]
    omega
theorem ints_shaped (ns : List Int) : SeqAt.shaped (.list (ns.map PyData.int)) = true := by
  have a := ints_lay ns
  unfold SeqAt.shaped
  simp only [PyData.canLay0, PyData.depth, a.1, Bool.true_and]
  exact decide_eq_true (by have := a.2; omega)
theorem ints_eqv : ∀ ns ms : List Int, PyData.eqvAll (ns.map PyData.int) (ms.map PyData.int) = decide (ns = ms)
  | [], [] => by simp [PyData.eqvAll]
  | [], m :: ms => by simp [PyData.eqvAll]
  | n :: ns, [] => by simp [PyData.eqvAll]
  | n :: ns, m :: ms => by
    simp only [List.map_cons, PyData.eqvAll, PyData.eqv, ints_eqv ns ms, List.cons.injEq]
    by_cases h1 : n = m <;> by_cases h2 : ns = ms <;> simp [h1, h2]
theorem ints_reads {w : World} {led : List (Addr × Obj)} {vs : List Value} {ns : List Int} (h : IntsAre vs ns) : ReadsInAll w led vs (ns.map PyData.int) := by
  induction ns generalizing vs with
  | nil =>
    have : vs = [] := List.length_eq_zero_iff.mp h.length
    subst this
    exact .nil
  | cons n ns ih =>
    cases vs with
    | nil => have := h.length; simp at this
    | cons v vs =>
      obtain ⟨t, ht⟩ := h.get 0 n rfl
      simp only [List.getElem?_cons_zero, Option.some.injEq] at ht
      subst ht
      exact .cons (.int _ _) (ih (by cases h; assumption))
section
variable {prog : Program} {w : World} {A : Around} {E : Value → Shared → Prop} {s : Shared} {h₀ : Heap} {L : Addr} {m : Str → Option Value} {news : List (Addr × Obj)}
theorem ints_ne {l1 l2 : Addr} {vs ws : List Value} {ns ms : List Int} {k1 k2 : Nat} {Q : Value → Shared → Prop} (F : Fr h₀ L s.heap m) (X : (tops.heap_1 w.params).In h₀) (N : News h₀ L s.heap news) (m1 : (l1, W.listOf (List.toArray vs) k1) ∈ news) (m2 : (l2, W.listOf (List.toArray ws) k2) ∈ news)
    (i1 : IntsAre vs ns) (i2 : IntsAre ws ms) (hu : A.units + 64 < cLine) (h : Q (.bool (!decide (ns = ms))) s) : wpAny (model prog w) A (compareOp .NotEq (.ref l1) (.ref l2)) Q E s := by
  refine ne_reads F X N (.list m1 (ints_reads i1)) (.list m2 (ints_reads i2)) (ints_shaped _) (ints_shaped _) hu ?_
  simp only [PyData.eqv, ints_eqv]
  exact h
theorem ints_ne_nil {l1 l2 : Addr} {vs : List Value} {ns ns' : List Int} {n : Int} {k1 k2 : Nat} {Q : Value → Shared → Prop} (F : Fr h₀ L s.heap m) (X : (tops.heap_1 w.params).In h₀) (N : News h₀ L s.heap news) (m1 : (l1, W.listOf (List.toArray vs) k1) ∈ news) (m2 : (l2, W.listOf #[] k2) ∈ news)
    (i1 : IntsAre vs ns) (he : ns = ns' ++ [n]) (hu : A.units + 64 < cLine) (h : Q (.bool true) s) : wpAny (model prog w) A (compareOp .NotEq (.ref l1) (.ref l2)) Q E s := by
  refine ints_ne (ws := []) (ms := []) F X N m1 m2 i1 .nil hu ?_
  have e : ns ≠ [] := by rw [he]; simp
  rw [decide_eq_false e]
  exact h
theorem item_last {value slice : Expr} {l : Addr} {vs : List Value} {ns ns' : List Int} {n0 : Int} {k : Nat} {u : Tok} {Q : Value → Shared → Prop} (N : News h₀ L s.heap news) (hm : (l, W.listOf (List.toArray vs) k) ∈ news) (hi : IntsAre vs ns) (he : ns = ns' ++ [n0])
    (h : ∀ t, Q (.int n0 t) s) (hz : ns.length ≤ 100)
    (hs : subscripted slice false (.ref l) (.int (-1) u) = operate [.ref l, .int (-1) u] (getItem (.ref l) (.int (-1) u)) := by with_unfolding_all rfl) :
    wpAny (model prog w) A (subscriptTail value slice (.ref l) (.int (-1) u)) Q E s := by
  obtain ⟨t, ht⟩ := hi.get ns'.length n0 (by rw [he]; simp)
  have hvl : vs.length = ns'.length + 1 := by rw [hi.length, he]; simp
  have hl : s.heap.IsList l vs.toArray := ⟨_, (N _ hm).1, rfl, _, rfl⟩
  refine kde_neg hl (by decide) (by decide) (j := ns'.length) ?_ ht (h t) hs
  rw [hvl]
  have e1 : (0 ≤ (-1 : Int) + ((ns'.length + 1 : Nat) : Int) && (-1 : Int) + ((ns'.length + 1 : Nat) : Int) < ((ns'.length + 1 : Nat) : Int)) = true := by
    rw [Bool.and_eq_true, decide_eq_true_eq, decide_eq_true_eq]
    omega
  have e2 : ((-1 : Int) + ((ns'.length + 1 : Nat) : Int)).toNat = ns'.length := by omega
  show (if (0 ≤ (-1 : Int) + ((ns'.length + 1 : Nat) : Int) && (-1 : Int) + ((ns'.length + 1 : Nat) : Int) < ((ns'.length + 1 : Nat) : Int)) = true then some ((-1 : Int) + ((ns'.length + 1 : Nat) : Int)).toNat else none) = _
  rw [if_pos e1, e2]
end
theorem ints_snoc_inv {vs : List Value} {ns : List Int} {n : Int} (h : IntsAre vs (ns ++ [n])) : ∃ ws t, vs = ws ++ [.int n t] ∧ IntsAre ws ns := by
  induction ns generalizing vs with
  | nil =>
    obtain ⟨t, vs', rfl, r⟩ := IntsAre.cons_inv h
    have := IntsAre.nil_inv r
    subst this
    exact ⟨[], t, rfl, .nil⟩
  | cons m ns ih =>
    obtain ⟨t, vs', rfl, r⟩ := IntsAre.cons_inv h
    obtain ⟨ws, u, rfl, q⟩ := ih r
    exact ⟨_ :: ws, u, rfl, .cons _ _ q⟩
theorem kms_init {ws : List Value} {v : Value} : kms_pick (ws ++ [v]) none (some (-1)) = ws := by
  have e : (ws ++ [v]).length - (-(-1) : Int).toNat = ws.length := by rw [List.length_append, List.length_singleton]; omega
  unfold kms_pick kms_lo kms_hi
  simp only [show ((-1 : Int) < 0) by decide, if_true, List.drop_zero, Nat.sub_zero, e]
  exact List.take_left
section
variable {prog : Program} {w : World} {A : Around} {E : Value → Shared → Prop} {s : Shared} {h₀ : Heap} {L : Addr} {m : Str → Option Value} {news : List (Addr × Obj)}
theorem slice_init {value slice : Expr} {l : Addr} {vs : List Value} {ns ns' : List Int} {n : Int} {u : Tok} {k : Nat} {Q : Value → Shared → Prop} (F : Fr h₀ L s.heap m) (N : News h₀ L s.heap news) (hm : (l, W.listOf (List.toArray vs) k) ∈ news) (hi : IntsAre vs ns) (he : ns = ns' ++ [n]) (hz : ns.length ≤ 1000)
    (h : ∀ D h' ws, IntsAre ws ns' → Fr h₀ L h' m → News h₀ L h' ((D, W.listOf (List.toArray ws) 0) :: news) → (∀ p ∈ news, p.1 < D) → Q (.ref D) { s with heap := h' })
    (hs : subscripted slice false (.ref l) (.ref s.heap.objs.size) = operate [.ref s.heap.objs.size, .ref l] (getItem (.ref l) (.ref s.heap.objs.size))) (ht : ∀ r, letTemporaryGo value (.ref l) r = pure ()) :
    wpAny (model prog w) A (subscriptTail value slice (.ref l) (.ref s.heap.objs.size)) Q E { s with heap := s.heap.push { cls := .type "slice", data := .fields #[.none, .int (-1) u, .none] } } := by
  subst he
  obtain ⟨ws, t, rfl, hw⟩ := ints_snoc_inv hi
  have hl := hi.length
  exact kms_slice_lit F N (News.isList N hm) IsPart.none (IsPart.int _ _) kms_init (fun D h' F' N' l' => h D h' ws hw F' N' l') hs ht (by rw [List.size_toArray, sizeLine_eq]; omega)
end
theorem len_init {ns ns' : List Int} {n : Int} (e : ns = ns' ++ [n]) : ns.length = ns'.length + 1 := by rw [e]; simp
theorem ints_take_nil {ws : List Value} {n : Nat} (h : IntsAre ws (List.take n [])) : IntsAre ws [] := by rw [List.take_nil] at h; exact h
theorem Bun.newl {w : World} {c d a hd hl l' : Addr} {od oh ol : Obj} {vsC : List Value} {mt fz own R : List (Addr × Obj)} {z : Addr × Obj} {mv : Value} {ks : List Int} (b : Bun w c d a hd hl od oh ol vsC mt fz own R mv ks)
    (hn : ∀ p ∈ (c, LCg.lst vsC) :: (d, od) :: z :: R, p.1 ≠ l') : Bun w c d a hd l' od oh ol vsC mt fz own R mv ks := by
  obtain ⟨⟨p1, p2, p3, p4⟩, b2, b3, b4, b5⟩ := b
  have key : ∀ X : List (Addr × Obj), (∀ p ∈ X, p ∈ R) → OwnOff X (c :: d :: hd :: hl :: own.map (·.1)) → OwnOff X (c :: d :: hd :: l' :: own.map (·.1)) := by
    intro X hX h p hp b hb
    have e : b ∈ [l'] ++ (c :: d :: hd :: hl :: own.map (·.1)) := by
      simp only [List.mem_cons, List.mem_append] at hb ⊢
      rcases hb with h | h | h | h | h <;> simp [h]
    rcases List.mem_append.mp e with e | e
    · rw [List.mem_singleton.mp e]
      exact hn p (.tail _ (.tail _ (.tail _ (hX p hp))))
    · exact h p hp b e
  refine ⟨⟨key fz b4 p1, key mt b3 p2, fun p hp b hb => ?_, p4⟩, b2, b3, b4, b5⟩
  simp only [List.mem_cons, List.not_mem_nil, or_false] at hp
  rcases hp with rfl | rfl | rfl
  · exact p3 _ (.head _) b hb
  · exact p3 _ (.tail _ (.head _)) b hb
  · simp only [List.mem_cons, List.mem_map] at hb
    rcases hb with rfl | rfl | ⟨q, hq, rfl⟩
    · exact (hn _ (.head _)).symm
    · exact (hn _ (.tail _ (.head _))).symm
    · exact (hn _ (.tail _ (.tail _ (.tail _ (b5 q hq))))).symm
section
variable {w : World} {dp un : Nat} {gd : Option (List Code)} {cn : Str} {cs : Scope} {a' : Addr} {ccd : Value} {cl : List (Str × Addr)} {outer : List Env} {A₀ : Around} {base h₀ : Heap} {L : Addr} {m : Str → Option Value} {s : Shared}
    {loose : List Str} {mean : ExcName → Option Value} {mg mb : Str → Option Value} {Q E : Value → Shared → Prop}
theorem clear_go {c d a hd' hl : Addr} {od : Obj} {vsC : List Value} {h1 h2 h3 : Int} {t1 t2 t3 u1 u3 : Tok} {most gone : Int} {vs : List Value} {ns ks : List Int} {mv : Value} {k : Nat} {z : Addr × Obj} {R fz mt own : List (Addr × Obj)} (B : Below A₀ base outer h₀) (F : Fr h₀ L s.heap m) (X : (tops.heap_1 w.params).In h₀)
    {pq : Program} (T : Top pq loose mean mg mb h₀) (hk : cs.kind = .function) (hd : dp + 20 < recursionLimit) (hu : un + 400 < cLine) (hpq : pq = tops.view_1)
    (N : News h₀ L s.heap ((c, LCg.lst vsC) :: (d, od) :: (a, instObj 85 hd') :: (hd', histD h1 h2 h3 t1 t2 t3 u1 u3 most gone hl) :: (hl, W.listOf (List.toArray vs) k) :: z :: R))
    (ho : OwnOff ((c, LCg.lst vsC) :: (d, od) :: z :: R) [hd', hl]) (hla : LinesAll w fz vs ns) (h9 : ns.length ≤ 9) (hB : Bun w c d a hd' hl od (histD h1 h2 h3 t1 t2 t3 u1 u3 most gone hl) (W.listOf (List.toArray vs) k) vsC mt fz own R mv ks)
    (ret : ∀ l' h1 h2 h3 t1 t2 t3 u1 u3 gone k h' tk', Bun w c d a hd' l' od (histD h1 h2 h3 t1 t2 t3 u1 u3 most gone l') (W.listOf (List.toArray []) k) vsC mt fz own R mv ks → Fr h₀ L h' m →
      News h₀ L h' ((c, LCg.lst vsC) :: (d, od) :: (a, instObj 85 hd') :: (hd', histD h1 h2 h3 t1 t2 t3 u1 u3 most gone l') :: (l', W.listOf (List.toArray []) k) :: z :: R) → Q .none { s with heap := h', toks := tk' }) :
    wpAny (model PySem.Challenge.rw_np0274_01.row.prog w) (ktrTop dp un gd cn cs L a' ccd cl outer) (call (.ref 63) [.ref a]) Q E s := by
  have N1 := pop_news N
  obtain ⟨n1, n2, n3⟩ := hist_ne N1 (.head _) (.tail _ (.head _)) (.tail _ (.tail _ (.head _)))
  have hvl := hla.length
  refine spec_use (clear_spec (by omega) ho n1 n2 n3) B F X N1 T hk hd hu hpq fun r led' h' tk' F' N' p => ?_
  obtain ⟨l', hl', ⟨h1, h2, h3, t1, t2, t3, u1, u3, gone, k, rfl⟩, rfl, rfl, q1, q2, q3⟩ := p
  exact ret _ _ _ _ _ _ _ _ _ _ _ _ _ ((hB.newl q3).objs _ _ _) F' (pop_back N')
end
theorem hequals_same {w : World} {ns : List Int} {a b : Addr} {sup led : List (Addr × Obj)} (hsup : ∀ p ∈ sup, p ∈ led) (hl : HistIs w sup a ns) (hl' : HistIs w sup b ns) (h8 : ns.length ≤ 100) :
    Spec w 82 [.ref a, .ref b] led 140 2600 (PurePost (fun r _ => r = .bool true) sup led) := by
  have h := hequals_spec hsup hl hl' h8 h8
  rw [decide_eq_true rfl] at h
  exact h
theorem hequals_not {w : World} {ns ms : List Int} {a b : Addr} {sup led : List (Addr × Obj)} (hsup : ∀ p ∈ sup, p ∈ led) (hl : HistIs w sup a ns) (hl' : HistIs w sup b ms) (h8 : ns.length ≤ 100) (h9 : ms.length ≤ 100) (hne : ms ≠ ns) :
    Spec w 82 [.ref a, .ref b] led 140 2600 (PurePost (fun r _ => r = .bool false) sup led) := by
  have h := hequals_spec hsup hl hl' h8 h9
  rw [decide_eq_false (fun e => hne e.symm)] at h
  exact h
/-- a history written out -/
theorem hist_is {w : World} {a d l : Addr} {vs : List Value} {ns : List Int} {k : Nat} {h1 h2 h3 : Int} {t1 t2 t3 u1 u3 : Tok} {most gone : Int} {led sup : List (Addr × Obj)} (m1 : (a, instObj 85 d) ∈ led) (m2 : (d, histD h1 h2 h3 t1 t2 t3 u1 u3 most gone l) ∈ led)
    (m3 : (l, W.listOf (List.toArray vs) k) ∈ led) (hla : LinesAll w sup vs ns) (hs : ∀ p ∈ sup, p ∈ led) : HistIs w led a ns := ⟨d, l, vs, k, h1, h2, h3, t1, t2, t3, u1, u3, most, gone, m1, m2, m3, hla.mono hs⟩
theorem Bun.copy {w : World} {c d a hd hl : Addr} {od oh ol : Obj} {vsC : List Value} {mt fz own R tl : List (Addr × Obj)} {z : Addr × Obj} {mv : Value} {ks : List Int} (bn : Bun w c d a hd hl od oh ol vsC mt fz own R mv ks)
    {b d' l' : Addr} {vs' : List Value} {ns : List Int} {k : Nat} {h1 h2 h3 : Int} {t1 t2 t3 u1 u3 : Tok} {most gone : Int}
    (hf : Fresh ((l', W.listOf (List.toArray vs') k) :: (b, instObj 85 d') :: (d', histD h1 h2 h3 t1 t2 t3 u1 u3 most gone l') :: tl) ((c, LCg.lst vsC) :: (d, od) :: (a, instObj 85 hd) :: (hd, oh) :: (hl, ol) :: z :: R))
    (ho : OwnOff tl [d', l']) (hla : LinesAll w (tl ++ fz) vs' ns) :
    Bun w c d a hd hl od oh ol vsC [(l', W.listOf (List.toArray vs') k), (b, instObj 85 d'), (d', histD h1 h2 h3 t1 t2 t3 u1 u3 most gone l')] (tl ++ fz) own ((l', W.listOf (List.toArray vs') k) :: (b, instObj 85 d') :: (d', histD h1 h2 h3 t1 t2 t3 u1 u3 most gone l') :: (tl ++ R)) (.ref b) ns := by
  obtain ⟨⟨p1, p2, p3, p4⟩, b2, b3, b4, b5⟩ := bn
  have key : ∀ q ∈ (l', W.listOf (List.toArray vs') k) :: (b, instObj 85 d') :: (d', histD h1 h2 h3 t1 t2 t3 u1 u3 most gone l') :: tl, ∀ x ∈ c :: d :: hd :: hl :: own.map (·.1), q.1 ≠ x := fun q hq x hx => by
    simp only [List.mem_cons, List.mem_map] at hx
    rcases hx with rfl | rfl | rfl | rfl | ⟨p, hp, rfl⟩
    · exact (hf q hq _ (.head _)).symm
    · exact (hf q hq _ (.tail _ (.head _))).symm
    · exact (hf q hq _ (.tail _ (.tail _ (.tail _ (.head _))))).symm
    · exact (hf q hq _ (.tail _ (.tail _ (.tail _ (.tail _ (.head _)))))).symm
    · exact (hf q hq _ (.tail _ (.tail _ (.tail _ (.tail _ (.tail _ (.tail _ (b5 p hp)))))))).symm
  refine ⟨⟨offApp (fun q hq => key q (.tail _ (.tail _ (.tail _ hq)))) p1, fun q hq => key q ?_, p3, p4⟩, .inr ⟨b, d', l', vs', k, h1, h2, h3, t1, t2, t3, u1, u3, most, gone, rfl, rfl, offApp ho fun q hq x hx => ?_, hla⟩, fun p hp => ?_, fun p hp => ?_, fun p hp => ?_⟩
  · simp only [List.mem_cons, List.not_mem_nil, or_false] at hq ⊢
    rcases hq with h | h | h <;> simp [h]
  · have hq' : q ∈ (c, LCg.lst vsC) :: (d, od) :: (a, instObj 85 hd) :: (hd, oh) :: (hl, ol) :: z :: R := .tail _ (.tail _ (.tail _ (.tail _ (.tail _ (.tail _ (b4 q hq))))))
    simp only [List.mem_cons, List.not_mem_nil, or_false] at hx
    rcases hx with rfl | rfl
    · exact hf _ (.tail _ (.tail _ (.head _))) q hq'
    · exact hf _ (.head _) q hq'
  · simp only [List.mem_cons, List.not_mem_nil, or_false] at hp ⊢
    rcases hp with h | h | h <;> simp [h]
  · rcases List.mem_append.mp hp with h | h
    · exact .tail _ (.tail _ (.tail _ (List.mem_append_left _ h)))
    · exact .tail _ (.tail _ (.tail _ (List.mem_append_right _ (b4 p h))))
  · exact .tail _ (.tail _ (.tail _ (List.mem_append_right _ (b5 p hp))))
section
variable {w : World} {dp un : Nat} {gd : Option (List Code)} {cn : Str} {cs : Scope} {a' : Addr} {ccd : Value} {cl : List (Str × Addr)} {outer : List Env} {A₀ : Around} {base h₀ : Heap} {L : Addr} {m : Str → Option Value} {s : Shared}
    {loose : List Str} {mean : ExcName → Option Value} {mg mb : Str → Option Value} {Q E : Value → Shared → Prop}
theorem copy_go {c d a hd' hl : Addr} {od : Obj} {vsC : List Value} {h1 h2 h3 : Int} {t1 t2 t3 u1 u3 : Tok} {most gone : Int} {vs : List Value} {ns ks : List Int} {mv : Value} {k : Nat} {z : Addr × Obj} {R fz mt own : List (Addr × Obj)} (B : Below A₀ base outer h₀) (F : Fr h₀ L s.heap m) (X : (tops.heap_1 w.params).In h₀)
    {pq : Program} (T : Top pq loose mean mg mb h₀) (hk : cs.kind = .function) (hd : dp + 100 < recursionLimit) (hu : un + 2000 < cLine) (hpq : pq = tops.view_1)
    (N : News h₀ L s.heap ((c, LCg.lst vsC) :: (d, od) :: (a, instObj 85 hd') :: (hd', histD h1 h2 h3 t1 t2 t3 u1 u3 most gone hl) :: (hl, W.listOf (List.toArray vs) k) :: z :: R))
    (hla : LinesAll w fz vs ns) (h9 : ns.length ≤ 9) (hB : Bun w c d a hd' hl od (histD h1 h2 h3 t1 t2 t3 u1 u3 most gone hl) (W.listOf (List.toArray vs) k) vsC mt fz own R mv ks)
    (ret : ∀ b fz2 mt2 R2 h' tk' md ml g1 g2 g3 v1 v2 v3 v4 v6 most' gone', (∀ p ∈ fz, p ∈ fz2) → Bun w c d a hd' hl od (histD h1 h2 h3 t1 t2 t3 u1 u3 most gone hl) (W.listOf (List.toArray vs) k) vsC mt2 fz2 own R2 (.ref b) ns → LinesAll w fz2 vs ns →
      HistIs w ((c, LCg.lst vsC) :: (d, od) :: (a, instObj 85 hd') :: (hd', histD h1 h2 h3 t1 t2 t3 u1 u3 most gone hl) :: (hl, W.listOf (List.toArray vs) k) :: z :: R2) a ns →
      HistIs w ((c, LCg.lst vsC) :: (d, od) :: (a, instObj 85 hd') :: (hd', histD h1 h2 h3 t1 t2 t3 u1 u3 most gone hl) :: (hl, W.listOf (List.toArray vs) k) :: z :: R2) b ns → Fr h₀ L h' m →
      News h₀ L h' ((b, instObj 85 md) :: (md, histD g1 g2 g3 v1 v2 v3 v4 v6 most' gone' ml) :: (c, LCg.lst vsC) :: (d, od) :: (a, instObj 85 hd') :: (hd', histD h1 h2 h3 t1 t2 t3 u1 u3 most gone hl) :: (hl, W.listOf (List.toArray vs) k) :: z :: R2) → Q (.ref b) { s with heap := h', toks := tk' }) :
    wpAny (model PySem.Challenge.rw_np0274_01.row.prog w) (ktrTop dp un gd cn cs L a' ccd cl outer) (call (.ref 75) [.ref a]) Q E s := by
  have hsub : ∀ p ∈ fz, p ∈ (c, LCg.lst vsC) :: (d, od) :: (a, instObj 85 hd') :: (hd', histD h1 h2 h3 t1 t2 t3 u1 u3 most gone hl) :: (hl, W.listOf (List.toArray vs) k) :: z :: R := fun p hp => .tail _ (.tail _ (.tail _ (.tail _ (.tail _ (.tail _ (hB.2.2.2.1 p hp))))))
  refine spec_use (hcopy_spec hsub (.tail _ (.tail _ (.head _))) (.tail _ (.tail _ (.tail _ (.head _)))) (.tail _ (.tail _ (.tail _ (.tail _ (.head _))))) hla (by omega)) B F X N T hk hd hu hpq fun r led' h' tk' F' N' p => ?_
  obtain ⟨b, d', l', vs', k', g1, g2, g3, v1, v2, v3, v4, v6, most', gone', tl, rfl, rfl, hf, ho, hla'⟩ := p
  have hB' := hB.copy hf ho hla'
  have hs : ∀ p ∈ fz, p ∈ tl ++ fz := fun p hp => List.mem_append_right _ hp
  refine ret b _ _ _ h' tk' d' l' g1 g2 g3 v1 v2 v3 v4 v6 most' gone' hs hB' (hla.mono hs) ?_ ?_ F' (fun p hp => N' p ?_)
  · exact hist_is (.tail _ (.tail _ (.head _))) (.tail _ (.tail _ (.tail _ (.head _)))) (.tail _ (.tail _ (.tail _ (.tail _ (.head _))))) (hla.mono hs) fun p hp => .tail _ (.tail _ (.tail _ (.tail _ (.tail _ (.tail _ (hB'.2.2.2.1 p hp))))))
  · exact hist_is (.tail _ (.tail _ (.tail _ (.tail _ (.tail _ (.tail _ (.tail _ (.head _)))))))) (.tail _ (.tail _ (.tail _ (.tail _ (.tail _ (.tail _ (.tail _ (.tail _ (.head _))))))))) (.tail _ (.tail _ (.tail _ (.tail _ (.tail _ (.tail _ (.head _))))))) hla' fun p hp => .tail _ (.tail _ (.tail _ (.tail _ (.tail _ (.tail _ (hB'.2.2.2.1 p hp))))))
  · simp only [List.mem_cons, List.mem_append] at hp ⊢
    rcases hp with h | h | h | h | h | h | h | h | h | h | h | h | h <;> simp [h]
end
theorem tail_end {w : World} {i : Nat} {h₀ h' : Heap} {L : Addr} {m' : Str → Option Value} {s : Shared} {tk' : Nat} {c d a hd hl : Addr} {od oh ol : Obj} {vsC : List Value} {z : Addr × Obj} {mt fz own R Lc : List (Addr × Obj)}
    (F : Fr h₀ L h' m') (N : News h₀ L h' Lc) (hs : ∀ p ∈ (c, LCg.lst vsC) :: (d, od) :: (a, instObj 85 hd) :: (hd, oh) :: (hl, ol) :: z :: R, p ∈ Lc) (h1 : ∀ p ∈ mt, p ∈ R) (h2 : ∀ p ∈ fz, p ∈ R) (h3 : ∀ p ∈ own, p ∈ R)
    (hoff : TbOff own (ledL c d a hd hl od oh ol vsC mt fz)) (hSt : St w i m' (ledL c d a hd hl od oh ol vsC mt fz)) : TbEnd h₀ L (St w i) own s { s with heap := h', toks := tk' } := by
  refine ⟨h', tk', m', Lc, _, rfl, F, N, fun p hp => hs p ?_, fun p hp => hs p (.tail _ (.tail _ (.tail _ (.tail _ (.tail _ (.tail _ (h3 p hp))))))), hoff, hSt⟩
  simp only [List.mem_cons, List.mem_append] at hp ⊢
  rcases hp with h | h | h | h | h | h | h
  · simp [h]
  · simp [h]
  · simp [h]
  · simp [h]
  · simp [h]
  · simp [h1 p h]
  · simp [h2 p h]
theorem own_back {h₀ h : Heap} {L : Addr} {nx own news : List (Addr × Obj)} (N : News h₀ L h news) (h1 : ∀ p ∈ nx, p ∈ news) (h2 : ∀ p ∈ own, p ∈ news) : News h₀ L h (nx ++ own) := fun p hp => N p ((List.mem_append.mp hp).elim (h1 p) (h2 p))
theorem news_more {h₀ h : Heap} {L : Addr} {p : Addr × Obj} {led : List (Addr × Obj)} (N : News h₀ L h led) (hp : p ∈ led) : News h₀ L h (p :: led) := List.forall_mem_cons.mpr ⟨N _ hp, N⟩
theorem mate_hist {w : World} {mt fz S : List (Addr × Obj)} {mv : Value} {ks : List Int} (hM : MateIs w fz mt mv ks) (h1 : ∀ p ∈ mt, p ∈ S) (h2 : ∀ p ∈ fz, p ∈ S) : mv = .none ∨ ∃ b, mv = .ref b ∧ HistIs w S b ks := by
  rcases hM with ⟨rfl, _, _⟩ | ⟨b, d, l, vs, k, g1, g2, g3, t1, t2, t3, u1, u3, most, gone, rfl, rfl, _, hla⟩
  · exact .inl rfl
  · exact .inr ⟨b, rfl, hist_is (h1 _ (.tail _ (.head _))) (h1 _ (.tail _ (.tail _ (.head _)))) (h1 _ (.head _)) hla h2⟩
section
variable {prog : Program} {w : World} {A : Around} {E : Value → Shared → Prop} {s : Shared} {h₀ : Heap} {L : Addr} {m : Str → Option Value} {news : List (Addr × Obj)}
theorem ints_same {l1 l2 : Addr} {vs ws : List Value} {ns : List Int} {k1 k2 : Nat} {Q : Value → Shared → Prop} (F : Fr h₀ L s.heap m) (X : (tops.heap_1 w.params).In h₀) (N : News h₀ L s.heap news) (m1 : (l1, W.listOf (List.toArray vs) k1) ∈ news) (m2 : (l2, W.listOf (List.toArray ws) k2) ∈ news)
    (i1 : IntsAre vs ns) (i2 : IntsAre ws ns) (hu : A.units + 64 < cLine) (h : Q (.bool false) s) : wpAny (model prog w) A (compareOp .NotEq (.ref l1) (.ref l2)) Q E s := by
  refine ints_ne F X N m1 m2 i1 i2 hu ?_
  rw [decide_eq_true rfl]
  exact h
theorem ints_diff {l1 l2 : Addr} {vs ws : List Value} {ns ms : List Int} {k1 k2 : Nat} {Q : Value → Shared → Prop} (F : Fr h₀ L s.heap m) (X : (tops.heap_1 w.params).In h₀) (N : News h₀ L s.heap news) (m1 : (l1, W.listOf (List.toArray vs) k1) ∈ news) (m2 : (l2, W.listOf (List.toArray ws) k2) ∈ news)
    (i1 : IntsAre vs ns) (i2 : IntsAre ws ms) (hne : ns ≠ ms) (hu : A.units + 64 < cLine) (h : Q (.bool true) s) : wpAny (model prog w) A (compareOp .NotEq (.ref l1) (.ref l2)) Q E s := by
  refine ints_ne F X N m1 m2 i1 i2 hu ?_
  rw [decide_eq_false hne]
  exact h
end
section
variable {w : World} {dp un : Nat} {gd : Option (List Code)} {cn : Str} {cs : Scope} {a' : Addr} {ccd : Value} {cl : List (Str × Addr)} {outer : List Env} {A₀ : Around} {base h₀ : Heap} {L : Addr} {m : Str → Option Value} {s : Shared}
    {loose : List Str} {mean : ExcName → Option Value} {mg mb : Str → Option Value} {Q E : Value → Shared → Prop}
theorem mate_push {a hd' hl b md ml x : Addr} {oh ol : Obj} {h1 h2 h3 : Int} {t1 t2 t3 u1 u3 : Tok} {most gone : Int} {vs : List Value} {ks : List Int} {k : Nat} {fz Lc : List (Addr × Obj)} (B : Below A₀ base outer h₀) (F : Fr h₀ L s.heap m) (X : (tops.heap_1 w.params).In h₀)
    {pq : Program} (T : Top pq loose mean mg mb h₀) (hk : cs.kind = .function) (hd : dp + 20 < recursionLimit) (hu : un + 400 < cLine) (hpq : pq = tops.view_1) (N : News h₀ L s.heap Lc)
    (m1 : (b, instObj 85 md) ∈ Lc) (m2 : (md, histD h1 h2 h3 t1 t2 t3 u1 u3 most gone ml) ∈ Lc) (m3 : (ml, W.listOf (List.toArray vs) k) ∈ Lc) (hs : ∀ p ∈ (a, instObj 85 hd') :: (hd', oh) :: (hl, ol) :: fz, p ∈ Lc)
    (ho : OwnOff ((a, instObj 85 hd') :: (hd', oh) :: (hl, ol) :: fz) [md, ml]) (hla : LinesAll w fz vs ks) (h9 : ks.length ≤ 9)
    (ret : ∀ r h' tk', Fr h₀ L h' m → News h₀ L h' ((a, instObj 85 hd') :: (hd', oh) :: (hl, ol) :: fz) → Q r { s with heap := h', toks := tk' }) :
    wpAny (model PySem.Challenge.rw_np0274_01.row.prog w) (ktrTop dp un gd cn cs L a' ccd cl outer) (call (.ref 49) [.ref b, .ref x]) Q E s := by
  obtain ⟨n1, n2, n3⟩ := hist_ne N m1 m2 m3
  have hvl := hla.length
  have N1 : News h₀ L s.heap ((b, instObj 85 md) :: (md, histD h1 h2 h3 t1 t2 t3 u1 u3 most gone ml) :: (ml, W.listOf (List.toArray vs) k) :: ((a, instObj 85 hd') :: (hd', oh) :: (hl, ol) :: fz)) :=
    List.forall_mem_cons.mpr ⟨N _ m1, List.forall_mem_cons.mpr ⟨N _ m2, List.forall_mem_cons.mpr ⟨N _ m3, fun p hp => N p (hs p hp)⟩⟩⟩
  refine spec_use (push_spec (by omega) ho n1 n2 n3) B F X N1 T hk hd hu hpq fun r led' h' tk' F' N' p => ?_
  obtain ⟨vs', hl', ⟨h1, h2, h3, t1, t2, t3, u1, u3, gone, k, rfl⟩, rfl, p⟩ := p
  exact ret r h' tk' F' fun p hp => N' p (List.mem_append_right _ hp)
end
theorem end_off {c d a hd hl b md ml : Addr} {od oh ol ob omd oml : Obj} {vsC : List Value} {fz : List (Addr × Obj)} (hP : Parts c d a hd hl od oh ol vsC [(ml, oml), (b, ob), (md, omd)] fz []) (ho : OwnOff fz [md, ml]) (n1 : a ≠ md) (n2 : a ≠ ml) :
    OwnOff ((a, instObj 85 hd) :: (hd, oh) :: (hl, ol) :: fz) [md, ml] := by
  obtain ⟨_, p2, _, _⟩ := hP
  have q1 := p2 (md, omd) (.tail _ (.tail _ (.head _)))
  have q2 := p2 (ml, oml) (.head _)
  refine offCons ?_ (offCons ?_ (offCons ?_ ho))
  · intro x hx
    simp only [List.mem_cons, List.not_mem_nil, or_false] at hx
    rcases hx with rfl | rfl
    · exact n1
    · exact n2
  · intro x hx
    simp only [List.mem_cons, List.not_mem_nil, or_false] at hx
    rcases hx with rfl | rfl
    · exact (q1 hd (.tail _ (.tail _ (.head _)))).symm
    · exact (q2 hd (.tail _ (.tail _ (.head _)))).symm
  · intro x hx
    simp only [List.mem_cons, List.not_mem_nil, or_false] at hx
    rcases hx with rfl | rfl
    · exact (q1 hl (.tail _ (.tail _ (.tail _ (.head _))))).symm
    · exact (q2 hl (.tail _ (.tail _ (.tail _ (.head _))))).symm
theorem trim_back {h₀ h : Heap} {L : Addr} {g x y a d l : Addr × Obj} {R : List (Addr × Obj)} (N : News h₀ L h (g :: a :: d :: l :: (x :: y :: R))) : News h₀ L h (g :: x :: y :: a :: d :: l :: R) := fun p hp => N p (by
  simp only [List.mem_cons] at hp ⊢
  rcases hp with h | h | h | h | h | h | h <;> simp [h])
theorem trim_off {a d l x y : Addr × Obj} {R : List (Addr × Obj)} {g : Addr} (h1 : a.1 ≠ g) (h2 : d.1 ≠ g) (h3 : l.1 ≠ g) (h : ∀ p ∈ x :: y :: R, p.1 ≠ g) : ∀ p ∈ x :: y :: a :: d :: l :: R, p.1 ≠ g := fun p hp => by
  have key : p ∈ [a, d, l] ∨ p ∈ x :: y :: R := by
    simp only [List.mem_cons, List.not_mem_nil, or_false] at hp ⊢
    rcases hp with h | h | h | h | h | h <;> simp [h]
  rcases key with q | q
  · simp only [List.mem_cons, List.not_mem_nil, or_false] at q
    rcases q with rfl | rfl | rfl <;> assumption
  · exact h p q
section
variable {w : World} {dp un : Nat} {gd : Option (List Code)} {cn : Str} {cs : Scope} {a' : Addr} {ccd : Value} {cl : List (Str × Addr)} {outer : List Env} {A₀ : Around} {base h₀ : Heap} {L : Addr} {m : Str → Option Value} {s : Shared}
    {loose : List Str} {mean : ExcName → Option Value} {mg mb : Str → Option Value} {Q E : Value → Shared → Prop}
theorem trim_go {c d a hd' hl : Addr} {od : Obj} {vsC : List Value} {h1 h2 h3 : Int} {t1 t2 t3 u1 u3 tm : Tok} {most most' gone : Int} {vs : List Value} {ns ks : List Int} {mv : Value} {k : Nat} {z : Addr × Obj} {R fz mt own : List (Addr × Obj)} (B : Below A₀ base outer h₀) (F : Fr h₀ L s.heap m) (X : (tops.heap_1 w.params).In h₀)
    {pq : Program} (T : Top pq loose mean mg mb h₀) (hk : cs.kind = .function) (hd : dp + 20 < recursionLimit) (hu : un + 400 < cLine) (hpq : pq = tops.view_1)
    (N : News h₀ L s.heap ((c, LCg.lst vsC) :: (d, od) :: (a, instObj 85 hd') :: (hd', histD h1 h2 h3 t1 t2 t3 u1 u3 most gone hl) :: (hl, W.listOf (List.toArray vs) k) :: z :: R))
    (ho : OwnOff ((c, LCg.lst vsC) :: (d, od) :: z :: R) [hd', hl]) (hla : LinesAll w fz vs ns) (h9 : ns.length ≤ 9) (hB : Bun w c d a hd' hl od (histD h1 h2 h3 t1 t2 t3 u1 u3 most gone hl) (W.listOf (List.toArray vs) k) vsC mt fz own R mv ks)
    (ret : ∀ g l' vs1 vs2 kg h1 h2 h3 t1 t2 t3 u1 u3 gone k h' tk', Bun w c d a hd' l' od (histD h1 h2 h3 t1 t2 t3 u1 u3 most' gone l') (W.listOf (List.toArray vs2) k) vsC mt fz own R mv ks →
      LinesAll w fz vs1 (ns.take (cutZ ns.length most').toNat) → LinesAll w fz vs2 (ns.drop (cutZ ns.length most').toNat) → Fr h₀ L h' m →
      News h₀ L h' ((g, W.listOf (List.toArray vs1) kg) :: (c, LCg.lst vsC) :: (d, od) :: (a, instObj 85 hd') :: (hd', histD h1 h2 h3 t1 t2 t3 u1 u3 most' gone l') :: (l', W.listOf (List.toArray vs2) k) :: z :: R) →
      (∀ p ∈ (c, LCg.lst vsC) :: (d, od) :: (a, instObj 85 hd') :: (hd', histD h1 h2 h3 t1 t2 t3 u1 u3 most' gone l') :: (l', W.listOf (List.toArray vs2) k) :: z :: R, p.1 ≠ g) → Q (.ref g) { s with heap := h', toks := tk' }) :
    wpAny (model PySem.Challenge.rw_np0274_01.row.prog w) (ktrTop dp un gd cn cs L a' ccd cl outer) (call (.ref 70) [.ref a, .int most' tm]) Q E s := by
  have N1 := pop_news N
  obtain ⟨n1, n2, n3⟩ := hist_ne N1 (.head _) (.tail _ (.head _)) (.tail _ (.tail _ (.head _)))
  have hvl := hla.length
  refine spec_use (trim_spec (by omega) ho n1 n2 n3) B F X N1 T hk hd hu hpq fun r led' h' tk' F' N' p => ?_
  obtain ⟨l', g, kg, hl', ⟨h1, h2, h3, t1, t2, t3, u1, u3, gone, k, rfl⟩, rfl, rfl, q1, q2, q3, q4, q5, q6, q7⟩ := p
  rw [hvl] at N'
  exact ret _ _ _ _ _ _ _ _ _ _ _ _ _ _ _ _ _ ((hB.newl q3).objs _ _ _) (hla.take _) (hla.drop _) F' (trim_back N') (trim_off (a := (a, instObj 85 hd')) (d := (hd', histD h1 h2 h3 t1 t2 t3 u1 u3 most' gone l')) (l := (l', W.listOf (List.toArray (vs.drop (cutZ ns.length most').toNat)) k)) q4 q5 q6 q7)
end
theorem ints_take {vs : List Value} {ns : List Int} (h : IntsAre vs ns) : ∀ k, IntsAre (vs.take k) (ns.take k) := by
  induction h with
  | nil => intro k; simpa using IntsAre.nil
  | cons a b r ih => intro k; cases k with
    | zero => exact .nil
    | succ k => exact .cons a b (ih k)
theorem ints_dropk {vs : List Value} {ns : List Int} (h : IntsAre vs ns) : ∀ k, IntsAre (vs.drop k) (ns.drop k) := by
  induction h with
  | nil => intro k; simpa using IntsAre.nil
  | cons a b r ih => intro k; cases k with
    | zero => exact .cons a b r
    | succ k => exact ih k
theorem cut_len {ns : List Int} {most : Int} (h : 0 ≤ most) : ((ns.drop (cutZ ns.length most).toNat).length : Int) ≤ most := by
  rw [List.length_drop]
  unfold cutZ
  split <;> omega
section
variable {prog : Program} {w : World} {A : Around} {h₀ : Heap} {L : Addr} {m : Str → Option Value} {env : Env} {elt : Expr} {x : Str} {scope : Scope} {cl : List (Str × Addr)} {s : Shared}
/-- the same; the walk stops at an element's end -/
theorem comp_restH {S : List (Addr × Obj) → Prop} {P : Nat → Value → Prop} {Fin : List Value → List (Addr × Obj) → Prop} {R : List (Addr × Obj) → Value → Nat → Prop} {news sup : List (Addr × Obj)} {n : Nat}
    (hmono : ∀ l l' y i, (∀ p ∈ l, p ∈ l') → R l y i → R l' y i) (hsup : ∀ p ∈ sup, p ∈ news) (hS : ∀ tl, S (tl ++ news))
    (step : ∀ i v I oI C oC D ys m₂ h tk tl (E' : Value → Shared → Prop), i < n → P i v → LCg.NsObj oC m₂ → m₂ x = some v → Fr h₀ L h m → News h₀ L h ((I, oI) :: (C, oC) :: (D, LCg.lst ys) :: (tl ++ news)) →
      wpAny (model prog w) A (eval elt (compEnvC scope cl C env)) (fun y s₂ => Halt (EltEnd h₀ L m { s with heap := h, toks := tk } ((I, oI) :: (C, oC) :: (D, LCg.lst ys) :: (tl ++ news)) R sup i y s₂)) E' { s with heap := h, toks := tk })
    (fin : ∀ ys tl, AllAt R (tl ++ sup) n ys → Fresh tl news → Fin ys (tl ++ news)) :
    LCg.CompRest prog w A h₀ L m env elt x scope cl s S P Fin n 0 [] news := comp_rest hmono hsup hS step fin
end
section
variable {prog : Program} {w : World} {A : Around} {E : Value → Shared → Prop} {s : Shared} {h₀ : Heap} {L : Addr} {m : Str → Option Value} {news : List (Addr × Obj)}
theorem cut_ge (n : Nat) (most : Int) : 0 ≤ cutZ n most := by unfold cutZ; split <;> omega
theorem slice_cutU {value slice : Expr} {l : Addr} {vs : List Value} {n : Nat} {most : Int} {ns1 : List Int} {u : Tok} {k : Nat} {Q : Value → Shared → Prop} (F : Fr h₀ L s.heap m) (N : News h₀ L s.heap news) (hm : (l, W.listOf (List.toArray vs) k) ∈ news) (hi : IntsAre (vs.take (cutZ n most).toNat) ns1) (hz : vs.length ≤ 1000)
    (h : ∀ D h' ws, IntsAre ws ns1 → Fr h₀ L h' m → News h₀ L h' ((D, W.listOf (List.toArray ws) 0) :: news) → (∀ p ∈ news, p.1 < D) → Q (.ref D) { s with heap := h' })
    (hs : subscripted slice false (.ref l) (.ref s.heap.objs.size) = operate [.ref s.heap.objs.size, .ref l] (getItem (.ref l) (.ref s.heap.objs.size))) (ht : ∀ r, letTemporaryGo value (.ref l) r = pure ()) :
    wpAny (model prog w) A (subscriptTail value slice (.ref l) (.ref s.heap.objs.size)) Q E { s with heap := s.heap.push { cls := .type "slice", data := .fields #[.none, .int (if (n : Int) - most > 0 then (n : Int) - most else 0) u, .none] } } :=
  slice_upto F N hm (cut_ge n most) hz (fun D h' F' N' o => h D h' _ hi F' N' o) hs ht
theorem slice_cutF {value slice : Expr} {l : Addr} {vs : List Value} {n : Nat} {most : Int} {ns2 : List Int} {u : Tok} {k : Nat} {Q : Value → Shared → Prop} (F : Fr h₀ L s.heap m) (N : News h₀ L s.heap news) (hm : (l, W.listOf (List.toArray vs) k) ∈ news) (hi : IntsAre (vs.drop (cutZ n most).toNat) ns2) (hz : vs.length ≤ 1000)
    (h : ∀ D h' ws, IntsAre ws ns2 → Fr h₀ L h' m → News h₀ L h' ((D, W.listOf (List.toArray ws) 0) :: news) → (∀ p ∈ news, p.1 < D) → Q (.ref D) { s with heap := h' })
    (hs : subscripted slice false (.ref l) (.ref s.heap.objs.size) = operate [.ref s.heap.objs.size, .ref l] (getItem (.ref l) (.ref s.heap.objs.size))) (ht : ∀ r, letTemporaryGo value (.ref l) r = pure ()) :
    wpAny (model prog w) A (subscriptTail value slice (.ref l) (.ref s.heap.objs.size)) Q E { s with heap := s.heap.push { cls := .type "slice", data := .fields #[.int (if (n : Int) - most > 0 then (n : Int) - most else 0) u, .none, .none] } } :=
  slice_from F N hm (cut_ge n most) hz (fun D h' F' N' o => h D h' _ hi F' N' o) hs ht
end
section
variable {prog : Program} {w : World} {A : Around} {E : Value → Shared → Prop} {s : Shared} {h₀ : Heap} {L : Addr} {m : Str → Option Value} {news : List (Addr × Obj)}
theorem tolds_ne {l1 l2 : Addr} {ys1 ys2 : List Value} {ns : List Int} {tl1 tl2 fz : List (Addr × Obj)} {Q : Value → Shared → Prop} (F : Fr h₀ L s.heap m) (X : (tops.heap_1 w.params).In h₀) (N : News h₀ L s.heap news) (m1 : (l1, LCg.lst ys1) ∈ news) (m2 : (l2, LCg.lst ys2) ∈ news)
    (r1 : ReadsInAll w (tl1 ++ fz) ys1 (ns.map toldP)) (r2 : ReadsInAll w (tl2 ++ []) ys2 (ns.map toldP)) (h1 : ∀ p ∈ tl1, p ∈ news) (h2 : ∀ p ∈ fz, p ∈ news) (h3 : ∀ p ∈ tl2, p ∈ news) (hu : A.units + 64 < cLine) (h : Q (.bool false) s) :
    wpAny (model prog w) A (compareOp .NotEq (.ref l1) (.ref l2)) Q E s := by
  refine ne_reads F X N (.list m1 (r1.mono fun p hp => (List.mem_append.mp hp).elim (h1 p) (h2 p))) (.list m2 (r2.mono fun p hp => (List.mem_append.mp hp).elim (h3 p) fun q => nomatch q)) (tolds_shaped ns) (tolds_shaped ns) hu ?_
  rw [tolds_self]
  exact h
end
def main.tw5983240636774416811 : Unit := ()
def main.tw16526465390540125346 : Unit := ()
def main.tw18072910330486901160 : Unit := ()
def main.tw16933482564619862341 : Unit := ()
def main.tw9658885295015712986 : Unit := ()
def main.tw8610315236036937458 : Unit := ()
def main.tw15371371512377873269 : Unit := ()
def main.tw6228221862949167353 : Unit := ()
def main.tw16952484285578525507 : Unit := ()
def main.tw5418533224930618480 : Unit := ()
def main.tw7439787175107056256 : Unit := ()
def main.tw16512967305710189361 : Unit := ()
def main.tw13639669503049741792 : Unit := ()
def main.tw973372806410652732 : Unit := ()
def main.tw7083192437325867461 : Unit := ()
def main.tw66260789543402106 : Unit := ()
def main.tw11221353774195762014 : Unit := ()
def main.tw3234112476842188716 : Unit := ()
def main.tw13803360072150633466 : Unit := ()
def main.tw16320729459185622934 : Unit := ()
def main.tw13642826006792871662 : Unit := ()
def main.tw4990475226369331113 : Unit := ()
def main.tw9512817274939609580 : Unit := ()
def main.tw15984706205718930553 : Unit := ()
def main.tw15734660467963936456 : Unit := ()
def main.tw3491332818749588091 : Unit := ()
def main.tw31828345220925962 : Unit := ()
def main.tw15734200111481486640 : Unit := ()
def main.tw9670510015898674028 : Unit := ()
def main.tw451873465583785326 : Unit := ()
def main.tw16356685582667847594 : Unit := ()
def main.tw10642606787283503386 : Unit := ()
def main.tw221909299271738847 : Unit := ()
def main.tw7875838824674609581 : Unit := ()
def main.tw15768048840197415361 : Unit := ()
def main.tw5649967823195072380 : Unit := ()
def main.tw5084117380071580128 : Unit := ()
def main.tw4026956272090484662 : Unit := ()
def main.tw16193401482309157537 : Unit := ()
def main.tw6541472054586571296 : Unit := ()
def main.tw12702744160499308131 : Unit := ()
def main.tw13626721169425172152 : Unit := ()
def main.tw5372645768047454471 : Unit := ()
def main.tw14907226015203709474 : Unit := ()
def main.tw2190695567426971638 : Unit := ()
def main.tw15514936471743626214 : Unit := ()
def main.tw13962693860625380366 : Unit := ()
def main.tw3848698983108048278 : Unit := ()
def main.tw962032349192862916 : Unit := ()
def main.tw832900586485598795 : Unit := ()
def main.tw302440914744352476 : Unit := ()
def main.tw15342904991969174519 : Unit := ()
def main.tw11501822485730972192 : Unit := ()
def main.tw6053611964639427726 : Unit := ()
def main.tw3905226178654972811 : Unit := ()
def main.tw1157997071576566072 : Unit := ()
def main.tw13876859957761632879 : Unit := ()
def main.tw9155575984036265788 : Unit := ()
def main.tw1714950047550659301 : Unit := ()
def main.tw13590572293223372214 : Unit := ()
def main.tw18315214858253571532 : Unit := ()
def main.tw3557749057250611081 : Unit := ()
def main.tw7173623326730630234 : Unit := ()
def main.tw5585478044538960755 : Unit := ()
def main.tw18250143313751788700 : Unit := ()
def main.tw9340001505093530494 : Unit := ()
local macro_rules | `(tactic| walk_at "call ref") => `(tactic| (k_here; (with_reducible refine halt_call 272 ?_)))
local macro_rules | `(tactic| walk_at "call ref") => `(tactic| (k_here; (with_reducible refine halt_call 49 ?_)))
local macro_rules | `(tactic| walk_at "call ref") => `(tactic| (k_here; (with_reducible refine halt_call 56 ?_)))
local macro_rules | `(tactic| walk_at "call ref") => `(tactic| (k_here; (with_reducible refine halt_call 63 ?_)))
local macro_rules | `(tactic| walk_at "call ref") => `(tactic| (k_here; (with_reducible refine halt_call 70 ?_)))
local macro_rules | `(tactic| walk_at "call ref") => `(tactic| (k_here; (with_reducible refine halt_call 75 ?_)))
local macro_rules | `(tactic| walk_at "call ref") => `(tactic| (k_here; k_dflt (refine' spec_use (hequals_not ?ks ?kl ?km ?kz ?ky ?ke) ?k1 ?k2 ?k3 ?k4 ?k5 ?k6 ?k7 ?k8 ?kq ?_; (case k4 => k_asm); (case kl => k_asm); (case km => k_asm); (case ke => k_asm); (case kz => omega); (case ky => omega); (case k1 => k_asm); (case k2 => k_asm); (case k3 => k_asm); (case k5 => k_asm); (case k6 => first | rfl | assumption); (case k7 => ktr_room); (case k8 => ktr_units); (case kq => rfl); (case ks => (intro p hp; lsm_bools))); intro r9 led9 h9 tk9 F9 N9 p9; k_dflt ((obtain ⟨tl9, e9, f9, q9⟩ := p9); subst e9; subst q9)))
local macro_rules | `(tactic| walk_at "call ref") => `(tactic| (k_here; k_dflt (refine' spec_use (hequals_same ?ks ?kl ?km ?kz) ?k1 ?k2 ?k3 ?k4 ?k5 ?k6 ?k7 ?k8 ?kq ?_; (case k4 => k_asm); (case kl => k_asm); (case km => k_asm); (case kz => omega); (case k1 => k_asm); (case k2 => k_asm); (case k3 => k_asm); (case k5 => k_asm); (case k6 => first | rfl | assumption); (case k7 => ktr_room); (case k8 => ktr_units); (case kq => rfl); (case ks => (intro p hp; lsm_bools))); intro r9 led9 h9 tk9 F9 N9 p9; k_dflt ((obtain ⟨tl9, e9, f9, q9⟩ := p9); subst e9; subst q9)))
local macro_rules | `(tactic| lsm_bools) => `(tactic| first | (with_reducible exact List.mem_cons_self) | (with_reducible assumption) | (with_reducible exact List.mem_append_left _ (by with_reducible assumption)) | (exact sub_at (by with_reducible assumption) (by with_reducible assumption)) | (with_reducible refine List.mem_cons_of_mem _ ?_; lsm_bools) | (with_reducible refine List.mem_append_right _ ?_; lsm_bools))
local macro_rules | `(tactic| walk_at "call builtin:len") => `(tactic| (k_here; (with_reducible show wpAny _ _ (call (Value.builtin "len") [Value.ref _]) _ _ _); k_dflt (refine' len_snoc ?k1 ?k2 ?k3 ?k4 ?_; (case k1 => k_asm); (case k2 => lsm_bools); (case k3 => k_asm); (case k4 => omega)); intro t9 tk9))
local macro_rules | `(tactic| walk_at "subscriptTail Name Constant ref int") => `(tactic| (k_here; (with_reducible show wpAny _ _ (subscriptTail _ _ (Value.ref _) (Value.int 0 _)) _ _ _); k_dflt (refine' item_head ?k1 ?k2 ?k3 ?k4 ?_ ?k5; (case k1 => k_asm); (case k2 => lsm_bools); (case k3 => k_asm); (case k4 => k_asm); (case k5 => with_unfolding_all rfl)); intro t9))
local macro_rules | `(tactic| walk_at "subscriptTail Name UnaryOp ref int") => `(tactic| (k_here; (with_reducible show wpAny _ _ (subscriptTail _ _ (Value.ref _) (Value.int (-1) _)) _ _ _); k_dflt (refine' item_last ?k1 ?k2 ?k3 ?k4 ?_ ?k6 ?k5; (case k1 => k_asm); (case k2 => lsm_bools); (case k3 => k_asm); (case k4 => k_asm); (case k6 => omega); (case k5 => with_unfolding_all rfl)); intro t9))
local macro_rules | `(tactic| walk_at "compareOp NotEq ref ref") => `(tactic| (k_here; k_dflt (refine' ints_same ?k1 ?k2 ?k3 ?k4 ?k5 ?k6 ?k7 ?k8 ?_; (case k1 => k_asm); (case k2 => k_asm); (case k3 => k_asm); (case k4 => lsm_bools); (case k5 => lsm_bools); (case k6 => k_asm); (case k7 => k_asm); (case k8 => ktr_units); k_whole)))
local macro_rules | `(tactic| walk_at "compareOp NotEq ref ref") => `(tactic| (k_here; k_dflt (refine' ints_diff ?k1 ?k2 ?k3 ?k4 ?k5 ?k6 ?k7 ?k9 ?k8 ?_; (case k1 => k_asm); (case k2 => k_asm); (case k3 => k_asm); (case k4 => lsm_bools); (case k5 => lsm_bools); (case k6 => k_asm); (case k7 => k_asm); (case k9 => k_asm); (case k8 => ktr_units); k_whole)))
local macro_rules | `(tactic| walk_at "subscriptTail Name Slice ref ref") => `(tactic| (k_here; k_dflt (refine' slice_init ?k1 ?k2 ?k3 ?k4 ?k5 ?k8 ?_ ?k6 ?k7; (case k1 => k_asm); (case k2 => k_asm); (case k3 => lsm_bools); (case k4 => k_asm); (case k5 => k_asm); (case k8 => omega); (case k6 => with_unfolding_all rfl); (case k7 => kmk_pure)); intro D' h' ws' hI' F' N' l1))
local macro_rules | `(tactic| walk_at "compareOp NotEq ref ref") => `(tactic| (k_here; k_dflt (refine' ints_ne_nil ?k1 ?k2 ?k3 ?k4 ?k5 ?k6 ?k7 ?k8 ?_; (case k1 => k_asm); (case k2 => k_asm); (case k3 => k_asm); (case k4 => lsm_bools); (case k5 => lsm_bools); (case k6 => k_asm); (case k7 => k_asm); (case k8 => ktr_units); k_whole)))
local macro_rules | `(tactic| walk_at "compareOp NotEq") => `(tactic| (k_here; k_dflt (refine' told_ne ?k1 ?k2 ?k3 ?k4 ?k5 ?k6 ?k7 ?kb ?kc ?k8 ?k9 ?ka ?_; (case k1 => k_asm); (case k2 => k_asm); (case k3 => k_asm); (case k4 => k_asm); (case k5 => k_asm); (case k6 => (intro p hp; lsm_bools)); (case k7 => (intro p hp; lsm_bools)); (case kb => (intro p hp; lsm_bools)); (case kc => (intro p hp; lsm_bools)); (case k8 => exact toldP_shaped _); (case k9 => exact told_self _); (case ka => ktr_units); k_whole)))
local macro_rules | `(tactic| walk_at "call ref") => `(tactic| (k_here; k_dflt (refine' spec_use (told_spec ?ks ?kl) ?k1 ?k2 ?k3 ?k4 ?k5 ?k6 ?k7 ?k8 ?kq ?_; (case kl => k_asm); (case k1 => k_asm); (case k2 => k_asm); (case k3 => k_asm); (case k4 => k_asm); (case k5 => k_asm); (case k6 => first | rfl | assumption); (case k7 => ktr_room); (case k8 => ktr_units); (case kq => rfl); (case ks => (intro p hp; lsm_bools))); intro r9 led9 h9 tk9 F9 N9 p9; k_dflt ((obtain ⟨tl9, e9, f9, q9⟩ := p9); subst e9)))
local macro_rules | `(tactic| walk_at "call ref") => `(tactic| (k_here; k_dflt (refine' spec_use (stands_spec ?ks ?kl ?kb ?ki ?kz) ?k1 ?k2 ?k3 ?k4 ?k5 ?k6 ?k7 ?k8 ?kq ?_; (case k4 => k_asm); (case kl => k_asm); (case kb => lsm_bools); (case ki => k_asm); (case kz => omega); (case k1 => k_asm); (case k2 => k_asm); (case k3 => k_asm); (case k5 => k_asm); (case k6 => first | rfl | assumption); (case k7 => ktr_room); (case k8 => ktr_units); (case kq => rfl); (case ks => (intro p hp; lsm_bools))); intro r9 led9 h9 tk9 F9 N9 p9; k_dflt ((obtain ⟨tl9, e9, f9, q9⟩ := p9); subst e9; subst q9)))
local macro_rules | `(tactic| walk_at "exec If") => `(tactic| ((with_reducible rename Mark => hM9); clear hM9; (with_reducible refine halt_if ?_)))
local macro_rules | `(tactic| walk_at "pyIter ref") => `(tactic| (k_here; (with_reducible refine halt_iter ?_)))
local macro_rules | `(tactic| walk_at "subscriptTail Name Slice ref ref") => `(tactic| (k_here; k_dflt (first
  | (refine' slice_cutU ?k1 ?k2 ?k3 ?k4 ?k5 ?_ ?k6 ?k7; (case k1 => k_asm); (case k2 => k_asm); (case k4 => k_asm); (case k3 => lsm_bools); (case k5 => omega); (case k6 => with_unfolding_all rfl); (case k7 => kmk_pure))
  | (refine' slice_cutF ?k1 ?k2 ?k3 ?k4 ?k5 ?_ ?k6 ?k7; (case k1 => k_asm); (case k2 => k_asm); (case k4 => k_asm); (case k3 => lsm_bools); (case k5 => omega); (case k6 => with_unfolding_all rfl); (case k7 => kmk_pure))); intro D' h' ws' hI' F' N' l1))
local macro_rules | `(tactic| walk_at "compareOp NotEq ref ref") => `(tactic| (k_here; k_dflt (refine' tolds_ne ?k1 ?k2 ?k3 ?k4 ?k5 ?k6 ?k7 ?k8 ?k9 ?ka ?kb ?_; (case k1 => k_asm); (case k2 => k_asm); (case k3 => k_asm); (case k4 => lsm_bools); (case k5 => lsm_bools); (case k6 => k_asm); (case k7 => k_asm); (case k8 => (intro p hp; lsm_bools)); (case k9 => (intro p hp; lsm_bools)); (case ka => (intro p hp; lsm_bools)); (case kb => ktr_units); k_whole)))
set_option maxHeartbeats 8000000 in
set_option Elab.async true in
theorem main : PySem.Challenge.rw_np0274_01.Holds := by
  w_on
  o_law
  o_head (kHook tops.heap_1 [2, 3, 15, 17, 18, 20, 21, 29, 31, 32, 34, 35, 36, 38, 39, 41, 42, 43, 45, 46, 48, 49, 50, 52, 53, 55, 56, 57, 59, 60, 62, 63, 64, 66, 67, 69, 70, 71, 74, 75, 76, 78, 79, 81, 82, 83, 84, 85, 86, 87, 90, 93, 94, 95, 96, 98, 99, 101, 102, 103, 105, 106, 108, 109, 110, 111, 113, 114, 116, 117, 118, 120, 121, 123, 124, 125, 127, 128, 130, 131, 139, 141, 142, 144, 145, 146, 148, 149, 151, 152, 153, 154, 156, 157, 159, 160, 161, 163, 164, 166, 167, 168, 170, 171, 173, 174, 175, 177, 178, 180, 181, 182, 183, 185, 186, 188, 189, 190, 192, 193, 195, 196, 197, 199, 200, 202, 203, 204, 206, 207, 209, 210, 211, 213, 214, 216, 217, 218, 220, 221, 223, 224, 225, 226, 228, 229, 231, 232, 233, 235, 236, 238, 239, 240, 242, 243, 245, 246, 247, 249, 250, 252, 253, 254, 255, 256, 257, 258, 261, 264, 265, 266, 268, 269, 271, 272, 273, 275, 276, 278, 279, 280, 283, 284, 285, 288, 289, 290, 293, 294] (fun _ => by kernel_rfl))
  (case hw => w_witness2)
  k_go0
  all_goals try k_fold
  k_steps
  all_goals (try k_data)
  unfold Halt
  refine' draw_go ?k1 ?k2 ?k3 ?k4 ?k5 ?k6 ?k7 ?kq ?kD ?kN ?kO ?k8 ?k9 ?ka ?kb ?_
  (case kN => exact news_132 (by k_asm))
  (case k1 => k_asm)
  (case k2 => k_asm)
  (case k3 => k_asm)
  (case k4 => k_asm)
  (case k5 => rfl)
  (case k6 => ktr_room)
  (case k7 => ktr_units)
  (case kq => rfl)
  (case kD => exact deck_start (by assumption) (by k_ne) (by assumption) (by assumption))
  (case kO => exact off_one (by k_ne) (by k_ne))
  (case k8 => omega)
  (case k9 => omega)
  (case ka => omega)
  (case kb => omega)
  intro k9 t9 od9 h9 tk9 a9 b9 D9 F9 N9
  k_steps
  unfold Halt
  refine' draw_go ?k1 ?k2 ?k3 ?k4 ?k5 ?k6 ?k7 ?kq ?kD ?kN ?kO ?k8 ?k9 ?ka ?kb ?_
  (case kN => exact news_head (by k_asm))
  (case k1 => k_asm)
  (case k2 => k_asm)
  (case k3 => k_asm)
  (case k4 => k_asm)
  (case k5 => rfl)
  (case k6 => ktr_room)
  (case k7 => ktr_units)
  (case kq => rfl)
  (case kD => exact D9)
  (case kO => exact off_two (by k_ne) (by k_ne) (off_two (by k_ne) (by k_ne) (off_two (by k_ne) (by k_ne) (off_two (by k_ne) (by k_ne) (off_two (by k_ne) (by k_ne) off_nil)))))
  (case k8 => omega)
  (case k9 => omega)
  (case ka => omega)
  (case kb => omega)
  intro k8 t8 od8 h8 tk8 a8 b8 D8 F8 N8
  k_steps
  unfold Halt
  with_reducible rename IsRange _ _ _ _ _ _ _ _ => rg8
  with_reducible rename World => w9
  refine' tbr_invG (n := (1 + k8).toNat) (St w9) ?k1 rg8 ?k2 ?k3 ?k4 ?k5 ?k6 ?turn ?done
  (case k1 => rfl)
  (case k2 => exact small_one (by omega) (by omega) (by omega) (by omega))
  (case k3 => rw [rangeSize_nat, Int.sub_zero])
  (case k4 => k_asm)
  (case k5 => k_asm)
  (case k6 => exact st_start ⟨by rfl, by rfl, by rfl, by rfl, by rfl, by rfl⟩ D8 a9 b9 (off_two (by k_ne) (by k_ne) (off_two (by k_ne) (by k_ne) (off_two (by k_ne) (by k_ne) (off_two (by k_ne) (by k_ne) (off_two (by k_ne) (by k_ne) off_nil))))) (by k_ne) (by k_ne) (by k_ne) (by k_ne))
  (case done =>
    intro m₁ nx h tk hSt F₁ N₁
    obtain ⟨c, d, a, hd', hl, lb, kb, od, vsC, at_, most, tm, mv, e1, e2, e3, t1, t2, t3, u1, u3, gone, vs, kk0, ns, ws, kw, ks, wk, kk, mt, fz, hm, rfl, hP, hD, c0, c9, m0, m4, hlen, hla, hlb, hiw, hMt, hk4, hkb, hik⟩ := hSt
    rw [hm.eq] at F₁
    have N2 := news_more (news_more N₁ (.tail _ (.tail _ (.tail _ (.tail _ (.tail _ (List.mem_append_right _ hlb))))))) (.tail _ (.tail _ (.tail _ (.tail _ (.tail _ (.tail _ (List.mem_append_right _ hkb)))))))
    clear N₁
    rcases hMt with ⟨rfl, rfl, rfl⟩ | ⟨b, md, ml, vsM, kM, g1, g2, g3, v1, v2, v3, v4, v6, mostM, goneM, rfl, rfl, hoM, hlaM⟩
    · simp only [ledL, List.nil_append] at N2
      have hH := hist_is (.tail _ (.tail _ (.head _))) (.tail _ (.tail _ (.tail _ (.head _)))) (.tail _ (.tail _ (.tail _ (.tail _ (.head _))))) hla fun p hp => .tail (c, LCg.lst vsC) (.tail (d, od) (.tail (a, instObj 85 hd') (.tail (hd', histD e1 e2 e3 t1 t2 t3 u1 u3 most gone hl) (.tail (hl, W.listOf (List.toArray vs) kk0) hp))))
      k_steps
    · simp only [ledL, List.cons_append, List.nil_append] at N2
      have hn1 := ne_of_obj N2 (.tail _ (.tail _ (.tail _ (.tail _ (.head _))))) (.tail _ (.tail _ (.tail _ (.tail _ (.tail _ (.tail _ (.tail _ (.tail _ (.tail _ (.head _)))))))))) inst_ne_dict
      have hn2 := ne_of_obj N2 (.tail _ (.tail _ (.tail _ (.tail _ (.head _))))) (.tail _ (.tail _ (.tail _ (.tail _ (.tail _ (.tail _ (.tail _ (.head _)))))))) inst_ne_list
      have hH := hist_is (.tail _ (.tail _ (.head _))) (.tail _ (.tail _ (.tail _ (.head _)))) (.tail _ (.tail _ (.tail _ (.tail _ (.head _))))) hla fun p hp => .tail (c, LCg.lst vsC) (.tail (d, od) (.tail (a, instObj 85 hd') (.tail (hd', histD e1 e2 e3 t1 t2 t3 u1 u3 most gone hl) (.tail (hl, W.listOf (List.toArray vs) kk0) (.tail (ml, W.listOf (List.toArray vsM) kM) (.tail (b, instObj 85 md) (.tail (md, histD g1 g2 g3 v1 v2 v3 v4 v6 mostM goneM ml) hp)))))))
      have hK := hist_is (.tail _ (.tail _ (.tail _ (.tail _ (.tail _ (.tail _ (.head _))))))) (.tail _ (.tail _ (.tail _ (.tail _ (.tail _ (.tail _ (.tail _ (.head _)))))))) (.tail _ (.tail _ (.tail _ (.tail _ (.tail _ (.head _)))))) hlaM fun p hp => .tail (c, LCg.lst vsC) (.tail (d, od) (.tail (a, instObj 85 hd') (.tail (hd', histD e1 e2 e3 t1 t2 t3 u1 u3 most gone hl) (.tail (hl, W.listOf (List.toArray vs) kk0) (.tail (ml, W.listOf (List.toArray vsM) kM) (.tail (b, instObj 85 md) (.tail (md, histD g1 g2 g3 v1 v2 v3 v4 v6 mostM goneM ml) hp)))))))
      by_cases hkn : ks = ns
      · subst hkn
        k_steps
        unfold Halt
        refine' mate_push ?k1 ?k2 ?k3 ?k4 ?k5 ?k6 ?k7 ?kq ?kN ?m1 ?m2 ?m3 ?ms (end_off hP hoM hn1 hn2) hlaM ?k9 ?r1
        (case kN => k_asm)
        (case k1 => k_asm)
        (case k2 => k_asm)
        (case k3 => k_asm)
        (case k4 => k_asm)
        (case k5 => rfl)
        (case k6 => ktr_room)
        (case k7 => ktr_units)
        (case kq => rfl)
        (case m1 => lsm_bools)
        (case m2 => lsm_bools)
        (case m3 => lsm_bools)
        (case ms => exact List.forall_mem_cons.mpr ⟨by lsm_bools, List.forall_mem_cons.mpr ⟨by lsm_bools, List.forall_mem_cons.mpr ⟨by lsm_bools, fun p hp => by lsm_bools⟩⟩⟩)
        (case k9 => omega)
        (case r1 =>
          intro r7 h7 tk7 F7 N7
          have N6 := news_more N7 (.tail _ (.tail _ (.tail _ hlb)))
          clear hH hK N7
          have hH8 := hist_is (.head _) (.tail _ (.head _)) (.tail _ (.tail _ (.head _))) hla fun p hp => .tail (a, instObj 85 hd') (.tail (hd', histD e1 e2 e3 t1 t2 t3 u1 u3 most gone hl) (.tail (hl, W.listOf (List.toArray vs) kk0) hp))
          k_steps)
      · k_steps
        unfold Halt
        refine' mate_push ?k1 ?k2 ?k3 ?k4 ?k5 ?k6 ?k7 ?kq ?kN ?m1 ?m2 ?m3 ?ms (end_off hP hoM hn1 hn2) hlaM ?k9 ?r1
        (case kN => k_asm)
        (case k1 => k_asm)
        (case k2 => k_asm)
        (case k3 => k_asm)
        (case k4 => k_asm)
        (case k5 => rfl)
        (case k6 => ktr_room)
        (case k7 => ktr_units)
        (case kq => rfl)
        (case m1 => lsm_bools)
        (case m2 => lsm_bools)
        (case m3 => lsm_bools)
        (case ms => exact List.forall_mem_cons.mpr ⟨by lsm_bools, List.forall_mem_cons.mpr ⟨by lsm_bools, List.forall_mem_cons.mpr ⟨by lsm_bools, fun p hp => by lsm_bools⟩⟩⟩)
        (case k9 => omega)
        (case r1 =>
          intro r7 h7 tk7 F7 N7
          have N6 := news_more N7 (.tail _ (.tail _ (.tail _ hlb)))
          clear hH hK N7
          have hH8 := hist_is (.head _) (.tail _ (.head _)) (.tail _ (.tail _ (.head _))) hla fun p hp => .tail (a, instObj 85 hd') (.tail (hd', histD e1 e2 e3 t1 t2 t3 u1 u3 most gone hl) (.tail (hl, W.listOf (List.toArray vs) kk0) hp))
          k_steps)  )
  intro i k t m₁ nx h tk own hk hoff hJ F₁ N₁
  obtain ⟨c, d, a, hd', hl, lb, kb, od, vsC, at_, most, tm, mv, e1, e2, e3, t1, t2, t3, u1, u3, gone, vs, kk0, ns, ws, kw, ks, wk, kk, mt, fz, hm, rfl, hP, hD, c0, c9, m0, m4, hlen, hla, hlb, hiw, hMt, hk4, hkb, hik⟩ := hJ
  rw [hm.eq] at F₁
  dsimp only at F₁
  obtain ⟨hki, hi8⟩ := turn_at hk
  have hP' := hP.own hoff
  obtain ⟨R, N2, hR1, hR2, hR3, ho1, ho2⟩ := turn_news N₁ hlb hP'
  clear N₁
  have hB : Bun w9 c d a hd' hl od (histD e1 e2 e3 t1 t2 t3 u1 u3 most gone hl) (W.listOf (List.toArray vs) kk0) vsC mt fz own R mv ks := ⟨hP', hMt, hR1, hR2, hR3⟩
  have hM0 : Mark := trivial
  k_steps
  unfold Halt
  refine' draw_go ?k1 ?k2 ?k3 ?k4 ?k5 ?k6 ?k7 ?kq hD N2 ho1 c0 ?k9 ?ka ?kb ?_
  (case k1 => k_asm)
  (case k2 => k_asm)
  (case k3 => k_asm)
  (case k4 => k_asm)
  (case k5 => rfl)
  (case k6 => ktr_room)
  (case k7 => ktr_units)
  (case kq => rfl)
  (case k9 => omega)
  (case ka => omega)
  (case kb => omega)
  intro k7 t7 od7 h7 tk7 a7 b7 D7 F7 N7
  k_steps
  unfold Halt
  refine cut_turn (St w9 (i + 1)) own (by k_asm) ?way ?tail
  (case tail =>
    try clear N7
    try clear F7
    try clear D7
    try clear hB
    try clear hR1
    try clear hR2
    try clear hR3
    try clear ho1
    try clear ho2
    try clear hP'
    try clear hP
    try clear hD
    try clear hla
    try clear hlb
    try clear hiw
    try clear hMt
    try clear hkb
    try clear hik
    try clear N2
    try clear F₁
    try clear hoff
    try clear hm
    rintro s' ⟨h', tk', m', news', nx', rfl, F', N', hn, ho, ha, hSt⟩
    obtain ⟨c, d, a, hd', hl, lb, kb, od, vsC, at_, most, tm, mv, e1, e2, e3, t1, t2, t3, u1, u3, gone, vs, kk0, ns, ws, kw, ks, wk, kk, mt, fz, hm, rfl, hP, hD, c0, c9, m0, m4, hlen, hla, hlb, hiw, hMt, hk4, hkb, hik⟩ := id hSt
    have hS2 := (congrArg (fun m => St w9 (i + 1) m _) hm.eq).mp hSt
    rw [hm.eq] at F'
    obtain ⟨R, N2, hR1, hR2, hR3, ho1, ho2⟩ := turn_news (own_back N' hn ho) hlb (hP.own ha)
    have N3 := news_more N2 (.tail _ (.tail _ (.tail _ (.tail _ (.tail _ (.tail _ (hR2 _ hkb)))))))
    have hH := hist_is (.tail _ (.tail _ (.head _))) (.tail _ (.tail _ (.tail _ (.head _)))) (.tail _ (.tail _ (.tail _ (.tail _ (.head _))))) hla fun p hp => .tail (c, LCg.lst vsC) (.tail (d, od) (.tail (a, instObj 85 hd') (.tail (hd', histD e1 e2 e3 t1 t2 t3 u1 u3 most gone hl) (.tail (hl, W.listOf (List.toArray vs) kk0) (.tail (lb, W.listOf (List.toArray ws) kw) (hR2 p hp))))))
    have hV := mate_hist hMt (fun p hp => .tail (c, LCg.lst vsC) (.tail (d, od) (.tail (a, instObj 85 hd') (.tail (hd', histD e1 e2 e3 t1 t2 t3 u1 u3 most gone hl) (.tail (hl, W.listOf (List.toArray vs) kk0) (.tail (lb, W.listOf (List.toArray ws) kw) (hR1 p hp)))))))
      (fun p hp => .tail (c, LCg.lst vsC) (.tail (d, od) (.tail (a, instObj 85 hd') (.tail (hd', histD e1 e2 e3 t1 t2 t3 u1 u3 most gone hl) (.tail (hl, W.listOf (List.toArray vs) kk0) (.tail (lb, W.listOf (List.toArray ws) kw) (hR2 p hp)))))))
    clear N' N2 hSt hm hP hD hMt hn ho ho1 ho2 c9 c0
    rcases hV with rfl | ⟨b, rfl, hK⟩
    · k_steps
      refine' tail_end ?f1 ?f2 ?f3 hR1 hR2 hR3 ha hS2
      (case f1 => k_asm)
      (case f2 => k_asm)
      (case f3 => (intro p hp; lsm_bools))
    · k_steps
      refine' tail_end ?f1 ?f2 ?f3 hR1 hR2 hR3 ha hS2
      (case f1 => k_asm)
      (case f2 => k_asm)
      (case f3 => (intro p hp; lsm_bools))  )
  have hw : k7 < 5 ∨ k7 = 5 ∨ k7 = 6 ∨ k7 = 7 ∨ k7 = 8 := by omega
  rcases hw with hw | hw | hw | hw | hw
  · k_steps
    unfold Halt
    refine' push_go ?k1 ?k2 ?k3 ?k4 ?k5 ?k6 ?k7 ?kq ?kN ?kf ?ko ?kn hla ?k9 ?kB ?r1 ?r2
    (case kN => k_asm)
    (case k1 => k_asm)
    (case k2 => k_asm)
    (case k3 => k_asm)
    (case k4 => k_asm)
    (case k5 => rfl)
    (case k6 => ktr_room)
    (case k7 => ktr_units)
    (case kq => rfl)
    (case kf => assumption)
    (case ko => exact off_obj ho2)
    (case kn => assumption)
    (case k9 => omega)
    (case kB => exact hB.objs _ _ _)
    (case r1 =>
      intro hc fz2 R2 vs9 e1 e2 e3 t1 t2 t3 u1 u3 gone2 kk2 h9 tk9 hs9 hB9 hla9 F9 N9
      have hs7 := hB9.2.2.2.1
      clear N2 ho1 ho2 hR1 hR2 hR3 hP' hB hoff hP F₁
      k_steps
      with_reducible rename _ < _ ∧ _ => l9
      refine' way_end1 ?f1 ?f2 ?f3 hB9 ?f4 ?f5 D7 ?f7 ?f8 m0 m4 ?f9 hla9 ?g2 hk4 ?g3 hik
      (case f1 => k_asm)
      (case f2 => k_asm)
      (case f5 => exact fun p hp => .tail _ hp)
      (case f4 => exact l9.2)
      (case f3 => exact ⟨rfl, rfl, rfl, rfl, rfl, rfl⟩)
      (case f7 => omega)
      (case f8 => omega)
      (case f9 => rw [List.length_append, List.length_singleton]; omega)
      (case g2 => assumption)
      (case g3 => exact hs9 _ hkb))
    (case r2 =>
      intro hc fz2 R2 q9 n9 ns9 vs9 e1 e2 e3 t1 t2 t3 u1 u3 gone2 kk2 h9 tk9 hs9 hB9 he9 hq9 hla9 F9 N9
      have hs7 := hB9.2.2.2.1
      clear N2 ho1 ho2 hR1 hR2 hR3 hP' hB hoff hP F₁
      k_steps
      with_reducible rename ∀ p ∈ _, Prod.fst p < _ => l9
      have e9 := len_tail he9
      refine' way_end1 ?f1 ?f2 ?f3 hB9 ?f4 ?f5 D7 ?f7 ?f8 m0 m4 ?f9 hla9 ?g2 hk4 ?g3 hik
      (case f1 => k_asm)
      (case f2 => k_asm)
      (case f5 => (intro p hp; lsm_bools))
      (case f4 => exact allLt_of fun p hp => l9 p (by lsm_bools))
      (case f3 => exact ⟨rfl, rfl, rfl, rfl, rfl, rfl⟩)
      (case f7 => omega)
      (case f8 => omega)
      (case f9 => omega)
      (case g2 => exact ints_drop1 (by k_asm) he9)
      (case g3 => exact hs9 _ hkb))
  · subst hw
    k_steps
    unfold Halt
    refine' pop_go ?k1 ?k2 ?k3 ?k4 ?k5 ?k6 ?k7 ?kq ?kN ?ko hla ?k9 ?kB ?r1 ?r2
    (case kN => k_asm)
    (case k1 => k_asm)
    (case k2 => k_asm)
    (case k3 => k_asm)
    (case k4 => k_asm)
    (case k5 => rfl)
    (case k6 => ktr_room)
    (case k7 => ktr_units)
    (case kq => rfl)
    (case ko => exact off_obj ho2)
    (case k9 => omega)
    (case kB => exact hB.objs _ _ _)
    (case r1 =>
      intro hc e1 e2 e3 t1 t2 t3 u1 u3 gone2 kk2 h9 tk9 hB9 F9 N9
      clear N2 ho1 ho2 hR1 hR3 hP' hB hoff hP F₁
      subst hc
      k_steps
      with_reducible rename _ < _ ∧ _ => l9
      refine' way_end1 (vs := []) (ns := []) ?f1 ?f2 ?f3 hB9 ?f4 ?f5 D7 ?f7 ?f8 m0 m4 ?f9 .nil ?g2 hk4 hkb hik
      (case f1 => k_asm)
      (case f2 => k_asm)
      (case f5 => (intro p hp; lsm_bools))
      (case f4 => exact l9.2)
      (case f3 => exact ⟨rfl, rfl, rfl, rfl, rfl, rfl⟩)
      (case f7 => omega)
      (case f8 => omega)
      (case f9 => exact m0)
      (case g2 => exact ints_take_nil (by k_asm)))
    (case r2 =>
      intro q9 n9 ns9 vs9 e1 e2 e3 t1 t2 t3 u1 u3 gone2 kk2 h9 tk9 he9 hB9 hq9 hla9 F9 N9
      clear N2 ho1 ho2 hR1 hR3 hP' hB hoff hP F₁
      k_steps
      with_reducible rename ∀ p ∈ _, Prod.fst p < _ => l9
      have e9 := len_init he9
      refine' way_end1 ?f1 ?f2 ?f3 hB9 ?f4 ?f5 D7 ?f7 ?f8 m0 m4 ?f9 hla9 ?g2 hk4 hkb hik
      (case f1 => k_asm)
      (case f2 => k_asm)
      (case f5 => (intro p hp; lsm_bools))
      (case f4 => exact allLt_of fun p hp => l9 p (by lsm_bools))
      (case f3 => exact ⟨rfl, rfl, rfl, rfl, rfl, rfl⟩)
      (case f7 => omega)
      (case f8 => omega)
      (case f9 => omega)
      (case g2 => k_asm))
  · subst hw
    k_steps
    unfold Halt
    refine' draw_go ?k1 ?k2 ?k3 ?k4 ?k5 ?k6 ?k7 ?kq D7 ?kN ho1 ?k8 ?k9 ?ka ?kb ?_
    (case kN => k_asm)
    (case k1 => k_asm)
    (case k2 => k_asm)
    (case k3 => k_asm)
    (case k4 => k_asm)
    (case k5 => rfl)
    (case k6 => ktr_room)
    (case k7 => ktr_units)
    (case kq => rfl)
    (case k8 => omega)
    (case k9 => omega)
    (case ka => omega)
    (case kb => omega)
    intro k6 t6 od6 h6 tk6 a6 b6 D6 F6 N6
    have hwl := hiw.length
    try clear D7
    try clear N2
    k_steps
    unfold Halt
    refine' trim_go ?k1 ?k2 ?k3 ?k4 ?k5 ?k6 ?k7 ?kq ?kN ?ko hla ?k9 ?kB ?r1
    (case kN => k_asm)
    (case k1 => k_asm)
    (case k2 => k_asm)
    (case k3 => k_asm)
    (case k4 => k_asm)
    (case k5 => rfl)
    (case k6 => ktr_room)
    (case k7 => ktr_units)
    (case kq => rfl)
    (case ko => exact off_obj ho2)
    (case k9 => omega)
    (case kB => exact hB.objs _ _ _)
    (case r1 =>
      intro g7 l7 vs1 vs2 kg e1 e2 e3 t1 t2 t3 u1 u3 gone2 kk2 h9 tk9 hB9 hla1 hla2 F9 N9 o9
      have hfz := hB9.2.2.2.1
      clear ho1 ho2 hR1 hR3 hP' hB hoff hP F₁
      have hi1 := ints_take hiw (cutZ ns.length k6).toNat
      have hi2 := ints_dropk hiw (cutZ ns.length k6).toNat
      have hc2 := cut_len (ns := ns) a6
      have hnl : (ns.take (cutZ ns.length k6).toNat).length ≤ 4 := by rw [List.length_take]; omega
      generalize ns.take (cutZ ns.length k6).toNat = ns1 at hla1 hi1 hnl
      generalize ns.drop (cutZ ns.length k6).toNat = ns2 at hla2 hi2 hc2
      have hvl := hla1.length
      have hwl1 := hi1.length
      k_dflt (refine LCg.CompSrc.ledger (by rfl) (by k_asm) (by k_asm) (.head _) ?_ (fun g => ?_))
      · simp only [List.size_toArray, sizeLine_eq]; omega
      refine comp_restH (R := fun l y i => ∃ n, ns1[i]? = some n ∧ ReadsIn w9 l y (toldP n)) (sup := fz) (fun l l' y i hs ⟨n, e, r⟩ => ⟨n, e, r.mono hs⟩) (fun p hp => .tail _ (.tail _ (.tail _ (.tail _ (.tail _ (.tail _ (.tail _ (hfz p hp)))))))) (fun tl => Or.inr ⟨_, List.mem_append.mpr (.inr (.head _)), rfl, _, rfl⟩) ?_ ?_
      · intro i v I oI C oC D ys m₂ h9 tk9 tl9 E9 hi9 hv9 hC9 hx9 F9 N9
        obtain ⟨a9, n9, rfl, hn9, hl9⟩ := hla1.get (i := i) (v := v) (by simpa using hv9)
        k_steps
        unfold Halt
        exact ⟨_, _, _, rfl, by assumption, by assumption, by assumption, _, hn9, by assumption⟩
      · intro ys1 tl1 hall1 hf1
        rw [List.size_toArray, hvl] at hall1
        k_steps
        k_dflt (refine LCg.CompSrc.ledger (by rfl) (by k_asm) (by k_asm) (.head _) ?_ (fun g => ?_))
        · with_reducible rename IntsAre _ ns1 => hI9
          have hwl9 := hI9.length
          simp only [List.size_toArray, sizeLine_eq]; omega
        with_reducible rename IntsAre _ ns1 => hI9
        have hwl9 := hI9.length
        refine comp_restH (R := fun l y i => ∃ n, ns1[i]? = some n ∧ ReadsIn w9 l y (toldP n)) (sup := []) (fun l l' y i hs ⟨n, e, r⟩ => ⟨n, e, r.mono hs⟩) (fun p hp => nomatch hp) (fun tl => Or.inr ⟨_, List.mem_append.mpr (.inr (.head _)), rfl, _, rfl⟩) ?_ ?_
        · intro i v I oI C oC D ys m₂ h9 tk9 tl9 E9 hi9 hv9 hC9 hx9 F9 N9
          have hi8 : i < ns1.length := by simpa [hwl9] using hi9
          obtain ⟨t9, hv8⟩ := hI9.get i ns1[i] (by simp [hi8])
          have hv6 := hv9
          simp only [List.getElem?_toArray] at hv6
          rw [hv8] at hv6
          have hv7 := (Option.some.inj hv6).symm
          subst hv7
          k_steps
          unfold Halt
          obtain ⟨N8, f8⟩ := elt_two (by assumption) (by assumption) (by assumption)
          exact ⟨_, _, _, rfl, by assumption, N8, f8, ns1[i], by simp [hi8], ReadsIn.mono (by assumption) (fun p hp => by rw [List.append_nil]; exact hp)⟩
        · intro ys2 tl2 hall2 hf2
          rw [List.size_toArray, hwl9] at hall2
          have hr1 := readsAll_of hall1
          have hr2 := readsAll_of hall2
          clear hall1 hall2
          k_steps
          with_reducible rename ∀ p ∈ _, Prod.fst p < _ => l9
          refine' way_end1 ?f1 ?f2 ?f3 hB9 ?f4 ?f5 D6 ?f7 ?f8 a6 ?f6 hc2 hla2 ?g2 hk4 hkb hik
          (case f1 => k_asm)
          (case f2 => k_asm)
          (case f5 => (intro p hp; lsm_bools))
          (case f4 => exact allLt_of fun p hp => l9 p (by lsm_bools))
          (case f3 => exact ⟨rfl, rfl, rfl, rfl, rfl, rfl⟩)
          (case f7 => omega)
          (case f8 => omega)
          (case f6 => omega)
          (case g2 => k_asm))
  · subst hw
    k_steps
    unfold Halt
    refine' copy_go ?k1 ?k2 ?k3 ?k4 ?k5 ?k6 ?k7 ?kq ?kN hla ?k9 ?kB ?r1
    (case kN => k_asm)
    (case k1 => k_asm)
    (case k2 => k_asm)
    (case k3 => k_asm)
    (case k4 => k_asm)
    (case k5 => rfl)
    (case k6 => ktr_room)
    (case k7 => ktr_units)
    (case kq => rfl)
    (case k9 => omega)
    (case kB => exact hB.objs _ _ _)
    (case r1 =>
      intro b7' fz2 mt2 R2 h9 tk9 md ml g1 g2 g3 v1 v2 v3 v4 v6 most' gone' hs9 hB9 hla9 hi1 hi2 F9 N9
      clear N2 ho1 ho2 hR1 hR3 hP' hB hoff hP F₁
      k_steps
      refine' way_end (tl := []) ?f1 ?f2 ?f3 hB9 ?f4 ?f5 ?f6 D7 ?f7 ?f8 m0 m4 ?f9 hla9 ?g1 ?g2 ?g4 ?g3 ?g5
      (case f1 => k_asm)
      (case f2 => k_asm)
      (case f6 => exact List.forall_mem_nil _)
      (case f5 => (intro p hp; lsm_bools))
      (case f4 => exact fun q hq => nomatch hq)
      (case f3 => exact ⟨rfl, rfl, rfl, rfl, rfl, rfl⟩)
      (case f7 => omega)
      (case f8 => omega)
      (case f9 => omega)
      (case g1 => exact hs9 _ hlb)
      (case g2 => exact hiw)
      (case g4 => omega)
      (case g3 => exact hs9 _ hlb)
      (case g5 => exact hiw))
  · subst hw
    k_steps
    unfold Halt
    refine' clear_go ?k1 ?k2 ?k3 ?k4 ?k5 ?k6 ?k7 ?kq ?kN ?ko hla ?k9 ?kB ?r1
    (case kN => k_asm)
    (case k1 => k_asm)
    (case k2 => k_asm)
    (case k3 => k_asm)
    (case k4 => k_asm)
    (case k5 => rfl)
    (case k6 => ktr_room)
    (case k7 => ktr_units)
    (case kq => rfl)
    (case ko => exact off_obj ho2)
    (case k9 => omega)
    (case kB => exact hB.objs _ _ _)
    (case r1 =>
      intro l7 e1 e2 e3 t1 t2 t3 u1 u3 gone2 kk2 h9 tk9 hB9 F9 N9
      clear N2 ho1 ho2 hR1 hR3 hP' hB hoff hP F₁
      k_steps
      with_reducible rename _ < _ ∧ _ => l9
      refine' way_end1 (vs := []) (ws := []) (ns := []) ?f1 ?f2 ?f3 hB9 ?f4 ?f5 D7 ?f7 ?f8 m0 m4 ?f9 .nil .nil hk4 hkb hik
      (case f1 => k_asm)
      (case f2 => k_asm)
      (case f5 => (intro p hp; lsm_bools))
      (case f4 => exact l9)
      (case f3 => exact ⟨rfl, rfl, rfl, rfl, rfl, rfl⟩)
      (case f7 => omega)
      (case f8 => omega)
      (case f9 => exact m0))
end Mine
theorem PySem.Challenge.cw_np0274_01_holds : PySem.Challenge.rw_np0274_01.Holds :=
  Mine.main
