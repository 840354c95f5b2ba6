import PyProof.Rows.All
import Wide.All
import OpenK.AllK
import Wide.FinOn
import PySem.Challenge.RW_np0014_01
open PySem PySem.W PyProof.Rows
set_option Elab.async false
set_option maxRecDepth 100000
namespace Mine
set_option maxHeartbeats 8000000 in
open_top hd for PySem.Challenge.rw_np0014_01
end Mine
section
open PySem PySem.W PyProof.Rows PySem.Calls
namespace Mine

/-- what a call of the def at `f` does, whoever calls it: from the ledger `news` it ends with an answer and a ledger that stand in `Post` -/
noncomputable def Ctr (w : World) (f : Addr) (args : List Value) (dn un' : Nat) (news : List (Addr × Obj)) (Post : List (Addr × Obj) → Value → Prop) : Prop :=
  ∀ (mean : ExcName → Option Value) (mg mb : Str → Option Value) (dp un : Nat) (gd : Option (List Code)) (cn : Str) (cs : Scope) (a : Addr) (ccd : Value) (cl : List (Str × Addr)) (outer : List Env) (A₀ : Around) (base h₀ : Heap) (L : Addr) (m : Str → Option Value) (s : Shared) (R : Result → Shared → Prop),
    Below A₀ base outer h₀ → Fr h₀ L s.heap m → (hd.heap_39 w.params).In h₀ → News h₀ L s.heap news → Top hd.view_39 (looseW hd.view_39 []) mean mg mb h₀ → cs.kind = .function → dp + dn < recursionLimit → un + un' < cLine →
    (∀ r nx h' tk', Fr h₀ L h' m → News h₀ L h' nx → Post nx r → R (.ok (.ret r)) { s with heap := h', toks := tk' }) →
    codeAny (model PySem.Challenge.rw_np0014_01.row.prog w) (ktrTop dp un gd cn cs L a ccd cl outer) (.call (.ref f) ⟨args, []⟩) R s

theorem Ctr.code {w : World} {f : Addr} {args : List Value} {dn un' : Nat} {news : List (Addr × Obj)} {Post : List (Addr × Obj) → Value → Prop} (C : Ctr w f args dn un' news Post)
    {mean : ExcName → Option Value} {mg mb : Str → Option Value} {dp un : Nat} {gd : Option (List Code)} {cn : Str} {cs : Scope} {a : Addr} {ccd : Value} {cl : List (Str × Addr)} {outer : List Env} {A₀ : Around} {base h₀ : Heap} {L : Addr} {m : Str → Option Value} {s : Shared} {R : Result → Shared → Prop}
    (B : Below A₀ base outer h₀) (F : Fr h₀ L s.heap m) (X : (hd.heap_39 w.params).In h₀) (N : News h₀ L s.heap news) (T : Top hd.view_39 (looseW hd.view_39 []) mean mg mb h₀) (hk : cs.kind = .function) (hd : dp + dn < recursionLimit) (hu : un + un' < cLine)
    (ret : ∀ r nx h' tk', Fr h₀ L h' m → News h₀ L h' nx → Post nx r → R (.ok (.ret r)) { s with heap := h', toks := tk' }) :
    codeAny (model PySem.Challenge.rw_np0014_01.row.prog w) (ktrTop dp un gd cn cs L a ccd cl outer) (.call (.ref f) ⟨args, []⟩) R s :=
  C _ _ _ _ _ _ _ _ _ _ _ _ _ _ _ _ _ _ _ B F X N T hk hd hu ret

theorem Ctr.use {w : World} {f : Addr} {args : List Value} {dn un' : Nat} {news : List (Addr × Obj)} {Post : List (Addr × Obj) → Value → Prop} (C : Ctr w f args dn un' news Post)
    {mean : ExcName → Option Value} {mg mb : Str → Option Value} {dp un : Nat} {gd : Option (List Code)} {cn : Str} {cs : Scope} {a : Addr} {ccd : Value} {cl : List (Str × Addr)} {outer : List Env} {A₀ : Around} {base h₀ : Heap} {L : Addr} {m : Str → Option Value} {s : Shared} {Q E : Value → Shared → Prop}
    (B : Below A₀ base outer h₀) (F : Fr h₀ L s.heap m) (X : (hd.heap_39 w.params).In h₀) (N : News h₀ L s.heap news) (T : Top hd.view_39 (looseW hd.view_39 []) mean mg mb h₀) (hk : cs.kind = .function) (hd : dp + dn < recursionLimit) (hu : un + un' < cLine)
    (ret : ∀ r nx h' tk', Fr h₀ L h' m → News h₀ L h' nx → Post nx r → Q r { s with heap := h', toks := tk' }) :
    wpAny (model PySem.Challenge.rw_np0014_01.row.prog w) (ktrTop dp un gd cn cs L a ccd cl outer) (PySem.call (.ref f) args) Q E s :=
  wpAny_call (C _ _ _ _ _ _ _ _ _ _ _ _ _ _ _ _ _ _ _ B F X N T hk hd hu ret)

theorem newsMono {h₀ h : Heap} {L : Addr} {l l' : List (Addr × Obj)} (N : News h₀ L h l) (hs : ∀ p ∈ l', p ∈ l) : News h₀ L h l' := fun p hp => N p (hs p hp)

theorem Ctr.weak {w : World} {f : Addr} {args : List Value} {dn un' : Nat} {news news1 : List (Addr × Obj)} {Post Post1 : List (Addr × Obj) → Value → Prop} (C : Ctr w f args dn un' news Post)
    (h1 : ∀ p ∈ news, p ∈ news1) (h2 : ∀ nx r, Post nx r → ∃ nx', (∀ p ∈ nx', p ∈ nx) ∧ Post1 nx' r) : Ctr w f args dn un' news1 Post1 := by
  intro mean mg mb dp un gd cn cs a ccd cl outer A₀ base h₀ L m s R B F X N T hk hd hu ret
  refine C _ _ _ _ _ _ _ _ _ _ _ _ _ _ _ _ _ _ _ B F X (newsMono N h1) T hk hd hu ?_
  intro r nx h' tk' F' N' hP
  obtain ⟨nx', hs, hP'⟩ := h2 nx r hP
  exact ret r nx' h' tk' F' (newsMono N' hs) hP'

theorem splitUniq {d : Addr} {o : Obj} : ∀ {pre pre' post post' : List (Addr × Obj)}, pre ++ (d, o) :: post = pre' ++ (d, o) :: post' → (∀ p ∈ pre, p.1 ≠ d) → (∀ p ∈ pre', p.1 ≠ d) → pre = pre' ∧ post = post'
  | [], [], _, _, e, _, _ => by simp at e; exact ⟨rfl, e⟩
  | [], x :: r, _, _, e, _, h' => by
    simp at e
    exact absurd e.1.symm (fun h => h' x (.head _) (by rw [h]))
  | y :: r, [], _, _, e, h, _ => by
    simp at e
    exact absurd e.1 (fun q => h y (.head _) (by rw [q]))
  | y :: r, x :: r', _, _, e, h, h' => by
    simp at e
    obtain ⟨rfl, e⟩ := e
    have := splitUniq e (fun p hp => h p (.tail _ hp)) (fun p hp => h' p (.tail _ hp))
    exact ⟨by rw [this.1], this.2⟩

/-- a change of one object, wherever it stands in the ledger; `ex` is what the call makes -/
theorem Ctr.upd {w : World} {f : Addr} {args : List Value} {dn un' : Nat} {news : List (Addr × Obj)} {Post : List (Addr × Obj) → Value → Prop} {d : Addr} {o : Obj} {τ : Type} {o' : τ → Obj} {news' : τ → List (Addr × Obj)} {P : τ → Value → Prop}
    (hU : ∀ t, Upd d o (o' t) news (news' t)) (t₀ : τ) (ex : τ → List (Addr × Obj))
    (C : ∀ rest, (∀ p ∈ rest, p.1 ≠ d) → (∀ p ∈ news, p = (d, o) ∨ p ∈ rest) → Ctr w f args dn un' ((d, o) :: rest) fun nx r => ∃ t, (∀ p ∈ ex t ++ (d, o' t) :: rest, p ∈ nx) ∧ P t r)
    (hP : ∀ t r, P t r → Post (ex t ++ news' t) r) : Ctr w f args dn un' news Post := by
  obtain ⟨pre, post, e1, _, h1, h2⟩ := (hU t₀).split
  have key : ∀ t, news' t = pre ++ (d, o' t) :: post := by
    intro t
    obtain ⟨pre', post', e1', e2', h1', h2'⟩ := (hU t).split
    rw [e1] at e1'
    have := splitUniq e1' h1 h1'
    rw [e2', ← this.1, ← this.2]
  subst e1
  intro mean mg mb dp un gd cn cs a ccd cl outer A₀ base h₀ L m s R B F X N T hk hd hu ret
  refine C (pre ++ post) ?_ ?_ _ _ _ _ _ _ _ _ _ _ _ _ _ _ _ _ _ _ _ B F X ?_ T hk hd hu ?_
  · intro p hp
    exact (List.mem_append.mp hp).elim (h1 p) (h2 p)
  · intro p hp
    rcases List.mem_append.mp hp with h | h
    · exact .inr (List.mem_append_left _ h)
    · rcases List.mem_cons.mp h with rfl | h
      · exact .inl rfl
      · exact .inr (List.mem_append_right _ h)
  · refine newsMono N fun p hp => ?_
    rcases List.mem_cons.mp hp with rfl | hp
    · exact List.mem_append_right _ (.head _)
    · rcases List.mem_append.mp hp with h | h
      · exact List.mem_append_left _ h
      · exact List.mem_append_right _ (.tail _ h)
  · rintro r nx h' tk' F' N' ⟨t, hs, hp⟩
    refine ret r (ex t ++ news' t) h' tk' F' ?_ (hP t r hp)
    rw [key t]
    refine newsMono N' fun p hp => hs p ?_
    rcases List.mem_append.mp hp with h | h
    · exact List.mem_append_left _ h
    · refine List.mem_append_right _ ?_
      rcases List.mem_append.mp h with h | h
      · exact .tail _ (List.mem_append_left _ h)
      · rcases List.mem_cons.mp h with rfl | h
        · exact .head _
        · exact .tail _ (List.mem_append_right _ h)
/-- what comes behind a statement is given a name, so that it is not written again at each step -/
theorem execs_cons_gen {M : Model} {A : Around} {st : Stmt} {rest : List Stmt} {env : Env} {Q : Flow → Shared → Prop} {E : Value → Shared → Prop} {s : Shared}
    (h : ∀ K : Flow → Shared → Prop, (∀ f s', (match f with | .next => wpAny M A (execs rest env) Q E s' | f => Q f s') → K f s') → wpAny M A (exec st env) K E s) : wpAny M A (execs (st :: rest) env) Q E s :=
  wpAny_execs_cons (h _ fun _ _ x => x)
theorem useK {R K : Flow → Shared → Prop} {f : Flow} {s : Shared} (hK : ∀ f s', R f s' → K f s') (h : R f s) : K f s := hK f s h
theorem eval_gen {M : Model} {A : Around} {c : Sem Value} {Q E : Value → Shared → Prop} {s : Shared}
    (h : ∀ K : Value → Shared → Prop, (∀ f s', Q f s' → K f s') → wpAny M A c K E s) : wpAny M A c Q E s := h _ fun _ _ x => x
theorem useV {R K : Value → Shared → Prop} {f : Value} {s : Shared} (hK : ∀ f s', R f s' → K f s') (h : R f s) : K f s := hK f s h
/-- room that is left: `v` is `u` and some more -/
theorem room0 {u n v k : Nat} (h : u + n < k) (e : v = u) : v < k := Nat.lt_of_le_of_lt (e ▸ Nat.le_add_right u n) h
theorem roomN (j : Nat) {u n v k : Nat} (h : u + n < k) (e : v = u + j) (d : j ≤ n) : v < k := Nat.lt_of_le_of_lt (e ▸ Nat.add_le_add_left d u) h
theorem roomA {u n a k : Nat} (h : u + n < k) (d : a ≤ n) : u + a < k := Nat.lt_of_le_of_lt (Nat.add_le_add_left d u) h
theorem roomAB {u n a b k : Nat} (h : u + n < k) (d : a + b ≤ n) : u + a + b < k := by rw [Nat.add_assoc]; exact roomA h d
theorem roomABC {u n a b c k : Nat} (h : u + n < k) (d : a + b + c ≤ n) : u + a + b + c < k := by rw [Nat.add_assoc u a b, Nat.add_assoc]; exact roomA h d
/-- a bound method is called, whose function keeps a contract -/
theorem Ctr.meth {w : World} {f q : Addr} {self : Value} {args : List Value} {dn un' : Nat} {news₀ news : List (Addr × Obj)} {Post : List (Addr × Obj) → Value → Prop} (C : Ctr w f (self :: args) dn un' news₀ Post) (hs : ∀ p ∈ news₀, p ∈ news) (hq : (q, methodObj (.ref f) self) ∈ news)
    {mean : ExcName → Option Value} {mg mb : Str → Option Value} {dp un : Nat} {gd : Option (List Code)} {cn : Str} {cs : Scope} {a : Addr} {ccd : Value} {cl : List (Str × Addr)} {outer : List Env} {A₀ : Around} {base h₀ : Heap} {L : Addr} {m : Str → Option Value} {s : Shared} {Q E : Value → Shared → Prop}
    (B : Below A₀ base outer h₀) (F : Fr h₀ L s.heap m) (X : (hd.heap_39 w.params).In h₀) (N : News h₀ L s.heap news) (T : Top hd.view_39 (looseW hd.view_39 []) mean mg mb h₀) (hk : cs.kind = .function) (hd : dp + dn < recursionLimit) (hu : un + un' < cLine)
    (ret : ∀ r nx h' tk', Fr h₀ L h' m → News h₀ L h' nx → Post nx r → Q r { s with heap := h', toks := tk' }) :
    wpAny (model PySem.Challenge.rw_np0014_01.row.prog w) (ktrTop dp un gd cn cs L a ccd cl outer) (PySem.call (.ref q) args) Q E s :=
  call_meth N hq (C _ _ _ _ _ _ _ _ _ _ _ _ _ _ _ _ _ _ _ B F X (newsMono N hs) T hk hd hu ret)
end Mine
end
section
open PySem PySem.W PyProof.Rows PySem.Calls
namespace Mine
local macro_rules | `(tactic| k_all) => `(tactic| assumption)

set_option maxHeartbeats 8000000 in
theorem draw0 (w : World) (d c : Addr) (vs : List Value) (ns : List Int) (k : Int) (tk : Tok) (nd nc : Nat) (many : Int) (tm : Tok) (rest : List (Addr × Obj))
    (hi : IntsAre vs ns) (hn : ns.length ≤ 63) (hk0 : 0 ≤ k) (hk1 : k ≤ 10000) (hm0 : 0 < many) (hm1 : many ≤ 70000) (hrest : ∀ p ∈ rest, p.1 ≠ d) (hcd : c ≠ d) :
    Ctr w 140 [.ref d, .int many tm] 1 8 ((d, listOf #[.ref c, .int k tk] nd) :: (c, listOf vs.toArray nc) :: rest)
      (fun nx r => ∃ t', nx = (d, listOf #[.ref c, .int (k+1) t'] nd) :: (c, listOf vs.toArray nc) :: rest ∧ ∃ v t, r = .int v t ∧ 0 ≤ v ∧ v < many) := by
  unfold Ctr
  k_fill
  intro mean mg mb dp un gd cn cs a ccd cl outer A₀ base h₀ L m s R B F X N T hk hdp hu hret
  k_dflt cell_enter
  w_top off
  k_steps
  all_goals (refine hret _ _ _ _ (by assumption) (by assumption) ⟨_, rfl, _, _, rfl, ?_, ?_⟩)
  all_goals first | exact Int.fmod_nonneg_of_pos _ hm0 | exact Int.fmod_lt_of_pos _ hm0

theorem draw (w : World) (d c : Addr) (vs : List Value) (ns : List Int) (k : Int) (tk : Tok) (nd nc : Nat) (many : Int) (tm : Tok) (news : List (Addr × Obj)) (upd : Tok → List (Addr × Obj))
    (hU : ∀ t, Upd d (listOf #[.ref c, .int k tk] nd) (listOf #[.ref c, .int (k+1) t] nd) news (upd t)) (hc : (c, listOf vs.toArray nc) ∈ news) (hcd : c ≠ d)
    (hi : IntsAre vs ns) (hn : ns.length ≤ 63) (hk0 : 0 ≤ k) (hk1 : k ≤ 10000) (hm0 : 0 < many) (hm1 : many ≤ 70000) :
    Ctr w 140 [.ref d, .int many tm] 1 8 news (fun nx r => ∃ t', nx = upd t' ∧ ∃ v t, r = .int v t ∧ 0 ≤ v ∧ v < many) :=
  Ctr.upd hU (0 : Nat) (fun _ => []) (P := fun _ r => ∃ v t, r = .int v t ∧ 0 ≤ v ∧ v < many)
    (fun rest h1 h2 => (draw0 w d c vs ns k tk nd nc many tm rest hi hn hk0 hk1 hm0 hm1 h1 hcd).weak
      (fun p hp => by
        rcases List.mem_cons.mp hp with rfl | hp
        · exact .head _
        · rcases List.mem_cons.mp hp with rfl | hp
          · exact .tail _ ((h2 _ hc).resolve_left (fun e => hcd (congrArg Prod.fst e)))
          · exact .tail _ hp)
      (fun nx r h => by
        obtain ⟨t, rfl, hv⟩ := h
        exact ⟨_, fun p hp => hp, t, fun p hp => by
          rcases List.mem_cons.mp hp with rfl | hp
          · exact .head _
          · exact .tail _ (.tail _ hp), hv⟩))
    (fun t r h => ⟨t, rfl, h⟩)
/-- what a draw gives, without copies of the goal -/
theorem drawElim {upd : Tok → List (Addr × Obj)} {many : Int} {nx : List (Addr × Obj)} {r : Value} {G : Prop} (h : ∃ t', nx = upd t' ∧ ∃ v t, r = .int v t ∧ 0 ≤ v ∧ v < many)
    (g : ∀ q v t, nx = upd q → r = .int v t → 0 ≤ v → v < many → G) : G := by
  obtain ⟨q, e1, v, t, e2, l1, l2⟩ := h
  exact g q v t e1 e2 l1 l2
end Mine
end
section
open PySem PySem.W PyProof.Rows PySem.Calls PySem.SeqAt
namespace Mine

section
variable {prog : Program} {w : World} {A : Around} {E : Value → Shared → Prop} {s : Shared} {Q : Value → Shared → Prop} {l b : Addr} {xs : List Value}
theorem eqEmpty (hl : s.heap.IsList l xs.toArray) (hb : s.heap.IsList b #[]) (hu : A.units < cLine) (h : Q (.bool (decide (xs = []))) s) : wpAny (model prog w) A (compareOp .Eq (.ref l) (.ref b)) Q E s := by
  cases xs with
  | nil => exact eq_listAt (e := fun _ => true) hl hb rfl hu (fun j h1 _ => absurd h1 (Nat.not_lt_zero _)) h
  | cons v r => exact eq_list_lengthsAt hl hb (by simp) hu (by simpa using h)
theorem neEmpty (hl : s.heap.IsList l xs.toArray) (hb : s.heap.IsList b #[]) (hu : A.units < cLine) (h : Q (.bool (!decide (xs = []))) s) : wpAny (model prog w) A (compareOp .NotEq (.ref l) (.ref b)) Q E s := by
  cases xs with
  | nil => exact RcNeAt.lists (e := fun _ => true) hl hb rfl hu (fun j h1 _ => absurd h1 (Nat.not_lt_zero _)) prog w E Q (by simpa using h)
  | cons v r => exact RcNeAt.lists_lengths hl hb (by simp) hu prog w E Q (by simpa using h)
theorem lenVals (hl : s.heap.IsList l xs.toArray) (hz : xs.length ≤ 1000) (h : ∀ n : Int, n = (xs.length : Int) → Q (.int n (s.toks + 1)) { s with toks := s.toks + 1 + 1 }) : wpAny (model prog w) A (PySem.call (.builtin "len") [.ref l]) Q E s :=
  len_list hl (by rw [List.size_toArray]; omega) (by rw [List.size_toArray]; exact h _ rfl)
theorem eqNil (hl : s.heap.IsList l #[]) (hb : s.heap.IsList b #[]) (hu : A.units < cLine) (h : Q (.bool true) s) : wpAny (model prog w) A (compareOp .Eq (.ref l) (.ref b)) Q E s := eqEmpty (xs := []) hl hb hu h
theorem neNil (hl : s.heap.IsList l #[]) (hb : s.heap.IsList b #[]) (hu : A.units < cLine) (h : Q (.bool false) s) : wpAny (model prog w) A (compareOp .NotEq (.ref l) (.ref b)) Q E s := neEmpty (xs := []) hl hb hu h
theorem eqCons {v : Value} (hl : s.heap.IsList l (v :: xs).toArray) (hb : s.heap.IsList b #[]) (hu : A.units < cLine) (h : Q (.bool false) s) : wpAny (model prog w) A (compareOp .Eq (.ref l) (.ref b)) Q E s := eqEmpty hl hb hu h
theorem eqSnoc {v : Value} (hl : s.heap.IsList l (xs ++ [v]).toArray) (hb : s.heap.IsList b #[]) (hu : A.units < cLine) (h : Q (.bool false) s) : wpAny (model prog w) A (compareOp .Eq (.ref l) (.ref b)) Q E s := eqEmpty hl hb hu (by simpa using h)
theorem neCons {v : Value} (hl : s.heap.IsList l (v :: xs).toArray) (hb : s.heap.IsList b #[]) (hu : A.units < cLine) (h : Q (.bool true) s) : wpAny (model prog w) A (compareOp .NotEq (.ref l) (.ref b)) Q E s := neEmpty hl hb hu h
end

theorem pickFrom (vs : List Value) (k : Nat) : kms_pick vs (some (k : Int)) none = vs.drop k := by
  unfold kms_pick kms_lo kms_hi; dsimp only
  rw [if_neg (by omega)]
  simp only [Int.toNat_natCast]
  rw [List.take_of_length_le (by simp), kmk_drop_min]
theorem pickTo (vs : List Value) (k : Int) (hk : 0 ≤ k) : kms_pick vs none (some k) = vs.take k.toNat := by
  unfold kms_pick kms_lo kms_hi; dsimp only
  rw [if_neg (by omega)]
  simp only [List.drop_zero, Nat.sub_zero]
  rw [kmk_take_min]
theorem pickLast (vs : List Value) : kms_pick vs (some (-1)) none = vs.drop (vs.length - 1) := by
  unfold kms_pick kms_lo kms_hi; dsimp only
  rw [if_pos (by decide)]
  show (vs.drop (vs.length - 1)).take _ = _
  rw [List.take_of_length_le (by simp)]
theorem pickBut (vs : List Value) : kms_pick vs none (some (-1)) = vs.take (vs.length - 1) := by
  unfold kms_pick kms_lo kms_hi; dsimp only
  rw [if_pos (by decide)]
  simp only [List.drop_zero, Nat.sub_zero]
  rfl
theorem pickNil (lo hi : Option Int) : kms_pick [] lo hi = [] := by unfold kms_pick; simp
theorem pickLast2 (vs : List Value) (z : Value) : kms_pick (vs ++ [z]) (some (-1)) none = [z] := by rw [pickLast]; simp
theorem pickBut2 (vs : List Value) (z : Value) : kms_pick (vs ++ [z]) none (some (-1)) = vs := by rw [pickBut]; simp
theorem pickLast3 (x : Value) (vs : List Value) (z : Value) : kms_pick (x :: (vs ++ [z])) (some (-1)) none = [z] := pickLast2 (x :: vs) z
theorem pickBut3 (x : Value) (vs : List Value) (z : Value) : kms_pick (x :: (vs ++ [z])) none (some (-1)) = x :: vs := pickBut2 (x :: vs) z
noncomputable abbrev pick1 (vs : List Value) : kms_pick vs (some 1) none = vs.drop 1 := pickFrom vs 1
noncomputable abbrev pick2 (vs : List Value) : kms_pick vs (some 2) none = vs.drop 2 := pickFrom vs 2

theorem pick1c (x : Value) (vs : List Value) : kms_pick (x :: vs) (some 1) none = vs := pickFrom _ 1
theorem pick2c (x y : Value) (vs : List Value) : kms_pick (x :: y :: vs) (some 2) none = vs := pickFrom _ 2
theorem pickT1c (x : Value) (vs : List Value) : kms_pick (x :: vs) none (some 1) = [x] := pickTo _ 1 (by decide)
theorem memTwo {α : Type} {p a b : α} {l : List α} (h : p ∈ a :: b :: l) : p = a ∨ p = b ∨ p ∈ l := by simpa using h
noncomputable abbrev ringD (P : Params) (t1 t2 t3 : Tok) (most : Int) (tm : Tok) (last others : Value) : List DictEntry :=
  [⟨PyData.keyHash P (Str.ofString "most"), .str (Str.ofString "most") t1, .int most tm⟩, ⟨PyData.keyHash P (Str.ofString "last"), .str (Str.ofString "last") t2, last⟩, ⟨PyData.keyHash P (Str.ofString "others"), .str (Str.ofString "others") t3, others⟩]
noncomputable abbrev ringO (P : Params) (t1 t2 t3 : Tok) (most : Int) (tm : Tok) (last others : Value) : Obj := dictOf (ringD P t1 t2 t3 most tm last others) 3
noncomputable abbrev madeO (P : Params) (k1 k2 k3 : Tok) (e : Addr) (b : Int) (tb tf : Tok) : Obj :=
  dictOf [⟨PyData.keyHash P (Str.ofString "events"), .str (Str.ofString "events") k1, .ref e⟩, ⟨PyData.keyHash P (Str.ofString "counter"), .str (Str.ofString "counter") k2, .int b tb⟩, ⟨PyData.keyHash P (Str.ofString "form"), .str (Str.ofString "form") k3, .str (Str.ofString "%d") tf⟩] 3
noncomputable abbrev tupO (b : Int) (tb : Tok) : Obj := { cls := .type "tuple", data := .seq #[.int b tb] }
noncomputable abbrev topOf (most : Int) : Nat := (if most > 1 then most else 1).toNat
noncomputable abbrev roomOf (most : Int) : Nat := (if most - 1 > 0 then most - 1 else 0).toNat
end Mine
end
section
local macro_rules | `(tactic| k_all) => `(tactic| assumption)
local macro_rules | `(tactic| k_room) => `(tactic| ktr_room)
local macro_rules | `(tactic| k_units) => `(tactic| ktr_units)
local macro_rules | `(tactic| ke_room) => `(tactic| ktr_units)
section
open PySem PySem.W PyProof.Rows PySem.Calls PySem.SeqAt
namespace Mine

set_option maxHeartbeats 8000000 in
theorem rows1 (w : World) (r dr o : Addr) (x : Addr) (t1 t2 t3 : Tok) (most : Int) (tm : Tok) (vs : List Value) (no : Nat) (rest : List (Addr × Obj)) (hz : vs.length ≤ 100) :
    Ctr w 56 [.ref r] 1 8 ((r, instObj 101 dr) :: (dr, ringO w.params t1 t2 t3 most tm (.ref x) (.ref o)) :: (o, listOf vs.toArray no) :: rest)
      (fun nx r' => ∃ q, r' = .ref q ∧ (∀ p ∈ (q, listOf (Value.ref x :: vs).toArray 0) :: (r, instObj 101 dr) :: (dr, ringO w.params t1 t2 t3 most tm (.ref x) (.ref o)) :: (o, listOf vs.toArray no) :: rest, p ∈ nx) ∧
        AllLt q ((r, instObj 101 dr) :: (dr, ringO w.params t1 t2 t3 most tm (.ref x) (.ref o)) :: (o, listOf vs.toArray no) :: rest)) := by
  unfold Ctr
  k_fill
  intro mean mg mb dp un gd cn cs a ccd cl outer A₀ base h₀ L m s R B F X N T hk hdp hu hret
  k_dflt cell_enter
  w_top off
  repeat' (first
    | (k_unfold; (try dsimp only))
    | (k_here; (with_reducible show wpAny _ _ (subscriptTail _ (PySem.Expr.Slice _ _ none _) (Value.ref _) (Value.ref _)) _ _ _); k_dflt (refine' kms_slice_lit ?hh9F ?hh9N ?hh9l ?hh9p ?hh9q ?hh9e ?_ ?hh9s ?hh9t ?hh9z; (case hh9F => k_asm); (case hh9N => k_asm); (case hh9l => kmk_list); (case hh9p => kmk_part); (case hh9q => kmk_part); (case hh9e => first | exact pickNil _ _ | exact pick1c _ _ | exact pick2c _ _ _ | exact pickT1c _ _ | exact pickLast3 _ _ _ | exact pickBut3 _ _ _ | exact pickLast2 _ _ | exact pickBut2 _ _ | exact pick1 _ | exact pick2 _ | exact pickLast _ | exact pickBut _ | exact pickTo _ _ (by omega)); (case hh9s => with_unfolding_all rfl); (case hh9t => kmk_pure); (case hh9z => (simp only [sizeLine_eq, List.size_toArray, List.length_cons, List.length_nil, List.length_append, List.length_drop, List.length_take]; omega))); intro D' h' F' N' l1; (try k_lt l1); (try k_sweep))
    | (k_here; (with_reducible show wpAny _ _ (compareOp CmpOp.NotEq (Value.ref _) (Value.ref _)) _ _ _); k_dflt (refine' neNil ?hh9a ?hh9b ?hh9u ?_; (case hh9a => kmk_list); (case hh9b => kmk_list); (case hh9u => (first | exact roomA (by with_reducible assumption) (by decide) | exact roomAB (by with_reducible assumption) (by decide) | exact roomABC (by with_reducible assumption) (by decide) | exact room0 (by with_reducible assumption) (by rfl) | exact roomN 3 (by with_reducible assumption) (by rfl) (by decide) | exact roomN 6 (by with_reducible assumption) (by rfl) (by decide) | ktr_units))))
    | (k_here; (with_reducible show wpAny _ _ (compareOp CmpOp.NotEq (Value.ref _) (Value.ref _)) _ _ _); k_dflt (refine' neCons ?hh9a ?hh9b ?hh9u ?_; (case hh9a => kmk_list); (case hh9b => kmk_list); (case hh9u => (first | exact roomA (by with_reducible assumption) (by decide) | exact roomAB (by with_reducible assumption) (by decide) | exact roomABC (by with_reducible assumption) (by decide) | exact room0 (by with_reducible assumption) (by rfl) | exact roomN 3 (by with_reducible assumption) (by rfl) (by decide) | exact roomN 6 (by with_reducible assumption) (by rfl) (by decide) | ktr_units))))
    | (k_here; (with_reducible show wpAny _ _ (compareOp CmpOp.NotEq (Value.ref _) (Value.ref _)) _ _ _); k_dflt (refine' neEmpty ?hh9a ?hh9b ?hh9u ?_; (case hh9a => kmk_list); (case hh9b => kmk_list); (case hh9u => (first | exact roomA (by with_reducible assumption) (by decide) | exact roomAB (by with_reducible assumption) (by decide) | exact roomABC (by with_reducible assumption) (by decide) | exact room0 (by with_reducible assumption) (by rfl) | exact roomN 3 (by with_reducible assumption) (by rfl) (by decide) | exact roomN 6 (by with_reducible assumption) (by rfl) (by decide) | ktr_units))))
    | (k_here; (with_reducible show wpAny _ _ (compareOp CmpOp.Eq (Value.ref _) (Value.ref _)) _ _ _); k_dflt (refine' eqNil ?hh9a ?hh9b ?hh9u ?_; (case hh9a => kmk_list); (case hh9b => kmk_list); (case hh9u => (first | exact roomA (by with_reducible assumption) (by decide) | exact roomAB (by with_reducible assumption) (by decide) | exact roomABC (by with_reducible assumption) (by decide) | exact room0 (by with_reducible assumption) (by rfl) | exact roomN 3 (by with_reducible assumption) (by rfl) (by decide) | exact roomN 6 (by with_reducible assumption) (by rfl) (by decide) | ktr_units))))
    | (k_here; (with_reducible show wpAny _ _ (compareOp CmpOp.Eq (Value.ref _) (Value.ref _)) _ _ _); k_dflt (refine' eqSnoc ?hh9a ?hh9b ?hh9u ?_; (case hh9a => kmk_list); (case hh9b => kmk_list); (case hh9u => (first | exact roomA (by with_reducible assumption) (by decide) | exact roomAB (by with_reducible assumption) (by decide) | exact roomABC (by with_reducible assumption) (by decide) | exact room0 (by with_reducible assumption) (by rfl) | exact roomN 3 (by with_reducible assumption) (by rfl) (by decide) | exact roomN 6 (by with_reducible assumption) (by rfl) (by decide) | ktr_units))))
    | (k_here; (with_reducible show wpAny _ _ (compareOp CmpOp.Eq (Value.ref _) (Value.ref _)) _ _ _); k_dflt (refine' eqCons ?hh9a ?hh9b ?hh9u ?_; (case hh9a => kmk_list); (case hh9b => kmk_list); (case hh9u => (first | exact roomA (by with_reducible assumption) (by decide) | exact roomAB (by with_reducible assumption) (by decide) | exact roomABC (by with_reducible assumption) (by decide) | exact room0 (by with_reducible assumption) (by rfl) | exact roomN 3 (by with_reducible assumption) (by rfl) (by decide) | exact roomN 6 (by with_reducible assumption) (by rfl) (by decide) | ktr_units))))
    | (k_here; (with_reducible show wpAny _ _ (compareOp CmpOp.Eq (Value.ref _) (Value.ref _)) _ _ _); k_dflt (refine' eqEmpty ?hh9a ?hh9b ?hh9u ?_; (case hh9a => kmk_list); (case hh9b => kmk_list); (case hh9u => (first | exact roomA (by with_reducible assumption) (by decide) | exact roomAB (by with_reducible assumption) (by decide) | exact roomABC (by with_reducible assumption) (by decide) | exact room0 (by with_reducible assumption) (by rfl) | exact roomN 3 (by with_reducible assumption) (by rfl) (by decide) | exact roomN 6 (by with_reducible assumption) (by rfl) (by decide) | ktr_units))))
    | (k_here; (with_reducible show wpAny _ _ (binaryOp _ (Value.ref _) (Value.ref _)) _ _ _); k_dflt (refine' kmk_add_lit ?hh9F ?hh9N ?hh9a ?hh9b ?hh9e ?_ ?hh9z; (case hh9F => k_asm); (case hh9N => k_asm); (case hh9a => kmk_list); (case hh9b => kmk_list); (case hh9e => ((simp only [List.cons_append, List.nil_append]); exact rfl)); (case hh9z => (simp only [sizeLine_eq, List.length_cons, List.length_nil, List.length_append, List.length_drop, List.length_take]; omega))); intro D' h' F' N' l1; (try k_lt l1); (try k_sweep))
    | (k_end; wrow_close)
    | walk1
    | (dsimp only; walk1)
    | (leave1; walk_say "STEP leave1"; try dsimp only)
    | fail "no step")
  rename (_ < _ ∧ _) => l2
  refine hret _ _ _ _ (by assumption) (by assumption) ⟨_, rfl, fun p hp => ?_, l2.2⟩
  rcases List.mem_cons.mp hp with rfl | hp
  · exact .head _
  · exact .tail _ (.tail _ hp)
theorem rows1u (w : World) (r dr o : Addr) (x : Addr) (t1 t2 t3 : Tok) (most : Int) (tm : Tok) (vs : List Value) (no : Nat) (news : List (Addr × Obj)) (hr : (r, instObj 101 dr) ∈ news) (hdr : (dr, ringO w.params t1 t2 t3 most tm (.ref x) (.ref o)) ∈ news)
    (ho : (o, listOf vs.toArray no) ∈ news) (hz : vs.length ≤ 100) :
    Ctr w 56 [.ref r] 1 8 news (fun nx r' => ∃ q, r' = .ref q ∧ nx = (q, listOf (Value.ref x :: vs).toArray 0) :: news ∧ ∀ p ∈ news, p.1 < q) :=
  (rows1 w r dr o x t1 t2 t3 most tm vs no news hz).weak
    (fun p hp => by
      rcases List.mem_cons.mp hp with rfl | hp
      · exact hr
      · rcases memTwo hp with rfl | rfl | hp
        · exact hdr
        · exact ho
        · exact hp)
    (fun nx r' h => by
      obtain ⟨q, rfl, hs, hl⟩ := h
      refine ⟨_, fun p hp => hs p ?_, q, rfl, rfl, fun p hp => ktn_ltOf hl p (.tail _ (.tail _ (.tail _ hp)))⟩
      rcases List.mem_cons.mp hp with rfl | hp
      · exact .head _
      · exact .tail _ (.tail _ (.tail _ (.tail _ hp))))
set_option maxHeartbeats 8000000 in
theorem rows0 (w : World) (r dr o : Addr) (t1 t2 t3 : Tok) (most : Int) (tm : Tok) (rest : List (Addr × Obj)) :
    Ctr w 56 [.ref r] 1 8 ((r, instObj 101 dr) :: (dr, ringO w.params t1 t2 t3 most tm .none (.ref o)) :: rest)
      (fun nx r' => r' = .ref o ∧ nx = (r, instObj 101 dr) :: (dr, ringO w.params t1 t2 t3 most tm .none (.ref o)) :: rest) := by
  unfold Ctr
  k_fill
  intro mean mg mb dp un gd cn cs a ccd cl outer A₀ base h₀ L m s R B F X N T hk hdp hu hret
  k_dflt cell_enter
  w_top off
  repeat' (first
    | (k_unfold; (try dsimp only))
    | (k_here; (with_reducible show wpAny _ _ (subscriptTail _ (PySem.Expr.Slice _ _ none _) (Value.ref _) (Value.ref _)) _ _ _); k_dflt (refine' kms_slice_lit ?hh9F ?hh9N ?hh9l ?hh9p ?hh9q ?hh9e ?_ ?hh9s ?hh9t ?hh9z; (case hh9F => k_asm); (case hh9N => k_asm); (case hh9l => kmk_list); (case hh9p => kmk_part); (case hh9q => kmk_part); (case hh9e => first | exact pickNil _ _ | exact pick1c _ _ | exact pick2c _ _ _ | exact pickT1c _ _ | exact pickLast3 _ _ _ | exact pickBut3 _ _ _ | exact pickLast2 _ _ | exact pickBut2 _ _ | exact pick1 _ | exact pick2 _ | exact pickLast _ | exact pickBut _ | exact pickTo _ _ (by omega)); (case hh9s => with_unfolding_all rfl); (case hh9t => kmk_pure); (case hh9z => (simp only [sizeLine_eq, List.size_toArray, List.length_cons, List.length_nil, List.length_append, List.length_drop, List.length_take]; omega))); intro D' h' F' N' l1; (try k_lt l1); (try k_sweep))
    | (k_here; (with_reducible show wpAny _ _ (compareOp CmpOp.NotEq (Value.ref _) (Value.ref _)) _ _ _); k_dflt (refine' neNil ?hh9a ?hh9b ?hh9u ?_; (case hh9a => kmk_list); (case hh9b => kmk_list); (case hh9u => (first | exact roomA (by with_reducible assumption) (by decide) | exact roomAB (by with_reducible assumption) (by decide) | exact roomABC (by with_reducible assumption) (by decide) | exact room0 (by with_reducible assumption) (by rfl) | exact roomN 3 (by with_reducible assumption) (by rfl) (by decide) | exact roomN 6 (by with_reducible assumption) (by rfl) (by decide) | ktr_units))))
    | (k_here; (with_reducible show wpAny _ _ (compareOp CmpOp.NotEq (Value.ref _) (Value.ref _)) _ _ _); k_dflt (refine' neCons ?hh9a ?hh9b ?hh9u ?_; (case hh9a => kmk_list); (case hh9b => kmk_list); (case hh9u => (first | exact roomA (by with_reducible assumption) (by decide) | exact roomAB (by with_reducible assumption) (by decide) | exact roomABC (by with_reducible assumption) (by decide) | exact room0 (by with_reducible assumption) (by rfl) | exact roomN 3 (by with_reducible assumption) (by rfl) (by decide) | exact roomN 6 (by with_reducible assumption) (by rfl) (by decide) | ktr_units))))
    | (k_here; (with_reducible show wpAny _ _ (compareOp CmpOp.NotEq (Value.ref _) (Value.ref _)) _ _ _); k_dflt (refine' neEmpty ?hh9a ?hh9b ?hh9u ?_; (case hh9a => kmk_list); (case hh9b => kmk_list); (case hh9u => (first | exact roomA (by with_reducible assumption) (by decide) | exact roomAB (by with_reducible assumption) (by decide) | exact roomABC (by with_reducible assumption) (by decide) | exact room0 (by with_reducible assumption) (by rfl) | exact roomN 3 (by with_reducible assumption) (by rfl) (by decide) | exact roomN 6 (by with_reducible assumption) (by rfl) (by decide) | ktr_units))))
    | (k_here; (with_reducible show wpAny _ _ (compareOp CmpOp.Eq (Value.ref _) (Value.ref _)) _ _ _); k_dflt (refine' eqNil ?hh9a ?hh9b ?hh9u ?_; (case hh9a => kmk_list); (case hh9b => kmk_list); (case hh9u => (first | exact roomA (by with_reducible assumption) (by decide) | exact roomAB (by with_reducible assumption) (by decide) | exact roomABC (by with_reducible assumption) (by decide) | exact room0 (by with_reducible assumption) (by rfl) | exact roomN 3 (by with_reducible assumption) (by rfl) (by decide) | exact roomN 6 (by with_reducible assumption) (by rfl) (by decide) | ktr_units))))
    | (k_here; (with_reducible show wpAny _ _ (compareOp CmpOp.Eq (Value.ref _) (Value.ref _)) _ _ _); k_dflt (refine' eqSnoc ?hh9a ?hh9b ?hh9u ?_; (case hh9a => kmk_list); (case hh9b => kmk_list); (case hh9u => (first | exact roomA (by with_reducible assumption) (by decide) | exact roomAB (by with_reducible assumption) (by decide) | exact roomABC (by with_reducible assumption) (by decide) | exact room0 (by with_reducible assumption) (by rfl) | exact roomN 3 (by with_reducible assumption) (by rfl) (by decide) | exact roomN 6 (by with_reducible assumption) (by rfl) (by decide) | ktr_units))))
    | (k_here; (with_reducible show wpAny _ _ (compareOp CmpOp.Eq (Value.ref _) (Value.ref _)) _ _ _); k_dflt (refine' eqCons ?hh9a ?hh9b ?hh9u ?_; (case hh9a => kmk_list); (case hh9b => kmk_list); (case hh9u => (first | exact roomA (by with_reducible assumption) (by decide) | exact roomAB (by with_reducible assumption) (by decide) | exact roomABC (by with_reducible assumption) (by decide) | exact room0 (by with_reducible assumption) (by rfl) | exact roomN 3 (by with_reducible assumption) (by rfl) (by decide) | exact roomN 6 (by with_reducible assumption) (by rfl) (by decide) | ktr_units))))
    | (k_here; (with_reducible show wpAny _ _ (compareOp CmpOp.Eq (Value.ref _) (Value.ref _)) _ _ _); k_dflt (refine' eqEmpty ?hh9a ?hh9b ?hh9u ?_; (case hh9a => kmk_list); (case hh9b => kmk_list); (case hh9u => (first | exact roomA (by with_reducible assumption) (by decide) | exact roomAB (by with_reducible assumption) (by decide) | exact roomABC (by with_reducible assumption) (by decide) | exact room0 (by with_reducible assumption) (by rfl) | exact roomN 3 (by with_reducible assumption) (by rfl) (by decide) | exact roomN 6 (by with_reducible assumption) (by rfl) (by decide) | ktr_units))))
    | (k_here; (with_reducible show wpAny _ _ (binaryOp _ (Value.ref _) (Value.ref _)) _ _ _); k_dflt (refine' kmk_add_lit ?hh9F ?hh9N ?hh9a ?hh9b ?hh9e ?_ ?hh9z; (case hh9F => k_asm); (case hh9N => k_asm); (case hh9a => kmk_list); (case hh9b => kmk_list); (case hh9e => ((simp only [List.cons_append, List.nil_append]); exact rfl)); (case hh9z => (simp only [sizeLine_eq, List.length_cons, List.length_nil, List.length_append, List.length_drop, List.length_take]; omega))); intro D' h' F' N' l1; (try k_lt l1); (try k_sweep))
    | (k_end; wrow_close)
    | walk1
    | (dsimp only; walk1)
    | (leave1; walk_say "STEP leave1"; try dsimp only)
    | fail "no step")
  exact hret _ _ _ _ (by assumption) (by assumption) ⟨rfl, rfl⟩
theorem rows0u (w : World) (r dr o : Addr) (t1 t2 t3 : Tok) (most : Int) (tm : Tok) (news : List (Addr × Obj)) (hr : (r, instObj 101 dr) ∈ news) (hdr : (dr, ringO w.params t1 t2 t3 most tm .none (.ref o)) ∈ news) :
    Ctr w 56 [.ref r] 1 8 news (fun nx r' => r' = .ref o ∧ nx = news) :=
  (rows0 w r dr o t1 t2 t3 most tm news).weak
    (fun p hp => by
      rcases memTwo hp with rfl | rfl | hp
      · exact hr
      · exact hdr
      · exact hp)
    (fun nx r' h => by
      obtain ⟨rfl, rfl⟩ := h
      exact ⟨_, fun p hp => .tail _ (.tail _ hp), rfl, rfl⟩)
set_option maxHeartbeats 8000000 in
theorem take1 (w : World) (r dr q : Addr) (t1 t2 t3 : Tok) (most : Int) (tm : Tok) (l0 o0 v : Value) (vs : List Value) (nq : Nat) (rest : List (Addr × Obj)) (hz : vs.length ≤ 100) (hrd : r ≠ dr) (hq : q ≠ dr) (hrest : ∀ p ∈ rest, p.1 ≠ dr) :
    Ctr w 70 [.ref r, .ref q] 1 8 ((dr, ringO w.params t1 t2 t3 most tm l0 o0) :: (r, instObj 101 dr) :: (q, listOf (v :: vs).toArray nq) :: rest)
      (fun nx r' => ∃ D, (∀ p ∈ (D, listOf vs.toArray 0) :: (dr, ringO w.params t1 t2 t3 most tm v (.ref D)) :: (r, instObj 101 dr) :: (q, listOf (v :: vs).toArray nq) :: rest, p ∈ nx) ∧ r' = .none ∧
        AllLt D ((dr, ringO w.params t1 t2 t3 most tm l0 o0) :: (r, instObj 101 dr) :: (q, listOf (v :: vs).toArray nq) :: rest)) := by
  unfold Ctr
  k_fill
  intro mean mg mb dp un gd cn cs a ccd cl outer A₀ base h₀ L m s R B F X N T hk hdp hu hret
  k_dflt cell_enter
  w_top off
  repeat' (first
    | (k_unfold; (try dsimp only))
    | (k_here; (with_reducible show wpAny _ _ (subscriptTail _ (PySem.Expr.Slice _ _ none _) (Value.ref _) (Value.ref _)) _ _ _); k_dflt (refine' kms_slice_lit ?hh9F ?hh9N ?hh9l ?hh9p ?hh9q ?hh9e ?_ ?hh9s ?hh9t ?hh9z; (case hh9F => k_asm); (case hh9N => k_asm); (case hh9l => kmk_list); (case hh9p => kmk_part); (case hh9q => kmk_part); (case hh9e => first | exact pickNil _ _ | exact pick1c _ _ | exact pick2c _ _ _ | exact pickT1c _ _ | exact pickLast3 _ _ _ | exact pickBut3 _ _ _ | exact pickLast2 _ _ | exact pickBut2 _ _ | exact pick1 _ | exact pick2 _ | exact pickLast _ | exact pickBut _ | exact pickTo _ _ (by omega)); (case hh9s => with_unfolding_all rfl); (case hh9t => kmk_pure); (case hh9z => (simp only [sizeLine_eq, List.size_toArray, List.length_cons, List.length_nil, List.length_append, List.length_drop, List.length_take]; omega))); intro D' h' F' N' l1; (try k_lt l1); (try k_sweep))
    | (k_here; (with_reducible show wpAny _ _ (compareOp CmpOp.NotEq (Value.ref _) (Value.ref _)) _ _ _); k_dflt (refine' neNil ?hh9a ?hh9b ?hh9u ?_; (case hh9a => kmk_list); (case hh9b => kmk_list); (case hh9u => (first | exact roomA (by with_reducible assumption) (by decide) | exact roomAB (by with_reducible assumption) (by decide) | exact roomABC (by with_reducible assumption) (by decide) | exact room0 (by with_reducible assumption) (by rfl) | exact roomN 3 (by with_reducible assumption) (by rfl) (by decide) | exact roomN 6 (by with_reducible assumption) (by rfl) (by decide) | ktr_units))))
    | (k_here; (with_reducible show wpAny _ _ (compareOp CmpOp.NotEq (Value.ref _) (Value.ref _)) _ _ _); k_dflt (refine' neCons ?hh9a ?hh9b ?hh9u ?_; (case hh9a => kmk_list); (case hh9b => kmk_list); (case hh9u => (first | exact roomA (by with_reducible assumption) (by decide) | exact roomAB (by with_reducible assumption) (by decide) | exact roomABC (by with_reducible assumption) (by decide) | exact room0 (by with_reducible assumption) (by rfl) | exact roomN 3 (by with_reducible assumption) (by rfl) (by decide) | exact roomN 6 (by with_reducible assumption) (by rfl) (by decide) | ktr_units))))
    | (k_here; (with_reducible show wpAny _ _ (compareOp CmpOp.NotEq (Value.ref _) (Value.ref _)) _ _ _); k_dflt (refine' neEmpty ?hh9a ?hh9b ?hh9u ?_; (case hh9a => kmk_list); (case hh9b => kmk_list); (case hh9u => (first | exact roomA (by with_reducible assumption) (by decide) | exact roomAB (by with_reducible assumption) (by decide) | exact roomABC (by with_reducible assumption) (by decide) | exact room0 (by with_reducible assumption) (by rfl) | exact roomN 3 (by with_reducible assumption) (by rfl) (by decide) | exact roomN 6 (by with_reducible assumption) (by rfl) (by decide) | ktr_units))))
    | (k_here; (with_reducible show wpAny _ _ (compareOp CmpOp.Eq (Value.ref _) (Value.ref _)) _ _ _); k_dflt (refine' eqNil ?hh9a ?hh9b ?hh9u ?_; (case hh9a => kmk_list); (case hh9b => kmk_list); (case hh9u => (first | exact roomA (by with_reducible assumption) (by decide) | exact roomAB (by with_reducible assumption) (by decide) | exact roomABC (by with_reducible assumption) (by decide) | exact room0 (by with_reducible assumption) (by rfl) | exact roomN 3 (by with_reducible assumption) (by rfl) (by decide) | exact roomN 6 (by with_reducible assumption) (by rfl) (by decide) | ktr_units))))
    | (k_here; (with_reducible show wpAny _ _ (compareOp CmpOp.Eq (Value.ref _) (Value.ref _)) _ _ _); k_dflt (refine' eqSnoc ?hh9a ?hh9b ?hh9u ?_; (case hh9a => kmk_list); (case hh9b => kmk_list); (case hh9u => (first | exact roomA (by with_reducible assumption) (by decide) | exact roomAB (by with_reducible assumption) (by decide) | exact roomABC (by with_reducible assumption) (by decide) | exact room0 (by with_reducible assumption) (by rfl) | exact roomN 3 (by with_reducible assumption) (by rfl) (by decide) | exact roomN 6 (by with_reducible assumption) (by rfl) (by decide) | ktr_units))))
    | (k_here; (with_reducible show wpAny _ _ (compareOp CmpOp.Eq (Value.ref _) (Value.ref _)) _ _ _); k_dflt (refine' eqCons ?hh9a ?hh9b ?hh9u ?_; (case hh9a => kmk_list); (case hh9b => kmk_list); (case hh9u => (first | exact roomA (by with_reducible assumption) (by decide) | exact roomAB (by with_reducible assumption) (by decide) | exact roomABC (by with_reducible assumption) (by decide) | exact room0 (by with_reducible assumption) (by rfl) | exact roomN 3 (by with_reducible assumption) (by rfl) (by decide) | exact roomN 6 (by with_reducible assumption) (by rfl) (by decide) | ktr_units))))
    | (k_here; (with_reducible show wpAny _ _ (compareOp CmpOp.Eq (Value.ref _) (Value.ref _)) _ _ _); k_dflt (refine' eqEmpty ?hh9a ?hh9b ?hh9u ?_; (case hh9a => kmk_list); (case hh9b => kmk_list); (case hh9u => (first | exact roomA (by with_reducible assumption) (by decide) | exact roomAB (by with_reducible assumption) (by decide) | exact roomABC (by with_reducible assumption) (by decide) | exact room0 (by with_reducible assumption) (by rfl) | exact roomN 3 (by with_reducible assumption) (by rfl) (by decide) | exact roomN 6 (by with_reducible assumption) (by rfl) (by decide) | ktr_units))))
    | (k_here; (with_reducible show wpAny _ _ (binaryOp _ (Value.ref _) (Value.ref _)) _ _ _); k_dflt (refine' kmk_add_lit ?hh9F ?hh9N ?hh9a ?hh9b ?hh9e ?_ ?hh9z; (case hh9F => k_asm); (case hh9N => k_asm); (case hh9a => kmk_list); (case hh9b => kmk_list); (case hh9e => ((simp only [List.cons_append, List.nil_append]); exact rfl)); (case hh9z => (simp only [sizeLine_eq, List.length_cons, List.length_nil, List.length_append, List.length_drop, List.length_take]; omega))); intro D' h' F' N' l1; (try k_lt l1); (try k_sweep))
    | (k_end; wrow_close)
    | walk1
    | (dsimp only; walk1)
    | (leave1; walk_say "STEP leave1"; try dsimp only)
    | fail "no step")
  rename (_ < _ ∧ _) => l2
  refine hret _ _ _ _ (by assumption) (by assumption) ⟨_, fun p hp => ?_, rfl, l2.2⟩
  rcases List.mem_cons.mp hp with rfl | hp
  · exact .head _
  · exact .tail _ (.tail _ hp)
theorem take1u (w : World) (r dr q : Addr) (t1 t2 t3 : Tok) (most : Int) (tm : Tok) (l0 o0 v : Value) (vs : List Value) (nq : Nat) (news : List (Addr × Obj)) (upd : Addr → List (Addr × Obj))
    (hU : ∀ D, Upd dr (ringO w.params t1 t2 t3 most tm l0 o0) (ringO w.params t1 t2 t3 most tm v (.ref D)) news (upd D)) (hr : (r, instObj 101 dr) ∈ news) (hq : (q, listOf (v :: vs).toArray nq) ∈ news) (hz : vs.length ≤ 100) (hrd : r ≠ dr) (hqd : q ≠ dr) :
    Ctr w 70 [.ref r, .ref q] 1 8 news (fun nx r' => ∃ D, r' = .none ∧ nx = (D, listOf vs.toArray 0) :: upd D ∧ ∀ p ∈ news, p.1 < D) :=
  Ctr.upd hU (0 : Nat) (fun D => [(D, listOf vs.toArray 0)]) (P := fun D r => r = .none ∧ ∀ p ∈ news, p.1 < D)
    (fun rest h1 h2 => (take1 w r dr q t1 t2 t3 most tm l0 o0 v vs nq rest hz hrd hqd h1).weak
      (fun p hp => by
        rcases List.mem_cons.mp hp with rfl | hp
        · exact .head _
        · rcases memTwo hp with rfl | rfl | hp
          · exact .tail _ ((h2 _ hr).resolve_left (fun e => hrd (congrArg Prod.fst e)))
          · exact .tail _ ((h2 _ hq).resolve_left (fun e => hqd (congrArg Prod.fst e)))
          · exact .tail _ hp)
      (fun nx r h => by
        obtain ⟨D, hs, rfl, hl⟩ := h
        refine ⟨_, fun p hp => hp, D, fun p hp => hs p ?_, rfl, fun p hp => ktn_ltOf hl p ?_⟩
        · rcases List.mem_cons.mp hp with rfl | hp
          · exact .head _
          · rcases List.mem_cons.mp hp with rfl | hp
            · exact .tail _ (.head _)
            · exact .tail _ (.tail _ (.tail _ (.tail _ hp)))
        · rcases h2 p hp with rfl | h
          · exact .head _
          · exact .tail _ (.tail _ (.tail _ h))))
    (fun D r h => ⟨D, h.1, rfl, h.2⟩)
set_option maxHeartbeats 8000000 in
theorem take0 (w : World) (r dr q : Addr) (t1 t2 t3 : Tok) (most : Int) (tm : Tok) (l0 o0 : Value) (nq : Nat) (rest : List (Addr × Obj)) (hrd : r ≠ dr) (hq : q ≠ dr) (hrest : ∀ p ∈ rest, p.1 ≠ dr) :
    Ctr w 70 [.ref r, .ref q] 1 8 ((dr, ringO w.params t1 t2 t3 most tm l0 o0) :: (r, instObj 101 dr) :: (q, listOf (List.toArray []) nq) :: rest)
      (fun nx r' => ∃ D, (∀ p ∈ (D, listOf (List.toArray []) 0) :: (dr, ringO w.params t1 t2 t3 most tm .none (.ref D)) :: (r, instObj 101 dr) :: (q, listOf (List.toArray []) nq) :: rest, p ∈ nx) ∧ r' = .none ∧
        AllLt D ((dr, ringO w.params t1 t2 t3 most tm l0 o0) :: (r, instObj 101 dr) :: (q, listOf (List.toArray []) nq) :: rest)) := by
  unfold Ctr
  k_fill
  intro mean mg mb dp un gd cn cs a ccd cl outer A₀ base h₀ L m s R B F X N T hk hdp hu hret
  k_dflt cell_enter
  w_top off
  repeat' (first
    | (k_unfold; (try dsimp only))
    | (k_here; (with_reducible show wpAny _ _ (subscriptTail _ (PySem.Expr.Slice _ _ none _) (Value.ref _) (Value.ref _)) _ _ _); k_dflt (refine' kms_slice_lit ?hh9F ?hh9N ?hh9l ?hh9p ?hh9q ?hh9e ?_ ?hh9s ?hh9t ?hh9z; (case hh9F => k_asm); (case hh9N => k_asm); (case hh9l => kmk_list); (case hh9p => kmk_part); (case hh9q => kmk_part); (case hh9e => first | exact pickNil _ _ | exact pick1c _ _ | exact pick2c _ _ _ | exact pickT1c _ _ | exact pickLast3 _ _ _ | exact pickBut3 _ _ _ | exact pickLast2 _ _ | exact pickBut2 _ _ | exact pick1 _ | exact pick2 _ | exact pickLast _ | exact pickBut _ | exact pickTo _ _ (by omega)); (case hh9s => with_unfolding_all rfl); (case hh9t => kmk_pure); (case hh9z => (simp only [sizeLine_eq, List.size_toArray, List.length_cons, List.length_nil, List.length_append, List.length_drop, List.length_take]; omega))); intro D' h' F' N' l1; (try k_lt l1); (try k_sweep))
    | (k_here; (with_reducible show wpAny _ _ (compareOp CmpOp.NotEq (Value.ref _) (Value.ref _)) _ _ _); k_dflt (refine' neNil ?hh9a ?hh9b ?hh9u ?_; (case hh9a => kmk_list); (case hh9b => kmk_list); (case hh9u => (first | exact roomA (by with_reducible assumption) (by decide) | exact roomAB (by with_reducible assumption) (by decide) | exact roomABC (by with_reducible assumption) (by decide) | exact room0 (by with_reducible assumption) (by rfl) | exact roomN 3 (by with_reducible assumption) (by rfl) (by decide) | exact roomN 6 (by with_reducible assumption) (by rfl) (by decide) | ktr_units))))
    | (k_here; (with_reducible show wpAny _ _ (compareOp CmpOp.NotEq (Value.ref _) (Value.ref _)) _ _ _); k_dflt (refine' neCons ?hh9a ?hh9b ?hh9u ?_; (case hh9a => kmk_list); (case hh9b => kmk_list); (case hh9u => (first | exact roomA (by with_reducible assumption) (by decide) | exact roomAB (by with_reducible assumption) (by decide) | exact roomABC (by with_reducible assumption) (by decide) | exact room0 (by with_reducible assumption) (by rfl) | exact roomN 3 (by with_reducible assumption) (by rfl) (by decide) | exact roomN 6 (by with_reducible assumption) (by rfl) (by decide) | ktr_units))))
    | (k_here; (with_reducible show wpAny _ _ (compareOp CmpOp.NotEq (Value.ref _) (Value.ref _)) _ _ _); k_dflt (refine' neEmpty ?hh9a ?hh9b ?hh9u ?_; (case hh9a => kmk_list); (case hh9b => kmk_list); (case hh9u => (first | exact roomA (by with_reducible assumption) (by decide) | exact roomAB (by with_reducible assumption) (by decide) | exact roomABC (by with_reducible assumption) (by decide) | exact room0 (by with_reducible assumption) (by rfl) | exact roomN 3 (by with_reducible assumption) (by rfl) (by decide) | exact roomN 6 (by with_reducible assumption) (by rfl) (by decide) | ktr_units))))
    | (k_here; (with_reducible show wpAny _ _ (compareOp CmpOp.Eq (Value.ref _) (Value.ref _)) _ _ _); k_dflt (refine' eqNil ?hh9a ?hh9b ?hh9u ?_; (case hh9a => kmk_list); (case hh9b => kmk_list); (case hh9u => (first | exact roomA (by with_reducible assumption) (by decide) | exact roomAB (by with_reducible assumption) (by decide) | exact roomABC (by with_reducible assumption) (by decide) | exact room0 (by with_reducible assumption) (by rfl) | exact roomN 3 (by with_reducible assumption) (by rfl) (by decide) | exact roomN 6 (by with_reducible assumption) (by rfl) (by decide) | ktr_units))))
    | (k_here; (with_reducible show wpAny _ _ (compareOp CmpOp.Eq (Value.ref _) (Value.ref _)) _ _ _); k_dflt (refine' eqSnoc ?hh9a ?hh9b ?hh9u ?_; (case hh9a => kmk_list); (case hh9b => kmk_list); (case hh9u => (first | exact roomA (by with_reducible assumption) (by decide) | exact roomAB (by with_reducible assumption) (by decide) | exact roomABC (by with_reducible assumption) (by decide) | exact room0 (by with_reducible assumption) (by rfl) | exact roomN 3 (by with_reducible assumption) (by rfl) (by decide) | exact roomN 6 (by with_reducible assumption) (by rfl) (by decide) | ktr_units))))
    | (k_here; (with_reducible show wpAny _ _ (compareOp CmpOp.Eq (Value.ref _) (Value.ref _)) _ _ _); k_dflt (refine' eqCons ?hh9a ?hh9b ?hh9u ?_; (case hh9a => kmk_list); (case hh9b => kmk_list); (case hh9u => (first | exact roomA (by with_reducible assumption) (by decide) | exact roomAB (by with_reducible assumption) (by decide) | exact roomABC (by with_reducible assumption) (by decide) | exact room0 (by with_reducible assumption) (by rfl) | exact roomN 3 (by with_reducible assumption) (by rfl) (by decide) | exact roomN 6 (by with_reducible assumption) (by rfl) (by decide) | ktr_units))))
    | (k_here; (with_reducible show wpAny _ _ (compareOp CmpOp.Eq (Value.ref _) (Value.ref _)) _ _ _); k_dflt (refine' eqEmpty ?hh9a ?hh9b ?hh9u ?_; (case hh9a => kmk_list); (case hh9b => kmk_list); (case hh9u => (first | exact roomA (by with_reducible assumption) (by decide) | exact roomAB (by with_reducible assumption) (by decide) | exact roomABC (by with_reducible assumption) (by decide) | exact room0 (by with_reducible assumption) (by rfl) | exact roomN 3 (by with_reducible assumption) (by rfl) (by decide) | exact roomN 6 (by with_reducible assumption) (by rfl) (by decide) | ktr_units))))
    | (k_here; (with_reducible show wpAny _ _ (binaryOp _ (Value.ref _) (Value.ref _)) _ _ _); k_dflt (refine' kmk_add_lit ?hh9F ?hh9N ?hh9a ?hh9b ?hh9e ?_ ?hh9z; (case hh9F => k_asm); (case hh9N => k_asm); (case hh9a => kmk_list); (case hh9b => kmk_list); (case hh9e => ((simp only [List.cons_append, List.nil_append]); exact rfl)); (case hh9z => (simp only [sizeLine_eq, List.length_cons, List.length_nil, List.length_append, List.length_drop, List.length_take]; omega))); intro D' h' F' N' l1; (try k_lt l1); (try k_sweep))
    | (k_end; wrow_close)
    | walk1
    | (dsimp only; walk1)
    | (leave1; walk_say "STEP leave1"; try dsimp only)
    | fail "no step")
  rename (_ < _ ∧ _) => l2
  refine hret _ _ _ _ (by assumption) (by assumption) ⟨_, fun p hp => ?_, rfl, l2.2⟩
  rcases List.mem_cons.mp hp with rfl | hp
  · exact .head _
  · exact .tail _ (.tail _ hp)
theorem take0u (w : World) (r dr q : Addr) (t1 t2 t3 : Tok) (most : Int) (tm : Tok) (l0 o0 : Value) (nq : Nat) (news : List (Addr × Obj)) (upd : Addr → List (Addr × Obj))
    (hU : ∀ D, Upd dr (ringO w.params t1 t2 t3 most tm l0 o0) (ringO w.params t1 t2 t3 most tm .none (.ref D)) news (upd D)) (hr : (r, instObj 101 dr) ∈ news) (hq : (q, listOf (List.toArray []) nq) ∈ news) (hrd : r ≠ dr) (hqd : q ≠ dr) :
    Ctr w 70 [.ref r, .ref q] 1 8 news (fun nx r' => ∃ D, r' = .none ∧ nx = (D, listOf (List.toArray []) 0) :: upd D ∧ ∀ p ∈ news, p.1 < D) :=
  Ctr.upd hU (0 : Nat) (fun D => [(D, listOf (List.toArray []) 0)]) (P := fun D r => r = .none ∧ ∀ p ∈ news, p.1 < D)
    (fun rest h1 h2 => (take0 w r dr q t1 t2 t3 most tm l0 o0 nq rest hrd hqd h1).weak
      (fun p hp => by
        rcases List.mem_cons.mp hp with rfl | hp
        · exact .head _
        · rcases memTwo hp with rfl | rfl | hp
          · exact .tail _ ((h2 _ hr).resolve_left (fun e => hrd (congrArg Prod.fst e)))
          · exact .tail _ ((h2 _ hq).resolve_left (fun e => hqd (congrArg Prod.fst e)))
          · exact .tail _ hp)
      (fun nx r h => by
        obtain ⟨D, hs, rfl, hl⟩ := h
        refine ⟨_, fun p hp => hp, D, fun p hp => hs p ?_, rfl, fun p hp => ktn_ltOf hl p ?_⟩
        · rcases List.mem_cons.mp hp with rfl | hp
          · exact .head _
          · rcases List.mem_cons.mp hp with rfl | hp
            · exact .tail _ (.head _)
            · exact .tail _ (.tail _ (.tail _ (.tail _ hp)))
        · rcases h2 p hp with rfl | h
          · exact .head _
          · exact .tail _ (.tail _ (.tail _ h))))
    (fun D r h => ⟨D, h.1, rfl, h.2⟩)
end Mine
end
section
open PySem PySem.W PyProof.Rows PySem.Calls PySem.SeqAt
namespace Mine

theorem rowsS (w : World) (r dr o : Addr) (lv : Value) (hl : lv = .none ∨ ∃ x, lv = .ref x) (t1 t2 t3 : Tok) (most : Int) (tm : Tok) (no : Nat) (news : List (Addr × Obj)) (hr : (r, instObj 101 dr) ∈ news) (hdr : (dr, ringO w.params t1 t2 t3 most tm lv (.ref o)) ∈ news)
    (ho : (o, listOf (List.toArray []) no) ∈ news) : Ctr w 56 [.ref r] 1 8 news (fun nx r' => ∃ q, r' = .ref q ∧ nx = news) := by
  rcases hl with rfl | ⟨x, rfl⟩
  · exact (rows0u w r dr o t1 t2 t3 most tm news hr hdr).weak (fun _ h => h) fun nx r' h => by
      obtain ⟨e1, e2⟩ := h
      exact ⟨nx, fun _ h => h, o, e1, e2⟩
  · exact (rows1u w r dr o x t1 t2 t3 most tm [] no news hr hdr ho (Nat.zero_le _)).weak (fun _ h => h) fun nx r' h => by
      obtain ⟨q, e1, e2, _⟩ := h
      exact ⟨news, fun p hp => e2 ▸ List.mem_cons_of_mem _ hp, q, e1, rfl⟩
set_option maxHeartbeats 8000000 in
theorem meth3S (w : World) (r dr o : Addr) (lv : Value) (hl : lv = .none ∨ ∃ x, lv = .ref x) (t1 t2 t3 : Tok) (most : Int) (tm : Tok) (no : Nat) (rest : List (Addr × Obj)) (hrd : r ≠ dr) (ho : o ≠ dr) (hrest : ∀ p ∈ rest, p.1 ≠ dr) :
    Ctr w 77 [.ref r] 3 30 ((dr, ringO w.params t1 t2 t3 most tm lv (.ref o)) :: (r, instObj 101 dr) :: (o, listOf (List.toArray []) no) :: rest) (fun nx r' => (∀ p ∈ ((dr, ringO w.params t1 t2 t3 most tm lv (.ref o)) :: (r, instObj 101 dr) :: (o, listOf (List.toArray []) no) :: rest), p ∈ nx) ∧ r' = .bool false) := by
  unfold Ctr
  k_fill
  intro mean mg mb dp un gd cn cs a ccd cl outer A₀ base h₀ L m s R B F X N T hk hdp hu hret
  k_dflt cell_enter
  w_top off
  repeat' (first
    | (k_unfold; (try dsimp only))
    | (k_here; (with_reducible show wpAny _ _ (PySem.call (Value.ref 56) _ _) _ _ _); k_dflt ((refine' Ctr.use (rowsS _ _ _ _ lv hl _ _ _ _ _ _ _ ?hh9hr ?hh9hdr ?hh9ho) ?hh9B ?hh9F ?hh9X ?hh9N ?hh9T ?hh9hk ?hh9hd ?hh9hu ?_); (case hh9B => k_asm); (case hh9F => k_asm); (case hh9X => k_asm); (case hh9N => k_asm); (case hh9hr => k_mem); (case hh9hdr => k_mem); (case hh9ho => k_mem); (case hh9T => k_asm); (case hh9hk => first | exact rfl | assumption); (case hh9hd => (first | exact roomA (by with_reducible assumption) (by decide) | exact roomAB (by with_reducible assumption) (by decide) | exact roomABC (by with_reducible assumption) (by decide) | exact room0 (by with_reducible assumption) (by rfl) | exact roomN 1 (by with_reducible assumption) (by rfl) (by decide) | exact roomN 2 (by with_reducible assumption) (by rfl) (by decide) | exact roomN 3 (by with_reducible assumption) (by rfl) (by decide) | ktr_room)); (case hh9hu => (first | exact roomA (by with_reducible assumption) (by decide) | exact roomAB (by with_reducible assumption) (by decide) | exact roomABC (by with_reducible assumption) (by decide) | exact room0 (by with_reducible assumption) (by rfl) | exact roomN 3 (by with_reducible assumption) (by rfl) (by decide) | exact roomN 6 (by with_reducible assumption) (by rfl) (by decide) | ktr_units))); intro r9 nx9 h' tk' F' N' hP9; obtain ⟨q9, e9, e9'⟩ := hP9; subst e9; subst e9'; (try dsimp only); (try k_fold); (try k_sweep))
    | (k_here; (with_reducible show wpAny _ _ (PySem.call (Value.ref 70) _ _) _ _ _); k_dflt ((refine' Ctr.use (take0u _ _ _ _ _ _ _ _ _ _ _ _ _ _ ?hh9hU ?hh9hr ?hh9hq ?hh9hrd ?hh9hqd) ?hh9B ?hh9F ?hh9X ?hh9N ?hh9T ?hh9hk ?hh9hd ?hh9hu ?_); (case hh9B => k_asm); (case hh9F => k_asm); (case hh9X => k_asm); (case hh9N => k_asm); (case hh9hr => k_mem); (case hh9hq => k_mem); (case hh9hU => (intro D9; k_upd)); (case hh9hrd => (first | with_reducible assumption | exact Ne.symm (by with_reducible assumption) | k_ne)); (case hh9hqd => (first | with_reducible assumption | exact Ne.symm (by with_reducible assumption) | k_ne)); (case hh9T => k_asm); (case hh9hk => first | exact rfl | assumption); (case hh9hd => (first | exact roomA (by with_reducible assumption) (by decide) | exact roomAB (by with_reducible assumption) (by decide) | exact roomABC (by with_reducible assumption) (by decide) | exact room0 (by with_reducible assumption) (by rfl) | exact roomN 1 (by with_reducible assumption) (by rfl) (by decide) | exact roomN 2 (by with_reducible assumption) (by rfl) (by decide) | exact roomN 3 (by with_reducible assumption) (by rfl) (by decide) | ktr_room)); (case hh9hu => (first | exact roomA (by with_reducible assumption) (by decide) | exact roomAB (by with_reducible assumption) (by decide) | exact roomABC (by with_reducible assumption) (by decide) | exact room0 (by with_reducible assumption) (by rfl) | exact roomN 3 (by with_reducible assumption) (by rfl) (by decide) | exact roomN 6 (by with_reducible assumption) (by rfl) (by decide) | ktr_units))); intro r9 nx9 h' tk' F' N' hP9; obtain ⟨q9, e9, e9', l9⟩ := hP9; subst e9; subst e9'; (try dsimp only at N'); (try k_lt l9); (try dsimp only); (try k_fold); (try k_sweep))
    | (k_here; (with_reducible show wpAny _ _ (PySem.call (Value.ref 70) _ _) _ _ _); k_dflt ((refine' Ctr.use (take1u _ _ _ _ _ _ _ _ _ _ _ _ _ _ _ _ ?hh9hU ?hh9hr ?hh9hq ?hh9hz ?hh9hrd ?hh9hqd) ?hh9B ?hh9F ?hh9X ?hh9N ?hh9T ?hh9hk ?hh9hd ?hh9hu ?_); (case hh9B => k_asm); (case hh9F => k_asm); (case hh9X => k_asm); (case hh9N => k_asm); (case hh9hr => k_mem); (case hh9hq => k_mem); (case hh9hU => (intro D9; k_upd)); (case hh9hz => (simp only [List.length_cons, List.length_nil, List.length_append]; omega)); (case hh9hrd => (first | with_reducible assumption | exact Ne.symm (by with_reducible assumption) | k_ne)); (case hh9hqd => (first | with_reducible assumption | exact Ne.symm (by with_reducible assumption) | k_ne)); (case hh9T => k_asm); (case hh9hk => first | exact rfl | assumption); (case hh9hd => (first | exact roomA (by with_reducible assumption) (by decide) | exact roomAB (by with_reducible assumption) (by decide) | exact roomABC (by with_reducible assumption) (by decide) | exact room0 (by with_reducible assumption) (by rfl) | exact roomN 1 (by with_reducible assumption) (by rfl) (by decide) | exact roomN 2 (by with_reducible assumption) (by rfl) (by decide) | exact roomN 3 (by with_reducible assumption) (by rfl) (by decide) | ktr_room)); (case hh9hu => (first | exact roomA (by with_reducible assumption) (by decide) | exact roomAB (by with_reducible assumption) (by decide) | exact roomABC (by with_reducible assumption) (by decide) | exact room0 (by with_reducible assumption) (by rfl) | exact roomN 3 (by with_reducible assumption) (by rfl) (by decide) | exact roomN 6 (by with_reducible assumption) (by rfl) (by decide) | ktr_units))); intro r9 nx9 h' tk' F' N' hP9; obtain ⟨q9, e9, e9', l9⟩ := hP9; subst e9; subst e9'; (try dsimp only at N'); (try k_lt l9); (try dsimp only); (try k_fold); (try k_sweep))
    | (k_here; (with_reducible show wpAny _ _ (PySem.call (Value.ref 56) _ _) _ _ _); k_dflt ((refine' Ctr.use (rows0u _ _ _ _ _ _ _ _ _ _ ?hh9hr ?hh9hdr) ?hh9B ?hh9F ?hh9X ?hh9N ?hh9T ?hh9hk ?hh9hd ?hh9hu ?_); (case hh9B => k_asm); (case hh9F => k_asm); (case hh9X => k_asm); (case hh9N => k_asm); (case hh9hr => k_mem); (case hh9hdr => k_mem); (case hh9T => k_asm); (case hh9hk => first | exact rfl | assumption); (case hh9hd => (first | exact roomA (by with_reducible assumption) (by decide) | exact roomAB (by with_reducible assumption) (by decide) | exact roomABC (by with_reducible assumption) (by decide) | exact room0 (by with_reducible assumption) (by rfl) | exact roomN 1 (by with_reducible assumption) (by rfl) (by decide) | exact roomN 2 (by with_reducible assumption) (by rfl) (by decide) | exact roomN 3 (by with_reducible assumption) (by rfl) (by decide) | ktr_room)); (case hh9hu => (first | exact roomA (by with_reducible assumption) (by decide) | exact roomAB (by with_reducible assumption) (by decide) | exact roomABC (by with_reducible assumption) (by decide) | exact room0 (by with_reducible assumption) (by rfl) | exact roomN 3 (by with_reducible assumption) (by rfl) (by decide) | exact roomN 6 (by with_reducible assumption) (by rfl) (by decide) | ktr_units))); intro r9 nx9 h' tk' F' N' hP9; obtain ⟨e9, e9'⟩ := hP9; subst e9; subst e9'; (try dsimp only); (try k_fold); (try k_sweep))
    | (k_here; (with_reducible show wpAny _ _ (PySem.call (Value.ref 56) _ _) _ _ _); k_dflt ((refine' Ctr.use (rows1u _ _ _ _ _ _ _ _ _ _ _ _ _ ?hh9hr ?hh9hdr ?hh9ho ?hh9hz) ?hh9B ?hh9F ?hh9X ?hh9N ?hh9T ?hh9hk ?hh9hd ?hh9hu ?_); (case hh9B => k_asm); (case hh9F => k_asm); (case hh9X => k_asm); (case hh9N => k_asm); (case hh9hr => k_mem); (case hh9hdr => k_mem); (case hh9ho => k_mem); (case hh9hz => (simp only [List.length_cons, List.length_nil, List.length_append]; omega)); (case hh9T => k_asm); (case hh9hk => first | exact rfl | assumption); (case hh9hd => (first | exact roomA (by with_reducible assumption) (by decide) | exact roomAB (by with_reducible assumption) (by decide) | exact roomABC (by with_reducible assumption) (by decide) | exact room0 (by with_reducible assumption) (by rfl) | exact roomN 1 (by with_reducible assumption) (by rfl) (by decide) | exact roomN 2 (by with_reducible assumption) (by rfl) (by decide) | exact roomN 3 (by with_reducible assumption) (by rfl) (by decide) | ktr_room)); (case hh9hu => (first | exact roomA (by with_reducible assumption) (by decide) | exact roomAB (by with_reducible assumption) (by decide) | exact roomABC (by with_reducible assumption) (by decide) | exact room0 (by with_reducible assumption) (by rfl) | exact roomN 3 (by with_reducible assumption) (by rfl) (by decide) | exact roomN 6 (by with_reducible assumption) (by rfl) (by decide) | ktr_units))); intro r9 nx9 h' tk' F' N' hP9; obtain ⟨q9, e9, e9', l9⟩ := hP9; subst e9; subst e9'; (try k_lt l9); (try dsimp only); (try k_fold); (try k_sweep))
    | (k_here; (with_reducible show wpAny _ _ (subscriptTail _ (PySem.Expr.Slice _ _ none _) (Value.ref _) (Value.ref _)) _ _ _); k_dflt (refine' kms_slice_lit ?hh9F ?hh9N ?hh9l ?hh9p ?hh9q ?hh9e ?_ ?hh9s ?hh9t ?hh9z; (case hh9F => k_asm); (case hh9N => k_asm); (case hh9l => kmk_list); (case hh9p => kmk_part); (case hh9q => kmk_part); (case hh9e => first | exact pickNil _ _ | exact pick1c _ _ | exact pick2c _ _ _ | exact pickT1c _ _ | exact pickLast3 _ _ _ | exact pickBut3 _ _ _ | exact pickLast2 _ _ | exact pickBut2 _ _ | exact pick1 _ | exact pick2 _ | exact pickLast _ | exact pickBut _ | exact pickTo _ _ (by omega)); (case hh9s => with_unfolding_all rfl); (case hh9t => kmk_pure); (case hh9z => (simp only [sizeLine_eq, List.size_toArray, List.length_cons, List.length_nil, List.length_append, List.length_drop, List.length_take]; omega))); intro D' h' F' N' l1; (try k_lt l1); (try k_sweep))
    | (k_here; (with_reducible show wpAny _ _ (compareOp CmpOp.NotEq (Value.ref _) (Value.ref _)) _ _ _); k_dflt (refine' neNil ?hh9a ?hh9b ?hh9u ?_; (case hh9a => kmk_list); (case hh9b => kmk_list); (case hh9u => (first | exact roomA (by with_reducible assumption) (by decide) | exact roomAB (by with_reducible assumption) (by decide) | exact roomABC (by with_reducible assumption) (by decide) | exact room0 (by with_reducible assumption) (by rfl) | exact roomN 3 (by with_reducible assumption) (by rfl) (by decide) | exact roomN 6 (by with_reducible assumption) (by rfl) (by decide) | ktr_units))))
    | (k_here; (with_reducible show wpAny _ _ (compareOp CmpOp.NotEq (Value.ref _) (Value.ref _)) _ _ _); k_dflt (refine' neCons ?hh9a ?hh9b ?hh9u ?_; (case hh9a => kmk_list); (case hh9b => kmk_list); (case hh9u => (first | exact roomA (by with_reducible assumption) (by decide) | exact roomAB (by with_reducible assumption) (by decide) | exact roomABC (by with_reducible assumption) (by decide) | exact room0 (by with_reducible assumption) (by rfl) | exact roomN 3 (by with_reducible assumption) (by rfl) (by decide) | exact roomN 6 (by with_reducible assumption) (by rfl) (by decide) | ktr_units))))
    | (k_here; (with_reducible show wpAny _ _ (compareOp CmpOp.NotEq (Value.ref _) (Value.ref _)) _ _ _); k_dflt (refine' neEmpty ?hh9a ?hh9b ?hh9u ?_; (case hh9a => kmk_list); (case hh9b => kmk_list); (case hh9u => (first | exact roomA (by with_reducible assumption) (by decide) | exact roomAB (by with_reducible assumption) (by decide) | exact roomABC (by with_reducible assumption) (by decide) | exact room0 (by with_reducible assumption) (by rfl) | exact roomN 3 (by with_reducible assumption) (by rfl) (by decide) | exact roomN 6 (by with_reducible assumption) (by rfl) (by decide) | ktr_units))))
    | (k_here; (with_reducible show wpAny _ _ (compareOp CmpOp.Eq (Value.ref _) (Value.ref _)) _ _ _); k_dflt (refine' eqNil ?hh9a ?hh9b ?hh9u ?_; (case hh9a => kmk_list); (case hh9b => kmk_list); (case hh9u => (first | exact roomA (by with_reducible assumption) (by decide) | exact roomAB (by with_reducible assumption) (by decide) | exact roomABC (by with_reducible assumption) (by decide) | exact room0 (by with_reducible assumption) (by rfl) | exact roomN 3 (by with_reducible assumption) (by rfl) (by decide) | exact roomN 6 (by with_reducible assumption) (by rfl) (by decide) | ktr_units))))
    | (k_here; (with_reducible show wpAny _ _ (compareOp CmpOp.Eq (Value.ref _) (Value.ref _)) _ _ _); k_dflt (refine' eqSnoc ?hh9a ?hh9b ?hh9u ?_; (case hh9a => kmk_list); (case hh9b => kmk_list); (case hh9u => (first | exact roomA (by with_reducible assumption) (by decide) | exact roomAB (by with_reducible assumption) (by decide) | exact roomABC (by with_reducible assumption) (by decide) | exact room0 (by with_reducible assumption) (by rfl) | exact roomN 3 (by with_reducible assumption) (by rfl) (by decide) | exact roomN 6 (by with_reducible assumption) (by rfl) (by decide) | ktr_units))))
    | (k_here; (with_reducible show wpAny _ _ (compareOp CmpOp.Eq (Value.ref _) (Value.ref _)) _ _ _); k_dflt (refine' eqCons ?hh9a ?hh9b ?hh9u ?_; (case hh9a => kmk_list); (case hh9b => kmk_list); (case hh9u => (first | exact roomA (by with_reducible assumption) (by decide) | exact roomAB (by with_reducible assumption) (by decide) | exact roomABC (by with_reducible assumption) (by decide) | exact room0 (by with_reducible assumption) (by rfl) | exact roomN 3 (by with_reducible assumption) (by rfl) (by decide) | exact roomN 6 (by with_reducible assumption) (by rfl) (by decide) | ktr_units))))
    | (k_here; (with_reducible show wpAny _ _ (compareOp CmpOp.Eq (Value.ref _) (Value.ref _)) _ _ _); k_dflt (refine' eqEmpty ?hh9a ?hh9b ?hh9u ?_; (case hh9a => kmk_list); (case hh9b => kmk_list); (case hh9u => (first | exact roomA (by with_reducible assumption) (by decide) | exact roomAB (by with_reducible assumption) (by decide) | exact roomABC (by with_reducible assumption) (by decide) | exact room0 (by with_reducible assumption) (by rfl) | exact roomN 3 (by with_reducible assumption) (by rfl) (by decide) | exact roomN 6 (by with_reducible assumption) (by rfl) (by decide) | ktr_units))))
    | (k_here; (with_reducible show wpAny _ _ (binaryOp _ (Value.ref _) (Value.ref _)) _ _ _); k_dflt (refine' kmk_add_lit ?hh9F ?hh9N ?hh9a ?hh9b ?hh9e ?_ ?hh9z; (case hh9F => k_asm); (case hh9N => k_asm); (case hh9a => kmk_list); (case hh9b => kmk_list); (case hh9e => ((simp only [List.cons_append, List.nil_append]); exact rfl)); (case hh9z => (simp only [sizeLine_eq, List.length_cons, List.length_nil, List.length_append, List.length_drop, List.length_take]; omega))); intro D' h' F' N' l1; (try k_lt l1); (try k_sweep))
    | (k_end; wrow_close)
    | walk1
    | (dsimp only; walk1)
    | (leave1; walk_say "STEP leave1"; try dsimp only)
    | fail "no step")
  exact hret _ _ _ _ (by assumption) (by assumption) ⟨(by kcj_in), rfl⟩

set_option maxHeartbeats 8000000 in
theorem meth4S (w : World) (r dr o : Addr) (lv : Value) (hl : lv = .none ∨ ∃ x, lv = .ref x) (t1 t2 t3 : Tok) (most : Int) (tm : Tok) (no : Nat) (rest : List (Addr × Obj)) (hrd : r ≠ dr) (ho : o ≠ dr) (hrest : ∀ p ∈ rest, p.1 ≠ dr) :
    Ctr w 84 [.ref r] 3 30 ((dr, ringO w.params t1 t2 t3 most tm lv (.ref o)) :: (r, instObj 101 dr) :: (o, listOf (List.toArray []) no) :: rest) (fun nx r' => (∀ p ∈ ((dr, ringO w.params t1 t2 t3 most tm lv (.ref o)) :: (r, instObj 101 dr) :: (o, listOf (List.toArray []) no) :: rest), p ∈ nx) ∧ r' = .bool false) := by
  unfold Ctr
  k_fill
  intro mean mg mb dp un gd cn cs a ccd cl outer A₀ base h₀ L m s R B F X N T hk hdp hu hret
  k_dflt cell_enter
  w_top off
  repeat' (first
    | (k_unfold; (try dsimp only))
    | (k_here; (with_reducible show wpAny _ _ (PySem.call (Value.ref 56) _ _) _ _ _); k_dflt ((refine' Ctr.use (rowsS _ _ _ _ lv hl _ _ _ _ _ _ _ ?hh9hr ?hh9hdr ?hh9ho) ?hh9B ?hh9F ?hh9X ?hh9N ?hh9T ?hh9hk ?hh9hd ?hh9hu ?_); (case hh9B => k_asm); (case hh9F => k_asm); (case hh9X => k_asm); (case hh9N => k_asm); (case hh9hr => k_mem); (case hh9hdr => k_mem); (case hh9ho => k_mem); (case hh9T => k_asm); (case hh9hk => first | exact rfl | assumption); (case hh9hd => (first | exact roomA (by with_reducible assumption) (by decide) | exact roomAB (by with_reducible assumption) (by decide) | exact roomABC (by with_reducible assumption) (by decide) | exact room0 (by with_reducible assumption) (by rfl) | exact roomN 1 (by with_reducible assumption) (by rfl) (by decide) | exact roomN 2 (by with_reducible assumption) (by rfl) (by decide) | exact roomN 3 (by with_reducible assumption) (by rfl) (by decide) | ktr_room)); (case hh9hu => (first | exact roomA (by with_reducible assumption) (by decide) | exact roomAB (by with_reducible assumption) (by decide) | exact roomABC (by with_reducible assumption) (by decide) | exact room0 (by with_reducible assumption) (by rfl) | exact roomN 3 (by with_reducible assumption) (by rfl) (by decide) | exact roomN 6 (by with_reducible assumption) (by rfl) (by decide) | ktr_units))); intro r9 nx9 h' tk' F' N' hP9; obtain ⟨q9, e9, e9'⟩ := hP9; subst e9; subst e9'; (try dsimp only); (try k_fold); (try k_sweep))
    | (k_here; (with_reducible show wpAny _ _ (PySem.call (Value.ref 70) _ _) _ _ _); k_dflt ((refine' Ctr.use (take0u _ _ _ _ _ _ _ _ _ _ _ _ _ _ ?hh9hU ?hh9hr ?hh9hq ?hh9hrd ?hh9hqd) ?hh9B ?hh9F ?hh9X ?hh9N ?hh9T ?hh9hk ?hh9hd ?hh9hu ?_); (case hh9B => k_asm); (case hh9F => k_asm); (case hh9X => k_asm); (case hh9N => k_asm); (case hh9hr => k_mem); (case hh9hq => k_mem); (case hh9hU => (intro D9; k_upd)); (case hh9hrd => (first | with_reducible assumption | exact Ne.symm (by with_reducible assumption) | k_ne)); (case hh9hqd => (first | with_reducible assumption | exact Ne.symm (by with_reducible assumption) | k_ne)); (case hh9T => k_asm); (case hh9hk => first | exact rfl | assumption); (case hh9hd => (first | exact roomA (by with_reducible assumption) (by decide) | exact roomAB (by with_reducible assumption) (by decide) | exact roomABC (by with_reducible assumption) (by decide) | exact room0 (by with_reducible assumption) (by rfl) | exact roomN 1 (by with_reducible assumption) (by rfl) (by decide) | exact roomN 2 (by with_reducible assumption) (by rfl) (by decide) | exact roomN 3 (by with_reducible assumption) (by rfl) (by decide) | ktr_room)); (case hh9hu => (first | exact roomA (by with_reducible assumption) (by decide) | exact roomAB (by with_reducible assumption) (by decide) | exact roomABC (by with_reducible assumption) (by decide) | exact room0 (by with_reducible assumption) (by rfl) | exact roomN 3 (by with_reducible assumption) (by rfl) (by decide) | exact roomN 6 (by with_reducible assumption) (by rfl) (by decide) | ktr_units))); intro r9 nx9 h' tk' F' N' hP9; obtain ⟨q9, e9, e9', l9⟩ := hP9; subst e9; subst e9'; (try dsimp only at N'); (try k_lt l9); (try dsimp only); (try k_fold); (try k_sweep))
    | (k_here; (with_reducible show wpAny _ _ (PySem.call (Value.ref 70) _ _) _ _ _); k_dflt ((refine' Ctr.use (take1u _ _ _ _ _ _ _ _ _ _ _ _ _ _ _ _ ?hh9hU ?hh9hr ?hh9hq ?hh9hz ?hh9hrd ?hh9hqd) ?hh9B ?hh9F ?hh9X ?hh9N ?hh9T ?hh9hk ?hh9hd ?hh9hu ?_); (case hh9B => k_asm); (case hh9F => k_asm); (case hh9X => k_asm); (case hh9N => k_asm); (case hh9hr => k_mem); (case hh9hq => k_mem); (case hh9hU => (intro D9; k_upd)); (case hh9hz => (simp only [List.length_cons, List.length_nil, List.length_append]; omega)); (case hh9hrd => (first | with_reducible assumption | exact Ne.symm (by with_reducible assumption) | k_ne)); (case hh9hqd => (first | with_reducible assumption | exact Ne.symm (by with_reducible assumption) | k_ne)); (case hh9T => k_asm); (case hh9hk => first | exact rfl | assumption); (case hh9hd => (first | exact roomA (by with_reducible assumption) (by decide) | exact roomAB (by with_reducible assumption) (by decide) | exact roomABC (by with_reducible assumption) (by decide) | exact room0 (by with_reducible assumption) (by rfl) | exact roomN 1 (by with_reducible assumption) (by rfl) (by decide) | exact roomN 2 (by with_reducible assumption) (by rfl) (by decide) | exact roomN 3 (by with_reducible assumption) (by rfl) (by decide) | ktr_room)); (case hh9hu => (first | exact roomA (by with_reducible assumption) (by decide) | exact roomAB (by with_reducible assumption) (by decide) | exact roomABC (by with_reducible assumption) (by decide) | exact room0 (by with_reducible assumption) (by rfl) | exact roomN 3 (by with_reducible assumption) (by rfl) (by decide) | exact roomN 6 (by with_reducible assumption) (by rfl) (by decide) | ktr_units))); intro r9 nx9 h' tk' F' N' hP9; obtain ⟨q9, e9, e9', l9⟩ := hP9; subst e9; subst e9'; (try dsimp only at N'); (try k_lt l9); (try dsimp only); (try k_fold); (try k_sweep))
    | (k_here; (with_reducible show wpAny _ _ (PySem.call (Value.ref 56) _ _) _ _ _); k_dflt ((refine' Ctr.use (rows0u _ _ _ _ _ _ _ _ _ _ ?hh9hr ?hh9hdr) ?hh9B ?hh9F ?hh9X ?hh9N ?hh9T ?hh9hk ?hh9hd ?hh9hu ?_); (case hh9B => k_asm); (case hh9F => k_asm); (case hh9X => k_asm); (case hh9N => k_asm); (case hh9hr => k_mem); (case hh9hdr => k_mem); (case hh9T => k_asm); (case hh9hk => first | exact rfl | assumption); (case hh9hd => (first | exact roomA (by with_reducible assumption) (by decide) | exact roomAB (by with_reducible assumption) (by decide) | exact roomABC (by with_reducible assumption) (by decide) | exact room0 (by with_reducible assumption) (by rfl) | exact roomN 1 (by with_reducible assumption) (by rfl) (by decide) | exact roomN 2 (by with_reducible assumption) (by rfl) (by decide) | exact roomN 3 (by with_reducible assumption) (by rfl) (by decide) | ktr_room)); (case hh9hu => (first | exact roomA (by with_reducible assumption) (by decide) | exact roomAB (by with_reducible assumption) (by decide) | exact roomABC (by with_reducible assumption) (by decide) | exact room0 (by with_reducible assumption) (by rfl) | exact roomN 3 (by with_reducible assumption) (by rfl) (by decide) | exact roomN 6 (by with_reducible assumption) (by rfl) (by decide) | ktr_units))); intro r9 nx9 h' tk' F' N' hP9; obtain ⟨e9, e9'⟩ := hP9; subst e9; subst e9'; (try dsimp only); (try k_fold); (try k_sweep))
    | (k_here; (with_reducible show wpAny _ _ (PySem.call (Value.ref 56) _ _) _ _ _); k_dflt ((refine' Ctr.use (rows1u _ _ _ _ _ _ _ _ _ _ _ _ _ ?hh9hr ?hh9hdr ?hh9ho ?hh9hz) ?hh9B ?hh9F ?hh9X ?hh9N ?hh9T ?hh9hk ?hh9hd ?hh9hu ?_); (case hh9B => k_asm); (case hh9F => k_asm); (case hh9X => k_asm); (case hh9N => k_asm); (case hh9hr => k_mem); (case hh9hdr => k_mem); (case hh9ho => k_mem); (case hh9hz => (simp only [List.length_cons, List.length_nil, List.length_append]; omega)); (case hh9T => k_asm); (case hh9hk => first | exact rfl | assumption); (case hh9hd => (first | exact roomA (by with_reducible assumption) (by decide) | exact roomAB (by with_reducible assumption) (by decide) | exact roomABC (by with_reducible assumption) (by decide) | exact room0 (by with_reducible assumption) (by rfl) | exact roomN 1 (by with_reducible assumption) (by rfl) (by decide) | exact roomN 2 (by with_reducible assumption) (by rfl) (by decide) | exact roomN 3 (by with_reducible assumption) (by rfl) (by decide) | ktr_room)); (case hh9hu => (first | exact roomA (by with_reducible assumption) (by decide) | exact roomAB (by with_reducible assumption) (by decide) | exact roomABC (by with_reducible assumption) (by decide) | exact room0 (by with_reducible assumption) (by rfl) | exact roomN 3 (by with_reducible assumption) (by rfl) (by decide) | exact roomN 6 (by with_reducible assumption) (by rfl) (by decide) | ktr_units))); intro r9 nx9 h' tk' F' N' hP9; obtain ⟨q9, e9, e9', l9⟩ := hP9; subst e9; subst e9'; (try k_lt l9); (try dsimp only); (try k_fold); (try k_sweep))
    | (k_here; (with_reducible show wpAny _ _ (subscriptTail _ (PySem.Expr.Slice _ _ none _) (Value.ref _) (Value.ref _)) _ _ _); k_dflt (refine' kms_slice_lit ?hh9F ?hh9N ?hh9l ?hh9p ?hh9q ?hh9e ?_ ?hh9s ?hh9t ?hh9z; (case hh9F => k_asm); (case hh9N => k_asm); (case hh9l => kmk_list); (case hh9p => kmk_part); (case hh9q => kmk_part); (case hh9e => first | exact pickNil _ _ | exact pick1c _ _ | exact pick2c _ _ _ | exact pickT1c _ _ | exact pickLast3 _ _ _ | exact pickBut3 _ _ _ | exact pickLast2 _ _ | exact pickBut2 _ _ | exact pick1 _ | exact pick2 _ | exact pickLast _ | exact pickBut _ | exact pickTo _ _ (by omega)); (case hh9s => with_unfolding_all rfl); (case hh9t => kmk_pure); (case hh9z => (simp only [sizeLine_eq, List.size_toArray, List.length_cons, List.length_nil, List.length_append, List.length_drop, List.length_take]; omega))); intro D' h' F' N' l1; (try k_lt l1); (try k_sweep))
    | (k_here; (with_reducible show wpAny _ _ (compareOp CmpOp.NotEq (Value.ref _) (Value.ref _)) _ _ _); k_dflt (refine' neNil ?hh9a ?hh9b ?hh9u ?_; (case hh9a => kmk_list); (case hh9b => kmk_list); (case hh9u => (first | exact roomA (by with_reducible assumption) (by decide) | exact roomAB (by with_reducible assumption) (by decide) | exact roomABC (by with_reducible assumption) (by decide) | exact room0 (by with_reducible assumption) (by rfl) | exact roomN 3 (by with_reducible assumption) (by rfl) (by decide) | exact roomN 6 (by with_reducible assumption) (by rfl) (by decide) | ktr_units))))
    | (k_here; (with_reducible show wpAny _ _ (compareOp CmpOp.NotEq (Value.ref _) (Value.ref _)) _ _ _); k_dflt (refine' neCons ?hh9a ?hh9b ?hh9u ?_; (case hh9a => kmk_list); (case hh9b => kmk_list); (case hh9u => (first | exact roomA (by with_reducible assumption) (by decide) | exact roomAB (by with_reducible assumption) (by decide) | exact roomABC (by with_reducible assumption) (by decide) | exact room0 (by with_reducible assumption) (by rfl) | exact roomN 3 (by with_reducible assumption) (by rfl) (by decide) | exact roomN 6 (by with_reducible assumption) (by rfl) (by decide) | ktr_units))))
    | (k_here; (with_reducible show wpAny _ _ (compareOp CmpOp.NotEq (Value.ref _) (Value.ref _)) _ _ _); k_dflt (refine' neEmpty ?hh9a ?hh9b ?hh9u ?_; (case hh9a => kmk_list); (case hh9b => kmk_list); (case hh9u => (first | exact roomA (by with_reducible assumption) (by decide) | exact roomAB (by with_reducible assumption) (by decide) | exact roomABC (by with_reducible assumption) (by decide) | exact room0 (by with_reducible assumption) (by rfl) | exact roomN 3 (by with_reducible assumption) (by rfl) (by decide) | exact roomN 6 (by with_reducible assumption) (by rfl) (by decide) | ktr_units))))
    | (k_here; (with_reducible show wpAny _ _ (compareOp CmpOp.Eq (Value.ref _) (Value.ref _)) _ _ _); k_dflt (refine' eqNil ?hh9a ?hh9b ?hh9u ?_; (case hh9a => kmk_list); (case hh9b => kmk_list); (case hh9u => (first | exact roomA (by with_reducible assumption) (by decide) | exact roomAB (by with_reducible assumption) (by decide) | exact roomABC (by with_reducible assumption) (by decide) | exact room0 (by with_reducible assumption) (by rfl) | exact roomN 3 (by with_reducible assumption) (by rfl) (by decide) | exact roomN 6 (by with_reducible assumption) (by rfl) (by decide) | ktr_units))))
    | (k_here; (with_reducible show wpAny _ _ (compareOp CmpOp.Eq (Value.ref _) (Value.ref _)) _ _ _); k_dflt (refine' eqSnoc ?hh9a ?hh9b ?hh9u ?_; (case hh9a => kmk_list); (case hh9b => kmk_list); (case hh9u => (first | exact roomA (by with_reducible assumption) (by decide) | exact roomAB (by with_reducible assumption) (by decide) | exact roomABC (by with_reducible assumption) (by decide) | exact room0 (by with_reducible assumption) (by rfl) | exact roomN 3 (by with_reducible assumption) (by rfl) (by decide) | exact roomN 6 (by with_reducible assumption) (by rfl) (by decide) | ktr_units))))
    | (k_here; (with_reducible show wpAny _ _ (compareOp CmpOp.Eq (Value.ref _) (Value.ref _)) _ _ _); k_dflt (refine' eqCons ?hh9a ?hh9b ?hh9u ?_; (case hh9a => kmk_list); (case hh9b => kmk_list); (case hh9u => (first | exact roomA (by with_reducible assumption) (by decide) | exact roomAB (by with_reducible assumption) (by decide) | exact roomABC (by with_reducible assumption) (by decide) | exact room0 (by with_reducible assumption) (by rfl) | exact roomN 3 (by with_reducible assumption) (by rfl) (by decide) | exact roomN 6 (by with_reducible assumption) (by rfl) (by decide) | ktr_units))))
    | (k_here; (with_reducible show wpAny _ _ (compareOp CmpOp.Eq (Value.ref _) (Value.ref _)) _ _ _); k_dflt (refine' eqEmpty ?hh9a ?hh9b ?hh9u ?_; (case hh9a => kmk_list); (case hh9b => kmk_list); (case hh9u => (first | exact roomA (by with_reducible assumption) (by decide) | exact roomAB (by with_reducible assumption) (by decide) | exact roomABC (by with_reducible assumption) (by decide) | exact room0 (by with_reducible assumption) (by rfl) | exact roomN 3 (by with_reducible assumption) (by rfl) (by decide) | exact roomN 6 (by with_reducible assumption) (by rfl) (by decide) | ktr_units))))
    | (k_here; (with_reducible show wpAny _ _ (binaryOp _ (Value.ref _) (Value.ref _)) _ _ _); k_dflt (refine' kmk_add_lit ?hh9F ?hh9N ?hh9a ?hh9b ?hh9e ?_ ?hh9z; (case hh9F => k_asm); (case hh9N => k_asm); (case hh9a => kmk_list); (case hh9b => kmk_list); (case hh9e => ((simp only [List.cons_append, List.nil_append]); exact rfl)); (case hh9z => (simp only [sizeLine_eq, List.length_cons, List.length_nil, List.length_append, List.length_drop, List.length_take]; omega))); intro D' h' F' N' l1; (try k_lt l1); (try k_sweep))
    | (k_end; wrow_close)
    | walk1
    | (dsimp only; walk1)
    | (leave1; walk_say "STEP leave1"; try dsimp only)
    | fail "no step")
  exact hret _ _ _ _ (by assumption) (by assumption) ⟨(by kcj_in), rfl⟩

set_option maxHeartbeats 8000000 in
theorem meth5S (w : World) (r dr o : Addr) (lv : Value) (hl : lv = .none ∨ ∃ x, lv = .ref x) (t1 t2 t3 : Tok) (most : Int) (tm : Tok) (no : Nat) (rest : List (Addr × Obj)) (hrd : r ≠ dr) (ho : o ≠ dr) (hrest : ∀ p ∈ rest, p.1 ≠ dr) :
    Ctr w 91 [.ref r] 3 30 ((dr, ringO w.params t1 t2 t3 most tm lv (.ref o)) :: (r, instObj 101 dr) :: (o, listOf (List.toArray []) no) :: rest) (fun nx r' => (∀ p ∈ ((dr, ringO w.params t1 t2 t3 most tm lv (.ref o)) :: (r, instObj 101 dr) :: (o, listOf (List.toArray []) no) :: rest), p ∈ nx) ∧ r' = .bool false) := by
  unfold Ctr
  k_fill
  intro mean mg mb dp un gd cn cs a ccd cl outer A₀ base h₀ L m s R B F X N T hk hdp hu hret
  k_dflt cell_enter
  w_top off
  repeat' (first
    | (k_unfold; (try dsimp only))
    | (k_here; (with_reducible show wpAny _ _ (PySem.call (Value.ref 56) _ _) _ _ _); k_dflt ((refine' Ctr.use (rowsS _ _ _ _ lv hl _ _ _ _ _ _ _ ?hh9hr ?hh9hdr ?hh9ho) ?hh9B ?hh9F ?hh9X ?hh9N ?hh9T ?hh9hk ?hh9hd ?hh9hu ?_); (case hh9B => k_asm); (case hh9F => k_asm); (case hh9X => k_asm); (case hh9N => k_asm); (case hh9hr => k_mem); (case hh9hdr => k_mem); (case hh9ho => k_mem); (case hh9T => k_asm); (case hh9hk => first | exact rfl | assumption); (case hh9hd => (first | exact roomA (by with_reducible assumption) (by decide) | exact roomAB (by with_reducible assumption) (by decide) | exact roomABC (by with_reducible assumption) (by decide) | exact room0 (by with_reducible assumption) (by rfl) | exact roomN 1 (by with_reducible assumption) (by rfl) (by decide) | exact roomN 2 (by with_reducible assumption) (by rfl) (by decide) | exact roomN 3 (by with_reducible assumption) (by rfl) (by decide) | ktr_room)); (case hh9hu => (first | exact roomA (by with_reducible assumption) (by decide) | exact roomAB (by with_reducible assumption) (by decide) | exact roomABC (by with_reducible assumption) (by decide) | exact room0 (by with_reducible assumption) (by rfl) | exact roomN 3 (by with_reducible assumption) (by rfl) (by decide) | exact roomN 6 (by with_reducible assumption) (by rfl) (by decide) | ktr_units))); intro r9 nx9 h' tk' F' N' hP9; obtain ⟨q9, e9, e9'⟩ := hP9; subst e9; subst e9'; (try dsimp only); (try k_fold); (try k_sweep))
    | (k_here; (with_reducible show wpAny _ _ (PySem.call (Value.ref 70) _ _) _ _ _); k_dflt ((refine' Ctr.use (take0u _ _ _ _ _ _ _ _ _ _ _ _ _ _ ?hh9hU ?hh9hr ?hh9hq ?hh9hrd ?hh9hqd) ?hh9B ?hh9F ?hh9X ?hh9N ?hh9T ?hh9hk ?hh9hd ?hh9hu ?_); (case hh9B => k_asm); (case hh9F => k_asm); (case hh9X => k_asm); (case hh9N => k_asm); (case hh9hr => k_mem); (case hh9hq => k_mem); (case hh9hU => (intro D9; k_upd)); (case hh9hrd => (first | with_reducible assumption | exact Ne.symm (by with_reducible assumption) | k_ne)); (case hh9hqd => (first | with_reducible assumption | exact Ne.symm (by with_reducible assumption) | k_ne)); (case hh9T => k_asm); (case hh9hk => first | exact rfl | assumption); (case hh9hd => (first | exact roomA (by with_reducible assumption) (by decide) | exact roomAB (by with_reducible assumption) (by decide) | exact roomABC (by with_reducible assumption) (by decide) | exact room0 (by with_reducible assumption) (by rfl) | exact roomN 1 (by with_reducible assumption) (by rfl) (by decide) | exact roomN 2 (by with_reducible assumption) (by rfl) (by decide) | exact roomN 3 (by with_reducible assumption) (by rfl) (by decide) | ktr_room)); (case hh9hu => (first | exact roomA (by with_reducible assumption) (by decide) | exact roomAB (by with_reducible assumption) (by decide) | exact roomABC (by with_reducible assumption) (by decide) | exact room0 (by with_reducible assumption) (by rfl) | exact roomN 3 (by with_reducible assumption) (by rfl) (by decide) | exact roomN 6 (by with_reducible assumption) (by rfl) (by decide) | ktr_units))); intro r9 nx9 h' tk' F' N' hP9; obtain ⟨q9, e9, e9', l9⟩ := hP9; subst e9; subst e9'; (try dsimp only at N'); (try k_lt l9); (try dsimp only); (try k_fold); (try k_sweep))
    | (k_here; (with_reducible show wpAny _ _ (PySem.call (Value.ref 70) _ _) _ _ _); k_dflt ((refine' Ctr.use (take1u _ _ _ _ _ _ _ _ _ _ _ _ _ _ _ _ ?hh9hU ?hh9hr ?hh9hq ?hh9hz ?hh9hrd ?hh9hqd) ?hh9B ?hh9F ?hh9X ?hh9N ?hh9T ?hh9hk ?hh9hd ?hh9hu ?_); (case hh9B => k_asm); (case hh9F => k_asm); (case hh9X => k_asm); (case hh9N => k_asm); (case hh9hr => k_mem); (case hh9hq => k_mem); (case hh9hU => (intro D9; k_upd)); (case hh9hz => (simp only [List.length_cons, List.length_nil, List.length_append]; omega)); (case hh9hrd => (first | with_reducible assumption | exact Ne.symm (by with_reducible assumption) | k_ne)); (case hh9hqd => (first | with_reducible assumption | exact Ne.symm (by with_reducible assumption) | k_ne)); (case hh9T => k_asm); (case hh9hk => first | exact rfl | assumption); (case hh9hd => (first | exact roomA (by with_reducible assumption) (by decide) | exact roomAB (by with_reducible assumption) (by decide) | exact roomABC (by with_reducible assumption) (by decide) | exact room0 (by with_reducible assumption) (by rfl) | exact roomN 1 (by with_reducible assumption) (by rfl) (by decide) | exact roomN 2 (by with_reducible assumption) (by rfl) (by decide) | exact roomN 3 (by with_reducible assumption) (by rfl) (by decide) | ktr_room)); (case hh9hu => (first | exact roomA (by with_reducible assumption) (by decide) | exact roomAB (by with_reducible assumption) (by decide) | exact roomABC (by with_reducible assumption) (by decide) | exact room0 (by with_reducible assumption) (by rfl) | exact roomN 3 (by with_reducible assumption) (by rfl) (by decide) | exact roomN 6 (by with_reducible assumption) (by rfl) (by decide) | ktr_units))); intro r9 nx9 h' tk' F' N' hP9; obtain ⟨q9, e9, e9', l9⟩ := hP9; subst e9; subst e9'; (try dsimp only at N'); (try k_lt l9); (try dsimp only); (try k_fold); (try k_sweep))
    | (k_here; (with_reducible show wpAny _ _ (PySem.call (Value.ref 56) _ _) _ _ _); k_dflt ((refine' Ctr.use (rows0u _ _ _ _ _ _ _ _ _ _ ?hh9hr ?hh9hdr) ?hh9B ?hh9F ?hh9X ?hh9N ?hh9T ?hh9hk ?hh9hd ?hh9hu ?_); (case hh9B => k_asm); (case hh9F => k_asm); (case hh9X => k_asm); (case hh9N => k_asm); (case hh9hr => k_mem); (case hh9hdr => k_mem); (case hh9T => k_asm); (case hh9hk => first | exact rfl | assumption); (case hh9hd => (first | exact roomA (by with_reducible assumption) (by decide) | exact roomAB (by with_reducible assumption) (by decide) | exact roomABC (by with_reducible assumption) (by decide) | exact room0 (by with_reducible assumption) (by rfl) | exact roomN 1 (by with_reducible assumption) (by rfl) (by decide) | exact roomN 2 (by with_reducible assumption) (by rfl) (by decide) | exact roomN 3 (by with_reducible assumption) (by rfl) (by decide) | ktr_room)); (case hh9hu => (first | exact roomA (by with_reducible assumption) (by decide) | exact roomAB (by with_reducible assumption) (by decide) | exact roomABC (by with_reducible assumption) (by decide) | exact room0 (by with_reducible assumption) (by rfl) | exact roomN 3 (by with_reducible assumption) (by rfl) (by decide) | exact roomN 6 (by with_reducible assumption) (by rfl) (by decide) | ktr_units))); intro r9 nx9 h' tk' F' N' hP9; obtain ⟨e9, e9'⟩ := hP9; subst e9; subst e9'; (try dsimp only); (try k_fold); (try k_sweep))
    | (k_here; (with_reducible show wpAny _ _ (PySem.call (Value.ref 56) _ _) _ _ _); k_dflt ((refine' Ctr.use (rows1u _ _ _ _ _ _ _ _ _ _ _ _ _ ?hh9hr ?hh9hdr ?hh9ho ?hh9hz) ?hh9B ?hh9F ?hh9X ?hh9N ?hh9T ?hh9hk ?hh9hd ?hh9hu ?_); (case hh9B => k_asm); (case hh9F => k_asm); (case hh9X => k_asm); (case hh9N => k_asm); (case hh9hr => k_mem); (case hh9hdr => k_mem); (case hh9ho => k_mem); (case hh9hz => (simp only [List.length_cons, List.length_nil, List.length_append]; omega)); (case hh9T => k_asm); (case hh9hk => first | exact rfl | assumption); (case hh9hd => (first | exact roomA (by with_reducible assumption) (by decide) | exact roomAB (by with_reducible assumption) (by decide) | exact roomABC (by with_reducible assumption) (by decide) | exact room0 (by with_reducible assumption) (by rfl) | exact roomN 1 (by with_reducible assumption) (by rfl) (by decide) | exact roomN 2 (by with_reducible assumption) (by rfl) (by decide) | exact roomN 3 (by with_reducible assumption) (by rfl) (by decide) | ktr_room)); (case hh9hu => (first | exact roomA (by with_reducible assumption) (by decide) | exact roomAB (by with_reducible assumption) (by decide) | exact roomABC (by with_reducible assumption) (by decide) | exact room0 (by with_reducible assumption) (by rfl) | exact roomN 3 (by with_reducible assumption) (by rfl) (by decide) | exact roomN 6 (by with_reducible assumption) (by rfl) (by decide) | ktr_units))); intro r9 nx9 h' tk' F' N' hP9; obtain ⟨q9, e9, e9', l9⟩ := hP9; subst e9; subst e9'; (try k_lt l9); (try dsimp only); (try k_fold); (try k_sweep))
    | (k_here; (with_reducible show wpAny _ _ (subscriptTail _ (PySem.Expr.Slice _ _ none _) (Value.ref _) (Value.ref _)) _ _ _); k_dflt (refine' kms_slice_lit ?hh9F ?hh9N ?hh9l ?hh9p ?hh9q ?hh9e ?_ ?hh9s ?hh9t ?hh9z; (case hh9F => k_asm); (case hh9N => k_asm); (case hh9l => kmk_list); (case hh9p => kmk_part); (case hh9q => kmk_part); (case hh9e => first | exact pickNil _ _ | exact pick1c _ _ | exact pick2c _ _ _ | exact pickT1c _ _ | exact pickLast3 _ _ _ | exact pickBut3 _ _ _ | exact pickLast2 _ _ | exact pickBut2 _ _ | exact pick1 _ | exact pick2 _ | exact pickLast _ | exact pickBut _ | exact pickTo _ _ (by omega)); (case hh9s => with_unfolding_all rfl); (case hh9t => kmk_pure); (case hh9z => (simp only [sizeLine_eq, List.size_toArray, List.length_cons, List.length_nil, List.length_append, List.length_drop, List.length_take]; omega))); intro D' h' F' N' l1; (try k_lt l1); (try k_sweep))
    | (k_here; (with_reducible show wpAny _ _ (compareOp CmpOp.NotEq (Value.ref _) (Value.ref _)) _ _ _); k_dflt (refine' neNil ?hh9a ?hh9b ?hh9u ?_; (case hh9a => kmk_list); (case hh9b => kmk_list); (case hh9u => (first | exact roomA (by with_reducible assumption) (by decide) | exact roomAB (by with_reducible assumption) (by decide) | exact roomABC (by with_reducible assumption) (by decide) | exact room0 (by with_reducible assumption) (by rfl) | exact roomN 3 (by with_reducible assumption) (by rfl) (by decide) | exact roomN 6 (by with_reducible assumption) (by rfl) (by decide) | ktr_units))))
    | (k_here; (with_reducible show wpAny _ _ (compareOp CmpOp.NotEq (Value.ref _) (Value.ref _)) _ _ _); k_dflt (refine' neCons ?hh9a ?hh9b ?hh9u ?_; (case hh9a => kmk_list); (case hh9b => kmk_list); (case hh9u => (first | exact roomA (by with_reducible assumption) (by decide) | exact roomAB (by with_reducible assumption) (by decide) | exact roomABC (by with_reducible assumption) (by decide) | exact room0 (by with_reducible assumption) (by rfl) | exact roomN 3 (by with_reducible assumption) (by rfl) (by decide) | exact roomN 6 (by with_reducible assumption) (by rfl) (by decide) | ktr_units))))
    | (k_here; (with_reducible show wpAny _ _ (compareOp CmpOp.NotEq (Value.ref _) (Value.ref _)) _ _ _); k_dflt (refine' neEmpty ?hh9a ?hh9b ?hh9u ?_; (case hh9a => kmk_list); (case hh9b => kmk_list); (case hh9u => (first | exact roomA (by with_reducible assumption) (by decide) | exact roomAB (by with_reducible assumption) (by decide) | exact roomABC (by with_reducible assumption) (by decide) | exact room0 (by with_reducible assumption) (by rfl) | exact roomN 3 (by with_reducible assumption) (by rfl) (by decide) | exact roomN 6 (by with_reducible assumption) (by rfl) (by decide) | ktr_units))))
    | (k_here; (with_reducible show wpAny _ _ (compareOp CmpOp.Eq (Value.ref _) (Value.ref _)) _ _ _); k_dflt (refine' eqNil ?hh9a ?hh9b ?hh9u ?_; (case hh9a => kmk_list); (case hh9b => kmk_list); (case hh9u => (first | exact roomA (by with_reducible assumption) (by decide) | exact roomAB (by with_reducible assumption) (by decide) | exact roomABC (by with_reducible assumption) (by decide) | exact room0 (by with_reducible assumption) (by rfl) | exact roomN 3 (by with_reducible assumption) (by rfl) (by decide) | exact roomN 6 (by with_reducible assumption) (by rfl) (by decide) | ktr_units))))
    | (k_here; (with_reducible show wpAny _ _ (compareOp CmpOp.Eq (Value.ref _) (Value.ref _)) _ _ _); k_dflt (refine' eqSnoc ?hh9a ?hh9b ?hh9u ?_; (case hh9a => kmk_list); (case hh9b => kmk_list); (case hh9u => (first | exact roomA (by with_reducible assumption) (by decide) | exact roomAB (by with_reducible assumption) (by decide) | exact roomABC (by with_reducible assumption) (by decide) | exact room0 (by with_reducible assumption) (by rfl) | exact roomN 3 (by with_reducible assumption) (by rfl) (by decide) | exact roomN 6 (by with_reducible assumption) (by rfl) (by decide) | ktr_units))))
    | (k_here; (with_reducible show wpAny _ _ (compareOp CmpOp.Eq (Value.ref _) (Value.ref _)) _ _ _); k_dflt (refine' eqCons ?hh9a ?hh9b ?hh9u ?_; (case hh9a => kmk_list); (case hh9b => kmk_list); (case hh9u => (first | exact roomA (by with_reducible assumption) (by decide) | exact roomAB (by with_reducible assumption) (by decide) | exact roomABC (by with_reducible assumption) (by decide) | exact room0 (by with_reducible assumption) (by rfl) | exact roomN 3 (by with_reducible assumption) (by rfl) (by decide) | exact roomN 6 (by with_reducible assumption) (by rfl) (by decide) | ktr_units))))
    | (k_here; (with_reducible show wpAny _ _ (compareOp CmpOp.Eq (Value.ref _) (Value.ref _)) _ _ _); k_dflt (refine' eqEmpty ?hh9a ?hh9b ?hh9u ?_; (case hh9a => kmk_list); (case hh9b => kmk_list); (case hh9u => (first | exact roomA (by with_reducible assumption) (by decide) | exact roomAB (by with_reducible assumption) (by decide) | exact roomABC (by with_reducible assumption) (by decide) | exact room0 (by with_reducible assumption) (by rfl) | exact roomN 3 (by with_reducible assumption) (by rfl) (by decide) | exact roomN 6 (by with_reducible assumption) (by rfl) (by decide) | ktr_units))))
    | (k_here; (with_reducible show wpAny _ _ (binaryOp _ (Value.ref _) (Value.ref _)) _ _ _); k_dflt (refine' kmk_add_lit ?hh9F ?hh9N ?hh9a ?hh9b ?hh9e ?_ ?hh9z; (case hh9F => k_asm); (case hh9N => k_asm); (case hh9a => kmk_list); (case hh9b => kmk_list); (case hh9e => ((simp only [List.cons_append, List.nil_append]); exact rfl)); (case hh9z => (simp only [sizeLine_eq, List.length_cons, List.length_nil, List.length_append, List.length_drop, List.length_take]; omega))); intro D' h' F' N' l1; (try k_lt l1); (try k_sweep))
    | (k_end; wrow_close)
    | walk1
    | (dsimp only; walk1)
    | (leave1; walk_say "STEP leave1"; try dsimp only)
    | fail "no step")
  exact hret _ _ _ _ (by assumption) (by assumption) ⟨(by kcj_in), rfl⟩

set_option maxHeartbeats 8000000 in
theorem meth3m (w : World) (r dr o : Addr) (x : Addr) (y : Value) (ys : List Value) (t1 t2 t3 : Tok) (most : Int) (tm : Tok) (no : Nat) (rest : List (Addr × Obj)) (hz : ys.length ≤ 50) (hrd : r ≠ dr) (ho : o ≠ dr) (hrest : ∀ p ∈ rest, p.1 ≠ dr) :
    Ctr w 77 [.ref r] 3 30 ((dr, ringO w.params t1 t2 t3 most tm (.ref x) (.ref o)) :: (r, instObj 101 dr) :: (o, listOf (List.toArray (y :: ys)) no) :: rest)
      (fun nx r' => ∃ D, (∀ p ∈ (D, listOf (List.toArray (ys ++ [Value.ref x])) 0) :: (dr, ringO w.params t1 t2 t3 most tm (y) (.ref D)) :: (r, instObj 101 dr) :: (o, listOf (List.toArray (y :: ys)) no) :: rest, p ∈ nx) ∧ r' = .bool true ∧
        AllLt D ((dr, ringO w.params t1 t2 t3 most tm (.ref x) (.ref o)) :: (r, instObj 101 dr) :: (o, listOf (List.toArray (y :: ys)) no) :: rest)) := by
  unfold Ctr
  k_fill
  intro mean mg mb dp un gd cn cs a ccd cl outer A₀ base h₀ L m s R B F X N T hk hdp hu hret
  k_dflt cell_enter
  w_top off
  repeat' (first
    | (k_unfold; (try dsimp only))
    | (k_here; (with_reducible show wpAny _ _ (PySem.call (Value.ref 56) _ _) _ _ _); k_dflt ((refine' Ctr.use (rowsS _ _ _ _ lv hl _ _ _ _ _ _ _ ?hh9hr ?hh9hdr ?hh9ho) ?hh9B ?hh9F ?hh9X ?hh9N ?hh9T ?hh9hk ?hh9hd ?hh9hu ?_); (case hh9B => k_asm); (case hh9F => k_asm); (case hh9X => k_asm); (case hh9N => k_asm); (case hh9hr => k_mem); (case hh9hdr => k_mem); (case hh9ho => k_mem); (case hh9T => k_asm); (case hh9hk => first | exact rfl | assumption); (case hh9hd => (first | exact roomA (by with_reducible assumption) (by decide) | exact roomAB (by with_reducible assumption) (by decide) | exact roomABC (by with_reducible assumption) (by decide) | exact room0 (by with_reducible assumption) (by rfl) | exact roomN 1 (by with_reducible assumption) (by rfl) (by decide) | exact roomN 2 (by with_reducible assumption) (by rfl) (by decide) | exact roomN 3 (by with_reducible assumption) (by rfl) (by decide) | ktr_room)); (case hh9hu => (first | exact roomA (by with_reducible assumption) (by decide) | exact roomAB (by with_reducible assumption) (by decide) | exact roomABC (by with_reducible assumption) (by decide) | exact room0 (by with_reducible assumption) (by rfl) | exact roomN 3 (by with_reducible assumption) (by rfl) (by decide) | exact roomN 6 (by with_reducible assumption) (by rfl) (by decide) | ktr_units))); intro r9 nx9 h' tk' F' N' hP9; obtain ⟨q9, e9, e9'⟩ := hP9; subst e9; subst e9'; (try dsimp only); (try k_fold); (try k_sweep))
    | (k_here; (with_reducible show wpAny _ _ (PySem.call (Value.ref 70) _ _) _ _ _); k_dflt ((refine' Ctr.use (take0u _ _ _ _ _ _ _ _ _ _ _ _ _ _ ?hh9hU ?hh9hr ?hh9hq ?hh9hrd ?hh9hqd) ?hh9B ?hh9F ?hh9X ?hh9N ?hh9T ?hh9hk ?hh9hd ?hh9hu ?_); (case hh9B => k_asm); (case hh9F => k_asm); (case hh9X => k_asm); (case hh9N => k_asm); (case hh9hr => k_mem); (case hh9hq => k_mem); (case hh9hU => (intro D9; k_upd)); (case hh9hrd => (first | with_reducible assumption | exact Ne.symm (by with_reducible assumption) | k_ne)); (case hh9hqd => (first | with_reducible assumption | exact Ne.symm (by with_reducible assumption) | k_ne)); (case hh9T => k_asm); (case hh9hk => first | exact rfl | assumption); (case hh9hd => (first | exact roomA (by with_reducible assumption) (by decide) | exact roomAB (by with_reducible assumption) (by decide) | exact roomABC (by with_reducible assumption) (by decide) | exact room0 (by with_reducible assumption) (by rfl) | exact roomN 1 (by with_reducible assumption) (by rfl) (by decide) | exact roomN 2 (by with_reducible assumption) (by rfl) (by decide) | exact roomN 3 (by with_reducible assumption) (by rfl) (by decide) | ktr_room)); (case hh9hu => (first | exact roomA (by with_reducible assumption) (by decide) | exact roomAB (by with_reducible assumption) (by decide) | exact roomABC (by with_reducible assumption) (by decide) | exact room0 (by with_reducible assumption) (by rfl) | exact roomN 3 (by with_reducible assumption) (by rfl) (by decide) | exact roomN 6 (by with_reducible assumption) (by rfl) (by decide) | ktr_units))); intro r9 nx9 h' tk' F' N' hP9; obtain ⟨q9, e9, e9', l9⟩ := hP9; subst e9; subst e9'; (try dsimp only at N'); (try k_lt l9); (try dsimp only); (try k_fold); (try k_sweep))
    | (k_here; (with_reducible show wpAny _ _ (PySem.call (Value.ref 70) _ _) _ _ _); k_dflt ((refine' Ctr.use (take1u _ _ _ _ _ _ _ _ _ _ _ _ _ _ _ _ ?hh9hU ?hh9hr ?hh9hq ?hh9hz ?hh9hrd ?hh9hqd) ?hh9B ?hh9F ?hh9X ?hh9N ?hh9T ?hh9hk ?hh9hd ?hh9hu ?_); (case hh9B => k_asm); (case hh9F => k_asm); (case hh9X => k_asm); (case hh9N => k_asm); (case hh9hr => k_mem); (case hh9hq => k_mem); (case hh9hU => (intro D9; k_upd)); (case hh9hz => (simp only [List.length_cons, List.length_nil, List.length_append]; omega)); (case hh9hrd => (first | with_reducible assumption | exact Ne.symm (by with_reducible assumption) | k_ne)); (case hh9hqd => (first | with_reducible assumption | exact Ne.symm (by with_reducible assumption) | k_ne)); (case hh9T => k_asm); (case hh9hk => first | exact rfl | assumption); (case hh9hd => (first | exact roomA (by with_reducible assumption) (by decide) | exact roomAB (by with_reducible assumption) (by decide) | exact roomABC (by with_reducible assumption) (by decide) | exact room0 (by with_reducible assumption) (by rfl) | exact roomN 1 (by with_reducible assumption) (by rfl) (by decide) | exact roomN 2 (by with_reducible assumption) (by rfl) (by decide) | exact roomN 3 (by with_reducible assumption) (by rfl) (by decide) | ktr_room)); (case hh9hu => (first | exact roomA (by with_reducible assumption) (by decide) | exact roomAB (by with_reducible assumption) (by decide) | exact roomABC (by with_reducible assumption) (by decide) | exact room0 (by with_reducible assumption) (by rfl) | exact roomN 3 (by with_reducible assumption) (by rfl) (by decide) | exact roomN 6 (by with_reducible assumption) (by rfl) (by decide) | ktr_units))); intro r9 nx9 h' tk' F' N' hP9; obtain ⟨q9, e9, e9', l9⟩ := hP9; subst e9; subst e9'; (try dsimp only at N'); (try k_lt l9); (try dsimp only); (try k_fold); (try k_sweep))
    | (k_here; (with_reducible show wpAny _ _ (PySem.call (Value.ref 56) _ _) _ _ _); k_dflt ((refine' Ctr.use (rows0u _ _ _ _ _ _ _ _ _ _ ?hh9hr ?hh9hdr) ?hh9B ?hh9F ?hh9X ?hh9N ?hh9T ?hh9hk ?hh9hd ?hh9hu ?_); (case hh9B => k_asm); (case hh9F => k_asm); (case hh9X => k_asm); (case hh9N => k_asm); (case hh9hr => k_mem); (case hh9hdr => k_mem); (case hh9T => k_asm); (case hh9hk => first | exact rfl | assumption); (case hh9hd => (first | exact roomA (by with_reducible assumption) (by decide) | exact roomAB (by with_reducible assumption) (by decide) | exact roomABC (by with_reducible assumption) (by decide) | exact room0 (by with_reducible assumption) (by rfl) | exact roomN 1 (by with_reducible assumption) (by rfl) (by decide) | exact roomN 2 (by with_reducible assumption) (by rfl) (by decide) | exact roomN 3 (by with_reducible assumption) (by rfl) (by decide) | ktr_room)); (case hh9hu => (first | exact roomA (by with_reducible assumption) (by decide) | exact roomAB (by with_reducible assumption) (by decide) | exact roomABC (by with_reducible assumption) (by decide) | exact room0 (by with_reducible assumption) (by rfl) | exact roomN 3 (by with_reducible assumption) (by rfl) (by decide) | exact roomN 6 (by with_reducible assumption) (by rfl) (by decide) | ktr_units))); intro r9 nx9 h' tk' F' N' hP9; obtain ⟨e9, e9'⟩ := hP9; subst e9; subst e9'; (try dsimp only); (try k_fold); (try k_sweep))
    | (k_here; (with_reducible show wpAny _ _ (PySem.call (Value.ref 56) _ _) _ _ _); k_dflt ((refine' Ctr.use (rows1u _ _ _ _ _ _ _ _ _ _ _ _ _ ?hh9hr ?hh9hdr ?hh9ho ?hh9hz) ?hh9B ?hh9F ?hh9X ?hh9N ?hh9T ?hh9hk ?hh9hd ?hh9hu ?_); (case hh9B => k_asm); (case hh9F => k_asm); (case hh9X => k_asm); (case hh9N => k_asm); (case hh9hr => k_mem); (case hh9hdr => k_mem); (case hh9ho => k_mem); (case hh9hz => (simp only [List.length_cons, List.length_nil, List.length_append]; omega)); (case hh9T => k_asm); (case hh9hk => first | exact rfl | assumption); (case hh9hd => (first | exact roomA (by with_reducible assumption) (by decide) | exact roomAB (by with_reducible assumption) (by decide) | exact roomABC (by with_reducible assumption) (by decide) | exact room0 (by with_reducible assumption) (by rfl) | exact roomN 1 (by with_reducible assumption) (by rfl) (by decide) | exact roomN 2 (by with_reducible assumption) (by rfl) (by decide) | exact roomN 3 (by with_reducible assumption) (by rfl) (by decide) | ktr_room)); (case hh9hu => (first | exact roomA (by with_reducible assumption) (by decide) | exact roomAB (by with_reducible assumption) (by decide) | exact roomABC (by with_reducible assumption) (by decide) | exact room0 (by with_reducible assumption) (by rfl) | exact roomN 3 (by with_reducible assumption) (by rfl) (by decide) | exact roomN 6 (by with_reducible assumption) (by rfl) (by decide) | ktr_units))); intro r9 nx9 h' tk' F' N' hP9; obtain ⟨q9, e9, e9', l9⟩ := hP9; subst e9; subst e9'; (try k_lt l9); (try dsimp only); (try k_fold); (try k_sweep))
    | (k_here; (with_reducible show wpAny _ _ (subscriptTail _ (PySem.Expr.Slice _ _ none _) (Value.ref _) (Value.ref _)) _ _ _); k_dflt (refine' kms_slice_lit ?hh9F ?hh9N ?hh9l ?hh9p ?hh9q ?hh9e ?_ ?hh9s ?hh9t ?hh9z; (case hh9F => k_asm); (case hh9N => k_asm); (case hh9l => kmk_list); (case hh9p => kmk_part); (case hh9q => kmk_part); (case hh9e => first | exact pickNil _ _ | exact pick1c _ _ | exact pick2c _ _ _ | exact pickT1c _ _ | exact pickLast3 _ _ _ | exact pickBut3 _ _ _ | exact pickLast2 _ _ | exact pickBut2 _ _ | exact pick1 _ | exact pick2 _ | exact pickLast _ | exact pickBut _ | exact pickTo _ _ (by omega)); (case hh9s => with_unfolding_all rfl); (case hh9t => kmk_pure); (case hh9z => (simp only [sizeLine_eq, List.size_toArray, List.length_cons, List.length_nil, List.length_append, List.length_drop, List.length_take]; omega))); intro D' h' F' N' l1; (try k_lt l1); (try k_sweep))
    | (k_here; (with_reducible show wpAny _ _ (compareOp CmpOp.NotEq (Value.ref _) (Value.ref _)) _ _ _); k_dflt (refine' neNil ?hh9a ?hh9b ?hh9u ?_; (case hh9a => kmk_list); (case hh9b => kmk_list); (case hh9u => (first | exact roomA (by with_reducible assumption) (by decide) | exact roomAB (by with_reducible assumption) (by decide) | exact roomABC (by with_reducible assumption) (by decide) | exact room0 (by with_reducible assumption) (by rfl) | exact roomN 3 (by with_reducible assumption) (by rfl) (by decide) | exact roomN 6 (by with_reducible assumption) (by rfl) (by decide) | ktr_units))))
    | (k_here; (with_reducible show wpAny _ _ (compareOp CmpOp.NotEq (Value.ref _) (Value.ref _)) _ _ _); k_dflt (refine' neCons ?hh9a ?hh9b ?hh9u ?_; (case hh9a => kmk_list); (case hh9b => kmk_list); (case hh9u => (first | exact roomA (by with_reducible assumption) (by decide) | exact roomAB (by with_reducible assumption) (by decide) | exact roomABC (by with_reducible assumption) (by decide) | exact room0 (by with_reducible assumption) (by rfl) | exact roomN 3 (by with_reducible assumption) (by rfl) (by decide) | exact roomN 6 (by with_reducible assumption) (by rfl) (by decide) | ktr_units))))
    | (k_here; (with_reducible show wpAny _ _ (compareOp CmpOp.NotEq (Value.ref _) (Value.ref _)) _ _ _); k_dflt (refine' neEmpty ?hh9a ?hh9b ?hh9u ?_; (case hh9a => kmk_list); (case hh9b => kmk_list); (case hh9u => (first | exact roomA (by with_reducible assumption) (by decide) | exact roomAB (by with_reducible assumption) (by decide) | exact roomABC (by with_reducible assumption) (by decide) | exact room0 (by with_reducible assumption) (by rfl) | exact roomN 3 (by with_reducible assumption) (by rfl) (by decide) | exact roomN 6 (by with_reducible assumption) (by rfl) (by decide) | ktr_units))))
    | (k_here; (with_reducible show wpAny _ _ (compareOp CmpOp.Eq (Value.ref _) (Value.ref _)) _ _ _); k_dflt (refine' eqNil ?hh9a ?hh9b ?hh9u ?_; (case hh9a => kmk_list); (case hh9b => kmk_list); (case hh9u => (first | exact roomA (by with_reducible assumption) (by decide) | exact roomAB (by with_reducible assumption) (by decide) | exact roomABC (by with_reducible assumption) (by decide) | exact room0 (by with_reducible assumption) (by rfl) | exact roomN 3 (by with_reducible assumption) (by rfl) (by decide) | exact roomN 6 (by with_reducible assumption) (by rfl) (by decide) | ktr_units))))
    | (k_here; (with_reducible show wpAny _ _ (compareOp CmpOp.Eq (Value.ref _) (Value.ref _)) _ _ _); k_dflt (refine' eqSnoc ?hh9a ?hh9b ?hh9u ?_; (case hh9a => kmk_list); (case hh9b => kmk_list); (case hh9u => (first | exact roomA (by with_reducible assumption) (by decide) | exact roomAB (by with_reducible assumption) (by decide) | exact roomABC (by with_reducible assumption) (by decide) | exact room0 (by with_reducible assumption) (by rfl) | exact roomN 3 (by with_reducible assumption) (by rfl) (by decide) | exact roomN 6 (by with_reducible assumption) (by rfl) (by decide) | ktr_units))))
    | (k_here; (with_reducible show wpAny _ _ (compareOp CmpOp.Eq (Value.ref _) (Value.ref _)) _ _ _); k_dflt (refine' eqCons ?hh9a ?hh9b ?hh9u ?_; (case hh9a => kmk_list); (case hh9b => kmk_list); (case hh9u => (first | exact roomA (by with_reducible assumption) (by decide) | exact roomAB (by with_reducible assumption) (by decide) | exact roomABC (by with_reducible assumption) (by decide) | exact room0 (by with_reducible assumption) (by rfl) | exact roomN 3 (by with_reducible assumption) (by rfl) (by decide) | exact roomN 6 (by with_reducible assumption) (by rfl) (by decide) | ktr_units))))
    | (k_here; (with_reducible show wpAny _ _ (compareOp CmpOp.Eq (Value.ref _) (Value.ref _)) _ _ _); k_dflt (refine' eqEmpty ?hh9a ?hh9b ?hh9u ?_; (case hh9a => kmk_list); (case hh9b => kmk_list); (case hh9u => (first | exact roomA (by with_reducible assumption) (by decide) | exact roomAB (by with_reducible assumption) (by decide) | exact roomABC (by with_reducible assumption) (by decide) | exact room0 (by with_reducible assumption) (by rfl) | exact roomN 3 (by with_reducible assumption) (by rfl) (by decide) | exact roomN 6 (by with_reducible assumption) (by rfl) (by decide) | ktr_units))))
    | (k_here; (with_reducible show wpAny _ _ (binaryOp _ (Value.ref _) (Value.ref _)) _ _ _); k_dflt (refine' kmk_add_lit ?hh9F ?hh9N ?hh9a ?hh9b ?hh9e ?_ ?hh9z; (case hh9F => k_asm); (case hh9N => k_asm); (case hh9a => kmk_list); (case hh9b => kmk_list); (case hh9e => ((simp only [List.cons_append, List.nil_append]); exact rfl)); (case hh9z => (simp only [sizeLine_eq, List.length_cons, List.length_nil, List.length_append, List.length_drop, List.length_take]; omega))); intro D' h' F' N' l1; (try k_lt l1); (try k_sweep))
    | (k_end; wrow_close)
    | walk1
    | (dsimp only; walk1)
    | (leave1; walk_say "STEP leave1"; try dsimp only)
    | fail "no step")
  rename (_ < _ ∧ _) => l9
  have l8 := l9
  iterate 40 (try (replace l8 := l8.2))
  exact hret _ _ _ _ (by assumption) (by assumption) ⟨_, (by kcj_in), rfl, ⟨by omega, by omega, by omega, l8⟩⟩

set_option maxHeartbeats 8000000 in
theorem meth4m (w : World) (r dr o : Addr) (x : Addr) (y : Value) (ys : List Value) (t1 t2 t3 : Tok) (most : Int) (tm : Tok) (no : Nat) (rest : List (Addr × Obj)) (hz : ys.length ≤ 50) (hrd : r ≠ dr) (ho : o ≠ dr) (hrest : ∀ p ∈ rest, p.1 ≠ dr) :
    Ctr w 84 [.ref r] 3 30 ((dr, ringO w.params t1 t2 t3 most tm (.ref x) (.ref o)) :: (r, instObj 101 dr) :: (o, listOf (List.toArray (ys ++ [y])) no) :: rest)
      (fun nx r' => ∃ D, (∀ p ∈ (D, listOf (List.toArray (Value.ref x :: ys)) 0) :: (dr, ringO w.params t1 t2 t3 most tm (y) (.ref D)) :: (r, instObj 101 dr) :: (o, listOf (List.toArray (ys ++ [y])) no) :: rest, p ∈ nx) ∧ r' = .bool true ∧
        AllLt D ((dr, ringO w.params t1 t2 t3 most tm (.ref x) (.ref o)) :: (r, instObj 101 dr) :: (o, listOf (List.toArray (ys ++ [y])) no) :: rest)) := by
  unfold Ctr
  k_fill
  intro mean mg mb dp un gd cn cs a ccd cl outer A₀ base h₀ L m s R B F X N T hk hdp hu hret
  k_dflt cell_enter
  w_top off
  repeat' (first
    | (k_unfold; (try dsimp only))
    | (k_here; (with_reducible show wpAny _ _ (PySem.call (Value.ref 56) _ _) _ _ _); k_dflt ((refine' Ctr.use (rowsS _ _ _ _ lv hl _ _ _ _ _ _ _ ?hh9hr ?hh9hdr ?hh9ho) ?hh9B ?hh9F ?hh9X ?hh9N ?hh9T ?hh9hk ?hh9hd ?hh9hu ?_); (case hh9B => k_asm); (case hh9F => k_asm); (case hh9X => k_asm); (case hh9N => k_asm); (case hh9hr => k_mem); (case hh9hdr => k_mem); (case hh9ho => k_mem); (case hh9T => k_asm); (case hh9hk => first | exact rfl | assumption); (case hh9hd => (first | exact roomA (by with_reducible assumption) (by decide) | exact roomAB (by with_reducible assumption) (by decide) | exact roomABC (by with_reducible assumption) (by decide) | exact room0 (by with_reducible assumption) (by rfl) | exact roomN 1 (by with_reducible assumption) (by rfl) (by decide) | exact roomN 2 (by with_reducible assumption) (by rfl) (by decide) | exact roomN 3 (by with_reducible assumption) (by rfl) (by decide) | ktr_room)); (case hh9hu => (first | exact roomA (by with_reducible assumption) (by decide) | exact roomAB (by with_reducible assumption) (by decide) | exact roomABC (by with_reducible assumption) (by decide) | exact room0 (by with_reducible assumption) (by rfl) | exact roomN 3 (by with_reducible assumption) (by rfl) (by decide) | exact roomN 6 (by with_reducible assumption) (by rfl) (by decide) | ktr_units))); intro r9 nx9 h' tk' F' N' hP9; obtain ⟨q9, e9, e9'⟩ := hP9; subst e9; subst e9'; (try dsimp only); (try k_fold); (try k_sweep))
    | (k_here; (with_reducible show wpAny _ _ (PySem.call (Value.ref 70) _ _) _ _ _); k_dflt ((refine' Ctr.use (take0u _ _ _ _ _ _ _ _ _ _ _ _ _ _ ?hh9hU ?hh9hr ?hh9hq ?hh9hrd ?hh9hqd) ?hh9B ?hh9F ?hh9X ?hh9N ?hh9T ?hh9hk ?hh9hd ?hh9hu ?_); (case hh9B => k_asm); (case hh9F => k_asm); (case hh9X => k_asm); (case hh9N => k_asm); (case hh9hr => k_mem); (case hh9hq => k_mem); (case hh9hU => (intro D9; k_upd)); (case hh9hrd => (first | with_reducible assumption | exact Ne.symm (by with_reducible assumption) | k_ne)); (case hh9hqd => (first | with_reducible assumption | exact Ne.symm (by with_reducible assumption) | k_ne)); (case hh9T => k_asm); (case hh9hk => first | exact rfl | assumption); (case hh9hd => (first | exact roomA (by with_reducible assumption) (by decide) | exact roomAB (by with_reducible assumption) (by decide) | exact roomABC (by with_reducible assumption) (by decide) | exact room0 (by with_reducible assumption) (by rfl) | exact roomN 1 (by with_reducible assumption) (by rfl) (by decide) | exact roomN 2 (by with_reducible assumption) (by rfl) (by decide) | exact roomN 3 (by with_reducible assumption) (by rfl) (by decide) | ktr_room)); (case hh9hu => (first | exact roomA (by with_reducible assumption) (by decide) | exact roomAB (by with_reducible assumption) (by decide) | exact roomABC (by with_reducible assumption) (by decide) | exact room0 (by with_reducible assumption) (by rfl) | exact roomN 3 (by with_reducible assumption) (by rfl) (by decide) | exact roomN 6 (by with_reducible assumption) (by rfl) (by decide) | ktr_units))); intro r9 nx9 h' tk' F' N' hP9; obtain ⟨q9, e9, e9', l9⟩ := hP9; subst e9; subst e9'; (try dsimp only at N'); (try k_lt l9); (try dsimp only); (try k_fold); (try k_sweep))
    | (k_here; (with_reducible show wpAny _ _ (PySem.call (Value.ref 70) _ _) _ _ _); k_dflt ((refine' Ctr.use (take1u _ _ _ _ _ _ _ _ _ _ _ _ _ _ _ _ ?hh9hU ?hh9hr ?hh9hq ?hh9hz ?hh9hrd ?hh9hqd) ?hh9B ?hh9F ?hh9X ?hh9N ?hh9T ?hh9hk ?hh9hd ?hh9hu ?_); (case hh9B => k_asm); (case hh9F => k_asm); (case hh9X => k_asm); (case hh9N => k_asm); (case hh9hr => k_mem); (case hh9hq => k_mem); (case hh9hU => (intro D9; k_upd)); (case hh9hz => (simp only [List.length_cons, List.length_nil, List.length_append]; omega)); (case hh9hrd => (first | with_reducible assumption | exact Ne.symm (by with_reducible assumption) | k_ne)); (case hh9hqd => (first | with_reducible assumption | exact Ne.symm (by with_reducible assumption) | k_ne)); (case hh9T => k_asm); (case hh9hk => first | exact rfl | assumption); (case hh9hd => (first | exact roomA (by with_reducible assumption) (by decide) | exact roomAB (by with_reducible assumption) (by decide) | exact roomABC (by with_reducible assumption) (by decide) | exact room0 (by with_reducible assumption) (by rfl) | exact roomN 1 (by with_reducible assumption) (by rfl) (by decide) | exact roomN 2 (by with_reducible assumption) (by rfl) (by decide) | exact roomN 3 (by with_reducible assumption) (by rfl) (by decide) | ktr_room)); (case hh9hu => (first | exact roomA (by with_reducible assumption) (by decide) | exact roomAB (by with_reducible assumption) (by decide) | exact roomABC (by with_reducible assumption) (by decide) | exact room0 (by with_reducible assumption) (by rfl) | exact roomN 3 (by with_reducible assumption) (by rfl) (by decide) | exact roomN 6 (by with_reducible assumption) (by rfl) (by decide) | ktr_units))); intro r9 nx9 h' tk' F' N' hP9; obtain ⟨q9, e9, e9', l9⟩ := hP9; subst e9; subst e9'; (try dsimp only at N'); (try k_lt l9); (try dsimp only); (try k_fold); (try k_sweep))
    | (k_here; (with_reducible show wpAny _ _ (PySem.call (Value.ref 56) _ _) _ _ _); k_dflt ((refine' Ctr.use (rows0u _ _ _ _ _ _ _ _ _ _ ?hh9hr ?hh9hdr) ?hh9B ?hh9F ?hh9X ?hh9N ?hh9T ?hh9hk ?hh9hd ?hh9hu ?_); (case hh9B => k_asm); (case hh9F => k_asm); (case hh9X => k_asm); (case hh9N => k_asm); (case hh9hr => k_mem); (case hh9hdr => k_mem); (case hh9T => k_asm); (case hh9hk => first | exact rfl | assumption); (case hh9hd => (first | exact roomA (by with_reducible assumption) (by decide) | exact roomAB (by with_reducible assumption) (by decide) | exact roomABC (by with_reducible assumption) (by decide) | exact room0 (by with_reducible assumption) (by rfl) | exact roomN 1 (by with_reducible assumption) (by rfl) (by decide) | exact roomN 2 (by with_reducible assumption) (by rfl) (by decide) | exact roomN 3 (by with_reducible assumption) (by rfl) (by decide) | ktr_room)); (case hh9hu => (first | exact roomA (by with_reducible assumption) (by decide) | exact roomAB (by with_reducible assumption) (by decide) | exact roomABC (by with_reducible assumption) (by decide) | exact room0 (by with_reducible assumption) (by rfl) | exact roomN 3 (by with_reducible assumption) (by rfl) (by decide) | exact roomN 6 (by with_reducible assumption) (by rfl) (by decide) | ktr_units))); intro r9 nx9 h' tk' F' N' hP9; obtain ⟨e9, e9'⟩ := hP9; subst e9; subst e9'; (try dsimp only); (try k_fold); (try k_sweep))
    | (k_here; (with_reducible show wpAny _ _ (PySem.call (Value.ref 56) _ _) _ _ _); k_dflt ((refine' Ctr.use (rows1u _ _ _ _ _ _ _ _ _ _ _ _ _ ?hh9hr ?hh9hdr ?hh9ho ?hh9hz) ?hh9B ?hh9F ?hh9X ?hh9N ?hh9T ?hh9hk ?hh9hd ?hh9hu ?_); (case hh9B => k_asm); (case hh9F => k_asm); (case hh9X => k_asm); (case hh9N => k_asm); (case hh9hr => k_mem); (case hh9hdr => k_mem); (case hh9ho => k_mem); (case hh9hz => (simp only [List.length_cons, List.length_nil, List.length_append]; omega)); (case hh9T => k_asm); (case hh9hk => first | exact rfl | assumption); (case hh9hd => (first | exact roomA (by with_reducible assumption) (by decide) | exact roomAB (by with_reducible assumption) (by decide) | exact roomABC (by with_reducible assumption) (by decide) | exact room0 (by with_reducible assumption) (by rfl) | exact roomN 1 (by with_reducible assumption) (by rfl) (by decide) | exact roomN 2 (by with_reducible assumption) (by rfl) (by decide) | exact roomN 3 (by with_reducible assumption) (by rfl) (by decide) | ktr_room)); (case hh9hu => (first | exact roomA (by with_reducible assumption) (by decide) | exact roomAB (by with_reducible assumption) (by decide) | exact roomABC (by with_reducible assumption) (by decide) | exact room0 (by with_reducible assumption) (by rfl) | exact roomN 3 (by with_reducible assumption) (by rfl) (by decide) | exact roomN 6 (by with_reducible assumption) (by rfl) (by decide) | ktr_units))); intro r9 nx9 h' tk' F' N' hP9; obtain ⟨q9, e9, e9', l9⟩ := hP9; subst e9; subst e9'; (try k_lt l9); (try dsimp only); (try k_fold); (try k_sweep))
    | (k_here; (with_reducible show wpAny _ _ (subscriptTail _ (PySem.Expr.Slice _ _ none _) (Value.ref _) (Value.ref _)) _ _ _); k_dflt (refine' kms_slice_lit ?hh9F ?hh9N ?hh9l ?hh9p ?hh9q ?hh9e ?_ ?hh9s ?hh9t ?hh9z; (case hh9F => k_asm); (case hh9N => k_asm); (case hh9l => kmk_list); (case hh9p => kmk_part); (case hh9q => kmk_part); (case hh9e => first | exact pickNil _ _ | exact pick1c _ _ | exact pick2c _ _ _ | exact pickT1c _ _ | exact pickLast3 _ _ _ | exact pickBut3 _ _ _ | exact pickLast2 _ _ | exact pickBut2 _ _ | exact pick1 _ | exact pick2 _ | exact pickLast _ | exact pickBut _ | exact pickTo _ _ (by omega)); (case hh9s => with_unfolding_all rfl); (case hh9t => kmk_pure); (case hh9z => (simp only [sizeLine_eq, List.size_toArray, List.length_cons, List.length_nil, List.length_append, List.length_drop, List.length_take]; omega))); intro D' h' F' N' l1; (try k_lt l1); (try k_sweep))
    | (k_here; (with_reducible show wpAny _ _ (compareOp CmpOp.NotEq (Value.ref _) (Value.ref _)) _ _ _); k_dflt (refine' neNil ?hh9a ?hh9b ?hh9u ?_; (case hh9a => kmk_list); (case hh9b => kmk_list); (case hh9u => (first | exact roomA (by with_reducible assumption) (by decide) | exact roomAB (by with_reducible assumption) (by decide) | exact roomABC (by with_reducible assumption) (by decide) | exact room0 (by with_reducible assumption) (by rfl) | exact roomN 3 (by with_reducible assumption) (by rfl) (by decide) | exact roomN 6 (by with_reducible assumption) (by rfl) (by decide) | ktr_units))))
    | (k_here; (with_reducible show wpAny _ _ (compareOp CmpOp.NotEq (Value.ref _) (Value.ref _)) _ _ _); k_dflt (refine' neCons ?hh9a ?hh9b ?hh9u ?_; (case hh9a => kmk_list); (case hh9b => kmk_list); (case hh9u => (first | exact roomA (by with_reducible assumption) (by decide) | exact roomAB (by with_reducible assumption) (by decide) | exact roomABC (by with_reducible assumption) (by decide) | exact room0 (by with_reducible assumption) (by rfl) | exact roomN 3 (by with_reducible assumption) (by rfl) (by decide) | exact roomN 6 (by with_reducible assumption) (by rfl) (by decide) | ktr_units))))
    | (k_here; (with_reducible show wpAny _ _ (compareOp CmpOp.NotEq (Value.ref _) (Value.ref _)) _ _ _); k_dflt (refine' neEmpty ?hh9a ?hh9b ?hh9u ?_; (case hh9a => kmk_list); (case hh9b => kmk_list); (case hh9u => (first | exact roomA (by with_reducible assumption) (by decide) | exact roomAB (by with_reducible assumption) (by decide) | exact roomABC (by with_reducible assumption) (by decide) | exact room0 (by with_reducible assumption) (by rfl) | exact roomN 3 (by with_reducible assumption) (by rfl) (by decide) | exact roomN 6 (by with_reducible assumption) (by rfl) (by decide) | ktr_units))))
    | (k_here; (with_reducible show wpAny _ _ (compareOp CmpOp.Eq (Value.ref _) (Value.ref _)) _ _ _); k_dflt (refine' eqNil ?hh9a ?hh9b ?hh9u ?_; (case hh9a => kmk_list); (case hh9b => kmk_list); (case hh9u => (first | exact roomA (by with_reducible assumption) (by decide) | exact roomAB (by with_reducible assumption) (by decide) | exact roomABC (by with_reducible assumption) (by decide) | exact room0 (by with_reducible assumption) (by rfl) | exact roomN 3 (by with_reducible assumption) (by rfl) (by decide) | exact roomN 6 (by with_reducible assumption) (by rfl) (by decide) | ktr_units))))
    | (k_here; (with_reducible show wpAny _ _ (compareOp CmpOp.Eq (Value.ref _) (Value.ref _)) _ _ _); k_dflt (refine' eqSnoc ?hh9a ?hh9b ?hh9u ?_; (case hh9a => kmk_list); (case hh9b => kmk_list); (case hh9u => (first | exact roomA (by with_reducible assumption) (by decide) | exact roomAB (by with_reducible assumption) (by decide) | exact roomABC (by with_reducible assumption) (by decide) | exact room0 (by with_reducible assumption) (by rfl) | exact roomN 3 (by with_reducible assumption) (by rfl) (by decide) | exact roomN 6 (by with_reducible assumption) (by rfl) (by decide) | ktr_units))))
    | (k_here; (with_reducible show wpAny _ _ (compareOp CmpOp.Eq (Value.ref _) (Value.ref _)) _ _ _); k_dflt (refine' eqCons ?hh9a ?hh9b ?hh9u ?_; (case hh9a => kmk_list); (case hh9b => kmk_list); (case hh9u => (first | exact roomA (by with_reducible assumption) (by decide) | exact roomAB (by with_reducible assumption) (by decide) | exact roomABC (by with_reducible assumption) (by decide) | exact room0 (by with_reducible assumption) (by rfl) | exact roomN 3 (by with_reducible assumption) (by rfl) (by decide) | exact roomN 6 (by with_reducible assumption) (by rfl) (by decide) | ktr_units))))
    | (k_here; (with_reducible show wpAny _ _ (compareOp CmpOp.Eq (Value.ref _) (Value.ref _)) _ _ _); k_dflt (refine' eqEmpty ?hh9a ?hh9b ?hh9u ?_; (case hh9a => kmk_list); (case hh9b => kmk_list); (case hh9u => (first | exact roomA (by with_reducible assumption) (by decide) | exact roomAB (by with_reducible assumption) (by decide) | exact roomABC (by with_reducible assumption) (by decide) | exact room0 (by with_reducible assumption) (by rfl) | exact roomN 3 (by with_reducible assumption) (by rfl) (by decide) | exact roomN 6 (by with_reducible assumption) (by rfl) (by decide) | ktr_units))))
    | (k_here; (with_reducible show wpAny _ _ (binaryOp _ (Value.ref _) (Value.ref _)) _ _ _); k_dflt (refine' kmk_add_lit ?hh9F ?hh9N ?hh9a ?hh9b ?hh9e ?_ ?hh9z; (case hh9F => k_asm); (case hh9N => k_asm); (case hh9a => kmk_list); (case hh9b => kmk_list); (case hh9e => ((simp only [List.cons_append, List.nil_append]); exact rfl)); (case hh9z => (simp only [sizeLine_eq, List.length_cons, List.length_nil, List.length_append, List.length_drop, List.length_take]; omega))); intro D' h' F' N' l1; (try k_lt l1); (try k_sweep))
    | (k_end; wrow_close)
    | walk1
    | (dsimp only; walk1)
    | (leave1; walk_say "STEP leave1"; try dsimp only)
    | fail "no step")
  rename (_ < _ ∧ _) => l9
  have l8 := l9
  iterate 40 (try (replace l8 := l8.2))
  exact hret _ _ _ _ (by assumption) (by assumption) ⟨_, (by kcj_in), rfl, ⟨by omega, by omega, by omega, l8⟩⟩

set_option maxHeartbeats 8000000 in
theorem meth5m (w : World) (r dr o : Addr) (x : Addr) (y : Value) (ys : List Value) (t1 t2 t3 : Tok) (most : Int) (tm : Tok) (no : Nat) (rest : List (Addr × Obj)) (hz : ys.length ≤ 50) (hrd : r ≠ dr) (ho : o ≠ dr) (hrest : ∀ p ∈ rest, p.1 ≠ dr) :
    Ctr w 91 [.ref r] 3 30 ((dr, ringO w.params t1 t2 t3 most tm (.ref x) (.ref o)) :: (r, instObj 101 dr) :: (o, listOf (List.toArray (y :: ys)) no) :: rest)
      (fun nx r' => ∃ D, (∀ p ∈ (D, listOf (List.toArray (Value.ref x :: ys)) 0) :: (dr, ringO w.params t1 t2 t3 most tm (y) (.ref D)) :: (r, instObj 101 dr) :: (o, listOf (List.toArray (y :: ys)) no) :: rest, p ∈ nx) ∧ r' = .bool true ∧
        AllLt D ((dr, ringO w.params t1 t2 t3 most tm (.ref x) (.ref o)) :: (r, instObj 101 dr) :: (o, listOf (List.toArray (y :: ys)) no) :: rest)) := by
  unfold Ctr
  k_fill
  intro mean mg mb dp un gd cn cs a ccd cl outer A₀ base h₀ L m s R B F X N T hk hdp hu hret
  k_dflt cell_enter
  w_top off
  repeat' (first
    | (k_unfold; (try dsimp only))
    | (k_here; (with_reducible show wpAny _ _ (PySem.call (Value.ref 56) _ _) _ _ _); k_dflt ((refine' Ctr.use (rowsS _ _ _ _ lv hl _ _ _ _ _ _ _ ?hh9hr ?hh9hdr ?hh9ho) ?hh9B ?hh9F ?hh9X ?hh9N ?hh9T ?hh9hk ?hh9hd ?hh9hu ?_); (case hh9B => k_asm); (case hh9F => k_asm); (case hh9X => k_asm); (case hh9N => k_asm); (case hh9hr => k_mem); (case hh9hdr => k_mem); (case hh9ho => k_mem); (case hh9T => k_asm); (case hh9hk => first | exact rfl | assumption); (case hh9hd => (first | exact roomA (by with_reducible assumption) (by decide) | exact roomAB (by with_reducible assumption) (by decide) | exact roomABC (by with_reducible assumption) (by decide) | exact room0 (by with_reducible assumption) (by rfl) | exact roomN 1 (by with_reducible assumption) (by rfl) (by decide) | exact roomN 2 (by with_reducible assumption) (by rfl) (by decide) | exact roomN 3 (by with_reducible assumption) (by rfl) (by decide) | ktr_room)); (case hh9hu => (first | exact roomA (by with_reducible assumption) (by decide) | exact roomAB (by with_reducible assumption) (by decide) | exact roomABC (by with_reducible assumption) (by decide) | exact room0 (by with_reducible assumption) (by rfl) | exact roomN 3 (by with_reducible assumption) (by rfl) (by decide) | exact roomN 6 (by with_reducible assumption) (by rfl) (by decide) | ktr_units))); intro r9 nx9 h' tk' F' N' hP9; obtain ⟨q9, e9, e9'⟩ := hP9; subst e9; subst e9'; (try dsimp only); (try k_fold); (try k_sweep))
    | (k_here; (with_reducible show wpAny _ _ (PySem.call (Value.ref 70) _ _) _ _ _); k_dflt ((refine' Ctr.use (take0u _ _ _ _ _ _ _ _ _ _ _ _ _ _ ?hh9hU ?hh9hr ?hh9hq ?hh9hrd ?hh9hqd) ?hh9B ?hh9F ?hh9X ?hh9N ?hh9T ?hh9hk ?hh9hd ?hh9hu ?_); (case hh9B => k_asm); (case hh9F => k_asm); (case hh9X => k_asm); (case hh9N => k_asm); (case hh9hr => k_mem); (case hh9hq => k_mem); (case hh9hU => (intro D9; k_upd)); (case hh9hrd => (first | with_reducible assumption | exact Ne.symm (by with_reducible assumption) | k_ne)); (case hh9hqd => (first | with_reducible assumption | exact Ne.symm (by with_reducible assumption) | k_ne)); (case hh9T => k_asm); (case hh9hk => first | exact rfl | assumption); (case hh9hd => (first | exact roomA (by with_reducible assumption) (by decide) | exact roomAB (by with_reducible assumption) (by decide) | exact roomABC (by with_reducible assumption) (by decide) | exact room0 (by with_reducible assumption) (by rfl) | exact roomN 1 (by with_reducible assumption) (by rfl) (by decide) | exact roomN 2 (by with_reducible assumption) (by rfl) (by decide) | exact roomN 3 (by with_reducible assumption) (by rfl) (by decide) | ktr_room)); (case hh9hu => (first | exact roomA (by with_reducible assumption) (by decide) | exact roomAB (by with_reducible assumption) (by decide) | exact roomABC (by with_reducible assumption) (by decide) | exact room0 (by with_reducible assumption) (by rfl) | exact roomN 3 (by with_reducible assumption) (by rfl) (by decide) | exact roomN 6 (by with_reducible assumption) (by rfl) (by decide) | ktr_units))); intro r9 nx9 h' tk' F' N' hP9; obtain ⟨q9, e9, e9', l9⟩ := hP9; subst e9; subst e9'; (try dsimp only at N'); (try k_lt l9); (try dsimp only); (try k_fold); (try k_sweep))
    | (k_here; (with_reducible show wpAny _ _ (PySem.call (Value.ref 70) _ _) _ _ _); k_dflt ((refine' Ctr.use (take1u _ _ _ _ _ _ _ _ _ _ _ _ _ _ _ _ ?hh9hU ?hh9hr ?hh9hq ?hh9hz ?hh9hrd ?hh9hqd) ?hh9B ?hh9F ?hh9X ?hh9N ?hh9T ?hh9hk ?hh9hd ?hh9hu ?_); (case hh9B => k_asm); (case hh9F => k_asm); (case hh9X => k_asm); (case hh9N => k_asm); (case hh9hr => k_mem); (case hh9hq => k_mem); (case hh9hU => (intro D9; k_upd)); (case hh9hz => (simp only [List.length_cons, List.length_nil, List.length_append]; omega)); (case hh9hrd => (first | with_reducible assumption | exact Ne.symm (by with_reducible assumption) | k_ne)); (case hh9hqd => (first | with_reducible assumption | exact Ne.symm (by with_reducible assumption) | k_ne)); (case hh9T => k_asm); (case hh9hk => first | exact rfl | assumption); (case hh9hd => (first | exact roomA (by with_reducible assumption) (by decide) | exact roomAB (by with_reducible assumption) (by decide) | exact roomABC (by with_reducible assumption) (by decide) | exact room0 (by with_reducible assumption) (by rfl) | exact roomN 1 (by with_reducible assumption) (by rfl) (by decide) | exact roomN 2 (by with_reducible assumption) (by rfl) (by decide) | exact roomN 3 (by with_reducible assumption) (by rfl) (by decide) | ktr_room)); (case hh9hu => (first | exact roomA (by with_reducible assumption) (by decide) | exact roomAB (by with_reducible assumption) (by decide) | exact roomABC (by with_reducible assumption) (by decide) | exact room0 (by with_reducible assumption) (by rfl) | exact roomN 3 (by with_reducible assumption) (by rfl) (by decide) | exact roomN 6 (by with_reducible assumption) (by rfl) (by decide) | ktr_units))); intro r9 nx9 h' tk' F' N' hP9; obtain ⟨q9, e9, e9', l9⟩ := hP9; subst e9; subst e9'; (try dsimp only at N'); (try k_lt l9); (try dsimp only); (try k_fold); (try k_sweep))
    | (k_here; (with_reducible show wpAny _ _ (PySem.call (Value.ref 56) _ _) _ _ _); k_dflt ((refine' Ctr.use (rows0u _ _ _ _ _ _ _ _ _ _ ?hh9hr ?hh9hdr) ?hh9B ?hh9F ?hh9X ?hh9N ?hh9T ?hh9hk ?hh9hd ?hh9hu ?_); (case hh9B => k_asm); (case hh9F => k_asm); (case hh9X => k_asm); (case hh9N => k_asm); (case hh9hr => k_mem); (case hh9hdr => k_mem); (case hh9T => k_asm); (case hh9hk => first | exact rfl | assumption); (case hh9hd => (first | exact roomA (by with_reducible assumption) (by decide) | exact roomAB (by with_reducible assumption) (by decide) | exact roomABC (by with_reducible assumption) (by decide) | exact room0 (by with_reducible assumption) (by rfl) | exact roomN 1 (by with_reducible assumption) (by rfl) (by decide) | exact roomN 2 (by with_reducible assumption) (by rfl) (by decide) | exact roomN 3 (by with_reducible assumption) (by rfl) (by decide) | ktr_room)); (case hh9hu => (first | exact roomA (by with_reducible assumption) (by decide) | exact roomAB (by with_reducible assumption) (by decide) | exact roomABC (by with_reducible assumption) (by decide) | exact room0 (by with_reducible assumption) (by rfl) | exact roomN 3 (by with_reducible assumption) (by rfl) (by decide) | exact roomN 6 (by with_reducible assumption) (by rfl) (by decide) | ktr_units))); intro r9 nx9 h' tk' F' N' hP9; obtain ⟨e9, e9'⟩ := hP9; subst e9; subst e9'; (try dsimp only); (try k_fold); (try k_sweep))
    | (k_here; (with_reducible show wpAny _ _ (PySem.call (Value.ref 56) _ _) _ _ _); k_dflt ((refine' Ctr.use (rows1u _ _ _ _ _ _ _ _ _ _ _ _ _ ?hh9hr ?hh9hdr ?hh9ho ?hh9hz) ?hh9B ?hh9F ?hh9X ?hh9N ?hh9T ?hh9hk ?hh9hd ?hh9hu ?_); (case hh9B => k_asm); (case hh9F => k_asm); (case hh9X => k_asm); (case hh9N => k_asm); (case hh9hr => k_mem); (case hh9hdr => k_mem); (case hh9ho => k_mem); (case hh9hz => (simp only [List.length_cons, List.length_nil, List.length_append]; omega)); (case hh9T => k_asm); (case hh9hk => first | exact rfl | assumption); (case hh9hd => (first | exact roomA (by with_reducible assumption) (by decide) | exact roomAB (by with_reducible assumption) (by decide) | exact roomABC (by with_reducible assumption) (by decide) | exact room0 (by with_reducible assumption) (by rfl) | exact roomN 1 (by with_reducible assumption) (by rfl) (by decide) | exact roomN 2 (by with_reducible assumption) (by rfl) (by decide) | exact roomN 3 (by with_reducible assumption) (by rfl) (by decide) | ktr_room)); (case hh9hu => (first | exact roomA (by with_reducible assumption) (by decide) | exact roomAB (by with_reducible assumption) (by decide) | exact roomABC (by with_reducible assumption) (by decide) | exact room0 (by with_reducible assumption) (by rfl) | exact roomN 3 (by with_reducible assumption) (by rfl) (by decide) | exact roomN 6 (by with_reducible assumption) (by rfl) (by decide) | ktr_units))); intro r9 nx9 h' tk' F' N' hP9; obtain ⟨q9, e9, e9', l9⟩ := hP9; subst e9; subst e9'; (try k_lt l9); (try dsimp only); (try k_fold); (try k_sweep))
    | (k_here; (with_reducible show wpAny _ _ (subscriptTail _ (PySem.Expr.Slice _ _ none _) (Value.ref _) (Value.ref _)) _ _ _); k_dflt (refine' kms_slice_lit ?hh9F ?hh9N ?hh9l ?hh9p ?hh9q ?hh9e ?_ ?hh9s ?hh9t ?hh9z; (case hh9F => k_asm); (case hh9N => k_asm); (case hh9l => kmk_list); (case hh9p => kmk_part); (case hh9q => kmk_part); (case hh9e => first | exact pickNil _ _ | exact pick1c _ _ | exact pick2c _ _ _ | exact pickT1c _ _ | exact pickLast3 _ _ _ | exact pickBut3 _ _ _ | exact pickLast2 _ _ | exact pickBut2 _ _ | exact pick1 _ | exact pick2 _ | exact pickLast _ | exact pickBut _ | exact pickTo _ _ (by omega)); (case hh9s => with_unfolding_all rfl); (case hh9t => kmk_pure); (case hh9z => (simp only [sizeLine_eq, List.size_toArray, List.length_cons, List.length_nil, List.length_append, List.length_drop, List.length_take]; omega))); intro D' h' F' N' l1; (try k_lt l1); (try k_sweep))
    | (k_here; (with_reducible show wpAny _ _ (compareOp CmpOp.NotEq (Value.ref _) (Value.ref _)) _ _ _); k_dflt (refine' neNil ?hh9a ?hh9b ?hh9u ?_; (case hh9a => kmk_list); (case hh9b => kmk_list); (case hh9u => (first | exact roomA (by with_reducible assumption) (by decide) | exact roomAB (by with_reducible assumption) (by decide) | exact roomABC (by with_reducible assumption) (by decide) | exact room0 (by with_reducible assumption) (by rfl) | exact roomN 3 (by with_reducible assumption) (by rfl) (by decide) | exact roomN 6 (by with_reducible assumption) (by rfl) (by decide) | ktr_units))))
    | (k_here; (with_reducible show wpAny _ _ (compareOp CmpOp.NotEq (Value.ref _) (Value.ref _)) _ _ _); k_dflt (refine' neCons ?hh9a ?hh9b ?hh9u ?_; (case hh9a => kmk_list); (case hh9b => kmk_list); (case hh9u => (first | exact roomA (by with_reducible assumption) (by decide) | exact roomAB (by with_reducible assumption) (by decide) | exact roomABC (by with_reducible assumption) (by decide) | exact room0 (by with_reducible assumption) (by rfl) | exact roomN 3 (by with_reducible assumption) (by rfl) (by decide) | exact roomN 6 (by with_reducible assumption) (by rfl) (by decide) | ktr_units))))
    | (k_here; (with_reducible show wpAny _ _ (compareOp CmpOp.NotEq (Value.ref _) (Value.ref _)) _ _ _); k_dflt (refine' neEmpty ?hh9a ?hh9b ?hh9u ?_; (case hh9a => kmk_list); (case hh9b => kmk_list); (case hh9u => (first | exact roomA (by with_reducible assumption) (by decide) | exact roomAB (by with_reducible assumption) (by decide) | exact roomABC (by with_reducible assumption) (by decide) | exact room0 (by with_reducible assumption) (by rfl) | exact roomN 3 (by with_reducible assumption) (by rfl) (by decide) | exact roomN 6 (by with_reducible assumption) (by rfl) (by decide) | ktr_units))))
    | (k_here; (with_reducible show wpAny _ _ (compareOp CmpOp.Eq (Value.ref _) (Value.ref _)) _ _ _); k_dflt (refine' eqNil ?hh9a ?hh9b ?hh9u ?_; (case hh9a => kmk_list); (case hh9b => kmk_list); (case hh9u => (first | exact roomA (by with_reducible assumption) (by decide) | exact roomAB (by with_reducible assumption) (by decide) | exact roomABC (by with_reducible assumption) (by decide) | exact room0 (by with_reducible assumption) (by rfl) | exact roomN 3 (by with_reducible assumption) (by rfl) (by decide) | exact roomN 6 (by with_reducible assumption) (by rfl) (by decide) | ktr_units))))
    | (k_here; (with_reducible show wpAny _ _ (compareOp CmpOp.Eq (Value.ref _) (Value.ref _)) _ _ _); k_dflt (refine' eqSnoc ?hh9a ?hh9b ?hh9u ?_; (case hh9a => kmk_list); (case hh9b => kmk_list); (case hh9u => (first | exact roomA (by with_reducible assumption) (by decide) | exact roomAB (by with_reducible assumption) (by decide) | exact roomABC (by with_reducible assumption) (by decide) | exact room0 (by with_reducible assumption) (by rfl) | exact roomN 3 (by with_reducible assumption) (by rfl) (by decide) | exact roomN 6 (by with_reducible assumption) (by rfl) (by decide) | ktr_units))))
    | (k_here; (with_reducible show wpAny _ _ (compareOp CmpOp.Eq (Value.ref _) (Value.ref _)) _ _ _); k_dflt (refine' eqCons ?hh9a ?hh9b ?hh9u ?_; (case hh9a => kmk_list); (case hh9b => kmk_list); (case hh9u => (first | exact roomA (by with_reducible assumption) (by decide) | exact roomAB (by with_reducible assumption) (by decide) | exact roomABC (by with_reducible assumption) (by decide) | exact room0 (by with_reducible assumption) (by rfl) | exact roomN 3 (by with_reducible assumption) (by rfl) (by decide) | exact roomN 6 (by with_reducible assumption) (by rfl) (by decide) | ktr_units))))
    | (k_here; (with_reducible show wpAny _ _ (compareOp CmpOp.Eq (Value.ref _) (Value.ref _)) _ _ _); k_dflt (refine' eqEmpty ?hh9a ?hh9b ?hh9u ?_; (case hh9a => kmk_list); (case hh9b => kmk_list); (case hh9u => (first | exact roomA (by with_reducible assumption) (by decide) | exact roomAB (by with_reducible assumption) (by decide) | exact roomABC (by with_reducible assumption) (by decide) | exact room0 (by with_reducible assumption) (by rfl) | exact roomN 3 (by with_reducible assumption) (by rfl) (by decide) | exact roomN 6 (by with_reducible assumption) (by rfl) (by decide) | ktr_units))))
    | (k_here; (with_reducible show wpAny _ _ (binaryOp _ (Value.ref _) (Value.ref _)) _ _ _); k_dflt (refine' kmk_add_lit ?hh9F ?hh9N ?hh9a ?hh9b ?hh9e ?_ ?hh9z; (case hh9F => k_asm); (case hh9N => k_asm); (case hh9a => kmk_list); (case hh9b => kmk_list); (case hh9e => ((simp only [List.cons_append, List.nil_append]); exact rfl)); (case hh9z => (simp only [sizeLine_eq, List.length_cons, List.length_nil, List.length_append, List.length_drop, List.length_take]; omega))); intro D' h' F' N' l1; (try k_lt l1); (try k_sweep))
    | (k_end; wrow_close)
    | walk1
    | (dsimp only; walk1)
    | (leave1; walk_say "STEP leave1"; try dsimp only)
    | fail "no step")
  rename (_ < _ ∧ _) => l9
  have l8 := l9
  iterate 40 (try (replace l8 := l8.2))
  exact hret _ _ _ _ (by assumption) (by assumption) ⟨_, (by kcj_in), rfl, ⟨by omega, by omega, by omega, l8⟩⟩

set_option maxHeartbeats 8000000 in
theorem meth6e (w : World) (r dr o : Addr)  (t1 t2 t3 : Tok) (most : Int) (tm : Tok) (no : Nat) (rest : List (Addr × Obj))  (hrd : r ≠ dr) (ho : o ≠ dr) (hrest : ∀ p ∈ rest, p.1 ≠ dr) :
    Ctr w 98 [.ref r] 3 30 ((dr, ringO w.params t1 t2 t3 most tm (.none) (.ref o)) :: (r, instObj 101 dr) :: (o, listOf (List.toArray ([])) no) :: rest)
      (fun nx r' => ∃ D, (∀ p ∈ (D, listOf (List.toArray ([])) 0) :: (dr, ringO w.params t1 t2 t3 most tm (.none) (.ref D)) :: (r, instObj 101 dr) :: (o, listOf (List.toArray ([])) no) :: rest, p ∈ nx) ∧ r' = .bool false ∧
        AllLt D ((dr, ringO w.params t1 t2 t3 most tm (.none) (.ref o)) :: (r, instObj 101 dr) :: (o, listOf (List.toArray ([])) no) :: rest)) := by
  unfold Ctr
  k_fill
  intro mean mg mb dp un gd cn cs a ccd cl outer A₀ base h₀ L m s R B F X N T hk hdp hu hret
  k_dflt cell_enter
  w_top off
  repeat' (first
    | (k_unfold; (try dsimp only))
    | (k_here; (with_reducible show wpAny _ _ (PySem.call (Value.ref 56) _ _) _ _ _); k_dflt ((refine' Ctr.use (rowsS _ _ _ _ lv hl _ _ _ _ _ _ _ ?hh9hr ?hh9hdr ?hh9ho) ?hh9B ?hh9F ?hh9X ?hh9N ?hh9T ?hh9hk ?hh9hd ?hh9hu ?_); (case hh9B => k_asm); (case hh9F => k_asm); (case hh9X => k_asm); (case hh9N => k_asm); (case hh9hr => k_mem); (case hh9hdr => k_mem); (case hh9ho => k_mem); (case hh9T => k_asm); (case hh9hk => first | exact rfl | assumption); (case hh9hd => (first | exact roomA (by with_reducible assumption) (by decide) | exact roomAB (by with_reducible assumption) (by decide) | exact roomABC (by with_reducible assumption) (by decide) | exact room0 (by with_reducible assumption) (by rfl) | exact roomN 1 (by with_reducible assumption) (by rfl) (by decide) | exact roomN 2 (by with_reducible assumption) (by rfl) (by decide) | exact roomN 3 (by with_reducible assumption) (by rfl) (by decide) | ktr_room)); (case hh9hu => (first | exact roomA (by with_reducible assumption) (by decide) | exact roomAB (by with_reducible assumption) (by decide) | exact roomABC (by with_reducible assumption) (by decide) | exact room0 (by with_reducible assumption) (by rfl) | exact roomN 3 (by with_reducible assumption) (by rfl) (by decide) | exact roomN 6 (by with_reducible assumption) (by rfl) (by decide) | ktr_units))); intro r9 nx9 h' tk' F' N' hP9; obtain ⟨q9, e9, e9'⟩ := hP9; subst e9; subst e9'; (try dsimp only); (try k_fold); (try k_sweep))
    | (k_here; (with_reducible show wpAny _ _ (PySem.call (Value.ref 70) _ _) _ _ _); k_dflt ((refine' Ctr.use (take0u _ _ _ _ _ _ _ _ _ _ _ _ _ _ ?hh9hU ?hh9hr ?hh9hq ?hh9hrd ?hh9hqd) ?hh9B ?hh9F ?hh9X ?hh9N ?hh9T ?hh9hk ?hh9hd ?hh9hu ?_); (case hh9B => k_asm); (case hh9F => k_asm); (case hh9X => k_asm); (case hh9N => k_asm); (case hh9hr => k_mem); (case hh9hq => k_mem); (case hh9hU => (intro D9; k_upd)); (case hh9hrd => (first | with_reducible assumption | exact Ne.symm (by with_reducible assumption) | k_ne)); (case hh9hqd => (first | with_reducible assumption | exact Ne.symm (by with_reducible assumption) | k_ne)); (case hh9T => k_asm); (case hh9hk => first | exact rfl | assumption); (case hh9hd => (first | exact roomA (by with_reducible assumption) (by decide) | exact roomAB (by with_reducible assumption) (by decide) | exact roomABC (by with_reducible assumption) (by decide) | exact room0 (by with_reducible assumption) (by rfl) | exact roomN 1 (by with_reducible assumption) (by rfl) (by decide) | exact roomN 2 (by with_reducible assumption) (by rfl) (by decide) | exact roomN 3 (by with_reducible assumption) (by rfl) (by decide) | ktr_room)); (case hh9hu => (first | exact roomA (by with_reducible assumption) (by decide) | exact roomAB (by with_reducible assumption) (by decide) | exact roomABC (by with_reducible assumption) (by decide) | exact room0 (by with_reducible assumption) (by rfl) | exact roomN 3 (by with_reducible assumption) (by rfl) (by decide) | exact roomN 6 (by with_reducible assumption) (by rfl) (by decide) | ktr_units))); intro r9 nx9 h' tk' F' N' hP9; obtain ⟨q9, e9, e9', l9⟩ := hP9; subst e9; subst e9'; (try dsimp only at N'); (try k_lt l9); (try dsimp only); (try k_fold); (try k_sweep))
    | (k_here; (with_reducible show wpAny _ _ (PySem.call (Value.ref 70) _ _) _ _ _); k_dflt ((refine' Ctr.use (take1u _ _ _ _ _ _ _ _ _ _ _ _ _ _ _ _ ?hh9hU ?hh9hr ?hh9hq ?hh9hz ?hh9hrd ?hh9hqd) ?hh9B ?hh9F ?hh9X ?hh9N ?hh9T ?hh9hk ?hh9hd ?hh9hu ?_); (case hh9B => k_asm); (case hh9F => k_asm); (case hh9X => k_asm); (case hh9N => k_asm); (case hh9hr => k_mem); (case hh9hq => k_mem); (case hh9hU => (intro D9; k_upd)); (case hh9hz => (simp only [List.length_cons, List.length_nil, List.length_append]; omega)); (case hh9hrd => (first | with_reducible assumption | exact Ne.symm (by with_reducible assumption) | k_ne)); (case hh9hqd => (first | with_reducible assumption | exact Ne.symm (by with_reducible assumption) | k_ne)); (case hh9T => k_asm); (case hh9hk => first | exact rfl | assumption); (case hh9hd => (first | exact roomA (by with_reducible assumption) (by decide) | exact roomAB (by with_reducible assumption) (by decide) | exact roomABC (by with_reducible assumption) (by decide) | exact room0 (by with_reducible assumption) (by rfl) | exact roomN 1 (by with_reducible assumption) (by rfl) (by decide) | exact roomN 2 (by with_reducible assumption) (by rfl) (by decide) | exact roomN 3 (by with_reducible assumption) (by rfl) (by decide) | ktr_room)); (case hh9hu => (first | exact roomA (by with_reducible assumption) (by decide) | exact roomAB (by with_reducible assumption) (by decide) | exact roomABC (by with_reducible assumption) (by decide) | exact room0 (by with_reducible assumption) (by rfl) | exact roomN 3 (by with_reducible assumption) (by rfl) (by decide) | exact roomN 6 (by with_reducible assumption) (by rfl) (by decide) | ktr_units))); intro r9 nx9 h' tk' F' N' hP9; obtain ⟨q9, e9, e9', l9⟩ := hP9; subst e9; subst e9'; (try dsimp only at N'); (try k_lt l9); (try dsimp only); (try k_fold); (try k_sweep))
    | (k_here; (with_reducible show wpAny _ _ (PySem.call (Value.ref 56) _ _) _ _ _); k_dflt ((refine' Ctr.use (rows0u _ _ _ _ _ _ _ _ _ _ ?hh9hr ?hh9hdr) ?hh9B ?hh9F ?hh9X ?hh9N ?hh9T ?hh9hk ?hh9hd ?hh9hu ?_); (case hh9B => k_asm); (case hh9F => k_asm); (case hh9X => k_asm); (case hh9N => k_asm); (case hh9hr => k_mem); (case hh9hdr => k_mem); (case hh9T => k_asm); (case hh9hk => first | exact rfl | assumption); (case hh9hd => (first | exact roomA (by with_reducible assumption) (by decide) | exact roomAB (by with_reducible assumption) (by decide) | exact roomABC (by with_reducible assumption) (by decide) | exact room0 (by with_reducible assumption) (by rfl) | exact roomN 1 (by with_reducible assumption) (by rfl) (by decide) | exact roomN 2 (by with_reducible assumption) (by rfl) (by decide) | exact roomN 3 (by with_reducible assumption) (by rfl) (by decide) | ktr_room)); (case hh9hu => (first | exact roomA (by with_reducible assumption) (by decide) | exact roomAB (by with_reducible assumption) (by decide) | exact roomABC (by with_reducible assumption) (by decide) | exact room0 (by with_reducible assumption) (by rfl) | exact roomN 3 (by with_reducible assumption) (by rfl) (by decide) | exact roomN 6 (by with_reducible assumption) (by rfl) (by decide) | ktr_units))); intro r9 nx9 h' tk' F' N' hP9; obtain ⟨e9, e9'⟩ := hP9; subst e9; subst e9'; (try dsimp only); (try k_fold); (try k_sweep))
    | (k_here; (with_reducible show wpAny _ _ (PySem.call (Value.ref 56) _ _) _ _ _); k_dflt ((refine' Ctr.use (rows1u _ _ _ _ _ _ _ _ _ _ _ _ _ ?hh9hr ?hh9hdr ?hh9ho ?hh9hz) ?hh9B ?hh9F ?hh9X ?hh9N ?hh9T ?hh9hk ?hh9hd ?hh9hu ?_); (case hh9B => k_asm); (case hh9F => k_asm); (case hh9X => k_asm); (case hh9N => k_asm); (case hh9hr => k_mem); (case hh9hdr => k_mem); (case hh9ho => k_mem); (case hh9hz => (simp only [List.length_cons, List.length_nil, List.length_append]; omega)); (case hh9T => k_asm); (case hh9hk => first | exact rfl | assumption); (case hh9hd => (first | exact roomA (by with_reducible assumption) (by decide) | exact roomAB (by with_reducible assumption) (by decide) | exact roomABC (by with_reducible assumption) (by decide) | exact room0 (by with_reducible assumption) (by rfl) | exact roomN 1 (by with_reducible assumption) (by rfl) (by decide) | exact roomN 2 (by with_reducible assumption) (by rfl) (by decide) | exact roomN 3 (by with_reducible assumption) (by rfl) (by decide) | ktr_room)); (case hh9hu => (first | exact roomA (by with_reducible assumption) (by decide) | exact roomAB (by with_reducible assumption) (by decide) | exact roomABC (by with_reducible assumption) (by decide) | exact room0 (by with_reducible assumption) (by rfl) | exact roomN 3 (by with_reducible assumption) (by rfl) (by decide) | exact roomN 6 (by with_reducible assumption) (by rfl) (by decide) | ktr_units))); intro r9 nx9 h' tk' F' N' hP9; obtain ⟨q9, e9, e9', l9⟩ := hP9; subst e9; subst e9'; (try k_lt l9); (try dsimp only); (try k_fold); (try k_sweep))
    | (k_here; (with_reducible show wpAny _ _ (subscriptTail _ (PySem.Expr.Slice _ _ none _) (Value.ref _) (Value.ref _)) _ _ _); k_dflt (refine' kms_slice_lit ?hh9F ?hh9N ?hh9l ?hh9p ?hh9q ?hh9e ?_ ?hh9s ?hh9t ?hh9z; (case hh9F => k_asm); (case hh9N => k_asm); (case hh9l => kmk_list); (case hh9p => kmk_part); (case hh9q => kmk_part); (case hh9e => first | exact pickNil _ _ | exact pick1c _ _ | exact pick2c _ _ _ | exact pickT1c _ _ | exact pickLast3 _ _ _ | exact pickBut3 _ _ _ | exact pickLast2 _ _ | exact pickBut2 _ _ | exact pick1 _ | exact pick2 _ | exact pickLast _ | exact pickBut _ | exact pickTo _ _ (by omega)); (case hh9s => with_unfolding_all rfl); (case hh9t => kmk_pure); (case hh9z => (simp only [sizeLine_eq, List.size_toArray, List.length_cons, List.length_nil, List.length_append, List.length_drop, List.length_take]; omega))); intro D' h' F' N' l1; (try k_lt l1); (try k_sweep))
    | (k_here; (with_reducible show wpAny _ _ (compareOp CmpOp.NotEq (Value.ref _) (Value.ref _)) _ _ _); k_dflt (refine' neNil ?hh9a ?hh9b ?hh9u ?_; (case hh9a => kmk_list); (case hh9b => kmk_list); (case hh9u => (first | exact roomA (by with_reducible assumption) (by decide) | exact roomAB (by with_reducible assumption) (by decide) | exact roomABC (by with_reducible assumption) (by decide) | exact room0 (by with_reducible assumption) (by rfl) | exact roomN 3 (by with_reducible assumption) (by rfl) (by decide) | exact roomN 6 (by with_reducible assumption) (by rfl) (by decide) | ktr_units))))
    | (k_here; (with_reducible show wpAny _ _ (compareOp CmpOp.NotEq (Value.ref _) (Value.ref _)) _ _ _); k_dflt (refine' neCons ?hh9a ?hh9b ?hh9u ?_; (case hh9a => kmk_list); (case hh9b => kmk_list); (case hh9u => (first | exact roomA (by with_reducible assumption) (by decide) | exact roomAB (by with_reducible assumption) (by decide) | exact roomABC (by with_reducible assumption) (by decide) | exact room0 (by with_reducible assumption) (by rfl) | exact roomN 3 (by with_reducible assumption) (by rfl) (by decide) | exact roomN 6 (by with_reducible assumption) (by rfl) (by decide) | ktr_units))))
    | (k_here; (with_reducible show wpAny _ _ (compareOp CmpOp.NotEq (Value.ref _) (Value.ref _)) _ _ _); k_dflt (refine' neEmpty ?hh9a ?hh9b ?hh9u ?_; (case hh9a => kmk_list); (case hh9b => kmk_list); (case hh9u => (first | exact roomA (by with_reducible assumption) (by decide) | exact roomAB (by with_reducible assumption) (by decide) | exact roomABC (by with_reducible assumption) (by decide) | exact room0 (by with_reducible assumption) (by rfl) | exact roomN 3 (by with_reducible assumption) (by rfl) (by decide) | exact roomN 6 (by with_reducible assumption) (by rfl) (by decide) | ktr_units))))
    | (k_here; (with_reducible show wpAny _ _ (compareOp CmpOp.Eq (Value.ref _) (Value.ref _)) _ _ _); k_dflt (refine' eqNil ?hh9a ?hh9b ?hh9u ?_; (case hh9a => kmk_list); (case hh9b => kmk_list); (case hh9u => (first | exact roomA (by with_reducible assumption) (by decide) | exact roomAB (by with_reducible assumption) (by decide) | exact roomABC (by with_reducible assumption) (by decide) | exact room0 (by with_reducible assumption) (by rfl) | exact roomN 3 (by with_reducible assumption) (by rfl) (by decide) | exact roomN 6 (by with_reducible assumption) (by rfl) (by decide) | ktr_units))))
    | (k_here; (with_reducible show wpAny _ _ (compareOp CmpOp.Eq (Value.ref _) (Value.ref _)) _ _ _); k_dflt (refine' eqSnoc ?hh9a ?hh9b ?hh9u ?_; (case hh9a => kmk_list); (case hh9b => kmk_list); (case hh9u => (first | exact roomA (by with_reducible assumption) (by decide) | exact roomAB (by with_reducible assumption) (by decide) | exact roomABC (by with_reducible assumption) (by decide) | exact room0 (by with_reducible assumption) (by rfl) | exact roomN 3 (by with_reducible assumption) (by rfl) (by decide) | exact roomN 6 (by with_reducible assumption) (by rfl) (by decide) | ktr_units))))
    | (k_here; (with_reducible show wpAny _ _ (compareOp CmpOp.Eq (Value.ref _) (Value.ref _)) _ _ _); k_dflt (refine' eqCons ?hh9a ?hh9b ?hh9u ?_; (case hh9a => kmk_list); (case hh9b => kmk_list); (case hh9u => (first | exact roomA (by with_reducible assumption) (by decide) | exact roomAB (by with_reducible assumption) (by decide) | exact roomABC (by with_reducible assumption) (by decide) | exact room0 (by with_reducible assumption) (by rfl) | exact roomN 3 (by with_reducible assumption) (by rfl) (by decide) | exact roomN 6 (by with_reducible assumption) (by rfl) (by decide) | ktr_units))))
    | (k_here; (with_reducible show wpAny _ _ (compareOp CmpOp.Eq (Value.ref _) (Value.ref _)) _ _ _); k_dflt (refine' eqEmpty ?hh9a ?hh9b ?hh9u ?_; (case hh9a => kmk_list); (case hh9b => kmk_list); (case hh9u => (first | exact roomA (by with_reducible assumption) (by decide) | exact roomAB (by with_reducible assumption) (by decide) | exact roomABC (by with_reducible assumption) (by decide) | exact room0 (by with_reducible assumption) (by rfl) | exact roomN 3 (by with_reducible assumption) (by rfl) (by decide) | exact roomN 6 (by with_reducible assumption) (by rfl) (by decide) | ktr_units))))
    | (k_here; (with_reducible show wpAny _ _ (binaryOp _ (Value.ref _) (Value.ref _)) _ _ _); k_dflt (refine' kmk_add_lit ?hh9F ?hh9N ?hh9a ?hh9b ?hh9e ?_ ?hh9z; (case hh9F => k_asm); (case hh9N => k_asm); (case hh9a => kmk_list); (case hh9b => kmk_list); (case hh9e => ((simp only [List.cons_append, List.nil_append]); exact rfl)); (case hh9z => (simp only [sizeLine_eq, List.length_cons, List.length_nil, List.length_append, List.length_drop, List.length_take]; omega))); intro D' h' F' N' l1; (try k_lt l1); (try k_sweep))
    | (k_end; wrow_close)
    | walk1
    | (dsimp only; walk1)
    | (leave1; walk_say "STEP leave1"; try dsimp only)
    | fail "no step")
  rename (_ < _ ∧ _) => l7
  clear l7
  rename (_ < _ ∧ _) => l9
  have l8 := l9
  iterate 40 (try (replace l8 := l8.2))
  exact hret _ _ _ _ (by assumption) (by assumption) ⟨_, (by kcj_in), rfl, ⟨by omega, by omega, by omega, l8⟩⟩

set_option maxHeartbeats 8000000 in
theorem meth6s (w : World) (r dr o : Addr) (x : Addr) (t1 t2 t3 : Tok) (most : Int) (tm : Tok) (no : Nat) (rest : List (Addr × Obj))  (hrd : r ≠ dr) (ho : o ≠ dr) (hrest : ∀ p ∈ rest, p.1 ≠ dr) :
    Ctr w 98 [.ref r] 3 30 ((dr, ringO w.params t1 t2 t3 most tm (.ref x) (.ref o)) :: (r, instObj 101 dr) :: (o, listOf (List.toArray ([])) no) :: rest)
      (fun nx r' => ∃ D, (∀ p ∈ (D, listOf (List.toArray ([])) 0) :: (dr, ringO w.params t1 t2 t3 most tm (.none) (.ref D)) :: (r, instObj 101 dr) :: (o, listOf (List.toArray ([])) no) :: rest, p ∈ nx) ∧ r' = .bool true ∧
        AllLt D ((dr, ringO w.params t1 t2 t3 most tm (.ref x) (.ref o)) :: (r, instObj 101 dr) :: (o, listOf (List.toArray ([])) no) :: rest)) := by
  unfold Ctr
  k_fill
  intro mean mg mb dp un gd cn cs a ccd cl outer A₀ base h₀ L m s R B F X N T hk hdp hu hret
  k_dflt cell_enter
  w_top off
  repeat' (first
    | (k_unfold; (try dsimp only))
    | (k_here; (with_reducible show wpAny _ _ (PySem.call (Value.ref 56) _ _) _ _ _); k_dflt ((refine' Ctr.use (rowsS _ _ _ _ lv hl _ _ _ _ _ _ _ ?hh9hr ?hh9hdr ?hh9ho) ?hh9B ?hh9F ?hh9X ?hh9N ?hh9T ?hh9hk ?hh9hd ?hh9hu ?_); (case hh9B => k_asm); (case hh9F => k_asm); (case hh9X => k_asm); (case hh9N => k_asm); (case hh9hr => k_mem); (case hh9hdr => k_mem); (case hh9ho => k_mem); (case hh9T => k_asm); (case hh9hk => first | exact rfl | assumption); (case hh9hd => (first | exact roomA (by with_reducible assumption) (by decide) | exact roomAB (by with_reducible assumption) (by decide) | exact roomABC (by with_reducible assumption) (by decide) | exact room0 (by with_reducible assumption) (by rfl) | exact roomN 1 (by with_reducible assumption) (by rfl) (by decide) | exact roomN 2 (by with_reducible assumption) (by rfl) (by decide) | exact roomN 3 (by with_reducible assumption) (by rfl) (by decide) | ktr_room)); (case hh9hu => (first | exact roomA (by with_reducible assumption) (by decide) | exact roomAB (by with_reducible assumption) (by decide) | exact roomABC (by with_reducible assumption) (by decide) | exact room0 (by with_reducible assumption) (by rfl) | exact roomN 3 (by with_reducible assumption) (by rfl) (by decide) | exact roomN 6 (by with_reducible assumption) (by rfl) (by decide) | ktr_units))); intro r9 nx9 h' tk' F' N' hP9; obtain ⟨q9, e9, e9'⟩ := hP9; subst e9; subst e9'; (try dsimp only); (try k_fold); (try k_sweep))
    | (k_here; (with_reducible show wpAny _ _ (PySem.call (Value.ref 70) _ _) _ _ _); k_dflt ((refine' Ctr.use (take0u _ _ _ _ _ _ _ _ _ _ _ _ _ _ ?hh9hU ?hh9hr ?hh9hq ?hh9hrd ?hh9hqd) ?hh9B ?hh9F ?hh9X ?hh9N ?hh9T ?hh9hk ?hh9hd ?hh9hu ?_); (case hh9B => k_asm); (case hh9F => k_asm); (case hh9X => k_asm); (case hh9N => k_asm); (case hh9hr => k_mem); (case hh9hq => k_mem); (case hh9hU => (intro D9; k_upd)); (case hh9hrd => (first | with_reducible assumption | exact Ne.symm (by with_reducible assumption) | k_ne)); (case hh9hqd => (first | with_reducible assumption | exact Ne.symm (by with_reducible assumption) | k_ne)); (case hh9T => k_asm); (case hh9hk => first | exact rfl | assumption); (case hh9hd => (first | exact roomA (by with_reducible assumption) (by decide) | exact roomAB (by with_reducible assumption) (by decide) | exact roomABC (by with_reducible assumption) (by decide) | exact room0 (by with_reducible assumption) (by rfl) | exact roomN 1 (by with_reducible assumption) (by rfl) (by decide) | exact roomN 2 (by with_reducible assumption) (by rfl) (by decide) | exact roomN 3 (by with_reducible assumption) (by rfl) (by decide) | ktr_room)); (case hh9hu => (first | exact roomA (by with_reducible assumption) (by decide) | exact roomAB (by with_reducible assumption) (by decide) | exact roomABC (by with_reducible assumption) (by decide) | exact room0 (by with_reducible assumption) (by rfl) | exact roomN 3 (by with_reducible assumption) (by rfl) (by decide) | exact roomN 6 (by with_reducible assumption) (by rfl) (by decide) | ktr_units))); intro r9 nx9 h' tk' F' N' hP9; obtain ⟨q9, e9, e9', l9⟩ := hP9; subst e9; subst e9'; (try dsimp only at N'); (try k_lt l9); (try dsimp only); (try k_fold); (try k_sweep))
    | (k_here; (with_reducible show wpAny _ _ (PySem.call (Value.ref 70) _ _) _ _ _); k_dflt ((refine' Ctr.use (take1u _ _ _ _ _ _ _ _ _ _ _ _ _ _ _ _ ?hh9hU ?hh9hr ?hh9hq ?hh9hz ?hh9hrd ?hh9hqd) ?hh9B ?hh9F ?hh9X ?hh9N ?hh9T ?hh9hk ?hh9hd ?hh9hu ?_); (case hh9B => k_asm); (case hh9F => k_asm); (case hh9X => k_asm); (case hh9N => k_asm); (case hh9hr => k_mem); (case hh9hq => k_mem); (case hh9hU => (intro D9; k_upd)); (case hh9hz => (simp only [List.length_cons, List.length_nil, List.length_append]; omega)); (case hh9hrd => (first | with_reducible assumption | exact Ne.symm (by with_reducible assumption) | k_ne)); (case hh9hqd => (first | with_reducible assumption | exact Ne.symm (by with_reducible assumption) | k_ne)); (case hh9T => k_asm); (case hh9hk => first | exact rfl | assumption); (case hh9hd => (first | exact roomA (by with_reducible assumption) (by decide) | exact roomAB (by with_reducible assumption) (by decide) | exact roomABC (by with_reducible assumption) (by decide) | exact room0 (by with_reducible assumption) (by rfl) | exact roomN 1 (by with_reducible assumption) (by rfl) (by decide) | exact roomN 2 (by with_reducible assumption) (by rfl) (by decide) | exact roomN 3 (by with_reducible assumption) (by rfl) (by decide) | ktr_room)); (case hh9hu => (first | exact roomA (by with_reducible assumption) (by decide) | exact roomAB (by with_reducible assumption) (by decide) | exact roomABC (by with_reducible assumption) (by decide) | exact room0 (by with_reducible assumption) (by rfl) | exact roomN 3 (by with_reducible assumption) (by rfl) (by decide) | exact roomN 6 (by with_reducible assumption) (by rfl) (by decide) | ktr_units))); intro r9 nx9 h' tk' F' N' hP9; obtain ⟨q9, e9, e9', l9⟩ := hP9; subst e9; subst e9'; (try dsimp only at N'); (try k_lt l9); (try dsimp only); (try k_fold); (try k_sweep))
    | (k_here; (with_reducible show wpAny _ _ (PySem.call (Value.ref 56) _ _) _ _ _); k_dflt ((refine' Ctr.use (rows0u _ _ _ _ _ _ _ _ _ _ ?hh9hr ?hh9hdr) ?hh9B ?hh9F ?hh9X ?hh9N ?hh9T ?hh9hk ?hh9hd ?hh9hu ?_); (case hh9B => k_asm); (case hh9F => k_asm); (case hh9X => k_asm); (case hh9N => k_asm); (case hh9hr => k_mem); (case hh9hdr => k_mem); (case hh9T => k_asm); (case hh9hk => first | exact rfl | assumption); (case hh9hd => (first | exact roomA (by with_reducible assumption) (by decide) | exact roomAB (by with_reducible assumption) (by decide) | exact roomABC (by with_reducible assumption) (by decide) | exact room0 (by with_reducible assumption) (by rfl) | exact roomN 1 (by with_reducible assumption) (by rfl) (by decide) | exact roomN 2 (by with_reducible assumption) (by rfl) (by decide) | exact roomN 3 (by with_reducible assumption) (by rfl) (by decide) | ktr_room)); (case hh9hu => (first | exact roomA (by with_reducible assumption) (by decide) | exact roomAB (by with_reducible assumption) (by decide) | exact roomABC (by with_reducible assumption) (by decide) | exact room0 (by with_reducible assumption) (by rfl) | exact roomN 3 (by with_reducible assumption) (by rfl) (by decide) | exact roomN 6 (by with_reducible assumption) (by rfl) (by decide) | ktr_units))); intro r9 nx9 h' tk' F' N' hP9; obtain ⟨e9, e9'⟩ := hP9; subst e9; subst e9'; (try dsimp only); (try k_fold); (try k_sweep))
    | (k_here; (with_reducible show wpAny _ _ (PySem.call (Value.ref 56) _ _) _ _ _); k_dflt ((refine' Ctr.use (rows1u _ _ _ _ _ _ _ _ _ _ _ _ _ ?hh9hr ?hh9hdr ?hh9ho ?hh9hz) ?hh9B ?hh9F ?hh9X ?hh9N ?hh9T ?hh9hk ?hh9hd ?hh9hu ?_); (case hh9B => k_asm); (case hh9F => k_asm); (case hh9X => k_asm); (case hh9N => k_asm); (case hh9hr => k_mem); (case hh9hdr => k_mem); (case hh9ho => k_mem); (case hh9hz => (simp only [List.length_cons, List.length_nil, List.length_append]; omega)); (case hh9T => k_asm); (case hh9hk => first | exact rfl | assumption); (case hh9hd => (first | exact roomA (by with_reducible assumption) (by decide) | exact roomAB (by with_reducible assumption) (by decide) | exact roomABC (by with_reducible assumption) (by decide) | exact room0 (by with_reducible assumption) (by rfl) | exact roomN 1 (by with_reducible assumption) (by rfl) (by decide) | exact roomN 2 (by with_reducible assumption) (by rfl) (by decide) | exact roomN 3 (by with_reducible assumption) (by rfl) (by decide) | ktr_room)); (case hh9hu => (first | exact roomA (by with_reducible assumption) (by decide) | exact roomAB (by with_reducible assumption) (by decide) | exact roomABC (by with_reducible assumption) (by decide) | exact room0 (by with_reducible assumption) (by rfl) | exact roomN 3 (by with_reducible assumption) (by rfl) (by decide) | exact roomN 6 (by with_reducible assumption) (by rfl) (by decide) | ktr_units))); intro r9 nx9 h' tk' F' N' hP9; obtain ⟨q9, e9, e9', l9⟩ := hP9; subst e9; subst e9'; (try k_lt l9); (try dsimp only); (try k_fold); (try k_sweep))
    | (k_here; (with_reducible show wpAny _ _ (subscriptTail _ (PySem.Expr.Slice _ _ none _) (Value.ref _) (Value.ref _)) _ _ _); k_dflt (refine' kms_slice_lit ?hh9F ?hh9N ?hh9l ?hh9p ?hh9q ?hh9e ?_ ?hh9s ?hh9t ?hh9z; (case hh9F => k_asm); (case hh9N => k_asm); (case hh9l => kmk_list); (case hh9p => kmk_part); (case hh9q => kmk_part); (case hh9e => first | exact pickNil _ _ | exact pick1c _ _ | exact pick2c _ _ _ | exact pickT1c _ _ | exact pickLast3 _ _ _ | exact pickBut3 _ _ _ | exact pickLast2 _ _ | exact pickBut2 _ _ | exact pick1 _ | exact pick2 _ | exact pickLast _ | exact pickBut _ | exact pickTo _ _ (by omega)); (case hh9s => with_unfolding_all rfl); (case hh9t => kmk_pure); (case hh9z => (simp only [sizeLine_eq, List.size_toArray, List.length_cons, List.length_nil, List.length_append, List.length_drop, List.length_take]; omega))); intro D' h' F' N' l1; (try k_lt l1); (try k_sweep))
    | (k_here; (with_reducible show wpAny _ _ (compareOp CmpOp.NotEq (Value.ref _) (Value.ref _)) _ _ _); k_dflt (refine' neNil ?hh9a ?hh9b ?hh9u ?_; (case hh9a => kmk_list); (case hh9b => kmk_list); (case hh9u => (first | exact roomA (by with_reducible assumption) (by decide) | exact roomAB (by with_reducible assumption) (by decide) | exact roomABC (by with_reducible assumption) (by decide) | exact room0 (by with_reducible assumption) (by rfl) | exact roomN 3 (by with_reducible assumption) (by rfl) (by decide) | exact roomN 6 (by with_reducible assumption) (by rfl) (by decide) | ktr_units))))
    | (k_here; (with_reducible show wpAny _ _ (compareOp CmpOp.NotEq (Value.ref _) (Value.ref _)) _ _ _); k_dflt (refine' neCons ?hh9a ?hh9b ?hh9u ?_; (case hh9a => kmk_list); (case hh9b => kmk_list); (case hh9u => (first | exact roomA (by with_reducible assumption) (by decide) | exact roomAB (by with_reducible assumption) (by decide) | exact roomABC (by with_reducible assumption) (by decide) | exact room0 (by with_reducible assumption) (by rfl) | exact roomN 3 (by with_reducible assumption) (by rfl) (by decide) | exact roomN 6 (by with_reducible assumption) (by rfl) (by decide) | ktr_units))))
    | (k_here; (with_reducible show wpAny _ _ (compareOp CmpOp.NotEq (Value.ref _) (Value.ref _)) _ _ _); k_dflt (refine' neEmpty ?hh9a ?hh9b ?hh9u ?_; (case hh9a => kmk_list); (case hh9b => kmk_list); (case hh9u => (first | exact roomA (by with_reducible assumption) (by decide) | exact roomAB (by with_reducible assumption) (by decide) | exact roomABC (by with_reducible assumption) (by decide) | exact room0 (by with_reducible assumption) (by rfl) | exact roomN 3 (by with_reducible assumption) (by rfl) (by decide) | exact roomN 6 (by with_reducible assumption) (by rfl) (by decide) | ktr_units))))
    | (k_here; (with_reducible show wpAny _ _ (compareOp CmpOp.Eq (Value.ref _) (Value.ref _)) _ _ _); k_dflt (refine' eqNil ?hh9a ?hh9b ?hh9u ?_; (case hh9a => kmk_list); (case hh9b => kmk_list); (case hh9u => (first | exact roomA (by with_reducible assumption) (by decide) | exact roomAB (by with_reducible assumption) (by decide) | exact roomABC (by with_reducible assumption) (by decide) | exact room0 (by with_reducible assumption) (by rfl) | exact roomN 3 (by with_reducible assumption) (by rfl) (by decide) | exact roomN 6 (by with_reducible assumption) (by rfl) (by decide) | ktr_units))))
    | (k_here; (with_reducible show wpAny _ _ (compareOp CmpOp.Eq (Value.ref _) (Value.ref _)) _ _ _); k_dflt (refine' eqSnoc ?hh9a ?hh9b ?hh9u ?_; (case hh9a => kmk_list); (case hh9b => kmk_list); (case hh9u => (first | exact roomA (by with_reducible assumption) (by decide) | exact roomAB (by with_reducible assumption) (by decide) | exact roomABC (by with_reducible assumption) (by decide) | exact room0 (by with_reducible assumption) (by rfl) | exact roomN 3 (by with_reducible assumption) (by rfl) (by decide) | exact roomN 6 (by with_reducible assumption) (by rfl) (by decide) | ktr_units))))
    | (k_here; (with_reducible show wpAny _ _ (compareOp CmpOp.Eq (Value.ref _) (Value.ref _)) _ _ _); k_dflt (refine' eqCons ?hh9a ?hh9b ?hh9u ?_; (case hh9a => kmk_list); (case hh9b => kmk_list); (case hh9u => (first | exact roomA (by with_reducible assumption) (by decide) | exact roomAB (by with_reducible assumption) (by decide) | exact roomABC (by with_reducible assumption) (by decide) | exact room0 (by with_reducible assumption) (by rfl) | exact roomN 3 (by with_reducible assumption) (by rfl) (by decide) | exact roomN 6 (by with_reducible assumption) (by rfl) (by decide) | ktr_units))))
    | (k_here; (with_reducible show wpAny _ _ (compareOp CmpOp.Eq (Value.ref _) (Value.ref _)) _ _ _); k_dflt (refine' eqEmpty ?hh9a ?hh9b ?hh9u ?_; (case hh9a => kmk_list); (case hh9b => kmk_list); (case hh9u => (first | exact roomA (by with_reducible assumption) (by decide) | exact roomAB (by with_reducible assumption) (by decide) | exact roomABC (by with_reducible assumption) (by decide) | exact room0 (by with_reducible assumption) (by rfl) | exact roomN 3 (by with_reducible assumption) (by rfl) (by decide) | exact roomN 6 (by with_reducible assumption) (by rfl) (by decide) | ktr_units))))
    | (k_here; (with_reducible show wpAny _ _ (binaryOp _ (Value.ref _) (Value.ref _)) _ _ _); k_dflt (refine' kmk_add_lit ?hh9F ?hh9N ?hh9a ?hh9b ?hh9e ?_ ?hh9z; (case hh9F => k_asm); (case hh9N => k_asm); (case hh9a => kmk_list); (case hh9b => kmk_list); (case hh9e => ((simp only [List.cons_append, List.nil_append]); exact rfl)); (case hh9z => (simp only [sizeLine_eq, List.length_cons, List.length_nil, List.length_append, List.length_drop, List.length_take]; omega))); intro D' h' F' N' l1; (try k_lt l1); (try k_sweep))
    | (k_end; wrow_close)
    | walk1
    | (dsimp only; walk1)
    | (leave1; walk_say "STEP leave1"; try dsimp only)
    | fail "no step")
  rename (_ < _ ∧ _) => l7
  clear l7
  rename (_ < _ ∧ _) => l9
  have l8 := l9
  iterate 40 (try (replace l8 := l8.2))
  exact hret _ _ _ _ (by assumption) (by assumption) ⟨_, (by kcj_in), rfl, ⟨by omega, by omega, by omega, l8⟩⟩

set_option maxHeartbeats 8000000 in
theorem meth6m (w : World) (r dr o : Addr) (x : Addr) (y : Value) (ys : List Value) (t1 t2 t3 : Tok) (most : Int) (tm : Tok) (no : Nat) (rest : List (Addr × Obj)) (hz : ys.length ≤ 50) (hrd : r ≠ dr) (ho : o ≠ dr) (hrest : ∀ p ∈ rest, p.1 ≠ dr) :
    Ctr w 98 [.ref r] 3 30 ((dr, ringO w.params t1 t2 t3 most tm (.ref x) (.ref o)) :: (r, instObj 101 dr) :: (o, listOf (List.toArray (y :: ys)) no) :: rest)
      (fun nx r' => ∃ D, (∀ p ∈ (D, listOf (List.toArray (ys)) 0) :: (dr, ringO w.params t1 t2 t3 most tm (y) (.ref D)) :: (r, instObj 101 dr) :: (o, listOf (List.toArray (y :: ys)) no) :: rest, p ∈ nx) ∧ r' = .bool true ∧
        AllLt D ((dr, ringO w.params t1 t2 t3 most tm (.ref x) (.ref o)) :: (r, instObj 101 dr) :: (o, listOf (List.toArray (y :: ys)) no) :: rest)) := by
  unfold Ctr
  k_fill
  intro mean mg mb dp un gd cn cs a ccd cl outer A₀ base h₀ L m s R B F X N T hk hdp hu hret
  k_dflt cell_enter
  w_top off
  repeat' (first
    | (k_unfold; (try dsimp only))
    | (k_here; (with_reducible show wpAny _ _ (PySem.call (Value.ref 56) _ _) _ _ _); k_dflt ((refine' Ctr.use (rowsS _ _ _ _ lv hl _ _ _ _ _ _ _ ?hh9hr ?hh9hdr ?hh9ho) ?hh9B ?hh9F ?hh9X ?hh9N ?hh9T ?hh9hk ?hh9hd ?hh9hu ?_); (case hh9B => k_asm); (case hh9F => k_asm); (case hh9X => k_asm); (case hh9N => k_asm); (case hh9hr => k_mem); (case hh9hdr => k_mem); (case hh9ho => k_mem); (case hh9T => k_asm); (case hh9hk => first | exact rfl | assumption); (case hh9hd => (first | exact roomA (by with_reducible assumption) (by decide) | exact roomAB (by with_reducible assumption) (by decide) | exact roomABC (by with_reducible assumption) (by decide) | exact room0 (by with_reducible assumption) (by rfl) | exact roomN 1 (by with_reducible assumption) (by rfl) (by decide) | exact roomN 2 (by with_reducible assumption) (by rfl) (by decide) | exact roomN 3 (by with_reducible assumption) (by rfl) (by decide) | ktr_room)); (case hh9hu => (first | exact roomA (by with_reducible assumption) (by decide) | exact roomAB (by with_reducible assumption) (by decide) | exact roomABC (by with_reducible assumption) (by decide) | exact room0 (by with_reducible assumption) (by rfl) | exact roomN 3 (by with_reducible assumption) (by rfl) (by decide) | exact roomN 6 (by with_reducible assumption) (by rfl) (by decide) | ktr_units))); intro r9 nx9 h' tk' F' N' hP9; obtain ⟨q9, e9, e9'⟩ := hP9; subst e9; subst e9'; (try dsimp only); (try k_fold); (try k_sweep))
    | (k_here; (with_reducible show wpAny _ _ (PySem.call (Value.ref 70) _ _) _ _ _); k_dflt ((refine' Ctr.use (take0u _ _ _ _ _ _ _ _ _ _ _ _ _ _ ?hh9hU ?hh9hr ?hh9hq ?hh9hrd ?hh9hqd) ?hh9B ?hh9F ?hh9X ?hh9N ?hh9T ?hh9hk ?hh9hd ?hh9hu ?_); (case hh9B => k_asm); (case hh9F => k_asm); (case hh9X => k_asm); (case hh9N => k_asm); (case hh9hr => k_mem); (case hh9hq => k_mem); (case hh9hU => (intro D9; k_upd)); (case hh9hrd => (first | with_reducible assumption | exact Ne.symm (by with_reducible assumption) | k_ne)); (case hh9hqd => (first | with_reducible assumption | exact Ne.symm (by with_reducible assumption) | k_ne)); (case hh9T => k_asm); (case hh9hk => first | exact rfl | assumption); (case hh9hd => (first | exact roomA (by with_reducible assumption) (by decide) | exact roomAB (by with_reducible assumption) (by decide) | exact roomABC (by with_reducible assumption) (by decide) | exact room0 (by with_reducible assumption) (by rfl) | exact roomN 1 (by with_reducible assumption) (by rfl) (by decide) | exact roomN 2 (by with_reducible assumption) (by rfl) (by decide) | exact roomN 3 (by with_reducible assumption) (by rfl) (by decide) | ktr_room)); (case hh9hu => (first | exact roomA (by with_reducible assumption) (by decide) | exact roomAB (by with_reducible assumption) (by decide) | exact roomABC (by with_reducible assumption) (by decide) | exact room0 (by with_reducible assumption) (by rfl) | exact roomN 3 (by with_reducible assumption) (by rfl) (by decide) | exact roomN 6 (by with_reducible assumption) (by rfl) (by decide) | ktr_units))); intro r9 nx9 h' tk' F' N' hP9; obtain ⟨q9, e9, e9', l9⟩ := hP9; subst e9; subst e9'; (try dsimp only at N'); (try k_lt l9); (try dsimp only); (try k_fold); (try k_sweep))
    | (k_here; (with_reducible show wpAny _ _ (PySem.call (Value.ref 70) _ _) _ _ _); k_dflt ((refine' Ctr.use (take1u _ _ _ _ _ _ _ _ _ _ _ _ _ _ _ _ ?hh9hU ?hh9hr ?hh9hq ?hh9hz ?hh9hrd ?hh9hqd) ?hh9B ?hh9F ?hh9X ?hh9N ?hh9T ?hh9hk ?hh9hd ?hh9hu ?_); (case hh9B => k_asm); (case hh9F => k_asm); (case hh9X => k_asm); (case hh9N => k_asm); (case hh9hr => k_mem); (case hh9hq => k_mem); (case hh9hU => (intro D9; k_upd)); (case hh9hz => (simp only [List.length_cons, List.length_nil, List.length_append]; omega)); (case hh9hrd => (first | with_reducible assumption | exact Ne.symm (by with_reducible assumption) | k_ne)); (case hh9hqd => (first | with_reducible assumption | exact Ne.symm (by with_reducible assumption) | k_ne)); (case hh9T => k_asm); (case hh9hk => first | exact rfl | assumption); (case hh9hd => (first | exact roomA (by with_reducible assumption) (by decide) | exact roomAB (by with_reducible assumption) (by decide) | exact roomABC (by with_reducible assumption) (by decide) | exact room0 (by with_reducible assumption) (by rfl) | exact roomN 1 (by with_reducible assumption) (by rfl) (by decide) | exact roomN 2 (by with_reducible assumption) (by rfl) (by decide) | exact roomN 3 (by with_reducible assumption) (by rfl) (by decide) | ktr_room)); (case hh9hu => (first | exact roomA (by with_reducible assumption) (by decide) | exact roomAB (by with_reducible assumption) (by decide) | exact roomABC (by with_reducible assumption) (by decide) | exact room0 (by with_reducible assumption) (by rfl) | exact roomN 3 (by with_reducible assumption) (by rfl) (by decide) | exact roomN 6 (by with_reducible assumption) (by rfl) (by decide) | ktr_units))); intro r9 nx9 h' tk' F' N' hP9; obtain ⟨q9, e9, e9', l9⟩ := hP9; subst e9; subst e9'; (try dsimp only at N'); (try k_lt l9); (try dsimp only); (try k_fold); (try k_sweep))
    | (k_here; (with_reducible show wpAny _ _ (PySem.call (Value.ref 56) _ _) _ _ _); k_dflt ((refine' Ctr.use (rows0u _ _ _ _ _ _ _ _ _ _ ?hh9hr ?hh9hdr) ?hh9B ?hh9F ?hh9X ?hh9N ?hh9T ?hh9hk ?hh9hd ?hh9hu ?_); (case hh9B => k_asm); (case hh9F => k_asm); (case hh9X => k_asm); (case hh9N => k_asm); (case hh9hr => k_mem); (case hh9hdr => k_mem); (case hh9T => k_asm); (case hh9hk => first | exact rfl | assumption); (case hh9hd => (first | exact roomA (by with_reducible assumption) (by decide) | exact roomAB (by with_reducible assumption) (by decide) | exact roomABC (by with_reducible assumption) (by decide) | exact room0 (by with_reducible assumption) (by rfl) | exact roomN 1 (by with_reducible assumption) (by rfl) (by decide) | exact roomN 2 (by with_reducible assumption) (by rfl) (by decide) | exact roomN 3 (by with_reducible assumption) (by rfl) (by decide) | ktr_room)); (case hh9hu => (first | exact roomA (by with_reducible assumption) (by decide) | exact roomAB (by with_reducible assumption) (by decide) | exact roomABC (by with_reducible assumption) (by decide) | exact room0 (by with_reducible assumption) (by rfl) | exact roomN 3 (by with_reducible assumption) (by rfl) (by decide) | exact roomN 6 (by with_reducible assumption) (by rfl) (by decide) | ktr_units))); intro r9 nx9 h' tk' F' N' hP9; obtain ⟨e9, e9'⟩ := hP9; subst e9; subst e9'; (try dsimp only); (try k_fold); (try k_sweep))
    | (k_here; (with_reducible show wpAny _ _ (PySem.call (Value.ref 56) _ _) _ _ _); k_dflt ((refine' Ctr.use (rows1u _ _ _ _ _ _ _ _ _ _ _ _ _ ?hh9hr ?hh9hdr ?hh9ho ?hh9hz) ?hh9B ?hh9F ?hh9X ?hh9N ?hh9T ?hh9hk ?hh9hd ?hh9hu ?_); (case hh9B => k_asm); (case hh9F => k_asm); (case hh9X => k_asm); (case hh9N => k_asm); (case hh9hr => k_mem); (case hh9hdr => k_mem); (case hh9ho => k_mem); (case hh9hz => (simp only [List.length_cons, List.length_nil, List.length_append]; omega)); (case hh9T => k_asm); (case hh9hk => first | exact rfl | assumption); (case hh9hd => (first | exact roomA (by with_reducible assumption) (by decide) | exact roomAB (by with_reducible assumption) (by decide) | exact roomABC (by with_reducible assumption) (by decide) | exact room0 (by with_reducible assumption) (by rfl) | exact roomN 1 (by with_reducible assumption) (by rfl) (by decide) | exact roomN 2 (by with_reducible assumption) (by rfl) (by decide) | exact roomN 3 (by with_reducible assumption) (by rfl) (by decide) | ktr_room)); (case hh9hu => (first | exact roomA (by with_reducible assumption) (by decide) | exact roomAB (by with_reducible assumption) (by decide) | exact roomABC (by with_reducible assumption) (by decide) | exact room0 (by with_reducible assumption) (by rfl) | exact roomN 3 (by with_reducible assumption) (by rfl) (by decide) | exact roomN 6 (by with_reducible assumption) (by rfl) (by decide) | ktr_units))); intro r9 nx9 h' tk' F' N' hP9; obtain ⟨q9, e9, e9', l9⟩ := hP9; subst e9; subst e9'; (try k_lt l9); (try dsimp only); (try k_fold); (try k_sweep))
    | (k_here; (with_reducible show wpAny _ _ (subscriptTail _ (PySem.Expr.Slice _ _ none _) (Value.ref _) (Value.ref _)) _ _ _); k_dflt (refine' kms_slice_lit ?hh9F ?hh9N ?hh9l ?hh9p ?hh9q ?hh9e ?_ ?hh9s ?hh9t ?hh9z; (case hh9F => k_asm); (case hh9N => k_asm); (case hh9l => kmk_list); (case hh9p => kmk_part); (case hh9q => kmk_part); (case hh9e => first | exact pickNil _ _ | exact pick1c _ _ | exact pick2c _ _ _ | exact pickT1c _ _ | exact pickLast3 _ _ _ | exact pickBut3 _ _ _ | exact pickLast2 _ _ | exact pickBut2 _ _ | exact pick1 _ | exact pick2 _ | exact pickLast _ | exact pickBut _ | exact pickTo _ _ (by omega)); (case hh9s => with_unfolding_all rfl); (case hh9t => kmk_pure); (case hh9z => (simp only [sizeLine_eq, List.size_toArray, List.length_cons, List.length_nil, List.length_append, List.length_drop, List.length_take]; omega))); intro D' h' F' N' l1; (try k_lt l1); (try k_sweep))
    | (k_here; (with_reducible show wpAny _ _ (compareOp CmpOp.NotEq (Value.ref _) (Value.ref _)) _ _ _); k_dflt (refine' neNil ?hh9a ?hh9b ?hh9u ?_; (case hh9a => kmk_list); (case hh9b => kmk_list); (case hh9u => (first | exact roomA (by with_reducible assumption) (by decide) | exact roomAB (by with_reducible assumption) (by decide) | exact roomABC (by with_reducible assumption) (by decide) | exact room0 (by with_reducible assumption) (by rfl) | exact roomN 3 (by with_reducible assumption) (by rfl) (by decide) | exact roomN 6 (by with_reducible assumption) (by rfl) (by decide) | ktr_units))))
    | (k_here; (with_reducible show wpAny _ _ (compareOp CmpOp.NotEq (Value.ref _) (Value.ref _)) _ _ _); k_dflt (refine' neCons ?hh9a ?hh9b ?hh9u ?_; (case hh9a => kmk_list); (case hh9b => kmk_list); (case hh9u => (first | exact roomA (by with_reducible assumption) (by decide) | exact roomAB (by with_reducible assumption) (by decide) | exact roomABC (by with_reducible assumption) (by decide) | exact room0 (by with_reducible assumption) (by rfl) | exact roomN 3 (by with_reducible assumption) (by rfl) (by decide) | exact roomN 6 (by with_reducible assumption) (by rfl) (by decide) | ktr_units))))
    | (k_here; (with_reducible show wpAny _ _ (compareOp CmpOp.NotEq (Value.ref _) (Value.ref _)) _ _ _); k_dflt (refine' neEmpty ?hh9a ?hh9b ?hh9u ?_; (case hh9a => kmk_list); (case hh9b => kmk_list); (case hh9u => (first | exact roomA (by with_reducible assumption) (by decide) | exact roomAB (by with_reducible assumption) (by decide) | exact roomABC (by with_reducible assumption) (by decide) | exact room0 (by with_reducible assumption) (by rfl) | exact roomN 3 (by with_reducible assumption) (by rfl) (by decide) | exact roomN 6 (by with_reducible assumption) (by rfl) (by decide) | ktr_units))))
    | (k_here; (with_reducible show wpAny _ _ (compareOp CmpOp.Eq (Value.ref _) (Value.ref _)) _ _ _); k_dflt (refine' eqNil ?hh9a ?hh9b ?hh9u ?_; (case hh9a => kmk_list); (case hh9b => kmk_list); (case hh9u => (first | exact roomA (by with_reducible assumption) (by decide) | exact roomAB (by with_reducible assumption) (by decide) | exact roomABC (by with_reducible assumption) (by decide) | exact room0 (by with_reducible assumption) (by rfl) | exact roomN 3 (by with_reducible assumption) (by rfl) (by decide) | exact roomN 6 (by with_reducible assumption) (by rfl) (by decide) | ktr_units))))
    | (k_here; (with_reducible show wpAny _ _ (compareOp CmpOp.Eq (Value.ref _) (Value.ref _)) _ _ _); k_dflt (refine' eqSnoc ?hh9a ?hh9b ?hh9u ?_; (case hh9a => kmk_list); (case hh9b => kmk_list); (case hh9u => (first | exact roomA (by with_reducible assumption) (by decide) | exact roomAB (by with_reducible assumption) (by decide) | exact roomABC (by with_reducible assumption) (by decide) | exact room0 (by with_reducible assumption) (by rfl) | exact roomN 3 (by with_reducible assumption) (by rfl) (by decide) | exact roomN 6 (by with_reducible assumption) (by rfl) (by decide) | ktr_units))))
    | (k_here; (with_reducible show wpAny _ _ (compareOp CmpOp.Eq (Value.ref _) (Value.ref _)) _ _ _); k_dflt (refine' eqCons ?hh9a ?hh9b ?hh9u ?_; (case hh9a => kmk_list); (case hh9b => kmk_list); (case hh9u => (first | exact roomA (by with_reducible assumption) (by decide) | exact roomAB (by with_reducible assumption) (by decide) | exact roomABC (by with_reducible assumption) (by decide) | exact room0 (by with_reducible assumption) (by rfl) | exact roomN 3 (by with_reducible assumption) (by rfl) (by decide) | exact roomN 6 (by with_reducible assumption) (by rfl) (by decide) | ktr_units))))
    | (k_here; (with_reducible show wpAny _ _ (compareOp CmpOp.Eq (Value.ref _) (Value.ref _)) _ _ _); k_dflt (refine' eqEmpty ?hh9a ?hh9b ?hh9u ?_; (case hh9a => kmk_list); (case hh9b => kmk_list); (case hh9u => (first | exact roomA (by with_reducible assumption) (by decide) | exact roomAB (by with_reducible assumption) (by decide) | exact roomABC (by with_reducible assumption) (by decide) | exact room0 (by with_reducible assumption) (by rfl) | exact roomN 3 (by with_reducible assumption) (by rfl) (by decide) | exact roomN 6 (by with_reducible assumption) (by rfl) (by decide) | ktr_units))))
    | (k_here; (with_reducible show wpAny _ _ (binaryOp _ (Value.ref _) (Value.ref _)) _ _ _); k_dflt (refine' kmk_add_lit ?hh9F ?hh9N ?hh9a ?hh9b ?hh9e ?_ ?hh9z; (case hh9F => k_asm); (case hh9N => k_asm); (case hh9a => kmk_list); (case hh9b => kmk_list); (case hh9e => ((simp only [List.cons_append, List.nil_append]); exact rfl)); (case hh9z => (simp only [sizeLine_eq, List.length_cons, List.length_nil, List.length_append, List.length_drop, List.length_take]; omega))); intro D' h' F' N' l1; (try k_lt l1); (try k_sweep))
    | (k_end; wrow_close)
    | walk1
    | (dsimp only; walk1)
    | (leave1; walk_say "STEP leave1"; try dsimp only)
    | fail "no step")
  rename (_ < _ ∧ _) => l7
  clear l7
  rename (_ < _ ∧ _) => l9
  have l8 := l9
  iterate 40 (try (replace l8 := l8.2))
  exact hret _ _ _ _ (by assumption) (by assumption) ⟨_, (by kcj_in), rfl, ⟨by omega, by omega, by omega, l8⟩⟩

set_option maxHeartbeats 8000000 in
theorem deedK3 (w : World) (r dr o : Addr) (lv : Value) (vs : List Value) (t1 t2 t3 : Tok) (most : Int) (tm tw tb : Tok) (beat : Int) (no : Nat) (rest : List (Addr × Obj)) {Post : List (Addr × Obj) → Value → Prop} (C : Ctr w 77 [.ref r] 3 30 ((dr, ringO w.params t1 t2 t3 most tm lv (.ref o)) :: (r, instObj 101 dr) :: (o, listOf vs.toArray no) :: rest) Post) :
    Ctr w 147 [.ref r, .int 3 tw, .int beat tb] 4 40 ((dr, ringO w.params t1 t2 t3 most tm lv (.ref o)) :: (r, instObj 101 dr) :: (o, listOf vs.toArray no) :: rest) Post := by
  unfold Ctr
  k_fill
  intro mean mg mb dp un gd cn cs a ccd cl outer A₀ base h₀ L m s R B F X N T hk hdp hu hret
  k_dflt cell_enter
  w_top off
  repeat' (first
    | (k_unfold; (try dsimp only))
    | (k_here; (with_reducible show wpAny _ _ (PySem.call (Value.ref _) []) _ _ _); k_dflt (refine' Ctr.meth C ?hh9hs ?hh9hq ?hh9B ?hh9F ?hh9X ?hh9N ?hh9T ?hh9hk ?hh9hd ?hh9hu ?_; (case hh9B => k_asm); (case hh9F => k_asm); (case hh9X => k_asm); (case hh9N => k_asm); (case hh9hs => (intro p hp; k_ownIn)); (case hh9hq => k_mem); (case hh9T => k_asm); (case hh9hk => first | exact rfl | assumption); (case hh9hd => (first | exact roomA (by with_reducible assumption) (by decide) | exact roomAB (by with_reducible assumption) (by decide) | exact roomABC (by with_reducible assumption) (by decide) | exact room0 (by with_reducible assumption) (by rfl) | exact roomN 1 (by with_reducible assumption) (by rfl) (by decide) | exact roomN 2 (by with_reducible assumption) (by rfl) (by decide) | exact roomN 3 (by with_reducible assumption) (by rfl) (by decide) | ktr_room)); (case hh9hu => (first | exact roomA (by with_reducible assumption) (by decide) | exact roomAB (by with_reducible assumption) (by decide) | exact roomABC (by with_reducible assumption) (by decide) | exact room0 (by with_reducible assumption) (by rfl) | exact roomN 3 (by with_reducible assumption) (by rfl) (by decide) | exact roomN 6 (by with_reducible assumption) (by rfl) (by decide) | ktr_units))); intro r9 nx9 h' tk' F' N' hP9; (try dsimp only))
    | (k_here; (with_reducible show wpAny _ _ (PySem.call (Value.ref 56) _ _) _ _ _); k_dflt ((refine' Ctr.use (rowsS _ _ _ _ lv hl _ _ _ _ _ _ _ ?hh9hr ?hh9hdr ?hh9ho) ?hh9B ?hh9F ?hh9X ?hh9N ?hh9T ?hh9hk ?hh9hd ?hh9hu ?_); (case hh9B => k_asm); (case hh9F => k_asm); (case hh9X => k_asm); (case hh9N => k_asm); (case hh9hr => k_mem); (case hh9hdr => k_mem); (case hh9ho => k_mem); (case hh9T => k_asm); (case hh9hk => first | exact rfl | assumption); (case hh9hd => (first | exact roomA (by with_reducible assumption) (by decide) | exact roomAB (by with_reducible assumption) (by decide) | exact roomABC (by with_reducible assumption) (by decide) | exact room0 (by with_reducible assumption) (by rfl) | exact roomN 1 (by with_reducible assumption) (by rfl) (by decide) | exact roomN 2 (by with_reducible assumption) (by rfl) (by decide) | exact roomN 3 (by with_reducible assumption) (by rfl) (by decide) | ktr_room)); (case hh9hu => (first | exact roomA (by with_reducible assumption) (by decide) | exact roomAB (by with_reducible assumption) (by decide) | exact roomABC (by with_reducible assumption) (by decide) | exact room0 (by with_reducible assumption) (by rfl) | exact roomN 3 (by with_reducible assumption) (by rfl) (by decide) | exact roomN 6 (by with_reducible assumption) (by rfl) (by decide) | ktr_units))); intro r9 nx9 h' tk' F' N' hP9; obtain ⟨q9, e9, e9'⟩ := hP9; subst e9; subst e9'; (try dsimp only); (try k_fold); (try k_sweep))
    | (k_here; (with_reducible show wpAny _ _ (PySem.call (Value.ref 70) _ _) _ _ _); k_dflt ((refine' Ctr.use (take0u _ _ _ _ _ _ _ _ _ _ _ _ _ _ ?hh9hU ?hh9hr ?hh9hq ?hh9hrd ?hh9hqd) ?hh9B ?hh9F ?hh9X ?hh9N ?hh9T ?hh9hk ?hh9hd ?hh9hu ?_); (case hh9B => k_asm); (case hh9F => k_asm); (case hh9X => k_asm); (case hh9N => k_asm); (case hh9hr => k_mem); (case hh9hq => k_mem); (case hh9hU => (intro D9; k_upd)); (case hh9hrd => (first | with_reducible assumption | exact Ne.symm (by with_reducible assumption) | k_ne)); (case hh9hqd => (first | with_reducible assumption | exact Ne.symm (by with_reducible assumption) | k_ne)); (case hh9T => k_asm); (case hh9hk => first | exact rfl | assumption); (case hh9hd => (first | exact roomA (by with_reducible assumption) (by decide) | exact roomAB (by with_reducible assumption) (by decide) | exact roomABC (by with_reducible assumption) (by decide) | exact room0 (by with_reducible assumption) (by rfl) | exact roomN 1 (by with_reducible assumption) (by rfl) (by decide) | exact roomN 2 (by with_reducible assumption) (by rfl) (by decide) | exact roomN 3 (by with_reducible assumption) (by rfl) (by decide) | ktr_room)); (case hh9hu => (first | exact roomA (by with_reducible assumption) (by decide) | exact roomAB (by with_reducible assumption) (by decide) | exact roomABC (by with_reducible assumption) (by decide) | exact room0 (by with_reducible assumption) (by rfl) | exact roomN 3 (by with_reducible assumption) (by rfl) (by decide) | exact roomN 6 (by with_reducible assumption) (by rfl) (by decide) | ktr_units))); intro r9 nx9 h' tk' F' N' hP9; obtain ⟨q9, e9, e9', l9⟩ := hP9; subst e9; subst e9'; (try dsimp only at N'); (try k_lt l9); (try dsimp only); (try k_fold); (try k_sweep))
    | (k_here; (with_reducible show wpAny _ _ (PySem.call (Value.ref 70) _ _) _ _ _); k_dflt ((refine' Ctr.use (take1u _ _ _ _ _ _ _ _ _ _ _ _ _ _ _ _ ?hh9hU ?hh9hr ?hh9hq ?hh9hz ?hh9hrd ?hh9hqd) ?hh9B ?hh9F ?hh9X ?hh9N ?hh9T ?hh9hk ?hh9hd ?hh9hu ?_); (case hh9B => k_asm); (case hh9F => k_asm); (case hh9X => k_asm); (case hh9N => k_asm); (case hh9hr => k_mem); (case hh9hq => k_mem); (case hh9hU => (intro D9; k_upd)); (case hh9hz => (simp only [List.length_cons, List.length_nil, List.length_append]; omega)); (case hh9hrd => (first | with_reducible assumption | exact Ne.symm (by with_reducible assumption) | k_ne)); (case hh9hqd => (first | with_reducible assumption | exact Ne.symm (by with_reducible assumption) | k_ne)); (case hh9T => k_asm); (case hh9hk => first | exact rfl | assumption); (case hh9hd => (first | exact roomA (by with_reducible assumption) (by decide) | exact roomAB (by with_reducible assumption) (by decide) | exact roomABC (by with_reducible assumption) (by decide) | exact room0 (by with_reducible assumption) (by rfl) | exact roomN 1 (by with_reducible assumption) (by rfl) (by decide) | exact roomN 2 (by with_reducible assumption) (by rfl) (by decide) | exact roomN 3 (by with_reducible assumption) (by rfl) (by decide) | ktr_room)); (case hh9hu => (first | exact roomA (by with_reducible assumption) (by decide) | exact roomAB (by with_reducible assumption) (by decide) | exact roomABC (by with_reducible assumption) (by decide) | exact room0 (by with_reducible assumption) (by rfl) | exact roomN 3 (by with_reducible assumption) (by rfl) (by decide) | exact roomN 6 (by with_reducible assumption) (by rfl) (by decide) | ktr_units))); intro r9 nx9 h' tk' F' N' hP9; obtain ⟨q9, e9, e9', l9⟩ := hP9; subst e9; subst e9'; (try dsimp only at N'); (try k_lt l9); (try dsimp only); (try k_fold); (try k_sweep))
    | (k_here; (with_reducible show wpAny _ _ (PySem.call (Value.ref 56) _ _) _ _ _); k_dflt ((refine' Ctr.use (rows0u _ _ _ _ _ _ _ _ _ _ ?hh9hr ?hh9hdr) ?hh9B ?hh9F ?hh9X ?hh9N ?hh9T ?hh9hk ?hh9hd ?hh9hu ?_); (case hh9B => k_asm); (case hh9F => k_asm); (case hh9X => k_asm); (case hh9N => k_asm); (case hh9hr => k_mem); (case hh9hdr => k_mem); (case hh9T => k_asm); (case hh9hk => first | exact rfl | assumption); (case hh9hd => (first | exact roomA (by with_reducible assumption) (by decide) | exact roomAB (by with_reducible assumption) (by decide) | exact roomABC (by with_reducible assumption) (by decide) | exact room0 (by with_reducible assumption) (by rfl) | exact roomN 1 (by with_reducible assumption) (by rfl) (by decide) | exact roomN 2 (by with_reducible assumption) (by rfl) (by decide) | exact roomN 3 (by with_reducible assumption) (by rfl) (by decide) | ktr_room)); (case hh9hu => (first | exact roomA (by with_reducible assumption) (by decide) | exact roomAB (by with_reducible assumption) (by decide) | exact roomABC (by with_reducible assumption) (by decide) | exact room0 (by with_reducible assumption) (by rfl) | exact roomN 3 (by with_reducible assumption) (by rfl) (by decide) | exact roomN 6 (by with_reducible assumption) (by rfl) (by decide) | ktr_units))); intro r9 nx9 h' tk' F' N' hP9; obtain ⟨e9, e9'⟩ := hP9; subst e9; subst e9'; (try dsimp only); (try k_fold); (try k_sweep))
    | (k_here; (with_reducible show wpAny _ _ (PySem.call (Value.ref 56) _ _) _ _ _); k_dflt ((refine' Ctr.use (rows1u _ _ _ _ _ _ _ _ _ _ _ _ _ ?hh9hr ?hh9hdr ?hh9ho ?hh9hz) ?hh9B ?hh9F ?hh9X ?hh9N ?hh9T ?hh9hk ?hh9hd ?hh9hu ?_); (case hh9B => k_asm); (case hh9F => k_asm); (case hh9X => k_asm); (case hh9N => k_asm); (case hh9hr => k_mem); (case hh9hdr => k_mem); (case hh9ho => k_mem); (case hh9hz => (simp only [List.length_cons, List.length_nil, List.length_append]; omega)); (case hh9T => k_asm); (case hh9hk => first | exact rfl | assumption); (case hh9hd => (first | exact roomA (by with_reducible assumption) (by decide) | exact roomAB (by with_reducible assumption) (by decide) | exact roomABC (by with_reducible assumption) (by decide) | exact room0 (by with_reducible assumption) (by rfl) | exact roomN 1 (by with_reducible assumption) (by rfl) (by decide) | exact roomN 2 (by with_reducible assumption) (by rfl) (by decide) | exact roomN 3 (by with_reducible assumption) (by rfl) (by decide) | ktr_room)); (case hh9hu => (first | exact roomA (by with_reducible assumption) (by decide) | exact roomAB (by with_reducible assumption) (by decide) | exact roomABC (by with_reducible assumption) (by decide) | exact room0 (by with_reducible assumption) (by rfl) | exact roomN 3 (by with_reducible assumption) (by rfl) (by decide) | exact roomN 6 (by with_reducible assumption) (by rfl) (by decide) | ktr_units))); intro r9 nx9 h' tk' F' N' hP9; obtain ⟨q9, e9, e9', l9⟩ := hP9; subst e9; subst e9'; (try k_lt l9); (try dsimp only); (try k_fold); (try k_sweep))
    | (k_here; (with_reducible show wpAny _ _ (subscriptTail _ (PySem.Expr.Slice _ _ none _) (Value.ref _) (Value.ref _)) _ _ _); k_dflt (refine' kms_slice_lit ?hh9F ?hh9N ?hh9l ?hh9p ?hh9q ?hh9e ?_ ?hh9s ?hh9t ?hh9z; (case hh9F => k_asm); (case hh9N => k_asm); (case hh9l => kmk_list); (case hh9p => kmk_part); (case hh9q => kmk_part); (case hh9e => first | exact pickNil _ _ | exact pick1c _ _ | exact pick2c _ _ _ | exact pickT1c _ _ | exact pickLast3 _ _ _ | exact pickBut3 _ _ _ | exact pickLast2 _ _ | exact pickBut2 _ _ | exact pick1 _ | exact pick2 _ | exact pickLast _ | exact pickBut _ | exact pickTo _ _ (by omega)); (case hh9s => with_unfolding_all rfl); (case hh9t => kmk_pure); (case hh9z => (simp only [sizeLine_eq, List.size_toArray, List.length_cons, List.length_nil, List.length_append, List.length_drop, List.length_take]; omega))); intro D' h' F' N' l1; (try k_lt l1); (try k_sweep))
    | (k_here; (with_reducible show wpAny _ _ (compareOp CmpOp.NotEq (Value.ref _) (Value.ref _)) _ _ _); k_dflt (refine' neNil ?hh9a ?hh9b ?hh9u ?_; (case hh9a => kmk_list); (case hh9b => kmk_list); (case hh9u => (first | exact roomA (by with_reducible assumption) (by decide) | exact roomAB (by with_reducible assumption) (by decide) | exact roomABC (by with_reducible assumption) (by decide) | exact room0 (by with_reducible assumption) (by rfl) | exact roomN 3 (by with_reducible assumption) (by rfl) (by decide) | exact roomN 6 (by with_reducible assumption) (by rfl) (by decide) | ktr_units))))
    | (k_here; (with_reducible show wpAny _ _ (compareOp CmpOp.NotEq (Value.ref _) (Value.ref _)) _ _ _); k_dflt (refine' neCons ?hh9a ?hh9b ?hh9u ?_; (case hh9a => kmk_list); (case hh9b => kmk_list); (case hh9u => (first | exact roomA (by with_reducible assumption) (by decide) | exact roomAB (by with_reducible assumption) (by decide) | exact roomABC (by with_reducible assumption) (by decide) | exact room0 (by with_reducible assumption) (by rfl) | exact roomN 3 (by with_reducible assumption) (by rfl) (by decide) | exact roomN 6 (by with_reducible assumption) (by rfl) (by decide) | ktr_units))))
    | (k_here; (with_reducible show wpAny _ _ (compareOp CmpOp.NotEq (Value.ref _) (Value.ref _)) _ _ _); k_dflt (refine' neEmpty ?hh9a ?hh9b ?hh9u ?_; (case hh9a => kmk_list); (case hh9b => kmk_list); (case hh9u => (first | exact roomA (by with_reducible assumption) (by decide) | exact roomAB (by with_reducible assumption) (by decide) | exact roomABC (by with_reducible assumption) (by decide) | exact room0 (by with_reducible assumption) (by rfl) | exact roomN 3 (by with_reducible assumption) (by rfl) (by decide) | exact roomN 6 (by with_reducible assumption) (by rfl) (by decide) | ktr_units))))
    | (k_here; (with_reducible show wpAny _ _ (compareOp CmpOp.Eq (Value.ref _) (Value.ref _)) _ _ _); k_dflt (refine' eqNil ?hh9a ?hh9b ?hh9u ?_; (case hh9a => kmk_list); (case hh9b => kmk_list); (case hh9u => (first | exact roomA (by with_reducible assumption) (by decide) | exact roomAB (by with_reducible assumption) (by decide) | exact roomABC (by with_reducible assumption) (by decide) | exact room0 (by with_reducible assumption) (by rfl) | exact roomN 3 (by with_reducible assumption) (by rfl) (by decide) | exact roomN 6 (by with_reducible assumption) (by rfl) (by decide) | ktr_units))))
    | (k_here; (with_reducible show wpAny _ _ (compareOp CmpOp.Eq (Value.ref _) (Value.ref _)) _ _ _); k_dflt (refine' eqSnoc ?hh9a ?hh9b ?hh9u ?_; (case hh9a => kmk_list); (case hh9b => kmk_list); (case hh9u => (first | exact roomA (by with_reducible assumption) (by decide) | exact roomAB (by with_reducible assumption) (by decide) | exact roomABC (by with_reducible assumption) (by decide) | exact room0 (by with_reducible assumption) (by rfl) | exact roomN 3 (by with_reducible assumption) (by rfl) (by decide) | exact roomN 6 (by with_reducible assumption) (by rfl) (by decide) | ktr_units))))
    | (k_here; (with_reducible show wpAny _ _ (compareOp CmpOp.Eq (Value.ref _) (Value.ref _)) _ _ _); k_dflt (refine' eqCons ?hh9a ?hh9b ?hh9u ?_; (case hh9a => kmk_list); (case hh9b => kmk_list); (case hh9u => (first | exact roomA (by with_reducible assumption) (by decide) | exact roomAB (by with_reducible assumption) (by decide) | exact roomABC (by with_reducible assumption) (by decide) | exact room0 (by with_reducible assumption) (by rfl) | exact roomN 3 (by with_reducible assumption) (by rfl) (by decide) | exact roomN 6 (by with_reducible assumption) (by rfl) (by decide) | ktr_units))))
    | (k_here; (with_reducible show wpAny _ _ (compareOp CmpOp.Eq (Value.ref _) (Value.ref _)) _ _ _); k_dflt (refine' eqEmpty ?hh9a ?hh9b ?hh9u ?_; (case hh9a => kmk_list); (case hh9b => kmk_list); (case hh9u => (first | exact roomA (by with_reducible assumption) (by decide) | exact roomAB (by with_reducible assumption) (by decide) | exact roomABC (by with_reducible assumption) (by decide) | exact room0 (by with_reducible assumption) (by rfl) | exact roomN 3 (by with_reducible assumption) (by rfl) (by decide) | exact roomN 6 (by with_reducible assumption) (by rfl) (by decide) | ktr_units))))
    | (k_here; (with_reducible show wpAny _ _ (binaryOp _ (Value.ref _) (Value.ref _)) _ _ _); k_dflt (refine' kmk_add_lit ?hh9F ?hh9N ?hh9a ?hh9b ?hh9e ?_ ?hh9z; (case hh9F => k_asm); (case hh9N => k_asm); (case hh9a => kmk_list); (case hh9b => kmk_list); (case hh9e => ((simp only [List.cons_append, List.nil_append]); exact rfl)); (case hh9z => (simp only [sizeLine_eq, List.length_cons, List.length_nil, List.length_append, List.length_drop, List.length_take]; omega))); intro D' h' F' N' l1; (try k_lt l1); (try k_sweep))
    | (k_end; wrow_close)
    | walk1
    | (dsimp only; walk1)
    | (leave1; walk_say "STEP leave1"; try dsimp only)
    | fail "no step")
  exact hret _ _ _ _ (by assumption) (by assumption) (by assumption)

set_option maxHeartbeats 8000000 in
theorem deedK4 (w : World) (r dr o : Addr) (lv : Value) (vs : List Value) (t1 t2 t3 : Tok) (most : Int) (tm tw tb : Tok) (beat : Int) (no : Nat) (rest : List (Addr × Obj)) {Post : List (Addr × Obj) → Value → Prop} (C : Ctr w 84 [.ref r] 3 30 ((dr, ringO w.params t1 t2 t3 most tm lv (.ref o)) :: (r, instObj 101 dr) :: (o, listOf vs.toArray no) :: rest) Post) :
    Ctr w 147 [.ref r, .int 4 tw, .int beat tb] 4 40 ((dr, ringO w.params t1 t2 t3 most tm lv (.ref o)) :: (r, instObj 101 dr) :: (o, listOf vs.toArray no) :: rest) Post := by
  unfold Ctr
  k_fill
  intro mean mg mb dp un gd cn cs a ccd cl outer A₀ base h₀ L m s R B F X N T hk hdp hu hret
  k_dflt cell_enter
  w_top off
  repeat' (first
    | (k_unfold; (try dsimp only))
    | (k_here; (with_reducible show wpAny _ _ (PySem.call (Value.ref _) []) _ _ _); k_dflt (refine' Ctr.meth C ?hh9hs ?hh9hq ?hh9B ?hh9F ?hh9X ?hh9N ?hh9T ?hh9hk ?hh9hd ?hh9hu ?_; (case hh9B => k_asm); (case hh9F => k_asm); (case hh9X => k_asm); (case hh9N => k_asm); (case hh9hs => (intro p hp; k_ownIn)); (case hh9hq => k_mem); (case hh9T => k_asm); (case hh9hk => first | exact rfl | assumption); (case hh9hd => (first | exact roomA (by with_reducible assumption) (by decide) | exact roomAB (by with_reducible assumption) (by decide) | exact roomABC (by with_reducible assumption) (by decide) | exact room0 (by with_reducible assumption) (by rfl) | exact roomN 1 (by with_reducible assumption) (by rfl) (by decide) | exact roomN 2 (by with_reducible assumption) (by rfl) (by decide) | exact roomN 3 (by with_reducible assumption) (by rfl) (by decide) | ktr_room)); (case hh9hu => (first | exact roomA (by with_reducible assumption) (by decide) | exact roomAB (by with_reducible assumption) (by decide) | exact roomABC (by with_reducible assumption) (by decide) | exact room0 (by with_reducible assumption) (by rfl) | exact roomN 3 (by with_reducible assumption) (by rfl) (by decide) | exact roomN 6 (by with_reducible assumption) (by rfl) (by decide) | ktr_units))); intro r9 nx9 h' tk' F' N' hP9; (try dsimp only))
    | (k_here; (with_reducible show wpAny _ _ (PySem.call (Value.ref 56) _ _) _ _ _); k_dflt ((refine' Ctr.use (rowsS _ _ _ _ lv hl _ _ _ _ _ _ _ ?hh9hr ?hh9hdr ?hh9ho) ?hh9B ?hh9F ?hh9X ?hh9N ?hh9T ?hh9hk ?hh9hd ?hh9hu ?_); (case hh9B => k_asm); (case hh9F => k_asm); (case hh9X => k_asm); (case hh9N => k_asm); (case hh9hr => k_mem); (case hh9hdr => k_mem); (case hh9ho => k_mem); (case hh9T => k_asm); (case hh9hk => first | exact rfl | assumption); (case hh9hd => (first | exact roomA (by with_reducible assumption) (by decide) | exact roomAB (by with_reducible assumption) (by decide) | exact roomABC (by with_reducible assumption) (by decide) | exact room0 (by with_reducible assumption) (by rfl) | exact roomN 1 (by with_reducible assumption) (by rfl) (by decide) | exact roomN 2 (by with_reducible assumption) (by rfl) (by decide) | exact roomN 3 (by with_reducible assumption) (by rfl) (by decide) | ktr_room)); (case hh9hu => (first | exact roomA (by with_reducible assumption) (by decide) | exact roomAB (by with_reducible assumption) (by decide) | exact roomABC (by with_reducible assumption) (by decide) | exact room0 (by with_reducible assumption) (by rfl) | exact roomN 3 (by with_reducible assumption) (by rfl) (by decide) | exact roomN 6 (by with_reducible assumption) (by rfl) (by decide) | ktr_units))); intro r9 nx9 h' tk' F' N' hP9; obtain ⟨q9, e9, e9'⟩ := hP9; subst e9; subst e9'; (try dsimp only); (try k_fold); (try k_sweep))
    | (k_here; (with_reducible show wpAny _ _ (PySem.call (Value.ref 70) _ _) _ _ _); k_dflt ((refine' Ctr.use (take0u _ _ _ _ _ _ _ _ _ _ _ _ _ _ ?hh9hU ?hh9hr ?hh9hq ?hh9hrd ?hh9hqd) ?hh9B ?hh9F ?hh9X ?hh9N ?hh9T ?hh9hk ?hh9hd ?hh9hu ?_); (case hh9B => k_asm); (case hh9F => k_asm); (case hh9X => k_asm); (case hh9N => k_asm); (case hh9hr => k_mem); (case hh9hq => k_mem); (case hh9hU => (intro D9; k_upd)); (case hh9hrd => (first | with_reducible assumption | exact Ne.symm (by with_reducible assumption) | k_ne)); (case hh9hqd => (first | with_reducible assumption | exact Ne.symm (by with_reducible assumption) | k_ne)); (case hh9T => k_asm); (case hh9hk => first | exact rfl | assumption); (case hh9hd => (first | exact roomA (by with_reducible assumption) (by decide) | exact roomAB (by with_reducible assumption) (by decide) | exact roomABC (by with_reducible assumption) (by decide) | exact room0 (by with_reducible assumption) (by rfl) | exact roomN 1 (by with_reducible assumption) (by rfl) (by decide) | exact roomN 2 (by with_reducible assumption) (by rfl) (by decide) | exact roomN 3 (by with_reducible assumption) (by rfl) (by decide) | ktr_room)); (case hh9hu => (first | exact roomA (by with_reducible assumption) (by decide) | exact roomAB (by with_reducible assumption) (by decide) | exact roomABC (by with_reducible assumption) (by decide) | exact room0 (by with_reducible assumption) (by rfl) | exact roomN 3 (by with_reducible assumption) (by rfl) (by decide) | exact roomN 6 (by with_reducible assumption) (by rfl) (by decide) | ktr_units))); intro r9 nx9 h' tk' F' N' hP9; obtain ⟨q9, e9, e9', l9⟩ := hP9; subst e9; subst e9'; (try dsimp only at N'); (try k_lt l9); (try dsimp only); (try k_fold); (try k_sweep))
    | (k_here; (with_reducible show wpAny _ _ (PySem.call (Value.ref 70) _ _) _ _ _); k_dflt ((refine' Ctr.use (take1u _ _ _ _ _ _ _ _ _ _ _ _ _ _ _ _ ?hh9hU ?hh9hr ?hh9hq ?hh9hz ?hh9hrd ?hh9hqd) ?hh9B ?hh9F ?hh9X ?hh9N ?hh9T ?hh9hk ?hh9hd ?hh9hu ?_); (case hh9B => k_asm); (case hh9F => k_asm); (case hh9X => k_asm); (case hh9N => k_asm); (case hh9hr => k_mem); (case hh9hq => k_mem); (case hh9hU => (intro D9; k_upd)); (case hh9hz => (simp only [List.length_cons, List.length_nil, List.length_append]; omega)); (case hh9hrd => (first | with_reducible assumption | exact Ne.symm (by with_reducible assumption) | k_ne)); (case hh9hqd => (first | with_reducible assumption | exact Ne.symm (by with_reducible assumption) | k_ne)); (case hh9T => k_asm); (case hh9hk => first | exact rfl | assumption); (case hh9hd => (first | exact roomA (by with_reducible assumption) (by decide) | exact roomAB (by with_reducible assumption) (by decide) | exact roomABC (by with_reducible assumption) (by decide) | exact room0 (by with_reducible assumption) (by rfl) | exact roomN 1 (by with_reducible assumption) (by rfl) (by decide) | exact roomN 2 (by with_reducible assumption) (by rfl) (by decide) | exact roomN 3 (by with_reducible assumption) (by rfl) (by decide) | ktr_room)); (case hh9hu => (first | exact roomA (by with_reducible assumption) (by decide) | exact roomAB (by with_reducible assumption) (by decide) | exact roomABC (by with_reducible assumption) (by decide) | exact room0 (by with_reducible assumption) (by rfl) | exact roomN 3 (by with_reducible assumption) (by rfl) (by decide) | exact roomN 6 (by with_reducible assumption) (by rfl) (by decide) | ktr_units))); intro r9 nx9 h' tk' F' N' hP9; obtain ⟨q9, e9, e9', l9⟩ := hP9; subst e9; subst e9'; (try dsimp only at N'); (try k_lt l9); (try dsimp only); (try k_fold); (try k_sweep))
    | (k_here; (with_reducible show wpAny _ _ (PySem.call (Value.ref 56) _ _) _ _ _); k_dflt ((refine' Ctr.use (rows0u _ _ _ _ _ _ _ _ _ _ ?hh9hr ?hh9hdr) ?hh9B ?hh9F ?hh9X ?hh9N ?hh9T ?hh9hk ?hh9hd ?hh9hu ?_); (case hh9B => k_asm); (case hh9F => k_asm); (case hh9X => k_asm); (case hh9N => k_asm); (case hh9hr => k_mem); (case hh9hdr => k_mem); (case hh9T => k_asm); (case hh9hk => first | exact rfl | assumption); (case hh9hd => (first | exact roomA (by with_reducible assumption) (by decide) | exact roomAB (by with_reducible assumption) (by decide) | exact roomABC (by with_reducible assumption) (by decide) | exact room0 (by with_reducible assumption) (by rfl) | exact roomN 1 (by with_reducible assumption) (by rfl) (by decide) | exact roomN 2 (by with_reducible assumption) (by rfl) (by decide) | exact roomN 3 (by with_reducible assumption) (by rfl) (by decide) | ktr_room)); (case hh9hu => (first | exact roomA (by with_reducible assumption) (by decide) | exact roomAB (by with_reducible assumption) (by decide) | exact roomABC (by with_reducible assumption) (by decide) | exact room0 (by with_reducible assumption) (by rfl) | exact roomN 3 (by with_reducible assumption) (by rfl) (by decide) | exact roomN 6 (by with_reducible assumption) (by rfl) (by decide) | ktr_units))); intro r9 nx9 h' tk' F' N' hP9; obtain ⟨e9, e9'⟩ := hP9; subst e9; subst e9'; (try dsimp only); (try k_fold); (try k_sweep))
    | (k_here; (with_reducible show wpAny _ _ (PySem.call (Value.ref 56) _ _) _ _ _); k_dflt ((refine' Ctr.use (rows1u _ _ _ _ _ _ _ _ _ _ _ _ _ ?hh9hr ?hh9hdr ?hh9ho ?hh9hz) ?hh9B ?hh9F ?hh9X ?hh9N ?hh9T ?hh9hk ?hh9hd ?hh9hu ?_); (case hh9B => k_asm); (case hh9F => k_asm); (case hh9X => k_asm); (case hh9N => k_asm); (case hh9hr => k_mem); (case hh9hdr => k_mem); (case hh9ho => k_mem); (case hh9hz => (simp only [List.length_cons, List.length_nil, List.length_append]; omega)); (case hh9T => k_asm); (case hh9hk => first | exact rfl | assumption); (case hh9hd => (first | exact roomA (by with_reducible assumption) (by decide) | exact roomAB (by with_reducible assumption) (by decide) | exact roomABC (by with_reducible assumption) (by decide) | exact room0 (by with_reducible assumption) (by rfl) | exact roomN 1 (by with_reducible assumption) (by rfl) (by decide) | exact roomN 2 (by with_reducible assumption) (by rfl) (by decide) | exact roomN 3 (by with_reducible assumption) (by rfl) (by decide) | ktr_room)); (case hh9hu => (first | exact roomA (by with_reducible assumption) (by decide) | exact roomAB (by with_reducible assumption) (by decide) | exact roomABC (by with_reducible assumption) (by decide) | exact room0 (by with_reducible assumption) (by rfl) | exact roomN 3 (by with_reducible assumption) (by rfl) (by decide) | exact roomN 6 (by with_reducible assumption) (by rfl) (by decide) | ktr_units))); intro r9 nx9 h' tk' F' N' hP9; obtain ⟨q9, e9, e9', l9⟩ := hP9; subst e9; subst e9'; (try k_lt l9); (try dsimp only); (try k_fold); (try k_sweep))
    | (k_here; (with_reducible show wpAny _ _ (subscriptTail _ (PySem.Expr.Slice _ _ none _) (Value.ref _) (Value.ref _)) _ _ _); k_dflt (refine' kms_slice_lit ?hh9F ?hh9N ?hh9l ?hh9p ?hh9q ?hh9e ?_ ?hh9s ?hh9t ?hh9z; (case hh9F => k_asm); (case hh9N => k_asm); (case hh9l => kmk_list); (case hh9p => kmk_part); (case hh9q => kmk_part); (case hh9e => first | exact pickNil _ _ | exact pick1c _ _ | exact pick2c _ _ _ | exact pickT1c _ _ | exact pickLast3 _ _ _ | exact pickBut3 _ _ _ | exact pickLast2 _ _ | exact pickBut2 _ _ | exact pick1 _ | exact pick2 _ | exact pickLast _ | exact pickBut _ | exact pickTo _ _ (by omega)); (case hh9s => with_unfolding_all rfl); (case hh9t => kmk_pure); (case hh9z => (simp only [sizeLine_eq, List.size_toArray, List.length_cons, List.length_nil, List.length_append, List.length_drop, List.length_take]; omega))); intro D' h' F' N' l1; (try k_lt l1); (try k_sweep))
    | (k_here; (with_reducible show wpAny _ _ (compareOp CmpOp.NotEq (Value.ref _) (Value.ref _)) _ _ _); k_dflt (refine' neNil ?hh9a ?hh9b ?hh9u ?_; (case hh9a => kmk_list); (case hh9b => kmk_list); (case hh9u => (first | exact roomA (by with_reducible assumption) (by decide) | exact roomAB (by with_reducible assumption) (by decide) | exact roomABC (by with_reducible assumption) (by decide) | exact room0 (by with_reducible assumption) (by rfl) | exact roomN 3 (by with_reducible assumption) (by rfl) (by decide) | exact roomN 6 (by with_reducible assumption) (by rfl) (by decide) | ktr_units))))
    | (k_here; (with_reducible show wpAny _ _ (compareOp CmpOp.NotEq (Value.ref _) (Value.ref _)) _ _ _); k_dflt (refine' neCons ?hh9a ?hh9b ?hh9u ?_; (case hh9a => kmk_list); (case hh9b => kmk_list); (case hh9u => (first | exact roomA (by with_reducible assumption) (by decide) | exact roomAB (by with_reducible assumption) (by decide) | exact roomABC (by with_reducible assumption) (by decide) | exact room0 (by with_reducible assumption) (by rfl) | exact roomN 3 (by with_reducible assumption) (by rfl) (by decide) | exact roomN 6 (by with_reducible assumption) (by rfl) (by decide) | ktr_units))))
    | (k_here; (with_reducible show wpAny _ _ (compareOp CmpOp.NotEq (Value.ref _) (Value.ref _)) _ _ _); k_dflt (refine' neEmpty ?hh9a ?hh9b ?hh9u ?_; (case hh9a => kmk_list); (case hh9b => kmk_list); (case hh9u => (first | exact roomA (by with_reducible assumption) (by decide) | exact roomAB (by with_reducible assumption) (by decide) | exact roomABC (by with_reducible assumption) (by decide) | exact room0 (by with_reducible assumption) (by rfl) | exact roomN 3 (by with_reducible assumption) (by rfl) (by decide) | exact roomN 6 (by with_reducible assumption) (by rfl) (by decide) | ktr_units))))
    | (k_here; (with_reducible show wpAny _ _ (compareOp CmpOp.Eq (Value.ref _) (Value.ref _)) _ _ _); k_dflt (refine' eqNil ?hh9a ?hh9b ?hh9u ?_; (case hh9a => kmk_list); (case hh9b => kmk_list); (case hh9u => (first | exact roomA (by with_reducible assumption) (by decide) | exact roomAB (by with_reducible assumption) (by decide) | exact roomABC (by with_reducible assumption) (by decide) | exact room0 (by with_reducible assumption) (by rfl) | exact roomN 3 (by with_reducible assumption) (by rfl) (by decide) | exact roomN 6 (by with_reducible assumption) (by rfl) (by decide) | ktr_units))))
    | (k_here; (with_reducible show wpAny _ _ (compareOp CmpOp.Eq (Value.ref _) (Value.ref _)) _ _ _); k_dflt (refine' eqSnoc ?hh9a ?hh9b ?hh9u ?_; (case hh9a => kmk_list); (case hh9b => kmk_list); (case hh9u => (first | exact roomA (by with_reducible assumption) (by decide) | exact roomAB (by with_reducible assumption) (by decide) | exact roomABC (by with_reducible assumption) (by decide) | exact room0 (by with_reducible assumption) (by rfl) | exact roomN 3 (by with_reducible assumption) (by rfl) (by decide) | exact roomN 6 (by with_reducible assumption) (by rfl) (by decide) | ktr_units))))
    | (k_here; (with_reducible show wpAny _ _ (compareOp CmpOp.Eq (Value.ref _) (Value.ref _)) _ _ _); k_dflt (refine' eqCons ?hh9a ?hh9b ?hh9u ?_; (case hh9a => kmk_list); (case hh9b => kmk_list); (case hh9u => (first | exact roomA (by with_reducible assumption) (by decide) | exact roomAB (by with_reducible assumption) (by decide) | exact roomABC (by with_reducible assumption) (by decide) | exact room0 (by with_reducible assumption) (by rfl) | exact roomN 3 (by with_reducible assumption) (by rfl) (by decide) | exact roomN 6 (by with_reducible assumption) (by rfl) (by decide) | ktr_units))))
    | (k_here; (with_reducible show wpAny _ _ (compareOp CmpOp.Eq (Value.ref _) (Value.ref _)) _ _ _); k_dflt (refine' eqEmpty ?hh9a ?hh9b ?hh9u ?_; (case hh9a => kmk_list); (case hh9b => kmk_list); (case hh9u => (first | exact roomA (by with_reducible assumption) (by decide) | exact roomAB (by with_reducible assumption) (by decide) | exact roomABC (by with_reducible assumption) (by decide) | exact room0 (by with_reducible assumption) (by rfl) | exact roomN 3 (by with_reducible assumption) (by rfl) (by decide) | exact roomN 6 (by with_reducible assumption) (by rfl) (by decide) | ktr_units))))
    | (k_here; (with_reducible show wpAny _ _ (binaryOp _ (Value.ref _) (Value.ref _)) _ _ _); k_dflt (refine' kmk_add_lit ?hh9F ?hh9N ?hh9a ?hh9b ?hh9e ?_ ?hh9z; (case hh9F => k_asm); (case hh9N => k_asm); (case hh9a => kmk_list); (case hh9b => kmk_list); (case hh9e => ((simp only [List.cons_append, List.nil_append]); exact rfl)); (case hh9z => (simp only [sizeLine_eq, List.length_cons, List.length_nil, List.length_append, List.length_drop, List.length_take]; omega))); intro D' h' F' N' l1; (try k_lt l1); (try k_sweep))
    | (k_end; wrow_close)
    | walk1
    | (dsimp only; walk1)
    | (leave1; walk_say "STEP leave1"; try dsimp only)
    | fail "no step")
  exact hret _ _ _ _ (by assumption) (by assumption) (by assumption)

set_option maxHeartbeats 8000000 in
theorem deedK5 (w : World) (r dr o : Addr) (lv : Value) (vs : List Value) (t1 t2 t3 : Tok) (most : Int) (tm tw tb : Tok) (beat : Int) (no : Nat) (rest : List (Addr × Obj)) {Post : List (Addr × Obj) → Value → Prop} (C : Ctr w 91 [.ref r] 3 30 ((dr, ringO w.params t1 t2 t3 most tm lv (.ref o)) :: (r, instObj 101 dr) :: (o, listOf vs.toArray no) :: rest) Post) :
    Ctr w 147 [.ref r, .int 5 tw, .int beat tb] 4 40 ((dr, ringO w.params t1 t2 t3 most tm lv (.ref o)) :: (r, instObj 101 dr) :: (o, listOf vs.toArray no) :: rest) Post := by
  unfold Ctr
  k_fill
  intro mean mg mb dp un gd cn cs a ccd cl outer A₀ base h₀ L m s R B F X N T hk hdp hu hret
  k_dflt cell_enter
  w_top off
  repeat' (first
    | (k_unfold; (try dsimp only))
    | (k_here; (with_reducible show wpAny _ _ (PySem.call (Value.ref _) []) _ _ _); k_dflt (refine' Ctr.meth C ?hh9hs ?hh9hq ?hh9B ?hh9F ?hh9X ?hh9N ?hh9T ?hh9hk ?hh9hd ?hh9hu ?_; (case hh9B => k_asm); (case hh9F => k_asm); (case hh9X => k_asm); (case hh9N => k_asm); (case hh9hs => (intro p hp; k_ownIn)); (case hh9hq => k_mem); (case hh9T => k_asm); (case hh9hk => first | exact rfl | assumption); (case hh9hd => (first | exact roomA (by with_reducible assumption) (by decide) | exact roomAB (by with_reducible assumption) (by decide) | exact roomABC (by with_reducible assumption) (by decide) | exact room0 (by with_reducible assumption) (by rfl) | exact roomN 1 (by with_reducible assumption) (by rfl) (by decide) | exact roomN 2 (by with_reducible assumption) (by rfl) (by decide) | exact roomN 3 (by with_reducible assumption) (by rfl) (by decide) | ktr_room)); (case hh9hu => (first | exact roomA (by with_reducible assumption) (by decide) | exact roomAB (by with_reducible assumption) (by decide) | exact roomABC (by with_reducible assumption) (by decide) | exact room0 (by with_reducible assumption) (by rfl) | exact roomN 3 (by with_reducible assumption) (by rfl) (by decide) | exact roomN 6 (by with_reducible assumption) (by rfl) (by decide) | ktr_units))); intro r9 nx9 h' tk' F' N' hP9; (try dsimp only))
    | (k_here; (with_reducible show wpAny _ _ (PySem.call (Value.ref 56) _ _) _ _ _); k_dflt ((refine' Ctr.use (rowsS _ _ _ _ lv hl _ _ _ _ _ _ _ ?hh9hr ?hh9hdr ?hh9ho) ?hh9B ?hh9F ?hh9X ?hh9N ?hh9T ?hh9hk ?hh9hd ?hh9hu ?_); (case hh9B => k_asm); (case hh9F => k_asm); (case hh9X => k_asm); (case hh9N => k_asm); (case hh9hr => k_mem); (case hh9hdr => k_mem); (case hh9ho => k_mem); (case hh9T => k_asm); (case hh9hk => first | exact rfl | assumption); (case hh9hd => (first | exact roomA (by with_reducible assumption) (by decide) | exact roomAB (by with_reducible assumption) (by decide) | exact roomABC (by with_reducible assumption) (by decide) | exact room0 (by with_reducible assumption) (by rfl) | exact roomN 1 (by with_reducible assumption) (by rfl) (by decide) | exact roomN 2 (by with_reducible assumption) (by rfl) (by decide) | exact roomN 3 (by with_reducible assumption) (by rfl) (by decide) | ktr_room)); (case hh9hu => (first | exact roomA (by with_reducible assumption) (by decide) | exact roomAB (by with_reducible assumption) (by decide) | exact roomABC (by with_reducible assumption) (by decide) | exact room0 (by with_reducible assumption) (by rfl) | exact roomN 3 (by with_reducible assumption) (by rfl) (by decide) | exact roomN 6 (by with_reducible assumption) (by rfl) (by decide) | ktr_units))); intro r9 nx9 h' tk' F' N' hP9; obtain ⟨q9, e9, e9'⟩ := hP9; subst e9; subst e9'; (try dsimp only); (try k_fold); (try k_sweep))
    | (k_here; (with_reducible show wpAny _ _ (PySem.call (Value.ref 70) _ _) _ _ _); k_dflt ((refine' Ctr.use (take0u _ _ _ _ _ _ _ _ _ _ _ _ _ _ ?hh9hU ?hh9hr ?hh9hq ?hh9hrd ?hh9hqd) ?hh9B ?hh9F ?hh9X ?hh9N ?hh9T ?hh9hk ?hh9hd ?hh9hu ?_); (case hh9B => k_asm); (case hh9F => k_asm); (case hh9X => k_asm); (case hh9N => k_asm); (case hh9hr => k_mem); (case hh9hq => k_mem); (case hh9hU => (intro D9; k_upd)); (case hh9hrd => (first | with_reducible assumption | exact Ne.symm (by with_reducible assumption) | k_ne)); (case hh9hqd => (first | with_reducible assumption | exact Ne.symm (by with_reducible assumption) | k_ne)); (case hh9T => k_asm); (case hh9hk => first | exact rfl | assumption); (case hh9hd => (first | exact roomA (by with_reducible assumption) (by decide) | exact roomAB (by with_reducible assumption) (by decide) | exact roomABC (by with_reducible assumption) (by decide) | exact room0 (by with_reducible assumption) (by rfl) | exact roomN 1 (by with_reducible assumption) (by rfl) (by decide) | exact roomN 2 (by with_reducible assumption) (by rfl) (by decide) | exact roomN 3 (by with_reducible assumption) (by rfl) (by decide) | ktr_room)); (case hh9hu => (first | exact roomA (by with_reducible assumption) (by decide) | exact roomAB (by with_reducible assumption) (by decide) | exact roomABC (by with_reducible assumption) (by decide) | exact room0 (by with_reducible assumption) (by rfl) | exact roomN 3 (by with_reducible assumption) (by rfl) (by decide) | exact roomN 6 (by with_reducible assumption) (by rfl) (by decide) | ktr_units))); intro r9 nx9 h' tk' F' N' hP9; obtain ⟨q9, e9, e9', l9⟩ := hP9; subst e9; subst e9'; (try dsimp only at N'); (try k_lt l9); (try dsimp only); (try k_fold); (try k_sweep))
    | (k_here; (with_reducible show wpAny _ _ (PySem.call (Value.ref 70) _ _) _ _ _); k_dflt ((refine' Ctr.use (take1u _ _ _ _ _ _ _ _ _ _ _ _ _ _ _ _ ?hh9hU ?hh9hr ?hh9hq ?hh9hz ?hh9hrd ?hh9hqd) ?hh9B ?hh9F ?hh9X ?hh9N ?hh9T ?hh9hk ?hh9hd ?hh9hu ?_); (case hh9B => k_asm); (case hh9F => k_asm); (case hh9X => k_asm); (case hh9N => k_asm); (case hh9hr => k_mem); (case hh9hq => k_mem); (case hh9hU => (intro D9; k_upd)); (case hh9hz => (simp only [List.length_cons, List.length_nil, List.length_append]; omega)); (case hh9hrd => (first | with_reducible assumption | exact Ne.symm (by with_reducible assumption) | k_ne)); (case hh9hqd => (first | with_reducible assumption | exact Ne.symm (by with_reducible assumption) | k_ne)); (case hh9T => k_asm); (case hh9hk => first | exact rfl | assumption); (case hh9hd => (first | exact roomA (by with_reducible assumption) (by decide) | exact roomAB (by with_reducible assumption) (by decide) | exact roomABC (by with_reducible assumption) (by decide) | exact room0 (by with_reducible assumption) (by rfl) | exact roomN 1 (by with_reducible assumption) (by rfl) (by decide) | exact roomN 2 (by with_reducible assumption) (by rfl) (by decide) | exact roomN 3 (by with_reducible assumption) (by rfl) (by decide) | ktr_room)); (case hh9hu => (first | exact roomA (by with_reducible assumption) (by decide) | exact roomAB (by with_reducible assumption) (by decide) | exact roomABC (by with_reducible assumption) (by decide) | exact room0 (by with_reducible assumption) (by rfl) | exact roomN 3 (by with_reducible assumption) (by rfl) (by decide) | exact roomN 6 (by with_reducible assumption) (by rfl) (by decide) | ktr_units))); intro r9 nx9 h' tk' F' N' hP9; obtain ⟨q9, e9, e9', l9⟩ := hP9; subst e9; subst e9'; (try dsimp only at N'); (try k_lt l9); (try dsimp only); (try k_fold); (try k_sweep))
    | (k_here; (with_reducible show wpAny _ _ (PySem.call (Value.ref 56) _ _) _ _ _); k_dflt ((refine' Ctr.use (rows0u _ _ _ _ _ _ _ _ _ _ ?hh9hr ?hh9hdr) ?hh9B ?hh9F ?hh9X ?hh9N ?hh9T ?hh9hk ?hh9hd ?hh9hu ?_); (case hh9B => k_asm); (case hh9F => k_asm); (case hh9X => k_asm); (case hh9N => k_asm); (case hh9hr => k_mem); (case hh9hdr => k_mem); (case hh9T => k_asm); (case hh9hk => first | exact rfl | assumption); (case hh9hd => (first | exact roomA (by with_reducible assumption) (by decide) | exact roomAB (by with_reducible assumption) (by decide) | exact roomABC (by with_reducible assumption) (by decide) | exact room0 (by with_reducible assumption) (by rfl) | exact roomN 1 (by with_reducible assumption) (by rfl) (by decide) | exact roomN 2 (by with_reducible assumption) (by rfl) (by decide) | exact roomN 3 (by with_reducible assumption) (by rfl) (by decide) | ktr_room)); (case hh9hu => (first | exact roomA (by with_reducible assumption) (by decide) | exact roomAB (by with_reducible assumption) (by decide) | exact roomABC (by with_reducible assumption) (by decide) | exact room0 (by with_reducible assumption) (by rfl) | exact roomN 3 (by with_reducible assumption) (by rfl) (by decide) | exact roomN 6 (by with_reducible assumption) (by rfl) (by decide) | ktr_units))); intro r9 nx9 h' tk' F' N' hP9; obtain ⟨e9, e9'⟩ := hP9; subst e9; subst e9'; (try dsimp only); (try k_fold); (try k_sweep))
    | (k_here; (with_reducible show wpAny _ _ (PySem.call (Value.ref 56) _ _) _ _ _); k_dflt ((refine' Ctr.use (rows1u _ _ _ _ _ _ _ _ _ _ _ _ _ ?hh9hr ?hh9hdr ?hh9ho ?hh9hz) ?hh9B ?hh9F ?hh9X ?hh9N ?hh9T ?hh9hk ?hh9hd ?hh9hu ?_); (case hh9B => k_asm); (case hh9F => k_asm); (case hh9X => k_asm); (case hh9N => k_asm); (case hh9hr => k_mem); (case hh9hdr => k_mem); (case hh9ho => k_mem); (case hh9hz => (simp only [List.length_cons, List.length_nil, List.length_append]; omega)); (case hh9T => k_asm); (case hh9hk => first | exact rfl | assumption); (case hh9hd => (first | exact roomA (by with_reducible assumption) (by decide) | exact roomAB (by with_reducible assumption) (by decide) | exact roomABC (by with_reducible assumption) (by decide) | exact room0 (by with_reducible assumption) (by rfl) | exact roomN 1 (by with_reducible assumption) (by rfl) (by decide) | exact roomN 2 (by with_reducible assumption) (by rfl) (by decide) | exact roomN 3 (by with_reducible assumption) (by rfl) (by decide) | ktr_room)); (case hh9hu => (first | exact roomA (by with_reducible assumption) (by decide) | exact roomAB (by with_reducible assumption) (by decide) | exact roomABC (by with_reducible assumption) (by decide) | exact room0 (by with_reducible assumption) (by rfl) | exact roomN 3 (by with_reducible assumption) (by rfl) (by decide) | exact roomN 6 (by with_reducible assumption) (by rfl) (by decide) | ktr_units))); intro r9 nx9 h' tk' F' N' hP9; obtain ⟨q9, e9, e9', l9⟩ := hP9; subst e9; subst e9'; (try k_lt l9); (try dsimp only); (try k_fold); (try k_sweep))
    | (k_here; (with_reducible show wpAny _ _ (subscriptTail _ (PySem.Expr.Slice _ _ none _) (Value.ref _) (Value.ref _)) _ _ _); k_dflt (refine' kms_slice_lit ?hh9F ?hh9N ?hh9l ?hh9p ?hh9q ?hh9e ?_ ?hh9s ?hh9t ?hh9z; (case hh9F => k_asm); (case hh9N => k_asm); (case hh9l => kmk_list); (case hh9p => kmk_part); (case hh9q => kmk_part); (case hh9e => first | exact pickNil _ _ | exact pick1c _ _ | exact pick2c _ _ _ | exact pickT1c _ _ | exact pickLast3 _ _ _ | exact pickBut3 _ _ _ | exact pickLast2 _ _ | exact pickBut2 _ _ | exact pick1 _ | exact pick2 _ | exact pickLast _ | exact pickBut _ | exact pickTo _ _ (by omega)); (case hh9s => with_unfolding_all rfl); (case hh9t => kmk_pure); (case hh9z => (simp only [sizeLine_eq, List.size_toArray, List.length_cons, List.length_nil, List.length_append, List.length_drop, List.length_take]; omega))); intro D' h' F' N' l1; (try k_lt l1); (try k_sweep))
    | (k_here; (with_reducible show wpAny _ _ (compareOp CmpOp.NotEq (Value.ref _) (Value.ref _)) _ _ _); k_dflt (refine' neNil ?hh9a ?hh9b ?hh9u ?_; (case hh9a => kmk_list); (case hh9b => kmk_list); (case hh9u => (first | exact roomA (by with_reducible assumption) (by decide) | exact roomAB (by with_reducible assumption) (by decide) | exact roomABC (by with_reducible assumption) (by decide) | exact room0 (by with_reducible assumption) (by rfl) | exact roomN 3 (by with_reducible assumption) (by rfl) (by decide) | exact roomN 6 (by with_reducible assumption) (by rfl) (by decide) | ktr_units))))
    | (k_here; (with_reducible show wpAny _ _ (compareOp CmpOp.NotEq (Value.ref _) (Value.ref _)) _ _ _); k_dflt (refine' neCons ?hh9a ?hh9b ?hh9u ?_; (case hh9a => kmk_list); (case hh9b => kmk_list); (case hh9u => (first | exact roomA (by with_reducible assumption) (by decide) | exact roomAB (by with_reducible assumption) (by decide) | exact roomABC (by with_reducible assumption) (by decide) | exact room0 (by with_reducible assumption) (by rfl) | exact roomN 3 (by with_reducible assumption) (by rfl) (by decide) | exact roomN 6 (by with_reducible assumption) (by rfl) (by decide) | ktr_units))))
    | (k_here; (with_reducible show wpAny _ _ (compareOp CmpOp.NotEq (Value.ref _) (Value.ref _)) _ _ _); k_dflt (refine' neEmpty ?hh9a ?hh9b ?hh9u ?_; (case hh9a => kmk_list); (case hh9b => kmk_list); (case hh9u => (first | exact roomA (by with_reducible assumption) (by decide) | exact roomAB (by with_reducible assumption) (by decide) | exact roomABC (by with_reducible assumption) (by decide) | exact room0 (by with_reducible assumption) (by rfl) | exact roomN 3 (by with_reducible assumption) (by rfl) (by decide) | exact roomN 6 (by with_reducible assumption) (by rfl) (by decide) | ktr_units))))
    | (k_here; (with_reducible show wpAny _ _ (compareOp CmpOp.Eq (Value.ref _) (Value.ref _)) _ _ _); k_dflt (refine' eqNil ?hh9a ?hh9b ?hh9u ?_; (case hh9a => kmk_list); (case hh9b => kmk_list); (case hh9u => (first | exact roomA (by with_reducible assumption) (by decide) | exact roomAB (by with_reducible assumption) (by decide) | exact roomABC (by with_reducible assumption) (by decide) | exact room0 (by with_reducible assumption) (by rfl) | exact roomN 3 (by with_reducible assumption) (by rfl) (by decide) | exact roomN 6 (by with_reducible assumption) (by rfl) (by decide) | ktr_units))))
    | (k_here; (with_reducible show wpAny _ _ (compareOp CmpOp.Eq (Value.ref _) (Value.ref _)) _ _ _); k_dflt (refine' eqSnoc ?hh9a ?hh9b ?hh9u ?_; (case hh9a => kmk_list); (case hh9b => kmk_list); (case hh9u => (first | exact roomA (by with_reducible assumption) (by decide) | exact roomAB (by with_reducible assumption) (by decide) | exact roomABC (by with_reducible assumption) (by decide) | exact room0 (by with_reducible assumption) (by rfl) | exact roomN 3 (by with_reducible assumption) (by rfl) (by decide) | exact roomN 6 (by with_reducible assumption) (by rfl) (by decide) | ktr_units))))
    | (k_here; (with_reducible show wpAny _ _ (compareOp CmpOp.Eq (Value.ref _) (Value.ref _)) _ _ _); k_dflt (refine' eqCons ?hh9a ?hh9b ?hh9u ?_; (case hh9a => kmk_list); (case hh9b => kmk_list); (case hh9u => (first | exact roomA (by with_reducible assumption) (by decide) | exact roomAB (by with_reducible assumption) (by decide) | exact roomABC (by with_reducible assumption) (by decide) | exact room0 (by with_reducible assumption) (by rfl) | exact roomN 3 (by with_reducible assumption) (by rfl) (by decide) | exact roomN 6 (by with_reducible assumption) (by rfl) (by decide) | ktr_units))))
    | (k_here; (with_reducible show wpAny _ _ (compareOp CmpOp.Eq (Value.ref _) (Value.ref _)) _ _ _); k_dflt (refine' eqEmpty ?hh9a ?hh9b ?hh9u ?_; (case hh9a => kmk_list); (case hh9b => kmk_list); (case hh9u => (first | exact roomA (by with_reducible assumption) (by decide) | exact roomAB (by with_reducible assumption) (by decide) | exact roomABC (by with_reducible assumption) (by decide) | exact room0 (by with_reducible assumption) (by rfl) | exact roomN 3 (by with_reducible assumption) (by rfl) (by decide) | exact roomN 6 (by with_reducible assumption) (by rfl) (by decide) | ktr_units))))
    | (k_here; (with_reducible show wpAny _ _ (binaryOp _ (Value.ref _) (Value.ref _)) _ _ _); k_dflt (refine' kmk_add_lit ?hh9F ?hh9N ?hh9a ?hh9b ?hh9e ?_ ?hh9z; (case hh9F => k_asm); (case hh9N => k_asm); (case hh9a => kmk_list); (case hh9b => kmk_list); (case hh9e => ((simp only [List.cons_append, List.nil_append]); exact rfl)); (case hh9z => (simp only [sizeLine_eq, List.length_cons, List.length_nil, List.length_append, List.length_drop, List.length_take]; omega))); intro D' h' F' N' l1; (try k_lt l1); (try k_sweep))
    | (k_end; wrow_close)
    | walk1
    | (dsimp only; walk1)
    | (leave1; walk_say "STEP leave1"; try dsimp only)
    | fail "no step")
  exact hret _ _ _ _ (by assumption) (by assumption) (by assumption)

set_option maxHeartbeats 8000000 in
theorem deedK6 (w : World) (r dr o : Addr) (lv : Value) (vs : List Value) (t1 t2 t3 : Tok) (most : Int) (tm tw tb : Tok) (beat : Int) (no : Nat) (rest : List (Addr × Obj)) {Post : List (Addr × Obj) → Value → Prop} (C : Ctr w 98 [.ref r] 3 30 ((dr, ringO w.params t1 t2 t3 most tm lv (.ref o)) :: (r, instObj 101 dr) :: (o, listOf vs.toArray no) :: rest) Post) :
    Ctr w 147 [.ref r, .int 6 tw, .int beat tb] 4 40 ((dr, ringO w.params t1 t2 t3 most tm lv (.ref o)) :: (r, instObj 101 dr) :: (o, listOf vs.toArray no) :: rest) Post := by
  unfold Ctr
  k_fill
  intro mean mg mb dp un gd cn cs a ccd cl outer A₀ base h₀ L m s R B F X N T hk hdp hu hret
  k_dflt cell_enter
  w_top off
  repeat' (first
    | (k_unfold; (try dsimp only))
    | (k_here; (with_reducible show wpAny _ _ (PySem.call (Value.ref _) []) _ _ _); k_dflt (refine' Ctr.meth C ?hh9hs ?hh9hq ?hh9B ?hh9F ?hh9X ?hh9N ?hh9T ?hh9hk ?hh9hd ?hh9hu ?_; (case hh9B => k_asm); (case hh9F => k_asm); (case hh9X => k_asm); (case hh9N => k_asm); (case hh9hs => (intro p hp; k_ownIn)); (case hh9hq => k_mem); (case hh9T => k_asm); (case hh9hk => first | exact rfl | assumption); (case hh9hd => (first | exact roomA (by with_reducible assumption) (by decide) | exact roomAB (by with_reducible assumption) (by decide) | exact roomABC (by with_reducible assumption) (by decide) | exact room0 (by with_reducible assumption) (by rfl) | exact roomN 1 (by with_reducible assumption) (by rfl) (by decide) | exact roomN 2 (by with_reducible assumption) (by rfl) (by decide) | exact roomN 3 (by with_reducible assumption) (by rfl) (by decide) | ktr_room)); (case hh9hu => (first | exact roomA (by with_reducible assumption) (by decide) | exact roomAB (by with_reducible assumption) (by decide) | exact roomABC (by with_reducible assumption) (by decide) | exact room0 (by with_reducible assumption) (by rfl) | exact roomN 3 (by with_reducible assumption) (by rfl) (by decide) | exact roomN 6 (by with_reducible assumption) (by rfl) (by decide) | ktr_units))); intro r9 nx9 h' tk' F' N' hP9; (try dsimp only))
    | (k_here; (with_reducible show wpAny _ _ (PySem.call (Value.ref 56) _ _) _ _ _); k_dflt ((refine' Ctr.use (rowsS _ _ _ _ lv hl _ _ _ _ _ _ _ ?hh9hr ?hh9hdr ?hh9ho) ?hh9B ?hh9F ?hh9X ?hh9N ?hh9T ?hh9hk ?hh9hd ?hh9hu ?_); (case hh9B => k_asm); (case hh9F => k_asm); (case hh9X => k_asm); (case hh9N => k_asm); (case hh9hr => k_mem); (case hh9hdr => k_mem); (case hh9ho => k_mem); (case hh9T => k_asm); (case hh9hk => first | exact rfl | assumption); (case hh9hd => (first | exact roomA (by with_reducible assumption) (by decide) | exact roomAB (by with_reducible assumption) (by decide) | exact roomABC (by with_reducible assumption) (by decide) | exact room0 (by with_reducible assumption) (by rfl) | exact roomN 1 (by with_reducible assumption) (by rfl) (by decide) | exact roomN 2 (by with_reducible assumption) (by rfl) (by decide) | exact roomN 3 (by with_reducible assumption) (by rfl) (by decide) | ktr_room)); (case hh9hu => (first | exact roomA (by with_reducible assumption) (by decide) | exact roomAB (by with_reducible assumption) (by decide) | exact roomABC (by with_reducible assumption) (by decide) | exact room0 (by with_reducible assumption) (by rfl) | exact roomN 3 (by with_reducible assumption) (by rfl) (by decide) | exact roomN 6 (by with_reducible assumption) (by rfl) (by decide) | ktr_units))); intro r9 nx9 h' tk' F' N' hP9; obtain ⟨q9, e9, e9'⟩ := hP9; subst e9; subst e9'; (try dsimp only); (try k_fold); (try k_sweep))
    | (k_here; (with_reducible show wpAny _ _ (PySem.call (Value.ref 70) _ _) _ _ _); k_dflt ((refine' Ctr.use (take0u _ _ _ _ _ _ _ _ _ _ _ _ _ _ ?hh9hU ?hh9hr ?hh9hq ?hh9hrd ?hh9hqd) ?hh9B ?hh9F ?hh9X ?hh9N ?hh9T ?hh9hk ?hh9hd ?hh9hu ?_); (case hh9B => k_asm); (case hh9F => k_asm); (case hh9X => k_asm); (case hh9N => k_asm); (case hh9hr => k_mem); (case hh9hq => k_mem); (case hh9hU => (intro D9; k_upd)); (case hh9hrd => (first | with_reducible assumption | exact Ne.symm (by with_reducible assumption) | k_ne)); (case hh9hqd => (first | with_reducible assumption | exact Ne.symm (by with_reducible assumption) | k_ne)); (case hh9T => k_asm); (case hh9hk => first | exact rfl | assumption); (case hh9hd => (first | exact roomA (by with_reducible assumption) (by decide) | exact roomAB (by with_reducible assumption) (by decide) | exact roomABC (by with_reducible assumption) (by decide) | exact room0 (by with_reducible assumption) (by rfl) | exact roomN 1 (by with_reducible assumption) (by rfl) (by decide) | exact roomN 2 (by with_reducible assumption) (by rfl) (by decide) | exact roomN 3 (by with_reducible assumption) (by rfl) (by decide) | ktr_room)); (case hh9hu => (first | exact roomA (by with_reducible assumption) (by decide) | exact roomAB (by with_reducible assumption) (by decide) | exact roomABC (by with_reducible assumption) (by decide) | exact room0 (by with_reducible assumption) (by rfl) | exact roomN 3 (by with_reducible assumption) (by rfl) (by decide) | exact roomN 6 (by with_reducible assumption) (by rfl) (by decide) | ktr_units))); intro r9 nx9 h' tk' F' N' hP9; obtain ⟨q9, e9, e9', l9⟩ := hP9; subst e9; subst e9'; (try dsimp only at N'); (try k_lt l9); (try dsimp only); (try k_fold); (try k_sweep))
    | (k_here; (with_reducible show wpAny _ _ (PySem.call (Value.ref 70) _ _) _ _ _); k_dflt ((refine' Ctr.use (take1u _ _ _ _ _ _ _ _ _ _ _ _ _ _ _ _ ?hh9hU ?hh9hr ?hh9hq ?hh9hz ?hh9hrd ?hh9hqd) ?hh9B ?hh9F ?hh9X ?hh9N ?hh9T ?hh9hk ?hh9hd ?hh9hu ?_); (case hh9B => k_asm); (case hh9F => k_asm); (case hh9X => k_asm); (case hh9N => k_asm); (case hh9hr => k_mem); (case hh9hq => k_mem); (case hh9hU => (intro D9; k_upd)); (case hh9hz => (simp only [List.length_cons, List.length_nil, List.length_append]; omega)); (case hh9hrd => (first | with_reducible assumption | exact Ne.symm (by with_reducible assumption) | k_ne)); (case hh9hqd => (first | with_reducible assumption | exact Ne.symm (by with_reducible assumption) | k_ne)); (case hh9T => k_asm); (case hh9hk => first | exact rfl | assumption); (case hh9hd => (first | exact roomA (by with_reducible assumption) (by decide) | exact roomAB (by with_reducible assumption) (by decide) | exact roomABC (by with_reducible assumption) (by decide) | exact room0 (by with_reducible assumption) (by rfl) | exact roomN 1 (by with_reducible assumption) (by rfl) (by decide) | exact roomN 2 (by with_reducible assumption) (by rfl) (by decide) | exact roomN 3 (by with_reducible assumption) (by rfl) (by decide) | ktr_room)); (case hh9hu => (first | exact roomA (by with_reducible assumption) (by decide) | exact roomAB (by with_reducible assumption) (by decide) | exact roomABC (by with_reducible assumption) (by decide) | exact room0 (by with_reducible assumption) (by rfl) | exact roomN 3 (by with_reducible assumption) (by rfl) (by decide) | exact roomN 6 (by with_reducible assumption) (by rfl) (by decide) | ktr_units))); intro r9 nx9 h' tk' F' N' hP9; obtain ⟨q9, e9, e9', l9⟩ := hP9; subst e9; subst e9'; (try dsimp only at N'); (try k_lt l9); (try dsimp only); (try k_fold); (try k_sweep))
    | (k_here; (with_reducible show wpAny _ _ (PySem.call (Value.ref 56) _ _) _ _ _); k_dflt ((refine' Ctr.use (rows0u _ _ _ _ _ _ _ _ _ _ ?hh9hr ?hh9hdr) ?hh9B ?hh9F ?hh9X ?hh9N ?hh9T ?hh9hk ?hh9hd ?hh9hu ?_); (case hh9B => k_asm); (case hh9F => k_asm); (case hh9X => k_asm); (case hh9N => k_asm); (case hh9hr => k_mem); (case hh9hdr => k_mem); (case hh9T => k_asm); (case hh9hk => first | exact rfl | assumption); (case hh9hd => (first | exact roomA (by with_reducible assumption) (by decide) | exact roomAB (by with_reducible assumption) (by decide) | exact roomABC (by with_reducible assumption) (by decide) | exact room0 (by with_reducible assumption) (by rfl) | exact roomN 1 (by with_reducible assumption) (by rfl) (by decide) | exact roomN 2 (by with_reducible assumption) (by rfl) (by decide) | exact roomN 3 (by with_reducible assumption) (by rfl) (by decide) | ktr_room)); (case hh9hu => (first | exact roomA (by with_reducible assumption) (by decide) | exact roomAB (by with_reducible assumption) (by decide) | exact roomABC (by with_reducible assumption) (by decide) | exact room0 (by with_reducible assumption) (by rfl) | exact roomN 3 (by with_reducible assumption) (by rfl) (by decide) | exact roomN 6 (by with_reducible assumption) (by rfl) (by decide) | ktr_units))); intro r9 nx9 h' tk' F' N' hP9; obtain ⟨e9, e9'⟩ := hP9; subst e9; subst e9'; (try dsimp only); (try k_fold); (try k_sweep))
    | (k_here; (with_reducible show wpAny _ _ (PySem.call (Value.ref 56) _ _) _ _ _); k_dflt ((refine' Ctr.use (rows1u _ _ _ _ _ _ _ _ _ _ _ _ _ ?hh9hr ?hh9hdr ?hh9ho ?hh9hz) ?hh9B ?hh9F ?hh9X ?hh9N ?hh9T ?hh9hk ?hh9hd ?hh9hu ?_); (case hh9B => k_asm); (case hh9F => k_asm); (case hh9X => k_asm); (case hh9N => k_asm); (case hh9hr => k_mem); (case hh9hdr => k_mem); (case hh9ho => k_mem); (case hh9hz => (simp only [List.length_cons, List.length_nil, List.length_append]; omega)); (case hh9T => k_asm); (case hh9hk => first | exact rfl | assumption); (case hh9hd => (first | exact roomA (by with_reducible assumption) (by decide) | exact roomAB (by with_reducible assumption) (by decide) | exact roomABC (by with_reducible assumption) (by decide) | exact room0 (by with_reducible assumption) (by rfl) | exact roomN 1 (by with_reducible assumption) (by rfl) (by decide) | exact roomN 2 (by with_reducible assumption) (by rfl) (by decide) | exact roomN 3 (by with_reducible assumption) (by rfl) (by decide) | ktr_room)); (case hh9hu => (first | exact roomA (by with_reducible assumption) (by decide) | exact roomAB (by with_reducible assumption) (by decide) | exact roomABC (by with_reducible assumption) (by decide) | exact room0 (by with_reducible assumption) (by rfl) | exact roomN 3 (by with_reducible assumption) (by rfl) (by decide) | exact roomN 6 (by with_reducible assumption) (by rfl) (by decide) | ktr_units))); intro r9 nx9 h' tk' F' N' hP9; obtain ⟨q9, e9, e9', l9⟩ := hP9; subst e9; subst e9'; (try k_lt l9); (try dsimp only); (try k_fold); (try k_sweep))
    | (k_here; (with_reducible show wpAny _ _ (subscriptTail _ (PySem.Expr.Slice _ _ none _) (Value.ref _) (Value.ref _)) _ _ _); k_dflt (refine' kms_slice_lit ?hh9F ?hh9N ?hh9l ?hh9p ?hh9q ?hh9e ?_ ?hh9s ?hh9t ?hh9z; (case hh9F => k_asm); (case hh9N => k_asm); (case hh9l => kmk_list); (case hh9p => kmk_part); (case hh9q => kmk_part); (case hh9e => first | exact pickNil _ _ | exact pick1c _ _ | exact pick2c _ _ _ | exact pickT1c _ _ | exact pickLast3 _ _ _ | exact pickBut3 _ _ _ | exact pickLast2 _ _ | exact pickBut2 _ _ | exact pick1 _ | exact pick2 _ | exact pickLast _ | exact pickBut _ | exact pickTo _ _ (by omega)); (case hh9s => with_unfolding_all rfl); (case hh9t => kmk_pure); (case hh9z => (simp only [sizeLine_eq, List.size_toArray, List.length_cons, List.length_nil, List.length_append, List.length_drop, List.length_take]; omega))); intro D' h' F' N' l1; (try k_lt l1); (try k_sweep))
    | (k_here; (with_reducible show wpAny _ _ (compareOp CmpOp.NotEq (Value.ref _) (Value.ref _)) _ _ _); k_dflt (refine' neNil ?hh9a ?hh9b ?hh9u ?_; (case hh9a => kmk_list); (case hh9b => kmk_list); (case hh9u => (first | exact roomA (by with_reducible assumption) (by decide) | exact roomAB (by with_reducible assumption) (by decide) | exact roomABC (by with_reducible assumption) (by decide) | exact room0 (by with_reducible assumption) (by rfl) | exact roomN 3 (by with_reducible assumption) (by rfl) (by decide) | exact roomN 6 (by with_reducible assumption) (by rfl) (by decide) | ktr_units))))
    | (k_here; (with_reducible show wpAny _ _ (compareOp CmpOp.NotEq (Value.ref _) (Value.ref _)) _ _ _); k_dflt (refine' neCons ?hh9a ?hh9b ?hh9u ?_; (case hh9a => kmk_list); (case hh9b => kmk_list); (case hh9u => (first | exact roomA (by with_reducible assumption) (by decide) | exact roomAB (by with_reducible assumption) (by decide) | exact roomABC (by with_reducible assumption) (by decide) | exact room0 (by with_reducible assumption) (by rfl) | exact roomN 3 (by with_reducible assumption) (by rfl) (by decide) | exact roomN 6 (by with_reducible assumption) (by rfl) (by decide) | ktr_units))))
    | (k_here; (with_reducible show wpAny _ _ (compareOp CmpOp.NotEq (Value.ref _) (Value.ref _)) _ _ _); k_dflt (refine' neEmpty ?hh9a ?hh9b ?hh9u ?_; (case hh9a => kmk_list); (case hh9b => kmk_list); (case hh9u => (first | exact roomA (by with_reducible assumption) (by decide) | exact roomAB (by with_reducible assumption) (by decide) | exact roomABC (by with_reducible assumption) (by decide) | exact room0 (by with_reducible assumption) (by rfl) | exact roomN 3 (by with_reducible assumption) (by rfl) (by decide) | exact roomN 6 (by with_reducible assumption) (by rfl) (by decide) | ktr_units))))
    | (k_here; (with_reducible show wpAny _ _ (compareOp CmpOp.Eq (Value.ref _) (Value.ref _)) _ _ _); k_dflt (refine' eqNil ?hh9a ?hh9b ?hh9u ?_; (case hh9a => kmk_list); (case hh9b => kmk_list); (case hh9u => (first | exact roomA (by with_reducible assumption) (by decide) | exact roomAB (by with_reducible assumption) (by decide) | exact roomABC (by with_reducible assumption) (by decide) | exact room0 (by with_reducible assumption) (by rfl) | exact roomN 3 (by with_reducible assumption) (by rfl) (by decide) | exact roomN 6 (by with_reducible assumption) (by rfl) (by decide) | ktr_units))))
    | (k_here; (with_reducible show wpAny _ _ (compareOp CmpOp.Eq (Value.ref _) (Value.ref _)) _ _ _); k_dflt (refine' eqSnoc ?hh9a ?hh9b ?hh9u ?_; (case hh9a => kmk_list); (case hh9b => kmk_list); (case hh9u => (first | exact roomA (by with_reducible assumption) (by decide) | exact roomAB (by with_reducible assumption) (by decide) | exact roomABC (by with_reducible assumption) (by decide) | exact room0 (by with_reducible assumption) (by rfl) | exact roomN 3 (by with_reducible assumption) (by rfl) (by decide) | exact roomN 6 (by with_reducible assumption) (by rfl) (by decide) | ktr_units))))
    | (k_here; (with_reducible show wpAny _ _ (compareOp CmpOp.Eq (Value.ref _) (Value.ref _)) _ _ _); k_dflt (refine' eqCons ?hh9a ?hh9b ?hh9u ?_; (case hh9a => kmk_list); (case hh9b => kmk_list); (case hh9u => (first | exact roomA (by with_reducible assumption) (by decide) | exact roomAB (by with_reducible assumption) (by decide) | exact roomABC (by with_reducible assumption) (by decide) | exact room0 (by with_reducible assumption) (by rfl) | exact roomN 3 (by with_reducible assumption) (by rfl) (by decide) | exact roomN 6 (by with_reducible assumption) (by rfl) (by decide) | ktr_units))))
    | (k_here; (with_reducible show wpAny _ _ (compareOp CmpOp.Eq (Value.ref _) (Value.ref _)) _ _ _); k_dflt (refine' eqEmpty ?hh9a ?hh9b ?hh9u ?_; (case hh9a => kmk_list); (case hh9b => kmk_list); (case hh9u => (first | exact roomA (by with_reducible assumption) (by decide) | exact roomAB (by with_reducible assumption) (by decide) | exact roomABC (by with_reducible assumption) (by decide) | exact room0 (by with_reducible assumption) (by rfl) | exact roomN 3 (by with_reducible assumption) (by rfl) (by decide) | exact roomN 6 (by with_reducible assumption) (by rfl) (by decide) | ktr_units))))
    | (k_here; (with_reducible show wpAny _ _ (binaryOp _ (Value.ref _) (Value.ref _)) _ _ _); k_dflt (refine' kmk_add_lit ?hh9F ?hh9N ?hh9a ?hh9b ?hh9e ?_ ?hh9z; (case hh9F => k_asm); (case hh9N => k_asm); (case hh9a => kmk_list); (case hh9b => kmk_list); (case hh9e => ((simp only [List.cons_append, List.nil_append]); exact rfl)); (case hh9z => (simp only [sizeLine_eq, List.length_cons, List.length_nil, List.length_append, List.length_drop, List.length_take]; omega))); intro D' h' F' N' l1; (try k_lt l1); (try k_sweep))
    | (k_end; wrow_close)
    | walk1
    | (dsimp only; walk1)
    | (leave1; walk_say "STEP leave1"; try dsimp only)
    | fail "no step")
  exact hret _ _ _ _ (by assumption) (by assumption) (by assumption)

theorem deed3e (w : World) (r dr o : Addr)  (t1 t2 t3 : Tok) (most : Int) (tm tw tb : Tok) (beat : Int) (no : Nat) (rest : List (Addr × Obj))  (hrd : r ≠ dr) (ho : o ≠ dr) (hrest : ∀ p ∈ rest, p.1 ≠ dr) :
    Ctr w 147 [.ref r, .int 3 tw, .int beat tb] 4 40 ((dr, ringO w.params t1 t2 t3 most tm (.none) (.ref o)) :: (r, instObj 101 dr) :: (o, listOf (List.toArray ([])) no) :: rest)
      (fun nx r' => (∀ p ∈ (dr, ringO w.params t1 t2 t3 most tm (.none) (.ref o)) :: (r, instObj 101 dr) :: (o, listOf (List.toArray ([])) no) :: rest, p ∈ nx) ∧ r' = .bool false) :=
  deedK3 w r dr o _ _ t1 t2 t3 most tm tw tb beat no rest (meth3S w r dr o _ (.inl rfl) t1 t2 t3 most tm no rest hrd ho hrest)
theorem deed3s (w : World) (r dr o : Addr) (x : Addr) (t1 t2 t3 : Tok) (most : Int) (tm tw tb : Tok) (beat : Int) (no : Nat) (rest : List (Addr × Obj))  (hrd : r ≠ dr) (ho : o ≠ dr) (hrest : ∀ p ∈ rest, p.1 ≠ dr) :
    Ctr w 147 [.ref r, .int 3 tw, .int beat tb] 4 40 ((dr, ringO w.params t1 t2 t3 most tm (.ref x) (.ref o)) :: (r, instObj 101 dr) :: (o, listOf (List.toArray ([])) no) :: rest)
      (fun nx r' => (∀ p ∈ (dr, ringO w.params t1 t2 t3 most tm (.ref x) (.ref o)) :: (r, instObj 101 dr) :: (o, listOf (List.toArray ([])) no) :: rest, p ∈ nx) ∧ r' = .bool false) :=
  deedK3 w r dr o _ _ t1 t2 t3 most tm tw tb beat no rest (meth3S w r dr o _ (.inr ⟨x, rfl⟩) t1 t2 t3 most tm no rest hrd ho hrest)
theorem deed4e (w : World) (r dr o : Addr)  (t1 t2 t3 : Tok) (most : Int) (tm tw tb : Tok) (beat : Int) (no : Nat) (rest : List (Addr × Obj))  (hrd : r ≠ dr) (ho : o ≠ dr) (hrest : ∀ p ∈ rest, p.1 ≠ dr) :
    Ctr w 147 [.ref r, .int 4 tw, .int beat tb] 4 40 ((dr, ringO w.params t1 t2 t3 most tm (.none) (.ref o)) :: (r, instObj 101 dr) :: (o, listOf (List.toArray ([])) no) :: rest)
      (fun nx r' => (∀ p ∈ (dr, ringO w.params t1 t2 t3 most tm (.none) (.ref o)) :: (r, instObj 101 dr) :: (o, listOf (List.toArray ([])) no) :: rest, p ∈ nx) ∧ r' = .bool false) :=
  deedK4 w r dr o _ _ t1 t2 t3 most tm tw tb beat no rest (meth4S w r dr o _ (.inl rfl) t1 t2 t3 most tm no rest hrd ho hrest)
theorem deed4s (w : World) (r dr o : Addr) (x : Addr) (t1 t2 t3 : Tok) (most : Int) (tm tw tb : Tok) (beat : Int) (no : Nat) (rest : List (Addr × Obj))  (hrd : r ≠ dr) (ho : o ≠ dr) (hrest : ∀ p ∈ rest, p.1 ≠ dr) :
    Ctr w 147 [.ref r, .int 4 tw, .int beat tb] 4 40 ((dr, ringO w.params t1 t2 t3 most tm (.ref x) (.ref o)) :: (r, instObj 101 dr) :: (o, listOf (List.toArray ([])) no) :: rest)
      (fun nx r' => (∀ p ∈ (dr, ringO w.params t1 t2 t3 most tm (.ref x) (.ref o)) :: (r, instObj 101 dr) :: (o, listOf (List.toArray ([])) no) :: rest, p ∈ nx) ∧ r' = .bool false) :=
  deedK4 w r dr o _ _ t1 t2 t3 most tm tw tb beat no rest (meth4S w r dr o _ (.inr ⟨x, rfl⟩) t1 t2 t3 most tm no rest hrd ho hrest)
theorem deed5e (w : World) (r dr o : Addr)  (t1 t2 t3 : Tok) (most : Int) (tm tw tb : Tok) (beat : Int) (no : Nat) (rest : List (Addr × Obj))  (hrd : r ≠ dr) (ho : o ≠ dr) (hrest : ∀ p ∈ rest, p.1 ≠ dr) :
    Ctr w 147 [.ref r, .int 5 tw, .int beat tb] 4 40 ((dr, ringO w.params t1 t2 t3 most tm (.none) (.ref o)) :: (r, instObj 101 dr) :: (o, listOf (List.toArray ([])) no) :: rest)
      (fun nx r' => (∀ p ∈ (dr, ringO w.params t1 t2 t3 most tm (.none) (.ref o)) :: (r, instObj 101 dr) :: (o, listOf (List.toArray ([])) no) :: rest, p ∈ nx) ∧ r' = .bool false) :=
  deedK5 w r dr o _ _ t1 t2 t3 most tm tw tb beat no rest (meth5S w r dr o _ (.inl rfl) t1 t2 t3 most tm no rest hrd ho hrest)
theorem deed5s (w : World) (r dr o : Addr) (x : Addr) (t1 t2 t3 : Tok) (most : Int) (tm tw tb : Tok) (beat : Int) (no : Nat) (rest : List (Addr × Obj))  (hrd : r ≠ dr) (ho : o ≠ dr) (hrest : ∀ p ∈ rest, p.1 ≠ dr) :
    Ctr w 147 [.ref r, .int 5 tw, .int beat tb] 4 40 ((dr, ringO w.params t1 t2 t3 most tm (.ref x) (.ref o)) :: (r, instObj 101 dr) :: (o, listOf (List.toArray ([])) no) :: rest)
      (fun nx r' => (∀ p ∈ (dr, ringO w.params t1 t2 t3 most tm (.ref x) (.ref o)) :: (r, instObj 101 dr) :: (o, listOf (List.toArray ([])) no) :: rest, p ∈ nx) ∧ r' = .bool false) :=
  deedK5 w r dr o _ _ t1 t2 t3 most tm tw tb beat no rest (meth5S w r dr o _ (.inr ⟨x, rfl⟩) t1 t2 t3 most tm no rest hrd ho hrest)
theorem deed3m (w : World) (r dr o : Addr) (x : Addr) (y : Value) (ys : List Value) (t1 t2 t3 : Tok) (most : Int) (tm tw tb : Tok) (beat : Int) (no : Nat) (rest : List (Addr × Obj)) (hz : ys.length ≤ 50) (hrd : r ≠ dr) (ho : o ≠ dr) (hrest : ∀ p ∈ rest, p.1 ≠ dr) :
    Ctr w 147 [.ref r, .int 3 tw, .int beat tb] 4 40 ((dr, ringO w.params t1 t2 t3 most tm (.ref x) (.ref o)) :: (r, instObj 101 dr) :: (o, listOf (List.toArray (y :: ys)) no) :: rest)
      (fun nx r' => ∃ D, (∀ p ∈ (D, listOf (List.toArray (ys ++ [Value.ref x])) 0) :: (dr, ringO w.params t1 t2 t3 most tm (y) (.ref D)) :: (r, instObj 101 dr) :: (o, listOf (List.toArray (y :: ys)) no) :: rest, p ∈ nx) ∧ r' = .bool true ∧
        AllLt D ((dr, ringO w.params t1 t2 t3 most tm (.ref x) (.ref o)) :: (r, instObj 101 dr) :: (o, listOf (List.toArray (y :: ys)) no) :: rest)) :=
  deedK3 w r dr o _ _ t1 t2 t3 most tm tw tb beat no rest (meth3m w r dr o x y ys t1 t2 t3 most tm no rest hz hrd ho hrest)
theorem deed4m (w : World) (r dr o : Addr) (x : Addr) (y : Value) (ys : List Value) (t1 t2 t3 : Tok) (most : Int) (tm tw tb : Tok) (beat : Int) (no : Nat) (rest : List (Addr × Obj)) (hz : ys.length ≤ 50) (hrd : r ≠ dr) (ho : o ≠ dr) (hrest : ∀ p ∈ rest, p.1 ≠ dr) :
    Ctr w 147 [.ref r, .int 4 tw, .int beat tb] 4 40 ((dr, ringO w.params t1 t2 t3 most tm (.ref x) (.ref o)) :: (r, instObj 101 dr) :: (o, listOf (List.toArray (ys ++ [y])) no) :: rest)
      (fun nx r' => ∃ D, (∀ p ∈ (D, listOf (List.toArray (Value.ref x :: ys)) 0) :: (dr, ringO w.params t1 t2 t3 most tm (y) (.ref D)) :: (r, instObj 101 dr) :: (o, listOf (List.toArray (ys ++ [y])) no) :: rest, p ∈ nx) ∧ r' = .bool true ∧
        AllLt D ((dr, ringO w.params t1 t2 t3 most tm (.ref x) (.ref o)) :: (r, instObj 101 dr) :: (o, listOf (List.toArray (ys ++ [y])) no) :: rest)) :=
  deedK4 w r dr o _ _ t1 t2 t3 most tm tw tb beat no rest (meth4m w r dr o x y ys t1 t2 t3 most tm no rest hz hrd ho hrest)
theorem deed5m (w : World) (r dr o : Addr) (x : Addr) (y : Value) (ys : List Value) (t1 t2 t3 : Tok) (most : Int) (tm tw tb : Tok) (beat : Int) (no : Nat) (rest : List (Addr × Obj)) (hz : ys.length ≤ 50) (hrd : r ≠ dr) (ho : o ≠ dr) (hrest : ∀ p ∈ rest, p.1 ≠ dr) :
    Ctr w 147 [.ref r, .int 5 tw, .int beat tb] 4 40 ((dr, ringO w.params t1 t2 t3 most tm (.ref x) (.ref o)) :: (r, instObj 101 dr) :: (o, listOf (List.toArray (y :: ys)) no) :: rest)
      (fun nx r' => ∃ D, (∀ p ∈ (D, listOf (List.toArray (Value.ref x :: ys)) 0) :: (dr, ringO w.params t1 t2 t3 most tm (y) (.ref D)) :: (r, instObj 101 dr) :: (o, listOf (List.toArray (y :: ys)) no) :: rest, p ∈ nx) ∧ r' = .bool true ∧
        AllLt D ((dr, ringO w.params t1 t2 t3 most tm (.ref x) (.ref o)) :: (r, instObj 101 dr) :: (o, listOf (List.toArray (y :: ys)) no) :: rest)) :=
  deedK5 w r dr o _ _ t1 t2 t3 most tm tw tb beat no rest (meth5m w r dr o x y ys t1 t2 t3 most tm no rest hz hrd ho hrest)
theorem deed6e (w : World) (r dr o : Addr)  (t1 t2 t3 : Tok) (most : Int) (tm tw tb : Tok) (beat : Int) (no : Nat) (rest : List (Addr × Obj))  (hrd : r ≠ dr) (ho : o ≠ dr) (hrest : ∀ p ∈ rest, p.1 ≠ dr) :
    Ctr w 147 [.ref r, .int 6 tw, .int beat tb] 4 40 ((dr, ringO w.params t1 t2 t3 most tm (.none) (.ref o)) :: (r, instObj 101 dr) :: (o, listOf (List.toArray ([])) no) :: rest)
      (fun nx r' => ∃ D, (∀ p ∈ (D, listOf (List.toArray ([])) 0) :: (dr, ringO w.params t1 t2 t3 most tm (.none) (.ref D)) :: (r, instObj 101 dr) :: (o, listOf (List.toArray ([])) no) :: rest, p ∈ nx) ∧ r' = .bool false ∧
        AllLt D ((dr, ringO w.params t1 t2 t3 most tm (.none) (.ref o)) :: (r, instObj 101 dr) :: (o, listOf (List.toArray ([])) no) :: rest)) :=
  deedK6 w r dr o _ _ t1 t2 t3 most tm tw tb beat no rest (meth6e w r dr o  t1 t2 t3 most tm no rest hrd ho hrest)
theorem deed6s (w : World) (r dr o : Addr) (x : Addr) (t1 t2 t3 : Tok) (most : Int) (tm tw tb : Tok) (beat : Int) (no : Nat) (rest : List (Addr × Obj))  (hrd : r ≠ dr) (ho : o ≠ dr) (hrest : ∀ p ∈ rest, p.1 ≠ dr) :
    Ctr w 147 [.ref r, .int 6 tw, .int beat tb] 4 40 ((dr, ringO w.params t1 t2 t3 most tm (.ref x) (.ref o)) :: (r, instObj 101 dr) :: (o, listOf (List.toArray ([])) no) :: rest)
      (fun nx r' => ∃ D, (∀ p ∈ (D, listOf (List.toArray ([])) 0) :: (dr, ringO w.params t1 t2 t3 most tm (.none) (.ref D)) :: (r, instObj 101 dr) :: (o, listOf (List.toArray ([])) no) :: rest, p ∈ nx) ∧ r' = .bool true ∧
        AllLt D ((dr, ringO w.params t1 t2 t3 most tm (.ref x) (.ref o)) :: (r, instObj 101 dr) :: (o, listOf (List.toArray ([])) no) :: rest)) :=
  deedK6 w r dr o _ _ t1 t2 t3 most tm tw tb beat no rest (meth6s w r dr o x t1 t2 t3 most tm no rest hrd ho hrest)
theorem deed6m (w : World) (r dr o : Addr) (x : Addr) (y : Value) (ys : List Value) (t1 t2 t3 : Tok) (most : Int) (tm tw tb : Tok) (beat : Int) (no : Nat) (rest : List (Addr × Obj)) (hz : ys.length ≤ 50) (hrd : r ≠ dr) (ho : o ≠ dr) (hrest : ∀ p ∈ rest, p.1 ≠ dr) :
    Ctr w 147 [.ref r, .int 6 tw, .int beat tb] 4 40 ((dr, ringO w.params t1 t2 t3 most tm (.ref x) (.ref o)) :: (r, instObj 101 dr) :: (o, listOf (List.toArray (y :: ys)) no) :: rest)
      (fun nx r' => ∃ D, (∀ p ∈ (D, listOf (List.toArray (ys)) 0) :: (dr, ringO w.params t1 t2 t3 most tm (y) (.ref D)) :: (r, instObj 101 dr) :: (o, listOf (List.toArray (y :: ys)) no) :: rest, p ∈ nx) ∧ r' = .bool true ∧
        AllLt D ((dr, ringO w.params t1 t2 t3 most tm (.ref x) (.ref o)) :: (r, instObj 101 dr) :: (o, listOf (List.toArray (y :: ys)) no) :: rest)) :=
  deedK6 w r dr o _ _ t1 t2 t3 most tm tw tb beat no rest (meth6m w r dr o x y ys t1 t2 t3 most tm no rest hz hrd ho hrest)end Mine
end
section
open PySem PySem.W PyProof.Rows PySem.Calls PySem.SeqAt
namespace Mine

set_option maxHeartbeats 8000000 in
theorem pushP (w : World) (r dr o X : Addr) (x : Addr) (vs : List Value) (t1 t2 t3 : Tok) (most : Int) (tm : Tok) (no : Nat) (hz : vs.length ≤ 50) (hrd : r ≠ dr) (ho : o ≠ dr) (hm0 : 1 ≤ most) (hm1 : most ≤ 6) (rest : List (Addr × Obj)) (hrest : ∀ p ∈ rest, p.1 ≠ dr) :
    Ctr w 63 [.ref r, .ref X] 3 30 ((dr, ringO w.params t1 t2 t3 most tm (.ref x) (.ref o)) :: (r, instObj 101 dr) :: (o, listOf (List.toArray (vs)) no) :: rest)
      (fun nx r' => ∃ D, (∀ p ∈ (D, listOf (List.toArray ((Value.ref x :: vs).take (roomOf most))) 0) :: (dr, ringO w.params t1 t2 t3 most tm (.ref X) (.ref D)) :: (r, instObj 101 dr) :: (o, listOf (List.toArray (vs)) no) :: rest, p ∈ nx) ∧ r' = .none ∧ AllLt D ((dr, ringO w.params t1 t2 t3 most tm (.ref x) (.ref o)) :: (r, instObj 101 dr) :: (o, listOf (List.toArray (vs)) no) :: rest)) := by
  unfold Ctr
  k_fill
  intro mean mg mb dp un gd cn cs a ccd cl outer A₀ base h₀ L m s R B F X9' N T hk hdp hu hret
  k_dflt cell_enter
  w_top off
  repeat' (first
    | (k_unfold; (try dsimp only))
    | (k_here; (with_reducible show wpAny _ _ (PySem.call (Value.ref 70) _ _) _ _ _); k_dflt ((refine' Ctr.use (take0u _ _ _ _ _ _ _ _ _ _ _ _ _ _ ?hh9hU ?hh9hr ?hh9hq ?hh9hrd ?hh9hqd) ?hh9B ?hh9F ?hh9X ?hh9N ?hh9T ?hh9hk ?hh9hd ?hh9hu ?_); (case hh9B => k_asm); (case hh9F => k_asm); (case hh9X => k_asm); (case hh9N => k_asm); (case hh9hr => k_mem); (case hh9hq => k_mem); (case hh9hU => (intro D9; k_upd)); (case hh9hrd => (first | with_reducible assumption | exact Ne.symm (by with_reducible assumption) | k_ne)); (case hh9hqd => (first | with_reducible assumption | exact Ne.symm (by with_reducible assumption) | k_ne)); (case hh9T => k_asm); (case hh9hk => first | exact rfl | assumption); (case hh9hd => (first | exact roomA (by with_reducible assumption) (by decide) | exact roomAB (by with_reducible assumption) (by decide) | exact roomABC (by with_reducible assumption) (by decide) | exact room0 (by with_reducible assumption) (by rfl) | exact roomN 1 (by with_reducible assumption) (by rfl) (by decide) | exact roomN 2 (by with_reducible assumption) (by rfl) (by decide) | exact roomN 3 (by with_reducible assumption) (by rfl) (by decide) | ktr_room)); (case hh9hu => (first | exact roomA (by with_reducible assumption) (by decide) | exact roomAB (by with_reducible assumption) (by decide) | exact roomABC (by with_reducible assumption) (by decide) | exact room0 (by with_reducible assumption) (by rfl) | exact roomN 3 (by with_reducible assumption) (by rfl) (by decide) | exact roomN 6 (by with_reducible assumption) (by rfl) (by decide) | ktr_units))); intro r9 nx9 h' tk' F' N' hP9; obtain ⟨q9, e9, e9', l9⟩ := hP9; subst e9; subst e9'; (try dsimp only at N'); (try k_lt l9); (try dsimp only); (try k_fold); (try k_sweep))
    | (k_here; (with_reducible show wpAny _ _ (PySem.call (Value.ref 70) _ _) _ _ _); k_dflt ((refine' Ctr.use (take1u _ _ _ _ _ _ _ _ _ _ _ _ _ _ _ _ ?hh9hU ?hh9hr ?hh9hq ?hh9hz ?hh9hrd ?hh9hqd) ?hh9B ?hh9F ?hh9X ?hh9N ?hh9T ?hh9hk ?hh9hd ?hh9hu ?_); (case hh9B => k_asm); (case hh9F => k_asm); (case hh9X => k_asm); (case hh9N => k_asm); (case hh9hr => k_mem); (case hh9hq => k_mem); (case hh9hU => (intro D9; k_upd)); (case hh9hz => (simp only [List.length_cons, List.length_nil, List.length_append]; omega)); (case hh9hrd => (first | with_reducible assumption | exact Ne.symm (by with_reducible assumption) | k_ne)); (case hh9hqd => (first | with_reducible assumption | exact Ne.symm (by with_reducible assumption) | k_ne)); (case hh9T => k_asm); (case hh9hk => first | exact rfl | assumption); (case hh9hd => (first | exact roomA (by with_reducible assumption) (by decide) | exact roomAB (by with_reducible assumption) (by decide) | exact roomABC (by with_reducible assumption) (by decide) | exact room0 (by with_reducible assumption) (by rfl) | exact roomN 1 (by with_reducible assumption) (by rfl) (by decide) | exact roomN 2 (by with_reducible assumption) (by rfl) (by decide) | exact roomN 3 (by with_reducible assumption) (by rfl) (by decide) | ktr_room)); (case hh9hu => (first | exact roomA (by with_reducible assumption) (by decide) | exact roomAB (by with_reducible assumption) (by decide) | exact roomABC (by with_reducible assumption) (by decide) | exact room0 (by with_reducible assumption) (by rfl) | exact roomN 3 (by with_reducible assumption) (by rfl) (by decide) | exact roomN 6 (by with_reducible assumption) (by rfl) (by decide) | ktr_units))); intro r9 nx9 h' tk' F' N' hP9; obtain ⟨q9, e9, e9', l9⟩ := hP9; subst e9; subst e9'; (try dsimp only at N'); (try k_lt l9); (try dsimp only); (try k_fold); (try k_sweep))
    | (k_here; (with_reducible show wpAny _ _ (PySem.call (Value.ref 56) _ _) _ _ _); k_dflt ((refine' Ctr.use (rows0u _ _ _ _ _ _ _ _ _ _ ?hh9hr ?hh9hdr) ?hh9B ?hh9F ?hh9X ?hh9N ?hh9T ?hh9hk ?hh9hd ?hh9hu ?_); (case hh9B => k_asm); (case hh9F => k_asm); (case hh9X => k_asm); (case hh9N => k_asm); (case hh9hr => k_mem); (case hh9hdr => k_mem); (case hh9T => k_asm); (case hh9hk => first | exact rfl | assumption); (case hh9hd => (first | exact roomA (by with_reducible assumption) (by decide) | exact roomAB (by with_reducible assumption) (by decide) | exact roomABC (by with_reducible assumption) (by decide) | exact room0 (by with_reducible assumption) (by rfl) | exact roomN 1 (by with_reducible assumption) (by rfl) (by decide) | exact roomN 2 (by with_reducible assumption) (by rfl) (by decide) | exact roomN 3 (by with_reducible assumption) (by rfl) (by decide) | ktr_room)); (case hh9hu => (first | exact roomA (by with_reducible assumption) (by decide) | exact roomAB (by with_reducible assumption) (by decide) | exact roomABC (by with_reducible assumption) (by decide) | exact room0 (by with_reducible assumption) (by rfl) | exact roomN 3 (by with_reducible assumption) (by rfl) (by decide) | exact roomN 6 (by with_reducible assumption) (by rfl) (by decide) | ktr_units))); intro r9 nx9 h' tk' F' N' hP9; obtain ⟨e9, e9'⟩ := hP9; subst e9; subst e9'; (try dsimp only); (try k_fold); (try k_sweep))
    | (k_here; (with_reducible show wpAny _ _ (PySem.call (Value.ref 56) _ _) _ _ _); k_dflt ((refine' Ctr.use (rows1u _ _ _ _ _ _ _ _ _ _ _ _ _ ?hh9hr ?hh9hdr ?hh9ho ?hh9hz) ?hh9B ?hh9F ?hh9X ?hh9N ?hh9T ?hh9hk ?hh9hd ?hh9hu ?_); (case hh9B => k_asm); (case hh9F => k_asm); (case hh9X => k_asm); (case hh9N => k_asm); (case hh9hr => k_mem); (case hh9hdr => k_mem); (case hh9ho => k_mem); (case hh9hz => (simp only [List.length_cons, List.length_nil, List.length_append]; omega)); (case hh9T => k_asm); (case hh9hk => first | exact rfl | assumption); (case hh9hd => (first | exact roomA (by with_reducible assumption) (by decide) | exact roomAB (by with_reducible assumption) (by decide) | exact roomABC (by with_reducible assumption) (by decide) | exact room0 (by with_reducible assumption) (by rfl) | exact roomN 1 (by with_reducible assumption) (by rfl) (by decide) | exact roomN 2 (by with_reducible assumption) (by rfl) (by decide) | exact roomN 3 (by with_reducible assumption) (by rfl) (by decide) | ktr_room)); (case hh9hu => (first | exact roomA (by with_reducible assumption) (by decide) | exact roomAB (by with_reducible assumption) (by decide) | exact roomABC (by with_reducible assumption) (by decide) | exact room0 (by with_reducible assumption) (by rfl) | exact roomN 3 (by with_reducible assumption) (by rfl) (by decide) | exact roomN 6 (by with_reducible assumption) (by rfl) (by decide) | ktr_units))); intro r9 nx9 h' tk' F' N' hP9; obtain ⟨q9, e9, e9', l9⟩ := hP9; subst e9; subst e9'; (try k_lt l9); (try dsimp only); (try k_fold); (try k_sweep))
    | (k_here; (with_reducible show wpAny _ _ (subscriptTail _ (PySem.Expr.Slice _ _ none _) (Value.ref _) (Value.ref _)) _ _ _); k_dflt (refine' kms_slice_lit ?hh9F ?hh9N ?hh9l ?hh9p ?hh9q ?hh9e ?_ ?hh9s ?hh9t ?hh9z; (case hh9F => k_asm); (case hh9N => k_asm); (case hh9l => kmk_list); (case hh9p => kmk_part); (case hh9q => kmk_part); (case hh9e => first | exact pickNil _ _ | exact pick1c _ _ | exact pick2c _ _ _ | exact pickT1c _ _ | exact pickLast3 _ _ _ | exact pickBut3 _ _ _ | exact pickLast2 _ _ | exact pickBut2 _ _ | exact pick1 _ | exact pick2 _ | exact pickLast _ | exact pickBut _ | exact pickTo _ _ (by omega)); (case hh9s => with_unfolding_all rfl); (case hh9t => kmk_pure); (case hh9z => (simp only [sizeLine_eq, List.size_toArray, List.length_cons, List.length_nil, List.length_append, List.length_drop, List.length_take]; omega))); intro D' h' F' N' l1; (try k_lt l1); (try k_sweep))
    | (k_here; (with_reducible show wpAny _ _ (compareOp CmpOp.NotEq (Value.ref _) (Value.ref _)) _ _ _); k_dflt (refine' neNil ?hh9a ?hh9b ?hh9u ?_; (case hh9a => kmk_list); (case hh9b => kmk_list); (case hh9u => (first | exact roomA (by with_reducible assumption) (by decide) | exact roomAB (by with_reducible assumption) (by decide) | exact roomABC (by with_reducible assumption) (by decide) | exact room0 (by with_reducible assumption) (by rfl) | exact roomN 3 (by with_reducible assumption) (by rfl) (by decide) | exact roomN 6 (by with_reducible assumption) (by rfl) (by decide) | ktr_units))))
    | (k_here; (with_reducible show wpAny _ _ (compareOp CmpOp.NotEq (Value.ref _) (Value.ref _)) _ _ _); k_dflt (refine' neCons ?hh9a ?hh9b ?hh9u ?_; (case hh9a => kmk_list); (case hh9b => kmk_list); (case hh9u => (first | exact roomA (by with_reducible assumption) (by decide) | exact roomAB (by with_reducible assumption) (by decide) | exact roomABC (by with_reducible assumption) (by decide) | exact room0 (by with_reducible assumption) (by rfl) | exact roomN 3 (by with_reducible assumption) (by rfl) (by decide) | exact roomN 6 (by with_reducible assumption) (by rfl) (by decide) | ktr_units))))
    | (k_here; (with_reducible show wpAny _ _ (compareOp CmpOp.NotEq (Value.ref _) (Value.ref _)) _ _ _); k_dflt (refine' neEmpty ?hh9a ?hh9b ?hh9u ?_; (case hh9a => kmk_list); (case hh9b => kmk_list); (case hh9u => (first | exact roomA (by with_reducible assumption) (by decide) | exact roomAB (by with_reducible assumption) (by decide) | exact roomABC (by with_reducible assumption) (by decide) | exact room0 (by with_reducible assumption) (by rfl) | exact roomN 3 (by with_reducible assumption) (by rfl) (by decide) | exact roomN 6 (by with_reducible assumption) (by rfl) (by decide) | ktr_units))))
    | (k_here; (with_reducible show wpAny _ _ (compareOp CmpOp.Eq (Value.ref _) (Value.ref _)) _ _ _); k_dflt (refine' eqNil ?hh9a ?hh9b ?hh9u ?_; (case hh9a => kmk_list); (case hh9b => kmk_list); (case hh9u => (first | exact roomA (by with_reducible assumption) (by decide) | exact roomAB (by with_reducible assumption) (by decide) | exact roomABC (by with_reducible assumption) (by decide) | exact room0 (by with_reducible assumption) (by rfl) | exact roomN 3 (by with_reducible assumption) (by rfl) (by decide) | exact roomN 6 (by with_reducible assumption) (by rfl) (by decide) | ktr_units))))
    | (k_here; (with_reducible show wpAny _ _ (compareOp CmpOp.Eq (Value.ref _) (Value.ref _)) _ _ _); k_dflt (refine' eqSnoc ?hh9a ?hh9b ?hh9u ?_; (case hh9a => kmk_list); (case hh9b => kmk_list); (case hh9u => (first | exact roomA (by with_reducible assumption) (by decide) | exact roomAB (by with_reducible assumption) (by decide) | exact roomABC (by with_reducible assumption) (by decide) | exact room0 (by with_reducible assumption) (by rfl) | exact roomN 3 (by with_reducible assumption) (by rfl) (by decide) | exact roomN 6 (by with_reducible assumption) (by rfl) (by decide) | ktr_units))))
    | (k_here; (with_reducible show wpAny _ _ (compareOp CmpOp.Eq (Value.ref _) (Value.ref _)) _ _ _); k_dflt (refine' eqCons ?hh9a ?hh9b ?hh9u ?_; (case hh9a => kmk_list); (case hh9b => kmk_list); (case hh9u => (first | exact roomA (by with_reducible assumption) (by decide) | exact roomAB (by with_reducible assumption) (by decide) | exact roomABC (by with_reducible assumption) (by decide) | exact room0 (by with_reducible assumption) (by rfl) | exact roomN 3 (by with_reducible assumption) (by rfl) (by decide) | exact roomN 6 (by with_reducible assumption) (by rfl) (by decide) | ktr_units))))
    | (k_here; (with_reducible show wpAny _ _ (compareOp CmpOp.Eq (Value.ref _) (Value.ref _)) _ _ _); k_dflt (refine' eqEmpty ?hh9a ?hh9b ?hh9u ?_; (case hh9a => kmk_list); (case hh9b => kmk_list); (case hh9u => (first | exact roomA (by with_reducible assumption) (by decide) | exact roomAB (by with_reducible assumption) (by decide) | exact roomABC (by with_reducible assumption) (by decide) | exact room0 (by with_reducible assumption) (by rfl) | exact roomN 3 (by with_reducible assumption) (by rfl) (by decide) | exact roomN 6 (by with_reducible assumption) (by rfl) (by decide) | ktr_units))))
    | (k_here; (with_reducible show wpAny _ _ (binaryOp _ (Value.ref _) (Value.ref _)) _ _ _); k_dflt (refine' kmk_add_lit ?hh9F ?hh9N ?hh9a ?hh9b ?hh9e ?_ ?hh9z; (case hh9F => k_asm); (case hh9N => k_asm); (case hh9a => kmk_list); (case hh9b => kmk_list); (case hh9e => ((simp only [List.cons_append, List.nil_append]); exact rfl)); (case hh9z => (simp only [sizeLine_eq, List.length_cons, List.length_nil, List.length_append, List.length_drop, List.length_take]; omega))); intro D' h' F' N' l1; (try k_lt l1); (try k_sweep))
    | (k_end; wrow_close)
    | walk1
    | (dsimp only; walk1)
    | (leave1; walk_say "STEP leave1"; try dsimp only)
    | fail "no step")
  refine' hret _ _ _ _ ?zf ?zn ⟨_, ?zm, rfl, ?zd⟩
  (case zf => assumption)
  (case zn => assumption)
  (case zm => kcj_in)
  rename (_ < _ ∧ _) => l9
  have l8 := l9
  iterate 40 (try (replace l8 := l8.2))
  exact ⟨by omega, by omega, by omega, l8⟩

set_option maxHeartbeats 8000000 in
theorem push0 (w : World) (r dr o X : Addr) (t1 t2 t3 : Tok) (most : Int) (tm : Tok) (no : Nat) (hrd : r ≠ dr) (ho : o ≠ dr) (hm0 : 1 ≤ most) (hm1 : most ≤ 6) (rest : List (Addr × Obj)) (hrest : ∀ p ∈ rest, p.1 ≠ dr) :
    Ctr w 63 [.ref r, .ref X] 3 30 ((dr, ringO w.params t1 t2 t3 most tm (.none) (.ref o)) :: (r, instObj 101 dr) :: (o, listOf (List.toArray ([])) no) :: rest)
      (fun nx r' => ∃ D, (∀ p ∈ (D, listOf (List.toArray ([])) 0) :: (dr, ringO w.params t1 t2 t3 most tm (.ref X) (.ref D)) :: (r, instObj 101 dr) :: (o, listOf (List.toArray ([])) no) :: rest, p ∈ nx) ∧ r' = .none ∧ AllLt D ((dr, ringO w.params t1 t2 t3 most tm (.none) (.ref o)) :: (r, instObj 101 dr) :: (o, listOf (List.toArray ([])) no) :: rest)) := by
  unfold Ctr
  k_fill
  intro mean mg mb dp un gd cn cs a ccd cl outer A₀ base h₀ L m s R B F X9' N T hk hdp hu hret
  k_dflt cell_enter
  w_top off
  repeat' (first
    | (k_unfold; (try dsimp only))
    | (k_here; (with_reducible show wpAny _ _ (PySem.call (Value.ref 70) _ _) _ _ _); k_dflt ((refine' Ctr.use (take0u _ _ _ _ _ _ _ _ _ _ _ _ _ _ ?hh9hU ?hh9hr ?hh9hq ?hh9hrd ?hh9hqd) ?hh9B ?hh9F ?hh9X ?hh9N ?hh9T ?hh9hk ?hh9hd ?hh9hu ?_); (case hh9B => k_asm); (case hh9F => k_asm); (case hh9X => k_asm); (case hh9N => k_asm); (case hh9hr => k_mem); (case hh9hq => k_mem); (case hh9hU => (intro D9; k_upd)); (case hh9hrd => (first | with_reducible assumption | exact Ne.symm (by with_reducible assumption) | k_ne)); (case hh9hqd => (first | with_reducible assumption | exact Ne.symm (by with_reducible assumption) | k_ne)); (case hh9T => k_asm); (case hh9hk => first | exact rfl | assumption); (case hh9hd => (first | exact roomA (by with_reducible assumption) (by decide) | exact roomAB (by with_reducible assumption) (by decide) | exact roomABC (by with_reducible assumption) (by decide) | exact room0 (by with_reducible assumption) (by rfl) | exact roomN 1 (by with_reducible assumption) (by rfl) (by decide) | exact roomN 2 (by with_reducible assumption) (by rfl) (by decide) | exact roomN 3 (by with_reducible assumption) (by rfl) (by decide) | ktr_room)); (case hh9hu => (first | exact roomA (by with_reducible assumption) (by decide) | exact roomAB (by with_reducible assumption) (by decide) | exact roomABC (by with_reducible assumption) (by decide) | exact room0 (by with_reducible assumption) (by rfl) | exact roomN 3 (by with_reducible assumption) (by rfl) (by decide) | exact roomN 6 (by with_reducible assumption) (by rfl) (by decide) | ktr_units))); intro r9 nx9 h' tk' F' N' hP9; obtain ⟨q9, e9, e9', l9⟩ := hP9; subst e9; subst e9'; (try dsimp only at N'); (try k_lt l9); (try dsimp only); (try k_fold); (try k_sweep))
    | (k_here; (with_reducible show wpAny _ _ (PySem.call (Value.ref 70) _ _) _ _ _); k_dflt ((refine' Ctr.use (take1u _ _ _ _ _ _ _ _ _ _ _ _ _ _ _ _ ?hh9hU ?hh9hr ?hh9hq ?hh9hz ?hh9hrd ?hh9hqd) ?hh9B ?hh9F ?hh9X ?hh9N ?hh9T ?hh9hk ?hh9hd ?hh9hu ?_); (case hh9B => k_asm); (case hh9F => k_asm); (case hh9X => k_asm); (case hh9N => k_asm); (case hh9hr => k_mem); (case hh9hq => k_mem); (case hh9hU => (intro D9; k_upd)); (case hh9hz => (simp only [List.length_cons, List.length_nil, List.length_append]; omega)); (case hh9hrd => (first | with_reducible assumption | exact Ne.symm (by with_reducible assumption) | k_ne)); (case hh9hqd => (first | with_reducible assumption | exact Ne.symm (by with_reducible assumption) | k_ne)); (case hh9T => k_asm); (case hh9hk => first | exact rfl | assumption); (case hh9hd => (first | exact roomA (by with_reducible assumption) (by decide) | exact roomAB (by with_reducible assumption) (by decide) | exact roomABC (by with_reducible assumption) (by decide) | exact room0 (by with_reducible assumption) (by rfl) | exact roomN 1 (by with_reducible assumption) (by rfl) (by decide) | exact roomN 2 (by with_reducible assumption) (by rfl) (by decide) | exact roomN 3 (by with_reducible assumption) (by rfl) (by decide) | ktr_room)); (case hh9hu => (first | exact roomA (by with_reducible assumption) (by decide) | exact roomAB (by with_reducible assumption) (by decide) | exact roomABC (by with_reducible assumption) (by decide) | exact room0 (by with_reducible assumption) (by rfl) | exact roomN 3 (by with_reducible assumption) (by rfl) (by decide) | exact roomN 6 (by with_reducible assumption) (by rfl) (by decide) | ktr_units))); intro r9 nx9 h' tk' F' N' hP9; obtain ⟨q9, e9, e9', l9⟩ := hP9; subst e9; subst e9'; (try dsimp only at N'); (try k_lt l9); (try dsimp only); (try k_fold); (try k_sweep))
    | (k_here; (with_reducible show wpAny _ _ (PySem.call (Value.ref 56) _ _) _ _ _); k_dflt ((refine' Ctr.use (rows0u _ _ _ _ _ _ _ _ _ _ ?hh9hr ?hh9hdr) ?hh9B ?hh9F ?hh9X ?hh9N ?hh9T ?hh9hk ?hh9hd ?hh9hu ?_); (case hh9B => k_asm); (case hh9F => k_asm); (case hh9X => k_asm); (case hh9N => k_asm); (case hh9hr => k_mem); (case hh9hdr => k_mem); (case hh9T => k_asm); (case hh9hk => first | exact rfl | assumption); (case hh9hd => (first | exact roomA (by with_reducible assumption) (by decide) | exact roomAB (by with_reducible assumption) (by decide) | exact roomABC (by with_reducible assumption) (by decide) | exact room0 (by with_reducible assumption) (by rfl) | exact roomN 1 (by with_reducible assumption) (by rfl) (by decide) | exact roomN 2 (by with_reducible assumption) (by rfl) (by decide) | exact roomN 3 (by with_reducible assumption) (by rfl) (by decide) | ktr_room)); (case hh9hu => (first | exact roomA (by with_reducible assumption) (by decide) | exact roomAB (by with_reducible assumption) (by decide) | exact roomABC (by with_reducible assumption) (by decide) | exact room0 (by with_reducible assumption) (by rfl) | exact roomN 3 (by with_reducible assumption) (by rfl) (by decide) | exact roomN 6 (by with_reducible assumption) (by rfl) (by decide) | ktr_units))); intro r9 nx9 h' tk' F' N' hP9; obtain ⟨e9, e9'⟩ := hP9; subst e9; subst e9'; (try dsimp only); (try k_fold); (try k_sweep))
    | (k_here; (with_reducible show wpAny _ _ (PySem.call (Value.ref 56) _ _) _ _ _); k_dflt ((refine' Ctr.use (rows1u _ _ _ _ _ _ _ _ _ _ _ _ _ ?hh9hr ?hh9hdr ?hh9ho ?hh9hz) ?hh9B ?hh9F ?hh9X ?hh9N ?hh9T ?hh9hk ?hh9hd ?hh9hu ?_); (case hh9B => k_asm); (case hh9F => k_asm); (case hh9X => k_asm); (case hh9N => k_asm); (case hh9hr => k_mem); (case hh9hdr => k_mem); (case hh9ho => k_mem); (case hh9hz => (simp only [List.length_cons, List.length_nil, List.length_append]; omega)); (case hh9T => k_asm); (case hh9hk => first | exact rfl | assumption); (case hh9hd => (first | exact roomA (by with_reducible assumption) (by decide) | exact roomAB (by with_reducible assumption) (by decide) | exact roomABC (by with_reducible assumption) (by decide) | exact room0 (by with_reducible assumption) (by rfl) | exact roomN 1 (by with_reducible assumption) (by rfl) (by decide) | exact roomN 2 (by with_reducible assumption) (by rfl) (by decide) | exact roomN 3 (by with_reducible assumption) (by rfl) (by decide) | ktr_room)); (case hh9hu => (first | exact roomA (by with_reducible assumption) (by decide) | exact roomAB (by with_reducible assumption) (by decide) | exact roomABC (by with_reducible assumption) (by decide) | exact room0 (by with_reducible assumption) (by rfl) | exact roomN 3 (by with_reducible assumption) (by rfl) (by decide) | exact roomN 6 (by with_reducible assumption) (by rfl) (by decide) | ktr_units))); intro r9 nx9 h' tk' F' N' hP9; obtain ⟨q9, e9, e9', l9⟩ := hP9; subst e9; subst e9'; (try k_lt l9); (try dsimp only); (try k_fold); (try k_sweep))
    | (k_here; (with_reducible show wpAny _ _ (subscriptTail _ (PySem.Expr.Slice _ _ none _) (Value.ref _) (Value.ref _)) _ _ _); k_dflt (refine' kms_slice_lit ?hh9F ?hh9N ?hh9l ?hh9p ?hh9q ?hh9e ?_ ?hh9s ?hh9t ?hh9z; (case hh9F => k_asm); (case hh9N => k_asm); (case hh9l => kmk_list); (case hh9p => kmk_part); (case hh9q => kmk_part); (case hh9e => first | exact pickNil _ _ | exact pick1c _ _ | exact pick2c _ _ _ | exact pickT1c _ _ | exact pickLast3 _ _ _ | exact pickBut3 _ _ _ | exact pickLast2 _ _ | exact pickBut2 _ _ | exact pick1 _ | exact pick2 _ | exact pickLast _ | exact pickBut _ | exact pickTo _ _ (by omega)); (case hh9s => with_unfolding_all rfl); (case hh9t => kmk_pure); (case hh9z => (simp only [sizeLine_eq, List.size_toArray, List.length_cons, List.length_nil, List.length_append, List.length_drop, List.length_take]; omega))); intro D' h' F' N' l1; (try k_lt l1); (try k_sweep))
    | (k_here; (with_reducible show wpAny _ _ (compareOp CmpOp.NotEq (Value.ref _) (Value.ref _)) _ _ _); k_dflt (refine' neNil ?hh9a ?hh9b ?hh9u ?_; (case hh9a => kmk_list); (case hh9b => kmk_list); (case hh9u => (first | exact roomA (by with_reducible assumption) (by decide) | exact roomAB (by with_reducible assumption) (by decide) | exact roomABC (by with_reducible assumption) (by decide) | exact room0 (by with_reducible assumption) (by rfl) | exact roomN 3 (by with_reducible assumption) (by rfl) (by decide) | exact roomN 6 (by with_reducible assumption) (by rfl) (by decide) | ktr_units))))
    | (k_here; (with_reducible show wpAny _ _ (compareOp CmpOp.NotEq (Value.ref _) (Value.ref _)) _ _ _); k_dflt (refine' neCons ?hh9a ?hh9b ?hh9u ?_; (case hh9a => kmk_list); (case hh9b => kmk_list); (case hh9u => (first | exact roomA (by with_reducible assumption) (by decide) | exact roomAB (by with_reducible assumption) (by decide) | exact roomABC (by with_reducible assumption) (by decide) | exact room0 (by with_reducible assumption) (by rfl) | exact roomN 3 (by with_reducible assumption) (by rfl) (by decide) | exact roomN 6 (by with_reducible assumption) (by rfl) (by decide) | ktr_units))))
    | (k_here; (with_reducible show wpAny _ _ (compareOp CmpOp.NotEq (Value.ref _) (Value.ref _)) _ _ _); k_dflt (refine' neEmpty ?hh9a ?hh9b ?hh9u ?_; (case hh9a => kmk_list); (case hh9b => kmk_list); (case hh9u => (first | exact roomA (by with_reducible assumption) (by decide) | exact roomAB (by with_reducible assumption) (by decide) | exact roomABC (by with_reducible assumption) (by decide) | exact room0 (by with_reducible assumption) (by rfl) | exact roomN 3 (by with_reducible assumption) (by rfl) (by decide) | exact roomN 6 (by with_reducible assumption) (by rfl) (by decide) | ktr_units))))
    | (k_here; (with_reducible show wpAny _ _ (compareOp CmpOp.Eq (Value.ref _) (Value.ref _)) _ _ _); k_dflt (refine' eqNil ?hh9a ?hh9b ?hh9u ?_; (case hh9a => kmk_list); (case hh9b => kmk_list); (case hh9u => (first | exact roomA (by with_reducible assumption) (by decide) | exact roomAB (by with_reducible assumption) (by decide) | exact roomABC (by with_reducible assumption) (by decide) | exact room0 (by with_reducible assumption) (by rfl) | exact roomN 3 (by with_reducible assumption) (by rfl) (by decide) | exact roomN 6 (by with_reducible assumption) (by rfl) (by decide) | ktr_units))))
    | (k_here; (with_reducible show wpAny _ _ (compareOp CmpOp.Eq (Value.ref _) (Value.ref _)) _ _ _); k_dflt (refine' eqSnoc ?hh9a ?hh9b ?hh9u ?_; (case hh9a => kmk_list); (case hh9b => kmk_list); (case hh9u => (first | exact roomA (by with_reducible assumption) (by decide) | exact roomAB (by with_reducible assumption) (by decide) | exact roomABC (by with_reducible assumption) (by decide) | exact room0 (by with_reducible assumption) (by rfl) | exact roomN 3 (by with_reducible assumption) (by rfl) (by decide) | exact roomN 6 (by with_reducible assumption) (by rfl) (by decide) | ktr_units))))
    | (k_here; (with_reducible show wpAny _ _ (compareOp CmpOp.Eq (Value.ref _) (Value.ref _)) _ _ _); k_dflt (refine' eqCons ?hh9a ?hh9b ?hh9u ?_; (case hh9a => kmk_list); (case hh9b => kmk_list); (case hh9u => (first | exact roomA (by with_reducible assumption) (by decide) | exact roomAB (by with_reducible assumption) (by decide) | exact roomABC (by with_reducible assumption) (by decide) | exact room0 (by with_reducible assumption) (by rfl) | exact roomN 3 (by with_reducible assumption) (by rfl) (by decide) | exact roomN 6 (by with_reducible assumption) (by rfl) (by decide) | ktr_units))))
    | (k_here; (with_reducible show wpAny _ _ (compareOp CmpOp.Eq (Value.ref _) (Value.ref _)) _ _ _); k_dflt (refine' eqEmpty ?hh9a ?hh9b ?hh9u ?_; (case hh9a => kmk_list); (case hh9b => kmk_list); (case hh9u => (first | exact roomA (by with_reducible assumption) (by decide) | exact roomAB (by with_reducible assumption) (by decide) | exact roomABC (by with_reducible assumption) (by decide) | exact room0 (by with_reducible assumption) (by rfl) | exact roomN 3 (by with_reducible assumption) (by rfl) (by decide) | exact roomN 6 (by with_reducible assumption) (by rfl) (by decide) | ktr_units))))
    | (k_here; (with_reducible show wpAny _ _ (binaryOp _ (Value.ref _) (Value.ref _)) _ _ _); k_dflt (refine' kmk_add_lit ?hh9F ?hh9N ?hh9a ?hh9b ?hh9e ?_ ?hh9z; (case hh9F => k_asm); (case hh9N => k_asm); (case hh9a => kmk_list); (case hh9b => kmk_list); (case hh9e => ((simp only [List.cons_append, List.nil_append]); exact rfl)); (case hh9z => (simp only [sizeLine_eq, List.length_cons, List.length_nil, List.length_append, List.length_drop, List.length_take]; omega))); intro D' h' F' N' l1; (try k_lt l1); (try k_sweep))
    | (k_end; wrow_close)
    | walk1
    | (dsimp only; walk1)
    | (leave1; walk_say "STEP leave1"; try dsimp only)
    | fail "no step")
  refine' hret _ _ _ _ ?zf ?zn ⟨_, ?zm, rfl, ?zd⟩
  (case zf => assumption)
  (case zn => assumption)
  (case zm => kcj_in)
  rename (_ < _ ∧ _) => l9
  have l8 := l9
  iterate 40 (try (replace l8 := l8.2))
  exact ⟨by omega, by omega, by omega, l8⟩

theorem pushU (w : World) (r dr o X : Addr) (lv : Value) (vs vs' : List Value) (t1 t2 t3 : Tok) (most : Int) (tm : Tok) (no : Nat) (hC : ∀ rest, (∀ p ∈ rest, p.1 ≠ dr) → Ctr w 63 [.ref r, .ref X] 3 30 ((dr, ringO w.params t1 t2 t3 most tm (lv) (.ref o)) :: (r, instObj 101 dr) :: (o, listOf (List.toArray (vs)) no) :: rest)
      (fun nx r' => ∃ D, (∀ p ∈ (D, listOf (List.toArray (vs')) 0) :: (dr, ringO w.params t1 t2 t3 most tm (.ref X) (.ref D)) :: (r, instObj 101 dr) :: (o, listOf (List.toArray (vs)) no) :: rest, p ∈ nx) ∧ r' = .none ∧ AllLt D ((dr, ringO w.params t1 t2 t3 most tm (lv) (.ref o)) :: (r, instObj 101 dr) :: (o, listOf (List.toArray (vs)) no) :: rest))) (hrd : r ≠ dr) (hod : o ≠ dr) (news : List (Addr × Obj)) (upd : Addr → List (Addr × Obj))
    (hU : ∀ D, Upd dr (ringO w.params t1 t2 t3 most tm lv (.ref o)) (ringO w.params t1 t2 t3 most tm (.ref X) (.ref D)) news (upd D)) (hr : (r, instObj 101 dr) ∈ news) (hq : (o, listOf (List.toArray vs) no) ∈ news) :
    Ctr w 63 [.ref r, .ref X] 3 30 news (fun nx r' => ∃ D, r' = .none ∧ nx = (D, listOf (List.toArray vs') 0) :: upd D ∧ ∀ p ∈ news, p.1 < D) :=
  Ctr.upd hU (0 : Nat) (fun D => [(D, listOf (List.toArray vs') 0)]) (P := fun D r => r = .none ∧ ∀ p ∈ news, p.1 < D)
    (fun rest h1 h2 => (hC rest h1).weak
      (fun p hp => by
        rcases List.mem_cons.mp hp with rfl | hp
        · exact .head _
        · rcases memTwo hp with rfl | rfl | hp
          · exact .tail _ ((h2 _ hr).resolve_left (fun e => hrd (congrArg Prod.fst e)))
          · exact .tail _ ((h2 _ hq).resolve_left (fun e => hod (congrArg Prod.fst e)))
          · exact .tail _ hp)
      (fun nx r h => by
        obtain ⟨D, hs, rfl, hl⟩ := h
        refine ⟨_, fun p hp => hp, D, fun p hp => hs p ?_, rfl, fun p hp => ktn_ltOf hl p ?_⟩
        · rcases List.mem_cons.mp hp with rfl | hp
          · exact .head _
          · rcases List.mem_cons.mp hp with rfl | hp
            · exact .tail _ (.head _)
            · exact .tail _ (.tail _ (.tail _ (.tail _ hp)))
        · rcases h2 p hp with rfl | h
          · exact .head _
          · exact .tail _ (.tail _ (.tail _ h))))
    (fun D r h => ⟨D, h.1, rfl, h.2⟩)
set_option maxHeartbeats 8000000 in
theorem deedPush (w : World) (r dr o : Addr) (lv : Value) (vs vs' : List Value) (t1 t2 t3 : Tok) (most : Int) (tm tw tb : Tok) (way beat : Int) (no : Nat) (rest : List (Addr × Obj)) (hrd : r ≠ dr) (ho : o ≠ dr) (hrest : ∀ p ∈ rest, p.1 ≠ dr) (hw : way < 3)
    (hC : ∀ X rest, (∀ p ∈ rest, p.1 ≠ dr) → Ctr w 63 [.ref r, .ref X] 3 30 ((dr, ringO w.params t1 t2 t3 most tm (lv) (.ref o)) :: (r, instObj 101 dr) :: (o, listOf (List.toArray (vs)) no) :: rest)
      (fun nx r' => ∃ D, (∀ p ∈ (D, listOf (List.toArray (vs')) 0) :: (dr, ringO w.params t1 t2 t3 most tm (.ref X) (.ref D)) :: (r, instObj 101 dr) :: (o, listOf (List.toArray (vs)) no) :: rest, p ∈ nx) ∧ r' = .none ∧ AllLt D ((dr, ringO w.params t1 t2 t3 most tm (lv) (.ref o)) :: (r, instObj 101 dr) :: (o, listOf (List.toArray (vs)) no) :: rest))) :
    Ctr w 147 [.ref r, .int way tw, .int beat tb] 4 40 ((dr, ringO w.params t1 t2 t3 most tm (lv) (.ref o)) :: (r, instObj 101 dr) :: (o, listOf (List.toArray (vs)) no) :: rest)
      (fun nx r' => ∃ X dX e D k1 k2 k3 tf, (∀ p ∈ (D, listOf (List.toArray (vs')) 0) :: (X, instObj 31 dX) :: (dX, madeO w.params k1 k2 k3 e beat tb tf) :: (e, tupO beat tb) :: (dr, ringO w.params t1 t2 t3 most tm (.ref X) (.ref D)) :: (r, instObj 101 dr) :: (o, listOf (List.toArray (vs)) no) :: rest, p ∈ nx) ∧ r' = .none ∧
        e < dX ∧ dX < X ∧ X < D ∧ AllLt e ((dr, ringO w.params t1 t2 t3 most tm (lv) (.ref o)) :: (r, instObj 101 dr) :: (o, listOf (List.toArray (vs)) no) :: rest)) := by
  unfold Ctr
  k_fill
  intro mean mg mb dp un gd cn cs a ccd cl outer A₀ base h₀ L m s R B F X N T hk hdp hu hret
  k_dflt cell_enter
  w_top off
  repeat' (first
    | (k_unfold; (try dsimp only))
    | (k_here; (with_reducible show wpAny _ _ (PySem.call (Value.ref 63) _ _) _ _ _); k_dflt ((refine' Ctr.use (pushU w r dr o _ lv vs vs' t1 t2 t3 most tm no (hC _) hrd ho _ _ ?hh9hU ?hh9hr ?hh9hq) ?hh9B ?hh9F ?hh9X ?hh9N ?hh9T ?hh9hk ?hh9hd ?hh9hu ?_); (case hh9B => k_asm); (case hh9F => k_asm); (case hh9X => k_asm); (case hh9N => k_asm); (case hh9hr => k_mem); (case hh9hq => k_mem); (case hh9hU => (intro D9; k_upd)); (case hh9T => k_asm); (case hh9hk => first | exact rfl | assumption); (case hh9hd => (first | exact roomA (by with_reducible assumption) (by decide) | exact roomAB (by with_reducible assumption) (by decide) | exact roomABC (by with_reducible assumption) (by decide) | exact room0 (by with_reducible assumption) (by rfl) | exact roomN 1 (by with_reducible assumption) (by rfl) (by decide) | exact roomN 2 (by with_reducible assumption) (by rfl) (by decide) | exact roomN 3 (by with_reducible assumption) (by rfl) (by decide) | ktr_room)); (case hh9hu => (first | exact roomA (by with_reducible assumption) (by decide) | exact roomAB (by with_reducible assumption) (by decide) | exact roomABC (by with_reducible assumption) (by decide) | exact room0 (by with_reducible assumption) (by rfl) | exact roomN 3 (by with_reducible assumption) (by rfl) (by decide) | exact roomN 6 (by with_reducible assumption) (by rfl) (by decide) | ktr_units))); intro r9 nx9 h' tk' F' N' hP9; obtain ⟨q9, e9, e9', l9⟩ := hP9; subst e9; subst e9'; (try dsimp only at N'); (try k_lt l9); (try dsimp only); (try k_fold))
    | (k_here; (with_reducible show wpAny _ _ (PySem.call (Value.ref 70) _ _) _ _ _); k_dflt ((refine' Ctr.use (take0u _ _ _ _ _ _ _ _ _ _ _ _ _ _ ?hh9hU ?hh9hr ?hh9hq ?hh9hrd ?hh9hqd) ?hh9B ?hh9F ?hh9X ?hh9N ?hh9T ?hh9hk ?hh9hd ?hh9hu ?_); (case hh9B => k_asm); (case hh9F => k_asm); (case hh9X => k_asm); (case hh9N => k_asm); (case hh9hr => k_mem); (case hh9hq => k_mem); (case hh9hU => (intro D9; k_upd)); (case hh9hrd => (first | with_reducible assumption | exact Ne.symm (by with_reducible assumption) | k_ne)); (case hh9hqd => (first | with_reducible assumption | exact Ne.symm (by with_reducible assumption) | k_ne)); (case hh9T => k_asm); (case hh9hk => first | exact rfl | assumption); (case hh9hd => (first | exact roomA (by with_reducible assumption) (by decide) | exact roomAB (by with_reducible assumption) (by decide) | exact roomABC (by with_reducible assumption) (by decide) | exact room0 (by with_reducible assumption) (by rfl) | exact roomN 1 (by with_reducible assumption) (by rfl) (by decide) | exact roomN 2 (by with_reducible assumption) (by rfl) (by decide) | exact roomN 3 (by with_reducible assumption) (by rfl) (by decide) | ktr_room)); (case hh9hu => (first | exact roomA (by with_reducible assumption) (by decide) | exact roomAB (by with_reducible assumption) (by decide) | exact roomABC (by with_reducible assumption) (by decide) | exact room0 (by with_reducible assumption) (by rfl) | exact roomN 3 (by with_reducible assumption) (by rfl) (by decide) | exact roomN 6 (by with_reducible assumption) (by rfl) (by decide) | ktr_units))); intro r9 nx9 h' tk' F' N' hP9; obtain ⟨q9, e9, e9', l9⟩ := hP9; subst e9; subst e9'; (try dsimp only at N'); (try k_lt l9); (try dsimp only); (try k_fold); (try k_sweep))
    | (k_here; (with_reducible show wpAny _ _ (PySem.call (Value.ref 70) _ _) _ _ _); k_dflt ((refine' Ctr.use (take1u _ _ _ _ _ _ _ _ _ _ _ _ _ _ _ _ ?hh9hU ?hh9hr ?hh9hq ?hh9hz ?hh9hrd ?hh9hqd) ?hh9B ?hh9F ?hh9X ?hh9N ?hh9T ?hh9hk ?hh9hd ?hh9hu ?_); (case hh9B => k_asm); (case hh9F => k_asm); (case hh9X => k_asm); (case hh9N => k_asm); (case hh9hr => k_mem); (case hh9hq => k_mem); (case hh9hU => (intro D9; k_upd)); (case hh9hz => (simp only [List.length_cons, List.length_nil, List.length_append]; omega)); (case hh9hrd => (first | with_reducible assumption | exact Ne.symm (by with_reducible assumption) | k_ne)); (case hh9hqd => (first | with_reducible assumption | exact Ne.symm (by with_reducible assumption) | k_ne)); (case hh9T => k_asm); (case hh9hk => first | exact rfl | assumption); (case hh9hd => (first | exact roomA (by with_reducible assumption) (by decide) | exact roomAB (by with_reducible assumption) (by decide) | exact roomABC (by with_reducible assumption) (by decide) | exact room0 (by with_reducible assumption) (by rfl) | exact roomN 1 (by with_reducible assumption) (by rfl) (by decide) | exact roomN 2 (by with_reducible assumption) (by rfl) (by decide) | exact roomN 3 (by with_reducible assumption) (by rfl) (by decide) | ktr_room)); (case hh9hu => (first | exact roomA (by with_reducible assumption) (by decide) | exact roomAB (by with_reducible assumption) (by decide) | exact roomABC (by with_reducible assumption) (by decide) | exact room0 (by with_reducible assumption) (by rfl) | exact roomN 3 (by with_reducible assumption) (by rfl) (by decide) | exact roomN 6 (by with_reducible assumption) (by rfl) (by decide) | ktr_units))); intro r9 nx9 h' tk' F' N' hP9; obtain ⟨q9, e9, e9', l9⟩ := hP9; subst e9; subst e9'; (try dsimp only at N'); (try k_lt l9); (try dsimp only); (try k_fold); (try k_sweep))
    | (k_here; (with_reducible show wpAny _ _ (PySem.call (Value.ref 56) _ _) _ _ _); k_dflt ((refine' Ctr.use (rows0u _ _ _ _ _ _ _ _ _ _ ?hh9hr ?hh9hdr) ?hh9B ?hh9F ?hh9X ?hh9N ?hh9T ?hh9hk ?hh9hd ?hh9hu ?_); (case hh9B => k_asm); (case hh9F => k_asm); (case hh9X => k_asm); (case hh9N => k_asm); (case hh9hr => k_mem); (case hh9hdr => k_mem); (case hh9T => k_asm); (case hh9hk => first | exact rfl | assumption); (case hh9hd => (first | exact roomA (by with_reducible assumption) (by decide) | exact roomAB (by with_reducible assumption) (by decide) | exact roomABC (by with_reducible assumption) (by decide) | exact room0 (by with_reducible assumption) (by rfl) | exact roomN 1 (by with_reducible assumption) (by rfl) (by decide) | exact roomN 2 (by with_reducible assumption) (by rfl) (by decide) | exact roomN 3 (by with_reducible assumption) (by rfl) (by decide) | ktr_room)); (case hh9hu => (first | exact roomA (by with_reducible assumption) (by decide) | exact roomAB (by with_reducible assumption) (by decide) | exact roomABC (by with_reducible assumption) (by decide) | exact room0 (by with_reducible assumption) (by rfl) | exact roomN 3 (by with_reducible assumption) (by rfl) (by decide) | exact roomN 6 (by with_reducible assumption) (by rfl) (by decide) | ktr_units))); intro r9 nx9 h' tk' F' N' hP9; obtain ⟨e9, e9'⟩ := hP9; subst e9; subst e9'; (try dsimp only); (try k_fold); (try k_sweep))
    | (k_here; (with_reducible show wpAny _ _ (PySem.call (Value.ref 56) _ _) _ _ _); k_dflt ((refine' Ctr.use (rows1u _ _ _ _ _ _ _ _ _ _ _ _ _ ?hh9hr ?hh9hdr ?hh9ho ?hh9hz) ?hh9B ?hh9F ?hh9X ?hh9N ?hh9T ?hh9hk ?hh9hd ?hh9hu ?_); (case hh9B => k_asm); (case hh9F => k_asm); (case hh9X => k_asm); (case hh9N => k_asm); (case hh9hr => k_mem); (case hh9hdr => k_mem); (case hh9ho => k_mem); (case hh9hz => (simp only [List.length_cons, List.length_nil, List.length_append]; omega)); (case hh9T => k_asm); (case hh9hk => first | exact rfl | assumption); (case hh9hd => (first | exact roomA (by with_reducible assumption) (by decide) | exact roomAB (by with_reducible assumption) (by decide) | exact roomABC (by with_reducible assumption) (by decide) | exact room0 (by with_reducible assumption) (by rfl) | exact roomN 1 (by with_reducible assumption) (by rfl) (by decide) | exact roomN 2 (by with_reducible assumption) (by rfl) (by decide) | exact roomN 3 (by with_reducible assumption) (by rfl) (by decide) | ktr_room)); (case hh9hu => (first | exact roomA (by with_reducible assumption) (by decide) | exact roomAB (by with_reducible assumption) (by decide) | exact roomABC (by with_reducible assumption) (by decide) | exact room0 (by with_reducible assumption) (by rfl) | exact roomN 3 (by with_reducible assumption) (by rfl) (by decide) | exact roomN 6 (by with_reducible assumption) (by rfl) (by decide) | ktr_units))); intro r9 nx9 h' tk' F' N' hP9; obtain ⟨q9, e9, e9', l9⟩ := hP9; subst e9; subst e9'; (try k_lt l9); (try dsimp only); (try k_fold); (try k_sweep))
    | (k_here; (with_reducible show wpAny _ _ (subscriptTail _ (PySem.Expr.Slice _ _ none _) (Value.ref _) (Value.ref _)) _ _ _); k_dflt (refine' kms_slice_lit ?hh9F ?hh9N ?hh9l ?hh9p ?hh9q ?hh9e ?_ ?hh9s ?hh9t ?hh9z; (case hh9F => k_asm); (case hh9N => k_asm); (case hh9l => kmk_list); (case hh9p => kmk_part); (case hh9q => kmk_part); (case hh9e => first | exact pickNil _ _ | exact pick1c _ _ | exact pick2c _ _ _ | exact pickT1c _ _ | exact pickLast3 _ _ _ | exact pickBut3 _ _ _ | exact pickLast2 _ _ | exact pickBut2 _ _ | exact pick1 _ | exact pick2 _ | exact pickLast _ | exact pickBut _ | exact pickTo _ _ (by omega)); (case hh9s => with_unfolding_all rfl); (case hh9t => kmk_pure); (case hh9z => (simp only [sizeLine_eq, List.size_toArray, List.length_cons, List.length_nil, List.length_append, List.length_drop, List.length_take]; omega))); intro D' h' F' N' l1; (try k_lt l1); (try k_sweep))
    | (k_here; (with_reducible show wpAny _ _ (compareOp CmpOp.NotEq (Value.ref _) (Value.ref _)) _ _ _); k_dflt (refine' neNil ?hh9a ?hh9b ?hh9u ?_; (case hh9a => kmk_list); (case hh9b => kmk_list); (case hh9u => (first | exact roomA (by with_reducible assumption) (by decide) | exact roomAB (by with_reducible assumption) (by decide) | exact roomABC (by with_reducible assumption) (by decide) | exact room0 (by with_reducible assumption) (by rfl) | exact roomN 3 (by with_reducible assumption) (by rfl) (by decide) | exact roomN 6 (by with_reducible assumption) (by rfl) (by decide) | ktr_units))))
    | (k_here; (with_reducible show wpAny _ _ (compareOp CmpOp.NotEq (Value.ref _) (Value.ref _)) _ _ _); k_dflt (refine' neCons ?hh9a ?hh9b ?hh9u ?_; (case hh9a => kmk_list); (case hh9b => kmk_list); (case hh9u => (first | exact roomA (by with_reducible assumption) (by decide) | exact roomAB (by with_reducible assumption) (by decide) | exact roomABC (by with_reducible assumption) (by decide) | exact room0 (by with_reducible assumption) (by rfl) | exact roomN 3 (by with_reducible assumption) (by rfl) (by decide) | exact roomN 6 (by with_reducible assumption) (by rfl) (by decide) | ktr_units))))
    | (k_here; (with_reducible show wpAny _ _ (compareOp CmpOp.NotEq (Value.ref _) (Value.ref _)) _ _ _); k_dflt (refine' neEmpty ?hh9a ?hh9b ?hh9u ?_; (case hh9a => kmk_list); (case hh9b => kmk_list); (case hh9u => (first | exact roomA (by with_reducible assumption) (by decide) | exact roomAB (by with_reducible assumption) (by decide) | exact roomABC (by with_reducible assumption) (by decide) | exact room0 (by with_reducible assumption) (by rfl) | exact roomN 3 (by with_reducible assumption) (by rfl) (by decide) | exact roomN 6 (by with_reducible assumption) (by rfl) (by decide) | ktr_units))))
    | (k_here; (with_reducible show wpAny _ _ (compareOp CmpOp.Eq (Value.ref _) (Value.ref _)) _ _ _); k_dflt (refine' eqNil ?hh9a ?hh9b ?hh9u ?_; (case hh9a => kmk_list); (case hh9b => kmk_list); (case hh9u => (first | exact roomA (by with_reducible assumption) (by decide) | exact roomAB (by with_reducible assumption) (by decide) | exact roomABC (by with_reducible assumption) (by decide) | exact room0 (by with_reducible assumption) (by rfl) | exact roomN 3 (by with_reducible assumption) (by rfl) (by decide) | exact roomN 6 (by with_reducible assumption) (by rfl) (by decide) | ktr_units))))
    | (k_here; (with_reducible show wpAny _ _ (compareOp CmpOp.Eq (Value.ref _) (Value.ref _)) _ _ _); k_dflt (refine' eqSnoc ?hh9a ?hh9b ?hh9u ?_; (case hh9a => kmk_list); (case hh9b => kmk_list); (case hh9u => (first | exact roomA (by with_reducible assumption) (by decide) | exact roomAB (by with_reducible assumption) (by decide) | exact roomABC (by with_reducible assumption) (by decide) | exact room0 (by with_reducible assumption) (by rfl) | exact roomN 3 (by with_reducible assumption) (by rfl) (by decide) | exact roomN 6 (by with_reducible assumption) (by rfl) (by decide) | ktr_units))))
    | (k_here; (with_reducible show wpAny _ _ (compareOp CmpOp.Eq (Value.ref _) (Value.ref _)) _ _ _); k_dflt (refine' eqCons ?hh9a ?hh9b ?hh9u ?_; (case hh9a => kmk_list); (case hh9b => kmk_list); (case hh9u => (first | exact roomA (by with_reducible assumption) (by decide) | exact roomAB (by with_reducible assumption) (by decide) | exact roomABC (by with_reducible assumption) (by decide) | exact room0 (by with_reducible assumption) (by rfl) | exact roomN 3 (by with_reducible assumption) (by rfl) (by decide) | exact roomN 6 (by with_reducible assumption) (by rfl) (by decide) | ktr_units))))
    | (k_here; (with_reducible show wpAny _ _ (compareOp CmpOp.Eq (Value.ref _) (Value.ref _)) _ _ _); k_dflt (refine' eqEmpty ?hh9a ?hh9b ?hh9u ?_; (case hh9a => kmk_list); (case hh9b => kmk_list); (case hh9u => (first | exact roomA (by with_reducible assumption) (by decide) | exact roomAB (by with_reducible assumption) (by decide) | exact roomABC (by with_reducible assumption) (by decide) | exact room0 (by with_reducible assumption) (by rfl) | exact roomN 3 (by with_reducible assumption) (by rfl) (by decide) | exact roomN 6 (by with_reducible assumption) (by rfl) (by decide) | ktr_units))))
    | (k_here; (with_reducible show wpAny _ _ (binaryOp _ (Value.ref _) (Value.ref _)) _ _ _); k_dflt (refine' kmk_add_lit ?hh9F ?hh9N ?hh9a ?hh9b ?hh9e ?_ ?hh9z; (case hh9F => k_asm); (case hh9N => k_asm); (case hh9a => kmk_list); (case hh9b => kmk_list); (case hh9e => ((simp only [List.cons_append, List.nil_append]); exact rfl)); (case hh9z => (simp only [sizeLine_eq, List.length_cons, List.length_nil, List.length_append, List.length_drop, List.length_take]; omega))); intro D' h' F' N' l1; (try k_lt l1); (try k_sweep))
    | (k_end; wrow_close)
    | walk1
    | (dsimp only; walk1)
    | (leave1; walk_say "STEP leave1"; try dsimp only)
    | fail "no step")
  refine' hret _ _ _ _ ?zf ?zn ⟨_, _, _, _, _, _, _, _, ?zm, rfl, ?za, ?zb, ?zc, ?zd⟩
  (case zf => assumption)
  (case zn => assumption)
  (case zm => kcj_in)
  (case za => (show @LT.lt Nat _ _ _; omega))
  (case zb => (show @LT.lt Nat _ _ _; omega))
  (case zc => (show @LT.lt Nat _ _ _; omega))
  (case zd => (simp only [AllLt]; assumption))
theorem deedP (w : World) (r dr o : Addr) (x : Addr) (vs : List Value) (t1 t2 t3 : Tok) (most : Int) (tm tw tb : Tok) (way beat : Int) (no : Nat) (rest : List (Addr × Obj)) (hz : vs.length ≤ 50) (hrd : r ≠ dr) (ho : o ≠ dr) (hrest : ∀ p ∈ rest, p.1 ≠ dr)
    (hw : way < 3) (hm0 : 1 ≤ most) (hm1 : most ≤ 6) :
    Ctr w 147 [.ref r, .int way tw, .int beat tb] 4 40 ((dr, ringO w.params t1 t2 t3 most tm (.ref x) (.ref o)) :: (r, instObj 101 dr) :: (o, listOf (List.toArray (vs)) no) :: rest)
      (fun nx r' => ∃ X dX e D k1 k2 k3 tf, (∀ p ∈ (D, listOf (List.toArray ((Value.ref x :: vs).take (roomOf most))) 0) :: (X, instObj 31 dX) :: (dX, madeO w.params k1 k2 k3 e beat tb tf) :: (e, tupO beat tb) :: (dr, ringO w.params t1 t2 t3 most tm (.ref X) (.ref D)) :: (r, instObj 101 dr) :: (o, listOf (List.toArray (vs)) no) :: rest, p ∈ nx) ∧ r' = .none ∧
        e < dX ∧ dX < X ∧ X < D ∧ AllLt e ((dr, ringO w.params t1 t2 t3 most tm (.ref x) (.ref o)) :: (r, instObj 101 dr) :: (o, listOf (List.toArray (vs)) no) :: rest)) :=
  deedPush w r dr o _ _ _ t1 t2 t3 most tm tw tb way beat no rest hrd ho hrest hw fun X rest h => pushP w r dr o X x vs t1 t2 t3 most tm no hz hrd ho hm0 hm1 rest h
theorem deedP0 (w : World) (r dr o : Addr) (t1 t2 t3 : Tok) (most : Int) (tm tw tb : Tok) (way beat : Int) (no : Nat) (rest : List (Addr × Obj)) (hrd : r ≠ dr) (ho : o ≠ dr) (hrest : ∀ p ∈ rest, p.1 ≠ dr)
    (hw : way < 3) (hm0 : 1 ≤ most) (hm1 : most ≤ 6) :
    Ctr w 147 [.ref r, .int way tw, .int beat tb] 4 40 ((dr, ringO w.params t1 t2 t3 most tm (.none) (.ref o)) :: (r, instObj 101 dr) :: (o, listOf (List.toArray ([])) no) :: rest)
      (fun nx r' => ∃ X dX e D k1 k2 k3 tf, (∀ p ∈ (D, listOf (List.toArray ([])) 0) :: (X, instObj 31 dX) :: (dX, madeO w.params k1 k2 k3 e beat tb tf) :: (e, tupO beat tb) :: (dr, ringO w.params t1 t2 t3 most tm (.ref X) (.ref D)) :: (r, instObj 101 dr) :: (o, listOf (List.toArray ([])) no) :: rest, p ∈ nx) ∧ r' = .none ∧
        e < dX ∧ dX < X ∧ X < D ∧ AllLt e ((dr, ringO w.params t1 t2 t3 most tm (.none) (.ref o)) :: (r, instObj 101 dr) :: (o, listOf (List.toArray ([])) no) :: rest)) :=
  deedPush w r dr o _ _ _ t1 t2 t3 most tm tw tb way beat no rest hrd ho hrest hw fun X rest h => push0 w r dr o X  t1 t2 t3 most tm no hrd ho hm0 hm1 rest h
end Mine
end
section
open PySem PySem.W PyProof.Rows PySem.Calls PySem.SeqAt
namespace Mine

set_option maxHeartbeats 8000000 in
theorem rowP (w : World) (rw : Addr) (vs : List Value) (way : Int) (most : Int) (tm tw tb : Tok) (beat : Int) (nr : Nat) (rest : List (Addr × Obj)) (hz : vs.length ≤ 50) (hw : way < 3) (hm0 : 1 ≤ most) (hm1 : most ≤ 6) :
    Ctr w 154 [.ref rw, .int way tw, .int beat tb, .int most tm] 1 8 ((rw, listOf (List.toArray (vs)) nr) :: rest)
      (fun nx r' => ∃ D t, (∀ p ∈ (t, ({ cls := .type "tuple", data := .seq #[.ref D, .none] } : Obj)) :: (D, listOf (List.toArray ((Value.int beat tb :: vs).take (topOf most))) 0) :: (rw, listOf (List.toArray (vs)) nr) :: rest, p ∈ nx) ∧ r' = .ref t ∧
        D < t ∧ AllLt D ((rw, listOf (List.toArray (vs)) nr) :: rest)) := by
  unfold Ctr
  k_fill
  intro mean mg mb dp un gd cn cs a ccd cl outer A₀ base h₀ L m s R B F X N T hk hdp hu hret
  k_dflt cell_enter
  w_top off
  repeat' (first
    | (k_unfold; (try dsimp only))
    | ((with_reducible show wpAny _ _ (execs (_ :: _) _) _ _ _); exact absurd (by with_reducible assumption) h6)
    | (k_here; (with_reducible show wpAny _ _ (PySem.call (Value.builtin "len") [Value.ref _]) _ _ _); k_dflt (refine' lenVals ?hh9a ?hh9z ?_; (case hh9a => kmk_list); (case hh9z => ((try simp only [List.length_cons, List.length_nil, List.length_append]); omega))); intro n9 hn9; (try simp only [List.length_cons, List.length_nil, List.length_append] at hn9); (try dsimp only))
    | (k_here; (with_reducible show wpAny _ _ (subscriptTail _ (PySem.Expr.Slice _ _ none _) (Value.ref _) (Value.ref _)) _ _ _); k_dflt (refine' kms_slice_lit ?hh9F ?hh9N ?hh9l ?hh9p ?hh9q ?hh9e ?_ ?hh9s ?hh9t ?hh9z; (case hh9F => k_asm); (case hh9N => k_asm); (case hh9l => kmk_list); (case hh9p => kmk_part); (case hh9q => kmk_part); (case hh9e => first | exact pickNil _ _ | exact pick1c _ _ | exact pick2c _ _ _ | exact pickT1c _ _ | exact pickLast3 _ _ _ | exact pickBut3 _ _ _ | exact pickLast2 _ _ | exact pickBut2 _ _ | exact pick1 _ | exact pick2 _ | exact pickLast _ | exact pickBut _ | exact pickTo _ _ (by omega)); (case hh9s => with_unfolding_all rfl); (case hh9t => kmk_pure); (case hh9z => (simp only [sizeLine_eq, List.size_toArray, List.length_cons, List.length_nil, List.length_append, List.length_drop, List.length_take]; omega))); intro D' h' F' N' l1; (try k_lt l1); (try k_sweep))
    | (k_here; (with_reducible show wpAny _ _ (compareOp CmpOp.NotEq (Value.ref _) (Value.ref _)) _ _ _); k_dflt (refine' neNil ?hh9a ?hh9b ?hh9u ?_; (case hh9a => kmk_list); (case hh9b => kmk_list); (case hh9u => (first | exact roomA (by with_reducible assumption) (by decide) | exact roomAB (by with_reducible assumption) (by decide) | exact roomABC (by with_reducible assumption) (by decide) | exact room0 (by with_reducible assumption) (by rfl) | exact roomN 3 (by with_reducible assumption) (by rfl) (by decide) | exact roomN 6 (by with_reducible assumption) (by rfl) (by decide) | ktr_units))))
    | (k_here; (with_reducible show wpAny _ _ (compareOp CmpOp.NotEq (Value.ref _) (Value.ref _)) _ _ _); k_dflt (refine' neCons ?hh9a ?hh9b ?hh9u ?_; (case hh9a => kmk_list); (case hh9b => kmk_list); (case hh9u => (first | exact roomA (by with_reducible assumption) (by decide) | exact roomAB (by with_reducible assumption) (by decide) | exact roomABC (by with_reducible assumption) (by decide) | exact room0 (by with_reducible assumption) (by rfl) | exact roomN 3 (by with_reducible assumption) (by rfl) (by decide) | exact roomN 6 (by with_reducible assumption) (by rfl) (by decide) | ktr_units))))
    | (k_here; (with_reducible show wpAny _ _ (compareOp CmpOp.NotEq (Value.ref _) (Value.ref _)) _ _ _); k_dflt (refine' neEmpty ?hh9a ?hh9b ?hh9u ?_; (case hh9a => kmk_list); (case hh9b => kmk_list); (case hh9u => (first | exact roomA (by with_reducible assumption) (by decide) | exact roomAB (by with_reducible assumption) (by decide) | exact roomABC (by with_reducible assumption) (by decide) | exact room0 (by with_reducible assumption) (by rfl) | exact roomN 3 (by with_reducible assumption) (by rfl) (by decide) | exact roomN 6 (by with_reducible assumption) (by rfl) (by decide) | ktr_units))))
    | (k_here; (with_reducible show wpAny _ _ (compareOp CmpOp.Eq (Value.ref _) (Value.ref _)) _ _ _); k_dflt (refine' eqNil ?hh9a ?hh9b ?hh9u ?_; (case hh9a => kmk_list); (case hh9b => kmk_list); (case hh9u => (first | exact roomA (by with_reducible assumption) (by decide) | exact roomAB (by with_reducible assumption) (by decide) | exact roomABC (by with_reducible assumption) (by decide) | exact room0 (by with_reducible assumption) (by rfl) | exact roomN 3 (by with_reducible assumption) (by rfl) (by decide) | exact roomN 6 (by with_reducible assumption) (by rfl) (by decide) | ktr_units))))
    | (k_here; (with_reducible show wpAny _ _ (compareOp CmpOp.Eq (Value.ref _) (Value.ref _)) _ _ _); k_dflt (refine' eqSnoc ?hh9a ?hh9b ?hh9u ?_; (case hh9a => kmk_list); (case hh9b => kmk_list); (case hh9u => (first | exact roomA (by with_reducible assumption) (by decide) | exact roomAB (by with_reducible assumption) (by decide) | exact roomABC (by with_reducible assumption) (by decide) | exact room0 (by with_reducible assumption) (by rfl) | exact roomN 3 (by with_reducible assumption) (by rfl) (by decide) | exact roomN 6 (by with_reducible assumption) (by rfl) (by decide) | ktr_units))))
    | (k_here; (with_reducible show wpAny _ _ (compareOp CmpOp.Eq (Value.ref _) (Value.ref _)) _ _ _); k_dflt (refine' eqCons ?hh9a ?hh9b ?hh9u ?_; (case hh9a => kmk_list); (case hh9b => kmk_list); (case hh9u => (first | exact roomA (by with_reducible assumption) (by decide) | exact roomAB (by with_reducible assumption) (by decide) | exact roomABC (by with_reducible assumption) (by decide) | exact room0 (by with_reducible assumption) (by rfl) | exact roomN 3 (by with_reducible assumption) (by rfl) (by decide) | exact roomN 6 (by with_reducible assumption) (by rfl) (by decide) | ktr_units))))
    | (k_here; (with_reducible show wpAny _ _ (compareOp CmpOp.Eq (Value.ref _) (Value.ref _)) _ _ _); k_dflt (refine' eqEmpty ?hh9a ?hh9b ?hh9u ?_; (case hh9a => kmk_list); (case hh9b => kmk_list); (case hh9u => (first | exact roomA (by with_reducible assumption) (by decide) | exact roomAB (by with_reducible assumption) (by decide) | exact roomABC (by with_reducible assumption) (by decide) | exact room0 (by with_reducible assumption) (by rfl) | exact roomN 3 (by with_reducible assumption) (by rfl) (by decide) | exact roomN 6 (by with_reducible assumption) (by rfl) (by decide) | ktr_units))))
    | (k_here; (with_reducible show wpAny _ _ (binaryOp _ (Value.ref _) (Value.ref _)) _ _ _); k_dflt (refine' kmk_add_lit ?hh9F ?hh9N ?hh9a ?hh9b ?hh9e ?_ ?hh9z; (case hh9F => k_asm); (case hh9N => k_asm); (case hh9a => kmk_list); (case hh9b => kmk_list); (case hh9e => ((simp only [List.cons_append, List.nil_append]); exact rfl)); (case hh9z => (simp only [sizeLine_eq, List.length_cons, List.length_nil, List.length_append, List.length_drop, List.length_take]; omega))); intro D' h' F' N' l1; (try k_lt l1); (try k_sweep))
    | (k_end; wrow_close)
    | walk1
    | (dsimp only; walk1)
    | (leave1; walk_say "STEP leave1"; try dsimp only)
    | fail "no step")
  refine' hret _ _ _ _ ?zf ?zn ⟨_, _, ?zm, rfl, ?za, ?zb⟩
  (case zf => assumption)
  (case zn => assumption)
  (case zm => kcj_in)
  (case za => (show @LT.lt Nat _ _ _; omega))
  (case zb => first | (simp only [AllLt]; assumption) | (rename (_ < _ ∧ _) => l9; first | (clear l9; rename (_ < _ ∧ _) => l9; iterate 3 (first | exact l9 | (replace l9 := l9.2))) | (iterate 3 (first | exact l9 | (replace l9 := l9.2)))))

set_option maxHeartbeats 8000000 in
theorem row6 (w : World) (rw : Addr) (vs : List Value) (most : Int) (tm tw tb : Tok) (beat : Int) (nr : Nat) (rest : List (Addr × Obj)) (hz : vs.length ≤ 50) :
    Ctr w 154 [.ref rw, .int 6 tw, .int beat tb, .int most tm] 1 8 ((rw, listOf (List.toArray (vs)) nr) :: rest)
      (fun nx r' => ∃ D t, (∀ p ∈ (t, ({ cls := .type "tuple", data := .seq #[.ref D, .bool (!decide (vs = []))] } : Obj)) :: (D, listOf (List.toArray (vs.drop 1)) 0) :: (rw, listOf (List.toArray (vs)) nr) :: rest, p ∈ nx) ∧ r' = .ref t ∧
        D < t ∧ AllLt D ((rw, listOf (List.toArray (vs)) nr) :: rest)) := by
  unfold Ctr
  k_fill
  intro mean mg mb dp un gd cn cs a ccd cl outer A₀ base h₀ L m s R B F X N T hk hdp hu hret
  k_dflt cell_enter
  w_top off
  repeat' (first
    | (k_unfold; (try dsimp only))
    | ((with_reducible show wpAny _ _ (execs (_ :: _) _) _ _ _); exact absurd (by with_reducible assumption) h6)
    | (k_here; (with_reducible show wpAny _ _ (PySem.call (Value.builtin "len") [Value.ref _]) _ _ _); k_dflt (refine' lenVals ?hh9a ?hh9z ?_; (case hh9a => kmk_list); (case hh9z => ((try simp only [List.length_cons, List.length_nil, List.length_append]); omega))); intro n9 hn9; (try simp only [List.length_cons, List.length_nil, List.length_append] at hn9); (try dsimp only))
    | (k_here; (with_reducible show wpAny _ _ (subscriptTail _ (PySem.Expr.Slice _ _ none _) (Value.ref _) (Value.ref _)) _ _ _); k_dflt (refine' kms_slice_lit ?hh9F ?hh9N ?hh9l ?hh9p ?hh9q ?hh9e ?_ ?hh9s ?hh9t ?hh9z; (case hh9F => k_asm); (case hh9N => k_asm); (case hh9l => kmk_list); (case hh9p => kmk_part); (case hh9q => kmk_part); (case hh9e => first | exact pickNil _ _ | exact pick1c _ _ | exact pick2c _ _ _ | exact pickT1c _ _ | exact pickLast3 _ _ _ | exact pickBut3 _ _ _ | exact pickLast2 _ _ | exact pickBut2 _ _ | exact pick1 _ | exact pick2 _ | exact pickLast _ | exact pickBut _ | exact pickTo _ _ (by omega)); (case hh9s => with_unfolding_all rfl); (case hh9t => kmk_pure); (case hh9z => (simp only [sizeLine_eq, List.size_toArray, List.length_cons, List.length_nil, List.length_append, List.length_drop, List.length_take]; omega))); intro D' h' F' N' l1; (try k_lt l1); (try k_sweep))
    | (k_here; (with_reducible show wpAny _ _ (compareOp CmpOp.NotEq (Value.ref _) (Value.ref _)) _ _ _); k_dflt (refine' neNil ?hh9a ?hh9b ?hh9u ?_; (case hh9a => kmk_list); (case hh9b => kmk_list); (case hh9u => (first | exact roomA (by with_reducible assumption) (by decide) | exact roomAB (by with_reducible assumption) (by decide) | exact roomABC (by with_reducible assumption) (by decide) | exact room0 (by with_reducible assumption) (by rfl) | exact roomN 3 (by with_reducible assumption) (by rfl) (by decide) | exact roomN 6 (by with_reducible assumption) (by rfl) (by decide) | ktr_units))))
    | (k_here; (with_reducible show wpAny _ _ (compareOp CmpOp.NotEq (Value.ref _) (Value.ref _)) _ _ _); k_dflt (refine' neCons ?hh9a ?hh9b ?hh9u ?_; (case hh9a => kmk_list); (case hh9b => kmk_list); (case hh9u => (first | exact roomA (by with_reducible assumption) (by decide) | exact roomAB (by with_reducible assumption) (by decide) | exact roomABC (by with_reducible assumption) (by decide) | exact room0 (by with_reducible assumption) (by rfl) | exact roomN 3 (by with_reducible assumption) (by rfl) (by decide) | exact roomN 6 (by with_reducible assumption) (by rfl) (by decide) | ktr_units))))
    | (k_here; (with_reducible show wpAny _ _ (compareOp CmpOp.NotEq (Value.ref _) (Value.ref _)) _ _ _); k_dflt (refine' neEmpty ?hh9a ?hh9b ?hh9u ?_; (case hh9a => kmk_list); (case hh9b => kmk_list); (case hh9u => (first | exact roomA (by with_reducible assumption) (by decide) | exact roomAB (by with_reducible assumption) (by decide) | exact roomABC (by with_reducible assumption) (by decide) | exact room0 (by with_reducible assumption) (by rfl) | exact roomN 3 (by with_reducible assumption) (by rfl) (by decide) | exact roomN 6 (by with_reducible assumption) (by rfl) (by decide) | ktr_units))))
    | (k_here; (with_reducible show wpAny _ _ (compareOp CmpOp.Eq (Value.ref _) (Value.ref _)) _ _ _); k_dflt (refine' eqNil ?hh9a ?hh9b ?hh9u ?_; (case hh9a => kmk_list); (case hh9b => kmk_list); (case hh9u => (first | exact roomA (by with_reducible assumption) (by decide) | exact roomAB (by with_reducible assumption) (by decide) | exact roomABC (by with_reducible assumption) (by decide) | exact room0 (by with_reducible assumption) (by rfl) | exact roomN 3 (by with_reducible assumption) (by rfl) (by decide) | exact roomN 6 (by with_reducible assumption) (by rfl) (by decide) | ktr_units))))
    | (k_here; (with_reducible show wpAny _ _ (compareOp CmpOp.Eq (Value.ref _) (Value.ref _)) _ _ _); k_dflt (refine' eqSnoc ?hh9a ?hh9b ?hh9u ?_; (case hh9a => kmk_list); (case hh9b => kmk_list); (case hh9u => (first | exact roomA (by with_reducible assumption) (by decide) | exact roomAB (by with_reducible assumption) (by decide) | exact roomABC (by with_reducible assumption) (by decide) | exact room0 (by with_reducible assumption) (by rfl) | exact roomN 3 (by with_reducible assumption) (by rfl) (by decide) | exact roomN 6 (by with_reducible assumption) (by rfl) (by decide) | ktr_units))))
    | (k_here; (with_reducible show wpAny _ _ (compareOp CmpOp.Eq (Value.ref _) (Value.ref _)) _ _ _); k_dflt (refine' eqCons ?hh9a ?hh9b ?hh9u ?_; (case hh9a => kmk_list); (case hh9b => kmk_list); (case hh9u => (first | exact roomA (by with_reducible assumption) (by decide) | exact roomAB (by with_reducible assumption) (by decide) | exact roomABC (by with_reducible assumption) (by decide) | exact room0 (by with_reducible assumption) (by rfl) | exact roomN 3 (by with_reducible assumption) (by rfl) (by decide) | exact roomN 6 (by with_reducible assumption) (by rfl) (by decide) | ktr_units))))
    | (k_here; (with_reducible show wpAny _ _ (compareOp CmpOp.Eq (Value.ref _) (Value.ref _)) _ _ _); k_dflt (refine' eqEmpty ?hh9a ?hh9b ?hh9u ?_; (case hh9a => kmk_list); (case hh9b => kmk_list); (case hh9u => (first | exact roomA (by with_reducible assumption) (by decide) | exact roomAB (by with_reducible assumption) (by decide) | exact roomABC (by with_reducible assumption) (by decide) | exact room0 (by with_reducible assumption) (by rfl) | exact roomN 3 (by with_reducible assumption) (by rfl) (by decide) | exact roomN 6 (by with_reducible assumption) (by rfl) (by decide) | ktr_units))))
    | (k_here; (with_reducible show wpAny _ _ (binaryOp _ (Value.ref _) (Value.ref _)) _ _ _); k_dflt (refine' kmk_add_lit ?hh9F ?hh9N ?hh9a ?hh9b ?hh9e ?_ ?hh9z; (case hh9F => k_asm); (case hh9N => k_asm); (case hh9a => kmk_list); (case hh9b => kmk_list); (case hh9e => ((simp only [List.cons_append, List.nil_append]); exact rfl)); (case hh9z => (simp only [sizeLine_eq, List.length_cons, List.length_nil, List.length_append, List.length_drop, List.length_take]; omega))); intro D' h' F' N' l1; (try k_lt l1); (try k_sweep))
    | (k_end; wrow_close)
    | walk1
    | (dsimp only; walk1)
    | (leave1; walk_say "STEP leave1"; try dsimp only)
    | fail "no step")
  refine' hret _ _ _ _ ?zf ?zn ⟨_, _, ?zm, rfl, ?za, ?zb⟩
  (case zf => assumption)
  (case zn => assumption)
  (case zm => kcj_in)
  (case za => (show @LT.lt Nat _ _ _; omega))
  (case zb => first | (simp only [AllLt]; assumption) | (rename (_ < _ ∧ _) => l9; first | (clear l9; rename (_ < _ ∧ _) => l9; iterate 3 (first | exact l9 | (replace l9 := l9.2))) | (iterate 3 (first | exact l9 | (replace l9 := l9.2)))))

set_option maxHeartbeats 8000000 in
theorem rowS (w : World) (rw : Addr) (vs : List Value) (way : Int) (most : Int) (tm tw tb : Tok) (beat : Int) (nr : Nat) (rest : List (Addr × Obj)) (h3 : ¬ way < 3) (h6 : way ≠ 6) (hl : (vs.length : Int) < 2) (hz : vs.length ≤ 50) :
    Ctr w 154 [.ref rw, .int way tw, .int beat tb, .int most tm] 1 8 ((rw, listOf (List.toArray (vs)) nr) :: rest)
      (fun nx r' => ∃ t, (∀ p ∈ (t, ({ cls := .type "tuple", data := .seq #[.ref rw, .bool false] } : Obj)) :: (rw, listOf (List.toArray (vs)) nr) :: rest, p ∈ nx) ∧ r' = .ref t ∧
        AllLt t ((rw, listOf (List.toArray (vs)) nr) :: rest)) := by
  unfold Ctr
  k_fill
  intro mean mg mb dp un gd cn cs a ccd cl outer A₀ base h₀ L m s R B F X N T hk hdp hu hret
  k_dflt cell_enter
  w_top off
  repeat' (first
    | (k_unfold; (try dsimp only))
    | ((with_reducible show wpAny _ _ (execs (_ :: _) _) _ _ _); exact absurd (by with_reducible assumption) h6)
    | (k_here; (with_reducible show wpAny _ _ (PySem.call (Value.builtin "len") [Value.ref _]) _ _ _); k_dflt (refine' lenVals ?hh9a ?hh9z ?_; (case hh9a => kmk_list); (case hh9z => ((try simp only [List.length_cons, List.length_nil, List.length_append]); omega))); intro n9 hn9; (try simp only [List.length_cons, List.length_nil, List.length_append] at hn9); (try dsimp only))
    | (k_here; (with_reducible show wpAny _ _ (subscriptTail _ (PySem.Expr.Slice _ _ none _) (Value.ref _) (Value.ref _)) _ _ _); k_dflt (refine' kms_slice_lit ?hh9F ?hh9N ?hh9l ?hh9p ?hh9q ?hh9e ?_ ?hh9s ?hh9t ?hh9z; (case hh9F => k_asm); (case hh9N => k_asm); (case hh9l => kmk_list); (case hh9p => kmk_part); (case hh9q => kmk_part); (case hh9e => first | exact pickNil _ _ | exact pick1c _ _ | exact pick2c _ _ _ | exact pickT1c _ _ | exact pickLast3 _ _ _ | exact pickBut3 _ _ _ | exact pickLast2 _ _ | exact pickBut2 _ _ | exact pick1 _ | exact pick2 _ | exact pickLast _ | exact pickBut _ | exact pickTo _ _ (by omega)); (case hh9s => with_unfolding_all rfl); (case hh9t => kmk_pure); (case hh9z => (simp only [sizeLine_eq, List.size_toArray, List.length_cons, List.length_nil, List.length_append, List.length_drop, List.length_take]; omega))); intro D' h' F' N' l1; (try k_lt l1); (try k_sweep))
    | (k_here; (with_reducible show wpAny _ _ (compareOp CmpOp.NotEq (Value.ref _) (Value.ref _)) _ _ _); k_dflt (refine' neNil ?hh9a ?hh9b ?hh9u ?_; (case hh9a => kmk_list); (case hh9b => kmk_list); (case hh9u => (first | exact roomA (by with_reducible assumption) (by decide) | exact roomAB (by with_reducible assumption) (by decide) | exact roomABC (by with_reducible assumption) (by decide) | exact room0 (by with_reducible assumption) (by rfl) | exact roomN 3 (by with_reducible assumption) (by rfl) (by decide) | exact roomN 6 (by with_reducible assumption) (by rfl) (by decide) | ktr_units))))
    | (k_here; (with_reducible show wpAny _ _ (compareOp CmpOp.NotEq (Value.ref _) (Value.ref _)) _ _ _); k_dflt (refine' neCons ?hh9a ?hh9b ?hh9u ?_; (case hh9a => kmk_list); (case hh9b => kmk_list); (case hh9u => (first | exact roomA (by with_reducible assumption) (by decide) | exact roomAB (by with_reducible assumption) (by decide) | exact roomABC (by with_reducible assumption) (by decide) | exact room0 (by with_reducible assumption) (by rfl) | exact roomN 3 (by with_reducible assumption) (by rfl) (by decide) | exact roomN 6 (by with_reducible assumption) (by rfl) (by decide) | ktr_units))))
    | (k_here; (with_reducible show wpAny _ _ (compareOp CmpOp.NotEq (Value.ref _) (Value.ref _)) _ _ _); k_dflt (refine' neEmpty ?hh9a ?hh9b ?hh9u ?_; (case hh9a => kmk_list); (case hh9b => kmk_list); (case hh9u => (first | exact roomA (by with_reducible assumption) (by decide) | exact roomAB (by with_reducible assumption) (by decide) | exact roomABC (by with_reducible assumption) (by decide) | exact room0 (by with_reducible assumption) (by rfl) | exact roomN 3 (by with_reducible assumption) (by rfl) (by decide) | exact roomN 6 (by with_reducible assumption) (by rfl) (by decide) | ktr_units))))
    | (k_here; (with_reducible show wpAny _ _ (compareOp CmpOp.Eq (Value.ref _) (Value.ref _)) _ _ _); k_dflt (refine' eqNil ?hh9a ?hh9b ?hh9u ?_; (case hh9a => kmk_list); (case hh9b => kmk_list); (case hh9u => (first | exact roomA (by with_reducible assumption) (by decide) | exact roomAB (by with_reducible assumption) (by decide) | exact roomABC (by with_reducible assumption) (by decide) | exact room0 (by with_reducible assumption) (by rfl) | exact roomN 3 (by with_reducible assumption) (by rfl) (by decide) | exact roomN 6 (by with_reducible assumption) (by rfl) (by decide) | ktr_units))))
    | (k_here; (with_reducible show wpAny _ _ (compareOp CmpOp.Eq (Value.ref _) (Value.ref _)) _ _ _); k_dflt (refine' eqSnoc ?hh9a ?hh9b ?hh9u ?_; (case hh9a => kmk_list); (case hh9b => kmk_list); (case hh9u => (first | exact roomA (by with_reducible assumption) (by decide) | exact roomAB (by with_reducible assumption) (by decide) | exact roomABC (by with_reducible assumption) (by decide) | exact room0 (by with_reducible assumption) (by rfl) | exact roomN 3 (by with_reducible assumption) (by rfl) (by decide) | exact roomN 6 (by with_reducible assumption) (by rfl) (by decide) | ktr_units))))
    | (k_here; (with_reducible show wpAny _ _ (compareOp CmpOp.Eq (Value.ref _) (Value.ref _)) _ _ _); k_dflt (refine' eqCons ?hh9a ?hh9b ?hh9u ?_; (case hh9a => kmk_list); (case hh9b => kmk_list); (case hh9u => (first | exact roomA (by with_reducible assumption) (by decide) | exact roomAB (by with_reducible assumption) (by decide) | exact roomABC (by with_reducible assumption) (by decide) | exact room0 (by with_reducible assumption) (by rfl) | exact roomN 3 (by with_reducible assumption) (by rfl) (by decide) | exact roomN 6 (by with_reducible assumption) (by rfl) (by decide) | ktr_units))))
    | (k_here; (with_reducible show wpAny _ _ (compareOp CmpOp.Eq (Value.ref _) (Value.ref _)) _ _ _); k_dflt (refine' eqEmpty ?hh9a ?hh9b ?hh9u ?_; (case hh9a => kmk_list); (case hh9b => kmk_list); (case hh9u => (first | exact roomA (by with_reducible assumption) (by decide) | exact roomAB (by with_reducible assumption) (by decide) | exact roomABC (by with_reducible assumption) (by decide) | exact room0 (by with_reducible assumption) (by rfl) | exact roomN 3 (by with_reducible assumption) (by rfl) (by decide) | exact roomN 6 (by with_reducible assumption) (by rfl) (by decide) | ktr_units))))
    | (k_here; (with_reducible show wpAny _ _ (binaryOp _ (Value.ref _) (Value.ref _)) _ _ _); k_dflt (refine' kmk_add_lit ?hh9F ?hh9N ?hh9a ?hh9b ?hh9e ?_ ?hh9z; (case hh9F => k_asm); (case hh9N => k_asm); (case hh9a => kmk_list); (case hh9b => kmk_list); (case hh9e => ((simp only [List.cons_append, List.nil_append]); exact rfl)); (case hh9z => (simp only [sizeLine_eq, List.length_cons, List.length_nil, List.length_append, List.length_drop, List.length_take]; omega))); intro D' h' F' N' l1; (try k_lt l1); (try k_sweep))
    | (k_end; wrow_close)
    | walk1
    | (dsimp only; walk1)
    | (leave1; walk_say "STEP leave1"; try dsimp only)
    | fail "no step")
  rename (_ < _ ∧ _) => l9
  exact hret _ _ _ _ (by assumption) (by assumption) ⟨_, (by kcj_in), rfl, l9⟩

set_option maxHeartbeats 8000000 in
theorem row3m (w : World) (rw : Addr) (x y : Value) (ys : List Value) (most : Int) (tm tw tb : Tok) (beat : Int) (nr : Nat) (rest : List (Addr × Obj)) (hz : ys.length ≤ 50) :
    Ctr w 154 [.ref rw, .int 3 tw, .int beat tb, .int most tm] 1 8 ((rw, listOf (List.toArray (x :: y :: ys)) nr) :: rest)
      (fun nx r' => ∃ D t, (∀ p ∈ (t, ({ cls := .type "tuple", data := .seq #[.ref D, .bool true] } : Obj)) :: (D, listOf (List.toArray (y :: (ys ++ [x]))) 0) :: (rw, listOf (List.toArray (x :: y :: ys)) nr) :: rest, p ∈ nx) ∧ r' = .ref t ∧
        D < t ∧ AllLt D ((rw, listOf (List.toArray (x :: y :: ys)) nr) :: rest)) := by
  unfold Ctr
  k_fill
  intro mean mg mb dp un gd cn cs a ccd cl outer A₀ base h₀ L m s R B F X N T hk hdp hu hret
  k_dflt cell_enter
  w_top off
  repeat' (first
    | (k_unfold; (try dsimp only))
    | ((with_reducible show wpAny _ _ (execs (_ :: _) _) _ _ _); exact absurd (by with_reducible assumption) h6)
    | (k_here; (with_reducible show wpAny _ _ (PySem.call (Value.builtin "len") [Value.ref _]) _ _ _); k_dflt (refine' lenVals ?hh9a ?hh9z ?_; (case hh9a => kmk_list); (case hh9z => ((try simp only [List.length_cons, List.length_nil, List.length_append]); omega))); intro n9 hn9; (try simp only [List.length_cons, List.length_nil, List.length_append] at hn9); (try dsimp only))
    | (k_here; (with_reducible show wpAny _ _ (subscriptTail _ (PySem.Expr.Slice _ _ none _) (Value.ref _) (Value.ref _)) _ _ _); k_dflt (refine' kms_slice_lit ?hh9F ?hh9N ?hh9l ?hh9p ?hh9q ?hh9e ?_ ?hh9s ?hh9t ?hh9z; (case hh9F => k_asm); (case hh9N => k_asm); (case hh9l => kmk_list); (case hh9p => kmk_part); (case hh9q => kmk_part); (case hh9e => first | exact pickNil _ _ | exact pick1c _ _ | exact pick2c _ _ _ | exact pickT1c _ _ | exact pickLast3 _ _ _ | exact pickBut3 _ _ _ | exact pickLast2 _ _ | exact pickBut2 _ _ | exact pick1 _ | exact pick2 _ | exact pickLast _ | exact pickBut _ | exact pickTo _ _ (by omega)); (case hh9s => with_unfolding_all rfl); (case hh9t => kmk_pure); (case hh9z => (simp only [sizeLine_eq, List.size_toArray, List.length_cons, List.length_nil, List.length_append, List.length_drop, List.length_take]; omega))); intro D' h' F' N' l1; (try k_lt l1); (try k_sweep))
    | (k_here; (with_reducible show wpAny _ _ (compareOp CmpOp.NotEq (Value.ref _) (Value.ref _)) _ _ _); k_dflt (refine' neNil ?hh9a ?hh9b ?hh9u ?_; (case hh9a => kmk_list); (case hh9b => kmk_list); (case hh9u => (first | exact roomA (by with_reducible assumption) (by decide) | exact roomAB (by with_reducible assumption) (by decide) | exact roomABC (by with_reducible assumption) (by decide) | exact room0 (by with_reducible assumption) (by rfl) | exact roomN 3 (by with_reducible assumption) (by rfl) (by decide) | exact roomN 6 (by with_reducible assumption) (by rfl) (by decide) | ktr_units))))
    | (k_here; (with_reducible show wpAny _ _ (compareOp CmpOp.NotEq (Value.ref _) (Value.ref _)) _ _ _); k_dflt (refine' neCons ?hh9a ?hh9b ?hh9u ?_; (case hh9a => kmk_list); (case hh9b => kmk_list); (case hh9u => (first | exact roomA (by with_reducible assumption) (by decide) | exact roomAB (by with_reducible assumption) (by decide) | exact roomABC (by with_reducible assumption) (by decide) | exact room0 (by with_reducible assumption) (by rfl) | exact roomN 3 (by with_reducible assumption) (by rfl) (by decide) | exact roomN 6 (by with_reducible assumption) (by rfl) (by decide) | ktr_units))))
    | (k_here; (with_reducible show wpAny _ _ (compareOp CmpOp.NotEq (Value.ref _) (Value.ref _)) _ _ _); k_dflt (refine' neEmpty ?hh9a ?hh9b ?hh9u ?_; (case hh9a => kmk_list); (case hh9b => kmk_list); (case hh9u => (first | exact roomA (by with_reducible assumption) (by decide) | exact roomAB (by with_reducible assumption) (by decide) | exact roomABC (by with_reducible assumption) (by decide) | exact room0 (by with_reducible assumption) (by rfl) | exact roomN 3 (by with_reducible assumption) (by rfl) (by decide) | exact roomN 6 (by with_reducible assumption) (by rfl) (by decide) | ktr_units))))
    | (k_here; (with_reducible show wpAny _ _ (compareOp CmpOp.Eq (Value.ref _) (Value.ref _)) _ _ _); k_dflt (refine' eqNil ?hh9a ?hh9b ?hh9u ?_; (case hh9a => kmk_list); (case hh9b => kmk_list); (case hh9u => (first | exact roomA (by with_reducible assumption) (by decide) | exact roomAB (by with_reducible assumption) (by decide) | exact roomABC (by with_reducible assumption) (by decide) | exact room0 (by with_reducible assumption) (by rfl) | exact roomN 3 (by with_reducible assumption) (by rfl) (by decide) | exact roomN 6 (by with_reducible assumption) (by rfl) (by decide) | ktr_units))))
    | (k_here; (with_reducible show wpAny _ _ (compareOp CmpOp.Eq (Value.ref _) (Value.ref _)) _ _ _); k_dflt (refine' eqSnoc ?hh9a ?hh9b ?hh9u ?_; (case hh9a => kmk_list); (case hh9b => kmk_list); (case hh9u => (first | exact roomA (by with_reducible assumption) (by decide) | exact roomAB (by with_reducible assumption) (by decide) | exact roomABC (by with_reducible assumption) (by decide) | exact room0 (by with_reducible assumption) (by rfl) | exact roomN 3 (by with_reducible assumption) (by rfl) (by decide) | exact roomN 6 (by with_reducible assumption) (by rfl) (by decide) | ktr_units))))
    | (k_here; (with_reducible show wpAny _ _ (compareOp CmpOp.Eq (Value.ref _) (Value.ref _)) _ _ _); k_dflt (refine' eqCons ?hh9a ?hh9b ?hh9u ?_; (case hh9a => kmk_list); (case hh9b => kmk_list); (case hh9u => (first | exact roomA (by with_reducible assumption) (by decide) | exact roomAB (by with_reducible assumption) (by decide) | exact roomABC (by with_reducible assumption) (by decide) | exact room0 (by with_reducible assumption) (by rfl) | exact roomN 3 (by with_reducible assumption) (by rfl) (by decide) | exact roomN 6 (by with_reducible assumption) (by rfl) (by decide) | ktr_units))))
    | (k_here; (with_reducible show wpAny _ _ (compareOp CmpOp.Eq (Value.ref _) (Value.ref _)) _ _ _); k_dflt (refine' eqEmpty ?hh9a ?hh9b ?hh9u ?_; (case hh9a => kmk_list); (case hh9b => kmk_list); (case hh9u => (first | exact roomA (by with_reducible assumption) (by decide) | exact roomAB (by with_reducible assumption) (by decide) | exact roomABC (by with_reducible assumption) (by decide) | exact room0 (by with_reducible assumption) (by rfl) | exact roomN 3 (by with_reducible assumption) (by rfl) (by decide) | exact roomN 6 (by with_reducible assumption) (by rfl) (by decide) | ktr_units))))
    | (k_here; (with_reducible show wpAny _ _ (binaryOp _ (Value.ref _) (Value.ref _)) _ _ _); k_dflt (refine' kmk_add_lit ?hh9F ?hh9N ?hh9a ?hh9b ?hh9e ?_ ?hh9z; (case hh9F => k_asm); (case hh9N => k_asm); (case hh9a => kmk_list); (case hh9b => kmk_list); (case hh9e => ((simp only [List.cons_append, List.nil_append]); exact rfl)); (case hh9z => (simp only [sizeLine_eq, List.length_cons, List.length_nil, List.length_append, List.length_drop, List.length_take]; omega))); intro D' h' F' N' l1; (try k_lt l1); (try k_sweep))
    | (k_end; wrow_close)
    | walk1
    | (dsimp only; walk1)
    | (leave1; walk_say "STEP leave1"; try dsimp only)
    | fail "no step")
  refine' hret _ _ _ _ ?zf ?zn ⟨_, _, ?zm, rfl, ?za, ?zb⟩
  (case zf => assumption)
  (case zn => assumption)
  (case zm => kcj_in)
  (case za => (show @LT.lt Nat _ _ _; omega))
  (case zb => first | (simp only [AllLt]; assumption) | (rename (_ < _ ∧ _) => l9; first | (clear l9; rename (_ < _ ∧ _) => l9; iterate 3 (first | exact l9 | (replace l9 := l9.2))) | (iterate 3 (first | exact l9 | (replace l9 := l9.2)))))

set_option maxHeartbeats 8000000 in
theorem row4m (w : World) (rw : Addr) (x y : Value) (ys : List Value) (most : Int) (tm tw tb : Tok) (beat : Int) (nr : Nat) (rest : List (Addr × Obj)) (hz : ys.length ≤ 50) :
    Ctr w 154 [.ref rw, .int 4 tw, .int beat tb, .int most tm] 1 8 ((rw, listOf (List.toArray (x :: (ys ++ [y]))) nr) :: rest)
      (fun nx r' => ∃ D t, (∀ p ∈ (t, ({ cls := .type "tuple", data := .seq #[.ref D, .bool true] } : Obj)) :: (D, listOf (List.toArray (y :: x :: ys)) 0) :: (rw, listOf (List.toArray (x :: (ys ++ [y]))) nr) :: rest, p ∈ nx) ∧ r' = .ref t ∧
        D < t ∧ AllLt D ((rw, listOf (List.toArray (x :: (ys ++ [y]))) nr) :: rest)) := by
  unfold Ctr
  k_fill
  intro mean mg mb dp un gd cn cs a ccd cl outer A₀ base h₀ L m s R B F X N T hk hdp hu hret
  k_dflt cell_enter
  w_top off
  repeat' (first
    | (k_unfold; (try dsimp only))
    | ((with_reducible show wpAny _ _ (execs (_ :: _) _) _ _ _); exact absurd (by with_reducible assumption) h6)
    | (k_here; (with_reducible show wpAny _ _ (PySem.call (Value.builtin "len") [Value.ref _]) _ _ _); k_dflt (refine' lenVals ?hh9a ?hh9z ?_; (case hh9a => kmk_list); (case hh9z => ((try simp only [List.length_cons, List.length_nil, List.length_append]); omega))); intro n9 hn9; (try simp only [List.length_cons, List.length_nil, List.length_append] at hn9); (try dsimp only))
    | (k_here; (with_reducible show wpAny _ _ (subscriptTail _ (PySem.Expr.Slice _ _ none _) (Value.ref _) (Value.ref _)) _ _ _); k_dflt (refine' kms_slice_lit ?hh9F ?hh9N ?hh9l ?hh9p ?hh9q ?hh9e ?_ ?hh9s ?hh9t ?hh9z; (case hh9F => k_asm); (case hh9N => k_asm); (case hh9l => kmk_list); (case hh9p => kmk_part); (case hh9q => kmk_part); (case hh9e => first | exact pickNil _ _ | exact pick1c _ _ | exact pick2c _ _ _ | exact pickT1c _ _ | exact pickLast3 _ _ _ | exact pickBut3 _ _ _ | exact pickLast2 _ _ | exact pickBut2 _ _ | exact pick1 _ | exact pick2 _ | exact pickLast _ | exact pickBut _ | exact pickTo _ _ (by omega)); (case hh9s => with_unfolding_all rfl); (case hh9t => kmk_pure); (case hh9z => (simp only [sizeLine_eq, List.size_toArray, List.length_cons, List.length_nil, List.length_append, List.length_drop, List.length_take]; omega))); intro D' h' F' N' l1; (try k_lt l1); (try k_sweep))
    | (k_here; (with_reducible show wpAny _ _ (compareOp CmpOp.NotEq (Value.ref _) (Value.ref _)) _ _ _); k_dflt (refine' neNil ?hh9a ?hh9b ?hh9u ?_; (case hh9a => kmk_list); (case hh9b => kmk_list); (case hh9u => (first | exact roomA (by with_reducible assumption) (by decide) | exact roomAB (by with_reducible assumption) (by decide) | exact roomABC (by with_reducible assumption) (by decide) | exact room0 (by with_reducible assumption) (by rfl) | exact roomN 3 (by with_reducible assumption) (by rfl) (by decide) | exact roomN 6 (by with_reducible assumption) (by rfl) (by decide) | ktr_units))))
    | (k_here; (with_reducible show wpAny _ _ (compareOp CmpOp.NotEq (Value.ref _) (Value.ref _)) _ _ _); k_dflt (refine' neCons ?hh9a ?hh9b ?hh9u ?_; (case hh9a => kmk_list); (case hh9b => kmk_list); (case hh9u => (first | exact roomA (by with_reducible assumption) (by decide) | exact roomAB (by with_reducible assumption) (by decide) | exact roomABC (by with_reducible assumption) (by decide) | exact room0 (by with_reducible assumption) (by rfl) | exact roomN 3 (by with_reducible assumption) (by rfl) (by decide) | exact roomN 6 (by with_reducible assumption) (by rfl) (by decide) | ktr_units))))
    | (k_here; (with_reducible show wpAny _ _ (compareOp CmpOp.NotEq (Value.ref _) (Value.ref _)) _ _ _); k_dflt (refine' neEmpty ?hh9a ?hh9b ?hh9u ?_; (case hh9a => kmk_list); (case hh9b => kmk_list); (case hh9u => (first | exact roomA (by with_reducible assumption) (by decide) | exact roomAB (by with_reducible assumption) (by decide) | exact roomABC (by with_reducible assumption) (by decide) | exact room0 (by with_reducible assumption) (by rfl) | exact roomN 3 (by with_reducible assumption) (by rfl) (by decide) | exact roomN 6 (by with_reducible assumption) (by rfl) (by decide) | ktr_units))))
    | (k_here; (with_reducible show wpAny _ _ (compareOp CmpOp.Eq (Value.ref _) (Value.ref _)) _ _ _); k_dflt (refine' eqNil ?hh9a ?hh9b ?hh9u ?_; (case hh9a => kmk_list); (case hh9b => kmk_list); (case hh9u => (first | exact roomA (by with_reducible assumption) (by decide) | exact roomAB (by with_reducible assumption) (by decide) | exact roomABC (by with_reducible assumption) (by decide) | exact room0 (by with_reducible assumption) (by rfl) | exact roomN 3 (by with_reducible assumption) (by rfl) (by decide) | exact roomN 6 (by with_reducible assumption) (by rfl) (by decide) | ktr_units))))
    | (k_here; (with_reducible show wpAny _ _ (compareOp CmpOp.Eq (Value.ref _) (Value.ref _)) _ _ _); k_dflt (refine' eqSnoc ?hh9a ?hh9b ?hh9u ?_; (case hh9a => kmk_list); (case hh9b => kmk_list); (case hh9u => (first | exact roomA (by with_reducible assumption) (by decide) | exact roomAB (by with_reducible assumption) (by decide) | exact roomABC (by with_reducible assumption) (by decide) | exact room0 (by with_reducible assumption) (by rfl) | exact roomN 3 (by with_reducible assumption) (by rfl) (by decide) | exact roomN 6 (by with_reducible assumption) (by rfl) (by decide) | ktr_units))))
    | (k_here; (with_reducible show wpAny _ _ (compareOp CmpOp.Eq (Value.ref _) (Value.ref _)) _ _ _); k_dflt (refine' eqCons ?hh9a ?hh9b ?hh9u ?_; (case hh9a => kmk_list); (case hh9b => kmk_list); (case hh9u => (first | exact roomA (by with_reducible assumption) (by decide) | exact roomAB (by with_reducible assumption) (by decide) | exact roomABC (by with_reducible assumption) (by decide) | exact room0 (by with_reducible assumption) (by rfl) | exact roomN 3 (by with_reducible assumption) (by rfl) (by decide) | exact roomN 6 (by with_reducible assumption) (by rfl) (by decide) | ktr_units))))
    | (k_here; (with_reducible show wpAny _ _ (compareOp CmpOp.Eq (Value.ref _) (Value.ref _)) _ _ _); k_dflt (refine' eqEmpty ?hh9a ?hh9b ?hh9u ?_; (case hh9a => kmk_list); (case hh9b => kmk_list); (case hh9u => (first | exact roomA (by with_reducible assumption) (by decide) | exact roomAB (by with_reducible assumption) (by decide) | exact roomABC (by with_reducible assumption) (by decide) | exact room0 (by with_reducible assumption) (by rfl) | exact roomN 3 (by with_reducible assumption) (by rfl) (by decide) | exact roomN 6 (by with_reducible assumption) (by rfl) (by decide) | ktr_units))))
    | (k_here; (with_reducible show wpAny _ _ (binaryOp _ (Value.ref _) (Value.ref _)) _ _ _); k_dflt (refine' kmk_add_lit ?hh9F ?hh9N ?hh9a ?hh9b ?hh9e ?_ ?hh9z; (case hh9F => k_asm); (case hh9N => k_asm); (case hh9a => kmk_list); (case hh9b => kmk_list); (case hh9e => ((simp only [List.cons_append, List.nil_append]); exact rfl)); (case hh9z => (simp only [sizeLine_eq, List.length_cons, List.length_nil, List.length_append, List.length_drop, List.length_take]; omega))); intro D' h' F' N' l1; (try k_lt l1); (try k_sweep))
    | (k_end; wrow_close)
    | walk1
    | (dsimp only; walk1)
    | (leave1; walk_say "STEP leave1"; try dsimp only)
    | fail "no step")
  refine' hret _ _ _ _ ?zf ?zn ⟨_, _, ?zm, rfl, ?za, ?zb⟩
  (case zf => assumption)
  (case zn => assumption)
  (case zm => kcj_in)
  (case za => (show @LT.lt Nat _ _ _; omega))
  (case zb => first | (simp only [AllLt]; assumption) | (rename (_ < _ ∧ _) => l9; first | (clear l9; rename (_ < _ ∧ _) => l9; iterate 3 (first | exact l9 | (replace l9 := l9.2))) | (iterate 3 (first | exact l9 | (replace l9 := l9.2)))))

set_option maxHeartbeats 8000000 in
theorem row5m (w : World) (rw : Addr) (x y : Value) (ys : List Value) (most : Int) (tm tw tb : Tok) (beat : Int) (nr : Nat) (rest : List (Addr × Obj)) (hz : ys.length ≤ 50) :
    Ctr w 154 [.ref rw, .int 5 tw, .int beat tb, .int most tm] 1 8 ((rw, listOf (List.toArray (x :: y :: ys)) nr) :: rest)
      (fun nx r' => ∃ D t, (∀ p ∈ (t, ({ cls := .type "tuple", data := .seq #[.ref D, .bool true] } : Obj)) :: (D, listOf (List.toArray (y :: x :: ys)) 0) :: (rw, listOf (List.toArray (x :: y :: ys)) nr) :: rest, p ∈ nx) ∧ r' = .ref t ∧
        D < t ∧ AllLt D ((rw, listOf (List.toArray (x :: y :: ys)) nr) :: rest)) := by
  unfold Ctr
  k_fill
  intro mean mg mb dp un gd cn cs a ccd cl outer A₀ base h₀ L m s R B F X N T hk hdp hu hret
  k_dflt cell_enter
  w_top off
  repeat' (first
    | (k_unfold; (try dsimp only))
    | ((with_reducible show wpAny _ _ (execs (_ :: _) _) _ _ _); exact absurd (by with_reducible assumption) h6)
    | (k_here; (with_reducible show wpAny _ _ (PySem.call (Value.builtin "len") [Value.ref _]) _ _ _); k_dflt (refine' lenVals ?hh9a ?hh9z ?_; (case hh9a => kmk_list); (case hh9z => ((try simp only [List.length_cons, List.length_nil, List.length_append]); omega))); intro n9 hn9; (try simp only [List.length_cons, List.length_nil, List.length_append] at hn9); (try dsimp only))
    | (k_here; (with_reducible show wpAny _ _ (subscriptTail _ (PySem.Expr.Slice _ _ none _) (Value.ref _) (Value.ref _)) _ _ _); k_dflt (refine' kms_slice_lit ?hh9F ?hh9N ?hh9l ?hh9p ?hh9q ?hh9e ?_ ?hh9s ?hh9t ?hh9z; (case hh9F => k_asm); (case hh9N => k_asm); (case hh9l => kmk_list); (case hh9p => kmk_part); (case hh9q => kmk_part); (case hh9e => first | exact pickNil _ _ | exact pick1c _ _ | exact pick2c _ _ _ | exact pickT1c _ _ | exact pickLast3 _ _ _ | exact pickBut3 _ _ _ | exact pickLast2 _ _ | exact pickBut2 _ _ | exact pick1 _ | exact pick2 _ | exact pickLast _ | exact pickBut _ | exact pickTo _ _ (by omega)); (case hh9s => with_unfolding_all rfl); (case hh9t => kmk_pure); (case hh9z => (simp only [sizeLine_eq, List.size_toArray, List.length_cons, List.length_nil, List.length_append, List.length_drop, List.length_take]; omega))); intro D' h' F' N' l1; (try k_lt l1); (try k_sweep))
    | (k_here; (with_reducible show wpAny _ _ (compareOp CmpOp.NotEq (Value.ref _) (Value.ref _)) _ _ _); k_dflt (refine' neNil ?hh9a ?hh9b ?hh9u ?_; (case hh9a => kmk_list); (case hh9b => kmk_list); (case hh9u => (first | exact roomA (by with_reducible assumption) (by decide) | exact roomAB (by with_reducible assumption) (by decide) | exact roomABC (by with_reducible assumption) (by decide) | exact room0 (by with_reducible assumption) (by rfl) | exact roomN 3 (by with_reducible assumption) (by rfl) (by decide) | exact roomN 6 (by with_reducible assumption) (by rfl) (by decide) | ktr_units))))
    | (k_here; (with_reducible show wpAny _ _ (compareOp CmpOp.NotEq (Value.ref _) (Value.ref _)) _ _ _); k_dflt (refine' neCons ?hh9a ?hh9b ?hh9u ?_; (case hh9a => kmk_list); (case hh9b => kmk_list); (case hh9u => (first | exact roomA (by with_reducible assumption) (by decide) | exact roomAB (by with_reducible assumption) (by decide) | exact roomABC (by with_reducible assumption) (by decide) | exact room0 (by with_reducible assumption) (by rfl) | exact roomN 3 (by with_reducible assumption) (by rfl) (by decide) | exact roomN 6 (by with_reducible assumption) (by rfl) (by decide) | ktr_units))))
    | (k_here; (with_reducible show wpAny _ _ (compareOp CmpOp.NotEq (Value.ref _) (Value.ref _)) _ _ _); k_dflt (refine' neEmpty ?hh9a ?hh9b ?hh9u ?_; (case hh9a => kmk_list); (case hh9b => kmk_list); (case hh9u => (first | exact roomA (by with_reducible assumption) (by decide) | exact roomAB (by with_reducible assumption) (by decide) | exact roomABC (by with_reducible assumption) (by decide) | exact room0 (by with_reducible assumption) (by rfl) | exact roomN 3 (by with_reducible assumption) (by rfl) (by decide) | exact roomN 6 (by with_reducible assumption) (by rfl) (by decide) | ktr_units))))
    | (k_here; (with_reducible show wpAny _ _ (compareOp CmpOp.Eq (Value.ref _) (Value.ref _)) _ _ _); k_dflt (refine' eqNil ?hh9a ?hh9b ?hh9u ?_; (case hh9a => kmk_list); (case hh9b => kmk_list); (case hh9u => (first | exact roomA (by with_reducible assumption) (by decide) | exact roomAB (by with_reducible assumption) (by decide) | exact roomABC (by with_reducible assumption) (by decide) | exact room0 (by with_reducible assumption) (by rfl) | exact roomN 3 (by with_reducible assumption) (by rfl) (by decide) | exact roomN 6 (by with_reducible assumption) (by rfl) (by decide) | ktr_units))))
    | (k_here; (with_reducible show wpAny _ _ (compareOp CmpOp.Eq (Value.ref _) (Value.ref _)) _ _ _); k_dflt (refine' eqSnoc ?hh9a ?hh9b ?hh9u ?_; (case hh9a => kmk_list); (case hh9b => kmk_list); (case hh9u => (first | exact roomA (by with_reducible assumption) (by decide) | exact roomAB (by with_reducible assumption) (by decide) | exact roomABC (by with_reducible assumption) (by decide) | exact room0 (by with_reducible assumption) (by rfl) | exact roomN 3 (by with_reducible assumption) (by rfl) (by decide) | exact roomN 6 (by with_reducible assumption) (by rfl) (by decide) | ktr_units))))
    | (k_here; (with_reducible show wpAny _ _ (compareOp CmpOp.Eq (Value.ref _) (Value.ref _)) _ _ _); k_dflt (refine' eqCons ?hh9a ?hh9b ?hh9u ?_; (case hh9a => kmk_list); (case hh9b => kmk_list); (case hh9u => (first | exact roomA (by with_reducible assumption) (by decide) | exact roomAB (by with_reducible assumption) (by decide) | exact roomABC (by with_reducible assumption) (by decide) | exact room0 (by with_reducible assumption) (by rfl) | exact roomN 3 (by with_reducible assumption) (by rfl) (by decide) | exact roomN 6 (by with_reducible assumption) (by rfl) (by decide) | ktr_units))))
    | (k_here; (with_reducible show wpAny _ _ (compareOp CmpOp.Eq (Value.ref _) (Value.ref _)) _ _ _); k_dflt (refine' eqEmpty ?hh9a ?hh9b ?hh9u ?_; (case hh9a => kmk_list); (case hh9b => kmk_list); (case hh9u => (first | exact roomA (by with_reducible assumption) (by decide) | exact roomAB (by with_reducible assumption) (by decide) | exact roomABC (by with_reducible assumption) (by decide) | exact room0 (by with_reducible assumption) (by rfl) | exact roomN 3 (by with_reducible assumption) (by rfl) (by decide) | exact roomN 6 (by with_reducible assumption) (by rfl) (by decide) | ktr_units))))
    | (k_here; (with_reducible show wpAny _ _ (binaryOp _ (Value.ref _) (Value.ref _)) _ _ _); k_dflt (refine' kmk_add_lit ?hh9F ?hh9N ?hh9a ?hh9b ?hh9e ?_ ?hh9z; (case hh9F => k_asm); (case hh9N => k_asm); (case hh9a => kmk_list); (case hh9b => kmk_list); (case hh9e => ((simp only [List.cons_append, List.nil_append]); exact rfl)); (case hh9z => (simp only [sizeLine_eq, List.length_cons, List.length_nil, List.length_append, List.length_drop, List.length_take]; omega))); intro D' h' F' N' l1; (try k_lt l1); (try k_sweep))
    | (k_end; wrow_close)
    | walk1
    | (dsimp only; walk1)
    | (leave1; walk_say "STEP leave1"; try dsimp only)
    | fail "no step")
  refine' hret _ _ _ _ ?zf ?zn ⟨_, _, ?zm, rfl, ?za, ?zb⟩
  (case zf => assumption)
  (case zn => assumption)
  (case zm => kcj_in)
  (case za => (show @LT.lt Nat _ _ _; omega))
  (case zb => first | (simp only [AllLt]; assumption) | (rename (_ < _ ∧ _) => l9; first | (clear l9; rename (_ < _ ∧ _) => l9; iterate 3 (first | exact l9 | (replace l9 := l9.2))) | (iterate 3 (first | exact l9 | (replace l9 := l9.2)))))
end Mine
end
section
open PySem PySem.W PyProof.Rows PySem.Calls PySem.SeqAt
namespace Mine
/-- one deed upon a row of anything: `x` is what a new macro brings -/
noncomputable def stepL {α : Type} (most : Nat) (way : Int) (x : α) (l : List α) : List α :=
  if way < 3 then (x :: l).take most
  else if way = 6 then l.drop 1
  else match l with
    | [] => []
    | [a] => [a]
    | a :: b :: r => if way = 3 then b :: (r ++ [a]) else if way = 4 then (b :: r).getLast (by simp) :: a :: (b :: r).dropLast else b :: a :: r
noncomputable def dueV (way : Int) (n : Nat) : Value := if way < 3 then .none else if way = 6 then .bool (!decide (n = 0)) else .bool (decide (2 ≤ n))
noncomputable def headV : List Value → Value
  | [] => .none
  | v :: _ => v
theorem stepL_lt {α : Type} {most : Nat} {way : Int} {x : α} {l : List α} (h : way < 3) : stepL most way x l = (x :: l).take most := if_pos h
theorem stepL_6 {α : Type} {most : Nat} {x : α} {l : List α} : stepL most 6 x l = l.drop 1 := rfl
theorem stepL_nil {α : Type} {most : Nat} {way : Int} {x : α} (h : 3 ≤ way) : stepL most way x [] = [] := by
  unfold stepL
  rw [if_neg (by omega)]
  split <;> rfl
theorem stepL_one {α : Type} {most : Nat} {way : Int} {x a : α} (h : 3 ≤ way) (h6 : way ≠ 6) : stepL most way x [a] = [a] := by
  unfold stepL
  rw [if_neg (by omega), if_neg h6]
theorem stepL_3 {α : Type} {most : Nat} {x a b : α} {r : List α} : stepL most 3 x (a :: b :: r) = b :: (r ++ [a]) := rfl
theorem stepL_5 {α : Type} {most : Nat} {x a b : α} {r : List α} : stepL most 5 x (a :: b :: r) = b :: a :: r := rfl
theorem stepL_4 {α : Type} {most : Nat} {x a b : α} {r : List α} : stepL most 4 x (a :: (r ++ [b])) = b :: a :: r := by
  cases r with
  | nil => rfl
  | cons c r =>
    show (c :: (r ++ [b])).getLast _ :: a :: (c :: (r ++ [b])).dropLast = _
    have e1 : (c :: (r ++ [b])).getLast (by simp) = b := by rw [List.getLast_cons (by simp)]; simp
    have e2 : (c :: (r ++ [b])).dropLast = c :: r := List.dropLast_concat (l₁ := c :: r)
    rw [e1, e2]
theorem stepL_len {α : Type} {most : Nat} {way : Int} {x : α} {l : List α} (h : l.length ≤ 6) (hm : most ≤ 6) : (stepL most way x l).length ≤ 6 := by
  unfold stepL
  split
  · rw [List.length_take]; omega
  · split
    · rw [List.length_drop]; omega
    · split
      · simpa using h
      · simpa using h
      · split
        · simp at h ⊢; omega
        · split
          · simp at h ⊢; omega
          · simpa using h
inductive All2 {α β : Type} (R : α → β → Prop) : List α → List β → Prop
  | nil : All2 R [] []
  | cons {a : α} {b : β} {l : List α} {m : List β} : R a b → All2 R l m → All2 R (a :: l) (b :: m)
namespace All2
variable {α β : Type} {R S : α → β → Prop}
theorem mono {l : List α} {m : List β} (h : All2 R l m) (f : ∀ a b, R a b → S a b) : All2 S l m := by
  induction h with
  | nil => exact .nil
  | cons h _ ih => exact .cons (f _ _ h) ih
theorem length {l : List α} {m : List β} (h : All2 R l m) : l.length = m.length := by
  induction h with
  | nil => rfl
  | cons _ _ ih => simp [ih]
theorem append {l l' : List α} {m m' : List β} (h : All2 R l m) (h' : All2 R l' m') : All2 R (l ++ l') (m ++ m') := by
  induction h with
  | nil => exact h'
  | cons h _ ih => exact .cons h ih
theorem take {l : List α} {m : List β} (h : All2 R l m) : ∀ k, All2 R (l.take k) (m.take k) := by
  induction h with
  | nil => intro k; simp; exact .nil
  | cons h _ ih =>
    intro k
    cases k with
    | zero => exact .nil
    | succ k => exact .cons h (ih k)
theorem drop {l : List α} {m : List β} (h : All2 R l m) : ∀ k, All2 R (l.drop k) (m.drop k) := by
  induction h with
  | nil => intro k; simp; exact .nil
  | cons h hr ih =>
    intro k
    cases k with
    | zero => exact .cons h hr
    | succ k => exact ih k
theorem snocs {l : List α} {m : List β} (h : All2 R l m) : (l = [] ∧ m = []) ∨ ∃ l' a m' b, l = l' ++ [a] ∧ m = m' ++ [b] ∧ All2 R l' m' ∧ R a b := by
  induction h with
  | nil => exact .inl ⟨rfl, rfl⟩
  | @cons a b l m h hr ih =>
    rcases ih with ⟨rfl, rfl⟩ | ⟨l', a', m', b', rfl, rfl, h1, h2⟩
    · exact .inr ⟨[], a, [], b, rfl, rfl, .nil, h⟩
    · exact .inr ⟨a :: l', a', b :: m', b', rfl, rfl, .cons h h1, h2⟩
theorem step {l : List α} {m : List β} (h : All2 R l m) {most : Nat} {way : Int} {x : α} {y : β} (hw0 : 0 ≤ way) (hw : way ≤ 6) (hxy : way < 3 → R x y) : All2 R (stepL most way x l) (stepL most way y m) := by
  by_cases h1 : way < 3
  · rw [stepL_lt h1, stepL_lt h1]; exact (All2.cons (hxy h1) h).take _
  · by_cases h6 : way = 6
    · subst h6; rw [stepL_6, stepL_6]; exact h.drop 1
    · cases h with
      | nil => rw [stepL_nil (by omega), stepL_nil (by omega)]; exact .nil
      | @cons a b l m hab hr =>
        cases hr with
        | nil => rw [stepL_one (by omega) h6, stepL_one (by omega) h6]; exact .cons hab .nil
        | @cons a' b' l m hab' hr =>
          have hw' : way = 3 ∨ way = 4 ∨ way = 5 := by omega
          rcases hw' with rfl | rfl | rfl
          · rw [stepL_3, stepL_3]; exact .cons hab' (hr.append (.cons hab .nil))
          · rcases (All2.cons hab' hr).snocs with ⟨e, _⟩ | ⟨l', z, m', z', e1, e2, h1, h2⟩
            · cases e
            · rw [e1, e2, stepL_4, stepL_4]; exact .cons h2 (.cons hab h1)
          · rw [stepL_5, stepL_5]; exact .cons hab' (.cons hab hr)
end All2
theorem snoc_of {α : Type} (a : α) : ∀ l : List α, ∃ l' z, a :: l = l' ++ [z]
  | [] => ⟨[], a, rfl⟩
  | b :: l => let ⟨l', z, e⟩ := snoc_of b l; ⟨a :: l', z, by rw [e]; rfl⟩

noncomputable abbrev pairO (a b : Value) : Obj := { cls := .type "tuple", data := .seq #[a, b] }
theorem topOf_eq {most : Int} (h : 1 ≤ most) : topOf most = most.toNat := by unfold topOf; split <;> omega
theorem roomOf_eq {most : Int} (h : 1 ≤ most) : roomOf most + 1 = most.toNat := by unfold roomOf; split <;> omega

noncomputable def RowPost (rw : Addr) (vs : List Value) (way most beat : Int) (tb : Tok) (news nx : List (Addr × Obj)) (r' : Value) : Prop :=
  ∃ D nD t, r' = .ref t ∧ nx = (t, pairO (.ref D) (dueV way vs.length)) :: (D, listOf (stepL most.toNat way (Value.int beat tb) vs).toArray nD) :: news ∧ (∀ p ∈ news, p.1 < t) ∧ (D = rw ∨ ∀ p ∈ news, p.1 < D)
theorem rowFin {w : World} {rw : Addr} {vs : List Value} {way most beat : Int} {tm tw tb : Tok} {nr : Nat} {news : List (Addr × Obj)} (hr : (rw, listOf vs.toArray nr) ∈ news) (due : Value) (vs' : List Value) (C : Ctr w 154 [.ref rw, .int way tw, .int beat tb, .int most tm] 1 8 ((rw, listOf vs.toArray nr) :: news)
      (fun nx r' => ∃ D t, (∀ p ∈ (t, ({ cls := .type "tuple", data := .seq #[.ref D, due] } : Obj)) :: (D, listOf vs'.toArray 0) :: (rw, listOf vs.toArray nr) :: news, p ∈ nx) ∧ r' = .ref t ∧
        D < t ∧ AllLt D ((rw, listOf vs.toArray nr) :: news))) (e1 : due = dueV way vs.length) (e2 : vs' = stepL most.toNat way (Value.int beat tb) vs) : Ctr w 154 [.ref rw, .int way tw, .int beat tb, .int most tm] 1 8 news (RowPost rw vs way most beat tb news) := by
  subst e1; subst e2
  refine C.weak (fun p hp => (List.mem_cons.mp hp).elim (fun e => e ▸ hr) id) (fun nx r' h => ?_)
  obtain ⟨D, t, hs, h4, hlt, hl⟩ := h
  have hl' : ∀ p ∈ news, p.1 < D := fun p hp => ktn_ltOf hl p (.tail _ hp)
  refine ⟨_, fun p hp => hs p ?_, D, 0, t, h4, rfl, fun p hp => Nat.lt_trans (hl' p hp) hlt, .inr hl'⟩
  rcases memTwo hp with rfl | rfl | hp
  · exact .head _
  · exact .tail _ (.head _)
  · exact .tail _ (.tail _ (.tail _ hp))
theorem rowSame {w : World} {rw : Addr} {vs : List Value} {way most beat : Int} {tm tw tb : Tok} {nr : Nat} {news : List (Addr × Obj)} (hr : (rw, listOf vs.toArray nr) ∈ news) (C : Ctr w 154 [.ref rw, .int way tw, .int beat tb, .int most tm] 1 8 ((rw, listOf vs.toArray nr) :: news)
      (fun nx r' => ∃ t, (∀ p ∈ (t, ({ cls := .type "tuple", data := .seq #[.ref rw, .bool false] } : Obj)) :: (rw, listOf vs.toArray nr) :: news, p ∈ nx) ∧ r' = .ref t ∧
        AllLt t ((rw, listOf vs.toArray nr) :: news))) (e1 : dueV way vs.length = .bool false) (e2 : stepL most.toNat way (Value.int beat tb) vs = vs) : Ctr w 154 [.ref rw, .int way tw, .int beat tb, .int most tm] 1 8 news (RowPost rw vs way most beat tb news) := by
  unfold RowPost
  rw [e1, e2]
  refine C.weak (fun p hp => (List.mem_cons.mp hp).elim (fun e => e ▸ hr) id) (fun nx r' h => ?_)
  obtain ⟨t, hs, h4, hl⟩ := h
  exact ⟨_, fun p hp => hs p hp, rw, nr, t, h4, rfl, fun p hp => ktn_ltOf hl p (.tail _ hp), .inl rfl⟩
theorem rowU (w : World) (rw : Addr) (vs : List Value) (way most beat : Int) (tm tw tb : Tok) (nr : Nat) (news : List (Addr × Obj)) (hr : (rw, listOf vs.toArray nr) ∈ news) (hz : vs.length ≤ 6) (hw0 : 0 ≤ way) (hw : way ≤ 6) (hm0 : 1 ≤ most) (hm1 : most ≤ 6) :
    Ctr w 154 [.ref rw, .int way tw, .int beat tb, .int most tm] 1 8 news (RowPost rw vs way most beat tb news) := by
  by_cases h3 : way < 3
  · exact rowFin hr _ _ (rowP w rw vs way most tm tw tb beat nr news (by omega) h3 hm0 hm1) (by unfold dueV; rw [if_pos h3]) (by rw [stepL_lt h3, topOf_eq hm0])
  · by_cases h6 : way = 6
    · subst h6
      refine rowFin hr _ _ (row6 w rw vs most tm tw tb beat nr news (by omega)) ?_ (by rw [stepL_6])
      unfold dueV
      rw [if_neg h3, if_pos rfl]
      congr 2
      cases vs <;> simp
    · have hd : ∀ n, dueV way n = .bool (decide (2 ≤ n)) := fun n => by unfold dueV; rw [if_neg h3, if_neg h6]
      have hw' : way = 3 ∨ way = 4 ∨ way = 5 := by omega
      rcases vs with _ | ⟨v, _ | ⟨y, ys⟩⟩
      · exact rowSame hr (rowS w rw [] way most tm tw tb beat nr news h3 h6 (by decide) (Nat.zero_le _)) (by rw [hd]; rfl) (stepL_nil (by omega))
      · exact rowSame hr (rowS w rw [v] way most tm tw tb beat nr news h3 h6 (show ((1 : Nat) : Int) < 2 by decide) (show 1 ≤ 50 by decide)) (by rw [hd]; rfl) (stepL_one (by omega) h6)
      · have hz' : ys.length ≤ 50 := by simp at hz; omega
        have hd2 : Value.bool true = dueV way (v :: y :: ys).length := by rw [hd]; simp
        rcases hw' with rfl | rfl | rfl
        · exact rowFin hr _ _ (row3m w rw v y ys most tm tw tb beat nr news hz') hd2 stepL_3.symm
        · obtain ⟨l', z, e⟩ := snoc_of y ys
          have hl' : l'.length ≤ 50 := by
            have := congrArg List.length e
            simp at this hz; omega
          rw [e] at hr hd2 ⊢
          exact rowFin hr _ _ (row4m w rw v z l' most tm tw tb beat nr news hl') hd2 stepL_4.symm
        · exact rowFin hr _ _ (row5m w rw v y ys most tm tw tb beat nr news hz') hd2 stepL_5.symm
end Mine
end
section
open PySem PySem.W PyProof.Rows PySem.Calls PySem.SeqAt
namespace Mine
/-- the value `v` is a macro whose objects stand in the ledger `nx`, its counter `b` -/
noncomputable def IsMade (P : Params) (nx : List (Addr × Obj)) (v : Value) (b : Int) : Prop :=
  ∃ X dX e k1 k2 k3 tb tb2 tf, v = .ref X ∧ (X, instObj 31 dX) ∈ nx ∧ (dX, madeO P k1 k2 k3 e b tb tf) ∈ nx ∧ (e, tupO b tb2) ∈ nx
theorem IsMade.elim {P : Params} {nx : List (Addr × Obj)} {v : Value} {b : Int} {G : Prop} (h : IsMade P nx v b)
    (g : ∀ X dX e k1 k2 k3 tb tb2 tf, v = .ref X → (X, instObj 31 dX) ∈ nx → (dX, madeO P k1 k2 k3 e b tb tf) ∈ nx → (e, tupO b tb2) ∈ nx → G) : G := by
  obtain ⟨X, dX, e, k1, k2, k3, tb, tb2, tf, e0, h1, h2, h3⟩ := h
  exact g X dX e k1 k2 k3 tb tb2 tf e0 h1 h2 h3
theorem IsMade.mono {P : Params} {nx nx' : List (Addr × Obj)} {v : Value} {b : Int} (h : IsMade P nx v b) (hs : ∀ p ∈ nx, p ∈ nx') : IsMade P nx' v b :=
  IsMade.elim h fun X dX e k1 k2 k3 tb tb2 tf e0 h1 h2 h3 => ⟨X, dX, e, k1, k2, k3, tb, tb2, tf, e0, hs _ h1, hs _ h2, hs _ h3⟩

noncomputable def DeedPost (P : Params) (r dr o : Addr) (all : List Value) (way most beat : Int) (t1 t2 t3 tm : Tok) (news nx : List (Addr × Obj)) (r' : Value) : Prop :=
  ∃ v o' no' ex, r' = dueV way all.length ∧ (∀ p ∈ news, p.1 ≠ dr → p ∈ nx) ∧ (∀ p ∈ ex, p ∈ nx ∧ ∀ q ∈ news, q.1 < p.1) ∧
    (dr, ringO P t1 t2 t3 most tm (headV (stepL most.toNat way v all)) (.ref o')) ∈ nx ∧ (o', listOf (stepL most.toNat way v all).tail.toArray no') ∈ nx ∧ (o' = o ∨ ∀ q ∈ news, q.1 < o') ∧ (way < 3 → IsMade P ex v beat)

/-- the ledger's other objects -/
noncomputable abbrev offDr (dr : Addr) (news : List (Addr × Obj)) : List (Addr × Obj) := news.filter fun p => decide (p.1 ≠ dr)
theorem offNe {dr : Addr} {news : List (Addr × Obj)} : ∀ p ∈ offDr dr news, p.1 ≠ dr := fun p hp => of_decide_eq_true (List.mem_filter.mp hp).2
theorem offIn {dr : Addr} {news : List (Addr × Obj)} : ∀ p ∈ news, p.1 ≠ dr → p ∈ offDr dr news := fun _ hp h => List.mem_filter.mpr ⟨hp, decide_eq_true h⟩
theorem offSub {r dr o : Addr} {oR oI oL : Obj} {news : List (Addr × Obj)} (hdr : (dr, oR) ∈ news) (hr : (r, oI) ∈ news) (ho : (o, oL) ∈ news) : ∀ p ∈ (dr, oR) :: (r, oI) :: (o, oL) :: offDr dr news, p ∈ news := fun p hp => by
  rcases List.mem_cons.mp hp with rfl | hp
  · exact hdr
  · rcases memTwo hp with rfl | rfl | hp
    · exact hr
    · exact ho
    · exact (List.mem_filter.mp hp).1
theorem offLt {dr : Addr} {oR : Obj} {x y : Addr × Obj} {news : List (Addr × Obj)} (hU : ∀ p ∈ news, p = (dr, oR) ∨ p.1 ≠ dr) {D : Addr} (hl : AllLt D ((dr, oR) :: x :: y :: offDr dr news)) : ∀ q ∈ news, q.1 < D := fun q hq => by
  rcases hU q hq with rfl | h
  · exact hl.1
  · exact ktn_ltOf hl q (.tail _ (.tail _ (.tail _ (offIn q hq h))))
theorem deedFin {w : World} {r dr o : Addr} {all : List Value} {way most beat : Int} {t1 t2 t3 tm tw tb : Tok} {no : Nat} {news : List (Addr × Obj)} (hU : ∀ p ∈ news, p = (dr, ringO w.params t1 t2 t3 most tm (headV all) (.ref o)) ∨ p.1 ≠ dr)
    (hdr : (dr, ringO w.params t1 t2 t3 most tm (headV all) (.ref o)) ∈ news) (hr : (r, instObj 101 dr) ∈ news) (ho : (o, listOf all.tail.toArray no) ∈ news)
    (due : Bool) (lv : Value) (tl : List Value) (C : Ctr w 147 [.ref r, .int way tw, .int beat tb] 4 40 ((dr, ringO w.params t1 t2 t3 most tm (headV all) (.ref o)) :: (r, instObj 101 dr) :: (o, listOf all.tail.toArray no) :: offDr dr news)
      (fun nx r' => ∃ D, (∀ p ∈ (D, listOf (List.toArray tl) 0) :: (dr, ringO w.params t1 t2 t3 most tm lv (.ref D)) :: (r, instObj 101 dr) :: (o, listOf all.tail.toArray no) :: offDr dr news, p ∈ nx) ∧ r' = .bool due ∧
        AllLt D ((dr, ringO w.params t1 t2 t3 most tm (headV all) (.ref o)) :: (r, instObj 101 dr) :: (o, listOf all.tail.toArray no) :: offDr dr news))) (e1 : .bool due = dueV way all.length) (e2 : lv = headV (stepL most.toNat way .none all)) (e3 : tl = (stepL most.toNat way .none all).tail) (h3 : ¬ way < 3) :
    Ctr w 147 [.ref r, .int way tw, .int beat tb] 4 40 news (DeedPost w.params r dr o all way most beat t1 t2 t3 tm news) := by
  refine C.weak (offSub hdr hr ho) (fun nx r' h => ?_)
  obtain ⟨D, hs, h4, hl⟩ := h
  exact ⟨nx, fun p hp => hp, .none, D, 0, [], h4.trans e1, fun p hp hne => hs p (.tail _ (.tail _ (.tail _ (.tail _ (offIn p hp hne))))), fun p hp => (nomatch hp), e2 ▸ hs _ (.tail _ (.head _)), e3 ▸ hs _ (.head _), .inr (offLt hU hl), fun h => absurd h h3⟩
theorem deedSame {w : World} {r dr o : Addr} {all : List Value} {way most beat : Int} {t1 t2 t3 tm tw tb : Tok} {no : Nat} {news : List (Addr × Obj)} (hU : ∀ p ∈ news, p = (dr, ringO w.params t1 t2 t3 most tm (headV all) (.ref o)) ∨ p.1 ≠ dr)
    (hdr : (dr, ringO w.params t1 t2 t3 most tm (headV all) (.ref o)) ∈ news) (hr : (r, instObj 101 dr) ∈ news) (ho : (o, listOf all.tail.toArray no) ∈ news)
    (C : Ctr w 147 [.ref r, .int way tw, .int beat tb] 4 40 ((dr, ringO w.params t1 t2 t3 most tm (headV all) (.ref o)) :: (r, instObj 101 dr) :: (o, listOf all.tail.toArray no) :: offDr dr news) (fun nx r' => (∀ p ∈ (dr, ringO w.params t1 t2 t3 most tm (headV all) (.ref o)) :: (r, instObj 101 dr) :: (o, listOf all.tail.toArray no) :: offDr dr news, p ∈ nx) ∧ r' = .bool false))
    (e1 : .bool false = dueV way all.length) (e2 : stepL most.toNat way .none all = all) (h3 : ¬ way < 3) :
    Ctr w 147 [.ref r, .int way tw, .int beat tb] 4 40 news (DeedPost w.params r dr o all way most beat t1 t2 t3 tm news) := by
  refine C.weak (offSub hdr hr ho) (fun nx r' h => ?_)
  obtain ⟨hs, h4⟩ := h
  refine ⟨nx, fun p hp => hp, .none, o, no, [], h4.trans e1, fun p hp hne => hs p (.tail _ (.tail _ (.tail _ (offIn p hp hne)))), fun p hp => (nomatch hp), ?_, ?_, .inl rfl, fun h => absurd h h3⟩
  · rw [e2]; exact hs _ (.head _)
  · rw [e2]; exact hs _ (.tail _ (.tail _ (.head _)))
theorem deedPushed {w : World} {r dr o : Addr} {all : List Value} {way most beat : Int} {t1 t2 t3 tm tw tb : Tok} {no : Nat} {news : List (Addr × Obj)} (hU : ∀ p ∈ news, p = (dr, ringO w.params t1 t2 t3 most tm (headV all) (.ref o)) ∨ p.1 ≠ dr)
    (hdr : (dr, ringO w.params t1 t2 t3 most tm (headV all) (.ref o)) ∈ news) (hr : (r, instObj 101 dr) ∈ news) (ho : (o, listOf all.tail.toArray no) ∈ news)
    (hm0 : 1 ≤ most) (h3 : way < 3) (C : Ctr w 147 [.ref r, .int way tw, .int beat tb] 4 40 ((dr, ringO w.params t1 t2 t3 most tm (headV all) (.ref o)) :: (r, instObj 101 dr) :: (o, listOf all.tail.toArray no) :: offDr dr news)
      (fun nx r' => ∃ X dX e D k1 k2 k3 tf, (∀ p ∈ (D, listOf (List.toArray (all.take (roomOf most))) 0) :: (X, instObj 31 dX) :: (dX, madeO w.params k1 k2 k3 e beat tb tf) :: (e, tupO beat tb) :: (dr, ringO w.params t1 t2 t3 most tm (.ref X) (.ref D)) :: (r, instObj 101 dr) :: (o, listOf all.tail.toArray no) :: offDr dr news, p ∈ nx) ∧ r' = .none ∧
        e < dX ∧ dX < X ∧ X < D ∧ AllLt e ((dr, ringO w.params t1 t2 t3 most tm (headV all) (.ref o)) :: (r, instObj 101 dr) :: (o, listOf all.tail.toArray no) :: offDr dr news))) :
    Ctr w 147 [.ref r, .int way tw, .int beat tb] 4 40 news (DeedPost w.params r dr o all way most beat t1 t2 t3 tm news) := by
  refine C.weak (offSub hdr hr ho) (fun nx r' h => ?_)
  obtain ⟨X, dX, e, D, k1, k2, k3, tf, hs, h4, l1, l2, l3, hl⟩ := h
  have hle := offLt hU hl
  have es : stepL most.toNat way (Value.ref X) all = .ref X :: all.take (roomOf most) := by
    rw [stepL_lt h3, ← roomOf_eq hm0, List.take_succ_cons]
  refine ⟨nx, fun p hp => hp, .ref X, D, 0, [(X, instObj 31 dX), (dX, madeO w.params k1 k2 k3 e beat tb tf), (e, tupO beat tb)], h4.trans (by unfold dueV; rw [if_pos h3]), fun p hp hne => hs p (.tail _ (.tail _ (.tail _ (.tail _ (.tail _ (.tail _ (.tail _ (offIn p hp hne)))))))), ?_, ?_, ?_, .inr fun q hq => ?_, fun _ => ⟨X, dX, e, k1, k2, k3, tb, tb, tf, rfl, .head _, .tail _ (.head _), .tail _ (.tail _ (.head _))⟩⟩
  · intro p hp
    rcases List.mem_cons.mp hp with rfl | hp
    · exact ⟨hs _ (.tail _ (.head _)), fun q hq => Nat.lt_trans (hle q hq) (Nat.lt_trans l1 l2)⟩
    · rcases List.mem_cons.mp hp with rfl | hp
      · exact ⟨hs _ (.tail _ (.tail _ (.head _))), fun q hq => Nat.lt_trans (hle q hq) l1⟩
      · obtain rfl := List.mem_singleton.mp hp
        exact ⟨hs _ (.tail _ (.tail _ (.tail _ (.head _)))), hle⟩
  · rw [es]; exact hs _ (.tail _ (.tail _ (.tail _ (.tail _ (.head _)))))
  · rw [es]; exact hs _ (.head _)
  · exact Nat.lt_trans (hle q hq) (Nat.lt_trans l1 (Nat.lt_trans l2 l3))
theorem deedU (w : World) (r dr o : Addr) (all : List Value) (way most beat : Int) (t1 t2 t3 tm tw tb : Tok) (no : Nat) (news : List (Addr × Obj)) (hU : ∀ p ∈ news, p = (dr, ringO w.params t1 t2 t3 most tm (headV all) (.ref o)) ∨ p.1 ≠ dr)
    (hdr : (dr, ringO w.params t1 t2 t3 most tm (headV all) (.ref o)) ∈ news) (hr : (r, instObj 101 dr) ∈ news) (ho : (o, listOf all.tail.toArray no) ∈ news) (hrd : r ≠ dr) (hod : o ≠ dr) (hall : ∀ v ∈ all, ∃ x, v = Value.ref x)
    (hz : all.length ≤ 6) (hw0 : 0 ≤ way) (hw : way ≤ 6) (hm0 : 1 ≤ most) (hm1 : most ≤ 6) :
    Ctr w 147 [.ref r, .int way tw, .int beat tb] 4 40 news (DeedPost w.params r dr o all way most beat t1 t2 t3 tm news) := by
  by_cases h3 : way < 3
  · rcases all with _ | ⟨v, vs⟩
    · exact deedPushed hU hdr hr ho hm0 h3 (by rw [List.take_nil]; exact deedP0 w r dr o t1 t2 t3 most tm tw tb way beat no (offDr dr news) hrd hod offNe h3 hm0 hm1)
    · obtain ⟨x, rfl⟩ := hall v (.head _)
      exact deedPushed hU hdr hr ho hm0 h3 (deedP w r dr o x vs t1 t2 t3 most tm tw tb way beat no (offDr dr news) (by simp at hz; omega) hrd hod offNe h3 hm0 hm1)
  · have hd : ∀ n, way ≠ 6 → dueV way n = .bool (decide (2 ≤ n)) := fun n h6 => by unfold dueV; rw [if_neg h3, if_neg h6]
    have hw' : way = 3 ∨ way = 4 ∨ way = 5 ∨ way = 6 := by omega
    rcases all with _ | ⟨v, _ | ⟨y, ys⟩⟩
    · rcases hw' with rfl | rfl | rfl | rfl
      · exact deedSame hU hdr hr ho (deed3e w r dr o t1 t2 t3 most tm tw tb beat no (offDr dr news) hrd hod offNe) (by rw [hd _ (by decide)]; rfl) (stepL_nil (by omega)) h3
      · exact deedSame hU hdr hr ho (deed4e w r dr o t1 t2 t3 most tm tw tb beat no (offDr dr news) hrd hod offNe) (by rw [hd _ (by decide)]; rfl) (stepL_nil (by omega)) h3
      · exact deedSame hU hdr hr ho (deed5e w r dr o t1 t2 t3 most tm tw tb beat no (offDr dr news) hrd hod offNe) (by rw [hd _ (by decide)]; rfl) (stepL_nil (by omega)) h3
      · exact deedFin hU hdr hr ho _ _ _ (deed6e w r dr o t1 t2 t3 most tm tw tb beat no (offDr dr news) hrd hod offNe) rfl rfl rfl h3
    · obtain ⟨x, rfl⟩ := hall v (.head _)
      rcases hw' with rfl | rfl | rfl | rfl
      · exact deedSame hU hdr hr ho (deed3s w r dr o x t1 t2 t3 most tm tw tb beat no (offDr dr news) hrd hod offNe) (by rw [hd _ (by decide)]; rfl) (stepL_one (by omega) (by omega)) h3
      · exact deedSame hU hdr hr ho (deed4s w r dr o x t1 t2 t3 most tm tw tb beat no (offDr dr news) hrd hod offNe) (by rw [hd _ (by decide)]; rfl) (stepL_one (by omega) (by omega)) h3
      · exact deedSame hU hdr hr ho (deed5s w r dr o x t1 t2 t3 most tm tw tb beat no (offDr dr news) hrd hod offNe) (by rw [hd _ (by decide)]; rfl) (stepL_one (by omega) (by omega)) h3
      · exact deedFin hU hdr hr ho _ _ _ (deed6s w r dr o x t1 t2 t3 most tm tw tb beat no (offDr dr news) hrd hod offNe) rfl rfl rfl h3
    · obtain ⟨x, rfl⟩ := hall v (.head _)
      have hz' : ys.length ≤ 50 := by simp at hz; omega
      rcases hw' with rfl | rfl | rfl | rfl
      · exact deedFin hU hdr hr ho _ _ _ (deed3m w r dr o x y ys t1 t2 t3 most tm tw tb beat no (offDr dr news) hz' hrd hod offNe) (by rw [hd _ (by decide)]; simp) (by rw [stepL_3]; rfl) (by rw [stepL_3]; rfl) h3
      · obtain ⟨l', z, e⟩ := snoc_of y ys
        have hl' : l'.length ≤ 50 := by
          have := congrArg List.length e
          simp at this hz; omega
        have C := deed4m w r dr o x z l' t1 t2 t3 most tm tw tb beat no (offDr dr news) hl' hrd hod offNe
        rw [← e] at C
        exact deedFin hU hdr hr ho _ z (Value.ref x :: l') C (by rw [hd _ (by decide)]; simp) (by rw [e, stepL_4]; rfl) (by rw [e, stepL_4]; rfl) h3
      · exact deedFin hU hdr hr ho _ _ _ (deed5m w r dr o x y ys t1 t2 t3 most tm tw tb beat no (offDr dr news) hz' hrd hod offNe) (by rw [hd _ (by decide)]; simp) (by rw [stepL_5]; rfl) (by rw [stepL_5]; rfl) h3
      · exact deedFin hU hdr hr ho _ _ _ (deed6m w r dr o x y ys t1 t2 t3 most tm tw tb beat no (offDr dr news) hz' hrd hod offNe) rfl rfl rfl h3
end Mine
end
section
open PySem PySem.W PyProof.Rows PySem.Calls PySem.SeqAt
namespace Mine
theorem IntsAre.of2 {w : World} {nx : List (Addr × Obj)} : ∀ {l ys : List Value} {ns : List Int}, All2 (IsMade w.params nx) l ns → Paired (fun v y => ∀ b, IsMade w.params nx v b → ∃ t, y = Value.int b t) l ys → IntsAre ys ns
  | _, _, _, .nil, .nil => .nil
  | _, _, _, .cons h hr, .cons p pr => by
    obtain ⟨t, rfl⟩ := p _ h
    exact .cons _ _ (IntsAre.of2 hr pr)

section
variable {prog : Program} {w : World} {A : Around} {E : Value → Shared → Prop} {s : Shared} {h₀ : Heap} {L : Addr} {m : Str → Option Value} {Q : Value → Shared → Prop}
set_option maxHeartbeats 2000000 in
theorem getCounter {x dx e : Addr} {b : Int} {k1 k2 k3 tb tf : Tok} {expr : Bool} (F : Fr h₀ L s.heap m) (X₀ : (hd.heap_39 w.params).In h₀) (hx : s.heap.get? x = some (instObj 31 dx)) (hdx : s.heap.get? dx = some (madeO w.params k1 k2 k3 e b tb tf))
    (h : Q (.int b tb) { s with toks := s.toks + 1 }) : wpAny (model PySem.Challenge.rw_np0014_01.row.prog w) A (getAttr (.ref x) (Str.ofString "counter") expr) Q E s := by
  revert X₀
  k_fill
  intro X₀
  have I : InstAt s.heap x (instObj 31 dx) 31 (some (madeO w.params k1 k2 k3 e b tb tf)) := ⟨hx, rfl, rfl, hdx⟩
  refine' get_own F X₀ I ?k4 ?k5 ?k6 ?k7 ?k8 ?k9 h
  (case k4 => k_is)
  (case k5 => k_is)
  (case k6 => k_is)
  (case k7 => k_is)
  (case k8 => k_get)
  (case k9 => rfl)

/-- the list `vs` stands behind the value; what holds once the list of the counters is made -/
noncomputable def CmpSrc (vs : List Value) (ns : List Int) (nx0 : List (Addr × Obj)) (h₀ : Heap) (L : Addr) (Q : Value → Shared → Prop) (xv : Value) (s₁ : Shared) : Prop :=
  ∃ ax nx m, xv = .ref ax ∧ Fr h₀ L s₁.heap m ∧ News h₀ L s₁.heap nx ∧ (∀ p ∈ nx0, p ∈ nx) ∧ s₁.heap.IsList ax (List.toArray vs) ∧
    ∀ D ys h' tk, Fr h₀ L h' m → News h₀ L h' nx → h'.IsList D (List.toArray ys) → IntsAre ys ns → Q (.ref D) { s₁ with heap := h', toks := tk }
theorem madeOf {P : Params} {nx : List (Addr × Obj)} {v : Value} : ∀ {vs : List Value} {ns : List Int}, All2 (IsMade P nx) vs ns → v ∈ vs → ∃ b, IsMade P nx v b
  | _, _, .cons h hr, hm => by
    rcases List.mem_cons.mp hm with rfl | hm
    · exact ⟨_, h⟩
    · exact madeOf hr hm

theorem madeSame {P : Params} {h₀ h : Heap} {L : Addr} {nx nx0 : List (Addr × Obj)} {X dX e : Addr} {b b' : Int} {k1 k2 k3 tb tf : Tok} (N : News h₀ L h nx) (hsub : ∀ p ∈ nx0, p ∈ nx) (h1 : (X, instObj 31 dX) ∈ nx0) (h2 : (dX, madeO P k1 k2 k3 e b tb tf) ∈ nx0)
    (hb : IsMade P nx0 (.ref X) b') : ∃ t, Value.int b tb = Value.int b' t := by
  refine IsMade.elim hb ?_
  intro X' dX' e' k1' k2' k3' tb' tb2' tf' e0 h1' h2' _
  cases e0
  have q2 := (N _ (hsub _ h1)).1.symm.trans (N _ (hsub _ h1')).1
  cases q2
  have q4 := (N _ (hsub _ h2)).1.symm.trans (N _ (hsub _ h2')).1
  cases q4
  exact ⟨tb, rfl⟩
theorem compCounter {env : Env} {scope : Scope} {px py pz pos : Pos} {iter : Expr} (vs : List Value) (ns : List Int) (nx0 : List (Addr × Obj)) (hall : All2 (IsMade w.params nx0) vs ns) (hz : vs.length ≤ 100)
    (X₀ : (hd.heap_39 w.params).In h₀) (hh : A.handled = none) (hfree : ∀ y ∈ scope.names, y.2 ≠ .free) (hcell : ∀ y ∈ scope.names, y.2 ≠ .cell) (hkind : scope.kind = .function)
    (hnames : ∀ y ∈ scope.names, y.2 = .local → scope.names.lookup y.1 = some .local) (hx : scope.names.lookup (Str.ofString "own") = some .local)
    (h : wpAny (model PySem.Challenge.rw_np0014_01.row.prog w) A (eval iter env) (fun xv s₁ => CmpSrc vs ns nx0 h₀ L Q xv s₁) E s)
    (hs : ∀ x, foldedSetIterable iter env x = pure x) :
    wpAny (model PySem.Challenge.rw_np0014_01.row.prog w) A (eval (.ListComp (.Attribute (.Name (Str.ofString "own") py) (Str.ofString "counter") pz) [⟨.Name (Str.ofString "own") px, iter, [], 0⟩] scope pos) env) Q E s := by
  refine wpAny_ListComp_map (fun _ => true) (fun v y => ∀ b, IsMade w.params nx0 v b → ∃ t, y = Value.int b t) hh hfree hcell hkind hnames hx (wpAny_mono h (fun xv s₁ hc => ?_) fun _ _ e => e) hs
  obtain ⟨ax, nx, m, rfl, F, N, hsub, hl, fin⟩ := hc
  refine ⟨ax, _, rfl, hl, by rw [List.size_toArray, sizeLine_eq]; omega, fun C v s₂ m₂ E' _ _ _ _ => wpAny_pure ⟨rfl, s₂.heap, s₂.toks, rfl, fun _ _ e => e⟩, fun C v s₂ m₂ E' hv _ hn hm hk => ?_, fun D h' tk ys hD hld hp hk => ?_⟩
  · obtain ⟨b, hb0⟩ := madeOf hall (by simpa using hv)
    refine IsMade.elim hb0 ?_
    intro X dX e k1 k2 k3 tb tb2 tf e0 h1 h2 h3
    subst e0
    have N₂ := News.grown N hk
    have hX : (s₂.heap.get? X) = some (instObj 31 dX) := (N₂ _ (hsub _ h1)).1
    have hdX : (s₂.heap.get? dX) = some (madeO w.params k1 k2 k3 e b tb tf) := (N₂ _ (hsub _ h2)).1
    refine Attribute_any_ ?_
    refine wpAny_Name (wpAny_loadName_local hkind hx hn hm ?_) (by decide)
    refine getCounter (Fr.keeps F hk) X₀ hX hdX ?_
    exact ⟨fun b' hb => madeSame N hsub h1 h2 hb, s₂.heap, s₂.toks + 1, rfl, fun _ _ e => e⟩
  · have e1 : (List.toArray vs).toList.filter (fun _ => true) = vs := by simp
    rw [e1] at hp
    have := fin D ys.toList h' tk (Fr.keeps F hk) (News.grown N hk) (by simpa using hld) (IntsAre.of2 hall hp)
    exact this

theorem neSame {l b : Addr} {xs ys : List Value} {ns : List Int} (hl : s.heap.IsList l xs.toArray) (hb : s.heap.IsList b ys.toArray) (hi : IntsAre xs ns) (hj : IntsAre ys ns) (hu : A.units + 64 < cLine) (h : Q (.bool false) s) :
    wpAny (model prog w) A (compareOp .NotEq (.ref l) (.ref b)) Q E s := ke_ne_ints hl hb hi hj hu (by simpa using h)
theorem neDue {way : Int} {n k : Nat} (e : n = k) (h : Q (.bool false) s) : wpAny (model prog w) A (compareOp .NotEq (dueV way n) (dueV way k)) Q E s := by
  subst e
  have key : ∀ v : Value, (v = .none ∨ ∃ b, v = .bool b) → wpAny (model prog w) A (compareOp .NotEq v v) Q E s := by
    rintro v (rfl | ⟨b, rfl⟩)
    · exact RcNeAt.none_none prog w E Q h
    · exact RcNeAt.bool_bool b b prog w E Q (by simpa using h)
  refine key _ ?_
  unfold dueV
  split
  · exact .inl rfl
  · split <;> exact .inr ⟨_, rfl⟩
theorem neTup1 {l b : Addr} {i : Int} {t u : Tok} (hl : s.heap.get? l = some (tupO i t)) (hb : s.heap.get? b = some (tupO i u)) (hu : A.units + 64 < cLine) (h : Q (.bool false) s) :
    wpAny (model prog w) A (compareOp .NotEq (.ref l) (.ref b)) Q E s :=
  RcNeAt.tuples (items := #[.int i t]) (items2 := #[.int i u]) (e := fun _ => true) ⟨_, hl, rfl, 0, rfl⟩ ⟨_, hb, rfl, 0, rfl⟩ (Nat.lt_of_le_of_lt (Nat.le_add_right _ _) hu)
    (fun j h1 h2 => by
      have : j = 0 := by simpa using h1
      subst this
      have := EqAt.int_int (A := A.in1) (s := s) i t i u
      simpa using this) prog w E Q (by simpa using h)
end
end Mine
end
section
open PySem PySem.W PyProof.Rows PySem.Calls PySem.SeqAt
namespace Mine
noncomputable def bodyOf : Stmt → List Stmt
  | .FunctionDef _ _ b _ _ _ _ _ _ _ => b
  | .For _ _ b _ _ => b
  | .While _ b _ _ => b
  | _ => []
noncomputable def scopeOf : Stmt → Option Scope
  | .FunctionDef _ _ _ _ _ _ s _ _ _ => some s
  | _ => none
noncomputable def lawStmt : Stmt := PySem.Challenge.pw_np0014_01.main.body.getLast?.getD (.Pass ⟨0,0,0,0⟩)
noncomputable def lawScope : Scope := (scopeOf lawStmt).getD default
noncomputable def loop1 : List Stmt := bodyOf (((bodyOf lawStmt)[3]?).getD (.Pass ⟨0,0,0,0⟩))
noncomputable def loop2 : List Stmt := bodyOf (((bodyOf lawStmt)[4]?).getD (.Pass ⟨0,0,0,0⟩))

section
variable {prog : Program} {w : World} {A : Around} {E : Value → Shared → Prop} {s : Shared} {env : Env} {h₀ : Heap} {x : Str} {body : List Stmt} {Q : Flow → Shared → Prop}
noncomputable def EndI (h₀ : Heap) (L : Addr) (J : (Str → Option Value) → List (Addr × Obj) → Prop) (I : Addr) (oI : Obj) (s₁ : Shared) (f : Flow) (s₂ : Shared) : Prop :=
  f = .next ∧ ∃ h' tk m' nx, s₂ = { s₁ with heap := h', toks := tk } ∧ Fr h₀ L h' m' ∧ News h₀ L h' ((I, oI) :: nx) ∧ (∀ p ∈ nx, p.1 ≠ I) ∧ J m' nx

/-- a for over a range whose turns change the ledger as they like -/
theorem loopR {r : Addr} {a₀ b₀ : Int} {t₀ u₀ v₀ : Tok} {n : Nat} {m₀ : Str → Option Value} {news : List (Addr × Obj)} (J : Nat → (Str → Option Value) → List (Addr × Obj) → Prop)
    (hh : A.handled = none) (hr : IsRange s.heap r a₀ b₀ 1 t₀ u₀ v₀) (hsmall : Builtin.Range.small a₀ b₀ 1 = true) (hn : Builtin.Range.rangeSize a₀ b₀ 1 = (n : Int)) (F : Fr h₀ env.locals s.heap m₀) (N : News h₀ env.locals s.heap news) (hj : J 0 m₀ news)
    (turn : ∀ (i : Nat) t m₁ nx₁ I oI h tk, i < n → J i m₁ nx₁ → (∀ p ∈ nx₁, p.1 ≠ I) → Fr h₀ env.locals h (fun y => if y = x then some (.int (a₀ + (i : Int)) t) else m₁ y) → News h₀ env.locals h ((I, oI) :: nx₁) →
      wpAny (model prog w) A (execs body env) (EndI h₀ env.locals (J (i + 1)) I oI { s with heap := h, toks := tk }) E { s with heap := h, toks := tk })
    (done : ∀ m₁ nx h tk, J n m₁ nx → Fr h₀ env.locals h m₁ → News h₀ env.locals h nx → Q .next { s with heap := h, toks := tk }) :
    wpAny (model prog w) A (pyIter (.ref r)) (fun it s₂ => LoopAtV prog w A h₀ env x body Q E it s₂) E s := by
  refine wpAny_pyIter_range hr hsmall ?_
  have W : Walks prog w A s.heap.objs.size [s.heap.objs.size] [s.heap.objs.size] n (fun i v => i < n ∧ ∃ t, v = .int (a₀ + i * 1) t)
      (fun i h => IsRangeIter h s.heap.objs.size (a₀ + (i : Nat) * 1) ((n : Int) - (i : Nat)) 1) := (Walks.range hh _ a₀ 1 n).bound
  refine ⟨_, _, _, n, _, _, m₀, news, J, rfl, W, ?_, ?_, ?_, (by show IsRangeIter _ _ _ _ _; rw [hn]; simpa using Heap.get?_push_size _ rfl), F.push _, (fun p hp => ⟨Heap.get?_push_of_some _ (N p hp).1, (N p hp).2⟩), hj, ?_, ?_⟩
  · intro hm
    exact absurd F.ns.lt ((List.mem_singleton.mp hm) ▸ Nat.lt_irrefl _)
  · intro b hb
    rw [List.mem_singleton.mp hb]
    exact next_is_new F
  · intro p hp hI
    exact absurd (Heap.lt_size (N p hp).1) ((List.mem_singleton.mp hI) ▸ Nat.lt_irrefl _)
  · rintro i v m₁ news₁ s₁ own ⟨h, tk, rfl⟩ hi ⟨_, t, rfl⟩ hJ hoff hown hget hall hst F₁ N₁
    have e1 : a₀ + (i : Int) * 1 = a₀ + (i : Int) := by omega
    rw [e1] at F₁
    obtain ⟨oI, hI, hgI⟩ : ∃ oI, (s.heap.objs.size, oI) ∈ own ∧ h.get? s.heap.objs.size = some oI := ⟨_, hall s.heap.objs.size (List.mem_singleton.mpr rfl) (next_is_new F) _ hst, hst⟩
    have T9 := turn i t m₁ news₁ s.heap.objs.size oI h tk hi hJ (fun p hp e => hoff p hp (List.mem_singleton.mpr e)) F₁ (fun p hp => by
      rcases List.mem_cons.mp hp with rfl | hp
      · exact N₁ _ (List.mem_append_left _ hI)
      · exact N₁ _ (List.mem_append_right _ hp))
    refine wpAny_mono T9 (fun f s₂ p => ?_) fun _ _ x => x
    obtain ⟨rfl, h', tk', m', nx, rfl, F', N', ho', hJ'⟩ := p
    refine .next ⟨rfl, h', tk', m', nx, rfl, F', fun p hp => ?_, fun p hp hq => ho' p hp (List.mem_singleton.mp hq), hJ'⟩
    rcases List.mem_append.mp hp with hp | hp
    · have h1 : p.1 = s.heap.objs.size := List.mem_singleton.mp (hown p hp)
      have h2 : h.get? p.1 = some p.2 := hget p hp
      rw [h1, hgI] at h2
      have h3 : p = (s.heap.objs.size, oI) := Prod.ext h1 (Option.some.inj h2).symm
      rw [h3]
      exact N' _ (.head _)
    · exact N' p (.tail _ hp)
  · intro h' tk m' news' F' N' _ hJ
    exact done m' news' h' tk hJ F' N'
end
end Mine
end
section
open PySem PySem.W PyProof.Rows PySem.Calls PySem.SeqAt
namespace Mine
noncomputable abbrev deckO (c : Addr) (k : Int) (tk : Tok) (nd : Nat) : Obj := listOf #[.ref c, .int k tk] nd
noncomputable abbrev led (P : Params) (d c : Addr) (k : Int) (tk : Tok) (nd nc : Nat) (vs : List Value) (r dr : Addr) (t1 t2 t3 : Tok) (most : Int) (tm : Tok) (all : List Value) (o : Addr) (no : Nat) (rw : Addr) (rvs : List Value) (nr : Nat) (rest : List (Addr × Obj)) : List (Addr × Obj) :=
  (d, deckO c k tk nd) :: (c, listOf vs.toArray nc) :: (r, instObj 101 dr) :: (dr, ringO P t1 t2 t3 most tm (headV all) (.ref o)) :: (o, listOf all.tail.toArray no) :: (rw, listOf rvs.toArray nr) :: rest
/-- what holds between the turns -/
noncomputable def J1 (P : Params) (d c : Addr) (nd nc : Nat) (vs : List Value) (r dr : Addr) (t1 t2 t3 : Tok) (most : Int) (tm : Tok) (bnd : Int) (m : Str → Option Value) (nx : List (Addr × Obj)) : Prop :=
  ∃ k tk all o no rw rvs nr rest ns tm', nx = led P d c k tk nd nc vs r dr t1 t2 t3 most tm all o no rw rvs nr rest ∧ m (Str.ofString "deck") = some (.ref d) ∧ m (Str.ofString "most") = some (.int most tm') ∧ m (Str.ofString "ring") = some (.ref r) ∧ m (Str.ofString "row") = some (.ref rw) ∧
    All2 (IsMade P rest) all ns ∧ IntsAre rvs ns ∧ (∀ p ∈ rest, p.1 ≠ d ∧ p.1 ≠ dr) ∧ @Ne Nat o dr ∧ @Ne Nat o d ∧ @Ne Nat rw dr ∧ @Ne Nat rw d ∧ all.length ≤ 6 ∧ 0 ≤ k ∧ k ≤ bnd
theorem J1.elim {P : Params} {d c : Addr} {nd nc : Nat} {vs : List Value} {r dr : Addr} {t1 t2 t3 : Tok} {most : Int} {tm : Tok} {bnd : Int} {m : Str → Option Value} {nx : List (Addr × Obj)} {G : Prop} (h : J1 P d c nd nc vs r dr t1 t2 t3 most tm bnd m nx)
    (g : ∀ k tk all o no rw rvs nr rest ns tm', nx = led P d c k tk nd nc vs r dr t1 t2 t3 most tm all o no rw rvs nr rest → m (Str.ofString "deck") = some (.ref d) → m (Str.ofString "most") = some (.int most tm') → m (Str.ofString "ring") = some (.ref r) → m (Str.ofString "row") = some (.ref rw) →
      All2 (IsMade P rest) all ns → IntsAre rvs ns → (∀ p ∈ rest, p.1 ≠ d ∧ p.1 ≠ dr) → @Ne Nat o dr → @Ne Nat o d → @Ne Nat rw dr → @Ne Nat rw d → all.length ≤ 6 → 0 ≤ k → k ≤ bnd → G) : G := by
  obtain ⟨k, tk, all, o, no, rw, rvs, nr, rest, ns, tm', a0, a1, a2, a3, a4, a5, a6, a7, a8, a9, b1, b2, b3, b4, b5⟩ := h
  exact g k tk all o no rw rvs nr rest ns tm' a0 a1 a2 a3 a4 a5 a6 a7 a8 a9 b1 b2 b3 b4 b5
/-- the ledger between the parts of a turn -/
noncomputable abbrev ledger (P : Params) (I : Addr) (oI : Obj) (d c : Addr) (k : Int) (tk : Tok) (nd nc : Nat) (vs : List Value) (r dr : Addr) (t1 t2 t3 : Tok) (most : Int) (tm : Tok) (all : List Value) (o : Addr) (no : Nat) (rw : Addr) (rvs : List Value) (nr : Nat) (rest : List (Addr × Obj)) : List (Addr × Obj) :=
  (I, oI) :: (d, deckO c k tk nd) :: (c, listOf vs.toArray nc) :: (r, instObj 101 dr) :: (dr, ringO P t1 t2 t3 most tm (headV all) (.ref o)) :: (o, listOf all.tail.toArray no) :: (rw, listOf rvs.toArray nr) :: rest

theorem allRef {P : Params} {nx : List (Addr × Obj)} {all : List Value} {ns : List Int} (h : All2 (IsMade P nx) all ns) : ∀ v ∈ all, ∃ x, v = Value.ref x := by
  intro v hv
  obtain ⟨b, X, _, _, _, _, _, _, _, _, e, _⟩ := madeOf h hv
  exact ⟨X, e⟩
theorem newsGet {h₀ h : Heap} {L a : Addr} {o : Obj} {l : List (Addr × Obj)} (N : News h₀ L h l) (hm : (a, o) ∈ l) : h.get? a = some o := (N _ hm).1
theorem CmpSrc.mk {vs : List Value} {ns : List Int} {nx0 nx : List (Addr × Obj)} {h₀ : Heap} {L ax : Addr} {Q : Value → Shared → Prop} {s₁ : Shared} {m : Str → Option Value} (F : Fr h₀ L s₁.heap m) (N : News h₀ L s₁.heap nx) (hs : ∀ p ∈ nx0, p ∈ nx) (hl : s₁.heap.IsList ax (List.toArray vs))
    (h : ∀ D ys h' tk, Fr h₀ L h' m → News h₀ L h' nx → h'.IsList D (List.toArray ys) → IntsAre ys ns → Q (.ref D) { s₁ with heap := h', toks := tk }) : CmpSrc vs ns nx0 h₀ L Q (.ref ax) s₁ := ⟨ax, nx, m, rfl, F, N, hs, hl, h⟩
theorem intsAll2 : ∀ {vs : List Value} {ns : List Int}, IntsAre vs ns → All2 (fun v n => ∃ t, v = Value.int n t) vs ns
  | _, _, .nil => .nil
  | _, _, .cons _ t h => .cons ⟨t, rfl⟩ (intsAll2 h)
theorem all2Ints : ∀ {vs : List Value} {ns : List Int}, All2 (fun v n => ∃ t, v = Value.int n t) vs ns → IntsAre vs ns
  | _, _, .nil => .nil
  | _, _, .cons h hr => by
    obtain ⟨t, rfl⟩ := h
    exact .cons _ t (all2Ints hr)
theorem intsStep {rvs : List Value} {ns : List Int} (h : IntsAre rvs ns) {most : Nat} {way beat : Int} {tb : Tok} (hw0 : 0 ≤ way) (hw : way ≤ 6) : IntsAre (stepL most way (Value.int beat tb) rvs) (stepL most way beat ns) :=
  all2Ints ((intsAll2 h).step hw0 hw fun _ => ⟨tb, rfl⟩)
theorem rowT (w : World) (rw : Addr) (vs : List Value) (ns : List Int) (way most beat : Int) (tm tw tb : Tok) (nr : Nat) (news : List (Addr × Obj)) (hr : (rw, listOf vs.toArray nr) ∈ news) (hR : IntsAre vs ns) (hz : vs.length ≤ 6) (hw0 : 0 ≤ way) (hw : way ≤ 6) (hm0 : 1 ≤ most) (hm1 : most ≤ 6) :
    Ctr w 154 [.ref rw, .int way tw, .int beat tb, .int most tm] 1 8 news (fun nx r' => ∃ D nD t vD ns2, r' = .ref t ∧ nx = (t, pairO (.ref D) (dueV way vs.length)) :: (D, listOf vD.toArray nD) :: news ∧ (∀ p ∈ news, p.1 < t) ∧ (D = rw ∨ ∀ p ∈ news, p.1 < D) ∧ IntsAre vD ns2 ∧ ns2 = stepL most.toNat way beat ns) :=
  (rowU w rw vs way most beat tm tw tb nr news hr hz hw0 hw hm0 hm1).weak (fun p hp => hp) (fun nx r' h => by
    obtain ⟨D, nD, t, h1, h2, h3, h4⟩ := h
    exact ⟨nx, fun p hp => hp, D, nD, t, _, _, h1, h2, h3, h4, intsStep hR hw0 hw, rfl⟩)
theorem cases2 {P : Params} {nx : List (Addr × Obj)} {all vD : List Value} {ns : List Int} (hA : All2 (IsMade P nx) all ns) (hR : IntsAre vD ns) :
    (all = [] ∧ ns = [] ∧ vD = []) ∨ ∃ X dX e b k1 k2 k3 tb tb2 tf t2 all3 ns3 vD3, all = Value.ref X :: all3 ∧ ns = b :: ns3 ∧ vD = Value.int b t2 :: vD3 ∧ (X, instObj 31 dX) ∈ nx ∧ (dX, madeO P k1 k2 k3 e b tb tf) ∈ nx ∧ (e, tupO b tb2) ∈ nx := by
  cases hA with
  | nil => cases hR with
    | nil => exact .inl ⟨rfl, rfl, rfl⟩
  | cons h hr => cases hR with
    | cons _ t h' =>
      obtain ⟨X, dX, e, k1, k2, k3, tb, tb2, tf, rfl, h1, h2, h3⟩ := h
      exact .inr ⟨X, dX, e, _, k1, k2, k3, tb, tb2, tf, t, _, _, _, rfl, rfl, rfl, h1, h2, h3⟩
theorem deedT (w : World) (T : Addr) (oT : Obj) (D : Addr) (vD : List Value) (nD : Nat) (I : Addr) (oI : Obj) (d c : Addr) (k : Int) (tk : Tok) (nd nc : Nat) (vs : List Value) (r dr : Addr) (t1 t2 t3 : Tok) (most : Int) (tm : Tok) (all : List Value) (o : Addr) (no : Nat) (rw : Addr) (rvs : List Value) (nr : Nat) (rest : List (Addr × Obj))
    (ns ns2 : List Int) (way beat : Int) (tw tb : Tok) (hns : ns2 = stepL most.toNat way beat ns) (hA : All2 (IsMade w.params rest) all ns) (hrest : ∀ p ∈ rest, p.1 ≠ d ∧ p.1 ≠ dr ∧ p.1 ≠ I) (hT : T ≠ dr) (hD : D ≠ dr) (hI : I ≠ dr) (hd : d ≠ dr) (hc : c ≠ dr) (hr : r ≠ dr) (ho : o ≠ dr) (hod : o ≠ d) (hoI : o ≠ I) (hrw : rw ≠ dr)
    (hz : all.length ≤ 6) (hw0 : 0 ≤ way) (hw : way ≤ 6) (hm0 : 1 ≤ most) (hm1 : most ≤ 6) :
    Ctr w 147 [.ref r, .int way tw, .int beat tb] 4 40 ((T, oT) :: (D, listOf vD.toArray nD) :: ledger w.params I oI d c k tk nd nc vs r dr t1 t2 t3 most tm all o no rw rvs nr rest)
      (fun nx r' => ∃ all2 o2 no2 rest2, r' = dueV way all.length ∧ nx = ledger w.params I oI d c k tk nd nc vs r dr t1 t2 t3 most tm all2 o2 no2 D vD nD rest2 ∧
        All2 (IsMade w.params rest2) all2 ns2 ∧ (∀ p ∈ rest2, p.1 ≠ d ∧ p.1 ≠ dr ∧ p.1 ≠ I) ∧ o2 ≠ dr ∧ o2 ≠ d ∧ o2 ≠ I ∧ all2.length ≤ 6) := by
  subst hns
  let news := (T, oT) :: (D, listOf vD.toArray nD) :: ledger w.params I oI d c k tk nd nc vs r dr t1 t2 t3 most tm all o no rw rvs nr rest
  have iD : (D, listOf vD.toArray nD) ∈ news := .tail _ (.head _)
  have iI : (I, oI) ∈ news := .tail _ (.tail _ (.head _))
  have id : (d, deckO c k tk nd) ∈ news := .tail _ (.tail _ (.tail _ (.head _)))
  have ic : (c, listOf vs.toArray nc) ∈ news := .tail _ (.tail _ (.tail _ (.tail _ (.head _))))
  have ir : (r, instObj 101 dr) ∈ news := .tail _ (.tail _ (.tail _ (.tail _ (.tail _ (.head _)))))
  have idr : (dr, ringO w.params t1 t2 t3 most tm (headV all) (.ref o)) ∈ news := .tail _ (.tail _ (.tail _ (.tail _ (.tail _ (.tail _ (.head _))))))
  have io : (o, listOf all.tail.toArray no) ∈ news := .tail _ (.tail _ (.tail _ (.tail _ (.tail _ (.tail _ (.tail _ (.head _)))))))
  have irest : ∀ p ∈ rest, p ∈ news := fun p hp => .tail _ (.tail _ (.tail _ (.tail _ (.tail _ (.tail _ (.tail _ (.tail _ (.tail _ hp))))))))
  have hU : ∀ p ∈ news, p = (dr, ringO w.params t1 t2 t3 most tm (headV all) (.ref o)) ∨ p.1 ≠ dr := by
    intro p hp
    simp only [news, ledger, List.mem_cons] at hp
    rcases hp with rfl | rfl | rfl | rfl | rfl | rfl | rfl | rfl | rfl | hp
    · exact .inr hT
    · exact .inr hD
    · exact .inr hI
    · exact .inr hd
    · exact .inr hc
    · exact .inr hr
    · exact .inl rfl
    · exact .inr ho
    · exact .inr hrw
    · exact .inr (hrest p hp).2.1
  refine (deedU w r dr o all way most beat t1 t2 t3 tm tw tb no news hU idr ir io hr ho (allRef hA) hz hw0 hw hm0 hm1).weak (fun p hp => hp) (fun nx r' h => ?_)
  obtain ⟨v, o2, no2, ex, e1, h1, h2, h3, h4, h5, h6⟩ := h
  have off : ∀ x, (∀ q ∈ news, q.1 < x) → x ≠ d ∧ x ≠ dr ∧ x ≠ I := fun x hx => ⟨Nat.ne_of_gt (hx _ id), Nat.ne_of_gt (hx _ idr), Nat.ne_of_gt (hx _ iI)⟩
  have oo : o2 ≠ d ∧ o2 ≠ dr ∧ o2 ≠ I := by
    rcases h5 with rfl | h5
    · exact ⟨hod, ho, hoI⟩
    · exact off _ h5
  refine ⟨_, fun p hp => ?_, stepL most.toNat way v all, o2, no2, ex ++ rest, e1, rfl, All2.step (hA.mono fun a b h => h.mono fun p hp => List.mem_append_right _ hp) hw0 hw fun h => (h6 h).mono fun p hp => List.mem_append_left _ hp, fun p hp => ?_, oo.2.1, oo.1, oo.2.2, stepL_len hz (by omega)⟩
  · simp only [ledger, List.mem_cons, List.mem_append] at hp
    rcases hp with rfl | rfl | rfl | rfl | rfl | rfl | rfl | hp | hp
    · exact h1 _ iI hI
    · exact h1 _ id hd
    · exact h1 _ ic hc
    · exact h1 _ ir hr
    · exact h3
    · exact h4
    · exact h1 _ iD hD
    · exact (h2 p hp).1
    · exact h1 _ (irest p hp) (hrest p hp).2.1
  · rcases List.mem_append.mp hp with hp | hp
    · exact off _ (h2 p hp).2
    · exact hrest p hp
theorem news3 {h₀ h : Heap} {L : Addr} {p p' p'' : Addr × Obj} {a b c d e f g : Addr × Obj} {l : List (Addr × Obj)} (hp : p ∈ l) (hp' : p' ∈ l) (hp'' : p'' ∈ l) (N : News h₀ L h (a :: b :: c :: d :: e :: f :: g :: l)) : News h₀ L h (p :: p' :: p'' :: a :: b :: c :: d :: e :: f :: g :: l) := fun q hq => by
  rcases List.mem_cons.mp hq with rfl | hq
  · exact N _ (.tail _ (.tail _ (.tail _ (.tail _ (.tail _ (.tail _ (.tail _ hp)))))))
  · rcases memTwo hq with rfl | rfl | hq
    · exact N _ (.tail _ (.tail _ (.tail _ (.tail _ (.tail _ (.tail _ (.tail _ hp')))))))
    · exact N _ (.tail _ (.tail _ (.tail _ (.tail _ (.tail _ (.tail _ (.tail _ hp'')))))))
    · exact N q hq
theorem offI {I a b c d e f : Addr} {o1 o2 o3 o4 o5 o6 : Obj} {rest : List (Addr × Obj)} (h1 : a ≠ I) (h2 : b ≠ I) (h3 : c ≠ I) (h4 : d ≠ I) (h5 : e ≠ I) (h6 : f ≠ I) (h : ∀ p ∈ rest, p.1 ≠ I) : ∀ p ∈ (a, o1) :: (b, o2) :: (c, o3) :: (d, o4) :: (e, o5) :: (f, o6) :: rest, p.1 ≠ I := by
  intro p hp
  simp only [List.mem_cons] at hp
  rcases hp with rfl | rfl | rfl | rfl | rfl | rfl | hp
  · exact h1
  · exact h2
  · exact h3
  · exact h4
  · exact h5
  · exact h6
  · exact h p hp
theorem offOld {D rw i1 i2 i3 i4 i5 : Addr} {o1 o2 o3 o4 o5 : Obj} {news : List (Addr × Obj)} (h : D = rw ∨ ∀ p ∈ (i1, o1) :: (i2, o2) :: (i3, o3) :: (i4, o4) :: (i5, o5) :: news, p.1 < D) (h1 : @Ne Nat rw i1) (h2 : @Ne Nat rw i2) (h5 : @Ne Nat rw i5) : @Ne Nat D i1 ∧ @Ne Nat D i2 ∧ @Ne Nat D i5 := by
  rcases h with rfl | h
  · exact ⟨h1, h2, h5⟩
  · exact ⟨Nat.ne_of_gt (h _ (.head _)), Nat.ne_of_gt (h _ (.tail _ (.head _))), Nat.ne_of_gt (h _ (.tail _ (.tail _ (.tail _ (.tail _ (.head _))))))⟩
end Mine
end
section
open PySem PySem.W PyProof.Rows PySem.Calls PySem.SeqAt
namespace Mine

local macro_rules | `(tactic| k_ne) => `(tactic| first | with_reducible assumption | exact Ne.symm (by with_reducible assumption))
set_option maxHeartbeats 8000000 in
theorem turn1 (w : World) (mean : ExcName → Option Value) (mg mb : Str → Option Value) (dp un : Nat) (gd : Option (List Code)) (a : Addr) (ccd : Value) (cl : List (Str × Addr)) (outer : List Env) (A₀ : Around) (base h₀ : Heap) (L : Addr) (s : Shared) (E : Value → Shared → Prop) (Q : Flow → Shared → Prop)
    (I : Addr) (oI : Obj) (d c : Addr) (k : Int) (tk : Tok) (nd nc : Nat) (vs : List Value) (sc : List Int) (r dr : Addr) (t1 t2 t3 : Tok) (most : Int) (tm tm' : Tok) (all : List Value) (o : Addr) (no : Nat) (rw : Addr) (rvs : List Value) (nr : Nat) (rest : List (Addr × Obj))
    (ns : List Int) (beat : Int) (tb : Tok) (u : Str → Option Value)
    (hA : All2 (IsMade w.params rest) all ns) (hR : IntsAre rvs ns) (hrest : ∀ p ∈ rest, p.1 ≠ d ∧ p.1 ≠ dr ∧ p.1 ≠ I) (hIdr : @Ne Nat I dr) (hId : @Ne Nat I d) (hddr : @Ne Nat d dr) (hcd : @Ne Nat c d) (hcI : @Ne Nat c I) (hrI : @Ne Nat r I) (hcdr : @Ne Nat c dr) (hrd : @Ne Nat r d) (hrdr : @Ne Nat r dr) (hodr : @Ne Nat o dr) (hod : @Ne Nat o d) (hoI : @Ne Nat o I) (hrwdr : @Ne Nat rw dr) (hrwd : @Ne Nat rw d) (hrwI : @Ne Nat rw I)
    (hz : all.length ≤ 6) (hm0 : 1 ≤ most) (hm1 : most ≤ 6) (bnd : Int) (hk0 : 0 ≤ k) (hk2 : k ≤ bnd) (hk1 : bnd ≤ 1000) (hi : IntsAre vs sc) (hn : sc.length ≤ 63)
    (B : Below A₀ base outer h₀) (F : Fr h₀ L s.heap (fun y => if y = Str.ofString "beat" then some (.int beat tb) else if y = Str.ofString "deck" then some (.ref d) else if y = Str.ofString "most" then some (.int most tm') else if y = Str.ofString "ring" then some (.ref r) else if y = Str.ofString "row" then some (.ref rw) else u y))
    (X : (hd.heap_39 w.params).In h₀) (N : News h₀ L s.heap (ledger w.params I oI d c k tk nd nc vs r dr t1 t2 t3 most tm all o no rw rvs nr rest)) (T : Top hd.view_39 (looseW hd.view_39 []) mean mg mb h₀) (hdp : dp + 10 < recursionLimit) (hun : un + 100 < cLine)
    (hret : ∀ m' nx h' tk', J1 w.params d c nd nc vs r dr t1 t2 t3 most tm (bnd + 1) m' nx → (∀ p ∈ nx, p.1 ≠ I) → Fr h₀ L h' m' → News h₀ L h' ((I, oI) :: nx) → Q .next { s with heap := h', toks := tk' }) :
    wpAny (model PySem.Challenge.rw_np0014_01.row.prog w) (ktrTop dp un gd (Str.ofString "law") lawScope L a ccd cl outer) (execs loop1 (envX (Str.ofString "law") lawScope L a ccd cl)) Q E s := by
  have hzr : rvs.length ≤ 6 := by rw [hR.length, ← hA.length]; exact hz
  have hlen : all.length = rvs.length := by rw [hR.length, ← hA.length]
  have h999 : k ≤ 1000 := Int.le_trans hk2 hk1
  revert X
  k_fill
  intro X
  dsimp only [loop1, lawScope, scopeOf, bodyOf, lawStmt, PySem.Challenge.pw_np0014_01, List.getLast?, List.getLast, Option.getD, List.getElem?_cons_succ, List.getElem?_cons_zero, ledger, deckO] at N ⊢
  have hrestd : ∀ p ∈ rest, p.1 ≠ d := fun p hp => (hrest p hp).1
  w_top off
  repeat' (first
    | (k_unfold; (try dsimp only))
    | (k_here; (with_reducible show wpAny _ _ (eval (PySem.Expr.Call _ _ _ _) _) _ _ _); refine' eval_gen ?_; intro K9 hK9; walk1)
    | (k_here; (with_reducible show wpAny _ _ (eval (PySem.Expr.BinOp _ _ _ _) _) _ _ _); refine' eval_gen ?_; intro K9 hK9; walk1)
    | (k_here; (with_reducible show wpAny _ _ (compareOp CmpOp.NotEq (Value.ref _) (Value.ref _)) _ _ _); k_dflt ((refine' neTup1 (i := b9) ?hh9hl ?hh9hb ?hh9hu ?_); (case hh9hl => exact (newsGet (by k_asm) (by k_mem))); (case hh9hb => exact (newsGet (by k_asm) (by k_mem))); (case hh9hu => (first | exact roomA (by with_reducible assumption) (by decide) | exact roomAB (by with_reducible assumption) (by decide) | exact roomABC (by with_reducible assumption) (by decide) | exact room0 (by with_reducible assumption) (by rfl) | exact roomN 3 (by with_reducible assumption) (by rfl) (by decide) | exact roomN 6 (by with_reducible assumption) (by rfl) (by decide) | ktr_units))); (try dsimp only))
    | (k_here; (with_reducible show wpAny _ _ (compareOp CmpOp.NotEq (Value.ref D8) (Value.ref D9)) _ _ _); k_dflt ((refine' neSame hD8 ?hh9hb hys8 hR9 ?hh9hu ?_); (case hh9hb => kmk_list); (case hh9hu => (first | exact roomA (by with_reducible assumption) (by decide) | exact roomAB (by with_reducible assumption) (by decide) | exact roomABC (by with_reducible assumption) (by decide) | exact room0 (by with_reducible assumption) (by rfl) | exact roomN 3 (by with_reducible assumption) (by rfl) (by decide) | exact roomN 6 (by with_reducible assumption) (by rfl) (by decide) | ktr_units))); (try dsimp only))
    | ((with_reducible show CmpSrc _ _ _ _ _ _ _ _); k_dflt ((refine' CmpSrc.mk ?hh9F ?hh9N ?hh9hs ?hh9hl ?_); (case hh9F => k_asm); (case hh9N => k_asm); (case hh9hs => (intro p hp; k_ownIn)); (case hh9hl => kmk_list)); intro D8 ys8 h' tk' F' N' hD8 hys8; (try dsimp only); (try k_fold))
    | (k_here; (with_reducible show wpAny _ _ (eval (PySem.Expr.ListComp _ _ _ _) _) _ _ _); k_dflt ((refine' compCounter (h₀ := h₀) (L := L) _ _ _ hA2 ?hh9hz ?hh9X ?hh9hh ?hh9hf ?hh9hc ?hh9hk ?hh9hn ?hh9hx ?_ ?hh9hs); (case hh9hz => omega); (case hh9X => k_asm); (case hh9hh => rfl); (case hh9hf => decide); (case hh9hc => decide); (case hh9hk => rfl); (case hh9hn => decide); (case hh9hx => rfl); (case hh9hs => (intro x; rfl))))
    | (k_here; (with_reducible show wpAny _ _ (compareOp CmpOp.NotEq (dueV _ _) (dueV _ _)) _ _ _); refine' neDue ?hh9e ?_; (case hh9e => assumption))
    | (k_here; (with_reducible show wpAny _ _ (PySem.call (Value.ref 147) _ _) _ _ _); k_dflt ((refine' Ctr.use (deedT _ T9 _ D9 _ _ I oI d c _ _ nd nc vs r dr t1 t2 t3 most tm all o no rw rvs nr rest ns ns9 _ _ _ _ hns9 hA hrest ?hh9hT hDdr hIdr hddr hcdr hrdr hodr hod hoI hrwdr hz ?hh9hw0 ?hh9hw hm0 hm1) ?hh9B ?hh9F ?hh9X ?hh9N ?hh9T ?hh9hk ?hh9hd ?hh9hu ?_); (case hh9hT => (first | with_reducible assumption | exact Ne.symm (by with_reducible assumption) | k_ne)); (case hh9B => k_asm); (case hh9F => k_asm); (case hh9X => k_asm); (case hh9N => k_asm); (case hh9hw0 => omega); (case hh9hw => omega); (case hh9T => k_asm); (case hh9hk => first | exact rfl | assumption); (case hh9hd => (first | exact roomA (by with_reducible assumption) (by decide) | exact roomAB (by with_reducible assumption) (by decide) | exact roomABC (by with_reducible assumption) (by decide) | exact room0 (by with_reducible assumption) (by rfl) | exact roomN 1 (by with_reducible assumption) (by rfl) (by decide) | exact roomN 2 (by with_reducible assumption) (by rfl) (by decide) | exact roomN 3 (by with_reducible assumption) (by rfl) (by decide) | ktr_room)); (case hh9hu => (first | exact roomA (by with_reducible assumption) (by decide) | exact roomAB (by with_reducible assumption) (by decide) | exact roomABC (by with_reducible assumption) (by decide) | exact room0 (by with_reducible assumption) (by rfl) | exact roomN 3 (by with_reducible assumption) (by rfl) (by decide) | exact roomN 6 (by with_reducible assumption) (by rfl) (by decide) | ktr_units))); intro r9 nx9 h' tk' F' N' hP9; obtain ⟨all2, o2, no2, rest2, e9, e9', hA2, hrest2, ho2dr, ho2d, ho2I, hz2⟩ := hP9; subst e9; subst e9'; (try dsimp only [ledger] at N'); obtain ⟨ha9, hb9, hc9⟩ | ⟨X9, dX9, ev9, b9, k91, k92, k93, tb9, tb92, tf9, t92, all3, ns3, vD3, ha9, hb9, hc9, hX9, hd9, he9⟩ := cases2 hA2 hR9 <;> subst ha9 <;> subst hb9 <;> subst hc9 <;> (try (replace N' := news3 hX9 hd9 he9 N')) <;> (dsimp only [headV, List.tail] at N') <;> (try dsimp only) <;> (try k_fold))
    | (k_here; (with_reducible show wpAny _ _ (PySem.call (Value.ref 154) _ _) _ _ _); k_dflt ((refine' Ctr.use (rowT _ _ _ ns _ _ _ _ _ _ _ _ ?hh9hr hR ?hh9hz ?hh9hw0 ?hh9hw ?hh9hm0 ?hh9hm1) ?hh9B ?hh9F ?hh9X ?hh9N ?hh9T ?hh9hk ?hh9hd ?hh9hu ?_); (case hh9B => k_asm); (case hh9F => k_asm); (case hh9X => k_asm); (case hh9N => k_asm); (case hh9hr => k_mem); (case hh9hz => omega); (case hh9hw0 => omega); (case hh9hw => omega); (case hh9hm0 => (first | decide | omega)); (case hh9hm1 => (first | decide | omega)); (case hh9T => k_asm); (case hh9hk => first | exact rfl | assumption); (case hh9hd => (first | exact roomA (by with_reducible assumption) (by decide) | exact roomAB (by with_reducible assumption) (by decide) | exact roomABC (by with_reducible assumption) (by decide) | exact room0 (by with_reducible assumption) (by rfl) | exact roomN 1 (by with_reducible assumption) (by rfl) (by decide) | exact roomN 2 (by with_reducible assumption) (by rfl) (by decide) | exact roomN 3 (by with_reducible assumption) (by rfl) (by decide) | ktr_room)); (case hh9hu => (first | exact roomA (by with_reducible assumption) (by decide) | exact roomAB (by with_reducible assumption) (by decide) | exact roomABC (by with_reducible assumption) (by decide) | exact room0 (by with_reducible assumption) (by rfl) | exact roomN 3 (by with_reducible assumption) (by rfl) (by decide) | exact roomN 6 (by with_reducible assumption) (by rfl) (by decide) | ktr_units))); intro r9 nx9 h' tk' F' N' hP9; obtain ⟨D9, nD9, T9, vD9, ns9, e9, e9', l9, l9', hR9, hns9⟩ := hP9; subst e9; subst e9'; obtain ⟨hDI, hDd, hDdr⟩ := offOld l9' hrwI hrwd hrwdr; clear l9'; (k_lt l9); (try dsimp only); (try k_fold))
    | (k_here; (with_reducible show wpAny _ _ (PySem.call (Value.ref 140) _ _) _ _ _); k_dflt ((refine' Ctr.use (draw _ _ _ _ _ _ _ _ _ _ _ _ _ ?hh9hU ?hh9hc ?hh9hcd ?hh9hi ?hh9hn ?hh9hk0 ?hh9hk1 ?hh9hm0 ?hh9hm1) ?hh9B ?hh9F ?hh9X ?hh9N ?hh9T ?hh9hk ?hh9hd ?hh9hu ?_); (case hh9B => k_asm); (case hh9F => k_asm); (case hh9X => k_asm); (case hh9N => k_asm); (case hh9hU => (intro D9; k_upd)); (case hh9hc => k_mem); (case hh9hcd => (first | with_reducible assumption | exact Ne.symm (by with_reducible assumption) | k_ne)); (case hh9hi => assumption); (case hh9hn => (first | assumption | omega)); (case hh9hk0 => (first | ((repeat' (first | with_reducible assumption | refine Int.add_nonneg ?_ (by decide))); done) | omega)); (case hh9hk1 => (first | (refine Int.le_trans (by (repeat' (first | with_reducible exact h999 | refine Int.add_le_add_right ?_ _))) (by decide)) | omega)); (case hh9hm0 => (first | decide | omega)); (case hh9hm1 => (first | decide | omega)); (case hh9T => k_asm); (case hh9hk => first | exact rfl | assumption); (case hh9hd => (first | exact roomA (by with_reducible assumption) (by decide) | exact roomAB (by with_reducible assumption) (by decide) | exact roomABC (by with_reducible assumption) (by decide) | exact room0 (by with_reducible assumption) (by rfl) | exact roomN 1 (by with_reducible assumption) (by rfl) (by decide) | exact roomN 2 (by with_reducible assumption) (by rfl) (by decide) | exact roomN 3 (by with_reducible assumption) (by rfl) (by decide) | ktr_room)); (case hh9hu => (first | exact roomA (by with_reducible assumption) (by decide) | exact roomAB (by with_reducible assumption) (by decide) | exact roomABC (by with_reducible assumption) (by decide) | exact room0 (by with_reducible assumption) (by rfl) | exact roomN 3 (by with_reducible assumption) (by rfl) (by decide) | exact roomN 6 (by with_reducible assumption) (by rfl) (by decide) | ktr_units))); intro r9 nx9 h' tk' F' N' hP9; refine drawElim hP9 ?_; intro qt9 v9 t9 e9 e9' lv9 lv9'; clear hP9; subst e9; subst e9'; (try dsimp only at N'); (try dsimp only); (try k_fold); (try k_sweep))
    | (k_here; (with_reducible show wpAny _ _ (subscriptTail _ (PySem.Expr.Slice _ _ none _) (Value.ref _) (Value.ref _)) _ _ _); k_dflt (refine' kms_slice_lit ?hh9F ?hh9N ?hh9l ?hh9p ?hh9q ?hh9e ?_ ?hh9s ?hh9t ?hh9z; (case hh9F => k_asm); (case hh9N => k_asm); (case hh9l => kmk_list); (case hh9p => kmk_part); (case hh9q => kmk_part); (case hh9e => first | exact pickNil _ _ | exact pick1c _ _ | exact pick2c _ _ _ | exact pickT1c _ _ | exact pickLast3 _ _ _ | exact pickBut3 _ _ _ | exact pickLast2 _ _ | exact pickBut2 _ _ | exact pick1 _ | exact pick2 _ | exact pickLast _ | exact pickBut _ | exact pickTo _ _ (by omega)); (case hh9s => with_unfolding_all rfl); (case hh9t => kmk_pure); (case hh9z => (simp only [sizeLine_eq, List.size_toArray, List.length_cons, List.length_nil, List.length_append, List.length_drop, List.length_take]; omega))); intro D' h' F' N' l1; (try k_lt l1); (try k_sweep))
    | (k_here; (with_reducible show wpAny _ _ (compareOp CmpOp.NotEq (Value.ref _) (Value.ref _)) _ _ _); k_dflt (refine' neNil ?hh9a ?hh9b ?hh9u ?_; (case hh9a => kmk_list); (case hh9b => kmk_list); (case hh9u => (first | exact roomA (by with_reducible assumption) (by decide) | exact roomAB (by with_reducible assumption) (by decide) | exact roomABC (by with_reducible assumption) (by decide) | exact room0 (by with_reducible assumption) (by rfl) | exact roomN 3 (by with_reducible assumption) (by rfl) (by decide) | exact roomN 6 (by with_reducible assumption) (by rfl) (by decide) | ktr_units))))
    | (k_here; (with_reducible show wpAny _ _ (compareOp CmpOp.NotEq (Value.ref _) (Value.ref _)) _ _ _); k_dflt (refine' neCons ?hh9a ?hh9b ?hh9u ?_; (case hh9a => kmk_list); (case hh9b => kmk_list); (case hh9u => (first | exact roomA (by with_reducible assumption) (by decide) | exact roomAB (by with_reducible assumption) (by decide) | exact roomABC (by with_reducible assumption) (by decide) | exact room0 (by with_reducible assumption) (by rfl) | exact roomN 3 (by with_reducible assumption) (by rfl) (by decide) | exact roomN 6 (by with_reducible assumption) (by rfl) (by decide) | ktr_units))))
    | (k_here; (with_reducible show wpAny _ _ (compareOp CmpOp.NotEq (Value.ref _) (Value.ref _)) _ _ _); k_dflt (refine' neEmpty ?hh9a ?hh9b ?hh9u ?_; (case hh9a => kmk_list); (case hh9b => kmk_list); (case hh9u => (first | exact roomA (by with_reducible assumption) (by decide) | exact roomAB (by with_reducible assumption) (by decide) | exact roomABC (by with_reducible assumption) (by decide) | exact room0 (by with_reducible assumption) (by rfl) | exact roomN 3 (by with_reducible assumption) (by rfl) (by decide) | exact roomN 6 (by with_reducible assumption) (by rfl) (by decide) | ktr_units))))
    | (k_here; (with_reducible show wpAny _ _ (compareOp CmpOp.Eq (Value.ref _) (Value.ref _)) _ _ _); k_dflt (refine' eqNil ?hh9a ?hh9b ?hh9u ?_; (case hh9a => kmk_list); (case hh9b => kmk_list); (case hh9u => (first | exact roomA (by with_reducible assumption) (by decide) | exact roomAB (by with_reducible assumption) (by decide) | exact roomABC (by with_reducible assumption) (by decide) | exact room0 (by with_reducible assumption) (by rfl) | exact roomN 3 (by with_reducible assumption) (by rfl) (by decide) | exact roomN 6 (by with_reducible assumption) (by rfl) (by decide) | ktr_units))))
    | (k_here; (with_reducible show wpAny _ _ (compareOp CmpOp.Eq (Value.ref _) (Value.ref _)) _ _ _); k_dflt (refine' eqSnoc ?hh9a ?hh9b ?hh9u ?_; (case hh9a => kmk_list); (case hh9b => kmk_list); (case hh9u => (first | exact roomA (by with_reducible assumption) (by decide) | exact roomAB (by with_reducible assumption) (by decide) | exact roomABC (by with_reducible assumption) (by decide) | exact room0 (by with_reducible assumption) (by rfl) | exact roomN 3 (by with_reducible assumption) (by rfl) (by decide) | exact roomN 6 (by with_reducible assumption) (by rfl) (by decide) | ktr_units))))
    | (k_here; (with_reducible show wpAny _ _ (compareOp CmpOp.Eq (Value.ref _) (Value.ref _)) _ _ _); k_dflt (refine' eqCons ?hh9a ?hh9b ?hh9u ?_; (case hh9a => kmk_list); (case hh9b => kmk_list); (case hh9u => (first | exact roomA (by with_reducible assumption) (by decide) | exact roomAB (by with_reducible assumption) (by decide) | exact roomABC (by with_reducible assumption) (by decide) | exact room0 (by with_reducible assumption) (by rfl) | exact roomN 3 (by with_reducible assumption) (by rfl) (by decide) | exact roomN 6 (by with_reducible assumption) (by rfl) (by decide) | ktr_units))))
    | (k_here; (with_reducible show wpAny _ _ (compareOp CmpOp.Eq (Value.ref _) (Value.ref _)) _ _ _); k_dflt (refine' eqEmpty ?hh9a ?hh9b ?hh9u ?_; (case hh9a => kmk_list); (case hh9b => kmk_list); (case hh9u => (first | exact roomA (by with_reducible assumption) (by decide) | exact roomAB (by with_reducible assumption) (by decide) | exact roomABC (by with_reducible assumption) (by decide) | exact room0 (by with_reducible assumption) (by rfl) | exact roomN 3 (by with_reducible assumption) (by rfl) (by decide) | exact roomN 6 (by with_reducible assumption) (by rfl) (by decide) | ktr_units))))
    | (k_here; (with_reducible show wpAny _ _ (binaryOp _ (Value.ref _) (Value.ref _)) _ _ _); k_dflt (refine' kmk_add_lit ?hh9F ?hh9N ?hh9a ?hh9b ?hh9e ?_ ?hh9z; (case hh9F => k_asm); (case hh9N => k_asm); (case hh9a => kmk_list); (case hh9b => kmk_list); (case hh9e => ((simp only [List.cons_append, List.nil_append]); exact rfl)); (case hh9z => (simp only [sizeLine_eq, List.length_cons, List.length_nil, List.length_append, List.length_drop, List.length_take]; omega))); intro D' h' F' N' l1; (try k_lt l1); (try k_sweep))
    | (refine' useV ?hh9k ?_; (case hh9k => with_reducible assumption); (try dsimp only))
    | (k_end; wrow_close)
    | walk1
    | (dsimp only; walk1)
    | (leave1; walk_say "STEP leave1"; try dsimp only)
    | fail "no step")
  · refine hret _ (led w.params d c (k + 1) qt9 nd nc vs r dr t1 t2 t3 most tm [] o2 no2 D9 [] nD9 rest2) _ _ ⟨k + 1, qt9, [], o2, no2, D9, [], nD9, rest2, [], _, rfl, rfl, rfl, rfl, rfl, hA2, hR9, fun p hp => ⟨(hrest2 p hp).1, (hrest2 p hp).2.1⟩, ho2dr, ho2d, hDdr, hDd, hz2, by omega, by omega⟩ ?_ (by assumption) (newsMono (by assumption) ?_)
    · exact offI hId.symm hcI hrI hIdr.symm ho2I hDI fun p hp => (hrest2 p hp).2.2
    · intro p hp
      k_ownIn
  · refine hret _ (led w.params d c (k + 1) qt9 nd nc vs r dr t1 t2 t3 most tm (.ref X9 :: all3) o2 no2 D9 (.int b9 t92 :: vD3) nD9 rest2) _ _ ⟨k + 1, qt9, (.ref X9 :: all3), o2, no2, D9, (.int b9 t92 :: vD3), nD9, rest2, b9 :: ns3, _, rfl, rfl, rfl, rfl, rfl, hA2, hR9, fun p hp => ⟨(hrest2 p hp).1, (hrest2 p hp).2.1⟩, ho2dr, ho2d, hDdr, hDd, hz2, by omega, by omega⟩ ?_ (by assumption) (newsMono (by assumption) ?_)
    · exact offI hId.symm hcI hrI hIdr.symm ho2I hDI fun p hp => (hrest2 p hp).2.2
    · intro p hp
      k_ownIn
end Mine
end
end
section
open PySem PySem.W PyProof.Rows PySem.Calls PySem.SeqAt
namespace Mine
theorem frame1 {m : Str → Option Value} {v : Value} {d r rw : Addr} {most : Int} {tm : Tok} (h1 : m (Str.ofString "deck") = some (.ref d)) (h2 : m (Str.ofString "most") = some (.int most tm)) (h3 : m (Str.ofString "ring") = some (.ref r)) (h4 : m (Str.ofString "row") = some (.ref rw)) :
    (fun y => if y = Str.ofString "beat" then some v else m y) = (fun y => if y = Str.ofString "beat" then some v else if y = Str.ofString "deck" then some (.ref d) else if y = Str.ofString "most" then some (.int most tm) else if y = Str.ofString "ring" then some (.ref r) else if y = Str.ofString "row" then some (.ref rw) else m y) := by
  funext y
  split
  · rfl
  · split
    · next h => rw [h, h1]
    · split
      · next h => rw [h, h2]
      · split
        · next h => rw [h, h3]
        · split
          · next h => rw [h, h4]
          · rfl
theorem loop1P (w : World) (mean : ExcName → Option Value) (mg mb : Str → Option Value) (dp un : Nat) (gd : Option (List Code)) (a : Addr) (ccd : Value) (cl : List (Str × Addr)) (outer : List Env) (A₀ : Around) (base h₀ : Heap) (L : Addr) (s : Shared) (E : Value → Shared → Prop) (Q : Flow → Shared → Prop)
    (rg : Addr) (n : Nat) (b₀ : Int) (t₀ u₀ v₀ : Tok) (d c : Addr) (nd nc : Nat) (vs : List Value) (sc : List Int) (r dr : Addr) (t1 t2 t3 : Tok) (most : Int) (tm : Tok) (bnd : Int) (m₀ : Str → Option Value) (news nx : List (Addr × Obj))
    (hr : IsRange s.heap rg 0 b₀ 1 t₀ u₀ v₀) (hb : b₀ = (n : Int)) (hb1 : n ≤ 100)
    (hddr : @Ne Nat d dr) (hcd : @Ne Nat c d) (hcdr : @Ne Nat c dr) (hrd : @Ne Nat r d) (hrdr : @Ne Nat r dr)
    (hm0 : 1 ≤ most) (hm1 : most ≤ 6) (hbn : bnd ≤ 100) (hi : IntsAre vs sc) (hn : sc.length ≤ 63)
    (B : Below A₀ base outer h₀) (F : Fr h₀ L s.heap m₀) (X : (hd.heap_39 w.params).In h₀) (N : News h₀ L s.heap news) (hs : ∀ p ∈ nx, p ∈ news) (hJ : J1 w.params d c nd nc vs r dr t1 t2 t3 most tm bnd m₀ nx) (T : Top hd.view_39 (looseW hd.view_39 []) mean mg mb h₀) (hdp : dp + 10 < recursionLimit) (hun : un + 100 < cLine)
    (done : ∀ m₁ nx h tk, J1 w.params d c nd nc vs r dr t1 t2 t3 most tm (bnd + n) m₁ nx → Fr h₀ L h m₁ → News h₀ L h nx → Q .next { s with heap := h, toks := tk }) :
    wpAny (model PySem.Challenge.rw_np0014_01.row.prog w) (ktrTop dp un gd (Str.ofString "law") lawScope L a ccd cl outer) (pyIter (.ref rg))
      (fun it s₂ => LoopAtV PySem.Challenge.rw_np0014_01.row.prog w (ktrTop dp un gd (Str.ofString "law") lawScope L a ccd cl outer) h₀ (envX (Str.ofString "law") lawScope L a ccd cl) (Str.ofString "beat") loop1 Q E it s₂) E s := by
  subst hb
  refine loopR (env := envX (Str.ofString "law") lawScope L a ccd cl) (fun i m nx => J1 w.params d c nd nc vs r dr t1 t2 t3 most tm (bnd + i) m nx) rfl hr (small_one (by omega) (by omega) (by omega) (by omega)) (n := n) (by rw [rangeSize_nat]; omega) F (newsMono N hs) (by simpa using hJ) ?_ ?_
  · intro i t m₁ nx₁ I oI h tk hi' hJ1 hoff F₁ N₁
    refine J1.elim hJ1 ?_
    intro k tk' all o no rw rvs nr rest ns tm' e g1 g2 g3 g4 hA hR hrest hodr hod hrwdr hrwd hz hk0 hk1
    subst e
    rw [frame1 g1 g2 g3 g4] at F₁
    have off : ∀ (x : Addr) (ox : Obj), (x, ox) ∈ led w.params d c k tk' nd nc vs r dr t1 t2 t3 most tm all o no rw rvs nr rest → @Ne Nat x I := fun x ox hp => hoff (x, ox) hp
    refine turn1 w mean mg mb dp un gd a ccd cl outer A₀ base h₀ L _ E _ I oI d c k tk' nd nc vs sc r dr t1 t2 t3 most tm tm' all o no rw rvs nr rest ns (0 + (i : Int)) t m₁ hA hR (fun p hp => ⟨(hrest p hp).1, (hrest p hp).2, off p.1 p.2 (.tail _ (.tail _ (.tail _ (.tail _ (.tail _ (.tail _ hp))))))⟩)
      (off dr _ (.tail _ (.tail _ (.tail _ (.head _))))).symm (off d _ (.head _)).symm hddr hcd (off c _ (.tail _ (.head _))) (off r _ (.tail _ (.tail _ (.head _)))) hcdr hrd hrdr hodr hod (off o _ (.tail _ (.tail _ (.tail _ (.tail _ (.head _)))))) hrwdr hrwd (off rw _ (.tail _ (.tail _ (.tail _ (.tail _ (.tail _ (.head _)))))))
      hz hm0 hm1 (bnd + i) hk0 hk1 (by omega) hi hn B F₁ X N₁ T hdp hun ?_
    intro m' nx' h' tk9 hJ' ho' F' N'
    refine ⟨rfl, h', tk9, m', nx', rfl, F', N', ho', ?_⟩
    have e : bnd + ((i + 1 : Nat) : Int) = bnd + (i : Int) + 1 := by omega
    rw [e]
    exact hJ'
  · intro m₁ nx h tk hJ' F' N'
    exact done m₁ nx h tk hJ' F' N'
end Mine
end
section
open PySem PySem.W PyProof.Rows PySem.Calls PySem.SeqAt
namespace Mine
/-- behind a tree that starts with a token drawn, a token is drawn -/
noncomputable def PosQ {α : Type} (Q : α → Shared → Prop) : α → Shared → Prop := fun a s' => 1 ≤ s'.toks → Q a s'
section
variable {M : Model} {A : Around} {s : Shared}
theorem wpAny_pos {α : Type} {t : Sem α} {Q : α → Shared → Prop} {E : Value → Shared → Prop} (hn : 1 ≤ s.toks) (h : wpAny M A t (PosQ Q) E s) : wpAny M A t Q E s :=
  wpAny_with_toks (n := 1) hn (wpAny_mono h (fun _ _ x => x) fun _ _ x _ => x)
theorem PosQ.intro {α : Type} {Q : α → Shared → Prop} {a : α} {s : Shared} (h : 1 ≤ s.toks → Q a s) : PosQ Q a s := h
theorem PosQ.mk {α : Type} {Q : α → Shared → Prop} {a : α} {X : Nat} {s : Shared} (h : ∀ tk, 1 ≤ tk → Q a { s with toks := tk }) : PosQ Q a { s with toks := X } := fun h' => h X h'
theorem execs_cons_pos {st : Stmt} {rest : List Stmt} {env : Env} {Q : Flow → Shared → Prop} {E : Value → Shared → Prop} {X : Nat} {h g d o} (hp : 1 ≤ X)
    (C : ∀ tk, 1 ≤ tk → wpAny M A (exec st env) (PosQ fun f s' => match f with | .next => wpAny M A (execs rest env) Q E s' | f => Q f s') E (Shared.mk h g d tk o)) :
    wpAny M A (execs (st :: rest) env) Q E (Shared.mk h g d X o) := wpAny_execs_cons (wpAny_pos hp (C X hp))
end
/-- as Ctr, of states in which a token is drawn -/
noncomputable def CtrP (w : World) (f : Addr) (args : List Value) (dn un' : Nat) (news : List (Addr × Obj)) (Post : List (Addr × Obj) → Value → Prop) : Prop :=
  ∀ (mean : ExcName → Option Value) (mg mb : Str → Option Value) (dp un : Nat) (gd : Option (List Code)) (cn : Str) (cs : Scope) (a : Addr) (ccd : Value) (cl : List (Str × Addr)) (outer : List Env) (A₀ : Around) (base h₀ : Heap) (L : Addr) (m : Str → Option Value) (s : Shared) (R : Result → Shared → Prop),
    1 ≤ s.toks → Below A₀ base outer h₀ → Fr h₀ L s.heap m → (hd.heap_39 w.params).In h₀ → News h₀ L s.heap news → Top hd.view_39 (looseW hd.view_39 []) mean mg mb h₀ → cs.kind = .function → dp + dn < recursionLimit → un + un' < cLine →
    (∀ r nx h' tk', Fr h₀ L h' m → News h₀ L h' nx → Post nx r → R (.ok (.ret r)) { s with heap := h', toks := tk' }) →
    codeAny (model PySem.Challenge.rw_np0014_01.row.prog w) (ktrTop dp un gd cn cs L a ccd cl outer) (.call (.ref f) ⟨args, []⟩) R s
theorem CtrP.use {w : World} {f : Addr} {args : List Value} {dn un' : Nat} {news : List (Addr × Obj)} {Post : List (Addr × Obj) → Value → Prop} (C : CtrP w f args dn un' news Post)
    {mean : ExcName → Option Value} {mg mb : Str → Option Value} {dp un : Nat} {gd : Option (List Code)} {cn : Str} {cs : Scope} {a : Addr} {ccd : Value} {cl : List (Str × Addr)} {outer : List Env} {A₀ : Around} {base h₀ : Heap} {L : Addr} {m : Str → Option Value} {s : Shared} {Q E : Value → Shared → Prop}
    (hp : 1 ≤ s.toks) (B : Below A₀ base outer h₀) (F : Fr h₀ L s.heap m) (X : (hd.heap_39 w.params).In h₀) (N : News h₀ L s.heap news) (T : Top hd.view_39 (looseW hd.view_39 []) mean mg mb h₀) (hk : cs.kind = .function) (hd : dp + dn < recursionLimit) (hu : un + un' < cLine)
    (ret : ∀ r nx h' tk', 1 ≤ tk' → Fr h₀ L h' m → News h₀ L h' nx → Post nx r → Q r { s with heap := h', toks := tk' }) :
    wpAny (model PySem.Challenge.rw_np0014_01.row.prog w) (ktrTop dp un gd cn cs L a ccd cl outer) (PySem.call (.ref f) args) Q E s :=
  wpAny_pos hp (wpAny_call (C _ _ _ _ _ _ _ _ _ _ _ _ _ _ _ _ _ _ _ hp B F X N T hk hd hu fun r nx h' tk' F' N' hP hp' => ret r nx h' tk' hp' F' N' hP))
theorem CtrP.weak {w : World} {f : Addr} {args : List Value} {dn un' : Nat} {news news1 : List (Addr × Obj)} {Post Post1 : List (Addr × Obj) → Value → Prop} (C : CtrP w f args dn un' news Post)
    (h1 : ∀ p ∈ news, p ∈ news1) (h2 : ∀ nx r, Post nx r → ∃ nx', (∀ p ∈ nx', p ∈ nx) ∧ Post1 nx' r) : CtrP w f args dn un' news1 Post1 := by
  intro mean mg mb dp un gd cn cs a ccd cl outer A₀ base h₀ L m s R hp B F X N T hk hd hu ret
  refine C _ _ _ _ _ _ _ _ _ _ _ _ _ _ _ _ _ _ _ hp B F X (newsMono N h1) T hk hd hu ?_
  intro r nx h' tk' F' N' hP
  obtain ⟨nx', hs, hP'⟩ := h2 nx r hP
  exact ret r nx' h' tk' F' (newsMono N' hs) hP'
/-- behind a tree at least as many tokens are drawn as ahead of it -/
noncomputable def PosM {α : Type} (n : Nat) (Q : α → Shared → Prop) : α → Shared → Prop := fun a s' => n ≤ s'.toks → Q a s'
section
variable {M : Model} {A : Around} {s : Shared}
theorem PosM.intro {α : Type} {n : Nat} {Q : α → Shared → Prop} {a : α} {s : Shared} (h : n ≤ s.toks → Q a s) : PosM n Q a s := h
theorem wpAny_posM {α : Type} {t : Sem α} {Q : α → Shared → Prop} {E : Value → Shared → Prop} (h : wpAny M A t (PosM s.toks Q) E s) : wpAny M A t Q E s :=
  wpAny_with_toks (n := s.toks) (Nat.le_refl _) (wpAny_mono h (fun _ _ x => x) fun _ _ x _ => x)
theorem execs_cons_posM {st : Stmt} {rest : List Stmt} {env : Env} {Q : Flow → Shared → Prop} {E : Value → Shared → Prop} {X : Nat} {h g d o}
    (C : ∀ tk, X ≤ tk → wpAny M A (exec st env) (PosM tk fun f s' => match f with | .next => wpAny M A (execs rest env) Q E s' | f => Q f s') E (Shared.mk h g d tk o)) :
    wpAny M A (execs (st :: rest) env) Q E (Shared.mk h g d X o) := wpAny_execs_cons (wpAny_posM (s := Shared.mk h g d X o) (C X (Nat.le_refl _)))
end
theorem CtrP.useM {w : World} {f : Addr} {args : List Value} {dn un' : Nat} {news : List (Addr × Obj)} {Post : List (Addr × Obj) → Value → Prop} (C : CtrP w f args dn un' news Post)
    {mean : ExcName → Option Value} {mg mb : Str → Option Value} {dp un : Nat} {gd : Option (List Code)} {cn : Str} {cs : Scope} {a : Addr} {ccd : Value} {cl : List (Str × Addr)} {outer : List Env} {A₀ : Around} {base h₀ : Heap} {L : Addr} {m : Str → Option Value} {s : Shared} {Q E : Value → Shared → Prop}
    (hp : 1 ≤ s.toks) (B : Below A₀ base outer h₀) (F : Fr h₀ L s.heap m) (X : (hd.heap_39 w.params).In h₀) (N : News h₀ L s.heap news) (T : Top hd.view_39 (looseW hd.view_39 []) mean mg mb h₀) (hk : cs.kind = .function) (hd : dp + dn < recursionLimit) (hu : un + un' < cLine)
    (ret : ∀ r nx h' tk', s.toks ≤ tk' → Fr h₀ L h' m → News h₀ L h' nx → Post nx r → Q r { s with heap := h', toks := tk' }) :
    wpAny (model PySem.Challenge.rw_np0014_01.row.prog w) (ktrTop dp un gd cn cs L a ccd cl outer) (PySem.call (.ref f) args) Q E s :=
  wpAny_posM (wpAny_call (C _ _ _ _ _ _ _ _ _ _ _ _ _ _ _ _ _ _ _ hp B F X N T hk hd hu fun r nx h' tk' F' N' hP hp' => ret r nx h' tk' hp' F' N' hP))
theorem Ctr.useM {w : World} {f : Addr} {args : List Value} {dn un' : Nat} {news : List (Addr × Obj)} {Post : List (Addr × Obj) → Value → Prop} (C : Ctr w f args dn un' news Post)
    {mean : ExcName → Option Value} {mg mb : Str → Option Value} {dp un : Nat} {gd : Option (List Code)} {cn : Str} {cs : Scope} {a : Addr} {ccd : Value} {cl : List (Str × Addr)} {outer : List Env} {A₀ : Around} {base h₀ : Heap} {L : Addr} {m : Str → Option Value} {s : Shared} {Q E : Value → Shared → Prop}
    (B : Below A₀ base outer h₀) (F : Fr h₀ L s.heap m) (X : (hd.heap_39 w.params).In h₀) (N : News h₀ L s.heap news) (T : Top hd.view_39 (looseW hd.view_39 []) mean mg mb h₀) (hk : cs.kind = .function) (hd : dp + dn < recursionLimit) (hu : un + un' < cLine)
    (ret : ∀ r nx h' tk', s.toks ≤ tk' → Fr h₀ L h' m → News h₀ L h' nx → Post nx r → Q r { s with heap := h', toks := tk' }) :
    wpAny (model PySem.Challenge.rw_np0014_01.row.prog w) (ktrTop dp un gd cn cs L a ccd cl outer) (PySem.call (.ref f) args) Q E s :=
  wpAny_posM (wpAny_call (C _ _ _ _ _ _ _ _ _ _ _ _ _ _ _ _ _ _ _ B F X N T hk hd hu fun r nx h' tk' F' N' hP hp' => ret r nx h' tk' hp' F' N' hP))
theorem eval_genM {M : Model} {A : Around} {c : Sem Value} {Q E : Value → Shared → Prop} {s : Shared}
    (h : ∀ K : Value → Shared → Prop, (∀ f s', PosM s.toks Q f s' → K f s') → wpAny M A c K E s) : wpAny M A c Q E s :=
  wpAny_posM (h _ fun _ _ x => x)
end Mine
end
section
open PySem PySem.W PyProof.Rows PySem.Calls PySem.SeqAt
namespace Mine
section
variable {prog : Program} {w : World} {A : Around} {E : Value → Shared → Prop} {Q : Flow → Shared → Prop} {s : Shared} {env : Env} {h₀ : Heap} {L : Addr}
/-- the number of turns of a scan -/
noncomputable def scan (p : Nat → Bool) (len : Nat) : Nat → Nat → Nat
  | 0, e => e
  | f + 1, e => if e < len ∧ p e = true then scan p len f (e + 1) else e
theorem scan_stop {p : Nat → Bool} {len f e : Nat} (h : ¬ (e < len ∧ p e = true)) : scan p len f e = e := by
  cases f with
  | zero => rfl
  | succ f => unfold scan; rw [if_neg h]
noncomputable def EndW (p : Nat → Bool) (len : Nat) (h₀ : Heap) (L : Addr) (s : Shared) (x : Str) (m : Str → Option Value) (news : List (Addr × Obj)) (e : Nat) (f : Flow) (s₃ : Shared) : Prop :=
  f = .next ∧ e < len ∧ p e = true ∧ ∃ h' tk m' t', s₃ = { s with heap := h', toks := tk } ∧ Fr h₀ L h' m' ∧ News h₀ L h' news ∧ m' x = some (.int ((e : Int) + 1) t') ∧ ∀ y, y ≠ x → m' y = m y
theorem whileScan {test : Expr} {body : List Stmt} {pos : Pos} {m : Str → Option Value} {news : List (Addr × Obj)} {x : Str} {z : Int} {t0 : Tok} (p : Nat → Bool) (len : Nat)
    (F : Fr h₀ L s.heap m) (N : News h₀ L s.heap news) (hm : m x = some (.int z t0)) (hz : 0 ≤ z)
    (turn : ∀ (e : Nat) t h₁ tk₁, Fr h₀ L h₁ (fun y => if y = x then some (.int (e : Int) t) else m y) → News h₀ L h₁ news → scan p len (len - e) e = scan p len (len - z.toNat) z.toNat →
      wpAny (model prog w) A (isTrue test env (eval test env)) (fun b s₂ => if b = true then wpAny (model prog w) A (execs body env) (EndW p len h₀ L s x m news e) E s₂ else Q .next s₂) E { s with heap := h₁, toks := tk₁ })
    (hE : PassesOwn (model prog w) A env E := by passes_own) :
    wpAny (model prog w) A (exec (.While test body [] pos) env) Q E s := by
  refine While_inv (fun n m₁ news₁ => ∃ (e : Nat) (t : Tok), news₁ = news ∧ m₁ = (fun y => if y = x then some (.int (e : Int) t) else m y) ∧ n = len - e ∧ scan p len (len - e) e = scan p len (len - z.toNat) z.toNat) (n₀ := len - z.toNat) F N ⟨z.toNat, t0, rfl, ?_, rfl, rfl⟩ ?_ hE
  · funext y
    split
    · next h => rw [h, hm]; congr 2; omega
    · rfl
  · rintro n m₁ news₁ h₁ tk₁ F₁ N₁ ⟨e, t, rfl, rfl, rfl, hs⟩
    refine wpAny_mono (turn e t h₁ tk₁ F₁ N₁ hs) (fun b s₂ h₂ => ?_) fun _ _ x => x
    cases b with
    | false => simpa using h₂
    | true =>
      simp only [if_true] at h₂ ⊢
      refine wpAny_mono h₂ (fun f s₃ h₃ => ?_) fun _ _ x => x
      obtain ⟨rfl, hl, hp, h', tk, m', t', rfl, F', N', hx, ho⟩ := h₃
      refine ⟨rfl, h', tk, m', news₁, len - (e + 1), rfl, F', N', by omega, e + 1, t', rfl, ?_, rfl, ?_⟩
      · funext y
        split
        · next h => rw [h, hx]; rfl
        · next h => exact ho y h
      · rw [← hs]
        have e1 : len - e = (len - (e + 1)) + 1 := by omega
        rw [e1]
        show _ = if e < len ∧ p e = true then _ else _
        rw [if_pos ⟨hl, hp⟩]
end
/-- the sign at place `e` is one of the ten figures -/
noncomputable def isDig (form : Str) (e : Nat) : Bool := !(Builtin.Str.occurrences (Str.ofString "0123456789") (Txt.item form (e : Int)) 0 (Str.ofString "0123456789").length 1).isEmpty
theorem isDig_of {form : Str} {e : Nat} (h : (Builtin.Str.occurrences (Str.ofString "0123456789") (Txt.item form (e : Int)) 0 (Str.ofString "0123456789").length 1).isEmpty = false) : isDig form e = true := by unfold isDig; rw [h]; rfl
noncomputable def fAt (form : Str) : Int := Txt.find (Txt.replace form (Str.ofString "%%") (Str.ofString "..")) (Str.ofString "%")
noncomputable def fNext (form : Str) : Int := Txt.find3 (Txt.replace form (Str.ofString "%%") (Str.ofString "..")) (Str.ofString "%") (fAt form + 1)
noncomputable def fEnd (form : Str) : Nat := scan (isDig form) form.length (form.length - (fAt form + 1).toNat) (fAt form + 1).toNat
noncomputable def fSort (form : Str) : Str := Txt.slice form (some (fEnd form : Int)) (some ((fEnd form : Int) + 1))
noncomputable def sorts : List Str := [Str.ofString "d", Str.ofString "x", Str.ofString "X", Str.ofString "o"]
structure FormR where
  ahead : Str
  fills : Bool
  width : Int
  sort : Str
  behind : Str
noncomputable def formOf (form : Str) (width : Int) : FormR where
  ahead := Txt.replace (Txt.slice form none (some (fAt form))) (Str.ofString "%%") (Str.ofString "%")
  fills := Txt.slice form (some (fAt form + 1)) (some (fAt form + 1 + 1)) == Str.ofString "0"
  width := width
  sort := fSort form
  behind := Txt.replace (Txt.slice form (some ((fEnd form : Int) + 1)) none) (Str.ofString "%%") (Str.ofString "%")
/-- what form_parts answers; none: it may raise -/
noncomputable def fparts (form : Str) : Option (Option FormR) :=
  if fAt form < 0 then some none
  else if 0 ≤ fNext form then some none
  else if (sorts.any fun x => x == fSort form) = false then some none
  else match PySem.intText? (Str.ofString "0" ++ Txt.slice form (some (fAt form + 1)) (some (fEnd form : Int))) with
    | none => none
    | some w => some (some (formOf form w))
theorem scanOut1 {form : Str} {z : Int} {e : Nat} (hs : scan (isDig form) form.length (form.length - e) e = scan (isDig form) form.length (form.length - z.toNat) z.toNat) (hz : z = fAt form + 1) (h : ¬ (e : Int) < (form.length : Int)) : e = fEnd form := by
  subst hz
  unfold fEnd
  rw [← hs, scan_stop (fun q => h (by omega))]
theorem scanOut2 {form : Str} {z : Int} {e : Nat} (hs : scan (isDig form) form.length (form.length - e) e = scan (isDig form) form.length (form.length - z.toNat) z.toNat) (hz : z = fAt form + 1)
    (h : (Builtin.Str.occurrences (Str.ofString "0123456789") (Txt.item form (e : Int)) 0 (Str.ofString "0123456789").length 1).isEmpty = true) : e = fEnd form := by
  subst hz
  unfold fEnd
  rw [← hs, scan_stop (fun q => by have := q.2; unfold isDig at this; rw [h] at this; cases this)]
theorem fparts_at {form : Str} {r : Option FormR} (h : fparts form = some r) (h1 : fAt form < 0) : r = none := by
  unfold fparts at h; rw [if_pos h1] at h; exact (Option.some.inj h).symm
theorem fparts_next {form : Str} {r : Option FormR} (h : fparts form = some r) (h1 : ¬ fAt form < 0) (h2 : 0 ≤ fNext form) : r = none := by
  unfold fparts at h; rw [if_neg h1, if_pos h2] at h; exact (Option.some.inj h).symm
theorem fparts_sort {form : Str} {r : Option FormR} (h : fparts form = some r) (h1 : ¬ fAt form < 0) (h2 : ¬ 0 ≤ fNext form) (h3 : (sorts.any fun x => x == fSort form) = false) : r = none := by
  unfold fparts at h; rw [if_neg h1, if_neg h2, if_pos h3] at h; exact (Option.some.inj h).symm
theorem fparts_some {form : Str} {r : Option FormR} (h : fparts form = some r) (h1 : ¬ fAt form < 0) (h2 : ¬ 0 ≤ fNext form) (h3 : (sorts.any fun x => x == fSort form) = true) :
    ∃ w, PySem.intText? (Str.ofString "0" ++ Txt.slice form (some (fAt form + 1)) (some (fEnd form : Int))) = some w ∧ r = some (formOf form w) := by
  unfold fparts at h
  rw [if_neg h1, if_neg h2, if_neg (by rw [h3]; exact Bool.noConfusion)] at h
  split at h
  · cases h
  · next w e => exact ⟨w, e, (Option.some.inj h).symm⟩
/-- the answer's value -/
noncomputable def FormPost (news : List (Addr × Obj)) (r : Option FormR) (nx : List (Addr × Obj)) (v : Value) : Prop :=
  match r with
  | none => v = .none ∧ nx = news
  | some f => ∃ t ta tw ts tb, v = .ref t ∧ nx = (t, ({ cls := .type "tuple", data := .seq #[.str f.ahead ta, .bool f.fills, .int f.width tw, .str f.sort ts, .str f.behind tb] } : Obj)) :: news ∧ ∀ p ∈ news, p.1 < t
theorem fpartsE {form : Str} {r : Option FormR} {e : Nat} (h : fparts form = some r) (h1 : ¬ Txt.find (Txt.replace form (Str.ofString "%%") (Str.ofString "..")) (Str.ofString "%") < 0) (h2 : ¬ 0 ≤ Txt.find3 (Txt.replace form (Str.ofString "%%") (Str.ofString "..")) (Str.ofString "%") (Txt.find (Txt.replace form (Str.ofString "%%") (Str.ofString "..")) (Str.ofString "%") + 1))
    (he : e = fEnd form) (h3 : (List.any [Str.ofString "d", Str.ofString "x", Str.ofString "X", Str.ofString "o"] fun x => x == Txt.slice form (some (e : Int)) (some ((e : Int) + 1))) = true) :
    ∃ w, PySem.intText? (Str.ofString "0" ++ Txt.slice form (some (Txt.find (Txt.replace form (Str.ofString "%%") (Str.ofString "..")) (Str.ofString "%") + 1)) (some (e : Int))) = some w ∧ r = some (formOf form w) := by
  subst he
  exact fparts_some h h1 h2 h3
theorem lenZero : (Str.ofString "0").length = 1 := by decide +kernel
theorem formFin {news : List (Addr × Obj)} {h₀ h : Heap} {L D D1 : Addr} {o1 : Obj} (form : Str) (w : Int) {ta tw ts tb : Tok} {G : Prop}
    (N : News h₀ L h ((D, ({ cls := .type "tuple", data := .seq #[.str (formOf form w).ahead ta, .bool (formOf form w).fills, .int w tw, .str (formOf form w).sort ts, .str (formOf form w).behind tb] } : Obj)) :: (D1, o1) :: news)) (l2 : D1 < D ∧ AllLt D news)
    (P : ∀ nx, News h₀ L h nx → FormPost news (some (formOf form w)) nx (.ref D) → G) : G :=
  P _ (newsMono (l' := (D, _) :: news) N (fun p hp => by
    rcases List.mem_cons.mp hp with rfl | hp
    · exact .head _
    · exact .tail _ (.tail _ hp))) ⟨D, ta, tw, ts, tb, rfl, rfl, fun p hp => ktn_ltOf l2.2 p hp⟩
theorem fparts_atR {form : Str} {r : Option FormR} (h : fparts form = some r) (h1 : Txt.find (Txt.replace form (Str.ofString "%%") (Str.ofString "..")) (Str.ofString "%") < 0) : r = none := fparts_at h h1
theorem fparts_nextR {form : Str} {r : Option FormR} (h : fparts form = some r) (h1 : ¬ Txt.find (Txt.replace form (Str.ofString "%%") (Str.ofString "..")) (Str.ofString "%") < 0) (h2 : 0 ≤ Txt.find3 (Txt.replace form (Str.ofString "%%") (Str.ofString "..")) (Str.ofString "%") (Txt.find (Txt.replace form (Str.ofString "%%") (Str.ofString "..")) (Str.ofString "%") + 1)) : r = none := fparts_next h h1 h2
theorem fparts_sortR {form : Str} {r : Option FormR} (h : fparts form = some r) (h1 : ¬ Txt.find (Txt.replace form (Str.ofString "%%") (Str.ofString "..")) (Str.ofString "%") < 0) (h2 : ¬ 0 ≤ Txt.find3 (Txt.replace form (Str.ofString "%%") (Str.ofString "..")) (Str.ofString "%") (Txt.find (Txt.replace form (Str.ofString "%%") (Str.ofString "..")) (Str.ofString "%") + 1))
    (h3 : (List.any [Str.ofString "d", Str.ofString "x", Str.ofString "X", Str.ofString "o"] fun x => x == Txt.slice form (some (fEnd form : Int)) (some ((fEnd form : Int) + 1))) = false) : r = none := fparts_sort h h1 h2 h3
end Mine
end
section
open PySem PySem.W PyProof.Rows PySem.Calls PySem.SeqAt
namespace Mine

set_option maxHeartbeats 8000000 in
theorem fp (w : World) (form : Str) (tf : Tok) (news : List (Addr × Obj)) (hz : form.length ≤ 60) (res : Option FormR) (hP : fparts form = some res) :
    CtrP w 119 [.str form tf] 2 20 news (FormPost news res) := by
  unfold CtrP
  k_fill
  intro mean mg mb dp un gd cn cs a ccd cl outer A₀ base h₀ L m s R hp B F X N T hk hdp hu hret
  k_dflt cell_enter
  w_top off
  repeat' (first
    | (k_unfold; (try dsimp only))
    | (k_here; (with_reducible show wpAny _ _ (eval (PySem.Expr.Subscript _ _ _) _) _ _ _); (fail_if_success (with_reducible show wpAny _ _ _ (PosQ _) _ _)); refine' wpAny_pos ?hh9hp ?_; (case hh9hp => (dsimp only; first | assumption | omega)))
    | (k_here; (with_reducible show wpAny _ _ (eval (PySem.Expr.Call (PySem.Expr.Attribute _ _ _) _ _ _) _) _ _ _); (fail_if_success (with_reducible show wpAny _ _ _ (PosQ _) _ _)); refine' wpAny_pos ?hh9hp ?_; (case hh9hp => (dsimp only; first | assumption | omega)))
    | (k_here; (with_reducible show wpAny _ _ (PySem.call (Value.type "int") [Value.str _ _]) _ _ _); obtain ⟨w9, hw9, hr9⟩ := fpartsE hP (by with_reducible assumption) (by with_reducible assumption) (by first | exact scanOut1 hs9 rfl (by with_reducible assumption) | exact scanOut2 hs9 rfl (by with_reducible assumption)) (by with_reducible assumption); k_dflt (refine' KIN.call_text hw9 ?hh9hl ?_; (case hh9hl => (simp only [Str.length_append, lenZero]; omega))))
    | ((with_reducible show EndW _ _ _ _ _ _ _ _ _ _ _); refine ⟨rfl, by omega, isDig_of (by assumption), _, _, _, _, rfl, by assumption, by assumption, rfl, ?_⟩; intro y9 hy9; simp only [if_neg hy9])
    | (k_here; (with_reducible show wpAny _ _ (exec (PySem.Stmt.While _ _ _ _) _) _ _ _); (rename Fr _ _ _ _ => F9); (rename News _ _ _ _ => N9); k_dflt (refine' whileScan (x := Str.ofString "end") (isDig form) form.length F9 N9 ?hh9hm ?hh9hz ?_; (case hh9hm => exact rfl); (case hh9hz => omega)); clear F9 N9; intro e9 t9 h' tk9 F' N' hs9; (try dsimp only); (try k_fold))
    | (k_here; (with_reducible show wpAny _ _ (PySem.call (Value.builtin "str.replace") [Value.str _ _, Value.str _ _, Value.str _ _]) _ _ _); k_dflt (refine' SC.replaceW ?hh9a ?hh9b ?hh9c ?hh9f ?hh9d ?hh9e ?_; (case hh9a => (first | with_reducible assumption | exact Ne.symm (by with_reducible assumption) | k_ne)); (case hh9b => (first | with_reducible assumption | exact Ne.symm (by with_reducible assumption) | k_ne)); (case hh9c => (first | with_reducible assumption | exact Ne.symm (by with_reducible assumption) | k_ne)); (case hh9f => decide +kernel); (case hh9d => omega); (case hh9e => decide +kernel)); intro t9 tk9)
    | ((with_reducible show PosQ _ _ _); refine' PosQ.intro ?_; intro hp9; (try dsimp only at hp9))
    | (k_here; (with_reducible show wpAny _ _ (execs (_ :: _) _) _ _ _); refine' execs_cons_pos ?hh9hp ?_; (case hh9hp => first | assumption | omega); intro tk9 hp9; (try dsimp only); (try k_fold))
    | (k_end; wrow_close)
    | walk1
    | (dsimp only; walk1)
    | (leave1; walk_say "STEP leave1"; try dsimp only)
    | fail "no step")
  all_goals (try (obtain he9 : e9 = fEnd form := (by first | exact scanOut1 hs9 rfl (by with_reducible assumption) | exact scanOut2 hs9 rfl (by with_reducible assumption)); subst he9))
  all_goals first
    | (subst hr9; rename (_ < _ ∧ AllLt _ _) => l2; (rename News _ _ _ _ => kN9); exact formFin form w9 kN9 l2 (fun nx N P => hret _ nx _ _ (by assumption) N P))
    | (have q9 : res = none := (by first | (refine fparts_atR hP ?_; with_reducible assumption) | (refine fparts_nextR hP ?_ ?_ <;> with_reducible assumption) | (refine fparts_sortR hP ?_ ?_ ?_ <;> with_reducible assumption))
       subst q9
       exact hret _ news _ _ (by assumption) (newsMono (by assumption) (fun p hp => by first | exact hp | exact .tail _ hp)) ⟨rfl, rfl⟩)
end Mine
end
section
open PySem PySem.W PyProof.Rows PySem.Calls PySem.SeqAt
namespace Mine

theorem fpN (w : World) (form : Str) (tf : Tok) (news : List (Addr × Obj)) (hz : form.length ≤ 60) (hP : fparts form = some none) : CtrP w 119 [.str form tf] 2 20 news (fun nx r => r = .none ∧ nx = news) := fp w form tf news hz none hP
theorem fpS (w : World) (form : Str) (tf : Tok) (news : List (Addr × Obj)) (hz : form.length ≤ 60) (f : FormR) (hP : fparts form = some (some f)) : CtrP w 119 [.str form tf] 2 20 news
    (fun nx r => ∃ t ta tw ts tb, r = .ref t ∧ nx = (t, ({ cls := .type "tuple", data := .seq #[.str f.ahead ta, .bool f.fills, .int f.width tw, .str f.sort ts, .str f.behind tb] } : Obj)) :: news ∧ ∀ p ∈ news, p.1 < t) := fp w form tf news hz (some f) hP
set_option maxHeartbeats 8000000 in
theorem isN (w : World) (form : Str) (tf : Tok) (news : List (Addr × Obj)) (hz : form.length ≤ 60) (hP : fparts form = some none) : CtrP w 112 [.str form tf] 4 40 news (fun nx r => r = .bool false ∧ nx = news) := by
  unfold CtrP
  k_fill
  intro mean mg mb dp un gd cn cs a ccd cl outer A₀ base h₀ L m s R hp B F X N T hk hdp hu hret
  k_dflt cell_enter
  w_top off
  repeat' (first
    | (k_unfold; (try dsimp only))
    | (k_here; (with_reducible show wpAny _ _ (PySem.call (Value.ref 119) _ _) _ _ _); k_dflt ((refine' CtrP.use (fpS _ _ _ _ ?hh9hz _ ?hh9hP) ?hh9hp ?hh9B ?hh9F ?hh9X ?hh9N ?hh9T ?hh9hk ?hh9hd ?hh9hu ?_); (case hh9hz => (first | assumption | omega)); (case hh9hP => assumption); (case hh9hp => (dsimp only; first | assumption | omega)); (case hh9B => k_asm); (case hh9F => k_asm); (case hh9X => k_asm); (case hh9N => k_asm); (case hh9T => k_asm); (case hh9hk => first | exact rfl | assumption); (case hh9hd => (first | exact roomA (by with_reducible assumption) (by decide) | exact roomAB (by with_reducible assumption) (by decide) | exact roomABC (by with_reducible assumption) (by decide) | exact room0 (by with_reducible assumption) (by rfl) | exact roomN 1 (by with_reducible assumption) (by rfl) (by decide) | exact roomN 2 (by with_reducible assumption) (by rfl) (by decide) | exact roomN 3 (by with_reducible assumption) (by rfl) (by decide) | ktr_room)); (case hh9hu => (first | exact roomA (by with_reducible assumption) (by decide) | exact roomAB (by with_reducible assumption) (by decide) | exact roomABC (by with_reducible assumption) (by decide) | exact room0 (by with_reducible assumption) (by rfl) | exact roomN 3 (by with_reducible assumption) (by rfl) (by decide) | exact roomN 6 (by with_reducible assumption) (by rfl) (by decide) | ktr_units))); intro r9 nx9 h' tk9 hp9 F' N' hP9; obtain ⟨t9, ta9, tw9, ts9, tb9, e9, e9', l9⟩ := hP9; subst e9; subst e9'; (try k_lt l9); (try dsimp only); (try k_fold))
    | (k_here; (with_reducible show wpAny _ _ (PySem.call (Value.ref 119) _ _) _ _ _); k_dflt ((refine' CtrP.use (fpN _ _ _ _ ?hh9hz ?hh9hP) ?hh9hp ?hh9B ?hh9F ?hh9X ?hh9N ?hh9T ?hh9hk ?hh9hd ?hh9hu ?_); (case hh9hz => (first | assumption | omega)); (case hh9hP => assumption); (case hh9hp => (dsimp only; first | assumption | omega)); (case hh9B => k_asm); (case hh9F => k_asm); (case hh9X => k_asm); (case hh9N => k_asm); (case hh9T => k_asm); (case hh9hk => first | exact rfl | assumption); (case hh9hd => (first | exact roomA (by with_reducible assumption) (by decide) | exact roomAB (by with_reducible assumption) (by decide) | exact roomABC (by with_reducible assumption) (by decide) | exact room0 (by with_reducible assumption) (by rfl) | exact roomN 1 (by with_reducible assumption) (by rfl) (by decide) | exact roomN 2 (by with_reducible assumption) (by rfl) (by decide) | exact roomN 3 (by with_reducible assumption) (by rfl) (by decide) | ktr_room)); (case hh9hu => (first | exact roomA (by with_reducible assumption) (by decide) | exact roomAB (by with_reducible assumption) (by decide) | exact roomABC (by with_reducible assumption) (by decide) | exact room0 (by with_reducible assumption) (by rfl) | exact roomN 3 (by with_reducible assumption) (by rfl) (by decide) | exact roomN 6 (by with_reducible assumption) (by rfl) (by decide) | ktr_units))); intro r9 nx9 h' tk9 hp9 F' N' hP9; obtain ⟨e9, e9'⟩ := hP9; subst e9; subst e9'; (try dsimp only); (try k_fold))
    | (k_here; (with_reducible show wpAny _ _ (PySem.call (Value.builtin "str.replace") [Value.str _ _, Value.str _ _, Value.str _ _]) _ _ _); k_dflt (refine' SC.replaceW ?hh9a ?hh9b ?hh9c ?hh9f ?hh9d ?hh9e ?_; (case hh9a => (first | with_reducible assumption | exact Ne.symm (by with_reducible assumption) | k_ne)); (case hh9b => (first | with_reducible assumption | exact Ne.symm (by with_reducible assumption) | k_ne)); (case hh9c => (first | with_reducible assumption | exact Ne.symm (by with_reducible assumption) | k_ne)); (case hh9f => decide +kernel); (case hh9d => omega); (case hh9e => decide +kernel)); intro t9 tk9)
    | ((with_reducible show PosQ _ _ _); refine' PosQ.intro ?_; intro hp9; (try dsimp only at hp9))
    | (k_here; (with_reducible show wpAny _ _ (execs (_ :: _) _) _ _ _); refine' execs_cons_pos ?hh9hp ?_; (case hh9hp => first | assumption | omega); intro tk9 hp9; (try dsimp only); (try k_fold))
    | (k_end; wrow_close)
    | walk1
    | (dsimp only; walk1)
    | (leave1; walk_say "STEP leave1"; try dsimp only)
    | fail "no step")
  all_goals exact hret _ _ _ _ (by assumption) (by assumption) ⟨rfl, rfl⟩
set_option maxHeartbeats 8000000 in
theorem isS (w : World) (form : Str) (tf : Tok) (news : List (Addr × Obj)) (hz : form.length ≤ 60) (f : FormR) (hP : fparts form = some (some f)) : CtrP w 112 [.str form tf] 4 40 news (fun nx r => r = .bool true ∧ nx = news) := by
  unfold CtrP
  k_fill
  intro mean mg mb dp un gd cn cs a ccd cl outer A₀ base h₀ L m s R hp B F X N T hk hdp hu hret
  k_dflt cell_enter
  w_top off
  repeat' (first
    | (k_unfold; (try dsimp only))
    | (k_here; (with_reducible show wpAny _ _ (PySem.call (Value.ref 119) _ _) _ _ _); k_dflt ((refine' CtrP.use (fpS _ _ _ _ ?hh9hz _ ?hh9hP) ?hh9hp ?hh9B ?hh9F ?hh9X ?hh9N ?hh9T ?hh9hk ?hh9hd ?hh9hu ?_); (case hh9hz => (first | assumption | omega)); (case hh9hP => assumption); (case hh9hp => (dsimp only; first | assumption | omega)); (case hh9B => k_asm); (case hh9F => k_asm); (case hh9X => k_asm); (case hh9N => k_asm); (case hh9T => k_asm); (case hh9hk => first | exact rfl | assumption); (case hh9hd => (first | exact roomA (by with_reducible assumption) (by decide) | exact roomAB (by with_reducible assumption) (by decide) | exact roomABC (by with_reducible assumption) (by decide) | exact room0 (by with_reducible assumption) (by rfl) | exact roomN 1 (by with_reducible assumption) (by rfl) (by decide) | exact roomN 2 (by with_reducible assumption) (by rfl) (by decide) | exact roomN 3 (by with_reducible assumption) (by rfl) (by decide) | ktr_room)); (case hh9hu => (first | exact roomA (by with_reducible assumption) (by decide) | exact roomAB (by with_reducible assumption) (by decide) | exact roomABC (by with_reducible assumption) (by decide) | exact room0 (by with_reducible assumption) (by rfl) | exact roomN 3 (by with_reducible assumption) (by rfl) (by decide) | exact roomN 6 (by with_reducible assumption) (by rfl) (by decide) | ktr_units))); intro r9 nx9 h' tk9 hp9 F' N' hP9; obtain ⟨t9, ta9, tw9, ts9, tb9, e9, e9', l9⟩ := hP9; subst e9; subst e9'; (try k_lt l9); (try dsimp only); (try k_fold))
    | (k_here; (with_reducible show wpAny _ _ (PySem.call (Value.ref 119) _ _) _ _ _); k_dflt ((refine' CtrP.use (fpN _ _ _ _ ?hh9hz ?hh9hP) ?hh9hp ?hh9B ?hh9F ?hh9X ?hh9N ?hh9T ?hh9hk ?hh9hd ?hh9hu ?_); (case hh9hz => (first | assumption | omega)); (case hh9hP => assumption); (case hh9hp => (dsimp only; first | assumption | omega)); (case hh9B => k_asm); (case hh9F => k_asm); (case hh9X => k_asm); (case hh9N => k_asm); (case hh9T => k_asm); (case hh9hk => first | exact rfl | assumption); (case hh9hd => (first | exact roomA (by with_reducible assumption) (by decide) | exact roomAB (by with_reducible assumption) (by decide) | exact roomABC (by with_reducible assumption) (by decide) | exact room0 (by with_reducible assumption) (by rfl) | exact roomN 1 (by with_reducible assumption) (by rfl) (by decide) | exact roomN 2 (by with_reducible assumption) (by rfl) (by decide) | exact roomN 3 (by with_reducible assumption) (by rfl) (by decide) | ktr_room)); (case hh9hu => (first | exact roomA (by with_reducible assumption) (by decide) | exact roomAB (by with_reducible assumption) (by decide) | exact roomABC (by with_reducible assumption) (by decide) | exact room0 (by with_reducible assumption) (by rfl) | exact roomN 3 (by with_reducible assumption) (by rfl) (by decide) | exact roomN 6 (by with_reducible assumption) (by rfl) (by decide) | ktr_units))); intro r9 nx9 h' tk9 hp9 F' N' hP9; obtain ⟨e9, e9'⟩ := hP9; subst e9; subst e9'; (try dsimp only); (try k_fold))
    | (k_here; (with_reducible show wpAny _ _ (PySem.call (Value.builtin "str.replace") [Value.str _ _, Value.str _ _, Value.str _ _]) _ _ _); k_dflt (refine' SC.replaceW ?hh9a ?hh9b ?hh9c ?hh9f ?hh9d ?hh9e ?_; (case hh9a => (first | with_reducible assumption | exact Ne.symm (by with_reducible assumption) | k_ne)); (case hh9b => (first | with_reducible assumption | exact Ne.symm (by with_reducible assumption) | k_ne)); (case hh9c => (first | with_reducible assumption | exact Ne.symm (by with_reducible assumption) | k_ne)); (case hh9f => decide +kernel); (case hh9d => omega); (case hh9e => decide +kernel)); intro t9 tk9)
    | ((with_reducible show PosQ _ _ _); refine' PosQ.intro ?_; intro hp9; (try dsimp only at hp9))
    | (k_here; (with_reducible show wpAny _ _ (execs (_ :: _) _) _ _ _); refine' execs_cons_pos ?hh9hp ?_; (case hh9hp => first | assumption | omega); intro tk9 hp9; (try dsimp only); (try k_fold))
    | (k_end; wrow_close)
    | walk1
    | (dsimp only; walk1)
    | (leave1; walk_say "STEP leave1"; try dsimp only)
    | fail "no step")
  all_goals exact hret _ news _ _ (by assumption) (newsMono (by assumption) fun p hp => .tail _ hp) ⟨rfl, rfl⟩
end Mine
end
section
open PySem PySem.W PyProof.Rows PySem.Calls PySem.SeqAt
namespace Mine
section
variable {prog : Program} {w : World} {A : Around} {E : Value → Shared → Prop} {Q : Flow → Shared → Prop} {s : Shared} {env : Env} {h₀ : Heap} {L : Addr}
noncomputable def EndG {σ : Type} (ps : σ → List (Str × Value)) (Inv : Nat → σ → Prop) (h₀ : Heap) (L : Addr) (s : Shared) (m : Str → Option Value) (news : List (Addr × Obj)) (k : Nat) (f : Flow) (s₃ : Shared) : Prop :=
  f = .next ∧ ∃ c', ∃ h' tk m' k', s₃ = { s with heap := h', toks := tk } ∧ Fr h₀ L h' m' ∧ News h₀ L h' news ∧ (∀ p ∈ ps c', m' p.1 = some p.2) ∧ (∀ y, (∀ p ∈ ps c', y ≠ p.1) → m' y = m y) ∧ k' < k ∧ Inv k' c'
/-- a while whose turns change the named values -/
theorem whileG {σ : Type} {test : Expr} {body : List Stmt} {pos : Pos} {m : Str → Option Value} {news : List (Addr × Obj)} (ps : σ → List (Str × Value)) (Inv : Nat → σ → Prop) (c₀ : σ) (k₀ : Nat)
    (F : Fr h₀ L s.heap m) (N : News h₀ L s.heap news) (hm : ∀ p ∈ ps c₀, m p.1 = some p.2) (hi : Inv k₀ c₀)
    (turn : ∀ k c h₁ tk₁, Inv k c → Fr h₀ L h₁ (kstB m (ps c)) → News h₀ L h₁ news →
      wpAny (model prog w) A (isTrue test env (eval test env)) (fun b s₂ => if b = true then wpAny (model prog w) A (execs body env) (EndG ps Inv h₀ L s m news k) E s₂ else Q .next s₂) E { s with heap := h₁, toks := tk₁ })
    (hE : PassesOwn (model prog w) A env E := by passes_own) :
    wpAny (model prog w) A (exec (.While test body [] pos) env) Q E s := by
  have key : ∀ c (m' : Str → Option Value), (∀ p ∈ ps c, m' p.1 = some p.2) → (∀ y, (∀ p ∈ ps c, y ≠ p.1) → m' y = m y) → m' = kstB m (ps c) := fun c m' h1 h2 => by
    funext z
    exact (kstB_eq h1 fun h => (h2 z h).symm).symm
  refine While_inv (fun n m₁ news₁ => news₁ = news ∧ ∃ c, m₁ = kstB m (ps c) ∧ Inv n c) (n₀ := k₀) F N ⟨rfl, c₀, key c₀ m hm fun _ _ => rfl, hi⟩ ?_ hE
  rintro n m₁ news₁ h₁ tk₁ F₁ N₁ ⟨rfl, c, rfl, hI⟩
  refine wpAny_mono (turn n c h₁ tk₁ hI F₁ N₁) (fun b s₂ h₂ => ?_) fun _ _ x => x
  cases b with
  | false => simpa using h₂
  | true =>
    simp only [if_true] at h₂ ⊢
    refine wpAny_mono h₂ (fun f s₃ h₃ => ?_) fun _ _ x => x
    obtain ⟨rfl, c', h', tk, m', k', rfl, F', N', h4, h5, hk, hI'⟩ := h₃
    exact ⟨rfl, h', tk, m', news₁, k', rfl, F', N', hk, rfl, c', key c' m' h4 h5, hI'⟩
end

/-- the sign of a figure -/
noncomputable def hexes : Str := Str.ofString "0123456789abcdef"
noncomputable def dg (n : Nat) : Str := Txt.item hexes (n : Int)
noncomputable def digF (b : Nat) : Nat → Nat → Str
  | 0, _ => Str.ofString ""
  | f + 1, n => if n < b then dg n else digF b f (n / b) ++ dg (n % b)
noncomputable def padF (b : Nat) : Nat → Nat → Str
  | 0, n => dg n
  | k + 1, n => padF b k (n / b) ++ dg (n % b)
theorem digF_pad {b : Nat} (hb : 2 ≤ b) : ∀ (k f n : Nat), k < f → (k = 0 ∨ b ^ k ≤ n) → n < b ^ (k + 1) → digF b f n = padF b k n
  | 0, f + 1, n, _, _, h => by
    unfold digF padF
    rw [if_pos (by simpa using h)]
  | k + 1, f + 1, n, hf, hk, h => by
    have hk' : b ^ (k + 1) ≤ n := hk.resolve_left (by omega)
    have hb0 : 0 < b := by omega
    have h1 : b ≤ n := Nat.le_trans (Nat.le_self_pow (by omega) b) hk'
    unfold digF padF
    rw [if_neg (by omega)]
    rw [digF_pad hb k f (n / b) (by omega) (by
      rcases k with _ | k
      · exact .inl rfl
      · right
        rw [Nat.le_div_iff_mul_le hb0, ← Nat.pow_succ]
        exact hk') (by
      rw [Nat.div_lt_iff_lt_mul hb0, ← Nat.pow_succ]
      exact h)]
theorem padF_msd {b : Nat} (hb : 0 < b) : ∀ (k n : Nat), padF b (k + 1) n = dg (n / b ^ (k + 1)) ++ padF b k (n % b ^ (k + 1))
  | 0, n => by
    show padF b 0 (n / b) ++ dg (n % b) = _
    simp [padF]
  | k + 1, n => by
    show padF b (k + 1) (n / b) ++ dg (n % b) = _ ++ (padF b k (n % b ^ (k + 2) / b) ++ dg (n % b ^ (k + 2) % b))
    have e1 : b * b ^ (k + 1) = b ^ (k + 2) := by rw [Nat.pow_succ b (k + 1), Nat.mul_comm]
    have e2 : n % b ^ (k + 2) / b = n / b % b ^ (k + 1) := by rw [← e1, Nat.mod_mul_right_div_self]
    have e3 : n % b ^ (k + 2) % b = n % b := by rw [← e1, Nat.mod_mul_right_mod]
    rw [padF_msd hb k (n / b), Nat.div_div_eq_div_mul, Str.append_assoc, e1, e2, e3]
section
variable {prog : Program} {w : World} {A : Around} {E : Value → Shared → Prop} {s : Shared} {value slice : PySem.Expr} {t u : Tok} {i : Int} {Q : Value → Shared → Prop}
theorem hexItem (h0 : 0 ≤ i) (h1 : i < 16) (h : (dg i.toNat).length = 1 → Q (.str (dg i.toNat) s.toks) { s with toks := s.toks + 1 })
    (hs : subscripted slice false (.str (Str.ofString "0123456789abcdef") t) (.int i u) = operate [.str (Str.ofString "0123456789abcdef") t, .int i u] (getItem (.str (Str.ofString "0123456789abcdef") t) (.int i u)) := by with_unfolding_all rfl)
    (ht : ∀ r, letTemporaryGo value (.str (Str.ofString "0123456789abcdef") t) r = pure () := by intro _; with_unfolding_all rfl) :
    wpAny (model prog w) A (subscriptTail value slice (.str (Str.ofString "0123456789abcdef") t) (.int i u)) Q E s := by
  have e : dg i.toNat = Txt.item (Str.ofString "0123456789abcdef") i := by
    unfold dg hexes
    rw [Int.toNat_of_nonneg h0]
  rw [e] at h
  exact KXi.item (n := 16) (by decide +kernel) (by omega) (by omega) (by decide) h hs ht
end
theorem fmodNat {a b : Int} (ha : 0 ≤ a) (hb : 0 < b) : (Int.fmod a b).toNat = a.toNat % b.toNat := by
  obtain ⟨n, rfl⟩ := Int.eq_ofNat_of_zero_le ha
  obtain ⟨m, rfl⟩ := Int.eq_ofNat_of_zero_le (Int.le_of_lt hb)
  rw [Int.fmod_eq_emod_of_nonneg _ (Int.le_of_lt hb)]
  simp only [Int.ofNat_eq_natCast, ← Int.natCast_emod, Int.toNat_natCast]
theorem fdivNat {a b : Int} (ha : 0 ≤ a) (hb : 0 < b) : (Int.fdiv a b).toNat = a.toNat / b.toNat := by
  obtain ⟨n, rfl⟩ := Int.eq_ofNat_of_zero_le ha
  obtain ⟨m, rfl⟩ := Int.eq_ofNat_of_zero_le (Int.le_of_lt hb)
  rw [Int.fdiv_eq_ediv_of_nonneg _ (Int.le_of_lt hb)]
  simp only [Int.ofNat_eq_natCast, ← Int.natCast_ediv, Int.toNat_natCast]
theorem fdivNonneg {a b : Int} (ha : 0 ≤ a) (hb : 0 < b) : 0 ≤ Int.fdiv a b := by
  rw [Int.fdiv_eq_ediv_of_nonneg _ (Int.le_of_lt hb)]
  exact Int.ediv_nonneg ha (Int.le_of_lt hb)
theorem dgLen {n : Nat} (h : n < 16) : (dg n).length = 1 := by
  have : ∀ n, n < 16 → (dg n).length = 1 := by decide +kernel
  exact this n h
noncomputable abbrev figSt := Str × Tok × Int × Tok
noncomputable abbrev figPs (c : figSt) : List (Str × Value) := [(Str.ofString "found", .str c.1 c.2.1), (Str.ofString "rest", .int c.2.2.1 c.2.2.2)]
noncomputable def figInv (b n : Nat) (k : Nat) (c : figSt) : Prop :=
  0 ≤ c.2.2.1 ∧ c.2.2.1.toNat < 2 ^ k ∧ c.1.length + k ≤ 17 ∧ (c.1.length = 0 → k = 17) ∧ (if 0 < c.2.2.1 ∨ c.1.length = 0 then digF b (k + 1) c.2.2.1.toNat ++ c.1 else c.1) = digF b 18 n
theorem figStart {b : Nat} {n : Int} {t t' : Tok} (h0 : 0 ≤ n) (h1 : n ≤ 100000) : figInv b n.toNat 17 (Str.ofString "", t, n, t') := by
  have e : (Str.ofString "").length = 0 := by decide +kernel
  refine ⟨h0, ?_, ?_, fun _ => rfl, ?_⟩
  · show n.toNat < 131072
    omega
  · show (Str.ofString "").length + 17 ≤ 17
    omega
  · show (if 0 < n ∨ (Str.ofString "").length = 0 then _ else _) = _
    rw [if_pos (.inr e)]
    exact Str.append_empty _
theorem figStep {b : Int} (hb0 : 2 ≤ b) (hb1 : b ≤ 16) {k n : Nat} {f : Str} {tf tr t t' : Tok} {r : Int} (hI : figInv b.toNat n k (f, tf, r, tr)) (hc : 0 < r ∨ f.length = 0) :
    ∃ k', k' < k ∧ figInv b.toNat n k' (dg (Int.fmod r b).toNat ++ f, t, Int.fdiv r b, t') := by
  obtain ⟨h1, h2, h3, h4, h5⟩ := hI
  dsimp only at h1 h2 h3 h4 h5
  rw [if_pos hc] at h5
  have hk : 1 ≤ k := by
    rcases hc with hc | hc
    · rcases k with _ | k
      · simp at h2; omega
      · omega
    · have := h4 hc; omega
  obtain ⟨k, rfl⟩ : ∃ j, k = j + 1 := ⟨k - 1, by omega⟩
  have e1 := fmodNat (a := r) (b := b) h1 (by omega)
  have e2 := fdivNat (a := r) (b := b) h1 (by omega)
  have e3 := fdivNonneg (a := r) (b := b) h1 (by omega)
  have hlt : r.toNat % b.toNat < 16 := Nat.lt_of_lt_of_le (Nat.mod_lt _ (by omega)) (by omega)
  have hl : (dg (r.toNat % b.toNat)).length = 1 := dgLen hlt
  have hpow : 2 ^ (k + 1) = 2 * 2 ^ k := by rw [Nat.pow_succ, Nat.mul_comm]
  have hdiv : r.toNat / b.toNat ≤ r.toNat / 2 := Nat.div_le_div_left (by omega) (by omega)
  refine ⟨k, by omega, e3, ?_, ?_, ?_, ?_⟩
  · show (Int.fdiv r b).toNat < 2 ^ k
    rw [e2]
    generalize 2 ^ k = P at *
    omega
  · show (dg (Int.fmod r b).toNat ++ f).length + k ≤ 17
    rw [e1, Str.length_append, hl]
    omega
  · show (dg (Int.fmod r b).toNat ++ f).length = 0 → _
    rw [e1, Str.length_append, hl]
    omega
  · show (if 0 < Int.fdiv r b ∨ (dg (Int.fmod r b).toNat ++ f).length = 0 then digF b.toNat (k + 1) (Int.fdiv r b).toNat ++ (dg (Int.fmod r b).toNat ++ f) else dg (Int.fmod r b).toNat ++ f) = _
    rw [← h5, e1, e2]
    have hne : ¬ (dg (r.toNat % b.toNat) ++ f).length = 0 := by rw [Str.length_append, hl]; omega
    by_cases hrb : r.toNat < b.toNat
    · have hz : r.toNat / b.toNat = 0 := Nat.div_eq_of_lt hrb
      rw [if_neg (by omega)]
      show _ = (if r.toNat < b.toNat then dg r.toNat else _) ++ f
      rw [if_pos hrb, Nat.mod_eq_of_lt hrb]
    · have hz : 0 < r.toNat / b.toNat := Nat.div_pos (by omega) (by omega)
      rw [if_pos (by omega)]
      show _ = (if r.toNat < b.toNat then dg r.toNat else digF b.toNat (k + 1) (r.toNat / b.toNat) ++ dg (r.toNat % b.toNat)) ++ f
      rw [if_neg hrb, Str.append_assoc]
theorem lenZ {f : Str} (h : (f == Str.ofString "") = true) : f.length = 0 := by
  rw [eq_of_beq h]; decide +kernel
theorem lenNZ {f : Str} (h : (f == Str.ofString "") = false) : ¬ f.length = 0 := by
  intro e
  have : f = Str.ofString "" := by
    have e0 : Str.ofString "" = ⟨#[]⟩ := by decide +kernel
    rw [e0]
    exact Str.ext' (Array.eq_empty_of_size_eq_zero e)
  rw [this] at h
  have : (Str.ofString "" == Str.ofString "") = true := by decide +kernel
  rw [this] at h
  cases h
theorem figEnd {b n k : Nat} {f : Str} {tf tr : Tok} {r : Int} (hI : figInv b n k (f, tf, r, tr)) (h : ¬ 0 < r) (hf : (f == Str.ofString "") = false) : f = digF b 18 n := by
  have := hI.2.2.2.2
  dsimp only at this
  rwa [if_neg (by have := lenNZ hf; omega)] at this
theorem two {m : Str → Option Value} {x y : Str} {v w : Value} (h1 : m x = some v) (h2 : m y = some w) : ∀ p ∈ [(x, v), (y, w)], m p.1 = some p.2 := by
  intro p hp
  rcases memTwo hp with rfl | rfl | hp
  · exact h1
  · exact h2
  · cases hp
theorem twoOff {m : Str → Option Value} {x y : Str} {v w v' w' : Value} : ∀ z, (∀ p ∈ [(y, w), (x, v)], z ≠ p.1) → (fun z => if z = x then some v else if z = y then some w else if z = y then some w' else if z = x then some v' else m z) z = m z := by
  intro z hz
  have a1 : z ≠ y := hz _ (.head _)
  have a2 : z ≠ x := hz _ (.tail _ (.head _))
  simp only [if_neg a1, if_neg a2]
end Mine
end
section
open PySem PySem.W PyProof.Rows PySem.Calls PySem.SeqAt
namespace Mine

set_option maxHeartbeats 8000000 in
theorem fig (w : World) (number bs : Int) (tn tb : Tok) (news : List (Addr × Obj)) (h0 : 0 ≤ number) (h1 : number ≤ 100000) (hb0 : 2 ≤ bs) (hb1 : bs ≤ 16) :
    Ctr w 126 [.int number tn, .int bs tb] 2 20 news (fun nx r => ∃ t, r = .str (digF bs.toNat 18 number.toNat) t ∧ nx = news) := by
  unfold Ctr
  k_fill
  intro mean mg mb dp un gd cn cs a ccd cl outer A₀ base h₀ L m s R B F X N T hk hdp hu hret
  k_dflt cell_enter
  w_top off
  repeat' (first
    | (k_unfold; (try dsimp only))
    | (k_here; (with_reducible show wpAny _ _ (eval (PySem.Expr.Call _ _ _ _) _) _ _ _); refine' eval_gen ?_; intro K9 hK9; walk1)
    | (k_here; (with_reducible show wpAny _ _ (subscriptTail _ _ (Value.str (Str.ofString "0123456789abcdef") _) (Value.int _ _)) _ _ _); (refine' hexItem ?hh9lb ?hh9ub ?_ ?hh9hs ?hh9ht; (case hh9lb => exact Int.fmod_nonneg_of_pos _ (by omega)); (case hh9ub => exact Int.lt_of_lt_of_le (Int.fmod_lt_of_pos _ (by omega)) (by omega)); (case hh9hs => with_unfolding_all rfl); (case hh9ht => (intro _; with_unfolding_all rfl))); intro hd9)
    | (k_here; (with_reducible show wpAny _ _ (exec (PySem.Stmt.While _ _ _ _) _) _ _ _); (rename Fr _ _ _ _ => F9); (rename News _ _ _ _ => N9); k_dflt (refine' whileG (σ := figSt) figPs (figInv bs.toNat number.toNat) (_, _, _, _) 17 F9 N9 ?hh9hm ?hh9hi ?_; (case hh9hm => (intro p9 hp9; rcases memTwo hp9 with e9 | e9 | e9 <;> first | (subst e9; exact rfl) | (exact nomatch e9)));  (case hh9hi => exact figStart h0 h1)); clear F9 N9; intro k9 c9 h' tk9 hI9 F' N'; obtain ⟨f9, tf9, r9, tr9⟩ := c9; (dsimp only [figPs, kstB] at F'); (have hz9 : f9.length ≤ 17 := Nat.le_trans (Nat.le_add_right _ _) hI9.2.2.1); (have hr9 : 0 ≤ r9 := hI9.1); (try dsimp only); (try k_fold))
    | (refine' useV ?hh9k ?_; (case hh9k => with_reducible assumption); (try dsimp only))
    | (k_end; wrow_close)
    | walk1
    | (dsimp only; walk1)
    | (leave1; walk_say "STEP leave1"; try dsimp only)
    | fail "no step")
  · obtain ⟨k', hk', hI'⟩ := figStep (t := _) (t' := _) hb0 hb1 hI9 (.inl (by assumption))
    exact ⟨rfl, (_, _, _, _), _, _, _, k', rfl, by assumption, by assumption, two rfl rfl, twoOff, hk', hI'⟩
  · obtain ⟨k', hk', hI'⟩ := figStep (t := _) (t' := _) hb0 hb1 hI9 (.inr (lenZ (by assumption)))
    exact ⟨rfl, (_, _, _, _), _, _, _, k', rfl, by assumption, by assumption, two rfl rfl, twoOff, hk', hI'⟩
  · exact hret _ news _ _ (by assumption) (newsMono (by assumption) fun p hp => .tail _ hp) ⟨_, by rw [figEnd hI9 (by assumption) (by assumption)], rfl⟩
end Mine
end
section
open PySem PySem.W PyProof.Rows PySem.Calls PySem.SeqAt
namespace Mine
noncomputable abbrev unPs (c : Int × Tok) : List (Str × Value) := [(Str.ofString "unit", .int c.1 c.2)]
noncomputable def unInv (b n : Nat) (k : Nat) (c : Int × Tok) : Prop := ∃ j : Nat, c.1 = ((b ^ j : Nat) : Int) ∧ (j = 0 ∨ b ^ j ≤ n) ∧ j + k = 17
theorem unStart {b n : Nat} {t : Tok} : unInv b n 17 (1, t) := ⟨0, by simp, .inl rfl, rfl⟩
theorem pow_lt {b j n : Nat} (hb : 2 ≤ b) (h : b ^ j ≤ n) (hn : n ≤ 100000) : j ≤ 16 := by
  apply Decidable.byContradiction
  intro hj
  have h1 : 2 ^ 17 ≤ 2 ^ j := Nat.pow_le_pow_right (by decide) (by omega)
  have h2 : 2 ^ j ≤ b ^ j := Nat.pow_le_pow_left hb j
  have h3 : (2 : Nat) ^ 17 = 131072 := by decide
  omega
theorem unStep {b n : Int} {k : Nat} {u : Int} {t t' : Tok} (hb : 2 ≤ b) (hn0 : 0 ≤ n) (hn : n ≤ 100000) (hI : unInv b.toNat n.toNat k (u, t)) (h : u * b ≤ n) : ∃ k', k' < k ∧ unInv b.toNat n.toNat k' (u * b, t') := by
  obtain ⟨j, h1, h2, h3⟩ := hI
  dsimp only at h1
  have e : u * b = ((b.toNat ^ (j + 1) : Nat) : Int) := by
    rw [h1, Nat.pow_succ, Int.natCast_mul, Int.toNat_of_nonneg (by omega)]
  have hle : b.toNat ^ (j + 1) ≤ n.toNat := by rw [e] at h; omega
  have := pow_lt (by omega) hle (by omega)
  exact ⟨k - 1, by omega, j + 1, e, .inr hle, by omega⟩
noncomputable abbrev lfSt := Int × Tok × Str × Tok × Int × Tok
noncomputable abbrev lfPs (c : lfSt) : List (Str × Value) := [(Str.ofString "unit", .int c.1 c.2.1), (Str.ofString "found", .str c.2.2.1 c.2.2.2.1), (Str.ofString "rest", .int c.2.2.2.2.1 c.2.2.2.2.2)]
noncomputable def lfInv (b n : Nat) (k : Nat) (c : lfSt) : Prop :=
  c.1 ≤ 100000 ∧ 0 ≤ c.2.2.2.2.1 ∧ c.2.2.1.length + k ≤ 17 ∧ ((c.1 = 0 ∧ c.2.2.1 = digF b 18 n) ∨ ∃ j : Nat, c.1 = ((b ^ j : Nat) : Int) ∧ k = j + 1 ∧ c.2.2.2.2.1.toNat < b ^ (j + 1) ∧ c.2.2.1 ++ padF b j c.2.2.2.2.1.toNat = digF b 18 n)
theorem lfStart {b n : Int} {k : Nat} {u : Int} {t t' tu tr : Tok} (hb : 2 ≤ b) (hn0 : 0 ≤ n) (hn : n ≤ 100000) (hI : unInv b.toNat n.toNat k (u, t)) (h : ¬ u * b ≤ n) : ∃ k', lfInv b.toNat n.toNat k' (u, tu, Str.ofString "", t', n, tr) := by
  obtain ⟨j, h1, h2, h3⟩ := hI
  dsimp only at h1
  have e : u * b = ((b.toNat ^ (j + 1) : Nat) : Int) := by
    rw [h1, Nat.pow_succ, Int.natCast_mul, Int.toNat_of_nonneg (by omega)]
  have hlt : n.toNat < b.toNat ^ (j + 1) := by rw [e] at h; omega
  have hj : j ≤ 16 := by
    rcases h2 with rfl | h2
    · omega
    · exact pow_lt (by omega) h2 (by omega)
  have e0 : Str.ofString "" = ⟨#[]⟩ := by decide +kernel
  refine ⟨j + 1, ?_, hn0, ?_, .inr ⟨j, h1, rfl, hlt, ?_⟩⟩
  · show u ≤ 100000
    rcases h2 with rfl | h2
    · rw [Nat.pow_zero] at h1; omega
    · omega
  · show (Str.ofString "").length + (j + 1) ≤ 17
    have : (Str.ofString "").length = 0 := by decide +kernel
    omega
  · show Str.ofString "" ++ padF b.toNat j n.toNat = _
    rw [digF_pad (by omega) j 18 n.toNat (by omega) h2 hlt]
    exact Str.empty_append _
theorem lfDiv {b : Int} {n k : Nat} {u r : Int} {t t' t2 : Tok} {f : Str} (hb : 2 ≤ b) (hb1 : b ≤ 16) (hI : lfInv b.toNat n k (u, t, f, t', r, t2)) : 0 ≤ Int.fdiv r u ∧ Int.fdiv r u < 16 := by
  obtain ⟨_, h1, h2, h3⟩ := hI
  dsimp only at h1 h3
  rcases h3 with ⟨rfl, _⟩ | ⟨j, rfl, _, h5, _⟩
  · simp
  · have hp : 0 < b.toNat ^ j := Nat.pow_pos (by omega)
    have e := fdivNat (a := r) (b := ((b.toNat ^ j : Nat) : Int)) h1 (by omega)
    have e3 := fdivNonneg (a := r) (b := ((b.toNat ^ j : Nat) : Int)) h1 (by omega)
    have : r.toNat / b.toNat ^ j < b.toNat := by rw [Nat.div_lt_iff_lt_mul hp, Nat.mul_comm, ← Nat.pow_succ]; exact h5
    rw [Int.toNat_natCast] at e
    omega
theorem lfStep {b : Int} {n k : Nat} {u r : Int} {t t' t2 s1 s2 s3 : Tok} {f : Str} (hb : 2 ≤ b) (hb1 : b ≤ 16) (hI : lfInv b.toNat n k (u, t, f, t', r, t2)) (hu : 0 < u) :
    ∃ k', k' < k ∧ lfInv b.toNat n k' (Int.fdiv u b, s1, f ++ dg (Int.fdiv r u).toNat, s2, r - Int.fdiv r u * u, s3) := by
  obtain ⟨h0, h1, h2, h3⟩ := hI
  dsimp only at h0 h1 h2 h3
  rcases h3 with ⟨rfl, _⟩ | ⟨j, rfl, rfl, h5, h6⟩
  · omega
  · have hp : 0 < b.toNat ^ j := Nat.pow_pos (by omega)
    have e := fdivNat (a := r) (b := ((b.toNat ^ j : Nat) : Int)) h1 hu
    have e3 := fdivNonneg (a := r) (b := ((b.toNat ^ j : Nat) : Int)) h1 hu
    rw [Int.toNat_natCast] at e
    have hq : r.toNat / b.toNat ^ j < b.toNat := by rw [Nat.div_lt_iff_lt_mul hp, Nat.mul_comm, ← Nat.pow_succ]; exact h5
    have hl : (dg (r.toNat / b.toNat ^ j)).length = 1 := dgLen (by omega)
    have er : r - Int.fdiv r ((b.toNat ^ j : Nat) : Int) * ((b.toNat ^ j : Nat) : Int) = ((r.toNat % b.toNat ^ j : Nat) : Int) := by
      have h7 : Int.fdiv r ((b.toNat ^ j : Nat) : Int) = ((r.toNat / b.toNat ^ j : Nat) : Int) := by omega
      have h8 := Nat.div_add_mod r.toNat (b.toNat ^ j)
      rw [h7, ← Int.natCast_mul, Nat.mul_comm]
      omega
    have eu : Int.fdiv ((b.toNat ^ j : Nat) : Int) b = ((b.toNat ^ j / b.toNat : Nat) : Int) := by
      have g1 := fdivNat (a := ((b.toNat ^ j : Nat) : Int)) (b := b) (by omega) (by omega)
      have g2 := fdivNonneg (a := ((b.toNat ^ j : Nat) : Int)) (b := b) (by omega) (by omega)
      rw [Int.toNat_natCast] at g1
      omega
    refine ⟨j, by omega, ?_, ?_, ?_, ?_⟩
    · show Int.fdiv ((b.toNat ^ j : Nat) : Int) b ≤ 100000
      rw [eu]
      have := Nat.div_le_self (b.toNat ^ j) b.toNat
      omega
    · show 0 ≤ r - Int.fdiv r ((b.toNat ^ j : Nat) : Int) * ((b.toNat ^ j : Nat) : Int)
      rw [er]
      exact Int.natCast_nonneg _
    · show (f ++ dg (Int.fdiv r ((b.toNat ^ j : Nat) : Int)).toNat).length + j ≤ 17
      rw [e, Str.length_append, hl]
      omega
    · rcases j with _ | j
      · left
        refine ⟨?_, ?_⟩
        · show Int.fdiv ((b.toNat ^ 0 : Nat) : Int) b = 0
          rw [eu]
          have : b.toNat ^ 0 / b.toNat = 0 := by rw [Nat.pow_zero]; exact Nat.div_eq_of_lt (by omega)
          omega
        · show f ++ dg (Int.fdiv r ((b.toNat ^ 0 : Nat) : Int)).toNat = _
          rw [e, ← h6, Nat.pow_zero, Nat.div_one]
          rfl
      · right
        refine ⟨j, ?_, rfl, ?_, ?_⟩
        · show Int.fdiv ((b.toNat ^ (j + 1) : Nat) : Int) b = _
          rw [eu, Nat.pow_succ, Nat.mul_div_cancel _ (by omega)]
        · show (r - Int.fdiv r ((b.toNat ^ (j + 1) : Nat) : Int) * ((b.toNat ^ (j + 1) : Nat) : Int)).toNat < b.toNat ^ (j + 1)
          rw [er, Int.toNat_natCast]
          exact Nat.mod_lt _ hp
        · show (f ++ dg (Int.fdiv r ((b.toNat ^ (j + 1) : Nat) : Int)).toNat) ++ padF b.toNat j (r - Int.fdiv r ((b.toNat ^ (j + 1) : Nat) : Int) * ((b.toNat ^ (j + 1) : Nat) : Int)).toNat = _
          rw [e, er, Int.toNat_natCast, ← h6, padF_msd (by omega), Str.append_assoc]
theorem lfEnd {b n k : Nat} {u r : Int} {t t' t2 : Tok} {f : Str} (hb : 0 < b) (hI : lfInv b n k (u, t, f, t', r, t2)) (hu : ¬ 0 < u) : f = digF b 18 n := by
  obtain ⟨_, _, _, h3⟩ := hI
  dsimp only at h3
  rcases h3 with ⟨_, h⟩ | ⟨j, rfl, _⟩
  · exact h
  · have := Nat.pow_pos (n := j) hb
    omega
theorem memThree {α : Type} {p a b c : α} (h : p ∈ [a, b, c]) : p = a ∨ p = b ∨ p = c := by simpa using h
theorem one {m : Str → Option Value} {x : Str} {v : Value} (h1 : m x = some v) : ∀ p ∈ [(x, v)], m p.1 = some p.2 := by
  intro p hp
  obtain rfl := List.mem_singleton.mp hp
  exact h1
theorem three {m : Str → Option Value} {x y z : Str} {v w u : Value} (h1 : m x = some v) (h2 : m y = some w) (h3 : m z = some u) : ∀ p ∈ [(x, v), (y, w), (z, u)], m p.1 = some p.2 := by
  intro p hp
  rcases List.mem_cons.mp hp with rfl | hp
  · exact h1
  · rcases memTwo hp with rfl | rfl | hp
    · exact h2
    · exact h3
    · cases hp
theorem oneOff {m : Str → Option Value} {x : Str} {v v' : Value} : ∀ z, (∀ p ∈ [(x, v)], z ≠ p.1) → (fun z => if z = x then some v else if z = x then some v' else m z) z = m z := by
  intro z hz
  have a1 : z ≠ x := hz _ (.head _)
  simp only [if_neg a1]
theorem threeOff {m : Str → Option Value} {x y u : Str} {v w q v' w' q' : Value} : ∀ z, (∀ p ∈ [(x, v), (y, w), (u, q)], z ≠ p.1) → (fun z => if z = x then some v else if z = u then some q else if z = y then some w else if z = x then some v' else if z = y then some w' else if z = u then some q' else m z) z = m z := by
  intro z hz
  have a1 : z ≠ x := hz _ (.head _)
  have a2 : z ≠ y := hz _ (.tail _ (.head _))
  have a3 : z ≠ u := hz _ (.tail _ (.tail _ (.head _)))
  simp only [if_neg a1, if_neg a2, if_neg a3]
end Mine
end
section
open PySem PySem.W PyProof.Rows PySem.Calls PySem.SeqAt
namespace Mine

set_option maxHeartbeats 8000000 in
theorem lfig (w : World) (number bs : Int) (tn tb : Tok) (news : List (Addr × Obj)) (h0 : 0 ≤ number) (h1 : number ≤ 100000) (hb0 : 2 ≤ bs) (hb1 : bs ≤ 16) :
    Ctr w 161 [.int number tn, .int bs tb] 2 20 news (fun nx r => ∃ t, r = .str (digF bs.toNat 18 number.toNat) t ∧ nx = news) := by
  unfold Ctr
  k_fill
  intro mean mg mb dp un gd cn cs a ccd cl outer A₀ base h₀ L m s R B F X N T hk hdp hu hret
  k_dflt cell_enter
  w_top off
  repeat' (first
    | (k_unfold; (try dsimp only))
    | (k_here; (with_reducible show wpAny _ _ (eval (PySem.Expr.Call _ _ _ _) _) _ _ _); refine' eval_gen ?_; intro K9 hK9; walk1)
    | (k_here; (with_reducible show wpAny _ _ (subscriptTail _ _ (Value.str (Str.ofString "0123456789abcdef") _) (Value.int _ _)) _ _ _); (refine' hexItem ?hh9lb ?hh9ub ?_ ?hh9hs ?hh9ht; (case hh9lb => exact hq7); (case hh9ub => exact hq7'); (case hh9hs => with_unfolding_all rfl); (case hh9ht => (intro _; with_unfolding_all rfl))); intro hd9)
    | (k_here; (with_reducible show wpAny _ _ (exec (PySem.Stmt.While (PySem.Expr.Compare (PySem.Expr.Name _ _) _ _ _) _ _ _) _) _ _ _); (rename Fr _ _ _ _ => F9); (rename News _ _ _ _ => N9); k_dflt (refine' whileG (σ := lfSt) lfPs (lfInv bs.toNat number.toNat) (_, _, _, _, _, _) _ F9 N9 ?hh9hm ?hh9hi ?_; (case hh9hm => (intro p9 hp9; rcases memThree hp9 with e9 | e9 | e9 <;> (subst e9; exact rfl))); (case hh9hi => exact (lfStart hb0 h0 h1 hI9 (by assumption)).choose_spec)); clear F9 N9; intro k7 c7 h' tk7 hI7 F' N'; obtain ⟨u7, tu7, f7, tf7, r7, tr7⟩ := c7; (dsimp only [lfPs, kstB] at F'); obtain ⟨hq7, hq7'⟩ := lfDiv hb0 hb1 hI7; (have hz7 : f7.length ≤ 17 := Nat.le_trans (Nat.le_add_right _ _) hI7.2.2.1); (have hr7 : 0 ≤ r7 := hI7.2.1); (have hu7 : u7 ≤ 100000 := hI7.1); (try dsimp only); (try k_fold))
    | (k_here; (with_reducible show wpAny _ _ (exec (PySem.Stmt.While (PySem.Expr.Compare (PySem.Expr.BinOp _ _ _ _) _ _ _) _ _ _) _) _ _ _); (rename Fr _ _ _ _ => F9); (rename News _ _ _ _ => N9); k_dflt (refine' whileG (σ := Int × Tok) unPs (unInv bs.toNat number.toNat) (_, _) 17 F9 N9 ?hh9hm ?hh9hi ?_; (case hh9hm => (intro p9 hp9; (have e9 := List.mem_singleton.mp hp9); subst e9; exact rfl));  (case hh9hi => exact unStart)); clear F9 N9; intro k9 c9 h' tk9 hI9 F' N'; obtain ⟨u9, tu9⟩ := c9; (dsimp only [unPs, kstB] at F'); (try dsimp only); (try k_fold))
    | (refine' useV ?hh9k ?_; (case hh9k => with_reducible assumption); (try dsimp only))
    | (k_end; wrow_close)
    | walk1
    | (dsimp only; walk1)
    | (leave1; walk_say "STEP leave1"; try dsimp only)
    | fail "no step")
  · obtain ⟨k', hk', hI'⟩ := unStep (t' := _) hb0 h0 h1 hI9 (by assumption)
    exact ⟨rfl, (_, _), _, _, _, k', rfl, by assumption, by assumption, one rfl, oneOff, hk', hI'⟩
  · obtain ⟨k', hk', hI'⟩ := lfStep (s1 := _) (s2 := _) (s3 := _) hb0 hb1 hI7 (by assumption)
    exact ⟨rfl, (_, _, _, _, _, _), _, _, _, k', rfl, by assumption, by assumption, three rfl rfl rfl, threeOff, hk', hI'⟩
  · exact hret _ news _ _ (by assumption) (newsMono (by assumption) fun p hp => .tail _ hp) ⟨_, by rw [lfEnd (by omega) hI7 (by assumption)], rfl⟩
end Mine
end
section
open PySem PySem.W PyProof.Rows PySem.Calls PySem.SeqAt
namespace Mine
section
variable {prog : Program} {w : World} {A : Around} {E : Value → Shared → Prop} {s : Shared} {value slice : PySem.Expr} {Q : Value → Shared → Prop}
theorem baseItem {d : Addr} {x : Str} {t t1 t2 t3 t4 u1 u2 u3 u4 : Tok} {b : Int} (T : TabAt (PySem.strKind prog w) PyData.str s.heap d (strData [(.str (Str.ofString "d") t1, .int 10 u1), (.str (Str.ofString "x") t2, .int 16 u2), (.str (Str.ofString "X") t3, .int 16 u3), (.str (Str.ofString "o") t4, .int 8 u4)]))
    (hb : Spec.lookup (.str x) [(.str (Str.ofString "d"), .int 10), (.str (Str.ofString "x"), .int 16), (.str (Str.ofString "X"), .int 16), (.str (Str.ofString "o"), .int 8)] = some (.int b))
    (h : ∀ t', Q (.int b t') { s with toks := s.toks + 1 })
    (hs : subscripted slice false (.ref d) (.str x t) = operate [.ref d, .str x t] (getItem (.ref d) (.str x t)) := by with_unfolding_all rfl) :
    wpAny (model prog w) A (subscriptTail value slice (.ref d) (.str x t)) Q E s := by
  refine tab_tail T (getItem_tab PyProof.V.same_str (strKind_is _ _ _ _) T hb fun v hv => ?_) hs
  cases hv s.heap
  exact h _
end
noncomputable abbrev baseD4 : List (PyData × PyData) := [(.str (Str.ofString "d"), .int 10), (.str (Str.ofString "x"), .int 16), (.str (Str.ofString "X"), .int 16), (.str (Str.ofString "o"), .int 8)]
theorem strNe {a b : String} (h : decide (Str.ofString a = Str.ofString b) = false) : Spec.same (.str (Str.ofString a)) (.str (Str.ofString b)) = false := by rw [PyProof.V.same_str]; exact h
theorem strEq (a : String) : Spec.same (.str (Str.ofString a)) (.str (Str.ofString a)) = true := by rw [PyProof.V.same_str]; exact decide_eq_true rfl
theorem lookD : Spec.lookup (.str (Str.ofString "d")) baseD4 = some (.int 10) := by unfold Spec.lookup; rw [strEq]; rfl
theorem lookx : Spec.lookup (.str (Str.ofString "x")) baseD4 = some (.int 16) := by
  unfold Spec.lookup; rw [strNe (by decide +kernel)]; unfold Spec.lookup; rw [strEq]; rfl
theorem lookX : Spec.lookup (.str (Str.ofString "X")) baseD4 = some (.int 16) := by
  unfold Spec.lookup; rw [strNe (by decide +kernel)]; unfold Spec.lookup; rw [strNe (by decide +kernel)]; unfold Spec.lookup; rw [strEq]; rfl
theorem looko : Spec.lookup (.str (Str.ofString "o")) baseD4 = some (.int 8) := by
  unfold Spec.lookup; rw [strNe (by decide +kernel)]; unfold Spec.lookup; rw [strNe (by decide +kernel)]; unfold Spec.lookup; rw [strNe (by decide +kernel)]; unfold Spec.lookup; rw [strEq]; rfl
theorem digLen {b : Nat} (hb0 : 0 < b) (hb : b ≤ 16) : ∀ f n, (digF b f n).length ≤ f
  | 0, n => by
    have : (Str.ofString "").length = 0 := by decide +kernel
    show (Str.ofString "").length ≤ 0
    omega
  | f + 1, n => by
    unfold digF
    split
    · next h => have := dgLen (n := n) (by omega); omega
    · rw [Str.length_append]
      have h1 := digLen hb0 hb f (n / b)
      have h2 := dgLen (n := n % b) (Nat.lt_of_lt_of_le (Nat.mod_lt _ hb0) hb)
      omega
noncomputable def FigPost (bs number : Int) (news nx : List (Addr × Obj)) (r : Value) : Prop := ∃ x t, r = .str x t ∧ x = digF bs.toNat 18 number.toNat ∧ nx = news ∧ x.length ≤ 18 ∧ (Txt.upper x).length ≤ 54
theorem figPost {bs number : Int} {news : List (Addr × Obj)} (hb0 : 2 ≤ bs) (hb1 : bs ≤ 16) {nx : List (Addr × Obj)} {r : Value} (h : ∃ t, r = .str (digF bs.toNat 18 number.toNat) t ∧ nx = news) : ∃ nx', (∀ p ∈ nx', p ∈ nx) ∧ FigPost bs number news nx' r := by
  obtain ⟨t, h1, h2⟩ := h
  have h3 := digLen (b := bs.toNat) (by omega) (by omega) 18 number.toNat
  have h4 := len_upper (digF bs.toNat 18 number.toNat)
  exact ⟨nx, fun p hp => hp, _, t, h1, rfl, h2, h3, by omega⟩
theorem fig2 (w : World) (number bs : Int) (tn tb : Tok) (news : List (Addr × Obj)) (h0 : 0 ≤ number) (h1 : number ≤ 100000) (hb0 : 2 ≤ bs) (hb1 : bs ≤ 16) :
    Ctr w 126 [.int number tn, .int bs tb] 2 20 news (FigPost bs number news) := (fig w number bs tn tb news h0 h1 hb0 hb1).weak (fun _ h => h) fun _ _ => figPost hb0 hb1
theorem lfig2 (w : World) (number bs : Int) (tn tb : Tok) (news : List (Addr × Obj)) (h0 : 0 ≤ number) (h1 : number ≤ 100000) (hb0 : 2 ≤ bs) (hb1 : bs ≤ 16) :
    Ctr w 161 [.int number tn, .int bs tb] 2 20 news (FigPost bs number news) := (lfig w number bs tn tb news h0 h1 hb0 hb1).weak (fun _ h => h) fun _ _ => figPost hb0 hb1
noncomputable def signF (n : Int) : Str := if n < 0 then Str.ofString "-" else Str.ofString ""
noncomputable def absI (n : Int) : Int := if n < 0 then -n else n
/-- what the law writes of a sign and of figures -/
noncomputable def padW (fills : Bool) (width : Int) (sign told : Str) : Str :=
  if width - ((sign.length + told.length : Nat) : Int) ≤ 0 then sign ++ told
  else if fills = true then sign ++ Txt.mul (Str.ofString "0") (width - ((sign.length + told.length : Nat) : Int)) ++ told
  else Txt.mul (Str.ofString " ") (width - ((sign.length + told.length : Nat) : Int)) ++ sign ++ told
noncomputable def toldF (up : Bool) (bs number : Int) : Str := if up = true then Txt.upper (digF bs.toNat 18 (absI number).toNat) else digF bs.toNat 18 (absI number).toNat
theorem padW1 {fills : Bool} {width : Int} {sign told : Str} (h : width - ((sign.length + told.length : Nat) : Int) ≤ 0) : sign ++ told = padW fills width sign told := by unfold padW; rw [if_pos h]
theorem padW2 {fills : Bool} {width : Int} {sign told : Str} (h : ¬ width - ((sign.length + told.length : Nat) : Int) ≤ 0) (hf : fills = true) : sign ++ Txt.mul (Str.ofString "0") (width - ((sign.length + told.length : Nat) : Int)) ++ told = padW fills width sign told := by unfold padW; rw [if_neg h, if_pos hf]
theorem padW3 {fills : Bool} {width : Int} {sign told : Str} (h : ¬ width - ((sign.length + told.length : Nat) : Int) ≤ 0) (hf : fills = false) : Txt.mul (Str.ofString " ") (width - ((sign.length + told.length : Nat) : Int)) ++ sign ++ told = padW fills width sign told := by unfold padW; rw [if_neg h, if_neg (by rw [hf]; exact Bool.noConfusion)]
theorem signP {n : Int} (h : n < 0) : Str.ofString "-" = signF n := (if_pos h).symm
theorem signN {n : Int} (h : ¬ n < 0) : Str.ofString "" = signF n := (if_neg h).symm
theorem toldU {bs n : Int} : Txt.upper (digF bs.toNat 18 (if n < 0 then -n else n).toNat) = toldF true bs n := rfl
theorem toldN {bs n : Int} : digF bs.toNat 18 (if n < 0 then -n else n).toNat = toldF false bs n := rfl
theorem lwFin {news nx : List (Addr × Obj)} {fills : Bool} {width n bs : Int} {up : Bool} {x : Str} {v : Value} {t : Tok} {s g : Str} (hx : x = digF bs.toNat 18 (if n < 0 then -n else n).toNat) (hg : g = if up = true then Txt.upper x else x) (hs : s = signF n)
    (h : v = .str (padW fills width s g) t) (hn : nx = news) : ∃ t, v = .str (padW fills width (signF n) (toldF up bs n)) t ∧ nx = news := by
  subst hx hs hg
  exact ⟨t, h, hn⟩
theorem fpT (w : World) (form : Str) (tf : Tok) (news : List (Addr × Obj)) (hz : form.length ≤ 60) (A0 : Str) (fills : Bool) (width : Int) (sort B0 : Str) (hP : fparts form = some (some ⟨A0, fills, width, sort, B0⟩)) : CtrP w 119 [.str form tf] 2 20 news
    (fun nx r => ∃ t ta tw ts tb, r = .ref t ∧ nx = (t, ({ cls := .type "tuple", data := .seq #[.str A0 ta, .bool fills, .int width tw, .str sort ts, .str B0 tb] } : Obj)) :: news ∧ ∀ p ∈ news, p.1 < t) := fp w form tf news hz (some ⟨A0, fills, width, sort, B0⟩) hP
theorem mulNone (c : String) (h : Txt.mul (Str.ofString c) 0 = Str.ofString "") (x : Str) : Txt.mul (Str.ofString c) 0 ++ x = x := by
  have e0 : Str.ofString "" = ⟨#[]⟩ := by decide +kernel
  rw [h, e0]
  exact Str.empty_append x
theorem fmP {A0 B0 sign told : Str} {width : Int} {k : Nat} (hk : sign.length = k) : A0 ++ sign ++ Txt.mul (Str.ofString "0") (if width - (k : Int) - (told.length : Int) > 0 then width - (k : Int) - (told.length : Int) else 0) ++ told ++ B0 = A0 ++ padW true width sign told ++ B0 := by
  unfold padW
  rw [hk]
  by_cases h : width - (k : Int) - (told.length : Int) > 0
  · rw [if_pos h, if_neg (by omega), if_pos rfl]
    have e : width - ((k + told.length : Nat) : Int) = width - (k : Int) - (told.length : Int) := by omega
    rw [e]
    simp only [Str.append_assoc]
  · rw [if_neg h, if_pos (by omega)]
    have := mulNone "0" (by decide +kernel) (told ++ B0)
    simp only [Str.append_assoc, this]
theorem fmN {A0 B0 sign told : Str} {width : Int} {k : Nat} (hk : sign.length = k) : A0 ++ Txt.mul (Str.ofString " ") (if width - (k : Int) - (told.length : Int) > 0 then width - (k : Int) - (told.length : Int) else 0) ++ sign ++ told ++ B0 = A0 ++ padW false width sign told ++ B0 := by
  unfold padW
  rw [hk]
  by_cases h : width - (k : Int) - (told.length : Int) > 0
  · rw [if_pos h, if_neg (by omega), if_neg (by decide)]
    have e : width - ((k + told.length : Nat) : Int) = width - (k : Int) - (told.length : Int) := by omega
    rw [e]
    simp only [Str.append_assoc]
  · rw [if_neg h, if_pos (by omega)]
    have := mulNone " " (by decide +kernel) (sign ++ (told ++ B0))
    simp only [Str.append_assoc, this]
theorem lenMinus : (Str.ofString "-").length = 1 := by decide +kernel
theorem lenNone : (Str.ofString "").length = 0 := by decide +kernel
theorem fmFin {news nx : List (Addr × Obj)} {fills b : Bool} {width n bs : Int} {up : Bool} {x A0 B0 z : Str} {v : Value} {t : Tok} {s g : Str} (hx : x = digF bs.toNat 18 (if n < 0 then -n else n).toNat) (hg : g = if up = true then Txt.upper x else x) (hs : s = signF n) (hf : fills = b)
    (hv : v = .str z t) (h : z = A0 ++ padW b width s g ++ B0) (hn : nx = news) : ∃ t, v = .str (A0 ++ padW fills width (signF n) (toldF up bs n) ++ B0) t ∧ nx = news := by
  subst hx hg hs hf h
  exact ⟨t, hv, hn⟩
/-- a sort, its base, whether it is written large -/
noncomputable def SortIs (s : Str) (bs : Int) (up : Bool) : Prop := (s = Str.ofString "d" ∧ bs = 10 ∧ up = false) ∨ (s = Str.ofString "x" ∧ bs = 16 ∧ up = false) ∨ (s = Str.ofString "X" ∧ bs = 16 ∧ up = true) ∨ (s = Str.ofString "o" ∧ bs = 8 ∧ up = false)
theorem Ctr.toP {w : World} {f : Addr} {args : List Value} {dn un' : Nat} {news : List (Addr × Obj)} {Post : List (Addr × Obj) → Value → Prop} (C : Ctr w f args dn un' news Post) : CtrP w f args dn un' news Post := by
  intro mean mg mb dp un gd cn cs a ccd cl outer A₀ base h₀ L m s R _ B F X N T hk hd hu ret
  exact C _ _ _ _ _ _ _ _ _ _ _ _ _ _ _ _ _ _ _ B F X N T hk hd hu ret
theorem SortIs.base {s : Str} {bs : Int} {up : Bool} (h : SortIs s bs up) : 2 ≤ bs ∧ bs ≤ 16 := by
  rcases h with ⟨_, rfl, _⟩ | ⟨_, rfl, _⟩ | ⟨_, rfl, _⟩ | ⟨_, rfl, _⟩ <;> decide
theorem lookS {s : Str} {bs : Int} {up : Bool} (h : SortIs s bs up) : Spec.lookup (.str s) baseD4 = some (.int bs) := by
  rcases h with ⟨rfl, rfl, _⟩ | ⟨rfl, rfl, _⟩ | ⟨rfl, rfl, _⟩ | ⟨rfl, rfl, _⟩
  · exact lookD
  · exact lookx
  · exact lookX
  · exact looko
/-- the end of a branch: the value `v₀ t`, the local names as they were -/
noncomputable def JoinQ (v₀ : Tok → Value) (s : Shared) (h₀ : Heap) (L : Addr) (m : Str → Option Value) (news : List (Addr × Obj)) (v : Value) (s' : Shared) : Prop := ∃ t h' k, v = v₀ t ∧ s' = { s with heap := h', toks := k } ∧ Fr h₀ L h' m ∧ News h₀ L h' news
/-- branches of an expression that all give the value `v₀ t` are one -/
theorem joinVal {prog : Program} {w : World} {A : Around} {c : Sem Value} {Q E : Value → Shared → Prop} {s : Shared} {h₀ : Heap} {L : Addr} {m : Str → Option Value} {news : List (Addr × Obj)} (v₀ : Tok → Value) (_F : Fr h₀ L s.heap m)
    (h : wpAny (model prog w) A c (JoinQ v₀ s h₀ L m news) E s)
    (g : ∀ t h' k, Fr h₀ L h' m → News h₀ L h' news → Q (v₀ t) { s with heap := h', toks := k }) : wpAny (model prog w) A c Q E s := by
  refine wpAny_mono h (fun v s' x => ?_) fun _ _ x => x
  obtain ⟨t, h', k, rfl, rfl, F, N⟩ := x
  exact g t h' k F N
theorem upLen {up : Bool} {x y : Str} (e : y = if up = true then Txt.upper x else x) (h1 : x.length ≤ 18) (h2 : (Txt.upper x).length ≤ 54) : y.length ≤ 54 := by
  subst e
  split <;> omega
theorem signLen (n : Int) : (signF n).length ≤ 1 := by
  unfold signF
  split <;> decide +kernel
theorem padX1 {fills : Bool} {width : Int} {sign told : Str} (h : width - ((sign ++ told).length : Int) ≤ 0) : sign ++ told = padW fills width sign told := by
  rw [Str.length_append] at h; exact padW1 h
theorem padX2 {fills : Bool} {width : Int} {sign told : Str} (h : ¬ width - ((sign ++ told).length : Int) ≤ 0) (hf : fills = true) : sign ++ Txt.mul (Str.ofString "0") (width - ((sign ++ told).length : Int)) ++ told = padW fills width sign told := by
  rw [Str.length_append] at h ⊢; exact padW2 h hf
theorem padX3 {fills : Bool} {width : Int} {sign told : Str} (h : ¬ width - ((sign ++ told).length : Int) ≤ 0) (hf : fills = false) : Txt.mul (Str.ofString " ") (width - ((sign ++ told).length : Int)) ++ sign ++ told = padW fills width sign told := by
  rw [Str.length_append] at h ⊢; exact padW3 h hf
theorem gapLe {a g : Int} (h : (if a > 0 then a else 0) = g) {w : Int} {m n : Nat} (e : a = w - (m : Int) - (n : Int)) (h1 : w ≤ 7) : 0 ≤ g ∧ g ≤ 7 := by
  subst h
  split <;> omega
theorem fmP2 {A0 B0 sign told : Str} {width g : Int} (hg : (if width - (sign.length : Int) - (told.length : Int) > 0 then width - (sign.length : Int) - (told.length : Int) else 0) = g) : A0 ++ sign ++ Txt.mul (Str.ofString "0") g ++ told ++ B0 = A0 ++ padW true width sign told ++ B0 := by
  subst hg; exact fmP rfl
theorem fmN2 {A0 B0 sign told : Str} {width g : Int} (hg : (if width - (sign.length : Int) - (told.length : Int) > 0 then width - (sign.length : Int) - (told.length : Int) else 0) = g) : A0 ++ Txt.mul (Str.ofString " ") g ++ sign ++ told ++ B0 = A0 ++ padW false width sign told ++ B0 := by
  subst hg; exact fmN rfl
end Mine
end
section
open PySem PySem.W PyProof.Rows PySem.Calls PySem.SeqAt
namespace Mine

set_option maxHeartbeats 8000000 in
theorem lwG (w : World) (sort : Str) (bs : Int) (up : Bool) (hs : SortIs sort bs up) (fills : Bool) (width number : Int) (ts tw tn : Tok) (news : List (Addr × Obj)) (h0 : -9000 ≤ number) (h1 : number ≤ 61000) (hw0 : 0 ≤ width) (hw1 : width ≤ 7) :
    Ctr w 168 [.str sort ts, .bool fills, .int width tw, .int number tn] 4 40 news (fun nx r => ∃ t, r = .str (padW fills width (signF number) (toldF up bs number)) t ∧ nx = news) := by
  obtain ⟨hb0, hb1⟩ := hs.base
  obtain ⟨sg, hsg⟩ : ∃ sg, sg = signF number := ⟨_, rfl⟩
  have hgl : sg.length ≤ 1 := hsg ▸ signLen number
  unfold Ctr
  k_fill
  intro mean mg mb dp un gd cn cs a ccd cl outer A₀ base h₀ L m s R B F X N T hk hdp hu hret
  k_dflt cell_enter
  w_top off
  repeat' (first
    | (k_unfold; (try dsimp only))
    | (k_here; (with_reducible show wpAny _ _ (eval (PySem.Expr.Call _ _ _ _) _) _ _ _); refine' eval_gen ?_; intro K9 hK9; walk1)
    | (k_here; (with_reducible show wpAny _ _ (eval (PySem.Expr.IfExp _ (PySem.Expr.Call (PySem.Expr.Attribute _ _ _) _ _ _) _ _) _) _ _ _); k_dflt ((obtain ⟨x8, hx8⟩ : ∃ x8, x8 = if up = true then Txt.upper x9 else x9 := ⟨_, rfl⟩); (have hl8 := upLen hx8 hl9 hu9); refine' joinVal (news := news) (fun t => Value.str x8 t) ?hh9F ?_ ?_; (case hh9F => k_asm); rotate_left; intro t9 h9 k9 F9 N9; (try dsimp only); rotate_left; (rcases hs with ⟨rfl, rfl, rfl⟩ | ⟨rfl, rfl, rfl⟩ | ⟨rfl, rfl, rfl⟩ | ⟨rfl, rfl, rfl⟩ <;> walk1)))
    | (k_here; (with_reducible show wpAny _ _ (eval (PySem.Expr.IfExp (PySem.Expr.Compare (PySem.Expr.Name (Str.ofString "number") _) _ _ _) _ _ _) _) _ _ _); k_dflt (refine' joinVal (news := news) (fun t => Value.str sg t) ?hh9F ?_ ?_; (case hh9F => k_asm); rotate_left; intro t9 h9 k9 F9 N9; (try dsimp only); rotate_left; walk1))
    | ((with_reducible show JoinQ _ _ _ _ _ _ _ _); first | (refine ⟨_, _, _, rfl, rfl, by with_reducible assumption, newsMono (by with_reducible assumption) (fun p hp => by k_ownIn)⟩) | (refine ⟨_, _, _, congrArg (fun z => Value.str z _) (hsg.trans (signP (by with_reducible assumption)).symm).symm, rfl, by with_reducible assumption, newsMono (by with_reducible assumption) (fun p hp => by k_ownIn)⟩) | (refine ⟨_, _, _, congrArg (fun z => Value.str z _) (hsg.trans (signN (by with_reducible assumption)).symm).symm, rfl, by with_reducible assumption, newsMono (by with_reducible assumption) (fun p hp => by k_ownIn)⟩) | (refine ⟨_, _, _, congrArg (fun z => Value.str z _) hx8.symm, rfl, by with_reducible assumption, newsMono (by with_reducible assumption) (fun p hp => by k_ownIn)⟩) | fail "JoinQ")
    | (k_here; (with_reducible show wpAny _ _ (subscriptTail _ _ (Value.ref _) (Value.str _ _)) _ _ _); k_dflt (refine' baseItem ?hh9T ?hh9hb ?_ ?hh9hs; (case hh9T => k_tabat); (case hh9hb => exact lookS hs); (case hh9hs => with_unfolding_all rfl)); intro t8)
    | (k_here; (with_reducible show wpAny _ _ (PySem.call (Value.ref 126) _ _) _ _ _); k_dflt ((refine' Ctr.use (fig2 _ _ _ _ _ _ ?hh9h0 ?hh9h1 ?hh9b0 ?hh9b1) ?hh9B ?hh9F ?hh9X ?hh9N ?hh9T ?hh9hk ?hh9hd ?hh9hu ?_); (case hh9h0 => omega); (case hh9h1 => omega); (case hh9b0 => omega); (case hh9b1 => omega); (case hh9B => k_asm); (case hh9F => k_asm); (case hh9X => k_asm); (case hh9N => k_asm); (case hh9T => k_asm); (case hh9hk => first | exact rfl | assumption); (case hh9hd => (first | exact roomA (by with_reducible assumption) (by decide) | exact roomAB (by with_reducible assumption) (by decide) | exact roomABC (by with_reducible assumption) (by decide) | exact room0 (by with_reducible assumption) (by rfl) | exact roomN 1 (by with_reducible assumption) (by rfl) (by decide) | exact roomN 2 (by with_reducible assumption) (by rfl) (by decide) | exact roomN 3 (by with_reducible assumption) (by rfl) (by decide) | ktr_room)); (case hh9hu => (first | exact roomA (by with_reducible assumption) (by decide) | exact roomAB (by with_reducible assumption) (by decide) | exact roomABC (by with_reducible assumption) (by decide) | exact room0 (by with_reducible assumption) (by rfl) | exact roomN 3 (by with_reducible assumption) (by rfl) (by decide) | exact roomN 6 (by with_reducible assumption) (by rfl) (by decide) | ktr_units))); intro r9 nx9 h' tk' F' N' hP9; unfold FigPost at hP9; obtain ⟨x9, t9, e9, hx9, e9', hl9, hu9⟩ := hP9; subst e9; (have e9b := e9'.symm); subst e9b; (try dsimp only); (try k_fold))
    | (k_here; (with_reducible show wpAny _ _ (PySem.call (Value.ref 161) _ _) _ _ _); k_dflt ((refine' Ctr.use (lfig2 _ _ _ _ _ _ ?hh9h0 ?hh9h1 ?hh9b0 ?hh9b1) ?hh9B ?hh9F ?hh9X ?hh9N ?hh9T ?hh9hk ?hh9hd ?hh9hu ?_); (case hh9h0 => omega); (case hh9h1 => omega); (case hh9b0 => omega); (case hh9b1 => omega); (case hh9B => k_asm); (case hh9F => k_asm); (case hh9X => k_asm); (case hh9N => k_asm); (case hh9T => k_asm); (case hh9hk => first | exact rfl | assumption); (case hh9hd => (first | exact roomA (by with_reducible assumption) (by decide) | exact roomAB (by with_reducible assumption) (by decide) | exact roomABC (by with_reducible assumption) (by decide) | exact room0 (by with_reducible assumption) (by rfl) | exact roomN 1 (by with_reducible assumption) (by rfl) (by decide) | exact roomN 2 (by with_reducible assumption) (by rfl) (by decide) | exact roomN 3 (by with_reducible assumption) (by rfl) (by decide) | ktr_room)); (case hh9hu => (first | exact roomA (by with_reducible assumption) (by decide) | exact roomAB (by with_reducible assumption) (by decide) | exact roomABC (by with_reducible assumption) (by decide) | exact room0 (by with_reducible assumption) (by rfl) | exact roomN 3 (by with_reducible assumption) (by rfl) (by decide) | exact roomN 6 (by with_reducible assumption) (by rfl) (by decide) | ktr_units))); intro r9 nx9 h' tk' F' N' hP9; unfold FigPost at hP9; obtain ⟨x9, t9, e9, hx9, e9', hl9, hu9⟩ := hP9; subst e9; (have e9b := e9'.symm); subst e9b; (try dsimp only); (try k_fold))
    | (refine' useV ?hh9k ?_; (case hh9k => with_reducible assumption); (try dsimp only))
    | (k_end; wrow_close)
    | walk1
    | (dsimp only; walk1)
    | (leave1; walk_say "STEP leave1"; try dsimp only)
    | fail "no step")
  all_goals refine hret _ news _ _ (by assumption) (newsMono (by assumption) (fun p hp => by k_ownIn)) ?_
  · exact lwFin hx9 hx8 hsg (congrArg (fun z => Value.str z _) (padX1 (by with_reducible assumption))) rfl
  · exact lwFin hx9 hx8 hsg (congrArg (fun z => Value.str z _) (padX2 (by with_reducible assumption) (by with_reducible assumption))) rfl
  · exact lwFin hx9 hx8 hsg (congrArg (fun z => Value.str z _) (padX3 (by with_reducible assumption) (by with_reducible assumption))) rfl
theorem lwS (w : World) (sort : Str) (bs : Int) (up : Bool) (hs : SortIs sort bs up) (fills : Bool) (width number : Int) (ts tw tn : Tok) (news : List (Addr × Obj)) (h0 : -9000 ≤ number) (h1 : number ≤ 61000) (hw0 : 0 ≤ width) (hw1 : width ≤ 7) :
    CtrP w 168 [.str sort ts, .bool fills, .int width tw, .int number tn] 4 40 news (fun nx r => ∃ t, r = .str (padW fills width (signF number) (toldF up bs number)) t ∧ nx = news) := (lwG w sort bs up hs fills width number ts tw tn news h0 h1 hw0 hw1).toP
end Mine
end
section
open PySem PySem.W PyProof.Rows PySem.Calls PySem.SeqAt
namespace Mine

set_option maxHeartbeats 8000000 in
theorem fmS (w : World) (sort : Str) (bs : Int) (up : Bool) (hs : SortIs sort bs up) (form : Str) (tf : Tok) (A0 B0 : Str) (fills : Bool) (width number : Int) (tn : Tok) (news : List (Addr × Obj)) (hz : form.length ≤ 60) (hP : fparts form = some (some ⟨A0, fills, width, sort, B0⟩))
    (hA0 : A0.length ≤ 10) (hB0 : B0.length ≤ 10) (h0 : -9000 ≤ number) (h1 : number ≤ 61000) (hw0 : 0 ≤ width) (hw1 : width ≤ 7) :
    CtrP w 133 [.str form tf, .int number tn] 4 40 news (fun nx r => ∃ t, r = .str (A0 ++ padW fills width (signF number) (toldF up bs number) ++ B0) t ∧ nx = news) := by
  obtain ⟨hb0, hb1⟩ := hs.base
  obtain ⟨sg, hsg⟩ : ∃ sg, sg = signF number := ⟨_, rfl⟩
  have hgl : sg.length ≤ 1 := hsg ▸ signLen number
  unfold CtrP
  k_fill
  intro mean mg mb dp un gd cn cs a ccd cl outer A₀ base h₀ L m s R hp B F X N T hk hdp hu hret
  k_dflt cell_enter
  w_top off
  repeat' (first
    | (k_unfold; (try dsimp only))
    | (k_here; (with_reducible show wpAny _ _ (storeName _ (Str.ofString "gap") _) _ _ _); generalize hgp9 : (if width - (sg.length : Int) - (x8.length : Int) > 0 then width - (sg.length : Int) - (x8.length : Int) else 0) = gp9; (obtain ⟨hg90, hg91⟩ := gapLe hgp9 rfl hw1); walk1)
    | (k_here; (with_reducible show wpAny _ _ (eval (PySem.Expr.IfExp _ _ (PySem.Expr.IfExp _ _ _ _) _) _) _ _ _); k_dflt (refine' joinVal (news := news) (fun t => Value.int bs t) ?hh9F ?_ ?_; (case hh9F => k_asm); rotate_left; intro t9 h9 k9 F9 N9; (try dsimp only); rotate_left; (rcases hs with ⟨rfl, rfl, rfl⟩ | ⟨rfl, rfl, rfl⟩ | ⟨rfl, rfl, rfl⟩ | ⟨rfl, rfl, rfl⟩ <;> walk1)))
    | (k_here; (with_reducible show wpAny _ _ (eval (PySem.Expr.IfExp _ (PySem.Expr.Call (PySem.Expr.Attribute _ _ _) _ _ _) _ _) _) _ _ _); k_dflt ((obtain ⟨x8, hx8⟩ : ∃ x8, x8 = if up = true then Txt.upper x9 else x9 := ⟨_, rfl⟩); (have hl8 := upLen hx8 hl9 hu9); refine' joinVal (news := news) (fun t => Value.str x8 t) ?hh9F ?_ ?_; (case hh9F => k_asm); rotate_left; intro t9 h9 k9 F9 N9; (try dsimp only); rotate_left; (rcases hs with ⟨rfl, rfl, rfl⟩ | ⟨rfl, rfl, rfl⟩ | ⟨rfl, rfl, rfl⟩ | ⟨rfl, rfl, rfl⟩ <;> walk1)))
    | (k_here; (with_reducible show wpAny _ _ (eval (PySem.Expr.IfExp (PySem.Expr.Compare (PySem.Expr.Name (Str.ofString "number") _) _ _ _) _ _ _) _) _ _ _); k_dflt (refine' joinVal (news := news) (fun t => Value.str sg t) ?hh9F ?_ ?_; (case hh9F => k_asm); rotate_left; intro t9 h9 k9 F9 N9; (try dsimp only); rotate_left; walk1))
    | ((with_reducible show JoinQ _ _ _ _ _ _ _ _); first | (refine ⟨_, _, _, rfl, rfl, by with_reducible assumption, newsMono (by with_reducible assumption) (fun p hp => by k_ownIn)⟩) | (refine ⟨_, _, _, congrArg (fun z => Value.str z _) (hsg.trans (signP (by with_reducible assumption)).symm).symm, rfl, by with_reducible assumption, newsMono (by with_reducible assumption) (fun p hp => by k_ownIn)⟩) | (refine ⟨_, _, _, congrArg (fun z => Value.str z _) (hsg.trans (signN (by with_reducible assumption)).symm).symm, rfl, by with_reducible assumption, newsMono (by with_reducible assumption) (fun p hp => by k_ownIn)⟩) | (refine ⟨_, _, _, congrArg (fun z => Value.str z _) hx8.symm, rfl, by with_reducible assumption, newsMono (by with_reducible assumption) (fun p hp => by k_ownIn)⟩) | fail "JoinQ")
    | (k_here; (with_reducible show wpAny _ _ (subscriptTail _ _ (Value.ref _) (Value.str _ _)) _ _ _); k_dflt (refine' baseItem ?hh9T ?hh9hb ?_ ?hh9hs; (case hh9T => k_tabat); (case hh9hb => exact lookS hs); (case hh9hs => with_unfolding_all rfl)); intro t8)
    | (k_here; (with_reducible show wpAny _ _ (PySem.call (Value.ref 126) _ _) _ _ _); k_dflt ((refine' Ctr.use (fig2 _ _ _ _ _ _ ?hh9h0 ?hh9h1 ?hh9b0 ?hh9b1) ?hh9B ?hh9F ?hh9X ?hh9N ?hh9T ?hh9hk ?hh9hd ?hh9hu ?_); (case hh9h0 => omega); (case hh9h1 => omega); (case hh9b0 => omega); (case hh9b1 => omega); (case hh9B => k_asm); (case hh9F => k_asm); (case hh9X => k_asm); (case hh9N => k_asm); (case hh9T => k_asm); (case hh9hk => first | exact rfl | assumption); (case hh9hd => (first | exact roomA (by with_reducible assumption) (by decide) | exact roomAB (by with_reducible assumption) (by decide) | exact roomABC (by with_reducible assumption) (by decide) | exact room0 (by with_reducible assumption) (by rfl) | exact roomN 1 (by with_reducible assumption) (by rfl) (by decide) | exact roomN 2 (by with_reducible assumption) (by rfl) (by decide) | exact roomN 3 (by with_reducible assumption) (by rfl) (by decide) | ktr_room)); (case hh9hu => (first | exact roomA (by with_reducible assumption) (by decide) | exact roomAB (by with_reducible assumption) (by decide) | exact roomABC (by with_reducible assumption) (by decide) | exact room0 (by with_reducible assumption) (by rfl) | exact roomN 3 (by with_reducible assumption) (by rfl) (by decide) | exact roomN 6 (by with_reducible assumption) (by rfl) (by decide) | ktr_units))); intro r9 nx9 h' tk' F' N' hP9; unfold FigPost at hP9; obtain ⟨x9, t9, e9, hx9, e9', hl9, hu9⟩ := hP9; subst e9; (have e9b := e9'.symm); subst e9b; (try dsimp only); (try k_fold))
    | (k_here; (with_reducible show wpAny _ _ (PySem.call (Value.ref 161) _ _) _ _ _); k_dflt ((refine' Ctr.use (lfig2 _ _ _ _ _ _ ?hh9h0 ?hh9h1 ?hh9b0 ?hh9b1) ?hh9B ?hh9F ?hh9X ?hh9N ?hh9T ?hh9hk ?hh9hd ?hh9hu ?_); (case hh9h0 => omega); (case hh9h1 => omega); (case hh9b0 => omega); (case hh9b1 => omega); (case hh9B => k_asm); (case hh9F => k_asm); (case hh9X => k_asm); (case hh9N => k_asm); (case hh9T => k_asm); (case hh9hk => first | exact rfl | assumption); (case hh9hd => (first | exact roomA (by with_reducible assumption) (by decide) | exact roomAB (by with_reducible assumption) (by decide) | exact roomABC (by with_reducible assumption) (by decide) | exact room0 (by with_reducible assumption) (by rfl) | exact roomN 1 (by with_reducible assumption) (by rfl) (by decide) | exact roomN 2 (by with_reducible assumption) (by rfl) (by decide) | exact roomN 3 (by with_reducible assumption) (by rfl) (by decide) | ktr_room)); (case hh9hu => (first | exact roomA (by with_reducible assumption) (by decide) | exact roomAB (by with_reducible assumption) (by decide) | exact roomABC (by with_reducible assumption) (by decide) | exact room0 (by with_reducible assumption) (by rfl) | exact roomN 3 (by with_reducible assumption) (by rfl) (by decide) | exact roomN 6 (by with_reducible assumption) (by rfl) (by decide) | ktr_units))); intro r9 nx9 h' tk' F' N' hP9; unfold FigPost at hP9; obtain ⟨x9, t9, e9, hx9, e9', hl9, hu9⟩ := hP9; subst e9; (have e9b := e9'.symm); subst e9b; (try dsimp only); (try k_fold))
    | (k_here; (with_reducible show wpAny _ _ (PySem.call (Value.ref 119) _ _) _ _ _); k_dflt ((refine' CtrP.use (fpT _ _ _ _ ?hh9hz _ _ _ _ _ ?hh9hP) ?hh9hp ?hh9B ?hh9F ?hh9X ?hh9N ?hh9T ?hh9hk ?hh9hd ?hh9hu ?_); (case hh9hz => (first | assumption | omega)); (case hh9hP => assumption); (case hh9hp => (dsimp only; first | assumption | omega)); (case hh9B => k_asm); (case hh9F => k_asm); (case hh9X => k_asm); (case hh9N => k_asm); (case hh9T => k_asm); (case hh9hk => first | exact rfl | assumption); (case hh9hd => (first | exact roomA (by with_reducible assumption) (by decide) | exact roomAB (by with_reducible assumption) (by decide) | exact roomABC (by with_reducible assumption) (by decide) | exact room0 (by with_reducible assumption) (by rfl) | exact roomN 1 (by with_reducible assumption) (by rfl) (by decide) | exact roomN 2 (by with_reducible assumption) (by rfl) (by decide) | exact roomN 3 (by with_reducible assumption) (by rfl) (by decide) | ktr_room)); (case hh9hu => (first | exact roomA (by with_reducible assumption) (by decide) | exact roomAB (by with_reducible assumption) (by decide) | exact roomABC (by with_reducible assumption) (by decide) | exact room0 (by with_reducible assumption) (by rfl) | exact roomN 3 (by with_reducible assumption) (by rfl) (by decide) | exact roomN 6 (by with_reducible assumption) (by rfl) (by decide) | ktr_units))); intro r9 nx9 h' tk9 hp9 F' N' hP9; obtain ⟨t9, ta9, tw9, ts9, tb9, e9, e9', l9⟩ := hP9; subst e9; subst e9'; (try k_lt l9); (try dsimp only); (try k_fold))
    | (k_here; (with_reducible show wpAny _ _ (PySem.call (Value.builtin "str.replace") [Value.str _ _, Value.str _ _, Value.str _ _]) _ _ _); k_dflt (refine' SC.replaceW ?hh9a ?hh9b ?hh9c ?hh9f ?hh9d ?hh9e ?_; (case hh9a => (first | with_reducible assumption | exact Ne.symm (by with_reducible assumption) | k_ne)); (case hh9b => (first | with_reducible assumption | exact Ne.symm (by with_reducible assumption) | k_ne)); (case hh9c => (first | with_reducible assumption | exact Ne.symm (by with_reducible assumption) | k_ne)); (case hh9f => decide +kernel); (case hh9d => omega); (case hh9e => decide +kernel)); intro t9 tk9)
    | ((with_reducible show PosQ _ _ _); refine' PosQ.intro ?_; intro hp9; (try dsimp only at hp9))
    | (k_here; (with_reducible show wpAny _ _ (execs (_ :: _) _) _ _ _); refine' execs_cons_pos ?hh9hp ?_; (case hh9hp => first | assumption | omega); intro tk9 hp9; (try dsimp only); (try k_fold))
    | (k_end; wrow_close)
    | walk1
    | (dsimp only; walk1)
    | (leave1; walk_say "STEP leave1"; try dsimp only)
    | fail "no step")
  all_goals refine hret _ news _ _ (by assumption) (newsMono (by assumption) (fun p hp => by k_ownIn)) ?_
  · exact fmFin hx9 hx8 hsg (by with_reducible assumption) rfl (fmP2 hgp9) rfl
  · exact fmFin hx9 hx8 hsg (by with_reducible assumption) rfl (fmN2 hgp9) rfl
end Mine
end
section
open PySem PySem.W PyProof.Rows PySem.Calls PySem.SeqAt
namespace Mine
noncomputable def c1 (a : Nat) : Str := ⟨#[a]⟩
noncomputable def c2 (a b : Nat) : Str := ⟨#[a, b]⟩
noncomputable def digs10 : Str := ⟨#[48, 49, 50, 51, 52, 53, 54, 55, 56, 57]⟩
noncomputable def isDigR (form : Str) (e : Nat) : Bool := !(Builtin.Str.occurrences digs10 (Txt.item form (e : Int)) 0 10 1).isEmpty
/-- the kernel reckons the number, then goes on -/
noncomputable def forceN {α : Type} (n : Nat) (f : Nat → α) : α := match n with
  | 0 => f 0
  | m + 1 => f (m + 1)
theorem forceN_eq {α : Type} (n : Nat) (f : Nat → α) : forceN n f = f n := by cases n <;> rfl
noncomputable def forceI {α : Type} (k : Int) (f : Int → α) : α := match k with
  | .ofNat n => forceN n fun n => f (.ofNat n)
  | .negSucc n => forceN n fun n => f (.negSucc n)
theorem forceI_eq {α : Type} (k : Int) (f : Int → α) : forceI k f = f k := by cases k <;> simp [forceI, forceN_eq]
noncomputable def forceL {α : Type} : List Nat → (List Nat → α) → α
  | [], f => f []
  | a :: l, f => forceN a fun a => forceL l fun l => f (a :: l)
theorem forceL_eq {α : Type} : ∀ (l : List Nat) (f : List Nat → α), forceL l f = f l
  | [], _ => rfl
  | a :: l, f => by unfold forceL; rw [forceN_eq, forceL_eq l]
noncomputable def forceS {α : Type} (x : Str) (f : Str → α) : α := forceL x.cps.toList fun l => f ⟨⟨l⟩⟩
theorem forceS_eq {α : Type} (x : Str) (f : Str → α) : forceS x f = f x := by unfold forceS; rw [forceL_eq]
/-- the places of a text in a text, sign by sign -/
noncomputable def occR (sub : List Nat) (m limit : Nat) : List Nat → Nat → Nat → Nat → List Nat
  | [], _, _, _ => []
  | c :: l, i, free, cnt => if (Nat.blt cnt limit && Nat.ble free i && ((c :: l).take m == sub)) = true then i :: forceN (i + 1) fun j => forceN (i + m) fun fr => forceN (cnt + 1) fun c' => occR sub m limit l j fr c' else forceN (i + 1) fun j => occR sub m limit l j free cnt
theorem occ_run (s sub : Str) (limit : Nat) (hm : 1 ≤ sub.length) : ∀ (l : List Nat) (i free : Nat) (arr : Array Nat), s.cps.toList.drop i = l → i + l.length = s.length →
    (forIn (List.range' i (l.length + 1)) (arr, free) (StrLaws.occBody s sub s.length limit)).run.fst.toList = arr.toList ++ occR sub.cps.toList sub.length limit l i free arr.size
  | [], i, free, arr, _, hi => by
    have h : ¬ (((arr.size < limit ∧ free ≤ i) ∧ i + sub.length ≤ s.length) ∧ Builtin.Str.subAt s sub i = true) := by
      simp at hi; omega
    simp only [List.length_nil, Nat.zero_add, List.range'_one, List.forIn_cons, List.forIn_nil]
    unfold StrLaws.occBody
    rw [if_neg h]
    simp [occR]
  | c :: l, i, free, arr, hd, hi => by
    have hd' : s.cps.toList.drop (i + 1) = l := by
      rw [← List.drop_drop, hd]; rfl
    have hi' : i + 1 + l.length = s.length := by simp at hi; omega
    have hr : List.range' i ((c :: l).length + 1) = i :: List.range' (i + 1) (l.length + 1) := by simp [List.range'_succ]
    have hc : (((arr.size < limit ∧ free ≤ i) ∧ i + sub.length ≤ s.length) ∧ Builtin.Str.subAt s sub i = true) ↔ ((Nat.blt arr.size limit && Nat.ble free i && ((c :: l).take sub.length == sub.cps.toList)) = true) := by
      rw [StrLaws.subAt_eq, hd]
      simp only [Bool.and_eq_true, Nat.blt_eq, Nat.ble_eq]
      constructor
      · rintro ⟨⟨h1, _⟩, h2⟩
        exact ⟨h1, h2⟩
      · rintro ⟨h1, h2⟩
        refine ⟨⟨h1, ?_⟩, h2⟩
        have h3 := congrArg List.length (eq_of_beq h2)
        rw [List.length_take] at h3
        have h4 : sub.cps.toList.length = sub.length := by rw [Array.length_toList]; rfl
        rw [h4] at h3
        omega
    rw [hr, List.forIn_cons]
    unfold occR
    simp only [forceN_eq]
    by_cases h : (((arr.size < limit ∧ free ≤ i) ∧ i + sub.length ≤ s.length) ∧ Builtin.Str.subAt s sub i = true)
    · rw [if_pos (hc.mp h)]
      have e : StrLaws.occBody s sub s.length limit i (arr, free) = pure (ForInStep.yield (arr.push i, i + sub.length)) := by
        unfold StrLaws.occBody; exact if_pos h
      rw [e]
      simp only [pure_bind]
      rw [occ_run s sub limit hm l (i + 1) (i + sub.length) (arr.push i) hd' hi']
      simp
    · rw [if_neg (fun q => h (hc.mpr q))]
      have e : StrLaws.occBody s sub s.length limit i (arr, free) = pure (ForInStep.yield (arr, free)) := by
        unfold StrLaws.occBody; exact if_neg h
      rw [e]
      simp only [pure_bind]
      exact occ_run s sub limit hm l (i + 1) free arr hd' hi'
theorem occ_fast (s sub : Str) (lo limit : Nat) (hm : 1 ≤ sub.length) (hlo : lo ≤ s.length) : Builtin.Str.occurrences s sub lo s.length limit = occR sub.cps.toList sub.length limit (s.cps.toList.drop lo) lo lo 0 := by
  rw [StrLaws.occ_eq]
  have hl : (s.cps.toList.drop lo).length = s.length - lo := by rw [List.length_drop, Array.length_toList]; rfl
  have e : s.length + 1 - lo = (s.cps.toList.drop lo).length + 1 := by omega
  rw [e, occ_run s sub limit hm (s.cps.toList.drop lo) lo lo #[] rfl (by omega)]
  rfl
theorem occ_fast2 (s sub : Str) (lo limit : Nat) (hm : 1 ≤ sub.length) : Builtin.Str.occurrences s sub lo s.length limit = occR sub.cps.toList sub.length limit (s.cps.toList.drop lo) lo lo 0 := by
  by_cases h : lo ≤ s.length
  · exact occ_fast s sub lo limit hm h
  · have e1 : s.length + 1 - lo = 0 := by omega
    have e2 : s.cps.toList.drop lo = [] := List.drop_eq_nil_of_le (by rw [Array.length_toList]; show s.length ≤ lo; omega)
    rw [StrLaws.occ_eq, e1, e2]
    rfl
noncomputable def partsP (s : Str) (w : Nat) : Nat → List Nat → List Str
  | p, [] => [Builtin.Str.strSub s p s.length]
  | p, c :: cs => Builtin.Str.strSub s p c :: partsP s w (c + w) cs
theorem parts_eq (s : Str) (w : Nat) : ∀ (cuts : List Nat) (p : Nat), ((p :: cuts.map (· + w)).zip (cuts ++ [s.length])).map (fun (i, j) => Builtin.Str.strSub s i j) = partsP s w p cuts
  | [], _ => rfl
  | c :: cs, p => by
    show Builtin.Str.strSub s p c :: (((c + w) :: cs.map (· + w)).zip (cs ++ [s.length])).map _ = _
    rw [parts_eq s w cs (c + w)]
    rfl
noncomputable def partsL (L z : List Nat) (w : Nat) : Nat → List Nat → List Nat
  | p, [] => L.drop p
  | p, c :: cs => (L.drop p).take (c - p) ++ (z ++ partsL L z w (c + w) cs)
theorem glue_eq (s z : Str) (w : Nat) : ∀ (cuts : List Nat) (p : Nat) (acc : Array Nat), ((partsP s w p cuts).foldl (fun acc p => acc ++ z.cps ++ p.cps) acc).toList = acc.toList ++ (z.cps.toList ++ partsL s.cps.toList z.cps.toList w p cuts)
  | [], p, acc => by
    simp [partsP, partsL, Builtin.Str.strSub, Str.length, List.drop_take]
    exact List.take_of_length_le (by simp)
  | c :: cs, p, acc => by
    show ((partsP s w (c + w) cs).foldl _ (acc ++ z.cps ++ (Builtin.Str.strSub s p c).cps)).toList = _
    rw [glue_eq s z w cs (c + w)]
    simp [partsL, Builtin.Str.strSub, List.drop_take]
theorem glued_eq (s z : Str) (w : Nat) (cuts : List Nat) : Builtin.Str.glued z (Builtin.Str.partsBetween s cuts w) = ⟨⟨partsL s.cps.toList z.cps.toList w 0 cuts⟩⟩ := by
  have h : Builtin.Str.partsBetween s cuts w = partsP s w 0 cuts := parts_eq s w cuts 0
  rw [h]
  apply Str.ext'
  apply Array.toList_inj.mp
  cases cuts with
  | nil => simp [Builtin.Str.glued, partsP, partsL, Builtin.Str.strSub, Str.length]
  | cons c cs =>
    show ((partsP s w (c + w) cs).foldl (fun acc p => acc ++ z.cps ++ p.cps) (Builtin.Str.strSub s 0 c).cps).toList = _
    rw [glue_eq]
    simp [partsL, Builtin.Str.strSub]
noncomputable def replF (x y z : Str) : Str := forceL (occR y.cps.toList y.length (x.length + 1) x.cps.toList 0 0 0) fun occ => if occ.isEmpty = true then x else ⟨⟨partsL x.cps.toList z.cps.toList y.length 0 occ⟩⟩
theorem replF_eq (x y z : Str) (hm : 1 ≤ y.length) : Txt.replace x y z = replF x y z := by
  unfold Txt.replace replF
  rw [occ_fast2 x y 0 _ hm, forceL_eq]
  have h0 : (y.length == 0) = false := by rw [beq_eq_false_iff_ne]; omega
  simp only [h0, Bool.false_and, Bool.or_false, List.drop_zero, glued_eq]
noncomputable def appF (x y : Str) : Str := ⟨⟨x.cps.toList ++ y.cps.toList⟩⟩
theorem appF_eq (x y : Str) : x ++ y = appF x y := by
  apply Str.ext'
  apply Array.toList_inj.mp
  show (x.cps ++ y.cps).toList = _
  rw [Array.toList_append]
  rfl
noncomputable def fAtR (form : Str) : Int := Txt.find (Txt.replace form (c2 37 37) (c2 46 46)) (c1 37)
noncomputable def fNextR (form : Str) (k : Int) : Int := Txt.find3 (Txt.replace form (c2 37 37) (c2 46 46)) (c1 37) (k + 1)
noncomputable def formOfR (form : Str) (k : Int) (e : Nat) (width : Int) : FormR where
  ahead := replF (Txt.slice form none (some k)) (c2 37 37) (c1 37)
  fills := Txt.slice form (some (k + 1)) (some (k + 1 + 1)) == c1 48
  width := width
  sort := Txt.slice form (some (e : Int)) (some ((e : Int) + 1))
  behind := replF (Txt.slice form (some ((e : Int) + 1)) none) (c2 37 37) (c1 37)
noncomputable def fparts3 (form : Str) (k : Int) (e : Nat) : Option (Option FormR) :=
  if ([c1 100, c1 120, c1 88, c1 111].any fun x => x == Txt.slice form (some (e : Int)) (some ((e : Int) + 1))) = false then some none
  else match PySem.intText? (c1 48 ++ Txt.slice form (some (k + 1)) (some (e : Int))) with
    | none => none
    | some w => some (some (formOfR form k e w))
noncomputable def fparts2 (form : Str) (k : Int) : Option (Option FormR) :=
  if k < 0 then some none
  else if 0 ≤ fNextR form k then some none
  else fparts3 form k (scan (isDigR form) form.length (form.length - (k + 1).toNat) (k + 1).toNat)
noncomputable def fpartsR (form : Str) : Option (Option FormR) := fparts2 form (fAtR form)
theorem e_pp : Str.ofString "%%" = c2 37 37 := by decide +kernel
theorem e_dd : Str.ofString ".." = c2 46 46 := by decide +kernel
theorem e_p : Str.ofString "%" = c1 37 := by decide +kernel
theorem e_d : Str.ofString "d" = c1 100 := by decide +kernel
theorem e_x : Str.ofString "x" = c1 120 := by decide +kernel
theorem e_X : Str.ofString "X" = c1 88 := by decide +kernel
theorem e_o : Str.ofString "o" = c1 111 := by decide +kernel
theorem e_0 : Str.ofString "0" = c1 48 := by decide +kernel
theorem e_10 : Str.ofString "0123456789" = digs10 := by decide +kernel
theorem isDig_eq (form : Str) : isDig form = isDigR form := by funext e; unfold isDig isDigR; rw [e_10]; rfl
theorem fAt_eq (form : Str) : fAt form = fAtR form := by unfold fAt fAtR; rw [e_pp, e_dd, e_p]
theorem fNext_eq (form : Str) : fNext form = fNextR form (fAtR form) := by unfold fNext fNextR; rw [e_pp, e_dd, e_p, fAt_eq]
theorem fEnd_eq (form : Str) : fEnd form = scan (isDigR form) form.length (form.length - (fAtR form + 1).toNat) (fAtR form + 1).toNat := by unfold fEnd; rw [isDig_eq, fAt_eq]
theorem fSort_eq (form : Str) {e : Nat} (h : fEnd form = e) : fSort form = Txt.slice form (some (e : Int)) (some ((e : Int) + 1)) := by unfold fSort; rw [h]
theorem formOf_eq (form : Str) {e : Nat} (h : fEnd form = e) (w : Int) : formOf form w = formOfR form (fAtR form) e w := by
  unfold formOf formOfR; rw [fAt_eq, fSort_eq form h, h, e_pp, e_p, e_0, replF_eq _ _ _ (by decide), replF_eq _ _ _ (by decide)]
theorem fparts_eq (form : Str) : fparts form = fpartsR form := by
  unfold fparts fpartsR fparts2 fparts3
  rw [fAt_eq, fNext_eq]
  by_cases h1 : fAtR form < 0
  · rw [if_pos h1, if_pos h1]
  · rw [if_neg h1, if_neg h1]
    by_cases h2 : 0 ≤ fNextR form (fAtR form)
    · rw [if_pos h2, if_pos h2]
    · rw [if_neg h2, if_neg h2, fSort_eq form (fEnd_eq form)]
      unfold sorts
      rw [e_d, e_x, e_X, e_o, e_0, fEnd_eq]
      split
      · rfl
      · generalize PySem.intText? _ = o
        cases o with
        | none => rfl
        | some w => dsimp only; rw [formOf_eq form (fEnd_eq form)]
noncomputable def findF (x y : Str) : Int := match occR y.cps.toList y.length 1 x.cps.toList 0 0 0 with
  | i :: _ => (i : Int)
  | [] => -1
theorem findF_eq (x y : Str) (hm : 1 ≤ y.length) : Txt.find x y = findF x y := by
  unfold Txt.find findF
  rw [occ_fast2 x y 0 _ hm, List.drop_zero]
  generalize occR _ _ _ _ _ _ _ = l
  cases l <;> rfl
noncomputable def find3F (x y : Str) (k : Int) : Int := match forceN (fromIndex x.length k) fun lo => occR y.cps.toList y.length 1 (x.cps.toList.drop lo) lo lo 0 with
  | i :: _ => (i : Int)
  | [] => -1
theorem find3F_eq (x y : Str) (k : Int) (hm : 1 ≤ y.length) : Txt.find3 x y k = find3F x y k := by
  unfold Txt.find3 find3F
  rw [occ_fast2 x y _ _ hm, forceN_eq]
  generalize occR _ _ _ _ _ _ _ = l
  cases l <;> rfl
noncomputable def isDigF (form : Str) (e : Nat) : Bool := forceN ((Txt.charAt form (e : Int)).getD 0) fun c => Nat.ble 48 c && Nat.ble c 57
theorem isDigF_eq (form : Str) : isDigR form = isDigF form := by
  funext e
  unfold isDigR isDigF Txt.item
  have h := StrLaws.found_one digs10 ((Txt.charAt form (e : Int)).getD 0)
  have h' : (10 : Nat) = digs10.length := rfl
  rw [h', h, forceN_eq]
  generalize (Txt.charAt form (e : Int)).getD 0 = c
  rw [Bool.eq_iff_iff]
  simp only [decide_eq_true_eq, Bool.and_eq_true, Nat.ble_eq]
  show c ∈ [48, 49, 50, 51, 52, 53, 54, 55, 56, 57] ↔ _
  constructor
  · intro h
    have := (by decide : ∀ x ∈ [48, 49, 50, 51, 52, 53, 54, 55, 56, 57], 48 ≤ x ∧ x ≤ 57)
    exact this c h
  · intro h
    have h3 : c < 58 := Nat.lt_succ_of_le h.2
    exact (by decide : ∀ x, x < 58 → 48 ≤ x → x ∈ [48, 49, 50, 51, 52, 53, 54, 55, 56, 57]) c h3 h.1
noncomputable def fpartsG (form : Str) : Option (Option FormR) :=
  forceS form fun form => forceS (replF form (c2 37 37) (c2 46 46)) fun rep => forceI (findF rep (c1 37)) fun k =>
    if k < 0 then some none
    else forceI (find3F rep (c1 37) (k + 1)) fun k2 => if 0 ≤ k2 then some none
    else forceN (scan (isDigF form) form.length (form.length - (k + 1).toNat) (k + 1).toNat) fun e => fparts3 form k e
theorem fpartsG_eq (form : Str) : fparts form = fpartsG form := by
  rw [fparts_eq]
  unfold fpartsR fpartsG fparts2 fNextR fAtR
  simp only [forceS_eq, forceI_eq, forceN_eq]
  rw [replF_eq _ _ _ (by decide), findF_eq _ _ (by decide), find3F_eq _ _ _ (by decide), isDigF_eq]
noncomputable def mkForm (a z t s b : Str) : Str := appF (appF (appF (appF (appF a (c1 37)) z) t) s) b
noncomputable def zeros : List (Str × Bool) := [(c1 48, true), (⟨#[]⟩, false)]
noncomputable def wids : List (Str × Int) := [(⟨#[]⟩, 0), (c1 49, 1), (c1 50, 2), (c1 51, 3), (c1 52, 4), (c1 53, 5), (c1 54, 6), (c1 55, 7)]
noncomputable def aheads : List Str := [⟨#[]⟩, c1 60, ⟨#[97, 37, 37]⟩]
noncomputable def behinds : List Str := [⟨#[]⟩, c1 62, ⟨#[37, 37, 98]⟩]
noncomputable def un (x : Str) : Str := replF x (c2 37 37) (c1 37)
/-- the answer is that none is there -/
noncomputable def isNo (r : Option (Option FormR)) : Bool := match r with
  | some none => true
  | _ => false
theorem isNo_eq {r : Option (Option FormR)} (h : isNo r = true) : r = some none := by
  cases r with
  | none => cases h
  | some r => cases r with
    | none => rfl
    | some f => cases h
/-- the answer is these parts -/
noncomputable def isYes (r : Option (Option FormR)) (a : Str) (fl : Bool) (w : Int) (s b : Str) : Bool := match r with
  | some (some f) => decide (f.ahead = a) && decide (f.fills = fl) && decide (f.width = w) && decide (f.sort = s) && decide (f.behind = b)
  | _ => false
theorem isYes_eq {r : Option (Option FormR)} {a s b : Str} {fl : Bool} {w : Int} (h : isYes r a fl w s b = true) : r = some (some ⟨a, fl, w, s, b⟩) := by
  cases r with
  | none => cases h
  | some r => cases r with
    | none => cases h
    | some f =>
      cases f
      simp only [isYes, Bool.and_eq_true, decide_eq_true_eq] at h
      obtain ⟨⟨⟨⟨rfl, rfl⟩, rfl⟩, rfl⟩, rfl⟩ := h
      rfl
/-- what the law asks of one form: its parts; that the odd ones have none; its length -/
noncomputable def lawOne (a z t s b : Str) (fl : Bool) (w : Int) : Bool :=
  forceS (mkForm a z t s b) fun x => isYes (fpartsG x) (un a) fl w s (un b) && Nat.ble x.length 20 && isNo (fpartsG (appF x x)) && isNo (fpartsG (appF (c1 37) x)) && forceS (replF x s (c1 115)) fun y => isNo (fpartsG y) && Nat.ble y.length 20
noncomputable def lawPart (s z : Str) (fl : Bool) : Bool := wids.all fun t => aheads.all fun a => behinds.all fun b => lawOne a z t.1 s b fl t.2
theorem lawd0 : lawPart (c1 100) (c1 48) true = true := by decide +kernel
theorem lawd1 : lawPart (c1 100) ⟨#[]⟩ false = true := by decide +kernel
theorem lawx0 : lawPart (c1 120) (c1 48) true = true := by decide +kernel
theorem lawx1 : lawPart (c1 120) ⟨#[]⟩ false = true := by decide +kernel
theorem lawX0 : lawPart (c1 88) (c1 48) true = true := by decide +kernel
theorem lawX1 : lawPart (c1 88) ⟨#[]⟩ false = true := by decide +kernel
theorem lawo0 : lawPart (c1 111) (c1 48) true = true := by decide +kernel
theorem lawo1 : lawPart (c1 111) ⟨#[]⟩ false = true := by decide +kernel
noncomputable def rawSorts : List Str := [c1 100, c1 120, c1 88, c1 111]
theorem lawPart_all {s z : Str} {fl : Bool} (hs : s ∈ rawSorts) (hz : (z, fl) ∈ zeros) : lawPart s z fl = true := by
  simp only [rawSorts, zeros, List.mem_cons, List.not_mem_nil, or_false, Prod.mk.injEq] at hs hz
  rcases hz with ⟨rfl, rfl⟩ | ⟨rfl, rfl⟩
  · rcases hs with rfl | rfl | rfl | rfl
    · exact lawd0
    · exact lawx0
    · exact lawX0
    · exact lawo0
  · rcases hs with rfl | rfl | rfl | rfl
    · exact lawd1
    · exact lawx1
    · exact lawX1
    · exact lawo1
theorem lawForm {s z t a b : Str} {fl : Bool} {w : Int} (hs : s ∈ rawSorts) (hz : (z, fl) ∈ zeros) (ht : (t, w) ∈ wids) (ha : a ∈ aheads) (hb : b ∈ behinds) :
    fparts (mkForm a z t s b) = some (some ⟨un a, fl, w, s, un b⟩) ∧ (mkForm a z t s b).length ≤ 20 ∧ fparts (mkForm a z t s b ++ mkForm a z t s b) = some none ∧ fparts (c1 37 ++ mkForm a z t s b) = some none ∧ fparts (Txt.replace (mkForm a z t s b) s (c1 115)) = some none ∧ (Txt.replace (mkForm a z t s b) s (c1 115)).length ≤ 20 := by
  have h := lawPart_all hs hz
  unfold lawPart at h
  have h1 := List.all_eq_true.mp (List.all_eq_true.mp (List.all_eq_true.mp h (t, w) ht) a ha) b hb
  unfold lawOne at h1
  rw [forceS_eq, forceS_eq] at h1
  simp only [Bool.and_eq_true, Nat.ble_eq] at h1
  obtain ⟨⟨⟨⟨g1, g2⟩, g3⟩, g4⟩, g5, g6⟩ := h1
  have hl : 1 ≤ s.length := by
    simp only [rawSorts, List.mem_cons, List.not_mem_nil, or_false] at hs
    rcases hs with rfl | rfl | rfl | rfl <;> decide
  refine ⟨by rw [fpartsG_eq]; exact isYes_eq g1, g2, by rw [fpartsG_eq, appF_eq]; exact isNo_eq g3, by rw [fpartsG_eq, appF_eq]; exact isNo_eq g4, by rw [fpartsG_eq, replF_eq _ _ _ hl]; exact isNo_eq g5, by rw [replF_eq _ _ _ hl]; exact g6⟩
theorem lawPair : (aheads.all fun a => behinds.all fun b => isNo (fpartsG (appF a b))) = true := by decide +kernel
theorem lawLone : (aheads.all fun a => isNo (fpartsG (appF a (c1 37)))) = true := by decide +kernel
theorem lawNone : fparts ⟨#[]⟩ = some none := by rw [fpartsG_eq]; exact isNo_eq (by decide +kernel)
theorem pairNone {a b : Str} (ha : a ∈ aheads) (hb : b ∈ behinds) : fparts (a ++ b) = some none := by
  rw [fpartsG_eq, appF_eq]
  exact isNo_eq (List.all_eq_true.mp (List.all_eq_true.mp lawPair a ha) b hb)
theorem loneNone {a : Str} (ha : a ∈ aheads) : fparts (a ++ c1 37) = some none := by
  rw [fpartsG_eq, appF_eq]
  exact isNo_eq (List.all_eq_true.mp lawLone a ha)
end Mine
end
section
open PySem PySem.W PyProof.Rows PySem.Calls PySem.SeqAt
namespace Mine
theorem sortOf {i : Int} (h0 : 0 ≤ i) (h1 : i < 4) : ∃ bs up, SortIs (Txt.item (Str.ofString "dxXo") i) bs up := by
  have h : i = 0 ∨ i = 1 ∨ i = 2 ∨ i = 3 := by omega
  rcases h with rfl | rfl | rfl | rfl
  · exact ⟨10, false, .inl ⟨by decide +kernel, rfl, rfl⟩⟩
  · exact ⟨16, false, .inr (.inl ⟨by decide +kernel, rfl, rfl⟩)⟩
  · exact ⟨16, true, .inr (.inr (.inl ⟨by decide +kernel, rfl, rfl⟩))⟩
  · exact ⟨8, false, .inr (.inr (.inr ⟨by decide +kernel, rfl, rfl⟩))⟩
section
variable {prog : Program} {w : World} {A : Around} {E : Value → Shared → Prop} {s : Shared} {value slice : PySem.Expr} {t u : Tok} {i : Int} {Q : Value → Shared → Prop}
theorem sortItem (h0 : 0 ≤ i) (h1 : i < 4) (h : ∀ x bs up, SortIs x bs up → x.length = 1 → Q (.str x s.toks) { s with toks := s.toks + 1 })
    (hs : subscripted slice false (.str (Str.ofString "dxXo") t) (.int i u) = operate [.str (Str.ofString "dxXo") t, .int i u] (getItem (.str (Str.ofString "dxXo") t) (.int i u)) := by with_unfolding_all rfl)
    (ht : ∀ r, letTemporaryGo value (.str (Str.ofString "dxXo") t) r = pure () := by intro _; with_unfolding_all rfl) :
    wpAny (model prog w) A (subscriptTail value slice (.str (Str.ofString "dxXo") t) (.int i u)) Q E s := by
  obtain ⟨bs, up, hS⟩ := sortOf h0 h1
  exact KXi.item (n := 4) (by decide +kernel) (by omega) (by omega) (by decide) (fun hl => h _ bs up hS hl) hs ht
/-- the text `x` is one of the list's -/
theorem menuItem {l : Addr} {vs : List Value} {xs : List Str} (hl : s.heap.IsList l vs.toArray) (hx : ∀ k : Nat, k < xs.length → ∃ x t, vs[k]? = some (.str x t) ∧ x ∈ xs) (h0 : 0 ≤ i) (h1 : i < (xs.length : Int)) (hn : xs.length ≤ 100)
    (h : ∀ x t, x ∈ xs → Q (.str x t) s)
    (hs : subscripted slice false (.ref l) (.int i u) = operate [.ref l, .int i u] (getItem (.ref l) (.int i u)) := by with_unfolding_all rfl) :
    wpAny (model prog w) A (subscriptTail value slice (.ref l) (.int i u)) Q E s := by
  obtain ⟨x, t, e, hm⟩ := hx i.toNat (by omega)
  exact tail_any hl.typeIs slot_list_getitem.lookup (wpAny_getItem_list hl h0 (by omega) (by simpa using e) (h x t hm)) hs
end
theorem menu3 {x y z : Str} {t1 t2 t3 : Tok} : ∀ k : Nat, k < [x, y, z].length → ∃ a t, [Value.str x t1, .str y t2, .str z t3][k]? = some (.str a t) ∧ a ∈ [x, y, z]
  | 0, _ => ⟨x, t1, rfl, by simp⟩
  | 1, _ => ⟨y, t2, rfl, by simp⟩
  | 2, _ => ⟨z, t3, rfl, by simp⟩
  | k + 3, h => by simp at h; omega
theorem menu6 {x1 x2 x3 x4 x5 x6 : Str} {t1 t2 t3 t4 t5 t6 : Tok} : ∀ k : Nat, k < [x1, x2, x3, x4, x5, x6].length → ∃ a t, [Value.str x1 t1, .str x2 t2, .str x3 t3, .str x4 t4, .str x5 t5, .str x6 t6][k]? = some (.str a t) ∧ a ∈ [x1, x2, x3, x4, x5, x6]
  | 0, _ => ⟨x1, t1, rfl, by simp⟩
  | 1, _ => ⟨x2, t2, rfl, by simp⟩
  | 2, _ => ⟨x3, t3, rfl, by simp⟩
  | 3, _ => ⟨x4, t4, rfl, by simp⟩
  | 4, _ => ⟨x5, t5, rfl, by simp⟩
  | 5, _ => ⟨x6, t6, rfl, by simp⟩
  | k + 6, h => by simp at h; omega
theorem SortIs.mem {s : Str} {bs : Int} {up : Bool} (h : SortIs s bs up) : s ∈ rawSorts := by
  unfold rawSorts
  rcases h with ⟨rfl, _⟩ | ⟨rfl, _⟩ | ⟨rfl, _⟩ | ⟨rfl, _⟩
  · rw [e_d]; simp
  · rw [e_x]; simp
  · rw [e_X]; simp
  · rw [e_o]; simp
section
variable {prog : Program} {w : World} {A : Around} {E : Value → Shared → Prop} {s : Shared} {value slice : PySem.Expr} {u : Tok} {i : Int} {Q : Value → Shared → Prop} {l : Addr}
theorem menuItem3 {x y z : Str} {t1 t2 t3 : Tok} (hl : s.heap.IsList l [Value.str x t1, .str y t2, .str z t3].toArray) (h0 : 0 ≤ i) (h1 : i < 3) (h : ∀ a t, a ∈ [x, y, z] → Q (.str a t) s)
    (hs : subscripted slice false (.ref l) (.int i u) = operate [.ref l, .int i u] (getItem (.ref l) (.int i u)) := by with_unfolding_all rfl) :
    wpAny (model prog w) A (subscriptTail value slice (.ref l) (.int i u)) Q E s := menuItem (xs := [x, y, z]) hl menu3 h0 h1 (by simp) h hs
theorem menuItem6 {x1 x2 x3 x4 x5 x6 : Str} {t1 t2 t3 t4 t5 t6 : Tok} (hl : s.heap.IsList l [Value.str x1 t1, .str x2 t2, .str x3 t3, .str x4 t4, .str x5 t5, .str x6 t6].toArray) (h0 : 0 ≤ i) (h1 : i < 6) (h : ∀ a t, a ∈ [x1, x2, x3, x4, x5, x6] → Q (.str a t) s)
    (hs : subscripted slice false (.ref l) (.int i u) = operate [.ref l, .int i u] (getItem (.ref l) (.int i u)) := by with_unfolding_all rfl) :
    wpAny (model prog w) A (subscriptTail value slice (.ref l) (.int i u)) Q E s := menuItem (xs := [x1, x2, x3, x4, x5, x6]) hl menu6 h0 h1 (by simp) h hs
end
theorem menuLen {x y z a : Str} (h : a ∈ [x, y, z]) (hx : x.length ≤ 5 := by decide +kernel) (hy : y.length ≤ 5 := by decide +kernel) (hz : z.length ≤ 5 := by decide +kernel) : a.length ≤ 5 := by
  simp only [List.mem_cons, List.not_mem_nil, or_false] at h
  rcases h with rfl | rfl | rfl <;> assumption
end Mine
end
section
open PySem PySem.W PyProof.Rows PySem.Calls PySem.SeqAt
namespace Mine
noncomputable def unF (x : Str) : Str := Txt.replace x (Str.ofString "%%") (Str.ofString "%")
/-- what is known of the form that the law has built -/
structure FormFacts (a b so form : Str) (fl : Bool) (wd : Int) : Prop where
  parts : fparts form = some (some ⟨unF a, fl, wd, so, unF b⟩)
  len : form.length ≤ 20
  twice : fparts (form ++ form) = some none
  ahead : fparts (Str.ofString "%" ++ form) = some none
  other : fparts (Txt.replace form so (Str.ofString "s")) = some none
  otherLen : (Txt.replace form so (Str.ofString "s")).length ≤ 20
  pair : fparts (a ++ b) = some none
  lone : fparts (a ++ Str.ofString "%") = some none
  none : fparts (Str.ofString "") = some none
  aLen : a.length ≤ 5
  bLen : b.length ≤ 5
  uaLen : (unF a).length ≤ 5
  ubLen : (unF b).length ≤ 5
  soLen : so.length = 1
  soNe : (so == Str.ofString "s") = false
theorem e_s : Str.ofString "s" = c1 115 := by decide +kernel
theorem e_n : Str.ofString "" = ⟨#[]⟩ := by decide +kernel
theorem aheadRaw {a : Str} (h : a ∈ [Str.ofString "", Str.ofString "<", Str.ofString "a%%"]) : a ∈ aheads := by
  have e : [Str.ofString "", Str.ofString "<", Str.ofString "a%%"] = aheads := by decide +kernel
  rw [← e]; exact h
theorem behindRaw {a : Str} (h : a ∈ [Str.ofString "", Str.ofString ">", Str.ofString "%%b"]) : a ∈ behinds := by
  have e : [Str.ofString "", Str.ofString ">", Str.ofString "%%b"] = behinds := by decide +kernel
  rw [← e]; exact h
theorem unLens : (aheads.all fun a => Nat.ble a.length 5 && Nat.ble (un a).length 5) = true ∧ (behinds.all fun a => Nat.ble a.length 5 && Nat.ble (un a).length 5) = true := by decide +kernel
theorem un_eq (x : Str) : unF x = un x := by unfold unF un; rw [e_pp, e_p, replF_eq _ _ _ (by decide)]
theorem wd7 {v : Int} (h0 : 0 < v) (h1 : v < 8) : v = 1 ∨ v = 2 ∨ v = 3 ∨ v = 4 ∨ v = 5 ∨ v = 6 ∨ v = 7 := by
  obtain ⟨n, rfl⟩ := Int.eq_ofNat_of_zero_le (Int.le_of_lt h0)
  exact (by decide : ∀ n : Nat, n < 8 → 0 < (n : Int) → (n : Int) = 1 ∨ (n : Int) = 2 ∨ (n : Int) = 3 ∨ (n : Int) = 4 ∨ (n : Int) = 5 ∨ (n : Int) = 6 ∨ (n : Int) = 7) n (Int.ofNat_lt.mp h1) h0
theorem formFacts {a b so z t : Str} {bs : Int} {up fl : Bool} {wd : Int} (ha : a ∈ [Str.ofString "", Str.ofString "<", Str.ofString "a%%"]) (hb : b ∈ [Str.ofString "", Str.ofString ">", Str.ofString "%%b"]) (hs : SortIs so bs up)
    (hz : (z = Str.ofString "0" ∧ fl = true) ∨ (z = Str.ofString "" ∧ fl = false)) (ht : (0 < wd ∧ wd < 8 ∧ t = Str.ofString (toString wd)) ∨ (wd = 0 ∧ t = Str.ofString "")) :
    FormFacts a b so (((((a ++ Str.ofString "%") ++ z) ++ t) ++ so) ++ b) fl wd := by
  have ha' := aheadRaw ha
  have hb' := behindRaw hb
  have hz' : (z, fl) ∈ zeros := by
    rcases hz with ⟨rfl, rfl⟩ | ⟨rfl, rfl⟩
    · rw [e_0]; exact .head _
    · rw [e_n]; exact .tail _ (.head _)
  have ht' : (t, wd) ∈ wids := by
    have w1 : Str.ofString (toString (1 : Int)) = c1 49 := by decide +kernel
    have w2 : Str.ofString (toString (2 : Int)) = c1 50 := by decide +kernel
    have w3 : Str.ofString (toString (3 : Int)) = c1 51 := by decide +kernel
    have w4 : Str.ofString (toString (4 : Int)) = c1 52 := by decide +kernel
    have w5 : Str.ofString (toString (5 : Int)) = c1 53 := by decide +kernel
    have w6 : Str.ofString (toString (6 : Int)) = c1 54 := by decide +kernel
    have w7 : Str.ofString (toString (7 : Int)) = c1 55 := by decide +kernel
    rcases ht with ⟨h0, h1, rfl⟩ | ⟨rfl, rfl⟩
    · have h := wd7 h0 h1
      rcases h with rfl | rfl | rfl | rfl | rfl | rfl | rfl
      · rw [w1]; simp [wids]
      · rw [w2]; simp [wids]
      · rw [w3]; simp [wids]
      · rw [w4]; simp [wids]
      · rw [w5]; simp [wids]
      · rw [w6]; simp [wids]
      · rw [w7]; simp [wids]
    · rw [e_n]; exact .head _
  have hf : (((((a ++ Str.ofString "%") ++ z) ++ t) ++ so) ++ b) = mkForm a z t so b := by
    unfold mkForm; rw [e_p]; simp only [appF_eq]
  obtain ⟨g1, g2, g3, g4, g5, g6⟩ := lawForm hs.mem hz' ht' ha' hb'
  have hu := unLens
  have hua := List.all_eq_true.mp hu.1 a ha'
  have hub := List.all_eq_true.mp hu.2 b hb'
  simp only [Bool.and_eq_true, Nat.ble_eq] at hua hub
  rw [hf]
  have hso : so.length = 1 ∧ (so == Str.ofString "s") = false := by
    rcases hs with ⟨rfl, _⟩ | ⟨rfl, _⟩ | ⟨rfl, _⟩ | ⟨rfl, _⟩ <;> decide +kernel
  exact { parts := by rw [un_eq, un_eq]; exact g1, len := g2, twice := g3, ahead := by rw [e_p]; exact g4, other := by rw [e_s]; exact g5, otherLen := by rw [e_s]; exact g6, pair := pairNone ha' hb', lone := by rw [e_p]; exact loneNone ha', none := by rw [e_n]; exact lawNone,
          aLen := hua.1, bLen := hub.1, uaLen := by rw [un_eq]; exact hua.2, ubLen := by rw [un_eq]; exact hub.2, soLen := hso.1, soNe := hso.2 }
theorem oddNone {a b so form o : Str} {fl : Bool} {wd : Int} (H : FormFacts a b so form fl wd) (h : o ∈ [a ++ b, form ++ form, Txt.replace form so (Str.ofString "s"), a ++ Str.ofString "%", Str.ofString "", Str.ofString "%" ++ form]) : fparts o = some none ∧ o.length ≤ 60 := by
  have l1 : (Str.ofString "%").length = 1 := by decide +kernel
  have := H.len
  have := H.aLen
  have := H.bLen
  have := H.otherLen
  simp only [List.mem_cons, List.not_mem_nil, or_false] at h
  rcases h with rfl | rfl | rfl | rfl | rfl | rfl
  · exact ⟨H.pair, by rw [Str.length_append]; omega⟩
  · exact ⟨H.twice, by rw [Str.length_append]; omega⟩
  · exact ⟨H.other, by omega⟩
  · exact ⟨H.lone, by rw [Str.length_append]; omega⟩
  · exact ⟨H.none, by decide +kernel⟩
  · exact ⟨H.ahead, by rw [Str.length_append]; omega⟩
theorem mulLen {c : String} (hc : (Str.ofString c).length = 1) {n : Int} {N : Nat} (hn : n ≤ (N : Int)) : (Txt.mul (Str.ofString c) n).length ≤ N := by
  have h := len_mul_k1 (x := Str.ofString c) (n := n) hc
  split at h <;> omega
theorem padLen {fills : Bool} {width : Int} {s g : Str} (hw : width ≤ 7) (hs : s.length ≤ 1) (hg : g.length ≤ 54) : (padW fills width s g).length ≤ 70 := by
  unfold padW
  have h1 := mulLen (c := "0") (by decide +kernel) (n := width - ((s.length + g.length : Nat) : Int)) (N := 7) (by omega)
  have h2 := mulLen (c := " ") (by decide +kernel) (n := width - ((s.length + g.length : Nat) : Int)) (N := 7) (by omega)
  split
  · rw [Str.length_append]; omega
  · split
    · rw [Str.length_append, Str.length_append]; omega
    · rw [Str.length_append, Str.length_append]; omega
theorem toldLen {up : Bool} {bs n : Int} (h0 : 2 ≤ bs) (h1 : bs ≤ 16) : (toldF up bs n).length ≤ 54 := by
  unfold toldF
  have h3 := digLen (b := bs.toNat) (by omega) (by omega) 18 (absI n).toNat
  have h4 := len_upper (digF bs.toNat 18 (absI n).toNat)
  split <;> omega
noncomputable def WrPost (fills : Bool) (width number bs : Int) (up : Bool) (news nx : List (Addr × Obj)) (r : Value) : Prop := ∃ x t, r = .str x t ∧ x = padW fills width (signF number) (toldF up bs number) ∧ nx = news ∧ x.length ≤ 70
theorem lwS2 (w : World) (sort : Str) (bs : Int) (up : Bool) (hs : SortIs sort bs up) (fills : Bool) (width number : Int) (ts tw tn : Tok) (news : List (Addr × Obj)) (h0 : -9000 ≤ number) (h1 : number ≤ 61000) (hw0 : 0 ≤ width) (hw1 : width ≤ 7) :
    CtrP w 168 [.str sort ts, .bool fills, .int width tw, .int number tn] 4 40 news (WrPost fills width number bs up news) :=
  (lwS w sort bs up hs fills width number ts tw tn news h0 h1 hw0 hw1).weak (fun _ h => h) (fun nx r h => by
    obtain ⟨t, h1, h2⟩ := h
    exact ⟨nx, fun p hp => hp, _, t, h1, rfl, h2, padLen hw1 (signLen _) (toldLen hs.base.1 hs.base.2)⟩)
theorem fmS2 (w : World) {a b sort form : Str} {fills : Bool} {width : Int} (H : FormFacts a b sort form fills width) (bs : Int) (up : Bool) (hs : SortIs sort bs up) (tf : Tok) (number : Int) (tn : Tok) (news : List (Addr × Obj)) (h0 : -9000 ≤ number) (h1 : number ≤ 61000) (hw0 : 0 ≤ width) (hw1 : width ≤ 7)
    (x : Str) (hx : x = padW fills width (signF number) (toldF up bs number)) :
    CtrP w 133 [.str form tf, .int number tn] 4 40 news (fun nx r => ∃ t, r = .str (Txt.replace a (Str.ofString "%%") (Str.ofString "%") ++ x ++ Txt.replace b (Str.ofString "%%") (Str.ofString "%")) t ∧ nx = news) := by
  subst hx
  exact fmS w sort bs up hs form tf (unF a) (unF b) fills width number tn news (by have := H.len; omega) H.parts (by have := H.uaLen; omega) (by have := H.ubLen; omega) h0 h1 hw0 hw1
section
variable {prog : Program} {w : World} {A : Around} {E : Value → Shared → Prop} {s : Shared} {t u : Tok} {Q : Value → Shared → Prop}
theorem neStrSame {x : Str} (h : Q (.bool false) s) : wpAny (model prog w) A (compareOp .NotEq (.str x t) (.str x u)) Q E s := ne_str (by simpa using h)
end
end Mine
end
section
open PySem PySem.W PyProof.Rows PySem.Calls PySem.SeqAt
namespace Mine
noncomputable def Halt (p : Prop) : Prop := p
theorem Halt.mk {p : Prop} (h : Halt p) : p := h
end Mine
end
section
open PySem PySem.W PyProof.Rows PySem.Calls PySem.SeqAt
namespace Mine

noncomputable def J2 (d c : Addr) (nd nc : Nat) (vs : List Value) (bnd : Int) (m : Str → Option Value) (nx : List (Addr × Obj)) : Prop :=
  ∃ k tk, nx = [(d, deckO c k tk nd), (c, listOf vs.toArray nc)] ∧ m (Str.ofString "deck") = some (.ref d) ∧ 0 ≤ k ∧ k ≤ bnd
noncomputable def loop2b : List Stmt := loop2.drop 4
set_option maxHeartbeats 16000000 in
theorem turn2b (w : World) (mean : ExcName → Option Value) (mg mb : Str → Option Value) (dp un : Nat) (gd : Option (List Code)) (a : Addr) (ccd : Value) (cl : List (Str × Addr)) (outer : List Env) (A₀ : Around) (base h₀ : Heap) (L : Addr) (s : Shared) (E : Value → Shared → Prop) (Q : Flow → Shared → Prop)
    (I : Addr) (oI : Obj) (d c : Addr) (k : Int) (tk : Tok) (nd nc : Nat) (vs : List Value) (sc : List Int) (u : Str → Option Value)
    (hId : @Ne Nat I d) (hcd : @Ne Nat c d) (hcI : @Ne Nat c I)
    (bnd : Int) (hk0 : 0 ≤ k) (hk2 : k ≤ bnd) (hk1 : bnd ≤ 1000) (hi : IntsAre vs sc) (hn : sc.length ≤ 63)
    (ah be so form : Str) (fl : Bool) (wd num bs : Int) (up : Bool) (tf ta tb tw tn : Tok) (ts : Nat) (FF : FormFacts ah be so form fl wd) (hS : SortIs so bs up) (hn0 : -9000 ≤ num) (hn1 : num ≤ 61000) (hw0 : 0 ≤ wd) (hw1 : wd ≤ 7) (hts : 1 ≤ ts) (hpos : ts + 1 ≤ s.toks)
    (B : Below A₀ base outer h₀) (F : Fr h₀ L s.heap (fun y => if y = Str.ofString "form" then some (.str form tf) else if y = Str.ofString "ahead" then some (.str ah ta) else if y = Str.ofString "behind" then some (.str be tb) else if y = Str.ofString "width" then some (.int wd tw) else if y = Str.ofString "number" then some (.int num tn) else if y = Str.ofString "sort" then some (.str so ts) else if y = Str.ofString "fills" then some (.bool fl) else if y = Str.ofString "deck" then some (.ref d) else u y))
    (X : (hd.heap_39 w.params).In h₀) (N : News h₀ L s.heap [(I, oI), (d, deckO c k tk nd), (c, listOf vs.toArray nc)]) (T : Top hd.view_39 (looseW hd.view_39 []) mean mg mb h₀) (hdp : dp + 10 < recursionLimit) (hun : un + 100 < cLine)
    (hret : ∀ m' nx h' tk', J2 d c nd nc vs (bnd + 1) m' nx → (∀ p ∈ nx, p.1 ≠ I) → Fr h₀ L h' m' → News h₀ L h' ((I, oI) :: nx) → Q .next { s with heap := h', toks := tk' }) :
    wpAny (model PySem.Challenge.rw_np0014_01.row.prog w) (ktrTop dp un gd (Str.ofString "law") lawScope L a ccd cl outer) (execs loop2b (envX (Str.ofString "law") lawScope L a ccd cl)) Q E s := by
  have hA9 : (Txt.replace ah (Str.ofString "%%") (Str.ofString "%")).length ≤ 5 := FF.uaLen
  have hB9 : (Txt.replace be (Str.ofString "%%") (Str.ofString "%")).length ≤ 5 := FF.ubLen
  have hO9' := FF.otherLen
  have hF9 := FF.len
  have ha9 := FF.aLen
  have hb9 := FF.bLen
  have hso9 := FF.soLen
  have h999 : k ≤ 1000 := Int.le_trans hk2 hk1
  revert X
  k_fill
  intro X
  dsimp only [loop2b, loop2, List.drop, lawScope, scopeOf, bodyOf, lawStmt, PySem.Challenge.pw_np0014_01, List.getLast?, List.getLast, Option.getD, List.getElem?_cons_succ, List.getElem?_cons_zero, deckO] at N ⊢
  w_top off
  repeat' (first
    | (k_unfold; (try dsimp only))
    | (k_here; (with_reducible show wpAny _ _ (eval (PySem.Expr.Call _ _ _ _) _) _ _ _); refine' eval_genM ?_; intro K9 hK9; walk1)
    | (k_here; (with_reducible show wpAny _ _ (eval (PySem.Expr.Subscript _ _ _) _) _ _ _); refine' eval_genM ?_; intro K9 hK9; walk1)
    | (k_here; (with_reducible show wpAny _ _ (eval (PySem.Expr.BinOp _ _ _ _) _) _ _ _); refine' eval_genM ?_; intro K9 hK9; walk1)
    | (k_here; (with_reducible show wpAny _ _ (eval (PySem.Expr.Compare _ _ _ _) _) _ _ _); refine' eval_genM ?_; intro K9 hK9; walk1)
    | (k_here; (with_reducible show wpAny _ _ (PySem.call (Value.builtin "str.replace") [Value.str _ _, Value.str _ _, Value.str _ _]) _ _ _); k_dflt (refine' SC.replaceW ?hh9a ?hh9b ?hh9c ?hh9f ?hh9d ?hh9e ?_; (case hh9a => (first | with_reducible assumption | exact Ne.symm (by with_reducible assumption) | k_ne)); (case hh9b => (first | with_reducible assumption | exact Ne.symm (by with_reducible assumption) | k_ne)); (case hh9c => (first | with_reducible assumption | exact Ne.symm (by with_reducible assumption) | k_ne)); (case hh9f => first | exact FF.soNe | decide +kernel); (case hh9d => omega); (case hh9e => decide +kernel)); intro t9 tk9)
    | (k_here; (with_reducible show wpAny _ _ (compareOp CmpOp.NotEq (Value.str _ _) (Value.str _ _)) _ _ _); refine' neStrSame ?_)
    | (k_here; (with_reducible show wpAny _ _ (subscriptTail _ _ (Value.ref _) (Value.int _ _)) _ _ _); k_dflt (refine' menuItem6 ?hh9hl ?hh9lb ?hh9ub ?_ ?hh9hs; (case hh9hl => kmk_list); (case hh9lb => assumption); (case hh9ub => assumption); (case hh9hs => with_unfolding_all rfl)); intro od9 to9 hO9; (have hod9 := oddNone FF hO9); clear hO9; (try dsimp only))
    | (k_here; (with_reducible show wpAny _ _ (PySem.call (Value.ref 119) _ _) _ _ _); k_dflt ((refine' CtrP.useM (fpN w od9 _ _ hod9.2 hod9.1) ?hh9hp ?hh9B ?hh9F ?hh9X ?hh9N ?hh9T ?hh9hk ?hh9hd ?hh9hu ?_); (case hh9hp => ((try dsimp only); first | assumption | omega)); (case hh9B => k_asm); (case hh9F => k_asm); (case hh9X => k_asm); (case hh9N => k_asm); (case hh9T => k_asm); (case hh9hk => first | exact rfl | assumption); (case hh9hd => (first | exact roomA (by with_reducible assumption) (by decide) | exact roomAB (by with_reducible assumption) (by decide) | exact roomABC (by with_reducible assumption) (by decide) | exact room0 (by with_reducible assumption) (by rfl) | exact roomN 1 (by with_reducible assumption) (by rfl) (by decide) | exact roomN 2 (by with_reducible assumption) (by rfl) (by decide) | exact roomN 3 (by with_reducible assumption) (by rfl) (by decide) | ktr_room)); (case hh9hu => (first | exact roomA (by with_reducible assumption) (by decide) | exact roomAB (by with_reducible assumption) (by decide) | exact roomABC (by with_reducible assumption) (by decide) | exact room0 (by with_reducible assumption) (by rfl) | exact roomN 3 (by with_reducible assumption) (by rfl) (by decide) | exact roomN 6 (by with_reducible assumption) (by rfl) (by decide) | ktr_units))); intro r9 nx9 h' tk9 hp9 F' N' hP9; (try dsimp only at hp9); obtain ⟨e9, e9'⟩ := hP9; subst e9; cases e9'; (try dsimp only); (try k_fold))
    | (k_here; (with_reducible show wpAny _ _ (PySem.call (Value.ref 112) _ _) _ _ _); k_dflt ((refine' CtrP.useM (isN w od9 _ _ hod9.2 hod9.1) ?hh9hp ?hh9B ?hh9F ?hh9X ?hh9N ?hh9T ?hh9hk ?hh9hd ?hh9hu ?_); (case hh9hp => ((try dsimp only); first | assumption | omega)); (case hh9B => k_asm); (case hh9F => k_asm); (case hh9X => k_asm); (case hh9N => k_asm); (case hh9T => k_asm); (case hh9hk => first | exact rfl | assumption); (case hh9hd => (first | exact roomA (by with_reducible assumption) (by decide) | exact roomAB (by with_reducible assumption) (by decide) | exact roomABC (by with_reducible assumption) (by decide) | exact room0 (by with_reducible assumption) (by rfl) | exact roomN 1 (by with_reducible assumption) (by rfl) (by decide) | exact roomN 2 (by with_reducible assumption) (by rfl) (by decide) | exact roomN 3 (by with_reducible assumption) (by rfl) (by decide) | ktr_room)); (case hh9hu => (first | exact roomA (by with_reducible assumption) (by decide) | exact roomAB (by with_reducible assumption) (by decide) | exact roomABC (by with_reducible assumption) (by decide) | exact room0 (by with_reducible assumption) (by rfl) | exact roomN 3 (by with_reducible assumption) (by rfl) (by decide) | exact roomN 6 (by with_reducible assumption) (by rfl) (by decide) | ktr_units))); intro r9 nx9 h' tk9 hp9 F' N' hP9; (try dsimp only at hp9); obtain ⟨e9, e9'⟩ := hP9; subst e9; cases e9'; (try dsimp only); (try k_fold))
    | (k_here; (with_reducible show wpAny _ _ (PySem.call (Value.ref 112) _ _) _ _ _); k_dflt ((refine' CtrP.useM (isS w form _ _ (Nat.le_trans FF.len (by decide)) _ FF.parts) ?hh9hp ?hh9B ?hh9F ?hh9X ?hh9N ?hh9T ?hh9hk ?hh9hd ?hh9hu ?_); (case hh9hp => ((try dsimp only); first | assumption | omega)); (case hh9B => k_asm); (case hh9F => k_asm); (case hh9X => k_asm); (case hh9N => k_asm); (case hh9T => k_asm); (case hh9hk => first | exact rfl | assumption); (case hh9hd => (first | exact roomA (by with_reducible assumption) (by decide) | exact roomAB (by with_reducible assumption) (by decide) | exact roomABC (by with_reducible assumption) (by decide) | exact room0 (by with_reducible assumption) (by rfl) | exact roomN 1 (by with_reducible assumption) (by rfl) (by decide) | exact roomN 2 (by with_reducible assumption) (by rfl) (by decide) | exact roomN 3 (by with_reducible assumption) (by rfl) (by decide) | ktr_room)); (case hh9hu => (first | exact roomA (by with_reducible assumption) (by decide) | exact roomAB (by with_reducible assumption) (by decide) | exact roomABC (by with_reducible assumption) (by decide) | exact room0 (by with_reducible assumption) (by rfl) | exact roomN 3 (by with_reducible assumption) (by rfl) (by decide) | exact roomN 6 (by with_reducible assumption) (by rfl) (by decide) | ktr_units))); intro r9 nx9 h' tk9 hp9 F' N' hP9; (try dsimp only at hp9); obtain ⟨e9, e9'⟩ := hP9; subst e9; cases e9'; (try dsimp only); (try k_fold))
    | (k_here; (with_reducible show wpAny _ _ (PySem.call (Value.ref 133) _ _) _ _ _); k_dflt ((refine' CtrP.useM (fmS2 w FF bs up hS _ _ _ _ hn0 hn1 hw0 hw1 x9 hx9) ?hh9hp ?hh9B ?hh9F ?hh9X ?hh9N ?hh9T ?hh9hk ?hh9hd ?hh9hu ?_); (case hh9hp => ((try dsimp only); first | assumption | omega)); (case hh9B => k_asm); (case hh9F => k_asm); (case hh9X => k_asm); (case hh9N => k_asm); (case hh9T => k_asm); (case hh9hk => first | exact rfl | assumption); (case hh9hd => (first | exact roomA (by with_reducible assumption) (by decide) | exact roomAB (by with_reducible assumption) (by decide) | exact roomABC (by with_reducible assumption) (by decide) | exact room0 (by with_reducible assumption) (by rfl) | exact roomN 1 (by with_reducible assumption) (by rfl) (by decide) | exact roomN 2 (by with_reducible assumption) (by rfl) (by decide) | exact roomN 3 (by with_reducible assumption) (by rfl) (by decide) | ktr_room)); (case hh9hu => (first | exact roomA (by with_reducible assumption) (by decide) | exact roomAB (by with_reducible assumption) (by decide) | exact roomABC (by with_reducible assumption) (by decide) | exact room0 (by with_reducible assumption) (by rfl) | exact roomN 3 (by with_reducible assumption) (by rfl) (by decide) | exact roomN 6 (by with_reducible assumption) (by rfl) (by decide) | ktr_units))); intro r9 nx9 h' tk9 hp9 F' N' hP9; (try dsimp only at hp9); obtain ⟨t9, e9, e9'⟩ := hP9; subst e9; cases e9'; (try dsimp only); (try k_fold))
    | (k_here; (with_reducible show wpAny _ _ (PySem.call (Value.ref 168) _ _) _ _ _); k_dflt ((refine' CtrP.useM (lwS2 w so bs up hS _ _ _ _ _ _ _ hn0 hn1 hw0 hw1) ?hh9hp ?hh9B ?hh9F ?hh9X ?hh9N ?hh9T ?hh9hk ?hh9hd ?hh9hu ?_); (case hh9hp => ((try dsimp only); first | assumption | omega)); (case hh9B => k_asm); (case hh9F => k_asm); (case hh9X => k_asm); (case hh9N => k_asm); (case hh9T => k_asm); (case hh9hk => first | exact rfl | assumption); (case hh9hd => (first | exact roomA (by with_reducible assumption) (by decide) | exact roomAB (by with_reducible assumption) (by decide) | exact roomABC (by with_reducible assumption) (by decide) | exact room0 (by with_reducible assumption) (by rfl) | exact roomN 1 (by with_reducible assumption) (by rfl) (by decide) | exact roomN 2 (by with_reducible assumption) (by rfl) (by decide) | exact roomN 3 (by with_reducible assumption) (by rfl) (by decide) | ktr_room)); (case hh9hu => (first | exact roomA (by with_reducible assumption) (by decide) | exact roomAB (by with_reducible assumption) (by decide) | exact roomABC (by with_reducible assumption) (by decide) | exact room0 (by with_reducible assumption) (by rfl) | exact roomN 3 (by with_reducible assumption) (by rfl) (by decide) | exact roomN 6 (by with_reducible assumption) (by rfl) (by decide) | ktr_units))); intro r9 nx9 h' tk9 hp9 F' N' hP9; (try dsimp only at hp9); unfold WrPost at hP9; obtain ⟨x9, t9, e9, hx9, e9', hl9⟩ := hP9; subst e9; cases e9'; (try dsimp only); (try k_fold))
    | (k_here; (with_reducible show wpAny _ _ (eval (PySem.Expr.Compare _ _ _ _) _) _ _ _); (fail_if_success (with_reducible show wpAny _ _ _ (PosM _ _) _ _)); refine' wpAny_posM ?_; (try dsimp only))
    | (k_here; (with_reducible show wpAny _ _ (eval (PySem.Expr.BinOp _ _ _ _) _) _ _ _); (fail_if_success (with_reducible show wpAny _ _ _ (PosM _ _) _ _)); refine' wpAny_posM ?_; (try dsimp only))
    | (k_here; (with_reducible show wpAny _ _ (eval (PySem.Expr.Call (PySem.Expr.Attribute _ _ _) _ _ _) _) _ _ _); (fail_if_success (with_reducible show wpAny _ _ _ (PosM _ _) _ _)); refine' wpAny_posM ?_; (try dsimp only))
    | (k_here; (with_reducible show wpAny _ _ (PySem.call (Value.ref 140) _ _) _ _ _); k_dflt ((refine' Ctr.useM (draw _ _ _ _ _ _ _ _ _ _ _ _ _ ?hh9hU ?hh9hc ?hh9hcd ?hh9hi ?hh9hn ?hh9hk0 ?hh9hk1 ?hh9hm0 ?hh9hm1) ?hh9B ?hh9F ?hh9X ?hh9N ?hh9T ?hh9hk ?hh9hd ?hh9hu ?_); (case hh9B => k_asm); (case hh9F => k_asm); (case hh9X => k_asm); (case hh9N => k_asm); (case hh9hU => (intro D9; k_upd)); (case hh9hc => k_mem); (case hh9hcd => (first | with_reducible assumption | exact Ne.symm (by with_reducible assumption) | k_ne)); (case hh9hi => assumption); (case hh9hn => (first | assumption | omega)); (case hh9hk0 => (first | ((repeat' (first | with_reducible assumption | refine Int.add_nonneg ?_ (by decide))); done) | omega)); (case hh9hk1 => (first | (refine Int.le_trans (by (repeat' (first | with_reducible exact h999 | refine Int.add_le_add_right ?_ _))) (by decide)) | omega)); (case hh9hm0 => (first | decide | omega)); (case hh9hm1 => (first | decide | omega)); (case hh9T => k_asm); (case hh9hk => first | exact rfl | assumption); (case hh9hd => (first | exact roomA (by with_reducible assumption) (by decide) | exact roomAB (by with_reducible assumption) (by decide) | exact roomABC (by with_reducible assumption) (by decide) | exact room0 (by with_reducible assumption) (by rfl) | exact roomN 1 (by with_reducible assumption) (by rfl) (by decide) | exact roomN 2 (by with_reducible assumption) (by rfl) (by decide) | exact roomN 3 (by with_reducible assumption) (by rfl) (by decide) | ktr_room)); (case hh9hu => (first | exact roomA (by with_reducible assumption) (by decide) | exact roomAB (by with_reducible assumption) (by decide) | exact roomABC (by with_reducible assumption) (by decide) | exact room0 (by with_reducible assumption) (by rfl) | exact roomN 3 (by with_reducible assumption) (by rfl) (by decide) | exact roomN 6 (by with_reducible assumption) (by rfl) (by decide) | ktr_units))); intro r9 nx9 h' tk9 hp9 F' N' hP9; (try dsimp only at hp9); refine drawElim hP9 ?_; intro qt9 v9 t9 e9 e9' l9 l9'; clear hP9; subst e9; subst e9'; (try dsimp only at N'); (try dsimp only); (try k_fold))
    | ((with_reducible show PosM _ _ _ _); refine' PosM.intro ?_; intro hp9; (try dsimp only at hp9))
    | (k_here; (with_reducible show wpAny _ _ (execs (_ :: _) _) _ _ _); refine' execs_cons_posM ?_; intro tk9 hp9; (try dsimp only); (try k_fold))
    | (refine' useV ?hh9k ?_; (case hh9k => with_reducible assumption); (try dsimp only))
    | (k_end; wrow_close)
    | walk1
    | (dsimp only; walk1)
    | (leave1; walk_say "STEP leave1"; try dsimp only)
    | fail "no step")
  refine hret _ [(d, deckO c (k + 1) qt9 nd), (c, listOf vs.toArray nc)] _ _ ⟨k + 1, qt9, rfl, rfl, by omega, by omega⟩ ?_ (by assumption) (newsMono (by assumption) ?_)
  · intro p hp
    rcases List.mem_cons.mp hp with rfl | hp
    · exact hId.symm
    · obtain rfl := List.mem_singleton.mp hp
      exact hcI
  · intro p hp
    k_ownIn
end Mine
end
section
open PySem PySem.W PyProof.Rows PySem.Calls PySem.SeqAt
namespace Mine

/-- the end of a branch: a text of which `P` holds -/
noncomputable def JoinS (P : Str → Prop) (s : Shared) (h₀ : Heap) (L : Addr) (m : Str → Option Value) (news : List (Addr × Obj)) (v : Value) (s' : Shared) : Prop := ∃ x t h' k, v = .str x t ∧ P x ∧ s' = { s with heap := h', toks := k } ∧ Fr h₀ L h' m ∧ News h₀ L h' news
section
variable {prog : Program} {w : World} {A : Around} {c : Sem Value} {Q E : Value → Shared → Prop} {s : Shared} {h₀ : Heap} {L : Addr} {m : Str → Option Value} {news : List (Addr × Obj)} {v : Int}
theorem joinS (P : Str → Prop) (_F : Fr h₀ L s.heap m) (_N : News h₀ L s.heap news) (h : wpAny (model prog w) A c (JoinS P s h₀ L m news) E s)
    (g : ∀ x t h' k, s.toks ≤ k → P x → Fr h₀ L h' m → News h₀ L h' news → Q (.str x t) { s with heap := h', toks := k }) : wpAny (model prog w) A c Q E s := by
  refine wpAny_posM (wpAny_mono h (fun v s' x => ?_) fun _ _ x => x)
  obtain ⟨x, t, h', k, rfl, hP, rfl, F, N⟩ := x
  exact fun hk => g x t h' k hk hP F N
noncomputable def FillP (v : Int) (x : Str) : Prop := (x = Str.ofString "0" ∧ (v == 1) = true) ∨ (x = Str.ofString "" ∧ (v == 1) = false)
noncomputable def WdP (v : Int) (x : Str) : Prop := (0 < v ∧ v < 8 ∧ x = Str.ofString (toString v)) ∨ (v = 0 ∧ x = Str.ofString "")
theorem joinFills (_h : v < 2) (F : Fr h₀ L s.heap m) (N : News h₀ L s.heap news) (h : wpAny (model prog w) A c (JoinS (FillP v) s h₀ L m news) E s)
    (g : ∀ x t h' k, s.toks ≤ k → FillP v x → Fr h₀ L h' m → News h₀ L h' news → Q (.str x t) { s with heap := h', toks := k }) : wpAny (model prog w) A c Q E s := joinS (FillP v) F N h g
theorem joinWd (_h : v < 8) (F : Fr h₀ L s.heap m) (N : News h₀ L s.heap news) (h : wpAny (model prog w) A c (JoinS (WdP v) s h₀ L m news) E s)
    (g : ∀ x t h' k, s.toks ≤ k → WdP v x → Fr h₀ L h' m → News h₀ L h' news → Q (.str x t) { s with heap := h', toks := k }) : wpAny (model prog w) A c Q E s := joinS (WdP v) F N h g
theorem FillP.len {x : Str} (h : FillP v x) : x.length ≤ 1 := by
  rcases h with ⟨rfl, _⟩ | ⟨rfl, _⟩ <;> decide +kernel
theorem WdP.len {x : Str} (h : WdP v x) : x.length ≤ 1 := by
  rcases h with ⟨h0, h1, rfl⟩ | ⟨_, rfl⟩
  · have e := wd7 h0 h1
    rcases e with rfl | rfl | rfl | rfl | rfl | rfl | rfl <;> decide +kernel
  · decide +kernel
end
theorem zPos {v : Int} (h : v = 1) : FillP v (Str.ofString "0") := .inl ⟨rfl, by simpa using h⟩
theorem zNeg {v : Int} (h : v ≠ 1) : FillP v (Str.ofString "") := .inr ⟨rfl, by simpa using h⟩
theorem turn2c {w : World} {mean : ExcName → Option Value} {mg mb : Str → Option Value} {dp un : Nat} {gd : Option (List Code)} {a : Addr} {ccd : Value} {cl : List (Str × Addr)} {outer : List Env} {A₀ : Around} {base h₀ : Heap} {L : Addr} {s : Shared} {E : Value → Shared → Prop} {Q : Flow → Shared → Prop}
    {I : Addr} {oI : Obj} {d c : Addr} {k : Int} {tk : Tok} {nd nc : Nat} {vs : List Value} {sc : List Int} {u : Str → Option Value} {bnd : Int} {ah be so form : Str} {fl : Bool} {wd num bs : Int} {up : Bool} {tf ta tb tw tn : Tok} {ts : Nat} {h : Heap} {tks : Nat}
    (F : Fr h₀ L h (fun y => if y = Str.ofString "form" then some (.str form tf) else if y = Str.ofString "ahead" then some (.str ah ta) else if y = Str.ofString "behind" then some (.str be tb) else if y = Str.ofString "width" then some (.int wd tw) else if y = Str.ofString "number" then some (.int num tn) else if y = Str.ofString "sort" then some (.str so ts) else if y = Str.ofString "fills" then some (.bool fl) else if y = Str.ofString "deck" then some (.ref d) else u y))
    (N : News h₀ L h [(I, oI), (d, listOf #[.ref c, .int k tk] nd), (c, listOf vs.toArray nc)]) (B : Below A₀ base outer h₀) (X : (hd.heap_39 w.params).In h₀) (T : Top hd.view_39 (looseW hd.view_39 []) mean mg mb h₀)
    (FF : FormFacts ah be so form fl wd) (hS : SortIs so bs up) (hId : @Ne Nat I d) (hcd : @Ne Nat c d) (hcI : @Ne Nat c I) (hi : IntsAre vs sc) (hn : sc.length ≤ 63) (hdp : dp + 10 < recursionLimit) (hun : un + 100 < cLine)
    (hk0 : 0 ≤ k) (hk2 : k ≤ bnd + 6) (hk1 : bnd ≤ 900) (hn0 : -9000 ≤ num) (hn1 : num ≤ 61000) (hw0 : 0 ≤ wd) (hw1 : wd ≤ 7) (hts : 1 ≤ ts) (hpos : ts + 1 ≤ tks)
    (hret : ∀ m' nx h' tk', J2 d c nd nc vs (bnd + 7) m' nx → (∀ p ∈ nx, p.1 ≠ I) → Fr h₀ L h' m' → News h₀ L h' ((I, oI) :: nx) → Q .next { s with heap := h', toks := tk' }) :
    wpAny (model PySem.Challenge.rw_np0014_01.row.prog w) (ktrTop dp un gd (Str.ofString "law") lawScope L a ccd cl outer) (execs loop2b (envX (Str.ofString "law") lawScope L a ccd cl)) Q E { s with heap := h, toks := tks } := by
  refine turn2b w mean mg mb dp un gd a ccd cl outer A₀ base h₀ L _ E Q I oI d c k tk nd nc vs sc u hId hcd hcI (bnd + 6) hk0 hk2 (by omega) hi hn ah be so form fl wd num bs up tf ta tb tw tn ts FF hS hn0 hn1 hw0 hw1 hts hpos B F X N T hdp hun ?_
  intro m' nx h' tk' hJ ho F' N'
  refine hret m' nx h' tk' ?_ ho F' N'
  obtain ⟨k', tk8, e1, e2, e3, e4⟩ := hJ
  exact ⟨k', tk8, e1, e2, e3, by omega⟩
set_option maxHeartbeats 16000000 in
theorem turn2 (w : World) (mean : ExcName → Option Value) (mg mb : Str → Option Value) (dp un : Nat) (gd : Option (List Code)) (a : Addr) (ccd : Value) (cl : List (Str × Addr)) (outer : List Env) (A₀ : Around) (base h₀ : Heap) (L : Addr) (s : Shared) (E : Value → Shared → Prop) (Q : Flow → Shared → Prop)
    (I : Addr) (oI : Obj) (d c : Addr) (k : Int) (tk : Tok) (nd nc : Nat) (vs : List Value) (sc : List Int) (u : Str → Option Value)
    (hId : @Ne Nat I d) (hcd : @Ne Nat c d) (hcI : @Ne Nat c I)
    (bnd : Int) (hk0 : 0 ≤ k) (hk2 : k ≤ bnd) (hk1 : bnd ≤ 900) (hi : IntsAre vs sc) (hn : sc.length ≤ 63)
    (B : Below A₀ base outer h₀) (F : Fr h₀ L s.heap (fun y => if y = Str.ofString "deck" then some (.ref d) else u y))
    (X : (hd.heap_39 w.params).In h₀) (N : News h₀ L s.heap [(I, oI), (d, deckO c k tk nd), (c, listOf vs.toArray nc)]) (T : Top hd.view_39 (looseW hd.view_39 []) mean mg mb h₀) (hdp : dp + 10 < recursionLimit) (hun : un + 100 < cLine)
    (hret : ∀ m' nx h' tk', J2 d c nd nc vs (bnd + 7) m' nx → (∀ p ∈ nx, p.1 ≠ I) → Fr h₀ L h' m' → News h₀ L h' ((I, oI) :: nx) → Q .next { s with heap := h', toks := tk' }) :
    wpAny (model PySem.Challenge.rw_np0014_01.row.prog w) (ktrTop dp un gd (Str.ofString "law") lawScope L a ccd cl outer) (execs loop2 (envX (Str.ofString "law") lawScope L a ccd cl)) Q E s := by
  have X' := X
  have h999 : k ≤ 900 := Int.le_trans hk2 hk1
  revert X
  k_fill
  intro X
  dsimp only [loop2, lawScope, scopeOf, bodyOf, lawStmt, PySem.Challenge.pw_np0014_01, List.getLast?, List.getLast, Option.getD, List.getElem?_cons_succ, List.getElem?_cons_zero, deckO] at N ⊢
  w_top off
  repeat' (first
    | (k_unfold; (try dsimp only))
    | (k_here; (with_reducible show wpAny _ _ (eval (PySem.Expr.Call _ _ _ _) _) _ _ _); refine' eval_genM ?_; intro K9 hK9; walk1)
    | (k_here; (with_reducible show wpAny _ _ (eval (PySem.Expr.Subscript _ _ _) _) _ _ _); refine' eval_genM ?_; intro K9 hK9; walk1)
    | (k_here; (with_reducible show wpAny _ _ (eval (PySem.Expr.BinOp _ _ _ _) _) _ _ _); refine' eval_genM ?_; intro K9 hK9; walk1)
    | (k_here; (with_reducible show wpAny _ _ (eval (PySem.Expr.Compare _ _ _ _) _) _ _ _); refine' eval_genM ?_; intro K9 hK9; walk1)
    | (k_here; (with_reducible show wpAny _ _ (eval (PySem.Expr.IfExp (PySem.Expr.Compare (PySem.Expr.Name (Str.ofString "width") _) _ _ _) _ _ _) _) _ _ _); k_dflt (refine' joinWd ?hh9hv ?hh9F ?hh9N ?_ ?_; (case hh9hv => with_reducible assumption); (case hh9F => k_asm); (case hh9N => k_asm); rotate_left; intro x8 t9 h9 k9 hk9 hPw9 F9 N9; (have hlw9 := hPw9.len); (try dsimp only at hk9); (try dsimp only); rotate_left; walk1))
    | (k_here; (with_reducible show wpAny _ _ (eval (PySem.Expr.IfExp (PySem.Expr.Name (Str.ofString "fills") _) _ _ _) _) _ _ _); k_dflt (refine' joinFills ?hh9hv ?hh9F ?hh9N ?_ ?_; (case hh9hv => with_reducible assumption); (case hh9F => k_asm); (case hh9N => k_asm); rotate_left; intro x8 t9 h9 k9 hk9 hPf9 F9 N9; (have hlf9 := hPf9.len); (try dsimp only at hk9); (try dsimp only); rotate_left; walk1))
    | ((with_reducible show JoinS _ _ _ _ _ _ _ _); first | (refine ⟨_, _, _, _, rfl, zPos (by with_reducible assumption), rfl, by with_reducible assumption, newsMono (by with_reducible assumption) (fun p hp => by k_ownIn)⟩) | (refine ⟨_, _, _, _, rfl, zNeg (by with_reducible assumption), rfl, by with_reducible assumption, newsMono (by with_reducible assumption) (fun p hp => by k_ownIn)⟩) | (refine ⟨_, _, _, _, rfl, .inl ⟨by with_reducible assumption, by with_reducible assumption, rfl⟩, rfl, by with_reducible assumption, newsMono (by with_reducible assumption) (fun p hp => by k_ownIn)⟩) | (refine ⟨_, _, _, _, rfl, .inr ⟨by omega, rfl⟩, rfl, by with_reducible assumption, newsMono (by with_reducible assumption) (fun p hp => by k_ownIn)⟩) | fail "JoinS")
    | (k_here; (with_reducible show wpAny _ _ (execs (PySem.Stmt.Assign [PySem.Expr.Name (Str.ofString "heard") _] _ _ :: _) _) _ _ _); refine' Halt.mk ?_)
    | (k_here; (with_reducible show wpAny _ _ (subscriptTail _ _ (Value.ref _) (Value.int _ _)) _ _ _); k_dflt (refine' menuItem3 ?hh9hl ?hh9lb ?hh9ub ?_ ?hh9hs; (case hh9hl => kmk_list); (case hh9lb => assumption); (case hh9ub => assumption); (case hh9hs => with_unfolding_all rfl)); intro me9 tm9 hM9; (have hMl9 := menuLen hM9); (try dsimp only))
    | (k_here; (with_reducible show wpAny _ _ (subscriptTail _ _ (Value.str _ _) (Value.int _ _)) _ _ _); (refine' sortItem ?hh9lb ?hh9ub ?_ ?hh9hs ?hh9ht; (case hh9lb => assumption); (case hh9ub => assumption); (case hh9hs => with_unfolding_all rfl); (case hh9ht => (intro _; with_unfolding_all rfl))); intro so9 bs9 up9 hS9 hlS9; (try dsimp only))
    | (k_here; (with_reducible show wpAny _ _ (eval (PySem.Expr.Compare _ _ _ _) _) _ _ _); (fail_if_success (with_reducible show wpAny _ _ _ (PosM _ _) _ _)); refine' wpAny_posM ?_; (try dsimp only))
    | (k_here; (with_reducible show wpAny _ _ (eval (PySem.Expr.BinOp _ _ _ _) _) _ _ _); (fail_if_success (with_reducible show wpAny _ _ _ (PosM _ _) _ _)); refine' wpAny_posM ?_; (try dsimp only))
    | (k_here; (with_reducible show wpAny _ _ (eval (PySem.Expr.Call (PySem.Expr.Attribute _ _ _) _ _ _) _) _ _ _); (fail_if_success (with_reducible show wpAny _ _ _ (PosM _ _) _ _)); refine' wpAny_posM ?_; (try dsimp only))
    | (k_here; (with_reducible show wpAny _ _ (PySem.call (Value.ref 140) _ _) _ _ _); k_dflt ((refine' Ctr.useM (draw _ _ _ _ _ _ _ _ _ _ _ _ _ ?hh9hU ?hh9hc ?hh9hcd ?hh9hi ?hh9hn ?hh9hk0 ?hh9hk1 ?hh9hm0 ?hh9hm1) ?hh9B ?hh9F ?hh9X ?hh9N ?hh9T ?hh9hk ?hh9hd ?hh9hu ?_); (case hh9B => k_asm); (case hh9F => k_asm); (case hh9X => k_asm); (case hh9N => k_asm); (case hh9hU => (intro D9; k_upd)); (case hh9hc => k_mem); (case hh9hcd => (first | with_reducible assumption | exact Ne.symm (by with_reducible assumption) | k_ne)); (case hh9hi => assumption); (case hh9hn => (first | assumption | omega)); (case hh9hk0 => (first | ((repeat' (first | with_reducible assumption | refine Int.add_nonneg ?_ (by decide))); done) | omega)); (case hh9hk1 => (first | (refine Int.le_trans (by (repeat' (first | with_reducible exact h999 | refine Int.add_le_add_right ?_ _))) (by decide)) | omega)); (case hh9hm0 => (first | decide | omega)); (case hh9hm1 => (first | decide | omega)); (case hh9T => k_asm); (case hh9hk => first | exact rfl | assumption); (case hh9hd => (first | exact roomA (by with_reducible assumption) (by decide) | exact roomAB (by with_reducible assumption) (by decide) | exact roomABC (by with_reducible assumption) (by decide) | exact room0 (by with_reducible assumption) (by rfl) | exact roomN 1 (by with_reducible assumption) (by rfl) (by decide) | exact roomN 2 (by with_reducible assumption) (by rfl) (by decide) | exact roomN 3 (by with_reducible assumption) (by rfl) (by decide) | ktr_room)); (case hh9hu => (first | exact roomA (by with_reducible assumption) (by decide) | exact roomAB (by with_reducible assumption) (by decide) | exact roomABC (by with_reducible assumption) (by decide) | exact room0 (by with_reducible assumption) (by rfl) | exact roomN 3 (by with_reducible assumption) (by rfl) (by decide) | exact roomN 6 (by with_reducible assumption) (by rfl) (by decide) | ktr_units))); intro r9 nx9 h' tk9 hp9 F' N' hP9; (try dsimp only at hp9); refine drawElim hP9 ?_; intro qt9 v9 t9 e9 e9' l9 l9'; clear hP9; subst e9; subst e9'; (try dsimp only at N'); (try dsimp only); (try k_fold))
    | ((with_reducible show PosM _ _ _ _); refine' PosM.intro ?_; intro hp9; (try dsimp only at hp9))
    | (k_here; (with_reducible show wpAny _ _ (execs (_ :: _) _) _ _ _); refine' execs_cons_posM ?_; intro tk9 hp9; (try dsimp only); (try k_fold))
    | (refine' useV ?hh9k ?_; (case hh9k => with_reducible assumption); (try dsimp only))
    | (k_end; wrow_close)
    | walk1
    | (dsimp only; walk1)
    | (leave1; walk_say "STEP leave1"; try dsimp only)
    | fail "no step")
  all_goals unfold Halt
  all_goals exact turn2c (by assumption) (newsMono (by assumption) (fun p hp => by k_ownIn)) B X' T (formFacts (by assumption) (by assumption) hS9 hPf9 hPw9) hS9 hId hcd hcI hi hn hdp hun (by omega) (by omega) (by omega) (by omega) (by omega) (by omega) (by omega) (by omega) (by first | omega | (dsimp only; omega)) hret
end Mine
end
section
open PySem PySem.W PyProof.Rows PySem.Calls PySem.SeqAt
namespace Mine
theorem frame2 {m : Str → Option Value} {v : Value} {d : Addr} (h1 : m (Str.ofString "deck") = some (.ref d)) :
    (fun y => if y = Str.ofString "beat" then some v else m y) = (fun y => if y = Str.ofString "deck" then some (.ref d) else (fun y => if y = Str.ofString "beat" then some v else m y) y) := by
  funext y
  by_cases h : y = Str.ofString "deck"
  · rw [if_pos h, h, if_neg (by decide +kernel), h1]
  · rw [if_neg h]
theorem loop2P (w : World) (mean : ExcName → Option Value) (mg mb : Str → Option Value) (dp un : Nat) (gd : Option (List Code)) (a : Addr) (ccd : Value) (cl : List (Str × Addr)) (outer : List Env) (A₀ : Around) (base h₀ : Heap) (L : Addr) (s : Shared) (E : Value → Shared → Prop) (Q : Flow → Shared → Prop)
    (rg : Addr) (t₀ u₀ v₀ : Tok) (d c : Addr) (nd nc : Nat) (vs : List Value) (sc : List Int) (bnd : Int) (m₀ : Str → Option Value) (news nx : List (Addr × Obj))
    (hr : IsRange s.heap rg 0 2 1 t₀ u₀ v₀) (hcd : @Ne Nat c d) (hbn : bnd ≤ 800) (hi : IntsAre vs sc) (hn : sc.length ≤ 63)
    (B : Below A₀ base outer h₀) (F : Fr h₀ L s.heap m₀) (X : (hd.heap_39 w.params).In h₀) (N : News h₀ L s.heap news) (hs : ∀ p ∈ nx, p ∈ news) (hJ : J2 d c nd nc vs bnd m₀ nx) (T : Top hd.view_39 (looseW hd.view_39 []) mean mg mb h₀) (hdp : dp + 10 < recursionLimit) (hun : un + 100 < cLine)
    (done : ∀ m₁ nx h tk, Fr h₀ L h m₁ → News h₀ L h nx → Q .next { s with heap := h, toks := tk }) :
    wpAny (model PySem.Challenge.rw_np0014_01.row.prog w) (ktrTop dp un gd (Str.ofString "law") lawScope L a ccd cl outer) (pyIter (.ref rg))
      (fun it s₂ => LoopAtV PySem.Challenge.rw_np0014_01.row.prog w (ktrTop dp un gd (Str.ofString "law") lawScope L a ccd cl outer) h₀ (envX (Str.ofString "law") lawScope L a ccd cl) (Str.ofString "beat") loop2 Q E it s₂) E s := by
  refine loopR (env := envX (Str.ofString "law") lawScope L a ccd cl) (fun i m nx => J2 d c nd nc vs (bnd + 7 * i) m nx) rfl hr (by decide) (n := 2) (by decide) F (newsMono N hs) (by simpa using hJ) ?_ ?_
  · rintro i t m₁ nx₁ I oI h tk hi' ⟨k, tk', rfl, g1, hk0, hk1⟩ hoff F₁ N₁
    rw [frame2 g1] at F₁
    refine turn2 w mean mg mb dp un gd a ccd cl outer A₀ base h₀ L _ E _ I oI d c k tk' nd nc vs sc _ (fun e => hoff _ (.head _) e.symm) hcd (hoff _ (.tail _ (.head _))) (bnd + 7 * i) hk0 hk1 (by omega) hi hn B F₁ X N₁ T hdp hun ?_
    intro m' nx' h' tk9 hJ' ho' F' N'
    refine ⟨rfl, h', tk9, m', nx', rfl, F', N', ho', ?_⟩
    have e : bnd + 7 * ((i + 1 : Nat) : Int) = bnd + 7 * (i : Int) + 7 := by omega
    rw [e]
    exact hJ'
  · intro m₁ nx h tk hJ' F' N'
    exact done m₁ nx h tk F' N'
end Mine
end
section
open PySem PySem.W PyProof.Rows PySem.Calls PySem.SeqAt
namespace Mine
theorem frame3 {m : Str → Option Value} {d : Addr} (h1 : m (Str.ofString "deck") = some (.ref d)) : m = (fun y => if y = Str.ofString "deck" then some (.ref d) else m y) := by
  funext y
  by_cases h : y = Str.ofString "deck"
  · rw [if_pos h, h, h1]
  · rw [if_neg h]
section
variable {w : World} {mean : ExcName → Option Value} {mg mb : Str → Option Value} {dp un : Nat} {gd : Option (List Code)} {a : Addr} {ccd : Value} {cl : List (Str × Addr)} {outer : List Env} {A₀ : Around} {base h₀ : Heap} {L : Addr} {s : Shared} {E : Value → Shared → Prop} {Q : Flow → Shared → Prop}
  {rg : Addr} {b₀ : Int} {t₀ u₀ v₀ : Tok} {d c r dr o rw : Addr} {k : Int} {tk tm tm' t1 t2 t3 : Tok} {nd nc no nr : Nat} {vs : List Value} {sc : List Int} {most : Int} {m₀ : Str → Option Value} {news : List (Addr × Obj)}
theorem loop1I (B : Below A₀ base outer h₀) (F : Fr h₀ L s.heap m₀) (X : (hd.heap_39 w.params).In h₀) (N : News h₀ L s.heap news) (T : Top hd.view_39 (looseW hd.view_39 []) mean mg mb h₀) (hr : IsRange s.heap rg 0 b₀ 1 t₀ u₀ v₀)
    (g1 : m₀ (Str.ofString "deck") = some (.ref d)) (g2 : m₀ (Str.ofString "most") = some (.int most tm')) (g3 : m₀ (Str.ofString "ring") = some (.ref r)) (g4 : m₀ (Str.ofString "row") = some (.ref rw))
    (h1 : (d, listOf #[.ref c, .int k tk] nd) ∈ news) (h2 : (c, listOf vs.toArray nc) ∈ news) (h3 : (r, instObj 101 dr) ∈ news) (h4 : (dr, ringO w.params t1 t2 t3 most tm .none (.ref o)) ∈ news) (h5 : (o, listOf #[] no) ∈ news) (h6 : (rw, listOf #[] nr) ∈ news)
    (hi : IntsAre vs sc) (hn : sc.length ≤ 63) (hb0 : 0 ≤ b₀) (hb1 : b₀ ≤ 50) (hk0 : 0 ≤ k) (hk1 : k ≤ 50) (hm0 : 1 ≤ most) (hm1 : most ≤ 6)
    (hddr : @Ne Nat d dr) (hcd : @Ne Nat c d) (hcdr : @Ne Nat c dr) (hrd : @Ne Nat r d) (hrdr : @Ne Nat r dr) (hodr : @Ne Nat o dr) (hod : @Ne Nat o d) (hrwdr : @Ne Nat rw dr) (hrwd : @Ne Nat rw d) (hdp : dp + 10 < recursionLimit) (hun : un + 100 < cLine)
    (done : ∀ (k' : Int) (tk' : Tok) (u : Str → Option Value) (h : Heap) (tk : Nat), 0 ≤ k' → k' ≤ 100 → Fr h₀ L h (fun y => if y = Str.ofString "deck" then some (.ref d) else u y) → News h₀ L h [(d, listOf #[.ref c, .int k' tk'] nd), (c, listOf vs.toArray nc)] → Q .next { s with heap := h, toks := tk }) :
    wpAny (model PySem.Challenge.rw_np0014_01.row.prog w) (ktrTop dp un gd (Str.ofString "law") lawScope L a ccd cl outer) (pyIter (.ref rg))
      (fun it s₂ => LoopAtV PySem.Challenge.rw_np0014_01.row.prog w (ktrTop dp un gd (Str.ofString "law") lawScope L a ccd cl outer) h₀ (envX (Str.ofString "law") lawScope L a ccd cl) (Str.ofString "beat") loop1 Q E it s₂) E s := by
  refine loop1P w mean mg mb dp un gd a ccd cl outer A₀ base h₀ L s E Q rg b₀.toNat b₀ t₀ u₀ v₀ d c nd nc vs sc r dr t1 t2 t3 most tm 50 m₀ news (led w.params d c k tk nd nc vs r dr t1 t2 t3 most tm [] o no rw [] nr []) hr (by omega) (by omega) hddr hcd hcdr hrd hrdr hm0 hm1 (by decide) hi hn B F X N ?_
    ⟨k, tk, [], o, no, rw, [], nr, [], [], tm', rfl, g1, g2, g3, g4, .nil, .nil, (fun p hp => nomatch hp), hodr, hod, hrwdr, hrwd, by decide, hk0, hk1⟩ T hdp hun ?_
  · intro p hp
    simp only [led, List.mem_cons, List.not_mem_nil, or_false] at hp
    rcases hp with rfl | rfl | rfl | rfl | rfl | rfl
    · exact h1
    · exact h2
    · exact h3
    · exact h4
    · exact h5
    · exact h6
  · intro m₁ nx h tk8 hJ1 F' N'
    refine J1.elim hJ1 ?_
    intro k' tk' all o' no' rw' rvs nr' rest ns tm'' e q1 _ _ _ _ _ _ _ _ _ _ _ q5 q6
    subst e
    rw [frame3 q1] at F'
    refine done k' tk' m₁ h tk8 q5 (by omega) F' (newsMono N' fun p hp => ?_)
    rcases List.mem_cons.mp hp with rfl | hp
    · exact .head _
    · obtain rfl := List.mem_singleton.mp hp
      exact .tail _ (.head _)
theorem loop2I (B : Below A₀ base outer h₀) (F : Fr h₀ L s.heap m₀) (X : (hd.heap_39 w.params).In h₀) (N : News h₀ L s.heap news) (T : Top hd.view_39 (looseW hd.view_39 []) mean mg mb h₀) (hr : IsRange s.heap rg 0 2 1 t₀ u₀ v₀)
    (g1 : m₀ (Str.ofString "deck") = some (.ref d)) (h1 : (d, listOf #[.ref c, .int k tk] nd) ∈ news) (h2 : (c, listOf vs.toArray nc) ∈ news) (hi : IntsAre vs sc) (hn : sc.length ≤ 63) (hk0 : 0 ≤ k) (hk1 : k ≤ 200) (hcd : @Ne Nat c d) (hdp : dp + 10 < recursionLimit) (hun : un + 100 < cLine)
    (done : ∀ m₁ nx h tk, Fr h₀ L h m₁ → News h₀ L h nx → Q .next { s with heap := h, toks := tk }) :
    wpAny (model PySem.Challenge.rw_np0014_01.row.prog w) (ktrTop dp un gd (Str.ofString "law") lawScope L a ccd cl outer) (pyIter (.ref rg))
      (fun it s₂ => LoopAtV PySem.Challenge.rw_np0014_01.row.prog w (ktrTop dp un gd (Str.ofString "law") lawScope L a ccd cl outer) h₀ (envX (Str.ofString "law") lawScope L a ccd cl) (Str.ofString "beat") loop2 Q E it s₂) E s := by
  refine loop2P w mean mg mb dp un gd a ccd cl outer A₀ base h₀ L s E Q rg t₀ u₀ v₀ d c nd nc vs sc 200 m₀ news [(d, deckO c k tk nd), (c, listOf vs.toArray nc)] hr hcd (by decide) hi hn B F X N ?_ ⟨k, tk, rfl, g1, hk0, hk1⟩ T hdp hun done
  intro p hp
  rcases List.mem_cons.mp hp with rfl | hp
  · exact h1
  · obtain rfl := List.mem_singleton.mp hp
    exact h2
end
end Mine
end
section
open PySem PySem.W PyProof.Rows PySem.Calls PySem.SeqAt
namespace Mine
set_option maxHeartbeats 8000000 in
theorem holds : PySem.Challenge.rw_np0014_01.Holds := hd (by
  k_go0
  w_top off
  repeat' (first
    | (k_unfold; (try dsimp only))
    | (k_here; (with_reducible show wpAny _ _ (eval (PySem.Expr.Call _ _ _ _) _) _ _ _); refine' eval_gen ?_; intro K9 hK9; walk1)
    | (k_here; (with_reducible show wpAny _ _ (pyIter (Value.ref _)) _ _ _); k_dflt (refine' loop2I ?hh9B ?hh9F ?hh9X ?hh9N ?hh9T ?hh9hr ?hh9g1 ?hh9h1 ?hh9h2 ?hh9hi ?hh9hn ?hh9hk0 ?hh9hk1 ?hh9n1 ?hh9hd ?hh9hu ?_; (case hh9B => k_asm); (case hh9F => k_asm); (case hh9X => k_asm); (case hh9N => k_asm); (case hh9T => k_asm); (case hh9hr => k_asm); (case hh9g1 => exact rfl); (case hh9h1 => k_mem); (case hh9h2 => k_mem); (case hh9hi => assumption); (case hh9hn => (simp only [List.length_map, List.length_take]; omega)); (case hh9hk0 => (first | ((repeat' (first | with_reducible assumption | refine Int.add_nonneg ?_ (by decide))); done) | omega)); (case hh9hk1 => (first | (refine Int.le_trans (by (repeat' (first | with_reducible exact h999 | refine Int.add_le_add_right ?_ _))) (by decide)) | omega)); (case hh9n1 => (first | with_reducible assumption | exact Ne.symm (by with_reducible assumption) | k_ne)); (case hh9hd => (first | exact roomA (by with_reducible assumption) (by decide) | exact roomAB (by with_reducible assumption) (by decide) | exact roomABC (by with_reducible assumption) (by decide) | exact room0 (by with_reducible assumption) (by rfl) | exact roomN 1 (by with_reducible assumption) (by rfl) (by decide) | exact roomN 2 (by with_reducible assumption) (by rfl) (by decide) | exact roomN 3 (by with_reducible assumption) (by rfl) (by decide) | ktr_room)); (case hh9hu => (first | exact roomA (by with_reducible assumption) (by decide) | exact roomAB (by with_reducible assumption) (by decide) | exact roomABC (by with_reducible assumption) (by decide) | exact room0 (by with_reducible assumption) (by rfl) | exact roomN 3 (by with_reducible assumption) (by rfl) (by decide) | exact roomN 6 (by with_reducible assumption) (by rfl) (by decide) | ktr_units))); intro m8 nx8 h' tk' F' N'; (try dsimp only))
    | (k_here; (with_reducible show wpAny _ _ (pyIter (Value.ref _)) _ _ _); k_dflt (refine' loop1I ?hh9B ?hh9F ?hh9X ?hh9N ?hh9T ?hh9hr ?hh9g1 ?hh9g2 ?hh9g3 ?hh9g4 ?hh9h1 ?hh9h2 ?hh9h3 ?hh9h4 ?hh9h5 ?hh9h6 ?hh9hi ?hh9hn ?hh9hb0 ?hh9hb1 ?hh9hk0 ?hh9hk1 ?hh9hm0 ?hh9hm1 ?hh9n1 ?hh9n2 ?hh9n3 ?hh9n4 ?hh9n5 ?hh9n6 ?hh9n7 ?hh9n8 ?hh9n9 ?hh9hd ?hh9hu ?_; (case hh9B => k_asm); (case hh9F => k_asm); (case hh9X => k_asm); (case hh9N => k_asm); (case hh9T => k_asm); (case hh9hr => k_asm); (case hh9g1 => exact rfl); (case hh9g2 => exact rfl); (case hh9g3 => exact rfl); (case hh9g4 => exact rfl); (case hh9h1 => k_mem); (case hh9h2 => k_mem); (case hh9h3 => k_mem); (case hh9h4 => k_mem); (case hh9h5 => k_mem); (case hh9h6 => k_mem); (case hh9hi => assumption); (case hh9hn => (simp only [List.length_map, List.length_take]; omega)); (case hh9hb0 => omega); (case hh9hb1 => omega); (case hh9hk0 => (first | ((repeat' (first | with_reducible assumption | refine Int.add_nonneg ?_ (by decide))); done) | omega)); (case hh9hk1 => (first | (refine Int.le_trans (by (repeat' (first | with_reducible exact h999 | refine Int.add_le_add_right ?_ _))) (by decide)) | omega)); (case hh9hm0 => (first | decide | omega)); (case hh9hm1 => (first | decide | omega)); (case hh9n1 => (first | with_reducible assumption | exact Ne.symm (by with_reducible assumption) | k_ne)); (case hh9n2 => (first | with_reducible assumption | exact Ne.symm (by with_reducible assumption) | k_ne)); (case hh9n3 => (first | with_reducible assumption | exact Ne.symm (by with_reducible assumption) | k_ne)); (case hh9n4 => (first | with_reducible assumption | exact Ne.symm (by with_reducible assumption) | k_ne)); (case hh9n5 => (first | with_reducible assumption | exact Ne.symm (by with_reducible assumption) | k_ne)); (case hh9n6 => (first | with_reducible assumption | exact Ne.symm (by with_reducible assumption) | k_ne)); (case hh9n7 => (first | with_reducible assumption | exact Ne.symm (by with_reducible assumption) | k_ne)); (case hh9n8 => (first | with_reducible assumption | exact Ne.symm (by with_reducible assumption) | k_ne)); (case hh9n9 => (first | with_reducible assumption | exact Ne.symm (by with_reducible assumption) | k_ne)); (case hh9hd => (first | exact roomA (by with_reducible assumption) (by decide) | exact roomAB (by with_reducible assumption) (by decide) | exact roomABC (by with_reducible assumption) (by decide) | exact room0 (by with_reducible assumption) (by rfl) | exact roomN 1 (by with_reducible assumption) (by rfl) (by decide) | exact roomN 2 (by with_reducible assumption) (by rfl) (by decide) | exact roomN 3 (by with_reducible assumption) (by rfl) (by decide) | ktr_room)); (case hh9hu => (first | exact roomA (by with_reducible assumption) (by decide) | exact roomAB (by with_reducible assumption) (by decide) | exact roomABC (by with_reducible assumption) (by decide) | exact room0 (by with_reducible assumption) (by rfl) | exact roomN 3 (by with_reducible assumption) (by rfl) (by decide) | exact roomN 6 (by with_reducible assumption) (by rfl) (by decide) | ktr_units))); intro k8 tk8 u8 h' tk' hk80 hk81 F' N'; (try dsimp only))
    | (k_here; (with_reducible show wpAny _ _ (exec (PySem.Stmt.For _ _ _ _ _) _) _ _ _); (rename Fr _ _ _ _ => lF'); (with_unfolding_all refine' For_invVF lF' ?hh9k1 ?hh9k2 ?_; (case hh9k1 => exact rfl); (case hh9k2 => exact rfl); k_whole))
    | (k_here; (with_reducible show wpAny _ _ (PySem.call (Value.ref 140) _ _) _ _ _); k_dflt ((refine' Ctr.use (draw _ _ _ _ _ _ _ _ _ _ _ _ _ ?hh9hU ?hh9hc ?hh9hcd ?hh9hi ?hh9hn ?hh9hk0 ?hh9hk1 ?hh9hm0 ?hh9hm1) ?hh9B ?hh9F ?hh9X ?hh9N ?hh9T ?hh9hk ?hh9hd ?hh9hu ?_); (case hh9B => k_asm); (case hh9F => k_asm); (case hh9X => k_asm); (case hh9N => k_asm); (case hh9hU => (intro D9; k_upd)); (case hh9hc => k_mem); (case hh9hcd => (first | with_reducible assumption | exact Ne.symm (by with_reducible assumption) | k_ne)); (case hh9hi => assumption); (case hh9hn => (simp only [List.length_map, List.length_take]; omega)); (case hh9hk0 => (first | ((repeat' (first | with_reducible assumption | refine Int.add_nonneg ?_ (by decide))); done) | omega)); (case hh9hk1 => (first | (refine Int.le_trans (by (repeat' (first | with_reducible exact h999 | refine Int.add_le_add_right ?_ _))) (by decide)) | omega)); (case hh9hm0 => (first | decide | omega)); (case hh9hm1 => (first | decide | omega)); (case hh9T => k_asm); (case hh9hk => first | exact rfl | assumption); (case hh9hd => (first | exact roomA (by with_reducible assumption) (by decide) | exact roomAB (by with_reducible assumption) (by decide) | exact roomABC (by with_reducible assumption) (by decide) | exact room0 (by with_reducible assumption) (by rfl) | exact roomN 1 (by with_reducible assumption) (by rfl) (by decide) | exact roomN 2 (by with_reducible assumption) (by rfl) (by decide) | exact roomN 3 (by with_reducible assumption) (by rfl) (by decide) | ktr_room)); (case hh9hu => (first | exact roomA (by with_reducible assumption) (by decide) | exact roomAB (by with_reducible assumption) (by decide) | exact roomABC (by with_reducible assumption) (by decide) | exact room0 (by with_reducible assumption) (by rfl) | exact roomN 3 (by with_reducible assumption) (by rfl) (by decide) | exact roomN 6 (by with_reducible assumption) (by rfl) (by decide) | ktr_units))); intro r9 nx9 h' tk' F' N' hP9; refine drawElim hP9 ?_; intro q9 v9 t9 e9 e9' l9 l9'; clear hP9; subst e9; subst e9'; (try dsimp only at N'); (try dsimp only); (try k_fold); (try k_sweep))
    | (refine' useV ?hh9k ?_; (case hh9k => with_reducible assumption); (try dsimp only))
    | (k_end; wrow_close)
    | walk1
    | (dsimp only; walk1)
    | (leave1; walk_say "STEP leave1"; try dsimp only)
    | fail "no step"))
end Mine
end
theorem PySem.Challenge.cw_np0014_01_holds : PySem.Challenge.rw_np0014_01.Holds :=
  Mine.holds
