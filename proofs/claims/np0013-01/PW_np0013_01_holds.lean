import PyProof.Rows.All
import Wide.All
import OpenK.AllK
import Wide.FinOn
import Lean
import PySem.Challenge.RW_np0013_01
set_option Elab.async false
set_option linter.unusedVariables false
set_option maxRecDepth 100000
section
open PySem PySem.W PyProof.Rows
set_option maxHeartbeats 8000000
namespace Mine
open_top hd for PySem.Challenge.rw_np0013_01
end Mine
end
section
open PySem PySem.W PyProof.Rows
open PySem.Calls PyProof.V PySem.Spec
set_option maxHeartbeats 8000000
namespace Mine

abbrev DeckAt (dk d0 d1 : Addr) (us vs : List Value) (c : Int) (t : Tok) (n n0 n1 : Nat) (rest : List (Addr × Obj)) : List (Addr × Obj) :=
  (dk, listOf #[.ref d0, .ref d1, .int c t] n) :: (d0, listOf us.toArray n0) :: (d1, listOf vs.toArray n1) :: rest

theorem store_gen {M : Model} {A : Around} {env : Env} {x : Str} {i n : Int} {t : Tok} {Q : Unit → Shared → Prop} {E : Value → Shared → Prop} {s : Shared} (hn : 0 < n)
    (h : ∀ k : Int, 0 ≤ k → k < n → wpAny M A (storeName env x (.int k t)) Q E s) : wpAny M A (storeName env x (.int (Int.fmod i n) t)) Q E s := h _ (fmod_lo i hn) (fmod_hi i hn)
local macro_rules | `(tactic| walk_at "storeName") => `(tactic| ((with_reducible refine store_gen (by decide) ?_); intro kM kM0 kM1; walk_say "GEN"))

local macro_rules | `(tactic| walk_at "truthy bool") => `(tactic| ((simp only [reduceCtorEq, decide_false, decide_true, Bool.not_false, Bool.not_true]); walk_at "truthy bool"))

theorem news_sub {h₀ h : Heap} {L : Addr} {news news' : List (Addr × Obj)} (N : News h₀ L h news) (hs : ∀ p ∈ news', p ∈ news) : News h₀ L h news' := fun p hp => N p (hs p hp)

section
variable {prog : Program} {w : World} {A : Around} {E : Value → Shared → Prop} {s : Shared} {h₀ : Heap} {L D : Addr} {m : Str → Option Value} {news news' : List (Addr × Obj)} {n : Nat}
theorem pop0 {us : List Value} {y : Value} {u : Tok} {Q : Value → Shared → Prop} (F : Fr h₀ L s.heap m) (N : News h₀ L s.heap news) (U : Upd D (listOf (y :: us).toArray n) (listOf us.toArray (n + 1)) news news') (hz : us.length ≤ 20)
    (h : ∀ h', Fr h₀ L h' m → News h₀ L h' news' → Q y { s with heap := h' }) : wpAny (model prog w) A (call (.builtin "list.pop") [.ref D, .int 0 u]) Q E s :=
  kl_popAt (k := 0) (p := []) (q := us) F N rfl (by simp [seqIndex?]) rfl U (by rw [PySem.sizeLine_eq]; simp; omega) h
end
local macro_rules | `(tactic| walk_at "call builtin:list.pop") => `(tactic| (k_here; k_dflt (refine' pop0 ?F ?N ?U ?z ?_; (case F => k_asm); (case N => k_asm); (case U => k_upd); (case z => assumption)); intro h' F' N'))

theorem draw_ok {w : World} {loose : List Str} {mean : ExcName → Option Value} {mg mb : Str → Option Value}
    (dp un : Nat) (gd : Option (List Code)) (cn : Str) (cs : Scope) (a : Addr) (ccd : Value) (cl : List (Str × Addr)) (outer : List Env) (A₀ : Around) (base h₀ : Heap) (L : Addr) (m : Str → Option Value) (s : Shared) (Q E : Value → Shared → Prop)
    (dk d0 d1 : Addr) (us vs : List Value) (xs ys : List Int) (c : Int) (t : Tok) (n n0 n1 : Nat) (rest : List (Addr × Obj)) (many : Int) (tm : Tok)
    (B : Below A₀ base outer h₀) (F : Fr h₀ L s.heap m) (X : (hd.heap_39 w.params).In h₀) (N : News h₀ L s.heap (DeckAt dk d0 d1 us vs c t n n0 n1 rest)) (T : Top hd.view_39 loose mean mg mb h₀) (hk : cs.kind = .function)
    (hus : IntsAre us xs) (hvs : IntsAre vs ys) (hx : xs.length ≤ 20) (hy : 0 < ys.length) (hy' : ys.length ≤ 21)
    (o1 : @LT.lt Nat _ d0 d1) (o2 : @LT.lt Nat _ d1 dk) (hoff : OwnOff rest [dk, d0, d1])
    (hm0 : 0 < many) (hm1 : many < 1000) (hd : dp + 1 < recursionLimit) (hu : un + 80 < cLine)
    (ret : ∀ (r : Int) (t' : Tok) (us' : List Value) (xs' : List Int) (c' : Int) (t'' : Tok) (n' n0' n1' : Nat) (h' : Heap) (tk' : Nat), 0 ≤ r → r < many → IntsAre us' xs' → xs'.length ≤ 20 → Fr h₀ L h' m → News h₀ L h' (DeckAt dk d0 d1 us' vs c' t'' n' n0' n1' rest) → Q (.int r t') { s with heap := h', toks := tk' }) :
    wpAny (model PySem.Challenge.rw_np0013_01.row.prog w) (ktrTop dp un gd cn cs L a ccd cl outer) (call (.ref 160) [.ref dk, .int many tm]) Q E s := by
  revert X; k_fill; intro X
  cases hus with
  | nil =>
    refine wpAny_call ?_
    k_dflt ktr_enter
    repeat' (first | (k_unfold; (try dsimp only)) | (k_end; wrow_close) | (walk1 <;> (try dsimp only)) | (leave1; walk_say "STEP leave1"; try dsimp only) | fail "no step")
    refine ret _ _ _ _ _ _ _ _ _ _ _ (fmod_lo _ hm0) (fmod_hi _ hm0) .nil (by simp) (by assumption) (news_sub (by assumption) fun p hp => List.mem_cons_of_mem _ hp)
  | cons k t' r =>
    rename_i us' xs'
    have hul : us'.length ≤ 20 := by have := r.length; simp only [List.length_cons] at hx; omega
    have hxl : xs'.length ≤ 20 := by simp only [List.length_cons] at hx; omega
    refine wpAny_call ?_
    k_dflt ktr_enter
    repeat' (first | (k_unfold; (try dsimp only)) | (k_end; wrow_close) | (walk1 <;> (try dsimp only)) | (leave1; walk_say "STEP leave1"; try dsimp only) | fail "no step")

    · exact ret _ _ _ _ _ _ _ _ _ _ _ (fmod_lo _ hm0) (fmod_hi _ hm0) r hxl (by assumption) (news_sub (by assumption) fun p hp => List.mem_cons_of_mem _ hp)
    · exact ret _ _ _ _ _ _ _ _ _ _ _ (fmod_lo _ hm0) (fmod_hi _ hm0) (.cons (k.fdiv many) _ r) (by simpa only [List.length_cons] using hx) (by assumption) (news_sub (by assumption) fun p hp => List.mem_cons_of_mem _ hp)
end Mine
end
section
open PySem PySem.W PyProof.Rows
open PySem.Calls PyProof.V PySem.Spec
set_option maxHeartbeats 8000000
namespace Mine
def fnBody : Stmt → List Stmt
  | .FunctionDef _ _ body _ _ _ _ _ _ _ => body
  | _ => []
def fnScope : Stmt → Scope
  | .FunctionDef _ _ _ _ _ _ scope _ _ _ => scope
  | _ => default
def forBody : Stmt → List Stmt
  | .For _ _ body _ _ => body
  | _ => []
def lawStmt : Stmt := PySem.Challenge.pw_np0013_01.main.body.getD 12 (.Pass default)
def turnBody : List Stmt := forBody ((fnBody lawStmt).getD 2 (.Pass default))
def rowBody : List Stmt := forBody ((fnBody lawStmt).getD 4 (.Pass default))
def lawScope : Scope := fnScope lawStmt
theorem fr_norm {h₀ h : Heap} {L : Addr} {m : Str → Option Value} {x1 x2 x3 x4 x5 x6 x7 x8 : Str} {v1 v2 v3 v4 v5 v6 v7 v8 : Value} (F : Fr h₀ L h m)
    (e1 : m x1 = some v1) (e2 : m x2 = some v2) (e3 : m x3 = some v3) (e4 : m x4 = some v4) (e5 : m x5 = some v5) (e6 : m x6 = some v6) (e7 : m x7 = some v7) (e8 : m x8 = some v8) :
    Fr h₀ L h (fun y => if y = x1 then some v1 else if y = x2 then some v2 else if y = x3 then some v3 else if y = x4 then some v4 else if y = x5 then some v5 else if y = x6 then some v6 else if y = x7 then some v7 else if y = x8 then some v8 else m y) := by
  have e : (fun y => if y = x1 then some v1 else if y = x2 then some v2 else if y = x3 then some v3 else if y = x4 then some v4 else if y = x5 then some v5 else if y = x6 then some v6 else if y = x7 then some v7 else if y = x8 then some v8 else m y) = m := by
    funext y
    split
    · subst y; exact e1.symm
    split
    · subst y; exact e2.symm
    split
    · subst y; exact e3.symm
    split
    · subst y; exact e4.symm
    split
    · subst y; exact e5.symm
    split
    · subst y; exact e6.symm
    split
    · subst y; exact e7.symm
    split
    · subst y; exact e8.symm
    rfl
  rw [e]; exact F
abbrev AmAt (P : Params) (ax ad : Addr) (k1 k2 : Tok) (so : Str) (mo : Int) (t1 t2 : Tok) (rest : List (Addr × Obj)) : List (Addr × Obj) :=
  (ax, instObj 38 ad) :: (ad, dictOf [⟨PyData.keyHash P (Str.ofString "sort"), .str (Str.ofString "sort") k1, .str so t1⟩, ⟨PyData.keyHash P (Str.ofString "many"), .str (Str.ofString "many") k2, .int mo t2⟩] 2) :: rest
abbrev HiAt (P : Params) (hx hv rl : Addr) (k1 k2 k3 k4 k5 t : Tok) (rest : List (Addr × Obj)) : List (Addr × Obj) :=
  (hx, instObj 144 hv) :: (hv, dictOf [⟨PyData.keyHash P (Str.ofString "rows"), .str (Str.ofString "rows") k1, .ref rl⟩, ⟨PyData.keyHash P (Str.ofString "dropped"), .str (Str.ofString "dropped") k2, .int 0 t⟩,
    ⟨PyData.keyHash P (Str.ofString "is_on"), .str (Str.ofString "is_on") k3, .bool true⟩, ⟨PyData.keyHash P (Str.ofString "point_before"), .str (Str.ofString "point_before") k4, .none⟩, ⟨PyData.keyHash P (Str.ofString "noted_tick"), .str (Str.ofString "noted_tick") k5, .none⟩] 5) :: rest
abbrev tupO (vs : List Value) (n : Nat) : Obj := { cls := .type "tuple", data := .seq vs.toArray n }
section
variable {prog : Program} {w : World} {A : Around} {E : Value → Shared → Prop} {s : Shared} {h₀ : Heap} {L l : Addr} {m : Str → Option Value} {news news' : List (Addr × Obj)} {n : Nat}
theorem len_snoc {rs : List Value} {v : Value} {Q : Value → Shared → Prop} (N : News h₀ L s.heap news) (hm : (l, listOf (rs ++ [v]).toArray n) ∈ news) (hz : rs.length ≤ 200) (h : Q (.int ((rs.length : Int) + 1) (s.toks + 1)) { s with toks := s.toks + 1 + 1 }) :
    wpAny (model prog w) A (call (.builtin "len") [.ref l]) Q E s := kun_lenL (News.isList N hm) (by simp) (by omega) h
theorem item_snoc {value e1 : PySem.Expr} {op : UnaryOp} {pos : Pos} {rs : List Value} {v : Value} {u : Tok} {Q : Value → Shared → Prop} (N : News h₀ L s.heap news) (hm : (l, listOf (rs ++ [v]).toArray n) ∈ news) (hz : rs.length ≤ 200) (h : Q v s) :
    wpAny (model prog w) A (subscriptTail value (.UnaryOp op e1 pos) (.ref l) (.int (-1) u)) Q E s :=
  have hl := News.isList N hm
  tail_any hl.typeIs slot_list_getitem.lookup (wpAny_getItem_list_neg (x := v) hl (by decide) (by simp; omega) (by decide) (by
    have e : ((-1 : Int) + ((rs ++ [v]).toArray.size : Nat)).toNat = rs.length := by simp; omega
    rw [e]; simp) h) (by with_unfolding_all rfl)
theorem append_snoc {rs : List Value} {x : Value} {Q : Value → Shared → Prop} (F : Fr h₀ L s.heap m) (N : News h₀ L s.heap news) (U : Upd l (listOf rs.toArray n) (listOf (rs ++ [x]).toArray (n + 1)) news news') (hz : rs.length ≤ 200)
    (h : ∀ h', Fr h₀ L h' m → News h₀ L h' news' → Q .none { s with heap := h' }) : wpAny (model prog w) A (call (.builtin "list.append") [.ref l, x]) Q E s :=
  append_K F N (by rw [List.push_toArray]; exact U) h (by simp [PySem.sizeLine_eq]; omega)
theorem eq_rowB {a b : Addr} {x y : Str} {i j : Int} {tx ti tj ty : Tok} {Q : Value → Shared → Prop} (N : News h₀ L s.heap news) (hm : (a, tupO [.str x tx, .int i ti, .int j tj] n) ∈ news) (hb : IsTup s.heap b [Value.str y ty].toArray)
    (hx : PyData.strOk x = true) (hy : PyData.strOk y = true) (hu : A.units + 64 < cLine) (h : Q (.bool false) s) : wpAny (model prog w) A (compareOp .Eq (.ref a) (.ref b)) Q E s := by
  obtain ⟨o, ho, hc, n', hd⟩ := hb
  refine eq_dataH (reads_tuple_at (N.get hm) rfl rfl (ReadsAll.cons (Reads.str x tx) (ReadsAll.cons (Reads.int i ti) (ReadsAll.cons (Reads.int j tj) .nil)))) (reads_tuple_at ho hc hd (ReadsAll.cons (Reads.str y ty) .nil)) ?_ ?_ hu ?_
  · simp [SeqAt.shaped, PyData.canLay0, PyData.canLayAll0, PyData.depth, PyData.depthAll, hx]
  · simp [SeqAt.shaped, PyData.canLay0, PyData.canLayAll0, PyData.depth, PyData.depthAll, hy]
  · simpa [PyData.eqv, PyData.eqvAll] using h
theorem eqi_tt {x y : Int} {t u : Tok} {Q : Value → Shared → Prop} (e : x = y) (h : Q (.bool true) s) : wpAny (model prog w) A (compareOp .Eq (.int x t) (.int y u)) Q E s := eq_int (by rw [show (x == y) = true from beq_iff_eq.mpr e]; exact h)
theorem eqi_ff {x y : Int} {t u : Tok} {Q : Value → Shared → Prop} (e : x ≠ y) (h : Q (.bool false) s) : wpAny (model prog w) A (compareOp .Eq (.int x t) (.int y u)) Q E s := eq_int (by rw [show (x == y) = false from beq_eq_false_iff_ne.mpr e]; exact h)
theorem lti_tt {x y : Int} {t u : Tok} {Q : Value → Shared → Prop} (e : x < y) (h : Q (.bool true) s) : wpAny (model prog w) A (compareOp .Lt (.int x t) (.int y u)) Q E s := lt_int (by rw [decide_eq_true e]; exact h)
theorem lti_ff {x y : Int} {t u : Tok} {Q : Value → Shared → Prop} (e : ¬ x < y) (h : Q (.bool false) s) : wpAny (model prog w) A (compareOp .Lt (.int x t) (.int y u)) Q E s := lt_int (by rw [decide_eq_false e]; exact h)
theorem eq_str_tt {x y : Str} {t u : Tok} {Q : Value → Shared → Prop} (e : (x == y) = true) (h : Q (.bool true) s) : wpAny (model prog w) A (compareOp .Eq (.str x t) (.str y u)) Q E s := eq_str (by rw [e]; exact h)
theorem eq_str_ff {x y : Str} {t u : Tok} {Q : Value → Shared → Prop} (e : (x == y) = false) (h : Q (.bool false) s) : wpAny (model prog w) A (compareOp .Eq (.str x t) (.str y u)) Q E s := eq_str (by rw [e]; exact h)
theorem ne_str_tt {x y : Str} {t u : Tok} {Q : Value → Shared → Prop} (e : (x == y) = true) (h : Q (.bool false) s) : wpAny (model prog w) A (compareOp .NotEq (.str x t) (.str y u)) Q E s := ne_str (by unfold bne; rw [e]; exact h)
theorem ne_str_ff {x y : Str} {t u : Tok} {Q : Value → Shared → Prop} (e : (x == y) = false) (h : Q (.bool true) s) : wpAny (model prog w) A (compareOp .NotEq (.str x t) (.str y u)) Q E s := ne_str (by unfold bne; rw [e]; exact h)
end
def sAt (i : Nat) : Stmt := turnBody.getD i (.Pass default)
theorem off_cons {p : Addr × Obj} {r : List (Addr × Obj)} {adr : List Addr} (h : ∀ b ∈ adr, p.1 ≠ b) (hr : OwnOff r adr) : OwnOff (p :: r) adr := by
  intro q hq b hb
  rcases List.mem_cons.mp hq with e | hq
  · rw [e]; exact h b hb
  · exact hr q hq b hb
theorem off_sub {r : List (Addr × Obj)} {adr adr' : List Addr} (h : OwnOff r adr) (hs : ∀ b ∈ adr', b ∈ adr) : OwnOff r adr' := fun p hp b hb => h p hp b (hs b hb)
theorem of_allLt {d : Addr} {l : List (Addr × Obj)} (h : AllLt d l) : ∀ p ∈ l, @LT.lt Nat _ p.1 d := by
  induction l with
  | nil => intro p hp; cases hp
  | cons q r ih =>
    intro p hp
    rcases List.mem_cons.mp hp with e | hp
    · rw [e]; exact h.1
    · exact ih h.2 p hp
end Mine
end
section
open PySem PySem.W PyProof.Rows
open PySem.Calls PyProof.V PySem.Spec
set_option maxHeartbeats 8000000
namespace Mine
local macro_rules | `(tactic| walk_at "call builtin:len") => `(tactic| (k_here; (with_reducible show wpAny _ _ (call (Value.builtin "len") [Value.ref _]) _ _ _); k_dflt (refine' len_snoc ?k1 ?k2 ?k3 ?_; (case k1 => k_asm); (case k2 => k_memK); (case k3 => first | omega | (simp only [List.length_append, List.length_cons, List.length_nil]; omega)))))
local macro_rules | `(tactic| walk_at "subscriptTail") => `(tactic| (k_here; (with_reducible show wpAny _ _ (subscriptTail _ (PySem.Expr.UnaryOp _ _ _) (Value.ref _) (Value.int _ _)) _ _ _); k_dflt (refine' item_snoc ?k1 ?k2 ?k3 ?_; (case k1 => k_asm); (case k2 => k_memK); (case k3 => first | omega | (simp only [List.length_append, List.length_cons, List.length_nil]; omega)))))
local macro_rules | `(tactic| walk_at "call builtin:list.append") => `(tactic| (k_here; k_dflt (refine' append_snoc ?k1 ?k2 ?k3 ?k4 ?_; (case k1 => k_asm); (case k2 => k_asm); (case k3 => k_upd); (case k4 => first | omega | (simp only [List.length_append, List.length_cons, List.length_nil]; omega))); intro h' F' N'; (try k_sweep)))
local macro_rules | `(tactic| walk_at "compareOp Eq ref ref") => `(tactic| (k_here; k_dflt (refine' eq_rowB ?k1 ?k2 ?k3 ?k4 ?k5 ?k6 ?_; (case k1 => k_asm); (case k2 => k_memK); (case k3 => exact tupK (by k_in) (by k_is)); (case k4 => decide +kernel); (case k5 => decide +kernel); (case k6 => units_room))))
local macro_rules | `(tactic| walk_at "compareOp Eq int int") => `(tactic| (k_here; (first | refine eqi_ff (by omega) ?_ | refine eqi_tt (by omega) ?_)))
local macro_rules | `(tactic| walk_at "compareOp Lt int int") => `(tactic| (k_here; (first | refine lti_tt (by omega) ?_ | refine lti_ff (by omega) ?_)))
local macro_rules | `(tactic| walk_at "compareOp Eq str str") => `(tactic| (first
  | (refine eq_str_tt (by first | with_reducible assumption | exact beq_self_eq_true _ | decide +kernel) ?_; walk_say "TT") | (refine eq_str_ff (by first | with_reducible assumption | decide +kernel) ?_; walk_say "FF")))
local macro_rules | `(tactic| walk_at "compareOp NotEq str str") => `(tactic| (first
  | (refine ne_str_tt (by first | with_reducible assumption | exact beq_self_eq_true _ | decide +kernel) ?_; walk_say "TT") | (refine ne_str_ff (by first | with_reducible assumption | decide +kernel) ?_; walk_say "FF")))
local macro_rules | `(tactic| walk_at "subscriptTail Name UnaryOp ref int") => `(tactic| (k_here; (with_reducible show wpAny _ _ (subscriptTail _ (PySem.Expr.UnaryOp _ _ _) (Value.ref _) (Value.int _ _)) _ _ _); k_dflt (refine' item_snoc ?k1 ?k2 ?k3 ?_; (case k1 => k_asm); (case k2 => k_memK); (case k3 => first | omega | (simp only [List.length_append, List.length_cons, List.length_nil]; omega)))))
local macro_rules | `(tactic| walk_at "subscriptTail Attribute Name UnaryOp ref int") => `(tactic| (k_here; (with_reducible show wpAny _ _ (subscriptTail _ (PySem.Expr.UnaryOp _ _ _) (Value.ref _) (Value.int _ _)) _ _ _); k_dflt (refine' item_snoc ?k1 ?k2 ?k3 ?_; (case k1 => k_asm); (case k2 => k_memK); (case k3 => first | omega | (simp only [List.length_append, List.length_cons, List.length_nil]; omega)))))
local macro_rules | `(tactic| k_allIn) => `(tactic| (intro pT hT; k_ownIn))
theorem l45_begin1 {w : World} {loose : List Str} {mean : ExcName → Option Value} {mg mb : Str → Option Value}
    (fa : Addr) (ccd : Value) (h₀ : Heap) (L : Addr) (m : Str → Option Value) (s : Shared) (Q : Flow → Shared → Prop) (E : Value → Shared → Prop) (tailS : List Stmt)
    (dk ax ad hx hv rl du : Addr) (k1 k2 k3 k4 k5 k6 k7 t1 t2 t3 : Tok) (so : Str) (mo : Int) (k : Int) (tt tl tm ts : Tok) (last sort : Str) (mn : Int)
    (rs : List Value) (nr : Nat) (rest : List (Addr × Obj))
    (B : Below callerA h₀ [] h₀) (F : Fr h₀ L s.heap m) (X : (hd.heap_39 w.params).In h₀) (T : Top hd.view_39 loose mean mg mb h₀)
    (e1 : m (Str.ofString "the_turn") = some (.int k tt)) (e2 : m (Str.ofString "deck") = some (.ref dk)) (e3 : m (Str.ofString "amalgam") = some (.ref ax)) (e4 : m (Str.ofString "history") = some (.ref hx))
    (e5 : m (Str.ofString "last") = some (.str last tl)) (e6 : m (Str.ofString "many") = some (.int mn tm)) (e7 : m (Str.ofString "due") = some (.ref du)) (e8 : m (Str.ofString "sort") = some (.str sort ts))
    (hk0 : 0 ≤ k) (hk1 : k < 40)
    (o4 : @LT.lt Nat _ ad ax) (o5 : @LT.lt Nat _ ax hv) (o6 : @LT.lt Nat _ hv hx) (o7 : @LT.lt Nat _ hx rl)
    (tp : Addr) (tn : Nat) (ta : Int) (tu1 tu2 tu3 : Tok)
    (N : News h₀ L s.heap (AmAt w.params ax ad k1 k2 so mo t1 t2 (HiAt w.params hx hv rl k3 k4 k5 k6 k7 t3 ((rl, listOf (rs ++ [Value.ref tp]).toArray nr) :: (tp, tupO [.str (Str.ofString "insert") tu1, .int ta tu2, .int (ta + 1) tu3] tn) :: rest))))
    (o8 : @LT.lt Nat _ rl tp) (hoff : OwnOff rest [ad, rl])
    (hrs : rs.length ≤ 100) (hso : so = last) (hc : sort = Str.ofString "" ∨ ((sort == Str.ofString "") = false ∧ (sort == last) = false) ∨ ((sort == Str.ofString "") = false ∧ sort = last ∧ mn = 20 ∧ mo = 20))
    (ret : ∀ (m' : Str → Option Value) (h' : Heap) (tk' : Nat) (t1' t2' : Tok) (nr' : Nat) (mo' : Int), m' (Str.ofString "the_turn") = some (.int k tt) → m' (Str.ofString "deck") = some (.ref dk) → m' (Str.ofString "amalgam") = some (.ref ax) → m' (Str.ofString "history") = some (.ref hx) → 
      m' (Str.ofString "last") = some (.str last tl) → m' (Str.ofString "many") = some (.int mn tm) → m' (Str.ofString "due") = some (.ref du) → m' (Str.ofString "sort") = some (.str sort ts) → m' (Str.ofString "the_begins") = some (.bool true) →
      ((sort == Str.ofString "") = false → mo' = 1) → Fr h₀ L h' m' → News h₀ L h' (AmAt w.params ax ad k1 k2 sort mo' t1' t2' (HiAt w.params hx hv rl k3 k4 k5 k6 k7 t3 ((rl, listOf (rs ++ [Value.ref tp] ++ [Value.ref 57]).toArray nr') :: (tp, tupO [.str (Str.ofString "insert") tu1, .int ta tu2, .int (ta + 1) tu3] tn) :: rest))) →
      wpAny (model PySem.Challenge.rw_np0013_01.row.prog w) (callerA.deeper (envOf (Str.ofString "law") lawScope L fa ccd)) (execs tailS (envOf (Str.ofString "law") lawScope L fa ccd)) Q E { s with heap := h', toks := tk' }) :
    wpAny (model PySem.Challenge.rw_np0013_01.row.prog w) (callerA.deeper (envOf (Str.ofString "law") lawScope L fa ccd)) (execs (sAt 3 :: sAt 4 :: tailS) (envOf (Str.ofString "law") lawScope L fa ccd)) Q E s := by
  subst hso
  revert X; k_fill; intro X
  dsimp only [sAt, turnBody, lawScope, lawStmt, PySem.Challenge.pw_np0013_01, List.getD, fnBody, fnScope, forBody, List.getElem?_cons_succ, List.getElem?_cons_zero, Option.getD, List.drop]
  replace F := fr_norm F e1 e2 e3 e4 e5 e6 e7 e8
  rcases hc with rfl | ⟨h1, h2⟩ | ⟨h1, rfl, rfl, rfl⟩
  · repeat' (first | (k_unfold; (try dsimp only)) | (k_end; wrow_close) | (walk1 <;> (try dsimp only)) | (leave1; walk_say "STEP leave1"; try dsimp only) | fail "no step")
    exact ret _ _ _ _ _ _ _ rfl rfl rfl rfl rfl rfl rfl rfl rfl (fun hF => absurd hF (by decide)) (by assumption) (news_sub (by assumption) (by k_allIn))
  · repeat' (first | (k_unfold; (try dsimp only)) | (k_end; wrow_close) | (walk1 <;> (try dsimp only)) | (leave1; walk_say "STEP leave1"; try dsimp only) | fail "no step")
    exact ret _ _ _ _ _ _ _ rfl rfl rfl rfl rfl rfl rfl rfl rfl (fun _ => rfl) (by assumption) (news_sub (by assumption) (by k_allIn))
  · repeat' (first | (k_unfold; (try dsimp only)) | (k_end; wrow_close) | (walk1 <;> (try dsimp only)) | (leave1; walk_say "STEP leave1"; try dsimp only) | fail "no step")
    exact ret _ _ _ _ _ _ _ rfl rfl rfl rfl rfl rfl rfl rfl rfl (fun _ => rfl) (by assumption) (news_sub (by assumption) (by k_allIn))
end Mine
end
section
open PySem PySem.W PyProof.Rows
open PySem.Calls PyProof.V PySem.Spec
set_option maxHeartbeats 8000000
namespace Mine
local macro_rules | `(tactic| walk_at "call builtin:len") => `(tactic| (k_here; (with_reducible show wpAny _ _ (call (Value.builtin "len") [Value.ref _]) _ _ _); k_dflt (refine' len_snoc ?k1 ?k2 ?k3 ?_; (case k1 => k_asm); (case k2 => k_memK); (case k3 => first | omega | (simp only [List.length_append, List.length_cons, List.length_nil]; omega)))))
local macro_rules | `(tactic| walk_at "subscriptTail") => `(tactic| (k_here; (with_reducible show wpAny _ _ (subscriptTail _ (PySem.Expr.UnaryOp _ _ _) (Value.ref _) (Value.int _ _)) _ _ _); k_dflt (refine' item_snoc ?k1 ?k2 ?k3 ?_; (case k1 => k_asm); (case k2 => k_memK); (case k3 => first | omega | (simp only [List.length_append, List.length_cons, List.length_nil]; omega)))))
local macro_rules | `(tactic| walk_at "call builtin:list.append") => `(tactic| (k_here; k_dflt (refine' append_snoc ?k1 ?k2 ?k3 ?k4 ?_; (case k1 => k_asm); (case k2 => k_asm); (case k3 => k_upd); (case k4 => first | omega | (simp only [List.length_append, List.length_cons, List.length_nil]; omega))); intro h' F' N'; (try k_sweep)))
local macro_rules | `(tactic| walk_at "compareOp Eq ref ref") => `(tactic| (k_here; k_dflt (refine' eq_rowB ?k1 ?k2 ?k3 ?k4 ?k5 ?k6 ?_; (case k1 => k_asm); (case k2 => k_memK); (case k3 => exact tupK (by k_in) (by k_is)); (case k4 => decide +kernel); (case k5 => decide +kernel); (case k6 => units_room))))
local macro_rules | `(tactic| walk_at "compareOp Eq int int") => `(tactic| (k_here; (first | refine eqi_ff (by omega) ?_ | refine eqi_tt (by omega) ?_)))
local macro_rules | `(tactic| walk_at "compareOp Lt int int") => `(tactic| (k_here; (first | refine lti_tt (by omega) ?_ | refine lti_ff (by omega) ?_)))
local macro_rules | `(tactic| walk_at "compareOp Eq str str") => `(tactic| (first
  | (refine eq_str_tt (by first | with_reducible assumption | exact beq_self_eq_true _ | decide +kernel) ?_; walk_say "TT") | (refine eq_str_ff (by first | with_reducible assumption | decide +kernel) ?_; walk_say "FF")))
local macro_rules | `(tactic| walk_at "compareOp NotEq str str") => `(tactic| (first
  | (refine ne_str_tt (by first | with_reducible assumption | exact beq_self_eq_true _ | decide +kernel) ?_; walk_say "TT") | (refine ne_str_ff (by first | with_reducible assumption | decide +kernel) ?_; walk_say "FF")))
local macro_rules | `(tactic| walk_at "subscriptTail Name UnaryOp ref int") => `(tactic| (k_here; (with_reducible show wpAny _ _ (subscriptTail _ (PySem.Expr.UnaryOp _ _ _) (Value.ref _) (Value.int _ _)) _ _ _); k_dflt (refine' item_snoc ?k1 ?k2 ?k3 ?_; (case k1 => k_asm); (case k2 => k_memK); (case k3 => first | omega | (simp only [List.length_append, List.length_cons, List.length_nil]; omega)))))
local macro_rules | `(tactic| walk_at "subscriptTail Attribute Name UnaryOp ref int") => `(tactic| (k_here; (with_reducible show wpAny _ _ (subscriptTail _ (PySem.Expr.UnaryOp _ _ _) (Value.ref _) (Value.int _ _)) _ _ _); k_dflt (refine' item_snoc ?k1 ?k2 ?k3 ?_; (case k1 => k_asm); (case k2 => k_memK); (case k3 => first | omega | (simp only [List.length_append, List.length_cons, List.length_nil]; omega)))))
local macro_rules | `(tactic| k_allIn) => `(tactic| (intro pT hT; k_ownIn))
theorem l45_begin0 {w : World} {loose : List Str} {mean : ExcName → Option Value} {mg mb : Str → Option Value}
    (fa : Addr) (ccd : Value) (h₀ : Heap) (L : Addr) (m : Str → Option Value) (s : Shared) (Q : Flow → Shared → Prop) (E : Value → Shared → Prop) (tailS : List Stmt)
    (dk ax ad hx hv rl du : Addr) (k1 k2 k3 k4 k5 k6 k7 t1 t2 t3 : Tok) (so : Str) (mo : Int) (k : Int) (tt tl tm ts : Tok) (last sort : Str) (mn : Int)
    (rs : List Value) (nr : Nat) (rest : List (Addr × Obj))
    (B : Below callerA h₀ [] h₀) (F : Fr h₀ L s.heap m) (X : (hd.heap_39 w.params).In h₀) (T : Top hd.view_39 loose mean mg mb h₀)
    (e1 : m (Str.ofString "the_turn") = some (.int k tt)) (e2 : m (Str.ofString "deck") = some (.ref dk)) (e3 : m (Str.ofString "amalgam") = some (.ref ax)) (e4 : m (Str.ofString "history") = some (.ref hx))
    (e5 : m (Str.ofString "last") = some (.str last tl)) (e6 : m (Str.ofString "many") = some (.int mn tm)) (e7 : m (Str.ofString "due") = some (.ref du)) (e8 : m (Str.ofString "sort") = some (.str sort ts))
    (hk0 : 0 ≤ k) (hk1 : k < 40)
    (o4 : @LT.lt Nat _ ad ax) (o5 : @LT.lt Nat _ ax hv) (o6 : @LT.lt Nat _ hv hx) (o7 : @LT.lt Nat _ hx rl)
    (N : News h₀ L s.heap (AmAt w.params ax ad k1 k2 so mo t1 t2 (HiAt w.params hx hv rl k3 k4 k5 k6 k7 t3 ((rl, listOf #[] nr) :: rest))))
    (hoff : OwnOff rest [ad, rl])
    (hc : sort = Str.ofString "" ∨ ((sort == Str.ofString "") = false ∧ (sort == last) = false)) (hso : so = last)
    (ret : ∀ (m' : Str → Option Value) (h' : Heap) (tk' : Nat) (t1' t2' : Tok) (nr' : Nat) (mo' : Int), m' (Str.ofString "the_turn") = some (.int k tt) → m' (Str.ofString "deck") = some (.ref dk) → m' (Str.ofString "amalgam") = some (.ref ax) → m' (Str.ofString "history") = some (.ref hx) → 
      m' (Str.ofString "last") = some (.str last tl) → m' (Str.ofString "many") = some (.int mn tm) → m' (Str.ofString "due") = some (.ref du) → m' (Str.ofString "sort") = some (.str sort ts) → m' (Str.ofString "the_begins") = some (.bool true) →
      ((sort == Str.ofString "") = false → mo' = 1) → Fr h₀ L h' m' → News h₀ L h' (AmAt w.params ax ad k1 k2 sort mo' t1' t2' (HiAt w.params hx hv rl k3 k4 k5 k6 k7 t3 ((rl, listOf #[] nr') :: rest))) →
      wpAny (model PySem.Challenge.rw_np0013_01.row.prog w) (callerA.deeper (envOf (Str.ofString "law") lawScope L fa ccd)) (execs tailS (envOf (Str.ofString "law") lawScope L fa ccd)) Q E { s with heap := h', toks := tk' }) :
    wpAny (model PySem.Challenge.rw_np0013_01.row.prog w) (callerA.deeper (envOf (Str.ofString "law") lawScope L fa ccd)) (execs (sAt 3 :: sAt 4 :: tailS) (envOf (Str.ofString "law") lawScope L fa ccd)) Q E s := by
  subst hso
  revert X; k_fill; intro X
  dsimp only [sAt, turnBody, lawScope, lawStmt, PySem.Challenge.pw_np0013_01, List.getD, fnBody, fnScope, forBody, List.getElem?_cons_succ, List.getElem?_cons_zero, Option.getD, List.drop]
  replace F := fr_norm F e1 e2 e3 e4 e5 e6 e7 e8
  rcases hc with rfl | ⟨h1, h2⟩
  · repeat' (first | (k_unfold; (try dsimp only)) | (k_end; wrow_close) | (walk1 <;> (try dsimp only)) | (leave1; walk_say "STEP leave1"; try dsimp only) | fail "no step")
    exact ret _ _ _ _ _ _ _ rfl rfl rfl rfl rfl rfl rfl rfl rfl (fun hF => absurd hF (by decide)) (by assumption) (news_sub (by assumption) (by k_allIn))
  · repeat' (first | (k_unfold; (try dsimp only)) | (k_end; wrow_close) | (walk1 <;> (try dsimp only)) | (leave1; walk_say "STEP leave1"; try dsimp only) | fail "no step")
    exact ret _ _ _ _ _ _ _ rfl rfl rfl rfl rfl rfl rfl rfl rfl (fun _ => rfl) (by assumption) (news_sub (by assumption) (by k_allIn))
end Mine
end
section
open PySem PySem.W PyProof.Rows
open PySem.Calls PyProof.V PySem.Spec
set_option maxHeartbeats 8000000
namespace Mine
local macro_rules | `(tactic| walk_at "call builtin:len") => `(tactic| (k_here; (with_reducible show wpAny _ _ (call (Value.builtin "len") [Value.ref _]) _ _ _); k_dflt (refine' len_snoc ?k1 ?k2 ?k3 ?_; (case k1 => k_asm); (case k2 => k_memK); (case k3 => first | omega | (simp only [List.length_append, List.length_cons, List.length_nil]; omega)))))
local macro_rules | `(tactic| walk_at "subscriptTail") => `(tactic| (k_here; (with_reducible show wpAny _ _ (subscriptTail _ (PySem.Expr.UnaryOp _ _ _) (Value.ref _) (Value.int _ _)) _ _ _); k_dflt (refine' item_snoc ?k1 ?k2 ?k3 ?_; (case k1 => k_asm); (case k2 => k_memK); (case k3 => first | omega | (simp only [List.length_append, List.length_cons, List.length_nil]; omega)))))
local macro_rules | `(tactic| walk_at "call builtin:list.append") => `(tactic| (k_here; k_dflt (refine' append_snoc ?k1 ?k2 ?k3 ?k4 ?_; (case k1 => k_asm); (case k2 => k_asm); (case k3 => k_upd); (case k4 => first | omega | (simp only [List.length_append, List.length_cons, List.length_nil]; omega))); intro h' F' N'; (try k_sweep)))
local macro_rules | `(tactic| walk_at "compareOp Eq ref ref") => `(tactic| (k_here; k_dflt (refine' eq_rowB ?k1 ?k2 ?k3 ?k4 ?k5 ?k6 ?_; (case k1 => k_asm); (case k2 => k_memK); (case k3 => exact tupK (by k_in) (by k_is)); (case k4 => decide +kernel); (case k5 => decide +kernel); (case k6 => units_room))))
local macro_rules | `(tactic| walk_at "compareOp Eq int int") => `(tactic| (k_here; (first | refine eqi_ff (by omega) ?_ | refine eqi_tt (by omega) ?_)))
local macro_rules | `(tactic| walk_at "compareOp Lt int int") => `(tactic| (k_here; (first | refine lti_tt (by omega) ?_ | refine lti_ff (by omega) ?_)))
local macro_rules | `(tactic| walk_at "compareOp Eq str str") => `(tactic| (first
  | (refine eq_str_tt (by first | with_reducible assumption | exact beq_self_eq_true _ | decide +kernel) ?_; walk_say "TT") | (refine eq_str_ff (by first | with_reducible assumption | decide +kernel) ?_; walk_say "FF")))
local macro_rules | `(tactic| walk_at "compareOp NotEq str str") => `(tactic| (first
  | (refine ne_str_tt (by first | with_reducible assumption | exact beq_self_eq_true _ | decide +kernel) ?_; walk_say "TT") | (refine ne_str_ff (by first | with_reducible assumption | decide +kernel) ?_; walk_say "FF")))
local macro_rules | `(tactic| walk_at "subscriptTail Name UnaryOp ref int") => `(tactic| (k_here; (with_reducible show wpAny _ _ (subscriptTail _ (PySem.Expr.UnaryOp _ _ _) (Value.ref _) (Value.int _ _)) _ _ _); k_dflt (refine' item_snoc ?k1 ?k2 ?k3 ?_; (case k1 => k_asm); (case k2 => k_memK); (case k3 => first | omega | (simp only [List.length_append, List.length_cons, List.length_nil]; omega)))))
local macro_rules | `(tactic| walk_at "subscriptTail Attribute Name UnaryOp ref int") => `(tactic| (k_here; (with_reducible show wpAny _ _ (subscriptTail _ (PySem.Expr.UnaryOp _ _ _) (Value.ref _) (Value.int _ _)) _ _ _); k_dflt (refine' item_snoc ?k1 ?k2 ?k3 ?_; (case k1 => k_asm); (case k2 => k_memK); (case k3 => first | omega | (simp only [List.length_append, List.length_cons, List.length_nil]; omega)))))
local macro_rules | `(tactic| k_allIn) => `(tactic| (intro pT hT; k_ownIn))
theorem l45_join {w : World} {loose : List Str} {mean : ExcName → Option Value} {mg mb : Str → Option Value}
    (fa : Addr) (ccd : Value) (h₀ : Heap) (L : Addr) (m : Str → Option Value) (s : Shared) (Q : Flow → Shared → Prop) (E : Value → Shared → Prop) (tailS : List Stmt)
    (dk ax ad hx hv rl du : Addr) (k1 k2 k3 k4 k5 k6 k7 t1 t2 t3 : Tok) (so : Str) (mo : Int) (k : Int) (tt tl tm ts : Tok) (last sort : Str) (mn : Int)
    (rs : List Value) (nr : Nat) (rest : List (Addr × Obj))
    (B : Below callerA h₀ [] h₀) (F : Fr h₀ L s.heap m) (X : (hd.heap_39 w.params).In h₀) (T : Top hd.view_39 loose mean mg mb h₀)
    (e1 : m (Str.ofString "the_turn") = some (.int k tt)) (e2 : m (Str.ofString "deck") = some (.ref dk)) (e3 : m (Str.ofString "amalgam") = some (.ref ax)) (e4 : m (Str.ofString "history") = some (.ref hx))
    (e5 : m (Str.ofString "last") = some (.str last tl)) (e6 : m (Str.ofString "many") = some (.int mn tm)) (e7 : m (Str.ofString "due") = some (.ref du)) (e8 : m (Str.ofString "sort") = some (.str sort ts))
    (hk0 : 0 ≤ k) (hk1 : k < 40)
    (o4 : @LT.lt Nat _ ad ax) (o5 : @LT.lt Nat _ ax hv) (o6 : @LT.lt Nat _ hv hx) (o7 : @LT.lt Nat _ hx rl)

    (N : News h₀ L s.heap (AmAt w.params ax ad k1 k2 so mo t1 t2 (HiAt w.params hx hv rl k3 k4 k5 k6 k7 t3 rest)))
    (hoff : OwnOff rest [ad])
    (h1 : (sort == Str.ofString "") = false) (hsl : sort = last) (hmn : mn < 20) (hmo : mo = mn) (hso : so = last)
    (ret : ∀ (m' : Str → Option Value) (h' : Heap) (tk' : Nat) (t1' t2' : Tok) (nr' : Nat) (mo' : Int), m' (Str.ofString "the_turn") = some (.int k tt) → m' (Str.ofString "deck") = some (.ref dk) → m' (Str.ofString "amalgam") = some (.ref ax) → m' (Str.ofString "history") = some (.ref hx) → 
      m' (Str.ofString "last") = some (.str last tl) → m' (Str.ofString "many") = some (.int mn tm) → m' (Str.ofString "due") = some (.ref du) → m' (Str.ofString "sort") = some (.str sort ts) → m' (Str.ofString "the_begins") = some (.bool false) →
      mo' = mo + 1 → Fr h₀ L h' m' → News h₀ L h' (AmAt w.params ax ad k1 k2 sort mo' t1' t2' (HiAt w.params hx hv rl k3 k4 k5 k6 k7 t3 rest)) →
      wpAny (model PySem.Challenge.rw_np0013_01.row.prog w) (callerA.deeper (envOf (Str.ofString "law") lawScope L fa ccd)) (execs tailS (envOf (Str.ofString "law") lawScope L fa ccd)) Q E { s with heap := h', toks := tk' }) :
    wpAny (model PySem.Challenge.rw_np0013_01.row.prog w) (callerA.deeper (envOf (Str.ofString "law") lawScope L fa ccd)) (execs (sAt 3 :: sAt 4 :: tailS) (envOf (Str.ofString "law") lawScope L fa ccd)) Q E s := by
  subst hso hsl
  revert X; k_fill; intro X
  dsimp only [sAt, turnBody, lawScope, lawStmt, PySem.Challenge.pw_np0013_01, List.getD, fnBody, fnScope, forBody, List.getElem?_cons_succ, List.getElem?_cons_zero, Option.getD, List.drop]
  replace F := fr_norm F e1 e2 e3 e4 e5 e6 e7 e8
  repeat' (first | (k_unfold; (try dsimp only)) | (k_end; wrow_close) | (walk1 <;> (try dsimp only)) | (leave1; walk_say "STEP leave1"; try dsimp only) | fail "no step")
  exact ret _ _ _ _ _ 0 _ rfl rfl rfl rfl rfl rfl rfl rfl rfl rfl (by assumption) (news_sub (by assumption) (by k_allIn))
end Mine
end
section
open PySem PySem.W PyProof.Rows
open PySem.Calls PyProof.V PySem.Spec
set_option maxHeartbeats 8000000
namespace Mine
local macro_rules | `(tactic| walk_at "call builtin:len") => `(tactic| (k_here; (with_reducible show wpAny _ _ (call (Value.builtin "len") [Value.ref _]) _ _ _); k_dflt (refine' len_snoc ?k1 ?k2 ?k3 ?_; (case k1 => k_asm); (case k2 => k_memK); (case k3 => first | omega | (simp only [List.length_append, List.length_cons, List.length_nil]; omega)))))
local macro_rules | `(tactic| walk_at "subscriptTail") => `(tactic| (k_here; (with_reducible show wpAny _ _ (subscriptTail _ (PySem.Expr.UnaryOp _ _ _) (Value.ref _) (Value.int _ _)) _ _ _); k_dflt (refine' item_snoc ?k1 ?k2 ?k3 ?_; (case k1 => k_asm); (case k2 => k_memK); (case k3 => first | omega | (simp only [List.length_append, List.length_cons, List.length_nil]; omega)))))
local macro_rules | `(tactic| walk_at "call builtin:list.append") => `(tactic| (k_here; k_dflt (refine' append_snoc ?k1 ?k2 ?k3 ?k4 ?_; (case k1 => k_asm); (case k2 => k_asm); (case k3 => k_upd); (case k4 => first | omega | (simp only [List.length_append, List.length_cons, List.length_nil]; omega))); intro h' F' N'; (try k_sweep)))
local macro_rules | `(tactic| walk_at "compareOp Eq ref ref") => `(tactic| (k_here; k_dflt (refine' eq_rowB ?k1 ?k2 ?k3 ?k4 ?k5 ?k6 ?_; (case k1 => k_asm); (case k2 => k_memK); (case k3 => exact tupK (by k_in) (by k_is)); (case k4 => decide +kernel); (case k5 => decide +kernel); (case k6 => units_room))))
local macro_rules | `(tactic| walk_at "compareOp Eq int int") => `(tactic| (k_here; (first | refine eqi_ff (by omega) ?_ | refine eqi_tt (by omega) ?_)))
local macro_rules | `(tactic| walk_at "compareOp Lt int int") => `(tactic| (k_here; (first | refine lti_tt (by omega) ?_ | refine lti_ff (by omega) ?_)))
local macro_rules | `(tactic| walk_at "compareOp Eq str str") => `(tactic| (first
  | (refine eq_str_tt (by first | with_reducible assumption | exact beq_self_eq_true _ | decide +kernel) ?_; walk_say "TT") | (refine eq_str_ff (by first | with_reducible assumption | decide +kernel) ?_; walk_say "FF")))
local macro_rules | `(tactic| walk_at "compareOp NotEq str str") => `(tactic| (first
  | (refine ne_str_tt (by first | with_reducible assumption | exact beq_self_eq_true _ | decide +kernel) ?_; walk_say "TT") | (refine ne_str_ff (by first | with_reducible assumption | decide +kernel) ?_; walk_say "FF")))
local macro_rules | `(tactic| walk_at "subscriptTail Name UnaryOp ref int") => `(tactic| (k_here; (with_reducible show wpAny _ _ (subscriptTail _ (PySem.Expr.UnaryOp _ _ _) (Value.ref _) (Value.int _ _)) _ _ _); k_dflt (refine' item_snoc ?k1 ?k2 ?k3 ?_; (case k1 => k_asm); (case k2 => k_memK); (case k3 => first | omega | (simp only [List.length_append, List.length_cons, List.length_nil]; omega)))))
local macro_rules | `(tactic| walk_at "subscriptTail Attribute Name UnaryOp ref int") => `(tactic| (k_here; (with_reducible show wpAny _ _ (subscriptTail _ (PySem.Expr.UnaryOp _ _ _) (Value.ref _) (Value.int _ _)) _ _ _); k_dflt (refine' item_snoc ?k1 ?k2 ?k3 ?_; (case k1 => k_asm); (case k2 => k_memK); (case k3 => first | omega | (simp only [List.length_append, List.length_cons, List.length_nil]; omega)))))
local macro_rules | `(tactic| k_allIn) => `(tactic| (intro pT hT; k_ownIn))
theorem l69_begin1 {w : World} {loose : List Str} {mean : ExcName → Option Value} {mg mb : Str → Option Value}
    (fa : Addr) (ccd : Value) (h₀ : Heap) (L : Addr) (m : Str → Option Value) (s : Shared) (Q : Flow → Shared → Prop) (E : Value → Shared → Prop)
    (dk ax hx hv rl du : Addr) (k3 k4 k5 k6 k7 t3 : Tok) (k : Int) (tt tl tm ts : Tok) (last sort : Str) (mn : Int)
    (rs : List Value) (nr : Nat) (dv : List Value) (nd : Nat) (rest : List (Addr × Obj))
    (B : Below callerA h₀ [] h₀) (F : Fr h₀ L s.heap m) (X : (hd.heap_39 w.params).In h₀) (T : Top hd.view_39 loose mean mg mb h₀)
    (e1 : m (Str.ofString "the_turn") = some (.int k tt)) (e2 : m (Str.ofString "deck") = some (.ref dk)) (e3 : m (Str.ofString "amalgam") = some (.ref ax)) (e4 : m (Str.ofString "history") = some (.ref hx))
    (e6 : m (Str.ofString "many") = some (.int mn tm)) (e7 : m (Str.ofString "due") = some (.ref du)) (e8 : m (Str.ofString "sort") = some (.str sort ts))
    (hk0 : 0 ≤ k) (hk1 : k < 40)
    (o6 : @LT.lt Nat _ hv hx) (o7 : @LT.lt Nat _ hx rl) (o8 : @LT.lt Nat _ rl du)
    (e9 : m (Str.ofString "the_begins") = some (.bool true))
    (N : News h₀ L s.heap (HiAt w.params hx hv rl k3 k4 k5 k6 k7 t3 ((rl, listOf (rs ++ [Value.ref 57]).toArray nr) :: (du, listOf dv.toArray nd) :: rest)))
    (hoff : OwnOff rest [rl, du]) (hrs : rs.length ≤ 101) (hdv : dv.length ≤ 100)
    (ret : ∀ (m' : Str → Option Value) (h' : Heap) (tk' : Nat) (cg' tp' : Addr) (nr' nd' ng' : Nat) (t4 t5 t6 t7 t8 : Tok), m' (Str.ofString "the_turn") = some (.int k tt) → m' (Str.ofString "deck") = some (.ref dk) → m' (Str.ofString "amalgam") = some (.ref ax) → m' (Str.ofString "history") = some (.ref hx) → 
      m' (Str.ofString "last") = some (.str sort ts) → m' (Str.ofString "many") = some (.int 1 t4) → m' (Str.ofString "due") = some (.ref du) → m' (Str.ofString "sort") = some (.str sort ts) →
      @LT.lt Nat _ du cg' → AllLt cg' rest → @LT.lt Nat _ cg' tp' → Fr h₀ L h' m' → News h₀ L h' (HiAt w.params hx hv rl k3 k4 k5 k6 k7 t3 ((rl, listOf (rs ++ [Value.ref 57] ++ [Value.ref tp']).toArray nr') :: (du, listOf (dv ++ [Value.ref cg']).toArray nd') :: (tp', tupO [.str (Str.ofString "insert") t5, .int (5 * k + 5) t6, .int (5 * k + 5 + 1) t7] 0) :: (cg', listOf #[.int (5 * k + 5) t8] ng') :: rest)) →
      Q .next { s with heap := h', toks := tk' }) :
    wpAny (model PySem.Challenge.rw_np0013_01.row.prog w) (callerA.deeper (envOf (Str.ofString "law") lawScope L fa ccd)) (execs (sAt 5 :: sAt 6 :: sAt 7 :: sAt 8 :: []) (envOf (Str.ofString "law") lawScope L fa ccd)) Q E s := by
  revert X; k_fill; intro X
  dsimp only [sAt, turnBody, lawScope, lawStmt, PySem.Challenge.pw_np0013_01, List.getD, fnBody, fnScope, forBody, List.getElem?_cons_succ, List.getElem?_cons_zero, Option.getD, List.drop]
  replace F := fr_norm F e1 e2 e3 e4 e9 e6 e7 e8
  repeat' (first | (k_unfold; (try dsimp only)) | (k_end; wrow_close) | (walk1 <;> (try dsimp only)) | (leave1; walk_say "STEP leave1"; try dsimp only) | fail "no step")
  repeat (with_reducible rename _ ∧ _ => hcj; obtain ⟨hcjl, hcjr⟩ := hcj)
  refine' ret _ _ _ _ _ _ _ _ _ _ _ _ _ ?r1 ?r2 ?r3 ?r4 ?r5 ?r6 ?r7 ?r8 ?o1 ?o2 ?o3 ?F ?N
  case F => assumption
  case N => exact news_sub (by assumption) (by k_allIn)
  case r1 => rfl
  case r2 => rfl
  case r3 => rfl
  case r4 => rfl
  case r5 => rfl
  case r6 => rfl
  case r7 => rfl
  case r8 => rfl
  case o1 => omega
  case o2 => assumption
  case o3 => omega
end Mine
end
section
open PySem PySem.W PyProof.Rows
open PySem.Calls PyProof.V PySem.Spec
set_option maxHeartbeats 8000000
namespace Mine
local macro_rules | `(tactic| walk_at "call builtin:len") => `(tactic| (k_here; (with_reducible show wpAny _ _ (call (Value.builtin "len") [Value.ref _]) _ _ _); k_dflt (refine' len_snoc ?k1 ?k2 ?k3 ?_; (case k1 => k_asm); (case k2 => k_memK); (case k3 => first | omega | (simp only [List.length_append, List.length_cons, List.length_nil]; omega)))))
local macro_rules | `(tactic| walk_at "subscriptTail") => `(tactic| (k_here; (with_reducible show wpAny _ _ (subscriptTail _ (PySem.Expr.UnaryOp _ _ _) (Value.ref _) (Value.int _ _)) _ _ _); k_dflt (refine' item_snoc ?k1 ?k2 ?k3 ?_; (case k1 => k_asm); (case k2 => k_memK); (case k3 => first | omega | (simp only [List.length_append, List.length_cons, List.length_nil]; omega)))))
local macro_rules | `(tactic| walk_at "call builtin:list.append") => `(tactic| (k_here; k_dflt (refine' append_snoc ?k1 ?k2 ?k3 ?k4 ?_; (case k1 => k_asm); (case k2 => k_asm); (case k3 => k_upd); (case k4 => first | omega | (simp only [List.length_append, List.length_cons, List.length_nil]; omega))); intro h' F' N'; (try k_sweep)))
local macro_rules | `(tactic| walk_at "compareOp Eq ref ref") => `(tactic| (k_here; k_dflt (refine' eq_rowB ?k1 ?k2 ?k3 ?k4 ?k5 ?k6 ?_; (case k1 => k_asm); (case k2 => k_memK); (case k3 => exact tupK (by k_in) (by k_is)); (case k4 => decide +kernel); (case k5 => decide +kernel); (case k6 => units_room))))
local macro_rules | `(tactic| walk_at "compareOp Eq int int") => `(tactic| (k_here; (first | refine eqi_ff (by omega) ?_ | refine eqi_tt (by omega) ?_)))
local macro_rules | `(tactic| walk_at "compareOp Lt int int") => `(tactic| (k_here; (first | refine lti_tt (by omega) ?_ | refine lti_ff (by omega) ?_)))
local macro_rules | `(tactic| walk_at "compareOp Eq str str") => `(tactic| (first
  | (refine eq_str_tt (by first | with_reducible assumption | exact beq_self_eq_true _ | decide +kernel) ?_; walk_say "TT") | (refine eq_str_ff (by first | with_reducible assumption | decide +kernel) ?_; walk_say "FF")))
local macro_rules | `(tactic| walk_at "compareOp NotEq str str") => `(tactic| (first
  | (refine ne_str_tt (by first | with_reducible assumption | exact beq_self_eq_true _ | decide +kernel) ?_; walk_say "TT") | (refine ne_str_ff (by first | with_reducible assumption | decide +kernel) ?_; walk_say "FF")))
local macro_rules | `(tactic| walk_at "subscriptTail Name UnaryOp ref int") => `(tactic| (k_here; (with_reducible show wpAny _ _ (subscriptTail _ (PySem.Expr.UnaryOp _ _ _) (Value.ref _) (Value.int _ _)) _ _ _); k_dflt (refine' item_snoc ?k1 ?k2 ?k3 ?_; (case k1 => k_asm); (case k2 => k_memK); (case k3 => first | omega | (simp only [List.length_append, List.length_cons, List.length_nil]; omega)))))
local macro_rules | `(tactic| walk_at "subscriptTail Attribute Name UnaryOp ref int") => `(tactic| (k_here; (with_reducible show wpAny _ _ (subscriptTail _ (PySem.Expr.UnaryOp _ _ _) (Value.ref _) (Value.int _ _)) _ _ _); k_dflt (refine' item_snoc ?k1 ?k2 ?k3 ?_; (case k1 => k_asm); (case k2 => k_memK); (case k3 => first | omega | (simp only [List.length_append, List.length_cons, List.length_nil]; omega)))))
local macro_rules | `(tactic| k_allIn) => `(tactic| (intro pT hT; k_ownIn))
theorem l69_begin0 {w : World} {loose : List Str} {mean : ExcName → Option Value} {mg mb : Str → Option Value}
    (fa : Addr) (ccd : Value) (h₀ : Heap) (L : Addr) (m : Str → Option Value) (s : Shared) (Q : Flow → Shared → Prop) (E : Value → Shared → Prop)
    (dk ax hx hv rl du : Addr) (k3 k4 k5 k6 k7 t3 : Tok) (k : Int) (tt tl tm ts : Tok) (last sort : Str) (mn : Int)
    (rs : List Value) (nr : Nat) (dv : List Value) (nd : Nat) (rest : List (Addr × Obj))
    (B : Below callerA h₀ [] h₀) (F : Fr h₀ L s.heap m) (X : (hd.heap_39 w.params).In h₀) (T : Top hd.view_39 loose mean mg mb h₀)
    (e1 : m (Str.ofString "the_turn") = some (.int k tt)) (e2 : m (Str.ofString "deck") = some (.ref dk)) (e3 : m (Str.ofString "amalgam") = some (.ref ax)) (e4 : m (Str.ofString "history") = some (.ref hx))
    (e6 : m (Str.ofString "many") = some (.int mn tm)) (e7 : m (Str.ofString "due") = some (.ref du)) (e8 : m (Str.ofString "sort") = some (.str sort ts))
    (hk0 : 0 ≤ k) (hk1 : k < 40)
    (o6 : @LT.lt Nat _ hv hx) (o7 : @LT.lt Nat _ hx rl) (o8 : @LT.lt Nat _ rl du)
    (e9 : m (Str.ofString "the_begins") = some (.bool true))
    (N : News h₀ L s.heap (HiAt w.params hx hv rl k3 k4 k5 k6 k7 t3 ((rl, listOf #[] nr) :: (du, listOf dv.toArray nd) :: rest)))
    (hoff : OwnOff rest [rl, du]) (hdv : dv.length ≤ 100)
    (ret : ∀ (m' : Str → Option Value) (h' : Heap) (tk' : Nat) (cg' tp' : Addr) (nr' nd' ng' : Nat) (t4 t5 t6 t7 t8 : Tok), m' (Str.ofString "the_turn") = some (.int k tt) → m' (Str.ofString "deck") = some (.ref dk) → m' (Str.ofString "amalgam") = some (.ref ax) → m' (Str.ofString "history") = some (.ref hx) → 
      m' (Str.ofString "last") = some (.str sort ts) → m' (Str.ofString "many") = some (.int 1 t4) → m' (Str.ofString "due") = some (.ref du) → m' (Str.ofString "sort") = some (.str sort ts) →
      @LT.lt Nat _ du cg' → AllLt cg' rest → @LT.lt Nat _ cg' tp' → Fr h₀ L h' m' → News h₀ L h' (HiAt w.params hx hv rl k3 k4 k5 k6 k7 t3 ((rl, listOf (([] : List Value) ++ [Value.ref tp']).toArray nr') :: (du, listOf (dv ++ [Value.ref cg']).toArray nd') :: (tp', tupO [.str (Str.ofString "insert") t5, .int (5 * k + 5) t6, .int (5 * k + 5 + 1) t7] 0) :: (cg', listOf #[.int (5 * k + 5) t8] ng') :: rest)) →
      Q .next { s with heap := h', toks := tk' }) :
    wpAny (model PySem.Challenge.rw_np0013_01.row.prog w) (callerA.deeper (envOf (Str.ofString "law") lawScope L fa ccd)) (execs (sAt 5 :: sAt 6 :: sAt 7 :: sAt 8 :: []) (envOf (Str.ofString "law") lawScope L fa ccd)) Q E s := by
  revert X; k_fill; intro X
  dsimp only [sAt, turnBody, lawScope, lawStmt, PySem.Challenge.pw_np0013_01, List.getD, fnBody, fnScope, forBody, List.getElem?_cons_succ, List.getElem?_cons_zero, Option.getD, List.drop]
  replace F := fr_norm F e1 e2 e3 e4 e9 e6 e7 e8
  repeat' (first | (k_unfold; (try dsimp only)) | (k_end; wrow_close) | (walk1 <;> (try dsimp only)) | (leave1; walk_say "STEP leave1"; try dsimp only) | fail "no step")
  repeat (with_reducible rename _ ∧ _ => hcj; obtain ⟨hcjl, hcjr⟩ := hcj)
  refine' ret _ _ _ _ _ _ _ _ _ _ _ _ _ ?r1 ?r2 ?r3 ?r4 ?r5 ?r6 ?r7 ?r8 ?o1 ?o2 ?o3 ?F ?N
  case F => assumption
  case N => exact news_sub (by assumption) (by k_allIn)
  case r1 => rfl
  case r2 => rfl
  case r3 => rfl
  case r4 => rfl
  case r5 => rfl
  case r6 => rfl
  case r7 => rfl
  case r8 => rfl
  case o1 => omega
  case o2 => assumption
  case o3 => omega
end Mine
end
section
open PySem PySem.W PyProof.Rows
open PySem.Calls PyProof.V PySem.Spec
set_option maxHeartbeats 8000000
namespace Mine
local macro_rules | `(tactic| walk_at "call builtin:len") => `(tactic| (k_here; (with_reducible show wpAny _ _ (call (Value.builtin "len") [Value.ref _]) _ _ _); k_dflt (refine' len_snoc ?k1 ?k2 ?k3 ?_; (case k1 => k_asm); (case k2 => k_memK); (case k3 => first | omega | (simp only [List.length_append, List.length_cons, List.length_nil]; omega)))))
local macro_rules | `(tactic| walk_at "subscriptTail") => `(tactic| (k_here; (with_reducible show wpAny _ _ (subscriptTail _ (PySem.Expr.UnaryOp _ _ _) (Value.ref _) (Value.int _ _)) _ _ _); k_dflt (refine' item_snoc ?k1 ?k2 ?k3 ?_; (case k1 => k_asm); (case k2 => k_memK); (case k3 => first | omega | (simp only [List.length_append, List.length_cons, List.length_nil]; omega)))))
local macro_rules | `(tactic| walk_at "call builtin:list.append") => `(tactic| (k_here; k_dflt (refine' append_snoc ?k1 ?k2 ?k3 ?k4 ?_; (case k1 => k_asm); (case k2 => k_asm); (case k3 => k_upd); (case k4 => first | omega | (simp only [List.length_append, List.length_cons, List.length_nil]; omega))); intro h' F' N'; (try k_sweep)))
local macro_rules | `(tactic| walk_at "compareOp Eq ref ref") => `(tactic| (k_here; k_dflt (refine' eq_rowB ?k1 ?k2 ?k3 ?k4 ?k5 ?k6 ?_; (case k1 => k_asm); (case k2 => k_memK); (case k3 => exact tupK (by k_in) (by k_is)); (case k4 => decide +kernel); (case k5 => decide +kernel); (case k6 => units_room))))
local macro_rules | `(tactic| walk_at "compareOp Eq int int") => `(tactic| (k_here; (first | refine eqi_ff (by omega) ?_ | refine eqi_tt (by omega) ?_)))
local macro_rules | `(tactic| walk_at "compareOp Lt int int") => `(tactic| (k_here; (first | refine lti_tt (by omega) ?_ | refine lti_ff (by omega) ?_)))
local macro_rules | `(tactic| walk_at "compareOp Eq str str") => `(tactic| (first
  | (refine eq_str_tt (by first | with_reducible assumption | exact beq_self_eq_true _ | decide +kernel) ?_; walk_say "TT") | (refine eq_str_ff (by first | with_reducible assumption | decide +kernel) ?_; walk_say "FF")))
local macro_rules | `(tactic| walk_at "compareOp NotEq str str") => `(tactic| (first
  | (refine ne_str_tt (by first | with_reducible assumption | exact beq_self_eq_true _ | decide +kernel) ?_; walk_say "TT") | (refine ne_str_ff (by first | with_reducible assumption | decide +kernel) ?_; walk_say "FF")))
local macro_rules | `(tactic| walk_at "subscriptTail Name UnaryOp ref int") => `(tactic| (k_here; (with_reducible show wpAny _ _ (subscriptTail _ (PySem.Expr.UnaryOp _ _ _) (Value.ref _) (Value.int _ _)) _ _ _); k_dflt (refine' item_snoc ?k1 ?k2 ?k3 ?_; (case k1 => k_asm); (case k2 => k_memK); (case k3 => first | omega | (simp only [List.length_append, List.length_cons, List.length_nil]; omega)))))
local macro_rules | `(tactic| walk_at "subscriptTail Attribute Name UnaryOp ref int") => `(tactic| (k_here; (with_reducible show wpAny _ _ (subscriptTail _ (PySem.Expr.UnaryOp _ _ _) (Value.ref _) (Value.int _ _)) _ _ _); k_dflt (refine' item_snoc ?k1 ?k2 ?k3 ?_; (case k1 => k_asm); (case k2 => k_memK); (case k3 => first | omega | (simp only [List.length_append, List.length_cons, List.length_nil]; omega)))))
local macro_rules | `(tactic| k_allIn) => `(tactic| (intro pT hT; k_ownIn))
theorem l69_join {w : World} {loose : List Str} {mean : ExcName → Option Value} {mg mb : Str → Option Value}
    (fa : Addr) (ccd : Value) (h₀ : Heap) (L : Addr) (m : Str → Option Value) (s : Shared) (Q : Flow → Shared → Prop) (E : Value → Shared → Prop)
    (dk ax hx hv rl du : Addr) (k3 k4 k5 k6 k7 t3 : Tok) (k : Int) (tt tl tm ts : Tok) (last sort : Str) (mn : Int)
    (rs : List Value) (nr : Nat) (dv : List Value) (nd : Nat) (rest : List (Addr × Obj))
    (B : Below callerA h₀ [] h₀) (F : Fr h₀ L s.heap m) (X : (hd.heap_39 w.params).In h₀) (T : Top hd.view_39 loose mean mg mb h₀)
    (e1 : m (Str.ofString "the_turn") = some (.int k tt)) (e2 : m (Str.ofString "deck") = some (.ref dk)) (e3 : m (Str.ofString "amalgam") = some (.ref ax)) (e4 : m (Str.ofString "history") = some (.ref hx))
    (e6 : m (Str.ofString "many") = some (.int mn tm)) (e7 : m (Str.ofString "due") = some (.ref du)) (e8 : m (Str.ofString "sort") = some (.str sort ts))
    (hk0 : 0 ≤ k) (hk1 : k < 40)
    (o6 : @LT.lt Nat _ hv hx) (o7 : @LT.lt Nat _ hx rl) (o8 : @LT.lt Nat _ rl du)
    (tp cg : Addr) (tn : Nat) (ta : Int) (tu1 tu2 tu3 : Tok) (gs : List Value) (ng : Nat)
    (e9 : m (Str.ofString "the_begins") = some (.bool false))
    (N : News h₀ L s.heap (HiAt w.params hx hv rl k3 k4 k5 k6 k7 t3 ((rl, listOf (rs ++ [Value.ref tp]).toArray nr) :: (du, listOf (dv ++ [Value.ref cg]).toArray nd) :: (tp, tupO [.str (Str.ofString "insert") tu1, .int ta tu2, .int (ta + 1) tu3] tn) :: (cg, listOf gs.toArray ng) :: rest)))
    (hoff : OwnOff rest [rl, du, cg, tp]) (o9 : @LT.lt Nat _ du cg) (o10 : @LT.lt Nat _ cg tp) (hrs : rs.length ≤ 100) (hdv : dv.length ≤ 100) (hgs : gs.length ≤ 100) (hta : ta = 5 * k)
    (ret : ∀ (m' : Str → Option Value) (h' : Heap) (tk' : Nat) (tp' : Addr) (nr' nd' ng' : Nat) (t4 t5 t6 t7 t8 : Tok), m' (Str.ofString "the_turn") = some (.int k tt) → m' (Str.ofString "deck") = some (.ref dk) → m' (Str.ofString "amalgam") = some (.ref ax) → m' (Str.ofString "history") = some (.ref hx) → 
      m' (Str.ofString "last") = some (.str sort ts) → m' (Str.ofString "many") = some (.int (mn + 1) t4) → m' (Str.ofString "due") = some (.ref du) → m' (Str.ofString "sort") = some (.str sort ts) →
      AllLt tp' ((tp, tupO [.str (Str.ofString "insert") tu1, .int ta tu2, .int (ta + 1) tu3] tn) :: rest) → @LT.lt Nat _ cg tp' → @LT.lt Nat _ du tp' → Fr h₀ L h' m' → News h₀ L h' (HiAt w.params hx hv rl k3 k4 k5 k6 k7 t3 ((rl, listOf (rs ++ [Value.ref tp] ++ [Value.ref tp']).toArray nr') :: (du, listOf (dv ++ [Value.ref cg]).toArray nd') :: (tp', tupO [.str (Str.ofString "insert") t5, .int (5 * k + 5) t6, .int (5 * k + 5 + 1) t7] 0) :: (cg, listOf (gs ++ [Value.int (5 * k + 5) t8]).toArray ng') :: (tp, tupO [.str (Str.ofString "insert") tu1, .int ta tu2, .int (ta + 1) tu3] tn) :: rest)) →
      Q .next { s with heap := h', toks := tk' }) :
    wpAny (model PySem.Challenge.rw_np0013_01.row.prog w) (callerA.deeper (envOf (Str.ofString "law") lawScope L fa ccd)) (execs (sAt 5 :: sAt 6 :: sAt 7 :: sAt 8 :: []) (envOf (Str.ofString "law") lawScope L fa ccd)) Q E s := by
  revert X; k_fill; intro X
  dsimp only [sAt, turnBody, lawScope, lawStmt, PySem.Challenge.pw_np0013_01, List.getD, fnBody, fnScope, forBody, List.getElem?_cons_succ, List.getElem?_cons_zero, Option.getD, List.drop]
  replace F := fr_norm F e1 e2 e3 e4 e9 e6 e7 e8
  repeat' (first | (k_unfold; (try dsimp only)) | (k_end; wrow_close) | (walk1 <;> (try dsimp only)) | (leave1; walk_say "STEP leave1"; try dsimp only) | fail "no step")
  repeat (with_reducible rename _ ∧ _ => hcj; obtain ⟨hcjl, hcjr⟩ := hcj)
  refine' ret _ _ _ _ _ _ _ _ _ _ _ _ ?r1 ?r2 ?r3 ?r4 ?r5 ?r6 ?r7 ?r8 ?o1 ?o2 ?o3 ?F ?N
  case F => assumption
  case N => exact news_sub (by assumption) (by k_allIn)
  case r1 => rfl
  case r2 => rfl
  case r3 => rfl
  case r4 => rfl
  case r5 => rfl
  case r6 => rfl
  case r7 => rfl
  case r8 => rfl
  case o1 => exact ⟨by omega, by assumption⟩
  case o2 => omega
  case o3 => omega
end Mine
end
section
open PySem PySem.W PyProof.Rows
open PySem.Calls PyProof.V PySem.Spec
set_option maxHeartbeats 8000000
namespace Mine
local macro_rules | `(tactic| walk_at "call builtin:len") => `(tactic| (k_here; (with_reducible show wpAny _ _ (call (Value.builtin "len") [Value.ref _]) _ _ _); k_dflt (refine' len_snoc ?k1 ?k2 ?k3 ?_; (case k1 => k_asm); (case k2 => k_memK); (case k3 => first | omega | (simp only [List.length_append, List.length_cons, List.length_nil]; omega)))))
local macro_rules | `(tactic| walk_at "subscriptTail") => `(tactic| (k_here; (with_reducible show wpAny _ _ (subscriptTail _ (PySem.Expr.UnaryOp _ _ _) (Value.ref _) (Value.int _ _)) _ _ _); k_dflt (refine' item_snoc ?k1 ?k2 ?k3 ?_; (case k1 => k_asm); (case k2 => k_memK); (case k3 => first | omega | (simp only [List.length_append, List.length_cons, List.length_nil]; omega)))))
local macro_rules | `(tactic| walk_at "call builtin:list.append") => `(tactic| (k_here; k_dflt (refine' append_snoc ?k1 ?k2 ?k3 ?k4 ?_; (case k1 => k_asm); (case k2 => k_asm); (case k3 => k_upd); (case k4 => first | omega | (simp only [List.length_append, List.length_cons, List.length_nil]; omega))); intro h' F' N'; (try k_sweep)))
local macro_rules | `(tactic| walk_at "compareOp Eq ref ref") => `(tactic| (k_here; k_dflt (refine' eq_rowB ?k1 ?k2 ?k3 ?k4 ?k5 ?k6 ?_; (case k1 => k_asm); (case k2 => k_memK); (case k3 => exact tupK (by k_in) (by k_is)); (case k4 => decide +kernel); (case k5 => decide +kernel); (case k6 => units_room))))
local macro_rules | `(tactic| walk_at "compareOp Eq int int") => `(tactic| (k_here; (first | refine eqi_ff (by omega) ?_ | refine eqi_tt (by omega) ?_)))
local macro_rules | `(tactic| walk_at "compareOp Lt int int") => `(tactic| (k_here; (first | refine lti_tt (by omega) ?_ | refine lti_ff (by omega) ?_)))
local macro_rules | `(tactic| walk_at "compareOp Eq str str") => `(tactic| (first
  | (refine eq_str_tt (by first | with_reducible assumption | exact beq_self_eq_true _ | decide +kernel) ?_; walk_say "TT") | (refine eq_str_ff (by first | with_reducible assumption | decide +kernel) ?_; walk_say "FF")))
local macro_rules | `(tactic| walk_at "compareOp NotEq str str") => `(tactic| (first
  | (refine ne_str_tt (by first | with_reducible assumption | exact beq_self_eq_true _ | decide +kernel) ?_; walk_say "TT") | (refine ne_str_ff (by first | with_reducible assumption | decide +kernel) ?_; walk_say "FF")))
local macro_rules | `(tactic| walk_at "subscriptTail Name UnaryOp ref int") => `(tactic| (k_here; (with_reducible show wpAny _ _ (subscriptTail _ (PySem.Expr.UnaryOp _ _ _) (Value.ref _) (Value.int _ _)) _ _ _); k_dflt (refine' item_snoc ?k1 ?k2 ?k3 ?_; (case k1 => k_asm); (case k2 => k_memK); (case k3 => first | omega | (simp only [List.length_append, List.length_cons, List.length_nil]; omega)))))
local macro_rules | `(tactic| walk_at "subscriptTail Attribute Name UnaryOp ref int") => `(tactic| (k_here; (with_reducible show wpAny _ _ (subscriptTail _ (PySem.Expr.UnaryOp _ _ _) (Value.ref _) (Value.int _ _)) _ _ _); k_dflt (refine' item_snoc ?k1 ?k2 ?k3 ?_; (case k1 => k_asm); (case k2 => k_memK); (case k3 => first | omega | (simp only [List.length_append, List.length_cons, List.length_nil]; omega)))))
local macro_rules | `(tactic| k_allIn) => `(tactic| (intro pT hT; k_ownIn))
section
variable {prog : Program} {w : World} {A : Around} {E : Value → Shared → Prop} {s : Shared} {h₀ : Heap} {L l : Addr} {m : Str → Option Value} {news news' : List (Addr × Obj)} {n : Nat}
theorem item_menu {value : PySem.Expr} {y x0 x1 x2 : Str} {pos : Pos} {t0 t1 t2 u : Tok} {k : Int} {Q : Value → Shared → Prop} (N : News h₀ L s.heap news) (hm : (l, listOf #[.str x0 t0, .str x1 t1, .str x2 t2] n) ∈ news) (h0 : 0 ≤ k) (h3 : k < 3) (h : ∀ x t, Q (.str x t) s) :
    wpAny (model prog w) A (subscriptTail value (.Name y pos) (.ref l) (.int k u)) Q E s := by
  have hl := News.isList N hm
  have hs : subscripted (PySem.Expr.Name y pos) false (.ref l) (.int k u) = operate [.ref l, .int k u] (getItem (.ref l) (.int k u)) := by with_unfolding_all rfl
  have hk : k = 0 ∨ k = 1 ∨ k = 2 := by omega
  rcases hk with rfl | rfl | rfl
  · exact tail_any hl.typeIs slot_list_getitem.lookup (wpAny_getItem_list (x := .str x0 t0) hl (by decide) (by decide) (by simp) (h x0 t0)) hs
  · exact tail_any hl.typeIs slot_list_getitem.lookup (wpAny_getItem_list (x := .str x1 t1) hl (by decide) (by decide) (by simp) (h x1 t1)) hs
  · exact tail_any hl.typeIs slot_list_getitem.lookup (wpAny_getItem_list (x := .str x2 t2) hl (by decide) (by decide) (by simp) (h x2 t2)) hs
end
local macro_rules | `(tactic| walk_at "subscriptTail Name Name ref int") => `(tactic| (k_here; k_dflt (refine' item_menu ?k1 ?k2 ?k3 ?k4 ?_; (case k1 => k_asm); (case k2 => k_memK); (case k3 => omega); (case k4 => omega)); intro xM tM))
local macro_rules | `(tactic| walk_at "call ref") => `(tactic| (k_here; (with_reducible show wpAny _ _ (call (Value.ref 160) [Value.ref _, Value.int _ _]) _ _ _); k_dflt (refine' draw_ok _ _ _ _ _ _ _ _ _ _ _ _ _ _ _ _ _ _ _ _ _ _ _ _ _ _ _ _ _ _ _ _ ?B ?F ?X ?N ?T ?hk ?hus ?hvs ?hx ?hy ?hy2 ?o1 ?o2 ?hoff ?hm0 ?hm1 ?hd ?hu ?_; (case B => assumption); (case F => assumption); (case X => assumption); (case N => assumption); (case T => assumption); (case hk => exact rfl); (case hus => assumption); (case hvs => assumption); (case hx => assumption); (case hy => assumption); (case hy2 => assumption); (case o1 => assumption); (case o2 => assumption); (case hoff => assumption); (case hm0 => decide); (case hm1 => decide); (case hd => ktr_room); (case hu => ktr_units)); intro rD tD usD xsD cD tD2 nD n0D n1D hD tkD hD0 hD1 hDi hDl F' N'; walk_say "DRAWN"))
theorem l12 {w : World} {loose : List Str} {mean : ExcName → Option Value} {mg mb : Str → Option Value}
    (fa : Addr) (ccd : Value) (h₀ : Heap) (L : Addr) (m : Str → Option Value) (s : Shared) (Q : Flow → Shared → Prop) (E : Value → Shared → Prop) (tailS : List Stmt)
    (dk d0 d1 ax hx du : Addr) (us vs : List Value) (xs ys : List Int) (c : Int) (t : Tok) (n n0 n1 : Nat) (k : Int) (tt tl tm ts : Tok) (last sort : Str) (mn : Int) (rest : List (Addr × Obj))
    (B : Below callerA h₀ [] h₀) (F : Fr h₀ L s.heap m) (X : (hd.heap_39 w.params).In h₀) (T : Top hd.view_39 loose mean mg mb h₀)
    (e1 : m (Str.ofString "the_turn") = some (.int k tt)) (e2 : m (Str.ofString "deck") = some (.ref dk)) (e3 : m (Str.ofString "amalgam") = some (.ref ax)) (e4 : m (Str.ofString "history") = some (.ref hx))
    (e5 : m (Str.ofString "last") = some (.str last tl)) (e6 : m (Str.ofString "many") = some (.int mn tm)) (e7 : m (Str.ofString "due") = some (.ref du)) (e8 : m (Str.ofString "sort") = some (.str sort ts))
    (hus : IntsAre us xs) (hvs : IntsAre vs ys) (hxs : xs.length ≤ 20) (hys : 0 < ys.length) (hys' : ys.length ≤ 21)
    (o1 : @LT.lt Nat _ d0 d1) (o2 : @LT.lt Nat _ d1 dk)
    (N : News h₀ L s.heap (DeckAt dk d0 d1 us vs c t n n0 n1 rest)) (hoff : OwnOff rest [dk, d0, d1])
    (ret : ∀ (m' : Str → Option Value) (h' : Heap) (tk' : Nat) (us' : List Value) (xs' : List Int) (c' : Int) (t' : Tok) (n' n0' n1' : Nat) (sort' : Str) (ts' : Tok), m' (Str.ofString "the_turn") = some (.int k tt) → m' (Str.ofString "deck") = some (.ref dk) → m' (Str.ofString "amalgam") = some (.ref ax) → m' (Str.ofString "history") = some (.ref hx) → 
      m' (Str.ofString "last") = some (.str last tl) → m' (Str.ofString "many") = some (.int mn tm) → m' (Str.ofString "due") = some (.ref du) → m' (Str.ofString "sort") = some (.str sort' ts') → IntsAre us' xs' → xs'.length ≤ 20 → Fr h₀ L h' m' → News h₀ L h' (DeckAt dk d0 d1 us' vs c' t' n' n0' n1' (rest)) →
      wpAny (model PySem.Challenge.rw_np0013_01.row.prog w) (callerA.deeper (envOf (Str.ofString "law") lawScope L fa ccd)) (execs tailS (envOf (Str.ofString "law") lawScope L fa ccd)) Q E { s with heap := h', toks := tk' }) :
    wpAny (model PySem.Challenge.rw_np0013_01.row.prog w) (callerA.deeper (envOf (Str.ofString "law") lawScope L fa ccd)) (execs (sAt 0 :: sAt 1 :: tailS) (envOf (Str.ofString "law") lawScope L fa ccd)) Q E s := by
  revert X; k_fill; intro X
  dsimp only [sAt, turnBody, lawScope, lawStmt, PySem.Challenge.pw_np0013_01, List.getD, fnBody, fnScope, forBody, List.getElem?_cons_succ, List.getElem?_cons_zero, Option.getD, List.drop]
  replace F := fr_norm F e1 e2 e3 e4 e5 e6 e7 e8
  repeat' (first | (k_unfold; (try dsimp only)) | (k_end; wrow_close) | (walk1 <;> (try dsimp only)) | (leave1; walk_say "STEP leave1"; try dsimp only) | fail "no step")
  · refine' ret _ _ _ _ _ _ _ _ _ _ _ _ ?r1 ?r2 ?r3 ?r4 ?r5 ?r6 ?r7 ?r8 ?i ?l ?F ?N
    case F => assumption
    case N => exact news_sub (by assumption) (by k_allIn)
    case r1 => rfl
    case r2 => rfl
    case r3 => rfl
    case r4 => rfl
    case r5 => rfl
    case r6 => rfl
    case r7 => rfl
    case r8 => rfl
    case i => assumption
    case l => assumption
  · refine' ret _ _ _ _ _ _ _ _ _ _ _ _ ?r1 ?r2 ?r3 ?r4 ?r5 ?r6 ?r7 ?r8 ?i ?l ?F ?N
    case F => assumption
    case N => exact news_sub (by assumption) (by k_allIn)
    case r1 => rfl
    case r2 => rfl
    case r3 => rfl
    case r4 => rfl
    case r5 => rfl
    case r6 => rfl
    case r7 => rfl
    case r8 => rfl
    case i => assumption
    case l => assumption
end Mine
end
section
open PySem PySem.W PyProof.Rows
open PySem.Calls PyProof.V PySem.Spec
set_option maxHeartbeats 8000000
namespace Mine
local macro_rules | `(tactic| walk_at "call builtin:len") => `(tactic| (k_here; (with_reducible show wpAny _ _ (call (Value.builtin "len") [Value.ref _]) _ _ _); k_dflt (refine' len_snoc ?k1 ?k2 ?k3 ?_; (case k1 => k_asm); (case k2 => k_memK); (case k3 => first | omega | (simp only [List.length_append, List.length_cons, List.length_nil]; omega)))))
local macro_rules | `(tactic| walk_at "subscriptTail") => `(tactic| (k_here; (with_reducible show wpAny _ _ (subscriptTail _ (PySem.Expr.UnaryOp _ _ _) (Value.ref _) (Value.int _ _)) _ _ _); k_dflt (refine' item_snoc ?k1 ?k2 ?k3 ?_; (case k1 => k_asm); (case k2 => k_memK); (case k3 => first | omega | (simp only [List.length_append, List.length_cons, List.length_nil]; omega)))))
local macro_rules | `(tactic| walk_at "call builtin:list.append") => `(tactic| (k_here; k_dflt (refine' append_snoc ?k1 ?k2 ?k3 ?k4 ?_; (case k1 => k_asm); (case k2 => k_asm); (case k3 => k_upd); (case k4 => first | omega | (simp only [List.length_append, List.length_cons, List.length_nil]; omega))); intro h' F' N'; (try k_sweep)))
local macro_rules | `(tactic| walk_at "compareOp Eq ref ref") => `(tactic| (k_here; k_dflt (refine' eq_rowB ?k1 ?k2 ?k3 ?k4 ?k5 ?k6 ?_; (case k1 => k_asm); (case k2 => k_memK); (case k3 => exact tupK (by k_in) (by k_is)); (case k4 => decide +kernel); (case k5 => decide +kernel); (case k6 => units_room))))
local macro_rules | `(tactic| walk_at "compareOp Eq int int") => `(tactic| (k_here; (first | refine eqi_ff (by omega) ?_ | refine eqi_tt (by omega) ?_)))
local macro_rules | `(tactic| walk_at "compareOp Lt int int") => `(tactic| (k_here; (first | refine lti_tt (by omega) ?_ | refine lti_ff (by omega) ?_)))
local macro_rules | `(tactic| walk_at "compareOp Eq str str") => `(tactic| (first
  | (refine eq_str_tt (by first | with_reducible assumption | exact beq_self_eq_true _ | decide +kernel) ?_; walk_say "TT") | (refine eq_str_ff (by first | with_reducible assumption | decide +kernel) ?_; walk_say "FF")))
local macro_rules | `(tactic| walk_at "compareOp NotEq str str") => `(tactic| (first
  | (refine ne_str_tt (by first | with_reducible assumption | exact beq_self_eq_true _ | decide +kernel) ?_; walk_say "TT") | (refine ne_str_ff (by first | with_reducible assumption | decide +kernel) ?_; walk_say "FF")))
local macro_rules | `(tactic| walk_at "subscriptTail Name UnaryOp ref int") => `(tactic| (k_here; (with_reducible show wpAny _ _ (subscriptTail _ (PySem.Expr.UnaryOp _ _ _) (Value.ref _) (Value.int _ _)) _ _ _); k_dflt (refine' item_snoc ?k1 ?k2 ?k3 ?_; (case k1 => k_asm); (case k2 => k_memK); (case k3 => first | omega | (simp only [List.length_append, List.length_cons, List.length_nil]; omega)))))
local macro_rules | `(tactic| walk_at "subscriptTail Attribute Name UnaryOp ref int") => `(tactic| (k_here; (with_reducible show wpAny _ _ (subscriptTail _ (PySem.Expr.UnaryOp _ _ _) (Value.ref _) (Value.int _ _)) _ _ _); k_dflt (refine' item_snoc ?k1 ?k2 ?k3 ?_; (case k1 => k_asm); (case k2 => k_memK); (case k3 => first | omega | (simp only [List.length_append, List.length_cons, List.length_nil]; omega)))))
local macro_rules | `(tactic| k_allIn) => `(tactic| (intro pT hT; k_ownIn))
local macro_rules | `(tactic| walk_at "subscriptTail Name Name ref int") => `(tactic| (k_here; k_dflt (refine' item_menu ?k1 ?k2 ?k3 ?k4 ?_; (case k1 => k_asm); (case k2 => k_memK); (case k3 => omega); (case k4 => omega)); intro xM tM))
local macro_rules | `(tactic| walk_at "call ref") => `(tactic| (k_here; (with_reducible show wpAny _ _ (call (Value.ref 160) [Value.ref _, Value.int _ _]) _ _ _); k_dflt (refine' draw_ok _ _ _ _ _ _ _ _ _ _ _ _ _ _ _ _ _ _ _ _ _ _ _ _ _ _ _ _ _ _ _ _ ?B ?F ?X ?N ?T ?hk ?hus ?hvs ?hx ?hy ?hy2 ?o1 ?o2 ?hoff ?hm0 ?hm1 ?hd ?hu ?_; (case B => assumption); (case F => assumption); (case X => assumption); (case N => assumption); (case T => assumption); (case hk => exact rfl); (case hus => assumption); (case hvs => assumption); (case hx => assumption); (case hy => assumption); (case hy2 => assumption); (case o1 => assumption); (case o2 => assumption); (case hoff => assumption); (case hm0 => decide); (case hm1 => decide); (case hd => ktr_room); (case hu => ktr_units)); intro rD tD usD xsD cD tD2 nD n0D n1D hD tkD hD0 hD1 hDi hDl F' N'; walk_say "DRAWN"))
theorem l3 {w : World} {loose : List Str} {mean : ExcName → Option Value} {mg mb : Str → Option Value}
    (fa : Addr) (ccd : Value) (h₀ : Heap) (L : Addr) (m : Str → Option Value) (s : Shared) (Q : Flow → Shared → Prop) (E : Value → Shared → Prop) (tailS : List Stmt)
    (dk d0 d1 ax hx du : Addr) (us vs : List Value) (xs ys : List Int) (c : Int) (t : Tok) (n n0 n1 : Nat) (k : Int) (tt tl tm ts : Tok) (last sort : Str) (mn : Int) (rest : List (Addr × Obj))
    (B : Below callerA h₀ [] h₀) (F : Fr h₀ L s.heap m) (X : (hd.heap_39 w.params).In h₀) (T : Top hd.view_39 loose mean mg mb h₀)
    (e1 : m (Str.ofString "the_turn") = some (.int k tt)) (e2 : m (Str.ofString "deck") = some (.ref dk)) (e3 : m (Str.ofString "amalgam") = some (.ref ax)) (e4 : m (Str.ofString "history") = some (.ref hx))
    (e5 : m (Str.ofString "last") = some (.str last tl)) (e6 : m (Str.ofString "many") = some (.int mn tm)) (e7 : m (Str.ofString "due") = some (.ref du)) (e8 : m (Str.ofString "sort") = some (.str sort ts))
    (hus : IntsAre us xs) (hvs : IntsAre vs ys) (hxs : xs.length ≤ 20) (hys : 0 < ys.length) (hys' : ys.length ≤ 21)
    (o1 : @LT.lt Nat _ d0 d1) (o2 : @LT.lt Nat _ d1 dk)
    (ad : Addr) (k1 k2 t1 t2 : Tok) (so : Str) (mo : Int) (o3 : @LT.lt Nat _ dk ad) (o4 : @LT.lt Nat _ ad ax)
    (N : News h₀ L s.heap (DeckAt dk d0 d1 us vs c t n n0 n1 (AmAt w.params ax ad k1 k2 so mo t1 t2 rest))) (hoffr : OwnOff rest [dk, d0, d1, ad])
    (ret : ∀ (m' : Str → Option Value) (h' : Heap) (tk' : Nat) (us' : List Value) (xs' : List Int) (c' : Int) (t' : Tok) (n' n0' n1' : Nat) (last' so' : Str) (tl' t1' t2' : Tok) (mo' : Int), m' (Str.ofString "the_turn") = some (.int k tt) → m' (Str.ofString "deck") = some (.ref dk) → m' (Str.ofString "amalgam") = some (.ref ax) → m' (Str.ofString "history") = some (.ref hx) → 
      m' (Str.ofString "last") = some (.str last' tl') → m' (Str.ofString "many") = some (.int mn tm) → m' (Str.ofString "due") = some (.ref du) → m' (Str.ofString "sort") = some (.str sort ts) → (last' = last ∧ so' = so ∧ mo' = mo ∨ last' = Str.ofString "" ∧ so' = Str.ofString "" ∧ mo' = 0) → IntsAre us' xs' → xs'.length ≤ 20 → Fr h₀ L h' m' → News h₀ L h' (DeckAt dk d0 d1 us' vs c' t' n' n0' n1' (AmAt w.params ax ad k1 k2 so' mo' t1' t2' rest)) →
      wpAny (model PySem.Challenge.rw_np0013_01.row.prog w) (callerA.deeper (envOf (Str.ofString "law") lawScope L fa ccd)) (execs tailS (envOf (Str.ofString "law") lawScope L fa ccd)) Q E { s with heap := h', toks := tk' }) :
    wpAny (model PySem.Challenge.rw_np0013_01.row.prog w) (callerA.deeper (envOf (Str.ofString "law") lawScope L fa ccd)) (execs (sAt 2 :: tailS) (envOf (Str.ofString "law") lawScope L fa ccd)) Q E s := by
  revert X; k_fill; intro X
  dsimp only [sAt, turnBody, lawScope, lawStmt, PySem.Challenge.pw_np0013_01, List.getD, fnBody, fnScope, forBody, List.getElem?_cons_succ, List.getElem?_cons_zero, Option.getD, List.drop]
  replace F := fr_norm F e1 e2 e3 e4 e5 e6 e7 e8
  have hoff : OwnOff (AmAt w.params ax ad k1 k2 so mo t1 t2 rest) [dk, d0, d1] := off_cons (by k_all) (off_cons (by k_all) (off_sub hoffr (by k_allIn)))
  have hoff2 : OwnOff rest [ad] := off_sub hoffr (by k_allIn)
  repeat' (first | (k_unfold; (try dsimp only)) | (k_end; wrow_close) | (walk1 <;> (try dsimp only)) | (leave1; walk_say "STEP leave1"; try dsimp only) | fail "no step")
  · refine' ret _ _ _ _ _ _ _ _ _ _ _ _ _ _ _ _ ?r1 ?r2 ?r3 ?r4 ?r5 ?r6 ?r7 ?r8 ?dj ?i ?l ?F ?N
    case F => assumption
    case N => exact news_sub (by assumption) (by k_allIn)
    case r1 => rfl
    case r2 => rfl
    case r3 => rfl
    case r4 => rfl
    case r5 => rfl
    case r6 => rfl
    case r7 => rfl
    case r8 => rfl
    case dj => first | exact .inl ⟨rfl, rfl, rfl⟩ | exact .inr ⟨rfl, rfl, rfl⟩
    case i => assumption
    case l => assumption
  · refine' ret _ _ _ _ _ _ _ _ _ _ _ _ _ _ _ _ ?r1 ?r2 ?r3 ?r4 ?r5 ?r6 ?r7 ?r8 ?dj ?i ?l ?F ?N
    case F => assumption
    case N => exact news_sub (by assumption) (by k_allIn)
    case r1 => rfl
    case r2 => rfl
    case r3 => rfl
    case r4 => rfl
    case r5 => rfl
    case r6 => rfl
    case r7 => rfl
    case r8 => rfl
    case dj => first | exact .inl ⟨rfl, rfl, rfl⟩ | exact .inr ⟨rfl, rfl, rfl⟩
    case i => assumption
    case l => assumption
end Mine
end
section
open PySem PySem.W PyProof.Rows
open PySem.Calls PyProof.V PySem.Spec
set_option maxHeartbeats 1000000
namespace Mine
local macro_rules | `(tactic| k_allIn) => `(tactic| (intro pT hT; k_ownIn))
abbrev insT (tu1 tu2 tu3 : Tok) (ta : Int) (tn : Nat) : Obj := tupO [.str (Str.ofString "insert") tu1, .int ta tu2, .int (ta + 1) tu3] tn
inductive RowIs (led : List (Addr × Obj)) : Value → Option Int → Prop where
  | bnd : RowIs led (.ref 57) none
  | ins {tp : Addr} {t1 t2 t3 : Tok} {a : Int} {n : Nat} : (tp, insT t1 t2 t3 a n) ∈ led → RowIs led (.ref tp) (some a)
inductive RowsAre (led : List (Addr × Obj)) : List Value → List (Option Int) → Prop where
  | nil : RowsAre led [] []
  | cons {v : Value} {r : Option Int} {vs : List Value} {rs : List (Option Int)} : RowIs led v r → RowsAre led vs rs → RowsAre led (v :: vs) (r :: rs)
theorem RowIs.mono {led led' : List (Addr × Obj)} {v : Value} {r : Option Int} (h : RowIs led v r) (hs : ∀ p ∈ led, p ∈ led') : RowIs led' v r := by
  cases h with
  | bnd => exact .bnd
  | ins h => exact .ins (hs _ h)
theorem RowsAre.mono {led led' : List (Addr × Obj)} {vs : List Value} {rs : List (Option Int)} (h : RowsAre led vs rs) (hs : ∀ p ∈ led, p ∈ led') : RowsAre led' vs rs := by
  induction h with
  | nil => exact .nil
  | cons h _ ih => exact .cons (h.mono hs) ih
theorem RowsAre.snoc {led : List (Addr × Obj)} {vs : List Value} {rs : List (Option Int)} {v : Value} {r : Option Int} (h : RowsAre led vs rs) (h1 : RowIs led v r) : RowsAre led (vs ++ [v]) (rs ++ [r]) := by
  induction h with
  | nil => exact .cons h1 .nil
  | cons h _ ih => exact .cons h ih
theorem RowsAre.length {led : List (Addr × Obj)} {vs : List Value} {rs : List (Option Int)} (h : RowsAre led vs rs) : vs.length = rs.length := by
  induction h with
  | nil => rfl
  | cons _ _ ih => simp [ih]
theorem RowsAre.get {led : List (Addr × Obj)} {vs : List Value} {rs : List (Option Int)} (h : RowsAre led vs rs) : ∀ {i : Nat} {v : Value}, vs[i]? = some v → ∃ r, rs[i]? = some r ∧ RowIs led v r := by
  induction h with
  | nil => intro i v hv; simp at hv
  | cons h _ ih =>
    intro i v hv
    cases i with
    | zero => simp at hv; subst hv; exact ⟨_, by simp, h⟩
    | succ i => exact ih (by simpa using hv)
inductive GroupsAre (led : List (Addr × Obj)) : List Value → List (List Int) → Prop where
  | nil : GroupsAre led [] []
  | cons {g : Addr} {us : List Value} {n : Nat} {gI : List Int} {vs : List Value} {gs : List (List Int)} : (g, listOf us.toArray n) ∈ led → IntsAre us gI → GroupsAre led vs gs → GroupsAre led (.ref g :: vs) (gI :: gs)
theorem GroupsAre.mono {led led' : List (Addr × Obj)} {vs : List Value} {gs : List (List Int)} (h : GroupsAre led vs gs) (hs : ∀ p ∈ led, p ∈ led') : GroupsAre led' vs gs := by
  induction h with
  | nil => exact .nil
  | cons h hi _ ih => exact .cons (hs _ h) hi ih
theorem GroupsAre.snoc {led : List (Addr × Obj)} {vs : List Value} {gs : List (List Int)} {g : Addr} {us : List Value} {n : Nat} {gI : List Int} (h : GroupsAre led vs gs) (h1 : (g, listOf us.toArray n) ∈ led) (h2 : IntsAre us gI) : GroupsAre led (vs ++ [.ref g]) (gs ++ [gI]) := by
  induction h with
  | nil => exact .cons h1 h2 .nil
  | cons h hi _ ih => exact .cons h hi ih
def stp (p : List (List Int) × List Int) : Option Int → List (List Int) × List Int
  | none => (p.1 ++ [p.2], [])
  | some a => (p.1, p.2 ++ [a])
def Shape (du : Addr) (i : Nat) (last : Str) (rs dv : List Value) (rest : List (Addr × Obj)) : Prop :=
  (i = 0 ∧ last = Str.ofString "" ∧ rs = [] ∧ dv = []) ∨
  ∃ (rs' dv' : List Value) (tp : Addr) (tn : Nat) (ta : Int) (tu1 tu2 tu3 : Tok) (cg : Addr) (gs : List Value) (gI : List Int) (ng : Nat) (rest' : List (Addr × Obj)) (rows : List (Option Int)) (old : List (List Int)),
    0 < i ∧ rs = rs' ++ [.ref tp] ∧ dv = dv' ++ [.ref cg] ∧ rest = (tp, insT tu1 tu2 tu3 ta tn) :: (cg, listOf gs.toArray ng) :: rest' ∧ ta = 5 * (i : Int) ∧ @LT.lt Nat _ du cg ∧ @LT.lt Nat _ cg tp ∧ OwnOff rest' [tp, cg] ∧
    IntsAre gs gI ∧ RowsAre ((tp, insT tu1 tu2 tu3 ta tn) :: rest') rs rows ∧ GroupsAre rest' dv' old ∧ rows.foldl stp ([], []) = (old, gI) ∧ rs.length ≤ 2 * i ∧ dv.length ≤ i ∧ gs.length ≤ i
def Inv (P : Params) (dk d0 d1 ax ad hx hv rl du : Addr) (k1 k2 k3 k4 k5 k6 k7 t3 : Tok) (i : Nat) (m : Str → Option Value) (nx : List (Addr × Obj)) : Prop :=
  ∃ (us vs : List Value) (xs ys : List Int) (c : Int) (tc : Tok) (n n0 n1 : Nat) (so : Str) (mo : Int) (t1 t2 : Tok) (nr nd : Nat) (last sort : Str) (tl tm ts : Tok) (mn : Int) (rest : List (Addr × Obj)) (rs dv : List Value),
    m (Str.ofString "deck") = some (.ref dk) ∧ m (Str.ofString "amalgam") = some (.ref ax) ∧ m (Str.ofString "history") = some (.ref hx) ∧ m (Str.ofString "last") = some (.str last tl) ∧ m (Str.ofString "many") = some (.int mn tm) ∧
    m (Str.ofString "due") = some (.ref du) ∧ m (Str.ofString "sort") = some (.str sort ts) ∧
    IntsAre us xs ∧ IntsAre vs ys ∧ xs.length ≤ 20 ∧ 0 < ys.length ∧ ys.length ≤ 21 ∧
    nx = DeckAt dk d0 d1 us vs c tc n n0 n1 (AmAt P ax ad k1 k2 so mo t1 t2 (HiAt P hx hv rl k3 k4 k5 k6 k7 t3 ((rl, listOf rs.toArray nr) :: (du, listOf dv.toArray nd) :: rest))) ∧
    OwnOff rest [dk, d0, d1, ad, rl, du] ∧ so = last ∧ ((last == Str.ofString "") = false → mo = mn ∧ mn ≤ 20) ∧ Shape du i last rs dv rest
theorem turn_split : turnBody = sAt 0 :: sAt 1 :: sAt 2 :: sAt 3 :: sAt 4 :: sAt 5 :: sAt 6 :: sAt 7 :: sAt 8 :: [] := rfl
theorem off_app {r q : List (Addr × Obj)} {adr : List Addr} (h : OwnOff r adr) (h' : OwnOff q adr) : OwnOff (r ++ q) adr := by
  intro p hp b hb
  rcases List.mem_append.mp hp with hp | hp
  · exact h p hp b hb
  · exact h' p hp b hb
theorem off_lt {r : List (Addr × Obj)} {d : Addr} (h : ∀ p ∈ r, @LT.lt Nat _ p.1 d) : OwnOff r [d] := by
  intro p hp b hb
  rw [List.mem_singleton.mp hb]
  exact Nat.ne_of_lt (h p hp)
end Mine
end
section
open PySem PySem.W PyProof.Rows
open PySem.Calls PyProof.V PySem.Spec
set_option maxHeartbeats 1000000
namespace Mine
local macro_rules | `(tactic| k_allIn) => `(tactic| (intro pT hT; k_ownIn))
theorem allLt_app1 {d : Addr} : ∀ {r q : List (Addr × Obj)}, AllLt d (r ++ q) → AllLt d r ∧ AllLt d q := by
  intro r
  induction r with
  | nil => intro q h; exact ⟨trivial, h⟩
  | cons p r ih => intro q h; exact ⟨⟨h.1, (ih h.2).1⟩, (ih h.2).2⟩
theorem mem_app1 {p : Addr × Obj} {r q : List (Addr × Obj)} (h : p ∈ r) : p ∈ r ++ q := List.mem_append.mpr (.inl h)
theorem mem_app2 {p : Addr × Obj} {r q : List (Addr × Obj)} (h : p ∈ q) : p ∈ r ++ q := List.mem_append.mpr (.inr h)

local macro_rules | `(tactic| k_ownIn) => `(tactic| first | (refine mem_app1 ?_; assumption) | (refine mem_app2 ?_; assumption))
theorem own_app {own : List (Addr × Obj)} {a b : List Addr} (h : OwnOff own a) (h' : OwnOff own b) : OwnOff own (a ++ b) := by
  intro p hp x hx
  rcases List.mem_append.mp hx with hx | hx
  · exact h p hp x hx
  · exact h' p hp x hx
theorem own_two {own : List (Addr × Obj)} {a b : Addr} (h : ∀ p ∈ own, @LT.lt Nat _ p.1 b) (hab : @LT.lt Nat _ b a) : OwnOff own [a, b] := by
  intro p hp x hx
  have h1 := h p hp
  simp only [List.mem_cons, List.not_mem_nil, or_false] at hx
  rcases hx with rfl | rfl
  · exact Nat.ne_of_lt (Nat.lt_trans h1 hab)
  · exact Nat.ne_of_lt h1

theorem turn_ok {w : World} {loose : List Str} {mean : ExcName → Option Value} {mg mb : Str → Option Value}
    (fa : Addr) (ccd : Value) (h₀ : Heap) (L : Addr) (s : Shared) (Q : Flow → Shared → Prop) (E : Value → Shared → Prop)
    (dk d0 d1 ax ad hx hv rl du : Addr) (k1 k2 k3 k4 k5 k6 k7 t3 : Tok)
    (B : Below callerA h₀ [] h₀) (X : (hd.heap_39 w.params).In h₀) (T : Top hd.view_39 loose mean mg mb h₀)
    (o1 : @LT.lt Nat _ d0 d1) (o2 : @LT.lt Nat _ d1 dk) (o3 : @LT.lt Nat _ dk ad) (o4 : @LT.lt Nat _ ad ax) (o5 : @LT.lt Nat _ ax hv) (o6 : @LT.lt Nat _ hv hx) (o7 : @LT.lt Nat _ hx rl) (o8 : @LT.lt Nat _ rl du)
    (i : Nat) (hi : i < 40) (t : Tok) (m₁ : Str → Option Value) (nx own : List (Addr × Obj)) (J : Inv w.params dk d0 d1 ax ad hx hv rl du k1 k2 k3 k4 k5 k6 k7 t3 i m₁ nx) (hoff : OwnOff own (nx.map (·.1)))
    (F : Fr h₀ L s.heap (fun y => if y = Str.ofString "the_turn" then some (.int (i : Int) t) else m₁ y)) (N : News h₀ L s.heap (nx ++ own)) :
    wpAny (model PySem.Challenge.rw_np0013_01.row.prog w) (callerA.deeper (envOf (Str.ofString "law") lawScope L fa ccd)) (execs turnBody (envOf (Str.ofString "law") lawScope L fa ccd))
      (InvPostG h₀ L (Inv w.params dk d0 d1 ax ad hx hv rl du k1 k2 k3 k4 k5 k6 k7 t3 (i + 1)) own s Q) E s := by
  obtain ⟨us, vs, xs, ys, c, tc, n, n0, n1, so, mo, t1, t2, nr, nd, last, sort, tl, tm, ts, mn, rest, rs, dv, f2, f3, f4, f5, f6, f7, f8, hus, hvs, hxs, hys, hys', rfl, hro, hso, hcond, hsh⟩ := J
  have N : News h₀ L s.heap (DeckAt dk d0 d1 us vs c tc n n0 n1 (AmAt w.params ax ad k1 k2 so mo t1 t2 (HiAt w.params hx hv rl k3 k4 k5 k6 k7 t3 ((rl, listOf rs.toArray nr) :: (du, listOf dv.toArray nd) :: (rest ++ own))))) := N
  have hown : OwnOff own [dk, d0, d1, ax, ad, hx, hv, rl, du] := off_sub hoff (by
    intro b hb
    simp only [List.mem_cons, List.not_mem_nil, or_false] at hb
    rcases hb with rfl | rfl | rfl | rfl | rfl | rfl | rfl | rfl | rfl <;> simp)
  have hownr : OwnOff own (rest.map (·.1)) := off_sub hoff (by
    intro b hb
    simp only [List.map_cons, List.mem_cons]
    simp only [hb, or_true])
  have hrest : OwnOff (rest ++ own) [dk, d0, d1, ad, rl, du] := off_app hro (off_sub hown (by k_allIn))
  have hk0 : (0 : Int) ≤ (i : Int) := by omega
  have hk1 : (i : Int) < 40 := by omega
  rw [turn_split]
  refine l12 fa ccd h₀ L _ s _ E _ dk d0 d1 ax hx du us vs xs ys c tc n n0 n1 (i : Int) t tl tm ts last sort mn _ B F X T (if_pos rfl) ((if_neg (by decide)).trans f2) ((if_neg (by decide)).trans f3) ((if_neg (by decide)).trans f4)
    ((if_neg (by decide)).trans f5) ((if_neg (by decide)).trans f6) ((if_neg (by decide)).trans f7) ((if_neg (by decide)).trans f8) hus hvs hxs hys hys' o1 o2 N ?_ ?_
  · exact off_cons (by k_all) (off_cons (by k_all) (off_cons (by k_all) (off_cons (by k_all) (off_cons (by k_all) (off_cons (by k_all) (off_sub hrest (by k_allIn)))))))
  intro m1 h1 tk1 us1 xs1 c1 tc1 n' n0' n1' sort1 ts1 g1 g2 g3 g4 g5 g6 g7 g8 hus1 hxs1 F1 N1
  refine l3 fa ccd h₀ L m1 _ _ E _ dk d0 d1 ax hx du us1 vs xs1 ys c1 tc1 n' n0' n1' (i : Int) t tl tm ts1 last sort1 mn _ B F1 X T g1 g2 g3 g4 g5 g6 g7 g8 hus1 hvs hxs1 hys hys' o1 o2 ad k1 k2 t1 t2 so mo o3 o4 N1 ?_ ?_
  · exact off_cons (by k_all) (off_cons (by k_all) (off_cons (by k_all) (off_cons (by k_all) (off_sub hrest (by k_allIn)))))
  clear g1 g2 g3 g4 g5 g6 g7 g8 F1 N1 N F hus1 hxs1
  intro m2 h2 tk2 us2 xs2 c2 tc2 n2 n02 n12 last2 so2 tl2 t12 t22 mo2 g1 g2 g3 g4 g5 g6 g7 g8 hdj hus2 hxs2 F2 N2
  have hso2 : so2 = last2 := by rcases hdj with ⟨a, b, _⟩ | ⟨a, b, _⟩ <;> simp [a, b, hso]
  have hcond2 : (last2 == Str.ofString "") = false → mo2 = mn ∧ mn ≤ 20 := by
    intro hl
    rcases hdj with ⟨a, b, c⟩ | ⟨a, b, c⟩
    · subst a c; exact hcond hl
    · subst a; exact absurd hl (by decide)
  have hi1 : 5 * (i : Int) + 5 = 5 * ((i + 1 : Nat) : Int) := by omega
  rcases hsh with ⟨hi0, hl0, rfl, rfl⟩ | ⟨rs', dv', tp, tn, ta, tu1, tu2, tu3, cg, gs, gI, ng, rest', rows, old, hi0, rfl, rfl, rfl, hta, hcg, htp, hr', hgs, hrows, hgr, hfold, hrl, hdl, hgl⟩
  · -- the first turn
    have hl2 : last2 = Str.ofString "" := by rcases hdj with ⟨a, _, _⟩ | ⟨a, _, _⟩ <;> simp [a, hl0]
    refine l45_begin0 fa ccd h₀ L m2 _ _ E _ dk ax ad hx hv rl du k1 k2 k3 k4 k5 k6 k7 t12 t22 t3 so2 mo2 (i : Int) t tl2 tm ts1 last2 sort1 mn [] nr ((dk, listOf #[.ref d0, .ref d1, .int c2 tc2] n2) :: (d0, listOf us2.toArray n02) :: (d1, listOf vs.toArray n12) :: (du, listOf #[] nd) :: (rest ++ own)) B F2 X T g1 g2 g3 g4 g5 g6 g7 g8 hk0 hk1 o4 o5 o6 o7
      (news_sub N2 (by k_allIn)) (off_cons (by k_all) (off_cons (by k_all) (off_cons (by k_all) (off_cons (by k_all) (off_sub hrest (by k_allIn)))))) ?_ hso2 ?_
    · by_cases hs : sort1 = Str.ofString ""
      · exact .inl hs
      · exact .inr ⟨beq_eq_false_iff_ne.mpr hs, beq_eq_false_iff_ne.mpr (by rw [hl2]; exact hs)⟩
    intro m3 h3 tk3 t13 t23 nr3 mo3 q1 q2 q3 q4 q5 q6 q7 q8 q9 hmo3 F3 N3
    refine l69_begin0 fa ccd h₀ L m3 _ _ E dk ax hx hv rl du k3 k4 k5 k6 k7 t3 (i : Int) t tl2 tm ts1 last2 sort1 mn [] nr3 [] nd ((dk, listOf #[.ref d0, .ref d1, .int c2 tc2] n2) :: (d0, listOf us2.toArray n02) :: (d1, listOf vs.toArray n12) :: AmAt w.params ax ad k1 k2 sort1 mo3 t13 t23 (rest ++ own)) B F3 X T q1 q2 q3 q4 q6 q7 q8 hk0 hk1 o6 o7 o8 q9
      (news_sub N3 (by k_allIn)) (off_cons (by k_all) (off_cons (by k_all) (off_cons (by k_all) (off_cons (by k_all) (off_cons (by k_all) (off_sub hrest (by k_allIn))))))) (by simp) ?_
    intro m4 h4 tk4 cg' tp' nr' nd' ng' t4 t5 t6 t7 t8 p1 p2 p3 p4 p5 p6 p7 p8 hc1 hc2 hc3 F4 N4
    have hc4 := allLt_app1 hc2.2.2.2.2.2
    have hro4 := of_allLt hc4.1
    have how4 := of_allLt hc4.2
    show InvEndG h₀ L _ own s _
    refine InvEndG.intro (nx := DeckAt dk d0 d1 us2 vs c2 tc2 n2 n02 n12 (AmAt w.params ax ad k1 k2 sort1 mo3 t13 t23 (HiAt w.params hx hv rl k3 k4 k5 k6 k7 t3 ((rl, listOf (([] : List Value) ++ [Value.ref tp']).toArray nr') :: (du, listOf (([] : List Value) ++ [Value.ref cg']).toArray nd') :: (tp', insT t5 t6 t7 (5 * (i : Int) + 5) 0) :: (cg', listOf [Value.int (5 * (i : Int) + 5) t8].toArray ng') :: rest)))) F4 N4 ?_ ?_ (by k_allIn) (by k_allIn)
    · refine ⟨us2, vs, xs2, ys, c2, tc2, n2, n02, n12, sort1, mo3, t13, t23, nr', nd', sort1, sort1, ts1, t4, ts1, 1, (tp', insT t5 t6 t7 (5 * (i : Int) + 5) 0) :: (cg', listOf [Value.int (5 * (i : Int) + 5) t8].toArray ng') :: rest, ([] : List Value) ++ [Value.ref tp'], ([] : List Value) ++ [Value.ref cg'], p2, p3, p4, p5, p6, p7, p8, hus2, hvs, hxs2, hys, hys', rfl,
        off_cons (by k_all) (off_cons (by k_all) hro), rfl, fun h => ⟨hmo3 h, by decide⟩, .inr ⟨[], [], tp', 0, 5 * (i : Int) + 5, t5, t6, t7, cg', [Value.int (5 * (i : Int) + 5) t8], [5 * (i : Int) + 5], ng', rest, [some (5 * (i : Int) + 5)], [], by omega, rfl, rfl, rfl, hi1, hc1, hc3, own_two hro4 hc3, .cons _ _ .nil, .cons (.ins (.head _)) .nil, .nil, rfl, by simp; omega, by simp, by simp⟩⟩
    · exact own_app (a := [dk, d0, d1, ax, ad, hx, hv, rl, du, tp', cg']) (own_app (a := [dk, d0, d1, ax, ad, hx, hv, rl, du]) hown (own_two how4 hc3)) hownr
  · have hro' : OwnOff rest' [dk, d0, d1, ad, rl, du] := fun p hp => hro p (.tail _ (.tail _ hp))
    have hrest' : OwnOff (rest' ++ own) [dk, d0, d1, ad, rl, du] := off_app hro' (off_sub hown (by k_allIn))
    have hownr' : OwnOff own (rest'.map (·.1)) := off_sub hownr (fun b hb => .tail _ (.tail _ hb))
    have howntc : OwnOff own [tp, cg] := off_sub hownr (by
      intro b hb
      simp only [List.mem_cons, List.not_mem_nil, or_false] at hb
      rcases hb with rfl | rfl <;> simp)
    have hrtc : OwnOff (rest' ++ own) [tp, cg] := off_app hr' howntc
    have N2 : News h₀ L h2 (DeckAt dk d0 d1 us2 vs c2 tc2 n2 n02 n12 (AmAt w.params ax ad k1 k2 so2 mo2 t12 t22 (HiAt w.params hx hv rl k3 k4 k5 k6 k7 t3 ((rl, listOf (rs' ++ [Value.ref tp]).toArray nr) :: (du, listOf (dv' ++ [Value.ref cg]).toArray nd) :: (tp, insT tu1 tu2 tu3 ta tn) :: (cg, listOf gs.toArray ng) :: (rest' ++ own))))) := N2
    have hl1 : rs'.length ≤ 100 := by simp at hrl; omega
    have hl2 : (rs' ++ [Value.ref tp]).length ≤ 101 := by simp; omega
    have hl3 : dv'.length ≤ 99 := by simp at hdl; omega
    by_cases hj : sort1 ≠ Str.ofString "" ∧ sort1 = last2 ∧ mn < 20
    · obtain ⟨hj1, hj2, hj3⟩ := hj
      have hmo : mo2 = mn := (hcond2 (beq_eq_false_iff_ne.mpr (by rw [← hj2]; exact hj1))).1
      refine l45_join fa ccd h₀ L m2 _ _ E _ dk ax ad hx hv rl du k1 k2 k3 k4 k5 k6 k7 t12 t22 t3 so2 mo2 (i : Int) t tl2 tm ts1 last2 sort1 mn [] 0 ((rl, listOf (rs' ++ [Value.ref tp]).toArray nr) :: (du, listOf (dv' ++ [Value.ref cg]).toArray nd) :: (tp, insT tu1 tu2 tu3 ta tn) :: (cg, listOf gs.toArray ng) :: (dk, listOf #[.ref d0, .ref d1, .int c2 tc2] n2) :: (d0, listOf us2.toArray n02) :: (d1, listOf vs.toArray n12) :: (rest' ++ own)) B F2 X T g1 g2 g3 g4 g5 g6 g7 g8 hk0 hk1 o4 o5 o6 o7
        (news_sub N2 (by k_allIn)) (off_cons (by k_all) (off_cons (by k_all) (off_cons (by k_all) (off_cons (by k_all) (off_cons (by k_all) (off_cons (by k_all) (off_cons (by k_all) (off_sub hrest' (by k_allIn))))))))) (beq_eq_false_iff_ne.mpr hj1) hj2 hj3 hmo hso2 ?_
      intro m3 h3 tk3 t13 t23 nr3 mo3 q1 q2 q3 q4 q5 q6 q7 q8 q9 hmo3 F3 N3
      refine l69_join fa ccd h₀ L m3 _ _ E dk ax hx hv rl du k3 k4 k5 k6 k7 t3 (i : Int) t tl2 tm ts1 last2 sort1 mn rs' nr dv' nd ((dk, listOf #[.ref d0, .ref d1, .int c2 tc2] n2) :: (d0, listOf us2.toArray n02) :: (d1, listOf vs.toArray n12) :: AmAt w.params ax ad k1 k2 sort1 mo3 t13 t23 (rest' ++ own)) B F3 X T q1 q2 q3 q4 q6 q7 q8 hk0 hk1 o6 o7 o8 tp cg tn ta tu1 tu2 tu3 gs ng q9
        (news_sub N3 (by k_allIn)) (off_cons (by k_all) (off_cons (by k_all) (off_cons (by k_all) (off_cons (by k_all) (off_cons (by k_all) ?_))))) hcg htp hl1 (by omega) (by omega) hta ?_
      · intro p hp b hb
        simp only [List.mem_cons, List.not_mem_nil, or_false] at hb
        rcases hb with rfl | rfl | rfl | rfl
        · exact hrest' p hp _ (by simp)
        · exact hrest' p hp _ (by simp)
        · exact hrtc p hp _ (by simp)
        · exact hrtc p hp _ (by simp)
      intro m4 h4 tk4 tp' nr' nd' ng' t4 t5 t6 t7 t8 p1 p2 p3 p4 p5 p6 p7 p8 hc2 hc1 hc3 F4 N4
      have hc4 := allLt_app1 hc2.2.2.2.2.2.2
      have hro4 := of_allLt hc4.1
      have how4 := of_allLt hc4.2
      have htt : @LT.lt Nat _ tp tp' := hc2.1
      show InvEndG h₀ L _ own s _
      refine InvEndG.intro (nx := DeckAt dk d0 d1 us2 vs c2 tc2 n2 n02 n12 (AmAt w.params ax ad k1 k2 sort1 mo3 t13 t23 (HiAt w.params hx hv rl k3 k4 k5 k6 k7 t3 ((rl, listOf (rs' ++ [Value.ref tp] ++ [Value.ref tp']).toArray nr') :: (du, listOf (dv' ++ [Value.ref cg]).toArray nd') :: (tp', insT t5 t6 t7 (5 * (i : Int) + 5) 0) :: (cg, listOf (gs ++ [Value.int (5 * (i : Int) + 5) t8]).toArray ng') :: (tp, insT tu1 tu2 tu3 ta tn) :: rest')))) F4 N4 ?_ ?_ (by k_allIn) (by k_allIn)
      · refine ⟨us2, vs, xs2, ys, c2, tc2, n2, n02, n12, sort1, mo3, t13, t23, nr', nd', sort1, sort1, ts1, t4, ts1, mn + 1, (tp', insT t5 t6 t7 (5 * (i : Int) + 5) 0) :: (cg, listOf (gs ++ [Value.int (5 * (i : Int) + 5) t8]).toArray ng') :: (tp, insT tu1 tu2 tu3 ta tn) :: rest', rs' ++ [Value.ref tp] ++ [Value.ref tp'], dv' ++ [Value.ref cg], p2, p3, p4, p5, p6, p7, p8, hus2, hvs, hxs2, hys, hys', rfl,
          off_cons (by k_all) (off_cons (by k_all) (off_cons (by k_all) hro')), rfl, fun _ => ⟨by omega, by omega⟩, .inr ⟨rs' ++ [Value.ref tp], dv', tp', 0, 5 * (i : Int) + 5, t5, t6, t7, cg, gs ++ [Value.int (5 * (i : Int) + 5) t8], gI ++ [5 * (i : Int) + 5], ng', (tp, insT tu1 tu2 tu3 ta tn) :: rest', rows ++ [some (5 * (i : Int) + 5)], old, by omega, rfl, rfl, rfl, hi1, hcg, hc1, off_cons (by k_all) ?_, hgs.append (.cons _ _ .nil), (hrows.mono (by k_allIn)).snoc (.ins (.head _)), hgr.mono (by k_allIn), ?_, by simp at hrl ⊢; omega, by omega, by simp; omega⟩⟩
        · intro p hp b hb
          simp only [List.mem_cons, List.not_mem_nil, or_false] at hb
          rcases hb with rfl | rfl
          · exact Nat.ne_of_lt (hro4 p hp)
          · exact hr' p hp _ (by simp)
        · rw [List.foldl_append, hfold]; rfl
      · refine own_app (a := [dk, d0, d1, ax, ad, hx, hv, rl, du, tp', cg, tp]) (own_app (a := [dk, d0, d1, ax, ad, hx, hv, rl, du]) hown ?_) hownr'
        intro p hp b hb
        simp only [List.mem_cons, List.not_mem_nil, or_false] at hb
        rcases hb with rfl | rfl | rfl
        · exact Nat.ne_of_lt (how4 p hp)
        · exact howntc p hp _ (by simp)
        · exact howntc p hp _ (by simp)
    · have hc : sort1 = Str.ofString "" ∨ ((sort1 == Str.ofString "") = false ∧ (sort1 == last2) = false) ∨ ((sort1 == Str.ofString "") = false ∧ sort1 = last2 ∧ mn = 20 ∧ mo2 = 20) := by
        by_cases hs : sort1 = Str.ofString ""
        · exact .inl hs
        · by_cases hl : sort1 = last2
          · have h9 := hcond2 (beq_eq_false_iff_ne.mpr (by rw [← hl]; exact hs))
            have h8 : ¬ mn < 20 := fun h => hj ⟨hs, hl, h⟩
            exact .inr (.inr ⟨beq_eq_false_iff_ne.mpr hs, hl, by omega, by omega⟩)
          · exact .inr (.inl ⟨beq_eq_false_iff_ne.mpr hs, beq_eq_false_iff_ne.mpr hl⟩)
      refine l45_begin1 fa ccd h₀ L m2 _ _ E _ dk ax ad hx hv rl du k1 k2 k3 k4 k5 k6 k7 t12 t22 t3 so2 mo2 (i : Int) t tl2 tm ts1 last2 sort1 mn rs' nr ((dk, listOf #[.ref d0, .ref d1, .int c2 tc2] n2) :: (d0, listOf us2.toArray n02) :: (d1, listOf vs.toArray n12) :: (du, listOf (dv' ++ [Value.ref cg]).toArray nd) :: (cg, listOf gs.toArray ng) :: (rest' ++ own)) B F2 X T g1 g2 g3 g4 g5 g6 g7 g8 hk0 hk1 o4 o5 o6 o7 tp tn ta tu1 tu2 tu3
        (news_sub N2 (by k_allIn)) (Nat.lt_trans o8 (Nat.lt_trans hcg htp)) (off_cons (by k_all) (off_cons (by k_all) (off_cons (by k_all) (off_cons (by k_all) (off_cons (by k_all) (off_sub hrest' (by k_allIn))))))) hl1 hso2 hc ?_
      intro m3 h3 tk3 t13 t23 nr3 mo3 q1 q2 q3 q4 q5 q6 q7 q8 q9 hmo3 F3 N3
      refine l69_begin1 fa ccd h₀ L m3 _ _ E dk ax hx hv rl du k3 k4 k5 k6 k7 t3 (i : Int) t tl2 tm ts1 last2 sort1 mn (rs' ++ [Value.ref tp]) nr3 (dv' ++ [Value.ref cg]) nd ((tp, insT tu1 tu2 tu3 ta tn) :: (cg, listOf gs.toArray ng) :: (dk, listOf #[.ref d0, .ref d1, .int c2 tc2] n2) :: (d0, listOf us2.toArray n02) :: (d1, listOf vs.toArray n12) :: AmAt w.params ax ad k1 k2 sort1 mo3 t13 t23 (rest' ++ own)) B F3 X T q1 q2 q3 q4 q6 q7 q8 hk0 hk1 o6 o7 o8 q9
        (news_sub N3 (by k_allIn)) (off_cons (by k_all) (off_cons (by k_all) (off_cons (by k_all) (off_cons (by k_all) (off_cons (by k_all) (off_cons (by k_all) (off_cons (by k_all) (off_sub hrest' (by k_allIn))))))))) hl2 (by simp; omega) ?_
      intro m4 h4 tk4 cg' tp' nr' nd' ng' t4 t5 t6 t7 t8 p1 p2 p3 p4 p5 p6 p7 p8 hc1 hc2 hc3 F4 N4
      have hc4 := allLt_app1 hc2.2.2.2.2.2.2.2
      have hro4 := of_allLt hc4.1
      have how4 := of_allLt hc4.2
      show InvEndG h₀ L _ own s _
      refine InvEndG.intro (nx := DeckAt dk d0 d1 us2 vs c2 tc2 n2 n02 n12 (AmAt w.params ax ad k1 k2 sort1 mo3 t13 t23 (HiAt w.params hx hv rl k3 k4 k5 k6 k7 t3 ((rl, listOf (rs' ++ [Value.ref tp] ++ [Value.ref 57] ++ [Value.ref tp']).toArray nr') :: (du, listOf (dv' ++ [Value.ref cg] ++ [Value.ref cg']).toArray nd') :: (tp', insT t5 t6 t7 (5 * (i : Int) + 5) 0) :: (cg', listOf [Value.int (5 * (i : Int) + 5) t8].toArray ng') :: (tp, insT tu1 tu2 tu3 ta tn) :: (cg, listOf gs.toArray ng) :: rest')))) F4 N4 ?_ ?_ (by k_allIn) (by k_allIn)
      · refine ⟨us2, vs, xs2, ys, c2, tc2, n2, n02, n12, sort1, mo3, t13, t23, nr', nd', sort1, sort1, ts1, t4, ts1, 1, (tp', insT t5 t6 t7 (5 * (i : Int) + 5) 0) :: (cg', listOf [Value.int (5 * (i : Int) + 5) t8].toArray ng') :: (tp, insT tu1 tu2 tu3 ta tn) :: (cg, listOf gs.toArray ng) :: rest', rs' ++ [Value.ref tp] ++ [Value.ref 57] ++ [Value.ref tp'], dv' ++ [Value.ref cg] ++ [Value.ref cg'], p2, p3, p4, p5, p6, p7, p8, hus2, hvs, hxs2, hys, hys', rfl,
          off_cons (by k_all) (off_cons (by k_all) hro), rfl, fun h => ⟨hmo3 h, by decide⟩, .inr ⟨rs' ++ [Value.ref tp] ++ [Value.ref 57], dv' ++ [Value.ref cg], tp', 0, 5 * (i : Int) + 5, t5, t6, t7, cg', [Value.int (5 * (i : Int) + 5) t8], [5 * (i : Int) + 5], ng', (tp, insT tu1 tu2 tu3 ta tn) :: (cg, listOf gs.toArray ng) :: rest', rows ++ [none] ++ [some (5 * (i : Int) + 5)], old ++ [gI], by omega, rfl, rfl, rfl, hi1, hc1, hc3, own_two ?_ hc3, .cons _ _ .nil, ((hrows.mono (by k_allIn)).snoc .bnd).snoc (.ins (.head _)), (hgr.mono (by k_allIn)).snoc (.tail _ (.head _)) hgs, ?_, by simp at hrl ⊢; omega, by simp at hdl ⊢; omega, by simp⟩⟩
        · intro p hp
          rcases List.mem_cons.mp hp with e | hp
          · rw [e]; exact hc2.1
          rcases List.mem_cons.mp hp with e | hp
          · rw [e]; exact hc2.2.1
          exact hro4 p hp
        · rw [List.foldl_append, List.foldl_append, hfold]; rfl
      · refine own_app (a := [dk, d0, d1, ax, ad, hx, hv, rl, du, tp', cg', tp, cg]) (own_app (a := [dk, d0, d1, ax, ad, hx, hv, rl, du, tp', cg']) (own_app (a := [dk, d0, d1, ax, ad, hx, hv, rl, du]) hown (own_two how4 hc3)) howntc) hownr'
end Mine
end
section
open PySem PySem.W PyProof.Rows
open PySem.Calls PyProof.V PySem.Spec
set_option maxHeartbeats 1000000
namespace Mine
section
variable {prog : Program} {w : World} {A : Around} {E : Value → Shared → Prop} {s : Shared} {env : Env} {h₀ : Heap} {x : Str} {body : List Stmt} {Q : Flow → Shared → Prop}
theorem range_iter {r : Addr} {b₀ : Int} {t₀ u₀ v₀ : Tok} {n : Nat} {m₀ : Str → Option Value} {news : List (Addr × Obj)} (J : Nat → (Str → Option Value) → List (Addr × Obj) → Prop)
    (hh : A.handled = none) (hr : IsRange s.heap r 0 b₀ 1 t₀ u₀ v₀) (hsmall : Builtin.Range.small 0 b₀ 1 = true) (hsz : Builtin.Range.rangeSize 0 b₀ 1 = (n : Int)) (F : Fr h₀ env.locals s.heap m₀) (N : News h₀ env.locals s.heap news) (hj : J 0 m₀ news)
    (turn : ∀ (i : Nat) (t : Tok) (m₁ : Str → Option Value) (nx : List (Addr × Obj)) (h : Heap) (tk : Nat) (own : List (Addr × Obj)), i < n → OwnOff own (nx.map (·.1)) → J i m₁ nx → Fr h₀ env.locals h (fun y => if y = x then some (.int (i : Int) t) else m₁ y) → News h₀ env.locals h (nx ++ own) →
      wpAny (model prog w) A (execs body env) (InvPostG h₀ env.locals (J (i + 1)) own { s with heap := h, toks := tk } Q) E { s with heap := h, toks := tk })
    (done : ∀ (m₁ : Str → Option Value) (nx : List (Addr × Obj)) (h : Heap) (tk : Nat), J n m₁ nx → Fr h₀ env.locals h m₁ → News h₀ env.locals h nx → Q .next { s with heap := h, toks := tk }) :
    wpAny (model prog w) A (pyIter (.ref r)) (fun it s₂ => LoopAtV prog w A h₀ env x body Q E it s₂) E s := by
  refine wpAny_pyIter_range hr hsmall ?_
  have W : Walks prog w A s.heap.objs.size [s.heap.objs.size] [s.heap.objs.size] n (fun i v => i < n ∧ ∃ t, v = .int (0 + i * 1) t)
      (fun i h => IsRangeIter h s.heap.objs.size (0 + (i : Nat) * 1) ((n : Int) - (i : Nat)) 1) := (Walks.range hh _ 0 1 n).bound
  refine kdr_loop J W (fun _ h => h) (fun _ h => h) (fun i h hi b hb => ?_) (fun hm => ?_) (fun b hb => ?_) (fun p hp hI => ?_) ?_ (F.push _) (fun p hp => ⟨Heap.get?_push_of_some _ (N p hp).1, (N p hp).2⟩) hj ?_ ?_
  · rw [List.mem_singleton.mp hb]; exact ⟨_, hi⟩
  · exact absurd F.ns.lt ((List.mem_singleton.mp hm) ▸ Nat.lt_irrefl _)
  · rw [List.mem_singleton.mp hb]; exact next_is_new F
  · exact absurd (Heap.lt_size (N p hp).1) ((List.mem_singleton.mp hI) ▸ Nat.lt_irrefl _)
  · show IsRangeIter _ _ _ _ _
    rw [hsz]
    simpa using Heap.get?_push_size _ rfl
  · rintro i v m₁ nx h tk own hi ⟨_, t, rfl⟩ hoff hJ F₁ N₁
    have e1 : (0 : Int) + (i : Int) * 1 = (i : Int) := by omega
    rw [e1] at F₁
    exact turn i t m₁ nx h tk own hi hoff hJ F₁ N₁
  · exact fun m₁ nx h tk hJ F₁ N₁ => done m₁ nx h tk hJ F₁ N₁
end
end Mine
end
section
open PySem PySem.W PyProof.Rows
open PySem.Calls PyProof.V PySem.Spec
set_option maxHeartbeats 8000000
namespace Mine
local macro_rules | `(tactic| walk_at "call builtin:len") => `(tactic| (k_here; (with_reducible show wpAny _ _ (call (Value.builtin "len") [Value.ref _]) _ _ _); k_dflt (refine' len_snoc ?k1 ?k2 ?k3 ?_; (case k1 => k_asm); (case k2 => k_memK); (case k3 => first | omega | (simp only [List.length_append, List.length_cons, List.length_nil]; omega)))))
local macro_rules | `(tactic| walk_at "subscriptTail") => `(tactic| (k_here; (with_reducible show wpAny _ _ (subscriptTail _ (PySem.Expr.UnaryOp _ _ _) (Value.ref _) (Value.int _ _)) _ _ _); k_dflt (refine' item_snoc ?k1 ?k2 ?k3 ?_; (case k1 => k_asm); (case k2 => k_memK); (case k3 => first | omega | (simp only [List.length_append, List.length_cons, List.length_nil]; omega)))))
local macro_rules | `(tactic| walk_at "call builtin:list.append") => `(tactic| (k_here; k_dflt (refine' append_snoc ?k1 ?k2 ?k3 ?k4 ?_; (case k1 => k_asm); (case k2 => k_asm); (case k3 => k_upd); (case k4 => first | omega | (simp only [List.length_append, List.length_cons, List.length_nil]; omega))); intro h' F' N'; (try k_sweep)))
local macro_rules | `(tactic| walk_at "compareOp Eq ref ref") => `(tactic| (k_here; k_dflt (refine' eq_rowB ?k1 ?k2 ?k3 ?k4 ?k5 ?k6 ?_; (case k1 => k_asm); (case k2 => k_memK); (case k3 => exact tupK (by k_in) (by k_is)); (case k4 => decide +kernel); (case k5 => decide +kernel); (case k6 => units_room))))
local macro_rules | `(tactic| walk_at "compareOp Eq int int") => `(tactic| (k_here; (first | refine eqi_ff (by omega) ?_ | refine eqi_tt (by omega) ?_)))
local macro_rules | `(tactic| walk_at "compareOp Lt int int") => `(tactic| (k_here; (first | refine lti_tt (by omega) ?_ | refine lti_ff (by omega) ?_)))
local macro_rules | `(tactic| walk_at "compareOp Eq str str") => `(tactic| (first
  | (refine eq_str_tt (by first | with_reducible assumption | exact beq_self_eq_true _ | decide +kernel) ?_; walk_say "TT") | (refine eq_str_ff (by first | with_reducible assumption | decide +kernel) ?_; walk_say "FF")))
local macro_rules | `(tactic| walk_at "compareOp NotEq str str") => `(tactic| (first
  | (refine ne_str_tt (by first | with_reducible assumption | exact beq_self_eq_true _ | decide +kernel) ?_; walk_say "TT") | (refine ne_str_ff (by first | with_reducible assumption | decide +kernel) ?_; walk_say "FF")))
local macro_rules | `(tactic| walk_at "subscriptTail Name UnaryOp ref int") => `(tactic| (k_here; (with_reducible show wpAny _ _ (subscriptTail _ (PySem.Expr.UnaryOp _ _ _) (Value.ref _) (Value.int _ _)) _ _ _); k_dflt (refine' item_snoc ?k1 ?k2 ?k3 ?_; (case k1 => k_asm); (case k2 => k_memK); (case k3 => first | omega | (simp only [List.length_append, List.length_cons, List.length_nil]; omega)))))
local macro_rules | `(tactic| walk_at "subscriptTail Attribute Name UnaryOp ref int") => `(tactic| (k_here; (with_reducible show wpAny _ _ (subscriptTail _ (PySem.Expr.UnaryOp _ _ _) (Value.ref _) (Value.int _ _)) _ _ _); k_dflt (refine' item_snoc ?k1 ?k2 ?k3 ?_; (case k1 => k_asm); (case k2 => k_memK); (case k3 => first | omega | (simp only [List.length_append, List.length_cons, List.length_nil]; omega)))))
local macro_rules | `(tactic| k_allIn) => `(tactic| (intro pT hT; k_ownIn))
local macro_rules | `(tactic| walk_at "call ref") => `(tactic| (k_here; (with_reducible show wpAny _ _ (call (Value.ref 160) [Value.ref _, Value.int _ _]) _ _ _); k_dflt (refine' draw_ok _ _ _ _ _ _ _ _ _ _ _ _ _ _ _ _ _ _ _ _ _ _ _ _ _ _ _ _ _ _ _ _ ?B ?F ?X ?N ?T ?hk ?hus ?hvs ?hx ?hy ?hy2 ?o1 ?o2 ?hoff ?hm0 ?hm1 ?hd ?hu ?_; (case B => assumption); (case F => assumption); (case X => assumption); (case N => assumption); (case T => assumption); (case hk => exact rfl); (case hus => assumption); (case hvs => assumption); (case hx => assumption); (case hy => assumption); (case hy2 => assumption); (case o1 => assumption); (case o2 => assumption); (case hoff => assumption); (case hm0 => decide); (case hm1 => decide); (case hd => ktr_room); (case hu => ktr_units)); intro rD tD usD xsD cD tD2 nD n0D n1D hD tkD hD0 hD1 hDi hDl F' N'; walk_say "DRAWN"))
def Stop (P : Prop) : Prop := P
theorem stop_here {P : Prop} (h : Stop P) : P := h
local macro_rules | `(tactic| walk_at "pyIter ref") => `(tactic| (refine stop_here ?_; walk_say "STOPPED"))
local macro_rules | `(tactic| walk_at "exec For Name Call cons nil") => `(tactic| (k_here; (rename Fr _ _ _ _ => lF'); (with_unfolding_all refine' For_invVF lF' ?k1 ?k2 ?_ ?hs ?hE; (case k1 => exact rfl); (case k2 => exact rfl); (case hs => intro _; rfl); (case hE => exact PassesOwn.never)); walk_say "FOR"))
local macro_rules | `(tactic| walk_at "exec For Name Attribute Name cons nil") => `(tactic| (k_here; (rename Fr _ _ _ _ => lF'); (with_unfolding_all refine' For_invVF lF' ?k1 ?k2 ?_ ?hs ?hE; (case k1 => exact rfl); (case k2 => exact rfl); (case hs => intro _; rfl); (case hE => exact PassesOwn.never)); walk_say "FOR"))
local macro_rules | `(tactic| walk_at "exec For Name Attribute cons nil") => `(tactic| (k_here; (rename Fr _ _ _ _ => lF'); (with_unfolding_all refine' For_invVF lF' ?k1 ?k2 ?_ ?hs ?hE; (case k1 => exact rfl); (case k2 => exact rfl); (case hs => intro _; rfl); (case hE => exact PassesOwn.never)); walk_say "FOR"))
def bAt (i : Nat) : Stmt := (fnBody lawStmt).getD i (.Pass default)
theorem lb {w : World} {loose : List Str} {mean : ExcName → Option Value} {mg mb : Str → Option Value}
    (fa : Addr) (ccd : Value) (h₀ : Heap) (L : Addr) (m : Str → Option Value) (s : Shared) (Q : Flow → Shared → Prop) (tailS : List Stmt)
    (dk d0 d1 ax ad hx hv rl du : Addr) (us vs : List Value) (xs ys : List Int) (c : Int) (t : Tok) (n n0 n1 : Nat) (k1 k2 k3 k4 k5 k6 k7 t1 t2 t3 tl tm ts : Tok) (nr nd : Nat)
    (B : Below callerA h₀ [] h₀) (F : Fr h₀ L s.heap m) (X : (hd.heap_39 w.params).In h₀) (T : Top hd.view_39 loose mean mg mb h₀)
    (e1 : m (Str.ofString "deck") = some (.ref dk)) (e2 : m (Str.ofString "deck") = some (.ref dk)) (e3 : m (Str.ofString "amalgam") = some (.ref ax)) (e4 : m (Str.ofString "history") = some (.ref hx))
    (e5 : m (Str.ofString "last") = some (.str (Str.ofString "") tl)) (e6 : m (Str.ofString "many") = some (.int 0 tm)) (e7 : m (Str.ofString "due") = some (.ref du)) (e8 : m (Str.ofString "sort") = some (.str (Str.ofString "insert") ts))
    (hus : IntsAre us xs) (hvs : IntsAre vs ys) (hxs : xs.length ≤ 20) (hys : 0 < ys.length) (hys' : ys.length ≤ 21)
    (o1 : @LT.lt Nat _ d0 d1) (o2 : @LT.lt Nat _ d1 dk) (o3 : @LT.lt Nat _ dk ad) (o4 : @LT.lt Nat _ ad ax) (o5 : @LT.lt Nat _ ax hv) (o6 : @LT.lt Nat _ hv hx) (o7 : @LT.lt Nat _ hx rl) (o8 : @LT.lt Nat _ rl du)
    (N : News h₀ L s.heap (DeckAt dk d0 d1 us vs c t n n0 n1 (AmAt w.params ax ad k1 k2 (Str.ofString "") 0 t1 t2 (HiAt w.params hx hv rl k3 k4 k5 k6 k7 t3 ((rl, listOf #[] nr) :: (du, listOf #[] nd) :: [])))))
    (ret : ∀ (m' : Str → Option Value) (h' : Heap) (tk' : Nat) (nx : List (Addr × Obj)) (i : Nat), 0 < i → i ≤ 40 → Inv w.params dk d0 d1 ax ad hx hv rl du k1 k2 k3 k4 k5 k6 k7 t3 i m' nx → Fr h₀ L h' m' → News h₀ L h' nx →
      wpAny (model PySem.Challenge.rw_np0013_01.row.prog w) (callerA.deeper (envOf (Str.ofString "law") lawScope L fa ccd)) (execs tailS (envOf (Str.ofString "law") lawScope L fa ccd)) Q (fun _ _ => False) { s with heap := h', toks := tk' }) :
    wpAny (model PySem.Challenge.rw_np0013_01.row.prog w) (callerA.deeper (envOf (Str.ofString "law") lawScope L fa ccd)) (execs (bAt 2 :: tailS) (envOf (Str.ofString "law") lawScope L fa ccd)) Q (fun _ _ => False) s := by
  revert X; k_fill; intro X
  dsimp only [bAt, lawScope, lawStmt, PySem.Challenge.pw_np0013_01, List.getD, fnBody, fnScope, forBody, List.getElem?_cons_succ, List.getElem?_cons_zero, Option.getD, List.drop]
  replace F := fr_norm F e1 e2 e3 e4 e5 e6 e7 e8
  have hoff : OwnOff (AmAt w.params ax ad k1 k2 (Str.ofString "") 0 t1 t2 (HiAt w.params hx hv rl k3 k4 k5 k6 k7 t3 ((rl, listOf #[] nr) :: (du, listOf #[] nd) :: []))) [dk, d0, d1] := off_cons (by k_all) (off_cons (by k_all) (off_cons (by k_all) (off_cons (by k_all) (off_cons (by k_all) (off_cons (by k_all) (fun _ hp => nomatch hp))))))
  repeat' (first | (k_unfold; (try dsimp only)) | (k_end; wrow_close) | (walk1 <;> (try dsimp only)) | (leave1; walk_say "STEP leave1"; try dsimp only) | fail "no step")
  unfold Stop
  refine' range_iter (Inv w.params dk d0 d1 ax ad hx hv rl du k1 k2 k3 k4 k5 k6 k7 t3) ?hh ?hr ?hs ?hz ?F ?N ?hj ?turn ?done
  case hh => rfl
  case hr => assumption
  case hs => exact small_one (by omega) (by omega) (by omega) (by omega)
  case hz => exact rangeSize_nat _ _
  case F => assumption
  case N => assumption
  case hj => exact ⟨_, vs, _, ys, _, _, _, _, _, Str.ofString "", 0, t1, t2, nr, nd, Str.ofString "", Str.ofString "insert", tl, tm, ts, 0, [], [], [], rfl, rfl, rfl, rfl, rfl, rfl, rfl, by assumption, hvs, by assumption, hys, hys', rfl, (fun _ hp => nomatch hp), rfl, (fun h => absurd h (by decide)), .inl ⟨rfl, rfl, rfl, rfl⟩⟩
  case turn =>
    intro i t' m₁ nx h tk own hi hoff' J F' N'
    exact turn_ok fa ccd h₀ L _ _ _ dk d0 d1 ax ad hx hv rl du k1 k2 k3 k4 k5 k6 k7 t3 B X T o1 o2 o3 o4 o5 o6 o7 o8 i (by omega) t' m₁ nx own J hoff' F' N'
  case done =>
    intro m₁ nx h tk J F' N'
    exact ret m₁ h tk nx _ (by omega) (by omega) J F' N'
end Mine
end
section
open PySem PySem.W PyProof.Rows
open PySem.Calls PyProof.V PySem.Spec
set_option maxHeartbeats 8000000
namespace Mine
local macro_rules | `(tactic| walk_at "call builtin:len") => `(tactic| (k_here; (with_reducible show wpAny _ _ (call (Value.builtin "len") [Value.ref _]) _ _ _); k_dflt (refine' len_snoc ?k1 ?k2 ?k3 ?_; (case k1 => k_asm); (case k2 => k_memK); (case k3 => first | omega | (simp only [List.length_append, List.length_cons, List.length_nil]; omega)))))
local macro_rules | `(tactic| walk_at "subscriptTail") => `(tactic| (k_here; (with_reducible show wpAny _ _ (subscriptTail _ (PySem.Expr.UnaryOp _ _ _) (Value.ref _) (Value.int _ _)) _ _ _); k_dflt (refine' item_snoc ?k1 ?k2 ?k3 ?_; (case k1 => k_asm); (case k2 => k_memK); (case k3 => first | omega | (simp only [List.length_append, List.length_cons, List.length_nil]; omega)))))
local macro_rules | `(tactic| walk_at "call builtin:list.append") => `(tactic| (k_here; k_dflt (refine' append_snoc ?k1 ?k2 ?k3 ?k4 ?_; (case k1 => k_asm); (case k2 => k_asm); (case k3 => k_upd); (case k4 => first | omega | (simp only [List.length_append, List.length_cons, List.length_nil]; omega))); intro h' F' N'; (try k_sweep)))
local macro_rules | `(tactic| walk_at "compareOp Eq ref ref") => `(tactic| (k_here; k_dflt (refine' eq_rowB ?k1 ?k2 ?k3 ?k4 ?k5 ?k6 ?_; (case k1 => k_asm); (case k2 => k_memK); (case k3 => exact tupK (by k_in) (by k_is)); (case k4 => decide +kernel); (case k5 => decide +kernel); (case k6 => units_room))))
local macro_rules | `(tactic| walk_at "compareOp Eq int int") => `(tactic| (k_here; (first | refine eqi_ff (by omega) ?_ | refine eqi_tt (by omega) ?_)))
local macro_rules | `(tactic| walk_at "compareOp Lt int int") => `(tactic| (k_here; (first | refine lti_tt (by omega) ?_ | refine lti_ff (by omega) ?_)))
local macro_rules | `(tactic| walk_at "compareOp Eq str str") => `(tactic| (first
  | (refine eq_str_tt (by first | with_reducible assumption | exact beq_self_eq_true _ | decide +kernel) ?_; walk_say "TT") | (refine eq_str_ff (by first | with_reducible assumption | decide +kernel) ?_; walk_say "FF")))
local macro_rules | `(tactic| walk_at "compareOp NotEq str str") => `(tactic| (first
  | (refine ne_str_tt (by first | with_reducible assumption | exact beq_self_eq_true _ | decide +kernel) ?_; walk_say "TT") | (refine ne_str_ff (by first | with_reducible assumption | decide +kernel) ?_; walk_say "FF")))
local macro_rules | `(tactic| walk_at "subscriptTail Name UnaryOp ref int") => `(tactic| (k_here; (with_reducible show wpAny _ _ (subscriptTail _ (PySem.Expr.UnaryOp _ _ _) (Value.ref _) (Value.int _ _)) _ _ _); k_dflt (refine' item_snoc ?k1 ?k2 ?k3 ?_; (case k1 => k_asm); (case k2 => k_memK); (case k3 => first | omega | (simp only [List.length_append, List.length_cons, List.length_nil]; omega)))))
local macro_rules | `(tactic| walk_at "subscriptTail Attribute Name UnaryOp ref int") => `(tactic| (k_here; (with_reducible show wpAny _ _ (subscriptTail _ (PySem.Expr.UnaryOp _ _ _) (Value.ref _) (Value.int _ _)) _ _ _); k_dflt (refine' item_snoc ?k1 ?k2 ?k3 ?_; (case k1 => k_asm); (case k2 => k_memK); (case k3 => first | omega | (simp only [List.length_append, List.length_cons, List.length_nil]; omega)))))
local macro_rules | `(tactic| k_allIn) => `(tactic| (intro pT hT; k_ownIn))
section
variable {prog : Program} {w : World} {A : Around} {E : Value → Shared → Prop} {s : Shared}
theorem eq_bndB {a : Addr} {y : Str} {ty : Tok} {Q : Value → Shared → Prop} (hb : IsTup s.heap a [Value.str y ty].toArray)
    (hy : PyData.strOk y = true) (hu : A.units + 64 < cLine) (h : Q (.bool true) s) : wpAny (model prog w) A (compareOp .Eq (.ref a) (.ref a)) Q E s := by
  obtain ⟨o, ho, hc, n', hd⟩ := hb
  refine eq_dataH (reads_tuple_at ho hc hd (ReadsAll.cons (Reads.str y ty) .nil)) (reads_tuple_at ho hc hd (ReadsAll.cons (Reads.str y ty) .nil)) ?_ ?_ hu ?_
  · simp [SeqAt.shaped, PyData.canLay0, PyData.canLayAll0, PyData.depth, PyData.depthAll, hy]
  · simp [SeqAt.shaped, PyData.canLay0, PyData.canLayAll0, PyData.depth, PyData.depthAll, hy]
  · simpa [PyData.eqv, PyData.eqvAll] using h
end
def rAt (i : Nat) : Stmt := rowBody.getD i (.Pass default)
section
local macro_rules | `(tactic| walk_at "compareOp Eq ref ref") => `(tactic| (k_here; k_dflt (refine' eq_bndB ?k3 ?k5 ?k6 ?_; (case k3 => exact tupK (by k_in) (by k_is)); (case k5 => decide +kernel); (case k6 => units_room))))
theorem lr_bnd {w : World} {loose : List Str} {mean : ExcName → Option Value} {mg mb : Str → Option Value}
    (fa : Addr) (ccd : Value) (h₀ : Heap) (L : Addr) (m : Str → Option Value) (s : Shared) (Q : Flow → Shared → Prop)
    (fl fc : Addr) (fv : List Value) (nf : Nat) (rest : List (Addr × Obj))
    (B : Below callerA h₀ [] h₀) (X : (hd.heap_39 w.params).In h₀) (T : Top hd.view_39 loose mean mg mb h₀)
    (F : Fr h₀ L s.heap (fun y => if y = Str.ofString "row" then some (Value.ref 57) else if y = Str.ofString "found" then some (Value.ref fl) else m y))
    (N : News h₀ L s.heap ((fl, listOf (fv ++ [Value.ref fc]).toArray nf) :: rest)) (hoff : OwnOff rest [fl]) (hfv : fv.length ≤ 100)
    (ret : ∀ (h' : Heap) (tk' : Nat) (fc' : Addr) (nf' nc' : Nat), @LT.lt Nat _ fl fc' → AllLt fc' rest → Fr h₀ L h' (fun y => if y = Str.ofString "row" then some (Value.ref 57) else if y = Str.ofString "found" then some (Value.ref fl) else m y) → News h₀ L h' ((fl, listOf (fv ++ [Value.ref fc] ++ [Value.ref fc']).toArray nf') :: (fc', listOf #[] nc') :: rest) → Q .next { s with heap := h', toks := tk' }) :
    wpAny (model PySem.Challenge.rw_np0013_01.row.prog w) (callerA.deeper (envOf (Str.ofString "law") lawScope L fa ccd)) (execs rowBody (envOf (Str.ofString "law") lawScope L fa ccd)) Q (fun _ _ => False) s := by
  revert X; k_fill; intro X
  dsimp only [rAt, rowBody, lawScope, lawStmt, PySem.Challenge.pw_np0013_01, List.getD, fnBody, fnScope, forBody, List.getElem?_cons_succ, List.getElem?_cons_zero, Option.getD, List.drop]
  repeat' (first | (k_unfold; (try dsimp only)) | (k_end; wrow_close) | (walk1 <;> (try dsimp only)) | (leave1; walk_say "STEP leave1"; try dsimp only) | fail "no step")
  refine' ret _ _ _ _ _ ?a ?b ?F ?N
  case F => assumption
  case N => exact news_sub (by assumption) (by k_allIn)
  case a => exact And.left (by assumption)
  case b => exact And.right (by assumption)
end
theorem lr_ins {w : World} {loose : List Str} {mean : ExcName → Option Value} {mg mb : Str → Option Value}
    (fa : Addr) (ccd : Value) (h₀ : Heap) (L : Addr) (m : Str → Option Value) (s : Shared) (Q : Flow → Shared → Prop)
    (fl fc : Addr) (fv : List Value) (nf : Nat) (rest : List (Addr × Obj))
    (B : Below callerA h₀ [] h₀) (X : (hd.heap_39 w.params).In h₀) (T : Top hd.view_39 loose mean mg mb h₀)
    (tp : Addr) (tu1 tu2 tu3 : Tok) (a : Int) (tn : Nat) (cs : List Value) (nc : Nat)
    (F : Fr h₀ L s.heap (fun y => if y = Str.ofString "row" then some (Value.ref tp) else if y = Str.ofString "found" then some (Value.ref fl) else m y))
    (N : News h₀ L s.heap ((fl, listOf (fv ++ [Value.ref fc]).toArray nf) :: (fc, listOf cs.toArray nc) :: (tp, insT tu1 tu2 tu3 a tn) :: rest)) (hoff : OwnOff rest [fl, fc]) (hfv : fv.length ≤ 100) (hcs : cs.length ≤ 100)
    (hne : fl ≠ fc) (hne1 : tp ≠ fl) (hne2 : tp ≠ fc)
    (ret : ∀ (h' : Heap) (tk' : Nat) (nf' nc' : Nat), Fr h₀ L h' (fun y => if y = Str.ofString "row" then some (Value.ref tp) else if y = Str.ofString "found" then some (Value.ref fl) else m y) → News h₀ L h' ((fl, listOf (fv ++ [Value.ref fc]).toArray nf') :: (fc, listOf (cs ++ [Value.int a tu2]).toArray nc') :: (tp, insT tu1 tu2 tu3 a tn) :: rest) → Q .next { s with heap := h', toks := tk' }) :
    wpAny (model PySem.Challenge.rw_np0013_01.row.prog w) (callerA.deeper (envOf (Str.ofString "law") lawScope L fa ccd)) (execs rowBody (envOf (Str.ofString "law") lawScope L fa ccd)) Q (fun _ _ => False) s := by
  revert X; k_fill; intro X
  dsimp only [rAt, rowBody, lawScope, lawStmt, PySem.Challenge.pw_np0013_01, List.getD, fnBody, fnScope, forBody, List.getElem?_cons_succ, List.getElem?_cons_zero, Option.getD, List.drop]
  repeat' (first | (k_unfold; (try dsimp only)) | (k_end; wrow_close) | (walk1 <;> (try dsimp only)) | (leave1; walk_say "STEP leave1"; try dsimp only) | fail "no step")
  refine' ret _ _ _ _ ?F ?N
  case F => assumption
  case N => exact news_sub (by assumption) (by k_allIn)
end Mine
end
section
open PySem PySem.W PyProof.Rows
open PySem.Calls PyProof.V PySem.Spec
set_option maxHeartbeats 8000000
namespace Mine
local macro_rules | `(tactic| walk_at "call builtin:len") => `(tactic| (k_here; (with_reducible show wpAny _ _ (call (Value.builtin "len") [Value.ref _]) _ _ _); k_dflt (refine' len_snoc ?k1 ?k2 ?k3 ?_; (case k1 => k_asm); (case k2 => k_memK); (case k3 => first | omega | (simp only [List.length_append, List.length_cons, List.length_nil]; omega)))))
local macro_rules | `(tactic| walk_at "subscriptTail") => `(tactic| (k_here; (with_reducible show wpAny _ _ (subscriptTail _ (PySem.Expr.UnaryOp _ _ _) (Value.ref _) (Value.int _ _)) _ _ _); k_dflt (refine' item_snoc ?k1 ?k2 ?k3 ?_; (case k1 => k_asm); (case k2 => k_memK); (case k3 => first | omega | (simp only [List.length_append, List.length_cons, List.length_nil]; omega)))))
local macro_rules | `(tactic| walk_at "call builtin:list.append") => `(tactic| (k_here; k_dflt (refine' append_snoc ?k1 ?k2 ?k3 ?k4 ?_; (case k1 => k_asm); (case k2 => k_asm); (case k3 => k_upd); (case k4 => first | omega | (simp only [List.length_append, List.length_cons, List.length_nil]; omega))); intro h' F' N'; (try k_sweep)))
local macro_rules | `(tactic| walk_at "compareOp Eq ref ref") => `(tactic| (k_here; k_dflt (refine' eq_rowB ?k1 ?k2 ?k3 ?k4 ?k5 ?k6 ?_; (case k1 => k_asm); (case k2 => k_memK); (case k3 => exact tupK (by k_in) (by k_is)); (case k4 => decide +kernel); (case k5 => decide +kernel); (case k6 => units_room))))
local macro_rules | `(tactic| walk_at "compareOp Eq int int") => `(tactic| (k_here; (first | refine eqi_ff (by omega) ?_ | refine eqi_tt (by omega) ?_)))
local macro_rules | `(tactic| walk_at "compareOp Lt int int") => `(tactic| (k_here; (first | refine lti_tt (by omega) ?_ | refine lti_ff (by omega) ?_)))
local macro_rules | `(tactic| walk_at "compareOp Eq str str") => `(tactic| (first
  | (refine eq_str_tt (by first | with_reducible assumption | exact beq_self_eq_true _ | decide +kernel) ?_; walk_say "TT") | (refine eq_str_ff (by first | with_reducible assumption | decide +kernel) ?_; walk_say "FF")))
local macro_rules | `(tactic| walk_at "compareOp NotEq str str") => `(tactic| (first
  | (refine ne_str_tt (by first | with_reducible assumption | exact beq_self_eq_true _ | decide +kernel) ?_; walk_say "TT") | (refine ne_str_ff (by first | with_reducible assumption | decide +kernel) ?_; walk_say "FF")))
local macro_rules | `(tactic| walk_at "subscriptTail Name UnaryOp ref int") => `(tactic| (k_here; (with_reducible show wpAny _ _ (subscriptTail _ (PySem.Expr.UnaryOp _ _ _) (Value.ref _) (Value.int _ _)) _ _ _); k_dflt (refine' item_snoc ?k1 ?k2 ?k3 ?_; (case k1 => k_asm); (case k2 => k_memK); (case k3 => first | omega | (simp only [List.length_append, List.length_cons, List.length_nil]; omega)))))
local macro_rules | `(tactic| walk_at "subscriptTail Attribute Name UnaryOp ref int") => `(tactic| (k_here; (with_reducible show wpAny _ _ (subscriptTail _ (PySem.Expr.UnaryOp _ _ _) (Value.ref _) (Value.int _ _)) _ _ _); k_dflt (refine' item_snoc ?k1 ?k2 ?k3 ?_; (case k1 => k_asm); (case k2 => k_memK); (case k3 => first | omega | (simp only [List.length_append, List.length_cons, List.length_nil]; omega)))))
local macro_rules | `(tactic| k_allIn) => `(tactic| (intro pT hT; k_ownIn))
local macro_rules | `(tactic| walk_at "pyIter ref") => `(tactic| (refine stop_here ?_; walk_say "STOPPED"))
local macro_rules | `(tactic| walk_at "exec For Name Call cons nil") => `(tactic| (k_here; (rename Fr _ _ _ _ => lF'); (with_unfolding_all refine' For_invVF lF' ?k1 ?k2 ?_ ?hs ?hE; (case k1 => exact rfl); (case k2 => exact rfl); (case hs => intro _; rfl); (case hE => exact PassesOwn.never)); walk_say "FOR"))
local macro_rules | `(tactic| walk_at "exec For Name Attribute Name cons nil") => `(tactic| (k_here; (rename Fr _ _ _ _ => lF'); (with_unfolding_all refine' For_invVF lF' ?k1 ?k2 ?_ ?hs ?hE; (case k1 => exact rfl); (case k2 => exact rfl); (case hs => intro _; rfl); (case hE => exact PassesOwn.never)); walk_say "FOR"))
local macro_rules | `(tactic| walk_at "exec For Name Attribute cons nil") => `(tactic| (k_here; (rename Fr _ _ _ _ => lF'); (with_unfolding_all refine' For_invVF lF' ?k1 ?k2 ?_ ?hs ?hE; (case k1 => exact rfl); (case k2 => exact rfl); (case hs => intro _; rfl); (case hE => exact PassesOwn.never)); walk_say "FOR"))
def J2 (du : Addr) (rows : List (Option Int)) (R : List (Addr × Obj)) (j : Nat) (m : Str → Option Value) (nx : List (Addr × Obj)) : Prop :=
  ∃ (fl fc : Addr) (fv : List Value) (nf : Nat) (cs : List Value) (nc : Nat) (cI : List Int) (tl : List (Addr × Obj)) (d : List (List Int)),
    m (Str.ofString "found") = some (.ref fl) ∧ m (Str.ofString "due") = some (.ref du) ∧ nx = (fl, listOf (fv ++ [Value.ref fc]).toArray nf) :: (fc, listOf cs.toArray nc) :: (tl ++ R) ∧
    OwnOff (tl ++ R) [fl, fc] ∧ fl ≠ fc ∧ IntsAre cs cI ∧ GroupsAre tl fv d ∧ (rows.take j).foldl stp ([], []) = (d, cI) ∧ fv.length ≤ j ∧ cs.length ≤ j
theorem fr_put {h₀ h : Heap} {L : Addr} {m : Str → Option Value} {x1 x2 : Str} {v1 v2 : Value} (F : Fr h₀ L h (fun y => if y = x1 then some v1 else m y)) (e2 : m x2 = some v2) :
    Fr h₀ L h (fun y => if y = x1 then some v1 else if y = x2 then some v2 else m y) := by
  have e : (fun y => if y = x1 then some v1 else if y = x2 then some v2 else m y) = (fun y => if y = x1 then some v1 else m y) := by
    funext y
    split
    · rfl
    split
    · subst y; exact e2.symm
    rfl
  rw [e]; exact F
theorem fr_norm2 {h₀ h : Heap} {L : Addr} {m : Str → Option Value} {x1 x2 : Str} {v1 v2 : Value} (F : Fr h₀ L h m) (e1 : m x1 = some v1) (e2 : m x2 = some v2) :
    Fr h₀ L h (fun y => if y = x1 then some v1 else if y = x2 then some v2 else m y) := fr_norm F e1 e2 e1 e2 e1 e2 e1 e2 |> fun F' => by
  have e : (fun y => if y = x1 then some v1 else if y = x2 then some v2 else m y) = m := by
    funext y
    split
    · subst y; exact e1.symm
    split
    · subst y; exact e2.symm
    rfl
  rw [e]; exact F
theorem take_fold {rows : List (Option Int)} {i : Nat} {r : Option Int} (h : rows[i]? = some r) : (rows.take (i + 1)).foldl stp ([], []) = stp ((rows.take i).foldl stp ([], [])) r := by
  rw [List.take_add_one, h]
  simp [List.foldl_append]
theorem lr_turn {w : World} {loose : List Str} {mean : ExcName → Option Value} {mg mb : Str → Option Value}
    (fa : Addr) (ccd : Value) (h₀ : Heap) (L : Addr) (s : Shared) (Q : Flow → Shared → Prop)
    (B : Below callerA h₀ [] h₀) (X : (hd.heap_39 w.params).In h₀) (T : Top hd.view_39 loose mean mg mb h₀)
    (du rl : Addr) (rs : List Value) (nr : Nat) (rows : List (Option Int)) (R : List (Addr × Obj)) (hrows : RowsAre R rs rows) (hrs : rs.length ≤ 100) (hrl : (rl, listOf rs.toArray nr) ∈ R)
    (i : Nat) (v : Value) (m₁ : Str → Option Value) (nx own : List (Addr × Obj)) (hv : rs[i]? = some v) (hoff : OwnOff own (nx.map (·.1))) (J : J2 du rows R i m₁ nx)
    (F : Fr h₀ L s.heap (fun y => if y = Str.ofString "row" then some v else m₁ y)) (N : News h₀ L s.heap (nx ++ own)) :
    wpAny (model PySem.Challenge.rw_np0013_01.row.prog w) (callerA.deeper (envOf (Str.ofString "law") lawScope L fa ccd)) (execs rowBody (envOf (Str.ofString "law") lawScope L fa ccd))
      (InvPostG h₀ L (fun m' nx => (rl, listOf rs.toArray nr) ∈ nx ∧ J2 du rows R (i + 1) m' nx) own s Q) (fun _ _ => False) s := by
  obtain ⟨fl, fc, fv, nf, cs, nc, cI, tl, d, f1, f2, rfl, hro, hne, hcs, hgr, hfold, hl1, hl2⟩ := J
  have hi : i < rs.length := (List.getElem?_eq_some_iff.mp hv).1
  obtain ⟨r, hr, hrow⟩ := hrows.get hv
  have hfold' := (take_fold hr).trans (by rw [hfold])
  have N : News h₀ L s.heap ((fl, listOf (fv ++ [Value.ref fc]).toArray nf) :: (fc, listOf cs.toArray nc) :: (tl ++ R ++ own)) := N
  have hown : OwnOff own [fl, fc] := off_sub hoff (by
    intro b hb
    simp only [List.mem_cons, List.not_mem_nil, or_false] at hb
    rcases hb with rfl | rfl <;> simp)
  have hall : OwnOff (tl ++ R ++ own) [fl, fc] := off_app hro hown
  cases hrow with
  | bnd =>
    refine lr_bnd fa ccd h₀ L m₁ s _ fl fc fv nf _ B X T (fr_put F f1) N (off_cons (by intro b hb; rw [List.mem_singleton.mp hb]; exact fun e => hne e.symm) (off_sub hall (by intro b hb; rw [List.mem_singleton.mp hb]; exact List.mem_cons_self))) (by omega) ?_
    intro h' tk' fc' nf' nc' hlt hal F' N'
    have hal1 := of_allLt hal
    refine InvEndG.intro (nx := (fl, listOf (fv ++ [Value.ref fc] ++ [Value.ref fc']).toArray nf') :: (fc', listOf (([] : List Value)).toArray nc') :: (((fc, listOf cs.toArray nc) :: tl) ++ R)) F' N' ⟨?_, ?_⟩ ?_ ?_ ?_
    · exact .tail _ (.tail _ (List.mem_append.mpr (.inr hrl)))
    · refine ⟨fl, fc', fv ++ [Value.ref fc], nf', [], nc', [], (fc, listOf cs.toArray nc) :: tl, d ++ [cI], (if_neg (by decide)).trans (if_pos rfl), (if_neg (by decide)).trans ((if_neg (by decide)).trans f2), rfl, ?_, Nat.ne_of_lt hlt, .nil, ?_, hfold', ?_, by simp⟩
      · intro p hp b hb
        simp only [List.mem_cons, List.not_mem_nil, or_false] at hb
        have hp' : p ∈ (fc, listOf cs.toArray nc) :: (tl ++ R) := hp
        rcases hb with rfl | rfl
        · rcases List.mem_cons.mp hp' with e | hp'
          · rw [e]; exact fun e => hne e.symm
          · exact hro p hp' _ List.mem_cons_self
        · refine Nat.ne_of_lt (hal1 p ?_)
          rcases List.mem_cons.mp hp' with e | hp'
          · rw [e]; exact List.mem_cons_self
          · exact .tail _ (List.mem_append.mpr (.inl hp'))
      · exact (hgr.mono fun p hp => List.mem_cons_of_mem _ hp).snoc List.mem_cons_self hcs
      · simp; omega
    · intro p hp b hb
      have hp' := hoff p hp
      have hlt' : @LT.lt Nat _ p.1 fc' := hal1 p (.tail _ (List.mem_append.mpr (.inr hp)))
      simp only [List.map_cons, List.map_append, List.mem_cons, List.mem_append, List.cons_append] at hb hp'
      rcases hb with rfl | rfl | rfl | hb | hb
      · exact hp' _ (.inl rfl)
      · exact Nat.ne_of_lt hlt'
      · exact hp' _ (.inr (.inl rfl))
      · exact hp' _ (.inr (.inr (.inl hb)))
      · exact hp' _ (.inr (.inr (.inr hb)))
    · intro p hp
      rcases List.mem_cons.mp hp with e | hp
      · rw [e]; exact List.mem_cons_self
      rcases List.mem_cons.mp hp with e | hp
      · rw [e]; exact .tail _ List.mem_cons_self
      rcases List.mem_cons.mp hp with e | hp
      · rw [e]; exact .tail _ (.tail _ List.mem_cons_self)
      · exact .tail _ (.tail _ (.tail _ (List.mem_append.mpr (.inl hp))))
    · intro p hp
      exact .tail _ (.tail _ (.tail _ (List.mem_append.mpr (.inr hp))))
  | ins hm =>
    rename_i tp tu1 tu2 tu3 a tn
    have hmR := hro _ (List.mem_append.mpr (.inr hm))
    refine lr_ins fa ccd h₀ L m₁ s _ fl fc fv nf (tl ++ R ++ own) B X T tp tu1 tu2 tu3 a tn cs nc (fr_put F f1) (news_sub N ?_) hall (by omega) (by omega) hne (hmR _ List.mem_cons_self) (hmR _ (.tail _ List.mem_cons_self)) ?_
    · intro p hp
      rcases List.mem_cons.mp hp with e | hp
      · rw [e]; exact List.mem_cons_self
      rcases List.mem_cons.mp hp with e | hp
      · rw [e]; exact .tail _ List.mem_cons_self
      rcases List.mem_cons.mp hp with e | hp
      · rw [e]; exact .tail _ (.tail _ (List.mem_append.mpr (.inl (List.mem_append.mpr (.inr hm)))))
      · exact .tail _ (.tail _ hp)
    intro h' tk' nf' nc' F' N'
    refine InvEndG.intro (nx := (fl, listOf (fv ++ [Value.ref fc]).toArray nf') :: (fc, listOf (cs ++ [Value.int a tu2]).toArray nc') :: (tl ++ R)) F' N' ⟨?_, ?_⟩ ?_ ?_ ?_
    · exact .tail _ (.tail _ (List.mem_append.mpr (.inr hrl)))
    · exact ⟨fl, fc, fv, nf', _, nc', cI ++ [a], tl, d, (if_neg (by decide)).trans (if_pos rfl), (if_neg (by decide)).trans ((if_neg (by decide)).trans f2), rfl, hro, hne, hcs.append (.cons a tu2 .nil), hgr, hfold', by omega, by simp; omega⟩
    · exact off_sub hoff (by intro b hb; simpa using hb)
    · intro p hp
      rcases List.mem_cons.mp hp with e | hp
      · rw [e]; exact List.mem_cons_self
      rcases List.mem_cons.mp hp with e | hp
      · rw [e]; exact .tail _ List.mem_cons_self
      · exact .tail _ (.tail _ (.tail _ (List.mem_append.mpr (.inl hp))))
    · intro p hp
      exact .tail _ (.tail _ (.tail _ (List.mem_append.mpr (.inr hp))))
theorem lc {w : World} {loose : List Str} {mean : ExcName → Option Value} {mg mb : Str → Option Value}
    (fa : Addr) (ccd : Value) (h₀ : Heap) (L : Addr) (m : Str → Option Value) (s : Shared) (Q : Flow → Shared → Prop) (tailS : List Stmt)
    (hx hv rl du : Addr) (k3 k4 k5 k6 k7 t3 : Tok) (rs : List Value) (nr : Nat) (rows : List (Option Int)) (rest : List (Addr × Obj))
    (B : Below callerA h₀ [] h₀) (F : Fr h₀ L s.heap m) (X : (hd.heap_39 w.params).In h₀) (T : Top hd.view_39 loose mean mg mb h₀)
    (e4 : m (Str.ofString "history") = some (.ref hx)) (e7 : m (Str.ofString "due") = some (.ref du))
    (hrows : RowsAre rest rs rows) (hrs : rs.length ≤ 100)
    (N : News h₀ L s.heap (HiAt w.params hx hv rl k3 k4 k5 k6 k7 t3 ((rl, listOf rs.toArray nr) :: rest)))
    (ret : ∀ (m' : Str → Option Value) (h' : Heap) (tk' : Nat) (nx : List (Addr × Obj)), J2 du rows (HiAt w.params hx hv rl k3 k4 k5 k6 k7 t3 ((rl, listOf rs.toArray nr) :: rest)) rs.length m' nx → Fr h₀ L h' m' → News h₀ L h' nx →
      wpAny (model PySem.Challenge.rw_np0013_01.row.prog w) (callerA.deeper (envOf (Str.ofString "law") lawScope L fa ccd)) (execs tailS (envOf (Str.ofString "law") lawScope L fa ccd)) Q (fun _ _ => False) { s with heap := h', toks := tk' }) :
    wpAny (model PySem.Challenge.rw_np0013_01.row.prog w) (callerA.deeper (envOf (Str.ofString "law") lawScope L fa ccd)) (execs (bAt 3 :: bAt 4 :: tailS) (envOf (Str.ofString "law") lawScope L fa ccd)) Q (fun _ _ => False) s := by
  revert X; k_fill; intro X
  dsimp only [bAt, lawScope, lawStmt, PySem.Challenge.pw_np0013_01, List.getD, fnBody, fnScope, forBody, List.getElem?_cons_succ, List.getElem?_cons_zero, Option.getD, List.drop]
  replace F := fr_norm2 F e4 e7
  repeat' (first | (k_unfold; (try dsimp only)) | (k_end; wrow_close) | (walk1 <;> (try dsimp only)) | (leave1; walk_say "STEP leave1"; try dsimp only) | fail "no step")
  unfold Stop
  rename_i li _ l1 lo _ l2 _ F2 N2
  refine' kdl_iter (vs := rs) (nn := nr) (J2 du rows (HiAt w.params hx hv rl k3 k4 k5 k6 k7 t3 ((rl, listOf rs.toArray nr) :: rest))) ?hh ?hl ?F ?N ?hj ?turn ?done
  case hh => rfl
  case F => exact F2
  case N => exact N2
  case hl => exact .tail _ (.tail _ (.tail _ (.tail _ List.mem_cons_self)))
  case hj =>
    refine ⟨_, _, [], 0, [], 0, [], [], [], if_pos rfl, (if_neg (by decide)).trans ((if_neg (by decide)).trans (if_pos rfl)), rfl, ?_, Nat.ne_of_gt l2.1, .nil, .nil, rfl, by simp, by simp⟩
    intro p hp b hb
    simp only [List.mem_cons, List.not_mem_nil, or_false] at hb
    rcases hb with rfl | rfl
    · exact Nat.ne_of_lt (of_allLt (And.right l2) p hp)
    · exact Nat.ne_of_lt (of_allLt (l := HiAt w.params hx hv rl k3 k4 k5 k6 k7 t3 ((rl, listOf rs.toArray nr) :: rest)) l1 p hp)
  case turn =>
    intro i v m₁ nx h tk own hgv hoff hin J F' N'
    exact lr_turn fa ccd h₀ L _ _ B X T du rl rs nr rows (HiAt w.params hx hv rl k3 k4 k5 k6 k7 t3 ((rl, listOf rs.toArray nr) :: rest)) (hrows.mono fun p hp => .tail _ (.tail _ (.tail _ hp))) hrs (.tail _ (.tail _ List.mem_cons_self)) i v m₁ nx own hgv hoff J F' N'
  case done =>
    intro m₁ nx h tk J F' N'
    exact ret m₁ h tk nx J F' N'
end Mine
end
section
open PySem PySem.W PyProof.Rows
open PySem.Calls PyProof.V PySem.Spec
set_option maxHeartbeats 8000000
namespace Mine
local macro_rules | `(tactic| walk_at "call builtin:len") => `(tactic| (k_here; (with_reducible show wpAny _ _ (call (Value.builtin "len") [Value.ref _]) _ _ _); k_dflt (refine' len_snoc ?k1 ?k2 ?k3 ?_; (case k1 => k_asm); (case k2 => k_memK); (case k3 => first | omega | (simp only [List.length_append, List.length_cons, List.length_nil]; omega)))))
local macro_rules | `(tactic| walk_at "subscriptTail") => `(tactic| (k_here; (with_reducible show wpAny _ _ (subscriptTail _ (PySem.Expr.UnaryOp _ _ _) (Value.ref _) (Value.int _ _)) _ _ _); k_dflt (refine' item_snoc ?k1 ?k2 ?k3 ?_; (case k1 => k_asm); (case k2 => k_memK); (case k3 => first | omega | (simp only [List.length_append, List.length_cons, List.length_nil]; omega)))))
local macro_rules | `(tactic| walk_at "call builtin:list.append") => `(tactic| (k_here; k_dflt (refine' append_snoc ?k1 ?k2 ?k3 ?k4 ?_; (case k1 => k_asm); (case k2 => k_asm); (case k3 => k_upd); (case k4 => first | omega | (simp only [List.length_append, List.length_cons, List.length_nil]; omega))); intro h' F' N'; (try k_sweep)))
local macro_rules | `(tactic| walk_at "compareOp Eq ref ref") => `(tactic| (k_here; k_dflt (refine' eq_rowB ?k1 ?k2 ?k3 ?k4 ?k5 ?k6 ?_; (case k1 => k_asm); (case k2 => k_memK); (case k3 => exact tupK (by k_in) (by k_is)); (case k4 => decide +kernel); (case k5 => decide +kernel); (case k6 => units_room))))
local macro_rules | `(tactic| walk_at "compareOp Eq int int") => `(tactic| (k_here; (first | refine eqi_ff (by omega) ?_ | refine eqi_tt (by omega) ?_)))
local macro_rules | `(tactic| walk_at "compareOp Lt int int") => `(tactic| (k_here; (first | refine lti_tt (by omega) ?_ | refine lti_ff (by omega) ?_)))
local macro_rules | `(tactic| walk_at "compareOp Eq str str") => `(tactic| (first
  | (refine eq_str_tt (by first | with_reducible assumption | exact beq_self_eq_true _ | decide +kernel) ?_; walk_say "TT") | (refine eq_str_ff (by first | with_reducible assumption | decide +kernel) ?_; walk_say "FF")))
local macro_rules | `(tactic| walk_at "compareOp NotEq str str") => `(tactic| (first
  | (refine ne_str_tt (by first | with_reducible assumption | exact beq_self_eq_true _ | decide +kernel) ?_; walk_say "TT") | (refine ne_str_ff (by first | with_reducible assumption | decide +kernel) ?_; walk_say "FF")))
local macro_rules | `(tactic| walk_at "subscriptTail Name UnaryOp ref int") => `(tactic| (k_here; (with_reducible show wpAny _ _ (subscriptTail _ (PySem.Expr.UnaryOp _ _ _) (Value.ref _) (Value.int _ _)) _ _ _); k_dflt (refine' item_snoc ?k1 ?k2 ?k3 ?_; (case k1 => k_asm); (case k2 => k_memK); (case k3 => first | omega | (simp only [List.length_append, List.length_cons, List.length_nil]; omega)))))
local macro_rules | `(tactic| walk_at "subscriptTail Attribute Name UnaryOp ref int") => `(tactic| (k_here; (with_reducible show wpAny _ _ (subscriptTail _ (PySem.Expr.UnaryOp _ _ _) (Value.ref _) (Value.int _ _)) _ _ _); k_dflt (refine' item_snoc ?k1 ?k2 ?k3 ?_; (case k1 => k_asm); (case k2 => k_memK); (case k3 => first | omega | (simp only [List.length_append, List.length_cons, List.length_nil]; omega)))))
local macro_rules | `(tactic| k_allIn) => `(tactic| (intro pT hT; k_ownIn))
theorem groups_dat {news : List (Addr × Obj)} {vs : List Value} {d : List (List Int)} (h : GroupsAre news vs d) : DatAll news vs (d.map fun g => Dat.list (g.map Dat.int)) := by
  have hints : ∀ {us : List Value} {gI : List Int}, IntsAre us gI → DatAll news us (gI.map Dat.int) := by
    intro us gI h
    induction h with
    | nil => exact .nil
    | cons a t _ ih => exact .cons (.int a t) ih
  induction h with
  | nil => exact .nil
  | cons hm hi _ ih => exact .cons (.list hm (hints hi)) ih
section
variable {prog : Program} {w : World} {A : Around} {E : Value → Shared → Prop} {s : Shared} {h₀ : Heap} {L a b fc cg : Addr} {news : List (Addr × Obj)} {fv dv cs gs : List Value} {nf nc nd ng : Nat} {d : List (List Int)} {cI : List Int} {Q : Value → Shared → Prop}
theorem eq_groups (N : News h₀ L s.heap news) (ha : (a, listOf (fv ++ [Value.ref fc]).toArray nf) ∈ news) (hc : (fc, listOf cs.toArray nc) ∈ news) (hi : IntsAre cs cI) (hf : GroupsAre news fv d)
    (hb : (b, listOf (dv ++ [Value.ref cg]).toArray nd) ∈ news) (hg : (cg, listOf gs.toArray ng) ∈ news) (hj : IntsAre gs cI) (hd : GroupsAre news dv d) (hu : A.units + 64 < cLine) (h : Q (.bool true) s) :
    wpAny (model prog w) A (compareOp .Eq (.ref a) (.ref b)) Q E s := by
  have ok : ∀ x ∈ (d ++ [cI]).map (fun g => Dat.list (g.map Dat.int)), kqdOk 8 x = true := by
    intro x hx
    obtain ⟨g, _, rfl⟩ := List.mem_map.mp hx
    simp [kqdOk]
  refine kqd_eq N ha rfl rfl (groups_dat (hf.snoc hc hi)) (fun _ hp => hp) hb rfl rfl (groups_dat (hd.snoc hg hj)) (fun _ hp => hp) ok ok hu ?_
  simpa only [eq_self, decide_true] using h
end
local macro_rules | `(tactic| walk_at "compareOp Eq ref ref") => `(tactic| (k_here; k_dflt (refine' eq_groups ?N ?a ?c ?i ?g ?b ?hg ?ig ?gd ?hu ?_; (case N => assumption); (case a => assumption); (case c => assumption); (case i => assumption); (case g => assumption); (case b => assumption); (case hg => assumption); (case ig => assumption); (case gd => assumption); (case hu => units_room))))
theorem ld {w : World} {loose : List Str} {mean : ExcName → Option Value} {mg mb : Str → Option Value}
    (fa : Addr) (ccd : Value) (h₀ : Heap) (L : Addr) (m : Str → Option Value) (s : Shared) (Q : Flow → Shared → Prop)
    (fl fc du cg : Addr) (fv cs dv gs : List Value) (nf nc nd ng : Nat) (d : List (List Int)) (cI : List Int) (nx : List (Addr × Obj))
    (B : Below callerA h₀ [] h₀) (F : Fr h₀ L s.heap m) (X : (hd.heap_39 w.params).In h₀) (T : Top hd.view_39 loose mean mg mb h₀)
    (e1 : m (Str.ofString "found") = some (.ref fl)) (e2 : m (Str.ofString "due") = some (.ref du)) (N : News h₀ L s.heap nx)
    (ha : (fl, listOf (fv ++ [Value.ref fc]).toArray nf) ∈ nx) (hc : (fc, listOf cs.toArray nc) ∈ nx) (hi : IntsAre cs cI) (hf : GroupsAre nx fv d)
    (hb : (du, listOf (dv ++ [Value.ref cg]).toArray nd) ∈ nx) (hg : (cg, listOf gs.toArray ng) ∈ nx) (hj : IntsAre gs cI) (hdv : GroupsAre nx dv d)
    (ret : ∀ (h' : Heap) (tk' : Nat) (m' : Str → Option Value), Fr h₀ L h' m' → Q (.ret (.bool true)) { s with heap := h', toks := tk' }) :
    wpAny (model PySem.Challenge.rw_np0013_01.row.prog w) (callerA.deeper (envOf (Str.ofString "law") lawScope L fa ccd)) (execs (bAt 5 :: []) (envOf (Str.ofString "law") lawScope L fa ccd)) Q (fun _ _ => False) s := by
  revert X; k_fill; intro X
  dsimp only [bAt, lawScope, lawStmt, PySem.Challenge.pw_np0013_01, List.getD, fnBody, fnScope, forBody, List.getElem?_cons_succ, List.getElem?_cons_zero, Option.getD, List.drop]
  replace F := fr_norm2 F e1 e2
  repeat' (first | (k_unfold; (try dsimp only)) | (k_end; wrow_close) | (walk1 <;> (try dsimp only)) | (leave1; walk_say "STEP leave1"; try dsimp only) | fail "no step")
  exact ret _ _ _ F
end Mine
end
section
open PySem PySem.W PyProof.Rows
open PySem.Calls PyProof.V PySem.Spec
set_option maxHeartbeats 8000000
namespace Mine
local macro_rules | `(tactic| k_allIn) => `(tactic| (intro pT hT; k_ownIn))
local macro_rules | `(tactic| walk_at "eval ListComp") => `(tactic| (k_here; (with_reducible apply ListComp_DCn); (case hh => with_unfolding_all rfl); (case hclos => with_unfolding_all rfl); (case hcell => decide); (case hkind => with_unfolding_all rfl); (case hnames => decide); (case hx => with_unfolding_all rfl); (case hs => intro _; with_unfolding_all rfl); (case' h => with_reducible refine wpAny_compPack ?_)))
local macro_rules | `(tactic| walk_at "spliced") => `(tactic| (k_here; k_made; walk_say "MADE"; walk_at "spliced"))
theorem fr_norm1 {h₀ h : Heap} {L : Addr} {m : Str → Option Value} {x1 : Str} {v1 : Value} (F : Fr h₀ L h m) (e1 : m x1 = some v1) :
    Fr h₀ L h (fun y => if y = x1 then some v1 else m y) := by
  have e : (fun y => if y = x1 then some v1 else m y) = m := by
    funext y
    split
    · subst y; exact e1.symm
    rfl
  rw [e]; exact F
theorem news9 {h₀ h : Heap} {L : Addr} {news : List (Addr × Obj)} {p1 p2 p3 p4 p5 p6 p7 p8 p9 : Addr × Obj} (N : News h₀ L h news) (a1 : p1 ∈ news) (a2 : p2 ∈ news) (a3 : p3 ∈ news) (a4 : p4 ∈ news) (a5 : p5 ∈ news) (a6 : p6 ∈ news) (a7 : p7 ∈ news) (a8 : p8 ∈ news) (a9 : p9 ∈ news) :
    News h₀ L h [p1, p2, p3, p4, p5, p6, p7, p8, p9] := by
  refine news_sub N fun p hp => ?_
  simp only [List.mem_cons, List.not_mem_nil, or_false] at hp
  rcases hp with rfl | rfl | rfl | rfl | rfl | rfl | rfl | rfl | rfl <;> assumption
theorem la {w : World} {loose : List Str} {mean : ExcName → Option Value} {mg mb : Str → Option Value}
    (fa : Addr) (ccd : Value) (h₀ : Heap) (L : Addr) (m : Str → Option Value) (s : Shared) (Q : Flow → Shared → Prop) (tailS : List Stmt)
    (l : Addr) (vals : List Value) (ns : List Int)
    (B : Below callerA h₀ [] h₀) (F : Fr h₀ L s.heap m) (X : (hd.heap_39 w.params).In h₀) (T : Top hd.view_39 loose mean mg mb h₀)
    (e1 : m (Str.ofString "script") = some (.ref l)) (hl : h₀.IsList l vals.toArray) (hI : IntsAre vals ns) (hz : ns.length ≤ 63) (N : News h₀ L s.heap [])
    (ret : ∀ (m' : Str → Option Value) (h' : Heap) (tk' : Nat) (dk d0 d1 ax ad hx hv rl du : Addr) (us vs : List Value) (xs ys : List Int) (c : Int) (t : Tok) (n n0 n1 : Nat) (k1 k2 k3 k4 k5 k6 k7 t1 t2 t3 tl tm ts : Tok) (nr nd : Nat),
      Fr h₀ L h' m' → m' (Str.ofString "deck") = some (.ref dk) → m' (Str.ofString "amalgam") = some (.ref ax) → m' (Str.ofString "history") = some (.ref hx) → m' (Str.ofString "last") = some (.str (Str.ofString "") tl) →
      m' (Str.ofString "many") = some (.int 0 tm) → m' (Str.ofString "due") = some (.ref du) → m' (Str.ofString "sort") = some (.str (Str.ofString "insert") ts) →
      News h₀ L h' (DeckAt dk d0 d1 us vs c t n n0 n1 (AmAt w.params ax ad k1 k2 (Str.ofString "") 0 t1 t2 (HiAt w.params hx hv rl k3 k4 k5 k6 k7 t3 ((rl, listOf #[] nr) :: (du, listOf #[] nd) :: [])))) →
      IntsAre us xs → IntsAre vs ys → xs.length ≤ 20 → 0 < ys.length → ys.length ≤ 21 →
      @LT.lt Nat _ d0 d1 → @LT.lt Nat _ d1 dk → @LT.lt Nat _ dk ad → @LT.lt Nat _ ad ax → @LT.lt Nat _ ax hv → @LT.lt Nat _ hv hx → @LT.lt Nat _ hx rl → @LT.lt Nat _ rl du →
      wpAny (model PySem.Challenge.rw_np0013_01.row.prog w) (callerA.deeper (envOf (Str.ofString "law") lawScope L fa ccd)) (execs tailS (envOf (Str.ofString "law") lawScope L fa ccd)) Q (fun _ _ => False) { s with heap := h', toks := tk' }) :
    wpAny (model PySem.Challenge.rw_np0013_01.row.prog w) (callerA.deeper (envOf (Str.ofString "law") lawScope L fa ccd)) (execs (bAt 0 :: bAt 1 :: tailS) (envOf (Str.ofString "law") lawScope L fa ccd)) Q (fun _ _ => False) s := by
  revert X; k_fill; intro X
  dsimp only [bAt, lawScope, lawStmt, PySem.Challenge.pw_np0013_01, List.getD, fnBody, fnScope, forBody, List.getElem?_cons_succ, List.getElem?_cons_zero, Option.getD, List.drop]
  replace F := fr_norm1 F e1
  repeat' (first | (k_unfold; (try dsimp only)) | (k_end; wrow_close) | (walk1 <;> (try dsimp only)) | (leave1; walk_say "STEP leave1"; try dsimp only) | fail "no step")
  refine' ret _ _ _ _ _ _ _ _ _ _ _ _ _ _ _ _ _ _ _ _ _ _ _ _ _ _ _ _ _ _ _ _ _ _ _ _ ?F ?e1 ?e2 ?e3 ?e4 ?e5 ?e6 ?e7 (news9 ?N ?a1 ?a2 ?a3 ?a4 ?a5 ?a6 ?a7 ?a8 ?a9) ?us ?vs ?l1 ?l2 ?l3 ?o1 ?o2 ?o3 ?o4 ?o5 ?o6 ?o7 ?o8
  case F => assumption
  case e1 => rfl
  case e2 => rfl
  case e3 => rfl
  case e4 => rfl
  case e5 => rfl
  case e6 => rfl
  case e7 => rfl
  case N => assumption
  case a1 => (repeat (first | exact List.Mem.head _ | refine List.Mem.tail _ ?_))
  case a2 => (repeat (first | exact List.Mem.head _ | refine List.Mem.tail _ ?_))
  case a3 => (repeat (first | exact List.Mem.head _ | refine List.Mem.tail _ ?_))
  case a4 => (repeat (first | exact List.Mem.head _ | refine List.Mem.tail _ ?_))
  case a5 => (repeat (first | exact List.Mem.head _ | refine List.Mem.tail _ ?_))
  case a6 => (repeat (first | exact List.Mem.head _ | refine List.Mem.tail _ ?_))
  case a7 => (repeat (first | exact List.Mem.head _ | refine List.Mem.tail _ ?_))
  case a8 => (repeat (first | exact List.Mem.head _ | refine List.Mem.tail _ ?_))
  case a9 => (repeat (first | exact List.Mem.head _ | refine List.Mem.tail _ ?_))
  case us => assumption
  case vs => assumption
  case l1 => rw [List.length_map]; exact Nat.le_trans (List.length_filter_le _ _) (by rw [List.length_map, List.length_take]; omega)
  case l2 => simp only [List.length_append, List.length_cons, List.length_nil]; omega
  case l3 => simp only [List.length_append, List.length_cons, List.length_nil, List.length_map, List.length_take]; omega
  case o1 => omega
  case o2 => omega
  case o3 => omega
  case o4 => omega
  case o5 => omega
  case o6 => omega
  case o7 => omega
  case o8 => omega
end Mine
end
section
open PySem PySem.W PyProof.Rows
open PySem.Calls PyProof.V PySem.Spec
set_option maxHeartbeats 8000000
namespace Mine
theorem law_split : fnBody lawStmt = bAt 0 :: bAt 1 :: bAt 2 :: bAt 3 :: bAt 4 :: bAt 5 :: [] := rfl
theorem law_ok {w : World} {loose : List Str} {mean : ExcName → Option Value} {mg mb : Str → Option Value}
    (fa : Addr) (ccd : Value) (h₀ : Heap) (L : Addr) (m : Str → Option Value) (s : Shared) (Q : Flow → Shared → Prop)
    (l : Addr) (vals : List Value) (ns : List Int)
    (B : Below callerA h₀ [] h₀) (F : Fr h₀ L s.heap m) (X : (hd.heap_39 w.params).In h₀) (T : Top hd.view_39 loose mean mg mb h₀)
    (e1 : m (Str.ofString "script") = some (.ref l)) (hl : h₀.IsList l vals.toArray) (hI : IntsAre vals ns) (hz : ns.length ≤ 63) (N : News h₀ L s.heap [])
    (ret : ∀ (h' : Heap) (tk' : Nat) (m' : Str → Option Value), Fr h₀ L h' m' → Q (.ret (.bool true)) { s with heap := h', toks := tk' }) :
    wpAny (model PySem.Challenge.rw_np0013_01.row.prog w) (callerA.deeper (envOf (Str.ofString "law") lawScope L fa ccd)) (execs (fnBody lawStmt) (envOf (Str.ofString "law") lawScope L fa ccd)) Q (fun _ _ => False) s := by
  rw [law_split]
  refine la fa ccd h₀ L m s Q _ l vals ns B F X T e1 hl hI hz N ?_
  intro m1 h1 tk1 dk d0 d1 ax ad hx hv rl du us vs xs ys c t n n0 n1 k1 k2 k3 k4 k5 k6 k7 t1 t2 t3 tl tm ts nr nd F1 f1 f2 f3 f4 f5 f6 f7 N1 hus hvs hx1 hy0 hy1 o1 o2 o3 o4 o5 o6 o7 o8
  refine lb fa ccd h₀ L m1 _ Q _ dk d0 d1 ax ad hx hv rl du us vs xs ys c t n n0 n1 k1 k2 k3 k4 k5 k6 k7 t1 t2 t3 tl tm ts nr nd B F1 X T f1 f1 f2 f3 f4 f5 f6 f7 hus hvs hx1 hy0 hy1 o1 o2 o3 o4 o5 o6 o7 o8 N1 ?_
  intro m2 h2 tk2 nx i hi0 hi1 J F2 N2
  obtain ⟨us2, vs2, xs2, ys2, c2, tc2, n2, n02, n12, so, mo, t12, t22, nr2, nd2, last, sort, tl2, tm2, ts2, mn, rest, rs, dv, _, _, g3, _, _, g6, _, _, _, _, _, _, rfl, _, _, _, hsh⟩ := J
  rcases hsh with ⟨h0, _⟩ | ⟨rs', dv', tp, tn, ta, tu1, tu2, tu3, cg, gs, gI, ng, rest', rows, old, _, hrs, hdv, hrest, _, _, _, _, hgs, hrows, hgr, hfold, hlen, _, _⟩
  · omega
  have hro : RowsAre ((du, listOf dv.toArray nd2) :: rest) rs rows := hrows.mono fun p hp => by
    rw [hrest]
    rcases List.mem_cons.mp hp with e | hp
    · rw [e]; exact .tail _ List.mem_cons_self
    · exact .tail _ (.tail _ (.tail _ hp))
  refine lc fa ccd h₀ L m2 _ Q _ hx hv rl du k3 k4 k5 k6 k7 t3 rs nr2 rows _ B F2 X T g3 g6 hro (by omega) (news_sub N2 fun p hp => .tail _ (.tail _ (.tail _ (.tail _ (.tail _ hp))))) ?_
  intro m3 h3 tk3 nx3 J2 F3 N3
  obtain ⟨fl, fc, fv, nf, cs, nc, cI, tl3, d, q1, q2, rfl, _, _, hcs, hgf, hfold2, _, _⟩ := J2
  rw [hro.length, List.take_length, hfold] at hfold2
  obtain ⟨rfl, rfl⟩ := Prod.mk.inj hfold2
  subst hdv hrest
  refine ld fa ccd h₀ L m3 _ Q fl fc du cg fv cs dv' gs nf nc nd2 ng old gI _ B F3 X T q1 q2 N3 List.mem_cons_self (.tail _ List.mem_cons_self) hcs (hgf.mono fun p hp => .tail _ (.tail _ (List.mem_append.mpr (.inl hp)))) ?_ ?_ hgs (hgr.mono fun p hp => ?_) fun h' tk' m' F' => ret h' tk' m' F'
  · exact .tail _ (.tail _ (List.mem_append.mpr (.inr (.tail _ (.tail _ (.tail _ List.mem_cons_self))))))
  · exact .tail _ (.tail _ (List.mem_append.mpr (.inr (.tail _ (.tail _ (.tail _ (.tail _ (.tail _ List.mem_cons_self))))))))
  · exact .tail _ (.tail _ (List.mem_append.mpr (.inr (.tail _ (.tail _ (.tail _ (.tail _ (.tail _ (.tail _ hp)))))))))
end Mine
end
open PySem PySem.W PyProof.Rows
open PySem.Calls PyProof.V PySem.Spec
set_option maxHeartbeats 8000000
theorem PySem.Challenge.cw_np0013_01_holds : PySem.Challenge.rw_np0013_01.Holds := by
  refine Mine.hd ?_
  w_strict (k_go0; (rename Fr _ _ _ _ => F1); (rename News _ _ _ _ => N1); (rename Below _ _ _ _ => B1); (rename IntsAre _ _ => I1); (rename Frag.In _ _ => X1); (refine wpAny_mono (Mine.law_ok _ _ _ _ _ _ _ _ _ _ B1 F1 X1 (by assumption) rfl (by assumption) I1 (by omega) N1 ?_) (fun _ _ h => h) (fun _ _ h => h.elim)); (intro h' tk' m' F'); wrow_close)
