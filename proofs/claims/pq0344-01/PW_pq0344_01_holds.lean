import PyProof.Rows.All
import Wide.All
import OpenK.AllK
import Wide.FinOn
import PySem.Challenge.RW_pq0344_01
open PySem PySem.W PyProof.Rows
set_option Elab.async false
set_option maxRecDepth 100000
set_option maxHeartbeats 8000000
namespace Mine
open_top hd for PySem.Challenge.rw_pq0344_01
abbrev PP : Program := PySem.Challenge.rw_pq0344_01.row.prog
abbrev TopP (mean : ExcName → Option Value) (mg mb : Str → Option Value) (h : Heap) : Prop := Top hd.view_39 (looseW hd.view_39 [Str.ofString "BLANKS"]) mean mg mb h
/-- what a call hands back: a value, the ledger as it stood -/
abbrev Rt (h₀ : Heap) (L : Addr) (m : Str → Option Value) (news : List (Addr × Obj)) (s : Shared) (Q : Value → Shared → Prop) (R : Tok → Value) : Prop :=
  ∀ (t : Tok) (h' : Heap) (tk' : Nat), Fr h₀ L h' m → News h₀ L h' news → Q (R t) { s with heap := h', toks := tk' }
theorem led_add {h₀ h : Heap} {L : Addr} {p : Addr × Obj} {news : List (Addr × Obj)} (N : News h₀ L h news) {n' : List (Addr × Obj)} (hp : p ∈ n') (N' : News h₀ L h n') : News h₀ L h (p :: news) := by
  intro q hq
  rcases List.mem_cons.mp hq with rfl | hq
  · exact N' _ hp
  · exact N q hq
theorem led_tail {h₀ h : Heap} {L : Addr} {p : Addr × Obj} {news : List (Addr × Obj)} (N : News h₀ L h (p :: news)) : News h₀ L h news := fun q hq => N q (.tail _ hq)
theorem room_1 {d a b lim : Nat} (h : d + a < lim) (hab : 1 + b ≤ a) : d + 1 + b < lim := by omega
theorem room_3 {d a b lim : Nat} (h : d + a < lim) (hab : 3 + b ≤ a) : d + 3 + b < lim := by omega
theorem ne_here {a b : Nat} {r : Prop} (h : a ≠ b ∧ r) : a ≠ b := h.1
theorem ne_back {a b : Nat} {r : Prop} (h : b ≠ a ∧ r) : a ≠ b := Ne.symm h.1
theorem ne_low {a b : Nat} {r : Prop} (h : a < b ∧ r) : a ≠ b := Nat.ne_of_lt h.1
theorem ne_high {a b : Nat} {r : Prop} (h : b < a ∧ r) : a ≠ b := Nat.ne_of_gt h.1
theorem and_rest {p q : Prop} (h : p ∧ q) : q := h.2
/-- a ledger cut at an address that stands in it once -/
inductive Cut (d : Addr) (o : Obj) : List (Addr × Obj) → List (Addr × Obj) → List (Addr × Obj) → Prop
  | head {r} : (∀ p ∈ r, p.1 ≠ d) → Cut d o ((d, o) :: r) [] r
  | tail {p l pre post} : p.1 ≠ d → Cut d o l pre post → Cut d o (p :: l) (p :: pre) post
theorem Cut.eq {d : Addr} {o : Obj} {l pre post : List (Addr × Obj)} (h : Cut d o l pre post) : l = pre ++ (d, o) :: post ∧ (∀ p ∈ pre, p.1 ≠ d) ∧ ∀ p ∈ post, p.1 ≠ d := by
  induction h with
  | head h => exact ⟨rfl, fun _ hp => (nomatch hp), h⟩
  | tail hp _ ih => exact ⟨by rw [ih.1]; rfl, List.forall_mem_cons.mpr ⟨hp, ih.2.1⟩, ih.2.2⟩
local macro_rules | `(tactic| walk_at $s:str) => `(tactic| k_extra $s)
local macro_rules | `(tactic| k_room) => `(tactic| ktr_room)
local macro_rules | `(tactic| k_upd) => `(tactic| k_extra "k_upd")
local macro_rules | `(tactic| k_all) => `(tactic| k_extra "k_all")
local macro_rules | `(tactic| k_ne) => `(tactic| k_extra "k_ne")
local macro_rules | `(tactic| kst_in) => `(tactic| k_extra "kst_in")
local macro_rules | `(tactic| kst_inAny) => `(tactic| k_extra "kst_inAny")
/-! part width -/
section
variable {w : World} {mean : ExcName → Option Value} {mg mb : Str → Option Value} {dp un : Nat} {gd : Option (List Code)} {cn : Str} {cs : Scope} {a : Addr} {ccd : Value} {cl : List (Str × Addr)} {outer : List Env} {A₀ : Around} {base h₀ : Heap} {L : Addr} {m : Str → Option Value} {s : Shared} {Q E : Value → Shared → Prop}

def widthAt (c k w : Int) : Int := if c = 9 then w - Int.fmod k w else if c < 32 ∨ c = 127 then 2 else if 127 < c ∧ c < 160 then 4 else 1
theorem c_width_at {c k wd : Int} {t1 t2 t3 : Tok} {rest : List (Addr × Obj)} (hw : 0 < wd)
  (B : Below A₀ base outer h₀) (F : Fr h₀ L s.heap m) (X : (hd.heap_39 w.params).In h₀) (N : News h₀ L s.heap (rest)) (T : TopP mean mg mb h₀) (hk : cs.kind = .function) (hdp : dp + 8 < recursionLimit) (hun : un + 80 < cLine)
  (hret : Rt h₀ L m rest s Q (fun t => .int (widthAt c k wd) t)) :
  wpAny (model PP w) (ktrTop dp un gd cn cs L a ccd cl outer) (call (.ref 36) [.int c t1, .int k t2, .int wd t3]) Q E s := by
  k_with_none
  k_with "k_upd" => first | (refine' Cut.head ?aZ9; (case aZ9 => k_all)) | (refine' Cut.tail ?aZ9 ?bZ9; (case aZ9 => k_ne); (case bZ9 => k_upd))
  k_with "k_all" => with_reducible assumption
  k_with "k_ne" => (refine neN ?_; (try dsimp only); as_aux_lemma => first | with_reducible assumption | (apply ne_here; (iterate 24 (try (first | with_reducible assumption | apply and_rest))); done) | (apply ne_back; (iterate 24 (try (first | with_reducible assumption | apply and_rest))); done) | (apply ne_low; (iterate 24 (try (first | with_reducible assumption | apply and_rest))); done) | (apply ne_high; (iterate 24 (try (first | with_reducible assumption | apply and_rest))); done) | fail)
  refine wpAny_call ?_
  k_dflt ktr_enter
  k_steps
  all_goals (refine' cb_retI hret ?e (by assumption) (by assumption); (case e => (unfold widthAt; repeat' split; all_goals omega)))
end
/-! part draw -/
section
variable {w : World} {mean : ExcName → Option Value} {mg mb : Str → Option Value} {dp un : Nat} {gd : Option (List Code)} {cn : Str} {cs : Scope} {a : Addr} {ccd : Value} {cl : List (Str × Addr)} {outer : List Env} {A₀ : Around} {base h₀ : Heap} {L : Addr} {m : Str → Option Value} {s : Shared} {Q E : Value → Shared → Prop}

def DeckOk (ns : List Int) : Prop := ns.length ≤ 16 ∧ ∀ v ∈ ns, 0 ≤ v ∧ v < 10 ^ 16
theorem deck_tail {v : Int} {ns : List Int} (h : DeckOk (v :: ns)) : DeckOk ns := ⟨Nat.le_trans (Nat.le_succ _) h.1, fun x hx => h.2 x (.tail _ hx)⟩
theorem deck_set {ns : List Int} {v k : Int} (h : DeckOk (v :: ns)) (hk : 0 < k) (i : Nat) : DeckOk ((v :: ns).set i (Int.fdiv v k)) := by
  refine ⟨by rw [List.length_set]; exact h.1, fun x hx => ?_⟩
  rcases List.mem_or_eq_of_mem_set hx with hx | rfl
  · exact h.2 x hx
  · have hv := h.2 v (.head _)
    rw [Int.fdiv_eq_ediv_of_nonneg _ (Int.le_of_lt hk)]
    exact ⟨Int.ediv_nonneg hv.1 (Int.le_of_lt hk), Int.lt_of_le_of_lt (Int.ediv_le_self _ hv.1) hv.2⟩
theorem pop0 {prog : Program} {w : World} {A : Around} {E : Value → Shared → Prop} {s : Shared} {h₀ : Heap} {L D : Addr} {m : Str → Option Value} {news news' : List (Addr × Obj)} {y : Value} {q : List Value} {n : Nat} {u : Tok} {Q : Value → Shared → Prop}
    (F : Fr h₀ L s.heap m) (N : News h₀ L s.heap news) (U : Upd D (listOf (y :: q).toArray n) (listOf q.toArray (n + 1)) news news')
    (hz : q.length ≤ 1000) (h : ∀ h', Fr h₀ L h' m → News h₀ L h' news' → Q y { s with heap := h' }) : wpAny (model prog w) A (call (.builtin "list.pop") [.ref D, .int 0 u]) Q E s := by
  refine kl_popAt (k := 0) (p := []) (q := q) (y := y) F N (by decide +kernel) ?_ rfl U ?_ h
  · simp [seqIndex?]
  · show q.length + 1 ≤ sizeLine
    rw [PySem.sizeLine_eq]; omega
theorem c_draw0 {d : Addr} {vs : List Value} {ns : List Int} {nn : Nat} {rest : List (Addr × Obj)} {k : Int} {t0 : Tok} (hi : IntsAre vs ns) (hok : DeckOk ns) (hoff : ∀ p ∈ rest, p.1 ≠ d) (hk0 : 0 < k) (hk1 : k < 1000)
  (B : Below A₀ base outer h₀) (F : Fr h₀ L s.heap m) (X : (hd.heap_39 w.params).In h₀) (N : News h₀ L s.heap ((d, listOf vs.toArray nn) :: rest)) (T : TopP mean mg mb h₀) (hk : cs.kind = .function) (hdp : dp + 8 < recursionLimit) (hun : un + 80 < cLine)
  (hret : ∀ (r : Int) (vs' : List Value) (ns' : List Int) (nn' : Nat), 0 ≤ r → r < k → IntsAre vs' ns' → DeckOk ns' → Rt h₀ L m ((d, listOf vs'.toArray nn') :: rest) s Q (fun t => .int r t)) :
  wpAny (model PP w) (ktrTop dp un gd cn cs L a ccd cl outer) (call (.ref 133) [.ref d, .int k t0]) Q E s := by
  k_with_none
  k_with "k_upd" => first | (refine' Cut.head ?aZ9; (case aZ9 => k_all)) | (refine' Cut.tail ?aZ9 ?bZ9; (case aZ9 => k_ne); (case bZ9 => k_upd))
  k_with "k_all" => with_reducible assumption
  k_with "k_ne" => (refine neN ?_; (try dsimp only); as_aux_lemma => first | with_reducible assumption | (apply ne_here; (iterate 24 (try (first | with_reducible assumption | apply and_rest))); done) | (apply ne_back; (iterate 24 (try (first | with_reducible assumption | apply and_rest))); done) | (apply ne_low; (iterate 24 (try (first | with_reducible assumption | apply and_rest))); done) | (apply ne_high; (iterate 24 (try (first | with_reducible assumption | apply and_rest))); done) | fail)
  k_with "subscriptTail Name Constant ref int" => (k_here; (rename decide (_ = ([] : List Int)) = false => hD9); (rename IntsAre _ _ => hI9); (cases hI9; (exact absurd hD9 (by decide)); clear hD9))
  k_with "call builtin:list.pop" => (k_here; k_dflt (show wpAny _ _ (call (Value.builtin _) [Value.ref _, Value.int _ _]) _ _ _); k_dflt (refine' pop0 ?FZ9 ?NZ9 ?UZ9 ?zZ9 ?_; (case FZ9 => k_asm); (case NZ9 => k_asm); (case UZ9 => k_upd); (case zZ9 => ((rename DeckOk _ => hD9); (have hD8 := hD9.1); (have hD7 := IntsAre.length (by assumption)); simp only [List.length_cons] at *; omega))); intro h' F' N')
  k_with "exec While BoolOp cons nil" => k_while (fun _ deck => DeckOk deck) (fun _ deck => deck.length) "deck"
  k_with "state" => first | assumption | exact deck_tail (by assumption)
  refine wpAny_call ?_
  k_dflt ktr_enter
  k_steps
  all_goals (refine' hret _ _ _ _ ?r0 ?r1 ?ri ?ro _ _ _ ?rF ?rN; (case rF => assumption); (case rN => first | exact led_tail (led_tail (by assumption)) | exact led_tail (by assumption)); (case ri => first | assumption | exact .cons _ _ (by assumption)); (case r0 => first | exact Int.le_refl 0 | exact Int.fmod_nonneg_of_pos _ hk0); (case r1 => first | exact hk0 | exact Int.fmod_lt_of_pos _ hk0); (case ro => first | assumption | exact deck_set (by assumption) hk0 0))
theorem c_draw {d : Addr} {vs : List Value} {ns : List Int} {nn : Nat} {news pre post : List (Addr × Obj)} {k : Int} {t0 : Tok} (hi : IntsAre vs ns) (hok : DeckOk ns) (hU : Cut d (listOf vs.toArray nn) news pre post) (hk0 : 0 < k) (hk1 : k < 1000)
  (B : Below A₀ base outer h₀) (F : Fr h₀ L s.heap m) (X : (hd.heap_39 w.params).In h₀) (N : News h₀ L s.heap (news)) (T : TopP mean mg mb h₀) (hk : cs.kind = .function) (hdp : dp + 8 < recursionLimit) (hun : un + 80 < cLine)
  (hret : ∀ (r : Int) (vs' : List Value) (ns' : List Int) (nn' : Nat), 0 ≤ r → r < k → IntsAre vs' ns' → DeckOk ns' → Rt h₀ L m (pre ++ (d, listOf vs'.toArray nn') :: post) s Q (fun t => .int r t)) :
  wpAny (model PP w) (ktrTop dp un gd cn cs L a ccd cl outer) (call (.ref 133) [.ref d, .int k t0]) Q E s := by
  obtain ⟨rfl, h1, h2⟩ := hU.eq
  refine c_draw0 (nn := nn) (rest := pre ++ post) hi hok (fun p hp => (List.mem_append.mp hp).elim (h1 p) (h2 p)) hk0 hk1 B F X (fun p hp => N p ?_) T hk hdp hun fun r vs' ns' nn' a b c e t h' tk' F' N' => hret r vs' ns' nn' a b c e t h' tk' F' fun p hp => N' p ?_
  all_goals (simp only [List.mem_append, List.mem_cons] at hp ⊢; rcases hp with hp | hp | hp <;> simp [hp])
end
/-! part code -/
section
variable {w : World} {mean : ExcName → Option Value} {mg mb : Str → Option Value} {dp un : Nat} {gd : Option (List Code)} {cn : Str} {cs : Scope} {a : Addr} {ccd : Value} {cl : List (Str × Addr)} {outer : List Env} {A₀ : Around} {base h₀ : Heap} {L : Addr} {m : Str → Option Value} {s : Shared} {Q E : Value → Shared → Prop}

def codeAt (ns : List Int) (p : Int) : Int := if 1 ≤ p ∧ p < 1 + (ns.length : Int) then ns.getD (p - 1).toNat 0 else -1
theorem c_code_at {x dx lc : Addr} {vs : List Value} {ns : List Int} {nn : Nat} {u1 u2 u3 : Tok} {rest : List (Addr × Obj)} {p : Int} {t0 : Tok} (m1 : (x, instObj 117 dx) ∈ rest) (m2 : (dx, dictOf [⟨PyData.keyHash w.params "codes", .str "codes" u1, .ref lc⟩, ⟨PyData.keyHash w.params "place", .str "place" u2, .int 1 u3⟩] 2) ∈ rest) (m3 : (lc, listOf vs.toArray nn) ∈ rest) (hi : IntsAre vs ns) (hz : ns.length ≤ 1000)
  (B : Below A₀ base outer h₀) (F : Fr h₀ L s.heap m) (X : (hd.heap_39 w.params).In h₀) (N : News h₀ L s.heap (rest)) (T : TopP mean mg mb h₀) (hk : cs.kind = .function) (hdp : dp + 8 < recursionLimit) (hun : un + 80 < cLine)
  (hret : Rt h₀ L m rest s Q (fun t => .int (codeAt ns p) t)) :
  wpAny (model PP w) (ktrTop dp un gd cn cs L a ccd cl outer) (call (.ref 114) [.ref x, .int p t0]) Q E s := by
  replace N := led_add (led_add (led_add N m3 N) m2 N) m1 N
  clear m1 m2 m3
  k_with_none
  k_with "k_upd" => first | (refine' Cut.head ?aZ9; (case aZ9 => k_all)) | (refine' Cut.tail ?aZ9 ?bZ9; (case aZ9 => k_ne); (case bZ9 => k_upd))
  k_with "k_all" => with_reducible assumption
  k_with "k_ne" => (refine neN ?_; (try dsimp only); as_aux_lemma => first | with_reducible assumption | (apply ne_here; (iterate 24 (try (first | with_reducible assumption | apply and_rest))); done) | (apply ne_back; (iterate 24 (try (first | with_reducible assumption | apply and_rest))); done) | (apply ne_low; (iterate 24 (try (first | with_reducible assumption | apply and_rest))); done) | (apply ne_high; (iterate 24 (try (first | with_reducible assumption | apply and_rest))); done) | fail)
  refine wpAny_call ?_
  k_dflt ktr_enter
  k_steps
  all_goals (refine' cb_retI hret ?e (by assumption) (led_tail (led_tail (led_tail (by assumption)))); (case e => (unfold codeAt; first | (rw [if_pos (by omega)]; done) | (rw [if_neg (by omega)]))))
end
/-! part line1 -/
section
variable {w : World} {mean : ExcName → Option Value} {mg mb : Str → Option Value} {dp un : Nat} {gd : Option (List Code)} {cn : Str} {cs : Scope} {a : Addr} {ccd : Value} {cl : List (Str × Addr)} {outer : List Env} {A₀ : Around} {base h₀ : Heap} {L : Addr} {m : Str → Option Value} {s : Shared} {Q E : Value → Shared → Prop}

/-- how far back from an offset no newline stands -/
def lsN (ns : List Int) : Nat → Nat
  | 0 => 0
  | k + 1 => if ns.getD k 0 = 10 then k + 1 else lsN ns k
def lineStart (ns : List Int) (p : Int) : Int := 1 + (lsN ns (p - 1).toNat : Int)
theorem codeAt_in {ns : List Int} {k : Nat} (h : k < ns.length) : codeAt ns ((k : Int) + 1) = ns.getD k 0 := by
  unfold codeAt
  rw [if_pos (by omega)]
  congr 1
  omega
theorem ls_step {ns : List Int} {q : Int} (h1 : 1 < q) (h2 : q ≤ 1 + (ns.length : Int)) (h : codeAt ns (q - 1) ≠ 10) : lineStart ns (q - 1) = lineStart ns q := by
  obtain ⟨k, rfl⟩ : ∃ k : Nat, q = (k : Int) + 1 + 1 := ⟨(q - 2).toNat, by omega⟩
  have e : ((k : Int) + 1 + 1 - 1) = (k : Int) + 1 := by omega
  rw [e, codeAt_in (by omega)] at h
  unfold lineStart
  have e1 : ((k : Int) + 1 + 1 - 1).toNat = k + 1 := by omega
  have e2 : ((k : Int) + 1 + 1 - 1 - 1).toNat = k := by omega
  rw [e1, e2, lsN, if_neg h]
theorem ls_stop {ns : List Int} {q : Int} (h1 : 1 < q) (h2 : q ≤ 1 + (ns.length : Int)) (h : codeAt ns (q - 1) = 10) : lineStart ns q = q := by
  obtain ⟨k, rfl⟩ : ∃ k : Nat, q = (k : Int) + 1 + 1 := ⟨(q - 2).toNat, by omega⟩
  have e : ((k : Int) + 1 + 1 - 1) = (k : Int) + 1 := by omega
  rw [e, codeAt_in (by omega)] at h
  unfold lineStart
  have e1 : ((k : Int) + 1 + 1 - 1).toNat = k + 1 := by omega
  rw [e1, lsN, if_pos h]
  omega
theorem ls_one {ns : List Int} {q : Int} (h : q = 1) : lineStart ns q = q := by
  subst h
  rfl
theorem c_line_start {x dx lc : Addr} {vs : List Value} {ns : List Int} {nn : Nat} {u1 u2 u3 : Tok} {rest : List (Addr × Obj)} {p : Int} {t0 : Tok} (m1 : (x, instObj 117 dx) ∈ rest) (m2 : (dx, dictOf [⟨PyData.keyHash w.params "codes", .str "codes" u1, .ref lc⟩, ⟨PyData.keyHash w.params "place", .str "place" u2, .int 1 u3⟩] 2) ∈ rest) (m3 : (lc, listOf vs.toArray nn) ∈ rest) (hi : IntsAre vs ns) (hz : ns.length ≤ 1000) (hp0 : 1 ≤ p) (hp1 : p ≤ 1 + (ns.length : Int))
  (B : Below A₀ base outer h₀) (F : Fr h₀ L s.heap m) (X : (hd.heap_39 w.params).In h₀) (N : News h₀ L s.heap (rest)) (T : TopP mean mg mb h₀) (hk : cs.kind = .function) (hdp : dp + 10 < recursionLimit) (hun : un + 100 < cLine)
  (hret : Rt h₀ L m rest s Q (fun t => .int (lineStart ns p) t)) :
  wpAny (model PP w) (ktrTop dp un gd cn cs L a ccd cl outer) (call (.ref 22) [.ref x, .int p t0]) Q E s := by
  k_with_none
  k_with "k_upd" => first | (refine' Cut.head ?aZ9; (case aZ9 => k_all)) | (refine' Cut.tail ?aZ9 ?bZ9; (case aZ9 => k_ne); (case bZ9 => k_upd))
  k_with "k_all" => with_reducible assumption
  k_with "k_ne" => (refine neN ?_; (try dsimp only); as_aux_lemma => first | with_reducible assumption | (apply ne_here; (iterate 24 (try (first | with_reducible assumption | apply and_rest))); done) | (apply ne_back; (iterate 24 (try (first | with_reducible assumption | apply and_rest))); done) | (apply ne_low; (iterate 24 (try (first | with_reducible assumption | apply and_rest))); done) | (apply ne_high; (iterate 24 (try (first | with_reducible assumption | apply and_rest))); done) | fail)
  k_with "call ref" => (k_here; (with_reducible show wpAny _ _ (call (Value.ref 114) _) _ _ _); k_dflt (refine' c_code_at ?m1Z9 ?m2Z9 ?m3Z9 ?hiZ9 ?hzZ9 ?kBZ9 ?kFZ9 ?kXZ9 ?kNZ9 ?kTZ9 ?kKZ9 ?kdZ9 ?kuZ9 ?_; (case kNZ9 => k_asm); (case kBZ9 => k_asm); (case kFZ9 => k_asm); (case kXZ9 => k_asm); (case kTZ9 => k_asm); (case kKZ9 => first | exact rfl | assumption); (case kdZ9 => first | (rename _ + _ < recursionLimit => hd9; exact room_1 hd9 (by decide)) | ktr_room); (case kuZ9 => first | (rename _ + _ < cLine => hu9; exact room_3 hu9 (by decide)) | ktr_units); (case m1Z9 => k_mem); (case m2Z9 => k_mem); (case m3Z9 => k_mem); (case hiZ9 => l_ints); (case hzZ9 => first | assumption | omega); k_whole); intro t9 h9 tk9 F9 N9; (try dsimp only); (try k_sweep); (try k_fold))
  k_with "exec While BoolOp cons nil" => k_while_given ["view.codes", "place"] (fun ns p _ q => 1 ≤ q ∧ q ≤ p ∧ lineStart ns q = lineStart ns p) (fun _ _ _ q => q.toNat) "at"
  k_with "state" => exact ⟨by omega, by omega, (ls_step (ns := ns) (by omega) (by omega) (by assumption)).trans (by assumption)⟩
  replace N := led_add (led_add (led_add N m3 N) m2 N) m1 N
  clear m1 m2 m3
  refine wpAny_call ?_
  k_dflt ktr_enter
  k_steps
  all_goals (refine' cb_retI hret ?e (by assumption) (led_tail (led_tail (led_tail (by assumption)))); (case e => first | exact (ls_one (ns := ns) (by omega)).symm.trans (by assumption) | exact (ls_stop (ns := ns) (by omega) (by omega) (by assumption)).symm.trans (by assumption)))
end
/-! part line2 -/
section
variable {w : World} {mean : ExcName → Option Value} {mg mb : Str → Option Value} {dp un : Nat} {gd : Option (List Code)} {cn : Str} {cs : Scope} {a : Addr} {ccd : Value} {cl : List (Str × Addr)} {outer : List Env} {A₀ : Around} {base h₀ : Heap} {L : Addr} {m : Str → Option Value} {s : Shared} {Q E : Value → Shared → Prop}

def lineEnd (ns : List Int) (p : Int) : Int := p + (((ns.drop (p - 1).toNat).takeWhile (· != 10)).length : Int)
theorem drop_cons {ns : List Int} {k : Nat} (h : k < ns.length) : ns.drop k = ns.getD k 0 :: ns.drop (k + 1) := by
  rw [List.drop_eq_getElem_cons h]
  congr 1
  simp [h]
theorem le_step {ns : List Int} {q : Int} (h1 : 1 ≤ q) (h2 : q < 1 + (ns.length : Int)) (h : codeAt ns q ≠ 10) : lineEnd ns (q + 1) = lineEnd ns q := by
  obtain ⟨k, rfl⟩ : ∃ k : Nat, q = (k : Int) + 1 := ⟨(q - 1).toNat, by omega⟩
  rw [codeAt_in (by omega)] at h
  unfold lineEnd
  have e1 : ((k : Int) + 1 + 1 - 1).toNat = k + 1 := by omega
  have e2 : ((k : Int) + 1 - 1).toNat = k := by omega
  rw [e1, e2, drop_cons (k := k) (by omega), List.takeWhile_cons, if_pos (by simpa using h), List.length_cons]
  omega
theorem le_stop {ns : List Int} {q : Int} (h1 : 1 ≤ q) (h2 : q < 1 + (ns.length : Int)) (h : codeAt ns q = 10) : lineEnd ns q = q := by
  obtain ⟨k, rfl⟩ : ∃ k : Nat, q = (k : Int) + 1 := ⟨(q - 1).toNat, by omega⟩
  rw [codeAt_in (by omega)] at h
  unfold lineEnd
  have e2 : ((k : Int) + 1 - 1).toNat = k := by omega
  rw [e2, drop_cons (k := k) (by omega), List.takeWhile_cons, if_neg (by simpa using h), List.length_nil]
  omega
theorem le_last {ns : List Int} {q : Int} (h : q = 1 + (ns.length : Int)) : lineEnd ns q = q := by
  subst h
  unfold lineEnd
  rw [List.drop_of_length_le (by omega)]
  simp
theorem c_line_end {x dx lc : Addr} {vs : List Value} {ns : List Int} {nn : Nat} {u1 u2 u3 : Tok} {rest : List (Addr × Obj)} {p : Int} {t0 : Tok} (m1 : (x, instObj 117 dx) ∈ rest) (m2 : (dx, dictOf [⟨PyData.keyHash w.params "codes", .str "codes" u1, .ref lc⟩, ⟨PyData.keyHash w.params "place", .str "place" u2, .int 1 u3⟩] 2) ∈ rest) (m3 : (lc, listOf vs.toArray nn) ∈ rest) (hi : IntsAre vs ns) (hz : ns.length ≤ 1000) (hp0 : 1 ≤ p) (hp1 : p ≤ 1 + (ns.length : Int))
  (B : Below A₀ base outer h₀) (F : Fr h₀ L s.heap m) (X : (hd.heap_39 w.params).In h₀) (N : News h₀ L s.heap (rest)) (T : TopP mean mg mb h₀) (hk : cs.kind = .function) (hdp : dp + 10 < recursionLimit) (hun : un + 100 < cLine)
  (hret : Rt h₀ L m rest s Q (fun t => .int (lineEnd ns p) t)) :
  wpAny (model PP w) (ktrTop dp un gd cn cs L a ccd cl outer) (call (.ref 29) [.ref x, .int p t0]) Q E s := by
  k_with_none
  k_with "k_upd" => first | (refine' Cut.head ?aZ9; (case aZ9 => k_all)) | (refine' Cut.tail ?aZ9 ?bZ9; (case aZ9 => k_ne); (case bZ9 => k_upd))
  k_with "k_all" => with_reducible assumption
  k_with "k_ne" => (refine neN ?_; (try dsimp only); as_aux_lemma => first | with_reducible assumption | (apply ne_here; (iterate 24 (try (first | with_reducible assumption | apply and_rest))); done) | (apply ne_back; (iterate 24 (try (first | with_reducible assumption | apply and_rest))); done) | (apply ne_low; (iterate 24 (try (first | with_reducible assumption | apply and_rest))); done) | (apply ne_high; (iterate 24 (try (first | with_reducible assumption | apply and_rest))); done) | fail)
  k_with "call ref" => (k_here; (with_reducible show wpAny _ _ (call (Value.ref 114) _) _ _ _); k_dflt (refine' c_code_at ?m1Z9 ?m2Z9 ?m3Z9 ?hiZ9 ?hzZ9 ?kBZ9 ?kFZ9 ?kXZ9 ?kNZ9 ?kTZ9 ?kKZ9 ?kdZ9 ?kuZ9 ?_; (case kNZ9 => k_asm); (case kBZ9 => k_asm); (case kFZ9 => k_asm); (case kXZ9 => k_asm); (case kTZ9 => k_asm); (case kKZ9 => first | exact rfl | assumption); (case kdZ9 => first | (rename _ + _ < recursionLimit => hd9; exact room_1 hd9 (by decide)) | ktr_room); (case kuZ9 => first | (rename _ + _ < cLine => hu9; exact room_3 hu9 (by decide)) | ktr_units); (case m1Z9 => k_mem); (case m2Z9 => k_mem); (case m3Z9 => k_mem); (case hiZ9 => l_ints); (case hzZ9 => first | assumption | omega); k_whole); intro t9 h9 tk9 F9 N9; (try dsimp only); (try k_sweep); (try k_fold))
  k_with "exec While BoolOp cons nil" => k_while_given ["view.codes", "place"] (fun ns p _ q => 1 ≤ q ∧ q ≤ 1 + (ns.length : Int) ∧ lineEnd ns q = lineEnd ns p) (fun ns _ _ q => (1 + (ns.length : Int) - q).toNat) "at"
  k_with "state" => exact ⟨by omega, by omega, (le_step (ns := ns) (by omega) (by omega) (by assumption)).trans (by assumption)⟩
  replace N := led_add (led_add (led_add N m3 N) m2 N) m1 N
  clear m1 m2 m3
  refine wpAny_call ?_
  k_dflt ktr_enter
  k_steps
  all_goals (refine' cb_retI hret ?e (by assumption) (led_tail (led_tail (led_tail (by assumption)))); (case e => first | exact (le_stop (ns := ns) (by omega) (by omega) (by assumption)).symm.trans (by assumption) | exact (le_last (ns := ns) (by omega)).symm.trans (by assumption)))
end
/-! part colat -/
section
variable {w : World} {mean : ExcName → Option Value} {mg mb : Str → Option Value} {dp un : Nat} {gd : Option (List Code)} {cn : Str} {cs : Scope} {a : Addr} {ccd : Value} {cl : List (Str × Addr)} {outer : List Env} {A₀ : Around} {base h₀ : Heap} {L : Addr} {m : Str → Option Value} {s : Shared} {Q E : Value → Shared → Prop}

theorem lsN_le (ns : List Int) : ∀ k, lsN ns k ≤ k
  | 0 => Nat.le_refl 0
  | k + 1 => by
    unfold lsN
    split
    · exact Nat.le_refl _
    · exact Nat.le_trans (lsN_le ns k) (Nat.le_succ k)
theorem lineStart_ge (ns : List Int) (p : Int) : 1 ≤ lineStart ns p := by unfold lineStart; omega
theorem lineStart_le {ns : List Int} {p : Int} (h : 1 ≤ p) : lineStart ns p ≤ p := by
  have := lsN_le ns (p - 1).toNat
  unfold lineStart; omega
def colRange (ns : List Int) (w : Int) (ps : List Int) : Int := ps.foldl (fun k q => k + widthAt (codeAt ns q) k w) 0
theorem colRange_snoc (ns : List Int) (w : Int) (ps : List Int) (q : Int) : colRange ns w (ps ++ [q]) = colRange ns w ps + widthAt (codeAt ns q) (colRange ns w ps) w := by simp [colRange, List.foldl_append]
theorem c_column_at {x dx lc : Addr} {vs : List Value} {ns : List Int} {nn : Nat} {u1 u2 u3 : Tok} {rest : List (Addr × Obj)} {p wd : Int} {t0 t1 : Tok} (m1 : (x, instObj 117 dx) ∈ rest) (m2 : (dx, dictOf [⟨PyData.keyHash w.params "codes", .str "codes" u1, .ref lc⟩, ⟨PyData.keyHash w.params "place", .str "place" u2, .int 1 u3⟩] 2) ∈ rest) (m3 : (lc, listOf vs.toArray nn) ∈ rest) (hi : IntsAre vs ns) (hz : ns.length ≤ 1000) (hp0 : 1 ≤ p) (hp1 : p ≤ 1 + (ns.length : Int)) (hw : 0 < wd)
  (B : Below A₀ base outer h₀) (F : Fr h₀ L s.heap m) (X : (hd.heap_39 w.params).In h₀) (N : News h₀ L s.heap (rest)) (T : TopP mean mg mb h₀) (hk : cs.kind = .function) (hdp : dp + 14 < recursionLimit) (hun : un + 140 < cLine)
  (hret : Rt h₀ L m rest s Q (fun t => .int (colRange ns wd (rangeKs (lineStart ns p) (p - lineStart ns p).toNat)) t)) :
  wpAny (model PP w) (ktrTop dp un gd cn cs L a ccd cl outer) (call (.ref 50) [.ref x, .int p t0, .int wd t1]) Q E s := by
  have hl0 := lineStart_ge ns p
  have hl1 := lineStart_le (ns := ns) hp0
  k_with_none
  k_with "k_upd" => first | (refine' Cut.head ?aZ9; (case aZ9 => k_all)) | (refine' Cut.tail ?aZ9 ?bZ9; (case aZ9 => k_ne); (case bZ9 => k_upd))
  k_with "k_all" => with_reducible assumption
  k_with "k_ne" => (refine neN ?_; (try dsimp only); as_aux_lemma => first | with_reducible assumption | (apply ne_here; (iterate 24 (try (first | with_reducible assumption | apply and_rest))); done) | (apply ne_back; (iterate 24 (try (first | with_reducible assumption | apply and_rest))); done) | (apply ne_low; (iterate 24 (try (first | with_reducible assumption | apply and_rest))); done) | (apply ne_high; (iterate 24 (try (first | with_reducible assumption | apply and_rest))); done) | fail)
  k_with "call ref" => (k_here; (with_reducible show wpAny _ _ (call (Value.ref 36) _) _ _ _); k_dflt (refine' c_width_at ?hwZ9 ?kBZ9 ?kFZ9 ?kXZ9 ?kNZ9 ?kTZ9 ?kKZ9 ?kdZ9 ?kuZ9 ?_; (case kNZ9 => k_asm); (case kBZ9 => k_asm); (case kFZ9 => k_asm); (case kXZ9 => k_asm); (case kTZ9 => k_asm); (case kKZ9 => first | exact rfl | assumption); (case kdZ9 => first | (rename _ + _ < recursionLimit => hd9; exact room_1 hd9 (by decide)) | ktr_room); (case kuZ9 => first | (rename _ + _ < cLine => hu9; exact room_3 hu9 (by decide)) | ktr_units); (case hwZ9 => (first | assumption | omega)); k_whole); intro t9 h9 tk9 F9 N9; (try dsimp only); (try k_sweep); (try k_fold))
  k_with "call ref" => (k_here; (with_reducible show wpAny _ _ (call (Value.ref 114) _) _ _ _); k_dflt (refine' c_code_at ?m1Z9 ?m2Z9 ?m3Z9 ?hiZ9 ?hzZ9 ?kBZ9 ?kFZ9 ?kXZ9 ?kNZ9 ?kTZ9 ?kKZ9 ?kdZ9 ?kuZ9 ?_; (case kNZ9 => k_asm); (case kBZ9 => k_asm); (case kFZ9 => k_asm); (case kXZ9 => k_asm); (case kTZ9 => k_asm); (case kKZ9 => first | exact rfl | assumption); (case kdZ9 => first | (rename _ + _ < recursionLimit => hd9; exact room_1 hd9 (by decide)) | ktr_room); (case kuZ9 => first | (rename _ + _ < cLine => hu9; exact room_3 hu9 (by decide)) | ktr_units); (case m1Z9 => k_mem); (case m2Z9 => k_mem); (case m3Z9 => k_mem); (case hiZ9 => l_ints); (case hzZ9 => first | assumption | omega); k_whole); intro t9 h9 tk9 F9 N9; (try dsimp only); (try k_sweep); (try k_fold))
  k_with "call ref" => (k_here; (with_reducible show wpAny _ _ (call (Value.ref 22) _) _ _ _); k_dflt (refine' c_line_start ?m1Z9 ?m2Z9 ?m3Z9 ?hiZ9 ?hzZ9 ?hp0Z9 ?hp1Z9 ?kBZ9 ?kFZ9 ?kXZ9 ?kNZ9 ?kTZ9 ?kKZ9 ?kdZ9 ?kuZ9 ?_; (case kNZ9 => k_asm); (case kBZ9 => k_asm); (case kFZ9 => k_asm); (case kXZ9 => k_asm); (case kTZ9 => k_asm); (case kKZ9 => first | exact rfl | assumption); (case kdZ9 => first | (rename _ + _ < recursionLimit => hd9; exact room_1 hd9 (by decide)) | ktr_room); (case kuZ9 => first | (rename _ + _ < cLine => hu9; exact room_3 hu9 (by decide)) | ktr_units); (case m1Z9 => k_mem); (case m2Z9 => k_mem); (case m3Z9 => k_mem); (case hiZ9 => l_ints); (case hzZ9 => first | assumption | omega); (case hp0Z9 => first | assumption | omega); (case hp1Z9 => first | assumption | omega); k_whole); intro t9 h9 tk9 F9 N9; (try dsimp only); (try k_sweep); (try k_fold))
  k_with "pyIter ref" => k_state_given ["view.codes", "width"] (fun ns w pre column => column = colRange ns w pre) "column"
  k_with "state" => first | exact rfl | (rw [colRange_snoc]; subst_vars; rfl)
  replace N := led_add (led_add (led_add N m3 N) m2 N) m1 N
  clear m1 m2 m3
  refine wpAny_call ?_
  k_dflt ktr_enter
  k_steps
  all_goals (refine' cb_retI hret ?e (by assumption) (led_tail (led_tail (led_tail (by assumption)))); (case e => assumption))
end
/-! part wide -/
section
variable {w : World} {mean : ExcName → Option Value} {mg mb : Str → Option Value} {dp un : Nat} {gd : Option (List Code)} {cn : Str} {cs : Scope} {a : Addr} {ccd : Value} {cl : List (Str × Addr)} {outer : List Env} {A₀ : Around} {base h₀ : Heap} {L : Addr} {m : Str → Option Value} {s : Shared} {Q E : Value → Shared → Prop}

theorem wide_mod {c w q : Int} (hw : 0 < w) (h1 : 1 ≤ q) (h2 : q ≤ w - Int.fmod c w) : (Int.fmod (c + q) w = 0 ↔ q = w - Int.fmod c w) := by
  rw [Int.fmod_eq_emod_of_nonneg _ (Int.le_of_lt hw), Int.fmod_eq_emod_of_nonneg _ (Int.le_of_lt hw)] at *
  have h0 := Int.emod_nonneg c (Int.ne_of_gt hw)
  rw [← Int.emod_add_emod]
  rcases Int.lt_or_eq_of_le h2 with h3 | h3
  · rw [Int.emod_eq_of_lt (by omega) (by omega)]
    omega
  · rw [show c % w + q = w by omega, Int.emod_self]
    exact ⟨fun _ => h3, fun _ => rfl⟩
theorem wide_pos {c w q : Int} (hw : 0 < w) (h1 : 1 ≤ q) (h2 : q ≤ w - Int.fmod c w) (h : Int.fmod (c + q) w ≠ 0) : 1 ≤ q + 1 ∧ q + 1 ≤ w - Int.fmod c w := by
  have := mt (wide_mod hw h1 h2).2 h
  omega
theorem c_wide {c k wd : Int} {t1 t2 t3 : Tok} {rest : List (Addr × Obj)} (hw : 0 < wd)
  (B : Below A₀ base outer h₀) (F : Fr h₀ L s.heap m) (X : (hd.heap_39 w.params).In h₀) (N : News h₀ L s.heap (rest)) (T : TopP mean mg mb h₀) (hk : cs.kind = .function) (hdp : dp + 8 < recursionLimit) (hun : un + 80 < cLine)
  (hret : Rt h₀ L m rest s Q (fun t => .int (widthAt c k wd) t)) :
  wpAny (model PP w) (ktrTop dp un gd cn cs L a ccd cl outer) (call (.ref 140) [.int c t1, .int k t2, .int wd t3]) Q E s := by
  have hm := Int.fmod_lt_of_pos k hw
  k_with_none
  k_with "k_upd" => first | (refine' Cut.head ?aZ9; (case aZ9 => k_all)) | (refine' Cut.tail ?aZ9 ?bZ9; (case aZ9 => k_ne); (case bZ9 => k_upd))
  k_with "k_all" => with_reducible assumption
  k_with "k_ne" => (refine neN ?_; (try dsimp only); as_aux_lemma => first | with_reducible assumption | (apply ne_here; (iterate 24 (try (first | with_reducible assumption | apply and_rest))); done) | (apply ne_back; (iterate 24 (try (first | with_reducible assumption | apply and_rest))); done) | (apply ne_low; (iterate 24 (try (first | with_reducible assumption | apply and_rest))); done) | (apply ne_high; (iterate 24 (try (first | with_reducible assumption | apply and_rest))); done) | fail)
  k_with "exec While Compare cons nil" => k_while_given ["column", "width"] (fun c w _ q => 1 ≤ q ∧ q ≤ w - Int.fmod c w) (fun c w _ q => (w - Int.fmod c w - q).toNat) "step"
  k_with "state" => exact wide_pos hw (by assumption) (by assumption) (by assumption)
  k_with "measure" => ((have hm9 := (wide_pos hw (by assumption) (by assumption) (by assumption)).2); omega)
  refine wpAny_call ?_
  k_dflt ktr_enter
  k_steps
  all_goals (refine' cb_retI hret ?e (by assumption) (by assumption); (case e => (unfold widthAt; first | (rw [if_pos (by assumption)]; exact (wide_mod hw (by assumption) (by assumption)).1 (by assumption)) | ((repeat' split) <;> omega))))
end
/-! part lcol -/
section
variable {w : World} {mean : ExcName → Option Value} {mg mb : Str → Option Value} {dp un : Nat} {gd : Option (List Code)} {cn : Str} {cs : Scope} {a : Addr} {ccd : Value} {cl : List (Str × Addr)} {outer : List Env} {A₀ : Around} {base h₀ : Heap} {L : Addr} {m : Str → Option Value} {s : Shared} {Q E : Value → Shared → Prop}

def colF (w k0 : Int) (l : List Int) : Int := l.foldl (fun k c => if c = 10 then 0 else k + widthAt c k w) k0
theorem colF_snoc (w k0 : Int) (l : List Int) (c : Int) : colF w k0 (l ++ [c]) = if c = 10 then 0 else colF w k0 l + widthAt c (colF w k0 l) w := by simp [colF, List.foldl_append]
theorem c_law_column {lc : Addr} {vs : List Value} {ns : List Int} {nn : Nat} {rest : List (Addr × Obj)} {wd : Int} {t1 : Tok} (m3 : (lc, listOf vs.toArray nn) ∈ rest) (hi : IntsAre vs ns) (hz : ns.length ≤ 1000) (hw : 0 < wd)
  (B : Below A₀ base outer h₀) (F : Fr h₀ L s.heap m) (X : (hd.heap_39 w.params).In h₀) (N : News h₀ L s.heap (rest)) (T : TopP mean mg mb h₀) (hk : cs.kind = .function) (hdp : dp + 12 < recursionLimit) (hun : un + 120 < cLine)
  (hret : Rt h₀ L m rest s Q (fun t => .int (colF wd 0 ns) t)) :
  wpAny (model PP w) (ktrTop dp un gd cn cs L a ccd cl outer) (call (.ref 147) [.ref lc, .int wd t1]) Q E s := by
  k_with_none
  k_with "k_upd" => first | (refine' Cut.head ?aZ9; (case aZ9 => k_all)) | (refine' Cut.tail ?aZ9 ?bZ9; (case aZ9 => k_ne); (case bZ9 => k_upd))
  k_with "k_all" => with_reducible assumption
  k_with "k_ne" => (refine neN ?_; (try dsimp only); as_aux_lemma => first | with_reducible assumption | (apply ne_here; (iterate 24 (try (first | with_reducible assumption | apply and_rest))); done) | (apply ne_back; (iterate 24 (try (first | with_reducible assumption | apply and_rest))); done) | (apply ne_low; (iterate 24 (try (first | with_reducible assumption | apply and_rest))); done) | (apply ne_high; (iterate 24 (try (first | with_reducible assumption | apply and_rest))); done) | fail)
  k_with "call ref" => (k_here; (with_reducible show wpAny _ _ (call (Value.ref 36) _) _ _ _); k_dflt (refine' c_width_at ?hwZ9 ?kBZ9 ?kFZ9 ?kXZ9 ?kNZ9 ?kTZ9 ?kKZ9 ?kdZ9 ?kuZ9 ?_; (case kNZ9 => k_asm); (case kBZ9 => k_asm); (case kFZ9 => k_asm); (case kXZ9 => k_asm); (case kTZ9 => k_asm); (case kKZ9 => first | exact rfl | assumption); (case kdZ9 => first | (rename _ + _ < recursionLimit => hd9; exact room_1 hd9 (by decide)) | ktr_room); (case kuZ9 => first | (rename _ + _ < cLine => hu9; exact room_3 hu9 (by decide)) | ktr_units); (case hwZ9 => (first | assumption | omega)); k_whole); intro t9 h9 tk9 F9 N9; (try dsimp only); (try k_sweep); (try k_fold))
  k_with "call ref" => (k_here; (with_reducible show wpAny _ _ (call (Value.ref 140) _) _ _ _); k_dflt (refine' c_wide ?hwZ9 ?kBZ9 ?kFZ9 ?kXZ9 ?kNZ9 ?kTZ9 ?kKZ9 ?kdZ9 ?kuZ9 ?_; (case kNZ9 => k_asm); (case kBZ9 => k_asm); (case kFZ9 => k_asm); (case kXZ9 => k_asm); (case kTZ9 => k_asm); (case kKZ9 => first | exact rfl | assumption); (case kdZ9 => first | (rename _ + _ < recursionLimit => hd9; exact room_1 hd9 (by decide)) | ktr_room); (case kuZ9 => first | (rename _ + _ < cLine => hu9; exact room_3 hu9 (by decide)) | ktr_units); (case hwZ9 => first | assumption | omega); k_whole); intro t9 h9 tk9 F9 N9; (try dsimp only); (try k_sweep); (try k_fold))
  k_with "pyIter ref" => k_state_given ["width"] (fun w pre column => column = colF w 0 pre) "column"
  k_with "state" => first | exact rfl | (rw [colF_snoc]; subst_vars; split <;> first | rfl | omega)
  replace N := led_add N m3 N
  clear m3
  refine wpAny_call ?_
  k_dflt ktr_enter
  k_steps
  all_goals (refine' cb_retI hret ?e (by assumption) (led_tail (by assumption)); (case e => assumption))
theorem c_of_codes {lc : Addr} {vs : List Value} {ns : List Int} {nn : Nat} {rest : List (Addr × Obj)} {wd k0 : Int} {t1 t2 : Tok} (m3 : (lc, listOf vs.toArray nn) ∈ rest) (hi : IntsAre vs ns) (hz : ns.length ≤ 1000) (hw : 0 < wd)
  (B : Below A₀ base outer h₀) (F : Fr h₀ L s.heap m) (X : (hd.heap_39 w.params).In h₀) (N : News h₀ L s.heap (rest)) (T : TopP mean mg mb h₀) (hk : cs.kind = .function) (hdp : dp + 12 < recursionLimit) (hun : un + 120 < cLine)
  (hret : Rt h₀ L m rest s Q (fun t => .int (colF wd k0 ns) t)) :
  wpAny (model PP w) (ktrTop dp un gd cn cs L a ccd cl outer) (call (.ref 43) [.ref lc, .int k0 t2, .int wd t1]) Q E s := by
  k_with_none
  k_with "k_upd" => first | (refine' Cut.head ?aZ9; (case aZ9 => k_all)) | (refine' Cut.tail ?aZ9 ?bZ9; (case aZ9 => k_ne); (case bZ9 => k_upd))
  k_with "k_all" => with_reducible assumption
  k_with "k_ne" => (refine neN ?_; (try dsimp only); as_aux_lemma => first | with_reducible assumption | (apply ne_here; (iterate 24 (try (first | with_reducible assumption | apply and_rest))); done) | (apply ne_back; (iterate 24 (try (first | with_reducible assumption | apply and_rest))); done) | (apply ne_low; (iterate 24 (try (first | with_reducible assumption | apply and_rest))); done) | (apply ne_high; (iterate 24 (try (first | with_reducible assumption | apply and_rest))); done) | fail)
  k_with "call ref" => (k_here; (with_reducible show wpAny _ _ (call (Value.ref 36) _) _ _ _); k_dflt (refine' c_width_at ?hwZ9 ?kBZ9 ?kFZ9 ?kXZ9 ?kNZ9 ?kTZ9 ?kKZ9 ?kdZ9 ?kuZ9 ?_; (case kNZ9 => k_asm); (case kBZ9 => k_asm); (case kFZ9 => k_asm); (case kXZ9 => k_asm); (case kTZ9 => k_asm); (case kKZ9 => first | exact rfl | assumption); (case kdZ9 => first | (rename _ + _ < recursionLimit => hd9; exact room_1 hd9 (by decide)) | ktr_room); (case kuZ9 => first | (rename _ + _ < cLine => hu9; exact room_3 hu9 (by decide)) | ktr_units); (case hwZ9 => (first | assumption | omega)); k_whole); intro t9 h9 tk9 F9 N9; (try dsimp only); (try k_sweep); (try k_fold))
  k_with "call ref" => (k_here; (with_reducible show wpAny _ _ (call (Value.ref 140) _) _ _ _); k_dflt (refine' c_wide ?hwZ9 ?kBZ9 ?kFZ9 ?kXZ9 ?kNZ9 ?kTZ9 ?kKZ9 ?kdZ9 ?kuZ9 ?_; (case kNZ9 => k_asm); (case kBZ9 => k_asm); (case kFZ9 => k_asm); (case kXZ9 => k_asm); (case kTZ9 => k_asm); (case kKZ9 => first | exact rfl | assumption); (case kdZ9 => first | (rename _ + _ < recursionLimit => hd9; exact room_1 hd9 (by decide)) | ktr_room); (case kuZ9 => first | (rename _ + _ < cLine => hu9; exact room_3 hu9 (by decide)) | ktr_units); (case hwZ9 => first | assumption | omega); k_whole); intro t9 h9 tk9 F9 N9; (try dsimp only); (try k_sweep); (try k_fold))
  k_with "pyIter ref" => k_state_given ["width", "column!"] (fun w k0 pre column => column = colF w k0 pre) "column"
  k_with "state" => first | exact rfl | (rw [colF_snoc]; subst_vars; split <;> first | rfl | omega)
  replace N := led_add N m3 N
  clear m3
  refine wpAny_call ?_
  k_dflt ktr_enter
  k_steps
  all_goals (refine' cb_retI hret ?e (by assumption) (led_tail (by assumption)); (case e => assumption))
end
/-! part lline -/
section
variable {w : World} {mean : ExcName → Option Value} {mg mb : Str → Option Value} {dp un : Nat} {gd : Option (List Code)} {cn : Str} {cs : Scope} {a : Addr} {ccd : Value} {cl : List (Str × Addr)} {outer : List Env} {A₀ : Around} {base h₀ : Heap} {L : Addr} {m : Str → Option Value} {s : Shared} {Q E : Value → Shared → Prop}

theorem codeAt_get {ns : List Int} {q : Int} (h1 : 1 ≤ q) (h2 : q < 1 + (ns.length : Int)) : codeAt ns q = ns.getD (q - 1).toNat 0 := by
  unfold codeAt
  rw [if_pos ⟨h1, h2⟩]
theorem codeAt_get2 {ns : List Int} {q : Int} (h1 : 1 < q) (h2 : q ≤ 1 + (ns.length : Int)) : codeAt ns (q - 1) = ns.getD (q - 2).toNat 0 := by
  rw [codeAt_get (by omega) (by omega)]
  congr 1
  omega
theorem ls_fin1 {ns : List Int} {q p : Int} (h : lineStart ns q = lineStart ns p) (h1 : q = 1) : q = lineStart ns p := (ls_one h1).symm.trans h
theorem ls_fin2 {ns : List Int} {q p : Int} (h : lineStart ns q = lineStart ns p) (h1 : 1 < q) (h2 : q ≤ 1 + (ns.length : Int)) (h3 : ns.getD (q - 2).toNat 0 = 10) : q = lineStart ns p := (ls_stop h1 h2 ((codeAt_get2 h1 h2).trans h3)).symm.trans h
theorem le_fin1 {ns : List Int} {q p : Int} (h : lineEnd ns q = lineEnd ns p) (h1 : q = 1 + (ns.length : Int)) : q = lineEnd ns p := (le_last h1).symm.trans h
theorem le_fin2 {ns : List Int} {q p : Int} (h : lineEnd ns q = lineEnd ns p) (h1 : 1 ≤ q) (h2 : q < 1 + (ns.length : Int)) (h3 : ns.getD (q - 1).toNat 0 = 10) : q = lineEnd ns p := (le_stop h1 h2 ((codeAt_get h1 h2).trans h3)).symm.trans h
theorem tup_in {h₀ h : Heap} {L l : Addr} {o : Obj} {p : Addr × Obj} {news : List (Addr × Obj)} (N : News h₀ L h ((l, o) :: p :: news)) {o' : Obj} (e : o = o') : News h₀ L h ((l, o') :: news) := by
  subst e
  intro q hq
  rcases List.mem_cons.mp hq with rfl | hq
  · exact N _ (.head _)
  · exact N q (.tail _ (.tail _ hq))
theorem c_law_line {lc : Addr} {vs : List Value} {ns : List Int} {nn : Nat} {rest : List (Addr × Obj)} {p : Int} {t1 : Tok} (m3 : (lc, listOf vs.toArray nn) ∈ rest) (hi : IntsAre vs ns) (hz : ns.length ≤ 1000) (hp0 : 1 ≤ p) (hp1 : p ≤ 1 + (ns.length : Int))
  (B : Below A₀ base outer h₀) (F : Fr h₀ L s.heap m) (X : (hd.heap_39 w.params).In h₀) (N : News h₀ L s.heap (rest)) (T : TopP mean mg mb h₀) (hk : cs.kind = .function) (hdp : dp + 12 < recursionLimit) (hun : un + 120 < cLine)
  (hret : ∀ (r : Addr) (z1 z2 : Tok), (∀ q ∈ rest, q.1 < r) → ∀ (h' : Heap) (tk' : Nat), Fr h₀ L h' m → News h₀ L h' ((r, { cls := Value.type "tuple", data := Data.seq #[Value.int (lineStart ns p) z1, Value.int (lineEnd ns p) z2] }) :: rest) → Q (.ref r) { s with heap := h', toks := tk' }) :
  wpAny (model PP w) (ktrTop dp un gd cn cs L a ccd cl outer) (call (.ref 154) [.ref lc, .int p t1]) Q E s := by
  k_with_none
  k_with "k_upd" => first | (refine' Cut.head ?aZ9; (case aZ9 => k_all)) | (refine' Cut.tail ?aZ9 ?bZ9; (case aZ9 => k_ne); (case bZ9 => k_upd))
  k_with "k_all" => with_reducible assumption
  k_with "k_ne" => (refine neN ?_; (try dsimp only); as_aux_lemma => first | with_reducible assumption | (apply ne_here; (iterate 24 (try (first | with_reducible assumption | apply and_rest))); done) | (apply ne_back; (iterate 24 (try (first | with_reducible assumption | apply and_rest))); done) | (apply ne_low; (iterate 24 (try (first | with_reducible assumption | apply and_rest))); done) | (apply ne_high; (iterate 24 (try (first | with_reducible assumption | apply and_rest))); done) | fail)
  k_with "exec While BoolOp cons nil" => k_while_given ["codes", "place"] (fun ns p _ q => 1 ≤ q ∧ q ≤ p ∧ lineStart ns q = lineStart ns p) (fun _ _ _ q => q.toNat) "begin"
  k_with "exec While BoolOp cons nil" => k_while_given ["codes", "place"] (fun ns p _ q => 1 ≤ q ∧ q ≤ 1 + (ns.length : Int) ∧ lineEnd ns q = lineEnd ns p) (fun ns _ _ q => (1 + (ns.length : Int) - q).toNat) "end"
  k_with "state" => first
    | exact ⟨by omega, by omega, (ls_step (ns := ns) (by omega) (by omega) (by rw [codeAt_get2 (by omega) (by omega)]; assumption)).trans (by assumption)⟩
    | exact ⟨by omega, by omega, (le_step (ns := ns) (by omega) (by omega) (by rw [codeAt_get (by omega) (by omega)]; assumption)).trans (by assumption)⟩
  replace N := led_add N m3 N
  clear m3
  refine wpAny_call ?_
  k_dflt ktr_enter
  k_steps
  all_goals (
    (first
      | (have hs9 := ls_fin1 (ns := ns) (p := p) (by assumption) (by omega))
      | (have hs9 := ls_fin2 (ns := ns) (p := p) (by assumption) (by omega) (by omega) (by assumption)))
    (first
      | (have he9 := le_fin1 (ns := ns) (p := p) (by assumption) (by omega))
      | (have he9 := le_fin2 (ns := ns) (p := p) (by assumption) (by omega) (by omega) (by assumption)))
    subst hs9
    subst he9
    refine' hret _ _ _ ?l _ _ ?F ?N
    (case N => exact tup_in (by assumption) rfl)
    (case F => assumption)
    (case l => first | exact kst_ltOf (And.right (by assumption)) | exact kst_ltOf (And.right (And.right (by assumption))) | exact kst_ltOf (And.right (And.right (And.right (by assumption)))) | exact kst_ltOf (And.right (And.right (And.right (And.right (by assumption))))) | exact kst_ltOf (And.right (And.right (And.right (And.right (And.right (by assumption)))))) | exact kst_ltOf (And.right (And.right (And.right (And.right (And.right (And.right (by assumption))))))) | exact kst_ltOf (And.right (And.right (And.right (And.right (And.right (And.right (And.right (by assumption)))))))) | exact kst_ltOf (And.right (And.right (And.right (And.right (And.right (And.right (And.right (And.right (by assumption))))))))) | exact kst_ltOf (And.right (And.right (And.right (And.right (And.right (And.right (And.right (And.right (And.right (by assumption)))))))))) | exact kst_ltOf (And.right (And.right (And.right (And.right (And.right (And.right (And.right (And.right (And.right (And.right (by assumption)))))))))))))
end
/-! part spec -/
section
variable {w : World} {mean : ExcName → Option Value} {mg mb : Str → Option Value} {dp un : Nat} {gd : Option (List Code)} {cn : Str} {cs : Scope} {a : Addr} {ccd : Value} {cl : List (Str × Addr)} {outer : List Env} {A₀ : Around} {base h₀ : Heap} {L : Addr} {m : Str → Option Value} {s : Shared} {Q E : Value → Shared → Prop}

/-- the column of a place, its line beginning at a -/
def cT (ns : List Int) (w a q : Int) : Int := colF w 0 ((ns.take (q - 1).toNat).drop (a - 1).toNat)
theorem cT_self {ns : List Int} {w a : Int} : cT ns w a a = 0 := by
  unfold cT
  rw [List.drop_of_length_le (by rw [List.length_take]; omega)]
  rfl
theorem cT_step {ns : List Int} {w a q : Int} (h1 : 1 ≤ a) (h2 : a ≤ q) (h3 : q < 1 + (ns.length : Int)) (h : codeAt ns q ≠ 10) : cT ns w a (q + 1) = cT ns w a q + widthAt (codeAt ns q) (cT ns w a q) w := by
  obtain ⟨k, rfl⟩ : ∃ k : Nat, q = (k : Int) + 1 := ⟨(q - 1).toNat, by omega⟩
  rw [codeAt_in (by omega)] at h ⊢
  unfold cT
  have e1 : ((k : Int) + 1 + 1 - 1).toNat = k + 1 := by omega
  have e2 : ((k : Int) + 1 - 1).toNat = k := by omega
  have hk : k < ns.length := by omega
  have e3 : ns.take (k + 1) = ns.take k ++ [ns.getD k 0] := by
    rw [List.take_add_one]
    simp [hk]
  rw [e1, e2, e3, List.drop_append_of_le_length (by rw [List.length_take]; omega), colF_snoc, if_neg h]
theorem ls_in {ns : List Int} {p q : Int} (h1 : lineStart ns p ≤ q) (h2 : q < p) (h3 : p ≤ 1 + (ns.length : Int)) : codeAt ns q ≠ 10 ∧ lineStart ns (q + 1) = lineStart ns p := by
  have key : ∀ n : Nat, ∀ p : Int, p = q + 1 + n → p ≤ 1 + (ns.length : Int) → lineStart ns p ≤ q → codeAt ns q ≠ 10 ∧ lineStart ns (q + 1) = lineStart ns p := by
    intro n
    induction n with
    | zero =>
      intro p hp hl hs
      have e : p = q + 1 := by omega
      subst e
      have hq := lineStart_ge ns (q + 1)
      refine ⟨fun hc => ?_, rfl⟩
      have := ls_stop (ns := ns) (q := q + 1) (by omega) hl (by rw [show q + 1 - 1 = q by omega]; exact hc)
      omega
    | succ n ih =>
      intro p hp hl hs
      have hq := lineStart_ge ns p
      have hc : codeAt ns (p - 1) ≠ 10 := fun hc => by
        have := ls_stop (ns := ns) (q := p) (by omega) hl hc
        omega
      have hst := ls_step (ns := ns) (q := p) (by omega) hl hc
      have := ih (p - 1) (by omega) (by omega) (by omega)
      exact ⟨this.1, this.2.trans hst⟩
  exact key (p - q - 1).toNat p (by omega) h3 h1
theorem le_bounds {ns : List Int} {p : Int} (h1 : 1 ≤ p) (h2 : p ≤ 1 + (ns.length : Int)) : p ≤ lineEnd ns p ∧ lineEnd ns p ≤ 1 + (ns.length : Int) := by
  unfold lineEnd
  have h := (List.takeWhile_sublist (p := fun x : Int => x != 10) (l := ns.drop (p - 1).toNat)).length_le
  rw [List.length_drop] at h
  omega
theorem le_in {ns : List Int} {p q : Int} (h0 : 1 ≤ p) (h1 : p ≤ q) (h2 : q < lineEnd ns p) (h3 : p ≤ 1 + (ns.length : Int)) : codeAt ns q ≠ 10 ∧ lineEnd ns q = lineEnd ns p := by
  have hb := le_bounds h0 h3
  have key : ∀ n : Nat, ∀ q : Int, q = p + n → q < lineEnd ns p → codeAt ns q ≠ 10 ∧ lineEnd ns q = lineEnd ns p := by
    intro n
    induction n with
    | zero =>
      intro q hq hl
      have e : q = p := by omega
      subst e
      refine ⟨fun hc => ?_, rfl⟩
      have := le_stop (ns := ns) (q := q) (by omega) (by omega) hc
      omega
    | succ n ih =>
      intro q hq hl
      have hi := ih (q - 1) (by omega) (by omega)
      have e : q - 1 + 1 = q := by omega
      have hs := le_step (ns := ns) (q := q - 1) (by omega) (by omega) hi.1
      rw [e] at hs
      refine ⟨fun hc => ?_, hs.trans hi.2⟩
      have := le_stop (ns := ns) (q := q) (by omega) (by omega) hc
      omega
  exact key (q - p).toNat q (by omega) h2
/-- no newline stands on the line -/
theorem line_in {ns : List Int} {p q : Int} (h0 : 1 ≤ p) (h3 : p ≤ 1 + (ns.length : Int)) (h1 : lineStart ns p ≤ q) (h2 : q < lineEnd ns p) : codeAt ns q ≠ 10 := by
  by_cases h : q < p
  · exact (ls_in h1 h h3).1
  · exact (le_in h0 (by omega) h2 h3).1
/-- behind the line stands a newline, or nothing -/
theorem lineEnd_code {ns : List Int} {p : Int} (h0 : 1 ≤ p) (h3 : p ≤ 1 + (ns.length : Int)) (h : lineEnd ns p < 1 + (ns.length : Int)) : codeAt ns (lineEnd ns p) = 10 := by
  have key : ∀ n : Nat, ∀ p : Int, 1 ≤ p → p + n = 1 + (ns.length : Int) → lineEnd ns p < 1 + (ns.length : Int) → codeAt ns (lineEnd ns p) = 10 := by
    intro n
    induction n with
    | zero =>
      intro p h1 hp hl
      have := le_last (ns := ns) (q := p) (by omega)
      omega
    | succ n ih =>
      intro p h1 hp hl
      by_cases hc : codeAt ns p = 10
      · rw [le_stop (ns := ns) (q := p) h1 (by omega) hc]; exact hc
      · have hs := le_step (ns := ns) (q := p) h1 (by omega) hc
        rw [← hs] at hl ⊢
        exact ih (p + 1) (by omega) (by omega) hl
  exact key (1 + (ns.length : Int) - p).toNat p h0 (by omega) h
theorem line_col {ns : List Int} {w p q : Int} (h0 : 1 ≤ p) (h3 : p ≤ 1 + (ns.length : Int)) (h1 : lineStart ns p ≤ q) (h2 : q < lineEnd ns p) :
    cT ns w (lineStart ns p) (q + 1) = cT ns w (lineStart ns p) q + widthAt (codeAt ns q) (cT ns w (lineStart ns p) q) w := by
  have := le_bounds h0 h3
  exact cT_step (lineStart_ge ns p) h1 (by omega) (line_in h0 h3 h1 h2)
theorem rangeKs_snoc (a : Int) (n : Nat) : rangeKs a (n + 1) = rangeKs a n ++ [a + (n : Int)] := by simp [rangeKs, List.range_succ]
theorem colRange_cT {ns : List Int} {w p : Int} (h0 : 1 ≤ p) (h3 : p ≤ 1 + (ns.length : Int)) : colRange ns w (rangeKs (lineStart ns p) (p - lineStart ns p).toNat) = cT ns w (lineStart ns p) p := by
  have hl := lineStart_le (ns := ns) h0
  have hb := le_bounds h0 h3
  have key : ∀ n : Nat, lineStart ns p + n ≤ p → colRange ns w (rangeKs (lineStart ns p) n) = cT ns w (lineStart ns p) (lineStart ns p + n) := by
    intro n
    induction n with
    | zero => intro _; rw [show lineStart ns p + ((0 : Nat) : Int) = lineStart ns p by omega, cT_self]; rfl
    | succ n ih =>
      intro hn
      rw [rangeKs_snoc, colRange_snoc, ih (by omega), show lineStart ns p + ((n + 1 : Nat) : Int) = lineStart ns p + (n : Int) + 1 by omega]
      exact (line_col h0 h3 (by omega) (by omega)).symm
  rw [key _ (by omega)]
  congr 1
  omega
end
/-! part colat2 -/
section
variable {w : World} {mean : ExcName → Option Value} {mg mb : Str → Option Value} {dp un : Nat} {gd : Option (List Code)} {cn : Str} {cs : Scope} {a : Addr} {ccd : Value} {cl : List (Str × Addr)} {outer : List Env} {A₀ : Around} {base h₀ : Heap} {L : Addr} {m : Str → Option Value} {s : Shared} {Q E : Value → Shared → Prop}

theorem widthAt_pos {c k w : Int} (hw : 0 < w) : 1 ≤ widthAt c k w := by
  have := Int.fmod_lt_of_pos k hw
  unfold widthAt
  repeat' split
  all_goals omega
theorem widthAt_le {c k w : Int} (hw : 0 < w) (h9 : w ≤ 9) : widthAt c k w ≤ 9 := by
  have := Int.fmod_nonneg_of_pos k hw
  unfold widthAt
  repeat' split
  all_goals omega
theorem colF_nonneg {w : Int} (hw : 0 < w) : ∀ (l : List Int) (k : Int), 0 ≤ k → 0 ≤ colF w k l
  | [], _, h => h
  | c :: l, k, h => by
    show 0 ≤ colF w (if c = 10 then 0 else k + widthAt c k w) l
    refine colF_nonneg hw l _ ?_
    have := widthAt_pos (c := c) (k := k) hw
    split <;> omega
theorem cT_nonneg {ns : List Int} {w a q : Int} (hw : 0 < w) : 0 ≤ cT ns w a q := colF_nonneg hw _ _ (Int.le_refl 0)
theorem colF_le {w : Int} (hw : 0 < w) (h9 : w ≤ 9) : ∀ (l : List Int) (k : Int), 0 ≤ k → colF w k l ≤ k + 9 * (l.length : Int)
  | [], _, _ => by show _ ≤ _ + 9 * ((0 : Nat) : Int); simp [colF]
  | c :: l, k, h => by
    show colF w (if c = 10 then 0 else k + widthAt c k w) l ≤ _
    have h1 := widthAt_pos (c := c) (k := k) hw
    have h2 := widthAt_le (c := c) (k := k) hw h9
    have h3 := colF_le hw h9 l (if c = 10 then 0 else k + widthAt c k w) (by split <;> omega)
    rw [List.length_cons]
    have h4 : (if c = 10 then 0 else k + widthAt c k w) ≤ k + 9 := by split <;> omega
    omega
theorem cT_le {ns : List Int} {w a q : Int} (hw : 0 < w) (h9 : w ≤ 9) (hz : ns.length ≤ 1000) : cT ns w a q ≤ 9000 := by
  have h := colF_le hw h9 ((ns.take (q - 1).toNat).drop (a - 1).toNat) 0 (Int.le_refl 0)
  have h2 : ((ns.take (q - 1).toNat).drop (a - 1).toNat).length ≤ ns.length := by rw [List.length_drop, List.length_take]; omega
  unfold cT
  omega
/-- one line, one beginning -/
theorem line_same {ns : List Int} {p q : Int} (h0 : 1 ≤ p) (h3 : p ≤ 1 + (ns.length : Int)) (h1 : lineStart ns p ≤ q) (h2 : q ≤ lineEnd ns p) : lineStart ns q = lineStart ns p := by
  have hb := le_bounds h0 h3
  have hs := lineStart_ge ns p
  have hl := lineStart_le (ns := ns) h0
  by_cases hq : q ≤ p
  · by_cases he : q = p
    · rw [he]
    · by_cases he2 : q = lineStart ns p
      · -- the beginning's own beginning
        have hin := ls_in (ns := ns) (p := p) (q := q) h1 (by omega) h3
        have hst := ls_step (ns := ns) (q := q + 1) (by omega) (by omega) (by rw [show q + 1 - 1 = q by omega]; exact hin.1)
        rw [show q + 1 - 1 = q by omega] at hst
        exact hst.trans hin.2
      · have hin := ls_in (ns := ns) (p := p) (q := q - 1) (by omega) (by omega) h3
        rw [show q - 1 + 1 = q by omega] at hin
        exact hin.2
  · have key : ∀ n : Nat, ∀ q : Int, q = p + n → q ≤ lineEnd ns p → lineStart ns q = lineStart ns p := by
      intro n
      induction n with
      | zero => intro q hq _; rw [show q = p by omega]
      | succ n ih =>
        intro q hq hle
        have hi := ih (q - 1) (by omega) (by omega)
        have hc := (le_in (ns := ns) (p := p) (q := q - 1) h0 (by omega) (by omega) h3).1
        exact (ls_step (ns := ns) (q := q) (by omega) (by omega) hc).symm.trans hi
    exact key (q - p).toNat q (by omega) h2
theorem c_column_at2 {x dx lc : Addr} {vs : List Value} {ns : List Int} {nn : Nat} {u1 u2 u3 : Tok} {rest : List (Addr × Obj)} {p wd : Int} {t0 t1 : Tok} (m1 : (x, instObj 117 dx) ∈ rest) (m2 : (dx, dictOf [⟨PyData.keyHash w.params "codes", .str "codes" u1, .ref lc⟩, ⟨PyData.keyHash w.params "place", .str "place" u2, .int 1 u3⟩] 2) ∈ rest) (m3 : (lc, listOf vs.toArray nn) ∈ rest) (hi : IntsAre vs ns) (hz : ns.length ≤ 1000) (hp0 : 1 ≤ p) (hp1 : p ≤ 1 + (ns.length : Int)) (hw : 0 < wd) (hw9 : wd ≤ 9)
  (B : Below A₀ base outer h₀) (F : Fr h₀ L s.heap m) (X : (hd.heap_39 w.params).In h₀) (N : News h₀ L s.heap (rest)) (T : TopP mean mg mb h₀) (hk : cs.kind = .function) (hdp : dp + 14 < recursionLimit) (hun : un + 140 < cLine)
  (hret : ∀ K : Int, K = cT ns wd (lineStart ns p) p → 0 ≤ K → K ≤ 9000 → Rt h₀ L m rest s Q (fun t => .int K t)) :
  wpAny (model PP w) (ktrTop dp un gd cn cs L a ccd cl outer) (call (.ref 50) [.ref x, .int p t0, .int wd t1]) Q E s := by
  have hret := hret _ rfl (cT_nonneg hw) (cT_le hw hw9 hz)
  rw [← colRange_cT hp0 hp1] at hret
  exact c_column_at m1 m2 m3 hi hz hp0 hp1 hw B F X N T hk hdp hun hret
end
/-! part place -/
section
variable {w : World} {mean : ExcName → Option Value} {mg mb : Str → Option Value} {dp un : Nat} {gd : Option (List Code)} {cn : Str} {cs : Scope} {a : Addr} {ccd : Value} {cl : List (Str × Addr)} {outer : List Env} {A₀ : Around} {base h₀ : Heap} {L : Addr} {m : Str → Option Value} {s : Shared} {Q E : Value → Shared → Prop}

/-- the first place of the line whose column is not below col, or its end -/
def IsSpot (ns : List Int) (w col p q : Int) : Prop :=
  (lineStart ns p ≤ q ∧ q ≤ lineEnd ns p) ∧ (∀ j, lineStart ns p ≤ j → j < q → cT ns w (lineStart ns p) j < col) ∧ (q = lineEnd ns p ∨ col ≤ cT ns w (lineStart ns p) q)
theorem spot_one {ns : List Int} {w col p q q' : Int} (h : IsSpot ns w col p q) (h' : IsSpot ns w col p q') : q = q' := by
  obtain ⟨⟨a1, a2⟩, b, c⟩ := h
  obtain ⟨⟨a1', a2'⟩, b', c'⟩ := h'
  rcases Int.lt_trichotomy q q' with h | h | h
  · rcases c with c | c
    · omega
    · have := b' q a1 h; omega
  · exact h
  · rcases c' with c' | c'
    · omega
    · have := b q' a1' h; omega
def SpotTo (ns : List Int) (w col p q : Int) : Prop := ∀ j, lineStart ns p ≤ j → j < q → cT ns w (lineStart ns p) j < col
theorem spotTo_start {ns : List Int} {w col p : Int} : SpotTo ns w col p (lineStart ns p) := fun j a b => by omega
theorem spotTo_step {ns : List Int} {w col p q : Int} (h : SpotTo ns w col p q) (hc : cT ns w (lineStart ns p) q < col) : SpotTo ns w col p (q + 1) := fun j a b => by
  rcases Int.lt_or_eq_of_le (show j ≤ q by omega) with h1 | h1
  · exact h j a h1
  · subst h1; exact hc
theorem place_turn {ns : List Int} {w col p q r : Int} (h0 : 1 ≤ p) (h3 : p ≤ 1 + (ns.length : Int)) (h1 : lineStart ns p ≤ q) (h2 : q < lineEnd ns p) (e : r = cT ns w (lineStart ns p) q) (hS : SpotTo ns w col p q) (hc : r < col) :
    lineStart ns p ≤ q + 1 ∧ q + 1 ≤ lineEnd ns p ∧ r + widthAt (codeAt ns q) r w = cT ns w (lineStart ns p) (q + 1) ∧ SpotTo ns w col p (q + 1) := by
  subst e
  exact ⟨by omega, by omega, (line_col h0 h3 h1 h2).symm, spotTo_step hS hc⟩
theorem spot_fin {ns : List Int} {w col p q : Int} (hS : SpotTo ns w col p q) (h1 : lineStart ns p ≤ q) (h2 : q ≤ lineEnd ns p) (h : ¬ q < lineEnd ns p ∨ ¬ cT ns w (lineStart ns p) q < col) : IsSpot ns w col p q :=
  ⟨⟨h1, h2⟩, hS, h.imp (by omega) (by omega)⟩
theorem led_view {h₀ h : Heap} {L l : Addr} {o : Obj} {p1 p2 p3 : Addr × Obj} {news : List (Addr × Obj)} (N : News h₀ L h ((l, o) :: p1 :: p2 :: p3 :: news)) : News h₀ L h ((l, o) :: news) := by
  intro q hq
  rcases List.mem_cons.mp hq with rfl | hq
  · exact N _ (.head _)
  · exact N q (.tail _ (.tail _ (.tail _ (.tail _ hq))))
theorem c_place_at {x dx lc : Addr} {vs : List Value} {ns : List Int} {nn : Nat} {u1 u2 u3 : Tok} {rest : List (Addr × Obj)} {p col wd : Int} {t0 t1 t2 : Tok} (m1 : (x, instObj 117 dx) ∈ rest) (m2 : (dx, dictOf [⟨PyData.keyHash w.params "codes", .str "codes" u1, .ref lc⟩, ⟨PyData.keyHash w.params "place", .str "place" u2, .int 1 u3⟩] 2) ∈ rest) (m3 : (lc, listOf vs.toArray nn) ∈ rest) (hi : IntsAre vs ns) (hz : ns.length ≤ 1000) (hp0 : 1 ≤ p) (hp1 : p ≤ 1 + (ns.length : Int)) (hw : 0 < wd)
  (B : Below A₀ base outer h₀) (F : Fr h₀ L s.heap m) (X : (hd.heap_39 w.params).In h₀) (N : News h₀ L s.heap (rest)) (T : TopP mean mg mb h₀) (hk : cs.kind = .function) (hdp : dp + 14 < recursionLimit) (hun : un + 140 < cLine)
  (hret : ∀ q : Int, IsSpot ns wd col p q → ∀ (r : Addr) (z1 z2 : Tok), (∀ q ∈ rest, q.1 < r) → ∀ (h' : Heap) (tk' : Nat), Fr h₀ L h' m → News h₀ L h' ((r, { cls := Value.type "tuple", data := Data.seq #[Value.int q z1, Value.int (cT ns wd (lineStart ns p) q) z2] }) :: rest) → Q (.ref r) { s with heap := h', toks := tk' }) :
  wpAny (model PP w) (ktrTop dp un gd cn cs L a ccd cl outer) (call (.ref 57) [.ref x, .int p t0, .int col t2, .int wd t1]) Q E s := by
  have hl0 := lineStart_ge ns p
  have hl1 := lineStart_le (ns := ns) hp0
  have hl2 := le_bounds hp0 hp1
  have hl3 := hl2.1
  have hl4 := hl2.2
  k_with_none
  k_with "k_upd" => first | (refine' Cut.head ?aZ9; (case aZ9 => k_all)) | (refine' Cut.tail ?aZ9 ?bZ9; (case aZ9 => k_ne); (case bZ9 => k_upd))
  k_with "k_all" => with_reducible assumption
  k_with "k_ne" => (refine neN ?_; (try dsimp only); as_aux_lemma => first | with_reducible assumption | (apply ne_here; (iterate 24 (try (first | with_reducible assumption | apply and_rest))); done) | (apply ne_back; (iterate 24 (try (first | with_reducible assumption | apply and_rest))); done) | (apply ne_low; (iterate 24 (try (first | with_reducible assumption | apply and_rest))); done) | (apply ne_high; (iterate 24 (try (first | with_reducible assumption | apply and_rest))); done) | fail)
  k_with "call ref" => (k_here; (with_reducible show wpAny _ _ (call (Value.ref 36) _) _ _ _); k_dflt (refine' c_width_at ?hwZ9 ?kBZ9 ?kFZ9 ?kXZ9 ?kNZ9 ?kTZ9 ?kKZ9 ?kdZ9 ?kuZ9 ?_; (case kNZ9 => k_asm); (case kBZ9 => k_asm); (case kFZ9 => k_asm); (case kXZ9 => k_asm); (case kTZ9 => k_asm); (case kKZ9 => first | exact rfl | assumption); (case kdZ9 => first | (rename _ + _ < recursionLimit => hd9; exact room_1 hd9 (by decide)) | ktr_room); (case kuZ9 => first | (rename _ + _ < cLine => hu9; exact room_3 hu9 (by decide)) | ktr_units); (case hwZ9 => (first | assumption | omega)); k_whole); intro t9 h9 tk9 F9 N9; (try dsimp only); (try k_sweep); (try k_fold))
  k_with "call ref" => (k_here; (with_reducible show wpAny _ _ (call (Value.ref 114) _) _ _ _); k_dflt (refine' c_code_at ?m1Z9 ?m2Z9 ?m3Z9 ?hiZ9 ?hzZ9 ?kBZ9 ?kFZ9 ?kXZ9 ?kNZ9 ?kTZ9 ?kKZ9 ?kdZ9 ?kuZ9 ?_; (case kNZ9 => k_asm); (case kBZ9 => k_asm); (case kFZ9 => k_asm); (case kXZ9 => k_asm); (case kTZ9 => k_asm); (case kKZ9 => first | exact rfl | assumption); (case kdZ9 => first | (rename _ + _ < recursionLimit => hd9; exact room_1 hd9 (by decide)) | ktr_room); (case kuZ9 => first | (rename _ + _ < cLine => hu9; exact room_3 hu9 (by decide)) | ktr_units); (case m1Z9 => k_mem); (case m2Z9 => k_mem); (case m3Z9 => k_mem); (case hiZ9 => l_ints); (case hzZ9 => first | assumption | omega); k_whole); intro t9 h9 tk9 F9 N9; (try dsimp only); (try k_sweep); (try k_fold))
  k_with "call ref" => (k_here; (with_reducible show wpAny _ _ (call (Value.ref 22) _) _ _ _); k_dflt (refine' c_line_start ?m1Z9 ?m2Z9 ?m3Z9 ?hiZ9 ?hzZ9 ?hp0Z9 ?hp1Z9 ?kBZ9 ?kFZ9 ?kXZ9 ?kNZ9 ?kTZ9 ?kKZ9 ?kdZ9 ?kuZ9 ?_; (case kNZ9 => k_asm); (case kBZ9 => k_asm); (case kFZ9 => k_asm); (case kXZ9 => k_asm); (case kTZ9 => k_asm); (case kKZ9 => first | exact rfl | assumption); (case kdZ9 => first | (rename _ + _ < recursionLimit => hd9; exact room_1 hd9 (by decide)) | ktr_room); (case kuZ9 => first | (rename _ + _ < cLine => hu9; exact room_3 hu9 (by decide)) | ktr_units); (case m1Z9 => k_mem); (case m2Z9 => k_mem); (case m3Z9 => k_mem); (case hiZ9 => l_ints); (case hzZ9 => first | assumption | omega); (case hp0Z9 => first | assumption | omega); (case hp1Z9 => first | assumption | omega); k_whole); intro t9 h9 tk9 F9 N9; (try dsimp only); (try k_sweep); (try k_fold))
  k_with "call ref" => (k_here; (with_reducible show wpAny _ _ (call (Value.ref 29) _) _ _ _); k_dflt (refine' c_line_end ?m1Z9 ?m2Z9 ?m3Z9 ?hiZ9 ?hzZ9 ?hp0Z9 ?hp1Z9 ?kBZ9 ?kFZ9 ?kXZ9 ?kNZ9 ?kTZ9 ?kKZ9 ?kdZ9 ?kuZ9 ?_; (case kNZ9 => k_asm); (case kBZ9 => k_asm); (case kFZ9 => k_asm); (case kXZ9 => k_asm); (case kTZ9 => k_asm); (case kKZ9 => first | exact rfl | assumption); (case kdZ9 => first | (rename _ + _ < recursionLimit => hd9; exact room_1 hd9 (by decide)) | ktr_room); (case kuZ9 => first | (rename _ + _ < cLine => hu9; exact room_3 hu9 (by decide)) | ktr_units); (case m1Z9 => k_mem); (case m2Z9 => k_mem); (case m3Z9 => k_mem); (case hiZ9 => l_ints); (case hzZ9 => first | assumption | omega); (case hp0Z9 => first | assumption | omega); (case hp1Z9 => first | assumption | omega); k_whole); intro t9 h9 tk9 F9 N9; (try dsimp only); (try k_sweep); (try k_fold))
  k_with "exec While BoolOp cons nil" => k_while_given ["view.codes", "place", "column", "width"] (fun ns p col w _ q r => lineStart ns p ≤ q ∧ q ≤ lineEnd ns p ∧ r = cT ns w (lineStart ns p) q ∧ SpotTo ns w col p q) (fun ns p _ _ _ q _ => (lineEnd ns p - q).toNat) "at" "reached"
  k_with "state" => first
    | exact ⟨Int.le_refl _, by omega, cT_self.symm, spotTo_start⟩
    | exact place_turn hp0 hp1 (by assumption) (by assumption) (by assumption) (by assumption) (by assumption)
  replace N := led_add (led_add (led_add N m3 N) m2 N) m1 N
  clear m1 m2 m3
  refine wpAny_call ?_
  k_dflt ktr_enter
  k_steps
  all_goals (
    (rename SpotTo _ _ _ _ _ => hS9)
    (rename _ = cT _ _ _ _ => hr9)
    subst hr9
    refine' hret _ (spot_fin hS9 (by assumption) (by assumption) (by first | exact .inl (by assumption) | exact .inr (by assumption))) _ _ _ ?l _ _ ?F ?N
    (case N => exact led_view (by assumption))
    (case F => assumption)
    (case l => first | exact kst_ltOf (And.right (by assumption)) | exact kst_ltOf (And.right (And.right (by assumption))) | exact kst_ltOf (And.right (And.right (And.right (by assumption)))) | exact kst_ltOf (And.right (And.right (And.right (And.right (by assumption))))) | exact kst_ltOf (And.right (And.right (And.right (And.right (And.right (by assumption)))))) | exact kst_ltOf (And.right (And.right (And.right (And.right (And.right (And.right (by assumption))))))) | exact kst_ltOf (And.right (And.right (And.right (And.right (And.right (And.right (And.right (by assumption)))))))) | exact kst_ltOf (And.right (And.right (And.right (And.right (And.right (And.right (And.right (And.right (by assumption))))))))) | exact kst_ltOf (And.right (And.right (And.right (And.right (And.right (And.right (And.right (And.right (And.right (by assumption)))))))))) | exact kst_ltOf (And.right (And.right (And.right (And.right (And.right (And.right (And.right (And.right (And.right (And.right (by assumption)))))))))))))
end
/-! part indent -/
section
variable {w : World} {mean : ExcName → Option Value} {mg mb : Str → Option Value} {dp un : Nat} {gd : Option (List Code)} {cn : Str} {cs : Scope} {a : Addr} {ccd : Value} {cl : List (Str × Addr)} {outer : List Env} {A₀ : Around} {base h₀ : Heap} {L : Addr} {m : Str → Option Value} {s : Shared} {Q E : Value → Shared → Prop}

def isBlank (c : Int) : Bool := c == 32 || c == 9
def Blank (c : Int) : Prop := isBlank c = true
theorem blank_is {c : Int} (h : Blank c) : c = 32 ∨ c = 9 := by simpa [Blank, isBlank] using h
theorem in_blanks {prog : Program} {w : World} {A : Around} {E : Value → Shared → Prop} {s : Shared} {t : Addr} {items : Array Value} {x : Int} {u : Tok} {Q : Value → Shared → Prop} (ht : IsTup s.heap t items) (hi : IntsAre items.toList [32, 9]) (h : Q (.bool (isBlank x)) s) :
    wpAny (model prog w) A (compareOp .In (.int x u) (.ref t)) Q E s := by
  refine in_tuple_ints ht hi ?_
  have e : ([32, 9] : List Int).any (· == x) = isBlank x := by simp [isBlank, Bool.beq_comm (a := x)]
  rw [e]; exact h
def BareTo (ns : List Int) (a q : Int) : Prop := ∀ j, a ≤ j → j < q → Blank (codeAt ns j)
theorem bareTo_start {ns : List Int} {a : Int} : BareTo ns a a := fun j a b => by omega
theorem bareTo_step {ns : List Int} {a q : Int} (h : BareTo ns a q) (hc : Blank (codeAt ns q)) : BareTo ns a (q + 1) := fun j a b => by
  rcases Int.lt_or_eq_of_le (show j ≤ q by omega) with h1 | h1
  · exact h j a h1
  · subst h1; exact hc
theorem bare_one {ns : List Int} {a q q' : Int} (h0 : a ≤ q) (h0' : a ≤ q') (h : BareTo ns a q) (h' : BareTo ns a q') (e : ¬ Blank (codeAt ns q)) (e' : ¬ Blank (codeAt ns q')) : q = q' := by
  rcases Int.lt_trichotomy q q' with h1 | h1 | h1
  · exact absurd (h' q h0 h1) e
  · exact h1
  · exact absurd (h q' h0' h1) e'
theorem blank_room {ns : List Int} {q : Int} (h : Blank (codeAt ns q)) : q < 1 + (ns.length : Int) := by
  have h := blank_is h
  unfold codeAt at h
  split at h
  · omega
  · rcases h with h | h <;> omega
theorem bare_turn {ns : List Int} {w p q r : Int} (h1 : lineStart ns p ≤ q) (e : r = cT ns w (lineStart ns p) q) (hS : BareTo ns (lineStart ns p) q) (hc : Blank (codeAt ns q)) :
    lineStart ns p ≤ q + 1 ∧ q + 1 ≤ 1 + (ns.length : Int) ∧ r + widthAt (codeAt ns q) r w = cT ns w (lineStart ns p) (q + 1) ∧ BareTo ns (lineStart ns p) (q + 1) := by
  subst e
  have := blank_room hc
  exact ⟨by omega, by omega, (cT_step (lineStart_ge ns p) h1 this (by rcases blank_is hc with h | h <;> omega)).symm, bareTo_step hS hc⟩
theorem c_indent {x dx lc : Addr} {vs : List Value} {ns : List Int} {nn : Nat} {u1 u2 u3 : Tok} {rest : List (Addr × Obj)} {p wd : Int} {t0 t1 : Tok} (m1 : (x, instObj 117 dx) ∈ rest) (m2 : (dx, dictOf [⟨PyData.keyHash w.params "codes", .str "codes" u1, .ref lc⟩, ⟨PyData.keyHash w.params "place", .str "place" u2, .int 1 u3⟩] 2) ∈ rest) (m3 : (lc, listOf vs.toArray nn) ∈ rest) (hi : IntsAre vs ns) (hz : ns.length ≤ 1000) (hp0 : 1 ≤ p) (hp1 : p ≤ 1 + (ns.length : Int)) (hw : 0 < wd)
  (B : Below A₀ base outer h₀) (F : Fr h₀ L s.heap m) (X : (hd.heap_39 w.params).In h₀) (N : News h₀ L s.heap (rest)) (T : TopP mean mg mb h₀) (hk : cs.kind = .function) (hdp : dp + 14 < recursionLimit) (hun : un + 140 < cLine)
  (hret : ∀ q : Int, lineStart ns p ≤ q → BareTo ns (lineStart ns p) q → ¬ Blank (codeAt ns q) → Rt h₀ L m rest s Q (fun t => .int (cT ns wd (lineStart ns p) q) t)) :
  wpAny (model PP w) (ktrTop dp un gd cn cs L a ccd cl outer) (call (.ref 64) [.ref x, .int p t0, .int wd t1]) Q E s := by
  have hl0 := lineStart_ge ns p
  have hl1 := lineStart_le (ns := ns) hp0
  k_with_none
  k_with "k_upd" => first | (refine' Cut.head ?aZ9; (case aZ9 => k_all)) | (refine' Cut.tail ?aZ9 ?bZ9; (case aZ9 => k_ne); (case bZ9 => k_upd))
  k_with "k_all" => with_reducible assumption
  k_with "k_ne" => (refine neN ?_; (try dsimp only); as_aux_lemma => first | with_reducible assumption | (apply ne_here; (iterate 24 (try (first | with_reducible assumption | apply and_rest))); done) | (apply ne_back; (iterate 24 (try (first | with_reducible assumption | apply and_rest))); done) | (apply ne_low; (iterate 24 (try (first | with_reducible assumption | apply and_rest))); done) | (apply ne_high; (iterate 24 (try (first | with_reducible assumption | apply and_rest))); done) | fail)
  k_with "call ref" => (k_here; (with_reducible show wpAny _ _ (call (Value.ref 36) _) _ _ _); k_dflt (refine' c_width_at ?hwZ9 ?kBZ9 ?kFZ9 ?kXZ9 ?kNZ9 ?kTZ9 ?kKZ9 ?kdZ9 ?kuZ9 ?_; (case kNZ9 => k_asm); (case kBZ9 => k_asm); (case kFZ9 => k_asm); (case kXZ9 => k_asm); (case kTZ9 => k_asm); (case kKZ9 => first | exact rfl | assumption); (case kdZ9 => first | (rename _ + _ < recursionLimit => hd9; exact room_1 hd9 (by decide)) | ktr_room); (case kuZ9 => first | (rename _ + _ < cLine => hu9; exact room_3 hu9 (by decide)) | ktr_units); (case hwZ9 => (first | assumption | omega)); k_whole); intro t9 h9 tk9 F9 N9; (try dsimp only); (try k_sweep); (try k_fold))
  k_with "call ref" => (k_here; (with_reducible show wpAny _ _ (call (Value.ref 114) _) _ _ _); k_dflt (refine' c_code_at ?m1Z9 ?m2Z9 ?m3Z9 ?hiZ9 ?hzZ9 ?kBZ9 ?kFZ9 ?kXZ9 ?kNZ9 ?kTZ9 ?kKZ9 ?kdZ9 ?kuZ9 ?_; (case kNZ9 => k_asm); (case kBZ9 => k_asm); (case kFZ9 => k_asm); (case kXZ9 => k_asm); (case kTZ9 => k_asm); (case kKZ9 => first | exact rfl | assumption); (case kdZ9 => first | (rename _ + _ < recursionLimit => hd9; exact room_1 hd9 (by decide)) | ktr_room); (case kuZ9 => first | (rename _ + _ < cLine => hu9; exact room_3 hu9 (by decide)) | ktr_units); (case m1Z9 => k_mem); (case m2Z9 => k_mem); (case m3Z9 => k_mem); (case hiZ9 => l_ints); (case hzZ9 => first | assumption | omega); k_whole); intro t9 h9 tk9 F9 N9; (try dsimp only); (try k_sweep); (try k_fold))
  k_with "call ref" => (k_here; (with_reducible show wpAny _ _ (call (Value.ref 22) _) _ _ _); k_dflt (refine' c_line_start ?m1Z9 ?m2Z9 ?m3Z9 ?hiZ9 ?hzZ9 ?hp0Z9 ?hp1Z9 ?kBZ9 ?kFZ9 ?kXZ9 ?kNZ9 ?kTZ9 ?kKZ9 ?kdZ9 ?kuZ9 ?_; (case kNZ9 => k_asm); (case kBZ9 => k_asm); (case kFZ9 => k_asm); (case kXZ9 => k_asm); (case kTZ9 => k_asm); (case kKZ9 => first | exact rfl | assumption); (case kdZ9 => first | (rename _ + _ < recursionLimit => hd9; exact room_1 hd9 (by decide)) | ktr_room); (case kuZ9 => first | (rename _ + _ < cLine => hu9; exact room_3 hu9 (by decide)) | ktr_units); (case m1Z9 => k_mem); (case m2Z9 => k_mem); (case m3Z9 => k_mem); (case hiZ9 => l_ints); (case hzZ9 => first | assumption | omega); (case hp0Z9 => first | assumption | omega); (case hp1Z9 => first | assumption | omega); k_whole); intro t9 h9 tk9 F9 N9; (try dsimp only); (try k_sweep); (try k_fold))
  k_with "compareOp In int ref" => (k_here; k_dflt (refine' in_blanks (kun_topT ?k1Z9 ?k2Z9 ?k3Z9) ?k4Z9 ?_; (case k1Z9 => k_asm); (case k2Z9 => k_asm); (case k3Z9 => k_is); (case k4Z9 => exact .cons _ _ (.cons _ _ .nil))))
  k_with "exec While Compare cons nil" => k_while_given ["view.codes", "place", "width"] (fun ns p w _ q r => lineStart ns p ≤ q ∧ q ≤ 1 + (ns.length : Int) ∧ r = cT ns w (lineStart ns p) q ∧ BareTo ns (lineStart ns p) q) (fun ns _ _ _ q _ => (1 + (ns.length : Int) - q).toNat) "at" "column"
  k_with "state" => first
    | exact ⟨Int.le_refl _, by omega, cT_self.symm, bareTo_start⟩
    | exact bare_turn (by assumption) (by assumption) (by assumption) (by assumption)
  k_with "measure" => ((have hm9 := blank_room (by assumption : isBlank _ = true)); omega)
  replace N := led_add (led_add (led_add N m3 N) m2 N) m1 N
  clear m1 m2 m3
  refine wpAny_call ?_
  k_dflt ktr_enter
  k_steps
  all_goals (
    (rename _ = cT _ _ _ _ => hr9)
    subst hr9
    refine' hret _ ?a ?b ?c _ _ _ ?F ?N
    (case N => exact led_tail (led_tail (led_tail (by assumption))))
    (case F => assumption)
    (case a => assumption)
    (case b => assumption)
    (case c => exact fun hc9 => Bool.false_ne_true ((by assumption : isBlank _ = false).symm.trans hc9)))
end
/-! part blanks -/
section
variable {w : World} {mean : ExcName → Option Value} {mg mb : Str → Option Value} {dp un : Nat} {gd : Option (List Code)} {cn : Str} {cs : Scope} {a : Addr} {ccd : Value} {cl : List (Str × Addr)} {outer : List Env} {A₀ : Around} {base h₀ : Heap} {L : Addr} {m : Str → Option Value} {s : Shared} {Q E : Value → Shared → Prop}

def tabsTo (col want w : Int) (tabs : Bool) : Int := if tabs = true ∧ col < want then Int.fdiv want w - Int.fdiv col w else 0
def blanksTo (col want w : Int) (tabs : Bool) : List Int :=
  if 0 < tabsTo col want w tabs then List.replicate (tabsTo col want w tabs).toNat 9 ++ List.replicate (Int.fmod want w).toNat 32 else List.replicate (want - col).toNat 32
def LNEW (r : Addr) (vs : List Value) (n : Nat) : Addr × Obj := (r, listOf vs.toArray n)
theorem fdiv_bounds {a w : Int} (h0 : 0 ≤ a) (hw : 0 < w) : 0 ≤ Int.fdiv a w ∧ Int.fdiv a w ≤ a ∧ 0 ≤ Int.fmod a w ∧ Int.fmod a w < w := by
  refine ⟨?_, ?_, Int.fmod_nonneg_of_pos _ hw, Int.fmod_lt_of_pos _ hw⟩
  · rw [Int.fdiv_eq_ediv_of_nonneg _ (Int.le_of_lt hw)]; exact Int.ediv_nonneg h0 (Int.le_of_lt hw)
  · rw [Int.fdiv_eq_ediv_of_nonneg _ (Int.le_of_lt hw)]; exact Int.ediv_le_self _ h0
theorem flat_one (n : Nat) (c : Int) : (List.replicate n [c]).flatten = List.replicate n c := by
  induction n with
  | zero => rfl
  | succ n ih => rw [List.replicate_succ, List.flatten_cons, ih, List.replicate_succ]; rfl
theorem blanks_tabs {col want w : Int} {tabs : Bool} (ht : tabs = true) (hc : col < want) (h : 0 < Int.fdiv want w - Int.fdiv col w) :
    (List.replicate (Int.fdiv want w - Int.fdiv col w).toNat [(9 : Int)]).flatten ++ (List.replicate (Int.fmod want w).toNat [(32 : Int)]).flatten = blanksTo col want w tabs := by
  have e : tabsTo col want w tabs = Int.fdiv want w - Int.fdiv col w := by unfold tabsTo; rw [if_pos ⟨ht, hc⟩]
  unfold blanksTo
  rw [e, if_pos h, flat_one, flat_one]
theorem blanks_none {col want w : Int} {tabs : Bool} (h : tabs = false ∨ ¬ col < want ∨ ¬ 0 < Int.fdiv want w - Int.fdiv col w) :
    (List.replicate (if want - col > 0 then want - col else 0).toNat [(32 : Int)]).flatten = blanksTo col want w tabs := by
  have e : ¬ 0 < tabsTo col want w tabs := by
    unfold tabsTo
    split
    · rename_i h2
      rcases h with h | h | h
      · rw [h] at h2; exact absurd h2.1 (by decide)
      · exact absurd h2.2 h
      · exact h
    · omega
  unfold blanksTo
  rw [if_neg e, flat_one]
  split
  · rfl
  · rw [show (want - col).toNat = 0 by omega]; rfl
theorem led_skip {h₀ h : Heap} {L : Addr} {x p : Addr × Obj} {news : List (Addr × Obj)} (N : News h₀ L h (x :: p :: news)) : News h₀ L h (x :: news) := by
  intro q hq
  rcases List.mem_cons.mp hq with rfl | hq
  · exact N _ (.head _)
  · exact N q (.tail _ (.tail _ hq))
theorem blanks_len {col want w : Int} {tabs : Bool} (hw : 0 < w) (hw2 : w ≤ 9) (hc0 : 0 ≤ col) (hc1 : col ≤ 100) (hd0 : 0 ≤ want) (hd1 : want ≤ 100) : (blanksTo col want w tabs).length ≤ 200 := by
  obtain ⟨hq1, hq2, hq3, hq4⟩ := fdiv_bounds hd0 hw
  obtain ⟨hq5, hq6, hq7, hq8⟩ := fdiv_bounds hc0 hw
  unfold blanksTo
  split
  · rw [List.length_append, List.length_replicate, List.length_replicate]
    have : tabsTo col want w tabs ≤ 100 := by unfold tabsTo; split <;> omega
    omega
  · rw [List.length_replicate]; omega
theorem c_blanks_to {rest : List (Addr × Obj)} {col want wd : Int} {tabs : Bool} {t0 t1 t2 : Tok} (hw : 0 < wd) (hw2 : wd ≤ 9) (hc0 : 0 ≤ col) (hc1 : col ≤ 100) (hd0 : 0 ≤ want) (hd1 : want ≤ 100)
  (B : Below A₀ base outer h₀) (F : Fr h₀ L s.heap m) (X : (hd.heap_39 w.params).In h₀) (N : News h₀ L s.heap (rest)) (T : TopP mean mg mb h₀) (hk : cs.kind = .function) (hdp : dp + 12 < recursionLimit) (hun : un + 120 < cLine)
  (hret : ∀ (r : Addr) (vs' : List Value) (bl : List Int) (n' : Nat), bl = blanksTo col want wd tabs → bl.length ≤ 200 → IntsAre vs' bl → (∀ q ∈ rest, q.1 < r) → ∀ (h' : Heap) (tk' : Nat), Fr h₀ L h' m → News h₀ L h' ((r, listOf vs'.toArray n') :: rest) → Q (.ref r) { s with heap := h', toks := tk' }) :
  wpAny (model PP w) (ktrTop dp un gd cn cs L a ccd cl outer) (call (.ref 71) [.int col t0, .int want t1, .int wd t2, .bool tabs]) Q E s := by
  obtain ⟨hq1, hq2, hq3, hq4⟩ := fdiv_bounds hd0 hw
  obtain ⟨hq5, hq6, hq7, hq8⟩ := fdiv_bounds hc0 hw
  k_with_none
  k_with "k_upd" => first | (refine' Cut.head ?aZ9; (case aZ9 => k_all)) | (refine' Cut.tail ?aZ9 ?bZ9; (case aZ9 => k_ne); (case bZ9 => k_upd))
  k_with "k_all" => with_reducible assumption
  k_with "k_ne" => (refine neN ?_; (try dsimp only); as_aux_lemma => first | with_reducible assumption | (apply ne_here; (iterate 24 (try (first | with_reducible assumption | apply and_rest))); done) | (apply ne_back; (iterate 24 (try (first | with_reducible assumption | apply and_rest))); done) | (apply ne_low; (iterate 24 (try (first | with_reducible assumption | apply and_rest))); done) | (apply ne_high; (iterate 24 (try (first | with_reducible assumption | apply and_rest))); done) | fail)
  refine wpAny_call ?_
  k_dflt ktr_enter
  k_steps
  all_goals (
    refine' hret _ _ _ _ rfl (blanks_len hw hw2 hc0 hc1 hd0 hd1) ?i ?l _ _ ?F ?N
    (case N => first | exact led_skip (led_skip (led_skip (led_skip (by assumption)))) | exact led_skip (by assumption))
    (case F => assumption)
    (case l => first | exact kst_ltOf (And.right (by assumption)) | exact kst_ltOf (And.right (And.right (by assumption))) | exact kst_ltOf (And.right (And.right (And.right (by assumption)))) | exact kst_ltOf (And.right (And.right (And.right (And.right (by assumption))))) | exact kst_ltOf (And.right (And.right (And.right (And.right (And.right (by assumption)))))) | exact kst_ltOf (And.right (And.right (And.right (And.right (And.right (And.right (by assumption))))))) | exact kst_ltOf (And.right (And.right (And.right (And.right (And.right (And.right (And.right (by assumption)))))))) | exact kst_ltOf (And.right (And.right (And.right (And.right (And.right (And.right (And.right (And.right (by assumption))))))))) | exact kst_ltOf (And.right (And.right (And.right (And.right (And.right (And.right (And.right (And.right (And.right (by assumption)))))))))) | exact kst_ltOf (And.right (And.right (And.right (And.right (And.right (And.right (And.right (And.right (And.right (And.right (by assumption))))))))))))
    (case i => first
      | (rw [← blanks_tabs (by assumption) (by assumption) (by assumption)]; assumption)
      | (rw [← blanks_none (by first | exact .inl (by assumption) | exact .inr (.inl (by assumption)) | exact .inr (.inr (by assumption)))]; assumption)))
end
/-! part forced -/
section
variable {w : World} {mean : ExcName → Option Value} {mg mb : Str → Option Value} {dp un : Nat} {gd : Option (List Code)} {cn : Str} {cs : Scope} {a : Addr} {ccd : Value} {cl : List (Str × Addr)} {outer : List Env} {A₀ : Around} {base h₀ : Heap} {L : Addr} {m : Str → Option Value} {s : Shared} {Q E : Value → Shared → Prop}

theorem spot_bound {ns : List Int} {w col p q : Int} (hw : 0 < w) (h9 : w ≤ 9) (hp0 : 1 ≤ p) (hp1 : p ≤ 1 + (ns.length : Int)) (hc : 0 ≤ col) (h : IsSpot ns w col p q) :
    1 ≤ q ∧ q ≤ 1 + (ns.length : Int) ∧ 0 ≤ cT ns w (lineStart ns p) q ∧ cT ns w (lineStart ns p) q ≤ col + 9 ∧ (col < cT ns w (lineStart ns p) q → lineStart ns p < q ∧ 1 ≤ q - 1) := by
  obtain ⟨⟨h1, h2⟩, h3, _⟩ := h
  have hb := le_bounds hp0 hp1
  have hs := lineStart_ge ns p
  refine ⟨by omega, by omega, cT_nonneg hw, ?_, fun hlt => ?_⟩
  · by_cases he : q = lineStart ns p
    · rw [he, cT_self]; omega
    · have h4 := h3 (q - 1) (by omega) (by omega)
      have h5 := line_col (ns := ns) (w := w) (p := p) (q := q - 1) hp0 hp1 (by omega) (by omega)
      have h6 := widthAt_le (c := codeAt ns (q - 1)) (k := cT ns w (lineStart ns p) (q - 1)) hw h9
      rw [show q - 1 + 1 = q by omega] at h5
      omega
  · have : q ≠ lineStart ns p := fun he => by rw [he, cT_self] at hlt; omega
    omega
theorem c_place_b {x dx lc : Addr} {vs : List Value} {ns : List Int} {nn : Nat} {u1 u2 u3 : Tok} {rest : List (Addr × Obj)} {p col wd : Int} {t0 t1 t2 : Tok} (m1 : (x, instObj 117 dx) ∈ rest) (m2 : (dx, dictOf [⟨PyData.keyHash w.params "codes", .str "codes" u1, .ref lc⟩, ⟨PyData.keyHash w.params "place", .str "place" u2, .int 1 u3⟩] 2) ∈ rest) (m3 : (lc, listOf vs.toArray nn) ∈ rest) (hi : IntsAre vs ns) (hz : ns.length ≤ 1000) (hp0 : 1 ≤ p) (hp1 : p ≤ 1 + (ns.length : Int)) (hw : 0 < wd) (hw9 : wd ≤ 9) (hc0 : 0 ≤ col)
  (B : Below A₀ base outer h₀) (F : Fr h₀ L s.heap m) (X : (hd.heap_39 w.params).In h₀) (N : News h₀ L s.heap (rest)) (T : TopP mean mg mb h₀) (hk : cs.kind = .function) (hdp : dp + 14 < recursionLimit) (hun : un + 140 < cLine)
  (hret : ∀ q R : Int, IsSpot ns wd col p q → R = cT ns wd (lineStart ns p) q → 1 ≤ q → q ≤ 1 + (ns.length : Int) → 0 ≤ R → R ≤ col + 9 → (col < R → 1 ≤ q - 1) → ∀ (r : Addr) (z1 z2 : Tok), (∀ q ∈ rest, q.1 < r) → ∀ (h' : Heap) (tk' : Nat), Fr h₀ L h' m → News h₀ L h' ((r, { cls := Value.type "tuple", data := Data.seq #[Value.int q z1, Value.int R z2] }) :: rest) → Q (.ref r) { s with heap := h', toks := tk' }) :
  wpAny (model PP w) (ktrTop dp un gd cn cs L a ccd cl outer) (call (.ref 57) [.ref x, .int p t0, .int col t2, .int wd t1]) Q E s :=
  c_place_at m1 m2 m3 hi hz hp0 hp1 hw B F X N T hk hdp hun fun q hq => let b := spot_bound hw hw9 hp0 hp1 hc0 hq
    hret q _ hq rfl b.1 b.2.1 b.2.2.1 b.2.2.2.1 fun h => (b.2.2.2.2 h).2
def Forced (ns : List Int) (w col p : Int) (tabs : Bool) (st en : Int) (fr : List Int) (th : Int) : Prop :=
  ∃ q R, IsSpot ns w col p q ∧ R = cT ns w (lineStart ns p) q ∧
    ((R < col ∧ st = q ∧ en = q ∧ fr = blanksTo R col w tabs ∧ th = q + (fr.length : Int)) ∨
     (col < R ∧ codeAt ns (q - 1) = 9 ∧ st = q - 1 ∧ en = q ∧ fr = List.replicate (col - cT ns w (lineStart ns p) (q - 1)).toNat 32 ++ blanksTo col R w tabs ∧ th = q - 1 + ((col - cT ns w (lineStart ns p) (q - 1)).toNat : Int)) ∨
     (¬ R < col ∧ ¬ (col < R ∧ codeAt ns (q - 1) = 9) ∧ st = q ∧ en = q ∧ fr = [] ∧ th = q))
theorem forced_fill {ns : List Int} {w col p q R : Int} {tabs : Bool} {bl : List Int} (hS : IsSpot ns w col p q) (e : R = cT ns w (lineStart ns p) q) (h : R < col) (hb : bl = blanksTo R col w tabs) : Forced ns w col p tabs q q bl (q + (bl.length : Int)) :=
  ⟨q, R, hS, e, .inl ⟨h, rfl, rfl, hb, rfl⟩⟩
theorem forced_none {ns : List Int} {w col p q R : Int} {tabs : Bool} (hS : IsSpot ns w col p q) (e : R = cT ns w (lineStart ns p) q) (h : ¬ R < col) (hb : ¬ col < R ∨ codeAt ns (q - 1) ≠ 9) : Forced ns w col p tabs q q [] q :=
  ⟨q, R, hS, e, .inr (.inr ⟨h, fun hc => hb.elim (fun h => h hc.1) fun h => h hc.2, rfl, rfl, rfl, rfl⟩)⟩
theorem forced_tab {ns : List Int} {w col p q R K : Int} {tabs : Bool} {bl : List Int} {n : Nat} (hw : 0 < w) (hw9 : w ≤ 9) (hp0 : 1 ≤ p) (hp1 : p ≤ 1 + (ns.length : Int)) (hc0 : 0 ≤ col) (hS : IsSpot ns w col p q) (e : R = cT ns w (lineStart ns p) q) (h : col < R) (hc : codeAt ns (q - 1) = 9)
    (eK : K = cT ns w (lineStart ns (q - 1)) (q - 1)) (hb : bl = blanksTo col R w tabs) (hn : (List.replicate (col - K).toNat [(32 : Int)]).flatten.length = n) :
    Forced ns w col p tabs (q - 1) q ((List.replicate (col - K).toNat [(32 : Int)]).flatten ++ bl) (q - 1 + (n : Int)) := by
  have hb2 := (spot_bound hw hw9 hp0 hp1 hc0 hS).2.2.2.2 (by rw [← e]; exact h)
  have hle := hS.1.2
  rw [line_same hp0 hp1 (by omega) (by omega)] at eK
  subst eK
  rw [flat_one] at hn ⊢
  rw [List.length_replicate] at hn
  exact ⟨q, R, hS, e, .inr (.inl ⟨h, hc, rfl, rfl, by rw [hb], by rw [hn]⟩)⟩
theorem forced_facts {ns : List Int} {w col p : Int} {tabs : Bool} {st en th : Int} {fr : List Int} (hw : 0 < w) (hw9 : w ≤ 9) (hp0 : 1 ≤ p) (hp1 : p ≤ 1 + (ns.length : Int)) (hc0 : 0 ≤ col) (hc1 : col ≤ 50) (h : Forced ns w col p tabs st en fr th) :
    lineStart ns p ≤ st ∧ st ≤ en ∧ en ≤ lineEnd ns p ∧ 1 ≤ st ∧ 1 ≤ lineStart ns p ∧ lineEnd ns p ≤ 1 + (ns.length : Int) ∧ fr.length ≤ 300 ∧ st ≤ th ∧ th ≤ st + (fr.length : Int) := by
  obtain ⟨q, R, hS, e, h⟩ := h
  have hb := spot_bound hw hw9 hp0 hp1 hc0 hS
  have hl := le_bounds hp0 hp1
  have hs := lineStart_ge ns p
  obtain ⟨⟨h1, h2⟩, h3, h4⟩ := hS
  have hK : ∀ a, 0 ≤ cT ns w (lineStart ns p) a := fun a => cT_nonneg hw
  rcases h with ⟨ha, rfl, rfl, hf, rfl⟩ | ⟨ha, hc, rfl, rfl, hf, rfl⟩ | ⟨ha, hc, rfl, rfl, rfl, rfl⟩
  · have := blanks_len (tabs := tabs) (col := R) (want := col) hw hw9 (by omega) (by omega) (by omega) (by omega)
    rw [← hf] at this
    omega
  · have := blanks_len (tabs := tabs) (col := col) (want := R) hw hw9 (by omega) (by omega) (by omega) (by omega)
    have h5 := hb.2.2.2.2 (by omega)
    have h6 := hK (en - 1)
    have h7 : fr.length = (col - cT ns w (lineStart ns p) (en - 1)).toNat + (blanksTo col R w tabs).length := by rw [hf, List.length_append, List.length_replicate]
    omega
  · simp only [List.length_nil]
    omega
theorem blanksTo_blank {col want w : Int} {tabs : Bool} : ∀ k ∈ blanksTo col want w tabs, isBlank k = true := by
  intro k hk
  unfold blanksTo at hk
  split at hk
  · rcases List.mem_append.mp hk with hk | hk
    · rw [(List.mem_replicate.mp hk).2]; rfl
    · rw [(List.mem_replicate.mp hk).2]; rfl
  · rw [(List.mem_replicate.mp hk).2]; rfl
theorem blanksTo_notab {col want w : Int} {tabs : Bool} (ht : tabs = false) : ∀ k ∈ blanksTo col want w tabs, k = 32 := by
  intro k hk
  have e : ¬ 0 < tabsTo col want w tabs := by unfold tabsTo; rw [if_neg (by rw [ht]; exact fun h => absurd h.1 (by decide))]; decide
  unfold blanksTo at hk
  rw [if_neg e] at hk
  exact (List.mem_replicate.mp hk).2
theorem forced_blank {ns : List Int} {w col p : Int} {tabs : Bool} {st en th : Int} {fr : List Int} (h : Forced ns w col p tabs st en fr th) : ∀ k ∈ fr, isBlank k = true := by
  obtain ⟨q, R, hS, e, h⟩ := h
  rcases h with ⟨_, _, _, rfl, _⟩ | ⟨_, _, _, _, rfl, _⟩ | ⟨_, _, _, _, rfl, _⟩
  · exact blanksTo_blank
  · intro k hk
    rcases List.mem_append.mp hk with hk | hk
    · rw [(List.mem_replicate.mp hk).2]; rfl
    · exact blanksTo_blank k hk
  · exact fun _ hk => nomatch hk
theorem forced_notab {ns : List Int} {w col p : Int} {tabs : Bool} {st en th : Int} {fr : List Int} (h : Forced ns w col p tabs st en fr th) (ht : tabs = false) : ∀ k ∈ fr, k = 32 := by
  obtain ⟨q, R, hS, e, h⟩ := h
  rcases h with ⟨_, _, _, rfl, _⟩ | ⟨_, _, _, _, rfl, _⟩ | ⟨_, _, _, _, rfl, _⟩
  · exact blanksTo_notab ht
  · intro k hk
    rcases List.mem_append.mp hk with hk | hk
    · exact (List.mem_replicate.mp hk).2
    · exact blanksTo_notab ht k hk
  · exact fun _ hk => nomatch hk
theorem c_forced {x dx lc : Addr} {vs : List Value} {ns : List Int} {nn : Nat} {u1 u2 u3 : Tok} {rest : List (Addr × Obj)} {p col wd : Int} {tabs : Bool} {t0 t1 t2 : Tok} (m1 : (x, instObj 117 dx) ∈ rest) (m2 : (dx, dictOf [⟨PyData.keyHash w.params "codes", .str "codes" u1, .ref lc⟩, ⟨PyData.keyHash w.params "place", .str "place" u2, .int 1 u3⟩] 2) ∈ rest) (m3 : (lc, listOf vs.toArray nn) ∈ rest) (hi : IntsAre vs ns) (hz : ns.length ≤ 1000) (hp0 : 1 ≤ p) (hp1 : p ≤ 1 + (ns.length : Int)) (hw : 0 < wd) (hw9 : wd ≤ 9) (hc0 : 0 ≤ col) (hc1 : col ≤ 50)
  (B : Below A₀ base outer h₀) (F : Fr h₀ L s.heap m) (X : (hd.heap_39 w.params).In h₀) (N : News h₀ L s.heap (rest)) (T : TopP mean mg mb h₀) (hk : cs.kind = .function) (hdp : dp + 16 < recursionLimit) (hun : un + 160 < cLine)
  (hret : ∀ (st en th : Int) (fr : List Int) (vs' : List Value) (n' : Nat) (r tt c : Addr) (z1 z2 z3 : Tok), Forced ns wd col p tabs st en fr th → IntsAre vs' fr → (∀ q ∈ rest, q.1 < c) → c < tt → tt < r → ∀ (h' : Heap) (tk' : Nat), Fr h₀ L h' m →
     News h₀ L h' ((r, { cls := Value.type "tuple", data := Data.seq #[Value.ref tt, Value.int th z3] }) :: (tt, { cls := Value.type "tuple", data := Data.seq #[Value.int st z1, Value.int en z2, Value.ref c] }) :: (c, listOf vs'.toArray n') :: rest) → Q (.ref r) { s with heap := h', toks := tk' }) :
  wpAny (model PP w) (ktrTop dp un gd cn cs L a ccd cl outer) (call (.ref 78) [.ref x, .int p t0, .int col t2, .int wd t1, .bool tabs]) Q E s := by
  replace N := led_add (led_add (led_add N m3 N) m2 N) m1 N
  clear m1 m2 m3
  k_with_none
  k_with "k_upd" => first | (refine' Cut.head ?aZ9; (case aZ9 => k_all)) | (refine' Cut.tail ?aZ9 ?bZ9; (case aZ9 => k_ne); (case bZ9 => k_upd))
  k_with "k_all" => with_reducible assumption
  k_with "k_ne" => (refine neN ?_; (try dsimp only); as_aux_lemma => first | with_reducible assumption | (apply ne_here; (iterate 24 (try (first | with_reducible assumption | apply and_rest))); done) | (apply ne_back; (iterate 24 (try (first | with_reducible assumption | apply and_rest))); done) | (apply ne_low; (iterate 24 (try (first | with_reducible assumption | apply and_rest))); done) | (apply ne_high; (iterate 24 (try (first | with_reducible assumption | apply and_rest))); done) | fail)
  k_with "call ref" => (k_here; (with_reducible show wpAny _ _ (call (Value.ref 114) _) _ _ _); k_dflt (refine' c_code_at ?m1Z9 ?m2Z9 ?m3Z9 ?hiZ9 ?hzZ9 ?kBZ9 ?kFZ9 ?kXZ9 ?kNZ9 ?kTZ9 ?kKZ9 ?kdZ9 ?kuZ9 ?_; (case kNZ9 => k_asm); (case kBZ9 => k_asm); (case kFZ9 => k_asm); (case kXZ9 => k_asm); (case kTZ9 => k_asm); (case kKZ9 => first | exact rfl | assumption); (case kdZ9 => first | (rename _ + _ < recursionLimit => hd9; exact room_1 hd9 (by decide)) | ktr_room); (case kuZ9 => first | (rename _ + _ < cLine => hu9; exact room_3 hu9 (by decide)) | ktr_units); (case m1Z9 => k_mem); (case m2Z9 => k_mem); (case m3Z9 => k_mem); (case hiZ9 => l_ints); (case hzZ9 => first | assumption | omega); k_whole); intro t9 h9 tk9 F9 N9; (try dsimp only); (try k_sweep); (try k_fold))
  k_with "call ref" => (k_here; (with_reducible show wpAny _ _ (call (Value.ref 50) _) _ _ _); k_dflt (refine' c_column_at2 ?m1Z9 ?m2Z9 ?m3Z9 ?hiZ9 ?hzZ9 ?hp0Z9 ?hp1Z9 ?hwZ9 ?hw9Z9 ?kBZ9 ?kFZ9 ?kXZ9 ?kNZ9 ?kTZ9 ?kKZ9 ?kdZ9 ?kuZ9 ?_; (case kNZ9 => k_asm); (case kBZ9 => k_asm); (case kFZ9 => k_asm); (case kXZ9 => k_asm); (case kTZ9 => k_asm); (case kKZ9 => first | exact rfl | assumption); (case kdZ9 => first | (rename _ + _ < recursionLimit => hd9; exact room_1 hd9 (by decide)) | ktr_room); (case kuZ9 => first | (rename _ + _ < cLine => hu9; exact room_3 hu9 (by decide)) | ktr_units); (case m1Z9 => k_mem); (case m2Z9 => k_mem); (case m3Z9 => k_mem); (case hiZ9 => l_ints); (case hzZ9 => first | assumption | omega); (case hp0Z9 => first | assumption | omega); (case hp1Z9 => first | assumption | omega); (case hwZ9 => first | assumption | omega); (case hw9Z9 => first | assumption | omega); k_whole); intro K9 e9 g9 u9 t9 h9 tk9 F9 N9; (try dsimp only); (try k_sweep); (try k_fold))
  k_with "call ref" => (k_here; (with_reducible show wpAny _ _ (call (Value.ref 57) _) _ _ _); k_dflt (refine' c_place_at ?m1Z9 ?m2Z9 ?m3Z9 ?hiZ9 ?hzZ9 ?hp0Z9 ?hp1Z9 ?hwZ9 ?kBZ9 ?kFZ9 ?kXZ9 ?kNZ9 ?kTZ9 ?kKZ9 ?kdZ9 ?kuZ9 ?_; (case kNZ9 => k_asm); (case kBZ9 => k_asm); (case kFZ9 => k_asm); (case kXZ9 => k_asm); (case kTZ9 => k_asm); (case kKZ9 => first | exact rfl | assumption); (case kdZ9 => first | (rename _ + _ < recursionLimit => hd9; exact room_1 hd9 (by decide)) | ktr_room); (case kuZ9 => first | (rename _ + _ < cLine => hu9; exact room_3 hu9 (by decide)) | ktr_units); (case m1Z9 => k_mem); (case m2Z9 => k_mem); (case m3Z9 => k_mem); (case hiZ9 => l_ints); (case hzZ9 => first | assumption | omega); (case hp0Z9 => first | assumption | omega); (case hp1Z9 => first | assumption | omega); (case hwZ9 => first | assumption | omega); k_whole); intro q9 s9 r9 z8 z9 l9 h9 tk9 F9 N9; (try k_lt l9); (try dsimp only); (try k_sweep); (try k_fold))
  k_with "call ref" => (k_here; (with_reducible show wpAny _ _ (call (Value.ref 71) _) _ _ _); k_dflt (refine' c_blanks_to ?hwZ9 ?hw2Z9 ?hc0Z9 ?hc1Z9 ?hd0Z9 ?hd1Z9 ?kBZ9 ?kFZ9 ?kXZ9 ?kNZ9 ?kTZ9 ?kKZ9 ?kdZ9 ?kuZ9 ?_; (case kNZ9 => k_asm); (case kBZ9 => k_asm); (case kFZ9 => k_asm); (case kXZ9 => k_asm); (case kTZ9 => k_asm); (case kKZ9 => first | exact rfl | assumption); (case kdZ9 => first | (rename _ + _ < recursionLimit => hd9; exact room_1 hd9 (by decide)) | ktr_room); (case kuZ9 => first | (rename _ + _ < cLine => hu9; exact room_3 hu9 (by decide)) | ktr_units); (case hwZ9 => first | assumption | omega); (case hw2Z9 => first | assumption | omega); (case hc0Z9 => first | assumption | omega); (case hc1Z9 => first | assumption | omega); (case hd0Z9 => first | assumption | omega); (case hd1Z9 => first | assumption | omega); k_whole); intro r9 vs9 bl9 n9 be9 bz9 i9 l9 h9 tk9 F9 N9; (try k_lt l9); (try dsimp only); (try k_sweep); (try k_fold))
  k_with "call ref" => (k_here; (with_reducible show wpAny _ _ (call (Value.ref 57) _) _ _ _); k_dflt (refine' c_place_b ?m1Z9 ?m2Z9 ?m3Z9 ?hiZ9 ?hzZ9 ?hp0Z9 ?hp1Z9 ?hwZ9 ?hw9Z9 ?hc0Z9 ?kBZ9 ?kFZ9 ?kXZ9 ?kNZ9 ?kTZ9 ?kKZ9 ?kdZ9 ?kuZ9 ?_; (case kNZ9 => k_asm); (case kBZ9 => k_asm); (case kFZ9 => k_asm); (case kXZ9 => k_asm); (case kTZ9 => k_asm); (case kKZ9 => first | exact rfl | assumption); (case kdZ9 => first | (rename _ + _ < recursionLimit => hd9; exact room_1 hd9 (by decide)) | ktr_room); (case kuZ9 => first | (rename _ + _ < cLine => hu9; exact room_3 hu9 (by decide)) | ktr_units); (case m1Z9 => k_mem); (case m2Z9 => k_mem); (case m3Z9 => k_mem); (case hiZ9 => l_ints); (case hzZ9 => first | assumption | omega); (case hp0Z9 => first | assumption | omega); (case hp1Z9 => first | assumption | omega); (case hwZ9 => first | assumption | omega); (case hw9Z9 => first | assumption | omega); (case hc0Z9 => first | assumption | omega); k_whole); intro q9 r9 s9 e9 a9 b9 c9 d9 f9 r9 z8 z9 l9 h9 tk9 F9 N9; (try k_lt l9); (try dsimp only); (try k_sweep); (try k_fold))
  refine wpAny_call ?_
  k_dflt ktr_enter
  k_steps
  all_goals (
    refine' hret _ _ _ _ _ _ _ _ _ _ _ _ ?f ?i ?l ?l1 ?l2 _ _ ?F ?N
    (case N => exact kst_newsOf (by assumption) (by kst_in))
    (case F => assumption)
    (case i => first | assumption | exact .nil)
    (case l => first | exact kst_ltOf (And.right (by assumption)) | exact kst_ltOf (And.right (And.right (by assumption))) | exact kst_ltOf (And.right (And.right (And.right (by assumption)))) | exact kst_ltOf (And.right (And.right (And.right (And.right (by assumption))))) | exact kst_ltOf (And.right (And.right (And.right (And.right (And.right (by assumption)))))) | exact kst_ltOf (And.right (And.right (And.right (And.right (And.right (And.right (by assumption))))))) | exact kst_ltOf (And.right (And.right (And.right (And.right (And.right (And.right (And.right (by assumption)))))))) | exact kst_ltOf (And.right (And.right (And.right (And.right (And.right (And.right (And.right (And.right (by assumption))))))))) | exact kst_ltOf (And.right (And.right (And.right (And.right (And.right (And.right (And.right (And.right (And.right (by assumption)))))))))) | exact kst_ltOf (And.right (And.right (And.right (And.right (And.right (And.right (And.right (And.right (And.right (And.right (by assumption))))))))))))
    (case l1 => (refine ltN ?_; omega))
    (case l2 => (refine ltN ?_; omega))
    (case f => first
      | exact forced_fill (by assumption) (by assumption) (by assumption) (by assumption)
      | exact forced_tab hw hw9 hp0 hp1 hc0 (by assumption) (by assumption) (by assumption) (by assumption) (by assumption) (by assumption) (by assumption)
      | exact forced_none (by assumption) (by assumption) (by assumption) (by first | exact .inl (by assumption) | exact .inr (by assumption))))
end
/-! part comp -/
section
variable {w : World} {mean : ExcName → Option Value} {mg mb : Str → Option Value} {dp un : Nat} {gd : Option (List Code)} {cn : Str} {cs : Scope} {a : Addr} {ccd : Value} {cl : List (Str × Addr)} {outer : List Env} {A₀ : Around} {base h₀ : Heap} {L : Addr} {m : Str → Option Value} {s : Shared} {Q E : Value → Shared → Prop}

theorem comp_none {prog : Program} {w : World} {A : Around} {h₀ : Heap} {L : Addr} {m : Str → Option Value} {env : Env} {ct elt : PySem.Expr} {x : Str} {scope : Scope} {cl : List (Str × Addr)} {s : Shared} {S : List (Addr × Obj) → Prop} {Fin : List Value → List (Addr × Obj) → Prop} {news : List (Addr × Obj)} {vs : List Value} {ns : List Int} (hi : IntsAre vs ns)
    (turn : ∀ k t I oI C oC D m₂ h tk (E' : Value → Shared → Prop), k ∈ ns → LCg.NsObj oC m₂ → m₂ x = some (.int k t) → Fr h₀ L h m → News h₀ L h ((I, oI) :: (C, oC) :: (D, LCg.lst []) :: news) → LCg.Off3 I C D news → ((@Ne Nat I C) ∧ (@Ne Nat I D) ∧ (@Ne Nat C D)) →
      wpAny (model prog w) A (isTrue ct (compEnvC scope cl C env) (eval ct (compEnvC scope cl C env))) (fun b s' => if b = true then False
        else LCg.CompEnd h₀ L m { s with heap := h, toks := tk } I oI C oC D (LCg.lst []) S (fun _ news' => news' = news) Value.none s') E' { s with heap := h, toks := tk })
    (fin : Fin [] news) : LCt.CompRestT prog w A h₀ L m env ct elt x scope cl s S (fun i v => vs.toArray[i]? = some v) Fin vs.toArray.size 0 [] news := by
  have key : ∀ j i : Nat, LCt.CompRestT prog w A h₀ L m env ct elt x scope cl s S (fun i v => vs.toArray[i]? = some v) Fin j i [] news := by
    intro j
    induction j with
    | zero => intro i; exact LCt.CompRestT.zero fin
    | succ j ih =>
      intro i
      refine LCt.CompRestT.succ ?_
      intro v I oI C oC D m₂ h tk E' hv hC hx F N off ne
      obtain ⟨k, t, hv', hk⟩ := IntsAre.at hi i v (by simpa using hv)
      rw [hv'] at hx
      refine wpAny_mono (turn k t I oI C oC D m₂ h tk E' (List.mem_of_getElem? hk) hC hx F N off ne) (fun b s₂ hq => ?_) fun _ _ e => e
      cases b with
      | true => exact absurd hq (by simp)
      | false =>
        simp only [Bool.false_eq_true, if_false] at hq ⊢
        obtain ⟨h', tk', nw, e, F', N', off', hS, hn⟩ := hq
        subst hn
        exact ⟨h', tk', _, e, F', N', off', hS, ih (i + 1)⟩
  exact key _ 0
theorem notin_blank {prog : Program} {w : World} {A : Around} {E : Value → Shared → Prop} {s : Shared} {t : Addr} {items : Array Value} {x : Int} {u : Tok} {Q : Value → Shared → Prop} (ht : IsTup s.heap t items) (hi : IntsAre items.toList [9, 32]) (hb : isBlank x = true) (h : Q (.bool false) s) :
    wpAny (model prog w) A (compareOp .NotIn (.int x u) (.ref t)) Q E s := by
  refine notin_tuple_ints ht hi ?_
  have e : (!([9, 32] : List Int).any (· == x)) = false := by
    have := blank_is hb
    rcases this with rfl | rfl <;> rfl
  rw [e]; exact h
end
/-! part slice -/
section
variable {w : World} {mean : ExcName → Option Value} {mg mb : Str → Option Value} {dp un : Nat} {gd : Option (List Code)} {cn : Str} {cs : Scope} {a : Addr} {ccd : Value} {cl : List (Str × Addr)} {outer : List Env} {A₀ : Around} {base h₀ : Heap} {L : Addr} {m : Str → Option Value} {s : Shared} {Q E : Value → Shared → Prop}

theorem my_run {vs : List Value} {ns : List Int} {x y : Int} (hi : IntsAre vs ns) (h : 0 ≤ x) (h2 : 0 ≤ y) : IntsAre (slicePick vs.toArray (some x) (some y) none).toList ((ns.take y.toNat).drop x.toNat) := by
  have e := kmk_run hi h h2
  have e2 : (ns.drop x.toNat).take (min y.toNat ns.length - x.toNat) = (ns.take y.toNat).drop x.toNat := by
    rw [List.drop_take]
    by_cases hy : y.toNat ≤ ns.length
    · rw [Nat.min_eq_left hy]
    · rw [Nat.min_eq_right (by omega), List.take_of_length_le (by rw [List.length_drop]; omega), List.take_of_length_le (by rw [List.length_drop]; omega)]
  rw [← e2]
  exact e
theorem my_slice {prog : Program} {A : Around} {news : List (Addr × Obj)} {value slice : PySem.Expr} {l : Addr} {vs : List Value} {ns ms : List Int} {nn : Nat} {vl vu : Value} {lo hi : Option Int}
    (F : Fr h₀ L s.heap m) (N : News h₀ L s.heap news) (hm : (l, listOf vs.toArray nn) ∈ news) (hi' : IntsAre vs ns) (hz : ns.length ≤ 1000) (pl : IsPart vl lo) (pu : IsPart vu hi) (hms : IntsAre (slicePick vs.toArray lo hi none).toList ms)
    (h : ∀ D ws js h', js = ms → js.length ≤ ns.length → js.length ≤ 1000 → IntsAre ws js → (∀ p ∈ news, p.1 < D) → Fr h₀ L h' m → News h₀ L h' ((D, listOf (List.toArray ws) 0) :: news) → Q (.ref D) { s with heap := h' })
    (hs : subscripted slice false (.ref l) (.ref s.heap.objs.size) = operate [.ref s.heap.objs.size, .ref l] (getItem (.ref l) (.ref s.heap.objs.size))) (ht : ∀ r, letTemporaryGo value (.ref l) r = pure ()) :
    wpAny (model prog w) A (subscriptTail value slice (.ref l) (.ref s.heap.objs.size)) Q E { s with heap := s.heap.push { cls := .type "slice", data := .fields #[vl, vu, .none] } } :=
  kmk_slice_ints F N (News.isList N hm) pl pu hi' hms rfl (fun D ws h' F' N' l1 hI _ hL => h D ws ms h' rfl hL (Nat.le_trans hL hz) hI l1 F' N') hs ht (kmk_sz hi' (by rw [PySem.sizeLine_eq]; omega))
theorem my_add {prog : Program} {A : Around} {news : List (Addr × Obj)} {a b : Addr} {vs ws : List Value} {ns ms : List Int} {n1 n2 : Nat}
    (F : Fr h₀ L s.heap m) (N : News h₀ L s.heap news) (ha : (a, listOf vs.toArray n1) ∈ news) (hb : (b, listOf ws.toArray n2) ∈ news) (hi : IntsAre vs ns) (hj : IntsAre ws ms) (hz : ns.length + ms.length ≤ 1000)
    (h : ∀ D us js h', js = ns ++ ms → js.length = ns.length + ms.length → js.length ≤ 1000 → IntsAre us js → (∀ p ∈ news, p.1 < D) → Fr h₀ L h' m → News h₀ L h' ((D, listOf (List.toArray us) 0) :: news) → Q (.ref D) { s with heap := h' }) :
    wpAny (model prog w) A (binaryOp .Add (.ref a) (.ref b)) Q E s :=
  kmk_add_ints F N (News.isList N ha) (News.isList N hb) hi hj (fun D us h' F' N' l1 hI => h D us _ h' rfl (List.length_append ..) (by rw [List.length_append]; exact hz) hI l1 F' N') (by rw [PySem.sizeLine_eq]; omega)
end
/-! part plain -/
section
variable {w : World} {mean : ExcName → Option Value} {mg mb : Str → Option Value} {dp un : Nat} {gd : Option (List Code)} {cn : Str} {cs : Scope} {a : Addr} {ccd : Value} {cl : List (Str × Addr)} {outer : List Env} {A₀ : Around} {base h₀ : Heap} {L : Addr} {m : Str → Option Value} {s : Shared} {Q E : Value → Shared → Prop}

theorem colF_append (w k : Int) (a b : List Int) : colF w k (a ++ b) = colF w (colF w k a) b := List.foldl_append
theorem colF_spaces (w : Int) : ∀ (n : Nat) (k : Int), colF w k (List.replicate n 32) = k + (n : Int)
  | 0, k => by show k = _; omega
  | n + 1, k => by
    rw [List.replicate_succ]
    show colF w (if (32 : Int) = 10 then 0 else k + widthAt 32 k w) (List.replicate n 32) = _
    rw [if_neg (by decide), colF_spaces w n]
    have : widthAt 32 k w = 1 := by unfold widthAt; rw [if_neg (by decide), if_neg (by decide), if_neg (by decide)]
    omega
theorem tab_next {k w : Int} (hw : 0 < w) : k + (w - Int.fmod k w) = (Int.fdiv k w + 1) * w ∧ Int.fdiv (k + (w - Int.fmod k w)) w = Int.fdiv k w + 1 := by
  have h := Int.mul_fdiv_add_fmod k w
  have e : k + (w - Int.fmod k w) = (Int.fdiv k w + 1) * w := by
    rw [Int.add_mul, Int.one_mul, Int.mul_comm]
    omega
  exact ⟨e, by rw [e, Int.fdiv_eq_ediv_of_nonneg _ (Int.le_of_lt hw)]; exact Int.mul_ediv_cancel _ (Int.ne_of_gt hw)⟩
theorem colF_tabs {w : Int} (hw : 0 < w) : ∀ (n : Nat) (k : Int), colF w k (List.replicate (n + 1) 9) = (Int.fdiv k w + ((n : Int) + 1)) * w := by
  have one : ∀ (k : Int) (l : List Int), colF w k (9 :: l) = colF w (k + (w - Int.fmod k w)) l := fun k l => by
    show colF w (if (9 : Int) = 10 then 0 else k + widthAt 9 k w) l = _
    rw [if_neg (by decide)]
    unfold widthAt
    rw [if_pos rfl]
  intro n
  induction n with
  | zero =>
    intro k
    rw [List.replicate_succ, one, (tab_next hw).1]
    show _ = (_ + ((0 : Nat) + 1)) * w
    simp [colF]
  | succ n ih =>
    intro k
    rw [List.replicate_succ, one, ih, (tab_next hw).2]
    congr 1
    omega
theorem colF_blanks {w col want : Int} {tabs : Bool} (hw : 0 < w) : colF w col (blanksTo col want w tabs) = if col < want then want else col := by
  unfold blanksTo
  split
  · rename_i h
    have h2 : tabs = true ∧ col < want := by
      unfold tabsTo at h
      split at h
      · assumption
      · omega
    have e : tabsTo col want w tabs = Int.fdiv want w - Int.fdiv col w := by unfold tabsTo; rw [if_pos h2]
    rw [e] at h ⊢
    obtain ⟨n, hn⟩ : ∃ n : Nat, (Int.fdiv want w - Int.fdiv col w).toNat = n + 1 := ⟨(Int.fdiv want w - Int.fdiv col w).toNat - 1, by omega⟩
    have hm := Int.fmod_nonneg_of_pos want hw
    rw [hn, colF_append, colF_tabs hw, colF_spaces, if_pos h2.2, show Int.fdiv col w + ((n : Int) + 1) = Int.fdiv want w by omega, Int.mul_comm]
    have := Int.mul_fdiv_add_fmod want w
    omega
  · rw [colF_spaces]
    split <;> omega
theorem take_app {a b : List Int} {n : Nat} (h : n = a.length) : (a ++ b).take n = a := by subst h; exact List.take_left' rfl
/-- the first n signs of what was made, the fresh ones' m among them -/
theorem made_take {ns fr : List Int} {k m : Nat} {b : Nat} {tl : List Int} (hk : k ≤ ns.length) (hb : b ≤ k) (hm : m ≤ fr.length) : (((ns.take k ++ fr) ++ tl).take (k + m)).drop b = ((ns.take k).drop b) ++ fr.take m := by
  have h1 : (ns.take k).length = k := by rw [List.length_take]; omega
  rw [List.append_assoc, List.take_append, h1, List.take_of_length_le (by omega), show k + m - k = m by omega, List.drop_append_of_le_length (by omega), List.take_append_of_le_length hm]
def SpotB (ns : List Int) (w col b q : Int) : Prop := ∀ j, b ≤ j → j < q → cT ns w b j < col
theorem spotB_start {ns : List Int} {w col b : Int} : SpotB ns w col b b := fun j a b => by omega
theorem spotB_step {ns : List Int} {w col b q : Int} (h : SpotB ns w col b q) (hc : cT ns w b q < col) : SpotB ns w col b (q + 1) := fun j a b => by
  rcases Int.lt_or_eq_of_le (show j ≤ q by omega) with h1 | h1
  · exact h j a h1
  · subst h1; exact hc
theorem spotB_step2 {ns js : List Int} {w col b q : Int} (h : SpotB ns w col b q) (e : js = (ns.take (q - 1).toNat).drop (b - 1).toNat) (hc : colF w 0 js < col) : SpotB ns w col b (q + 1) := spotB_step h (by subst e; exact hc)
theorem isf_facts {ns jm jc jr fr : List Int} {w col p q st en th : Int} {tabs : Bool} (hw : 0 < w) (hw9 : w ≤ 9) (hp0 : 1 ≤ p) (hp1 : p ≤ 1 + (ns.length : Int)) (hc0 : 0 ≤ col) (hf : Forced ns w col p tabs st en fr th)
    (hb : lineStart ns p ≤ q) (hl : q ≤ lineEnd ns p) (hS : SpotB ns w col (lineStart ns p) q) (hx : ¬ q < lineEnd ns p ∨ ¬ cT ns w (lineStart ns p) q < col)
    (em : jm = (ns.take (st - 1).toNat ++ fr) ++ ns.drop (en - 1).toNat) (ec : jc = (jm.take (th - 1).toNat).drop (lineStart ns p - 1).toNat) (er : jr = (ns.take (q - 1).toNat).drop (lineStart ns p - 1).toNat) :
    (colF w 0 jr < col ∧ colF w 0 jc = col ∧ ∀ js, js = (jm.take (st - 1 + (fr.length : Int)).toNat).drop (lineStart ns p - 1).toNat → colF w 0 js = col) ∨
    (col < colF w 0 jr ∧ ns.getD (q - 2).toNat 0 = 9 ∧ 2 ≤ q ∧ colF w 0 jc = col ∧ st = q - 1 ∧ en = q ∧ ∀ js, js = (jm.take (st - 1 + (fr.length : Int)).toNat).drop (lineStart ns p - 1).toNat → colF w 0 js = colF w 0 jr) ∨
    (col < colF w 0 jr ∧ ns.getD (q - 2).toNat 0 ≠ 9 ∧ 2 ≤ q ∧ colF w 0 jc = colF w 0 jr ∧ th = q ∧ fr = [] ∧ st = en ∧ ∀ js, js = (jm.take (st - 1 + (fr.length : Int)).toNat).drop (lineStart ns p - 1).toNat → colF w 0 js = colF w 0 jr) ∨
    (colF w 0 jr = col ∧ colF w 0 jc = colF w 0 jr ∧ th = q ∧ fr = [] ∧ st = en ∧ ∀ js, js = (jm.take (st - 1 + (fr.length : Int)).toNat).drop (lineStart ns p - 1).toNat → colF w 0 js = colF w 0 jr) := by
  obtain ⟨q', R, hS', e, h⟩ := hf
  have eR : cT ns w (lineStart ns p) q = colF w 0 jr := by rw [er]; rfl
  have hq : IsSpot ns w col p q := ⟨⟨hb, hl⟩, hS, hx.imp (by omega) (by omega)⟩
  have := spot_one hS' hq
  subst this
  rw [eR] at e
  subst e
  have hB := spot_bound hw hw9 hp0 hp1 hc0 hq
  have hs := lineStart_ge ns p
  have hle := le_bounds hp0 hp1
  rw [eR] at hB
  rcases h with ⟨ha, rfl, rfl, hfr, hth⟩ | ⟨ha, hc, hst, rfl, hfr, hth⟩ | ⟨ha, hc, rfl, rfl, rfl, rfl⟩
  · -- filled up
    have key : colF w 0 (((ns.take (en - 1).toNat ++ fr ++ ns.drop (en - 1).toNat).take ((en - 1).toNat + fr.length)).drop (lineStart ns p - 1).toNat) = col := by
      rw [made_take (by omega) (by omega) (Nat.le_refl _), List.take_of_length_le (Nat.le_refl _), colF_append, ← er, hfr, colF_blanks hw, if_pos ha]
    refine .inl ⟨ha, ?_, fun js hj => ?_⟩
    · rw [ec, em, show (th - 1).toNat = (en - 1).toNat + fr.length by omega]; exact key
    · rw [hj, em, show (en - 1 + (fr.length : Int)).toNat = (en - 1).toNat + fr.length by omega]; exact key
  · -- a tab that is cut
    have h2 := hB.2.2.2.2 ha
    have hK : cT ns w (lineStart ns p) (en - 1) < col := hS (en - 1) (by omega) (by omega)
    have hK0 : 0 ≤ cT ns w (lineStart ns p) (en - 1) := cT_nonneg hw
    have eK : colF w 0 ((ns.take (en - 2).toNat).drop (lineStart ns p - 1).toNat) = cT ns w (lineStart ns p) (en - 1) := by unfold cT; congr 2; congr 1; omega
    refine .inr (.inl ⟨ha, ?_, by omega, ?_, hst, rfl, fun js hj => ?_⟩)
    · rw [← codeAt_get2 (by omega) (by omega)]; exact hc
    · rw [ec, em, hst, show (en - 1 - 1).toNat = (en - 2).toNat by omega, show (th - 1).toNat = (en - 2).toNat + (col - cT ns w (lineStart ns p) (en - 1)).toNat by omega,
        made_take (by omega) (by omega) (by rw [hfr, List.length_append, List.length_replicate]; omega), hfr, take_app (by rw [List.length_replicate]), colF_append, colF_spaces, eK]
      omega
    · rw [hj, em, hst, show (en - 1 - 1).toNat = (en - 2).toNat by omega, show (en - 1 - 1 + (fr.length : Int)).toNat = (en - 2).toNat + fr.length by omega,
        made_take (by omega) (by omega) (Nat.le_refl _), List.take_of_length_le (Nat.le_refl _), colF_append, eK, hfr, colF_append, colF_spaces,
        show cT ns w (lineStart ns p) (en - 1) + ((col - cT ns w (lineStart ns p) (en - 1)).toNat : Int) = col by omega, colF_blanks hw, if_pos ha]
  · -- nothing
    have key : jm = ns := by rw [em, List.append_nil]; exact List.take_append_drop _ _
    have e1 : jc = jr := by rw [ec, er, key]
    have e2 : ∀ js, js = (jm.take (th - 1 + (([] : List Int).length : Int)).toNat).drop (lineStart ns p - 1).toNat → colF w 0 js = colF w 0 jr := fun js hj => by
      rw [hj, er, key, show (th - 1 + (([] : List Int).length : Int)).toNat = (th - 1).toNat by simp]
    by_cases h3 : col < colF w 0 jr
    · have h2 := hB.2.2.2.2 h3
      refine .inr (.inr (.inl ⟨h3, fun h9 => hc ⟨h3, ?_⟩, by omega, by rw [e1], rfl, rfl, rfl, e2⟩))
      rw [codeAt_get2 (by omega) (by omega)]; exact h9
    · exact .inr (.inr (.inr ⟨by omega, by rw [e1], rfl, rfl, rfl, e2⟩))
theorem isf_cut {ns jm jc jr fr : List Int} {w col p q st en th : Int} {tabs : Bool} (hw : 0 < w) (hw9 : w ≤ 9) (hp0 : 1 ≤ p) (hp1 : p ≤ 1 + (ns.length : Int)) (hc0 : 0 ≤ col) (hf : Forced ns w col p tabs st en fr th)
    (hb : lineStart ns p ≤ q) (hl : q ≤ lineEnd ns p) (hS : SpotB ns w col (lineStart ns p) q) (hx : ¬ q < lineEnd ns p ∨ ¬ cT ns w (lineStart ns p) q < col)
    (em : jm = (ns.take (st - 1).toNat ++ fr) ++ ns.drop (en - 1).toNat) (ec : jc = (jm.take (th - 1).toNat).drop (lineStart ns p - 1).toNat) (er : jr = (ns.take (q - 1).toNat).drop (lineStart ns p - 1).toNat) {P : Prop} (k : ((colF w 0 jr < col ∧ colF w 0 jc = col ∧ ∀ js, js = (jm.take (st - 1 + (fr.length : Int)).toNat).drop (lineStart ns p - 1).toNat → colF w 0 js = col) ∨
    (col < colF w 0 jr ∧ ns.getD (q - 2).toNat 0 = 9 ∧ 2 ≤ q ∧ colF w 0 jc = col ∧ st = q - 1 ∧ en = q ∧ ∀ js, js = (jm.take (st - 1 + (fr.length : Int)).toNat).drop (lineStart ns p - 1).toNat → colF w 0 js = colF w 0 jr) ∨
    (col < colF w 0 jr ∧ ns.getD (q - 2).toNat 0 ≠ 9 ∧ 2 ≤ q ∧ colF w 0 jc = colF w 0 jr ∧ th = q ∧ fr = [] ∧ st = en ∧ ∀ js, js = (jm.take (st - 1 + (fr.length : Int)).toNat).drop (lineStart ns p - 1).toNat → colF w 0 js = colF w 0 jr) ∨
    (colF w 0 jr = col ∧ colF w 0 jc = colF w 0 jr ∧ th = q ∧ fr = [] ∧ st = en ∧ ∀ js, js = (jm.take (st - 1 + (fr.length : Int)).toNat).drop (lineStart ns p - 1).toNat → colF w 0 js = colF w 0 jr)) → (col < colF w 0 jr → 2 ≤ q) → (col < colF w 0 jr → ns.getD (q - 2).toNat 0 = 9 → [st, en] = [q - 1, q]) → (∀ js, js = (jm.take (st - 1 + (fr.length : Int)).toNat).drop (lineStart ns p - 1).toNat → (colF w 0 js == if col > colF w 0 jr then col else colF w 0 jr) = true) → P) : P := by
  have H := isf_facts hw hw9 hp0 hp1 hc0 hf hb hl hS hx em ec er
  refine k H (fun h => ?_) (fun h h9 => ?_) (fun js hj => beq_iff_eq.mpr ?_)
  · rcases H with ⟨h1, _⟩ | ⟨_, _, h1, _⟩ | ⟨_, _, h1, _⟩ | ⟨h1, _⟩
    · omega
    · exact h1
    · exact h1
    · omega
  · rcases H with ⟨h1, _⟩ | ⟨_, _, _, _, h1, h2, _⟩ | ⟨_, h1, _⟩ | ⟨h1, _⟩
    · omega
    · rw [h1, h2]
    · exact absurd h9 h1
    · omega
  · rcases H with ⟨h1, _, h2⟩ | ⟨h1, _, _, _, _, _, h2⟩ | ⟨h1, _, _, _, _, _, _, h2⟩ | ⟨h1, _, _, _, _, h2⟩
    · rw [h2 js hj, if_pos h1]
    · rw [h2 js hj, if_neg (by omega)]
    · rw [h2 js hj, if_neg (by omega)]
    · rw [h2 js hj, if_neg (by omega)]
end
/-! part cut -/
section
variable {w : World} {mean : ExcName → Option Value} {mg mb : Str → Option Value} {dp un : Nat} {gd : Option (List Code)} {cn : Str} {cs : Scope} {a : Addr} {ccd : Value} {cl : List (Str × Addr)} {outer : List Env} {A₀ : Around} {base h₀ : Heap} {L : Addr} {m : Str → Option Value} {s : Shared} {Q E : Value → Shared → Prop}

/-- what a test hands on: the frame and the ledger as they stood, and what its value says -/
def CutEnd (h₀ : Heap) (L : Addr) (m : Str → Option Value) (news : List (Addr × Obj)) (s : Shared) (PT PF : Prop) (b : Bool) (s' : Shared) : Prop :=
  ∃ h' tk', s' = { s with heap := h', toks := tk' } ∧ Fr h₀ L h' m ∧ News h₀ L h' news ∧ if b = true then PT else PF
theorem cut_t {PT PF : Prop} {news : List (Addr × Obj)} {h' : Heap} {tk' : Nat} (F : Fr h₀ L h' m) (N : News h₀ L h' news) (h : PT) : CutEnd h₀ L m news s PT PF true { s with heap := h', toks := tk' } := ⟨h', tk', rfl, F, N, h⟩
theorem cut_f {PT PF : Prop} {news : List (Addr × Obj)} {h' : Heap} {tk' : Nat} (F : Fr h₀ L h' m) (N : News h₀ L h' news) (h : PF) : CutEnd h₀ L m news s PT PF false { s with heap := h', toks := tk' } := ⟨h', tk', rfl, F, N, h⟩
theorem cut_and {M : Model} {A : Around} {T : Sem Bool} {Q : Bool → Shared → Prop} {news : List (Addr × Obj)} {PT PF : Prop} (_ : Fr h₀ L s.heap m) (_ : News h₀ L s.heap news)
    (h : wpAny M A T (CutEnd h₀ L m news s PT PF) E s)
    (ht : ∀ h' tk', Fr h₀ L h' m → News h₀ L h' news → PT → Q true { s with heap := h', toks := tk' }) (hf : ∀ h' tk', Fr h₀ L h' m → News h₀ L h' news → PF → Q false { s with heap := h', toks := tk' }) : wpAny M A T Q E s :=
  wpAny_mono h (fun b s' ⟨h', tk', e, F, N, hb⟩ => by
    subst e
    cases b with
    | true => exact ht h' tk' F N hb
    | false => exact hf h' tk' F N hb) fun _ _ e => e
theorem cut_spot {ns : List Int} {w col p q : Int} {M : Model} {A : Around} {T : Sem Bool} {Q : Bool → Shared → Prop} {news : List (Addr × Obj)} (_ : SpotB ns w col (lineStart ns p) q) (F : Fr h₀ L s.heap m) (N : News h₀ L s.heap news)
    (h : wpAny M A T (CutEnd h₀ L m news s (q < lineEnd ns p ∧ cT ns w (lineStart ns p) q < col) (¬ q < lineEnd ns p ∨ ¬ cT ns w (lineStart ns p) q < col)) E s)
    (ht : ∀ h' tk', Fr h₀ L h' m → News h₀ L h' news → q < lineEnd ns p → cT ns w (lineStart ns p) q < col → Q true { s with heap := h', toks := tk' }) (hf : ∀ h' tk', Fr h₀ L h' m → News h₀ L h' news → ¬ q < lineEnd ns p ∨ ¬ cT ns w (lineStart ns p) q < col → Q false { s with heap := h', toks := tk' }) : wpAny M A T Q E s :=
  cut_and F N h (fun h' tk' F N h => ht h' tk' F N h.1 h.2) hf
theorem cut_false {M : Model} {A : Around} {T : Sem Bool} {Q : Bool → Shared → Prop} (h : wpAny M A T (fun b s' => b = false ∧ ∃ tk, s' = { s with toks := tk }) E s) (h2 : ∀ tk, Q false { s with toks := tk }) : wpAny M A T Q E s :=
  wpAny_mono h (fun b s' ⟨e, tk, e'⟩ => by subst e; subst e'; exact h2 tk) fun _ _ e => e
/-- what a statement that falls through hands on -/
def NextEnd (h₀ : Heap) (L : Addr) (m : Str → Option Value) (news : List (Addr × Obj)) (s : Shared) (b : Flow) (s' : Shared) : Prop :=
  b = Flow.next ∧ ∃ h' tk', s' = { s with heap := h', toks := tk' } ∧ Fr h₀ L h' m ∧ News h₀ L h' news
theorem next_end {news : List (Addr × Obj)} {h' : Heap} {tk' : Nat} (F : Fr h₀ L h' m) (N : News h₀ L h' news) : NextEnd h₀ L m news s Flow.next { s with heap := h', toks := tk' } := ⟨rfl, h', tk', rfl, F, N⟩
theorem cut_next {M : Model} {A : Around} {T : Sem Flow} {Q : Flow → Shared → Prop} {news : List (Addr × Obj)} (_ : Fr h₀ L s.heap m) (_ : News h₀ L s.heap news) (h : wpAny M A T (NextEnd h₀ L m news s) E s) (h2 : ∀ h' tk', Fr h₀ L h' m → News h₀ L h' news → Q Flow.next { s with heap := h', toks := tk' }) : wpAny M A T Q E s :=
  wpAny_mono h (fun b s' ⟨e, h', tk', e', F, N⟩ => by subst e; subst e'; exact h2 h' tk' F N) fun _ _ e => e
theorem ite_yes {c : Prop} [Decidable c] {P R : Prop} (h : c) (k : P) : if c then P else R := by rw [if_pos h]; exact k
theorem js_cT {ns js : List Int} {w b q c : Int} (h : colF w 0 js < c) (e : js = (ns.take (q - 1).toNat).drop (b - 1).toNat) : cT ns w b q < c := by subst e; exact h
theorem js_cT' {ns js : List Int} {w b q c : Int} (h : ¬ colF w 0 js < c) (e : js = (ns.take (q - 1).toNat).drop (b - 1).toNat) : ¬ cT ns w b q < c := by subst e; exact h
end
/-! part isf -/
section
variable {w : World} {mean : ExcName → Option Value} {mg mb : Str → Option Value} {dp un : Nat} {gd : Option (List Code)} {cn : Str} {cs : Scope} {a : Addr} {ccd : Value} {cl : List (Str × Addr)} {outer : List Env} {A₀ : Around} {base h₀ : Heap} {L : Addr} {m : Str → Option Value} {s : Shared} {Q E : Value → Shared → Prop}

theorem no_tab {ns fr : List Int} {w col p st en th : Int} {tabs : Bool} (h : Forced ns w col p tabs st en fr th) (ht : tabs = false) (ha : (fr.any fun x => x == 9) = true) : False := by
  obtain ⟨x, hx, e⟩ := List.any_eq_true.mp ha
  have := forced_notab h ht x hx
  subst this
  exact absurd e (by decide)
theorem c_isf {lc : Addr} {vs : List Value} {ns : List Int} {nn : Nat} {rest : List (Addr × Obj)} {p col wd : Int} {tabs : Bool} {t0 t1 t2 : Tok} (m3 : (lc, listOf vs.toArray nn) ∈ rest) (hi : IntsAre vs ns) (hz : ns.length ≤ 100) (hp0 : 1 ≤ p) (hp1 : p ≤ 1 + (ns.length : Int)) (hw : 0 < wd) (hw9 : wd ≤ 9) (hc0 : 0 ≤ col) (hc1 : col ≤ 50)
  (B : Below A₀ base outer h₀) (F : Fr h₀ L s.heap m) (X : (hd.heap_39 w.params).In h₀) (N : News h₀ L s.heap (rest)) (T : TopP mean mg mb h₀) (hk : cs.kind = .function) (hdp : dp + 30 < recursionLimit) (hun : un + 400 < cLine)
  (hret : Rt h₀ L m rest s Q (fun _ => .bool true)) :
  wpAny (model PP w) (ktrTop dp un gd cn cs L a ccd cl outer) (call (.ref 159) [.ref lc, .int p t0, .int col t1, .int wd t2, .bool tabs]) Q E s := by
  k_with_none
  k_with "k_upd" => first | (refine' Cut.head ?aZ9; (case aZ9 => k_all)) | (refine' Cut.tail ?aZ9 ?bZ9; (case aZ9 => k_ne); (case bZ9 => k_upd))
  k_with "k_all" => with_reducible assumption
  k_with "k_ne" => (refine neN ?_; (try dsimp only); as_aux_lemma => first | with_reducible assumption | (apply ne_here; (iterate 24 (try (first | with_reducible assumption | apply and_rest))); done) | (apply ne_back; (iterate 24 (try (first | with_reducible assumption | apply and_rest))); done) | (apply ne_low; (iterate 24 (try (first | with_reducible assumption | apply and_rest))); done) | (apply ne_high; (iterate 24 (try (first | with_reducible assumption | apply and_rest))); done) | fail)
  k_with "call ref" => (k_here; (with_reducible show wpAny _ _ (call (Value.ref 147) _) _ _ _); k_dflt (refine' c_law_column ?m3Z9 ?hiZ9 ?hzZ9 ?hwZ9 ?kBZ9 ?kFZ9 ?kXZ9 ?kNZ9 ?kTZ9 ?kKZ9 ?kdZ9 ?kuZ9 ?_; (case kNZ9 => k_asm); (case kBZ9 => k_asm); (case kFZ9 => k_asm); (case kXZ9 => k_asm); (case kTZ9 => k_asm); (case kKZ9 => first | exact rfl | assumption); (case kdZ9 => first | (rename _ + _ < recursionLimit => hd9; exact room_1 hd9 (by decide)) | ktr_room); (case kuZ9 => first | (rename _ + _ < cLine => hu9; exact room_3 hu9 (by decide)) | ktr_units); (case m3Z9 => k_mem); (case hiZ9 => l_ints); (case hzZ9 => first | assumption | omega); (case hwZ9 => first | assumption | omega); k_whole); intro t9 h9 tk9 F9 N9; (try dsimp only); (try k_sweep); (try k_fold))
  k_with "call ref" => (k_here; (with_reducible show wpAny _ _ (call (Value.ref 43) _) _ _ _); k_dflt (refine' c_of_codes ?m3Z9 ?hiZ9 ?hzZ9 ?hwZ9 ?kBZ9 ?kFZ9 ?kXZ9 ?kNZ9 ?kTZ9 ?kKZ9 ?kdZ9 ?kuZ9 ?_; (case kNZ9 => k_asm); (case kBZ9 => k_asm); (case kFZ9 => k_asm); (case kXZ9 => k_asm); (case kTZ9 => k_asm); (case kKZ9 => first | exact rfl | assumption); (case kdZ9 => first | (rename _ + _ < recursionLimit => hd9; exact room_1 hd9 (by decide)) | ktr_room); (case kuZ9 => first | (rename _ + _ < cLine => hu9; exact room_3 hu9 (by decide)) | ktr_units); (case m3Z9 => k_mem); (case hiZ9 => l_ints); (case hzZ9 => first | assumption | omega); (case hwZ9 => first | assumption | omega); k_whole); intro t9 h9 tk9 F9 N9; (try dsimp only); (try k_sweep); (try k_fold))
  k_with "call ref" => (k_here; (with_reducible show wpAny _ _ (call (Value.ref 154) _) _ _ _); k_dflt (refine' c_law_line ?m3Z9 ?hiZ9 ?hzZ9 ?hp0Z9 ?hp1Z9 ?kBZ9 ?kFZ9 ?kXZ9 ?kNZ9 ?kTZ9 ?kKZ9 ?kdZ9 ?kuZ9 ?_; (case kNZ9 => k_asm); (case kBZ9 => k_asm); (case kFZ9 => k_asm); (case kXZ9 => k_asm); (case kTZ9 => k_asm); (case kKZ9 => first | exact rfl | assumption); (case kdZ9 => first | (rename _ + _ < recursionLimit => hd9; exact room_1 hd9 (by decide)) | ktr_room); (case kuZ9 => first | (rename _ + _ < cLine => hu9; exact room_3 hu9 (by decide)) | ktr_units); (case m3Z9 => k_mem); (case hiZ9 => l_ints); (case hzZ9 => first | assumption | omega); (case hp0Z9 => first | assumption | omega); (case hp1Z9 => first | assumption | omega); k_whole); intro r9 z8 z9 l9 h9 tk9 F9 N9; (try k_lt l9); (try dsimp only); (try k_sweep); (try k_fold))
  k_with "call ref" => (k_here; (with_reducible show wpAny _ _ (call (Value.ref 78) _) _ _ _); k_dflt (refine' c_forced ?m1Z9 ?m2Z9 ?m3Z9 ?hiZ9 ?hzZ9 ?hp0Z9 ?hp1Z9 ?hwZ9 ?hw9Z9 ?hc0Z9 ?hc1Z9 ?kBZ9 ?kFZ9 ?kXZ9 ?kNZ9 ?kTZ9 ?kKZ9 ?kdZ9 ?kuZ9 ?_; (case kNZ9 => k_asm); (case kBZ9 => k_asm); (case kFZ9 => k_asm); (case kXZ9 => k_asm); (case kTZ9 => k_asm); (case kKZ9 => first | exact rfl | assumption); (case kdZ9 => first | (rename _ + _ < recursionLimit => hd9; exact room_1 hd9 (by decide)) | ktr_room); (case kuZ9 => first | (rename _ + _ < cLine => hu9; exact room_3 hu9 (by decide)) | ktr_units); (case m1Z9 => k_mem); (case m2Z9 => k_mem); (case m3Z9 => k_mem); (case hiZ9 => l_ints); (case hzZ9 => first | assumption | omega); (case hp0Z9 => first | assumption | omega); (case hp1Z9 => first | assumption | omega); (case hwZ9 => first | assumption | omega); (case hw9Z9 => first | assumption | omega); (case hc0Z9 => first | assumption | omega); (case hc1Z9 => first | assumption | omega); k_whole); intro st9 en9 th9 fr9 vs9 n9 r9 tt9 c9 y7 y8 y9 fo9 i9 l9 la9 lb9 h9 tk9 F9 N9; (try k_lt l9); (try k_lt2 la9); (try k_lt2 lb9); (have ff9 := forced_facts (by first | assumption | omega) (by first | assumption | omega) (by first | assumption | omega) (by first | assumption | omega) (by first | assumption | omega) (by first | assumption | omega) fo9); (obtain ⟨fa9, fb9, fc9, fd9, fe9, ff9, fg9, fh9, fi9⟩ := ff9); (have fj9 := forced_blank fo9); (try dsimp only); (try k_sweep); (try k_fold))
  k_with "subscriptTail Name Slice ref ref" => (k_here; (with_reducible show wpAny _ _ (subscriptTail _ (PySem.Expr.Slice _ _ none _) (Value.ref _) (Value.ref _)) _ _ _); k_dflt (refine' my_slice ?FZ9 ?NZ9 ?mZ9 ?iZ9 ?zZ9 ?pZ9 ?qZ9 ?eZ9 ?_ ?sZ9 ?tZ9; (case FZ9 => k_asm); (case NZ9 => k_asm); (case mZ9 => k_mem); (case iZ9 => l_ints); (case zZ9 => first | assumption | omega); (case pZ9 => kmk_part); (case qZ9 => kmk_part); (case eZ9 => first | exact kmk_upto (by l_ints) (by omega) | exact kmk_from (by l_ints) (by omega) | exact my_run (by l_ints) (by omega) (by omega)); (case sZ9 => with_unfolding_all rfl); (case tZ9 => kmk_pure)); intro D9 ws9 js9 h9 je9 jz9 jb9 ji9 l9 F9 N9; (try k_lt l9); (try dsimp only); (try k_sweep); (try k_fold))
  k_with "binaryOp Add ref ref" => (k_here; (with_reducible show wpAny _ _ (binaryOp _ (Value.ref _) (Value.ref _)) _ _ _); k_dflt (refine' my_add ?FZ9 ?NZ9 ?aZ9 ?bZ9 ?iZ9 ?jZ9 ?zZ9 ?_; (case FZ9 => k_asm); (case NZ9 => k_asm); (case aZ9 => k_mem); (case bZ9 => k_mem); (case iZ9 => l_ints); (case jZ9 => l_ints); (case zZ9 => first | assumption | omega)); intro D9 us9 js9 h9 je9 jz9 jb9 ji9 l9 F9 N9; (try k_lt l9); (try dsimp only); (try k_sweep); (try k_fold))
  k_with "kst_in" => ((try dsimp only); k_dflt (exact fun _ hp => hp))
  k_with "isTrue BoolOp And" => (k_here; plain_pass; (fail_if_success with_reducible show wpAny _ _ _ (CutEnd _ _ _ _ _ _ _) _ _); (rename SpotB _ _ _ _ _ => hS9); (rename Fr _ _ _ _ => F9); (rename News _ _ _ _ => N9); k_dflt (refine' cut_spot hS9 F9 N9 ?walkZ9 ?_ ?_); (case walkZ9 => k_steps; all_goals (first | exact cut_f (by assumption) (by assumption) (.inl (by assumption)) | exact cut_t (by assumption) (led_tail (by assumption)) ⟨by assumption, js_cT (by assumption) (by assumption)⟩ | exact cut_f (by assumption) (led_tail (by assumption)) (.inr (js_cT' (by assumption) (by assumption))))); (intro h9 tk9 F9 N9 hb9; (try intro hc9); (try dsimp only); (try k_sweep); (try k_fold)))
  k_with "testChain" => (k_here; k_dflt (refine' test_link ?_))
  k_with "eval ListComp" => (k_here; k_dflt (refine LCt.ListComp_T (F₀ := by k_asm) (by with_unfolding_all rfl) (by decide) (by rfl) (by decide) (by rfl) ?_))
  k_with "CompSrcT" => (k_here; k_dflt (refine LCt.CompSrcT.ledger (by rfl) (by k_asm) (by k_asm) (by k_mem) (by (rw [PySem.sizeLine_eq]; (have hl9 := IntsAre.length (by assumption)); simp only [List.size_toArray]; omega)) ?_; intro g'; (refine' comp_none (by assumption) (fun k' t' I' oI' C' oC' D' m' h' tk' E' hk' hC' hx' F' N' off' ne' => ?_) ?_); (try k_fold)))
  k_with "compareOp NotIn int ref" => (k_here; k_dflt (refine' notin_blank (News.isTup ?k1Z9 ?k2Z9) ?k3Z9 ?k4Z9 ?_; (case k1Z9 => k_asm); (case k2Z9 => k_mem); (case k3Z9 => exact .cons _ _ (.cons _ _ .nil)); (case k4Z9 => first | assumption | (rename ∀ k ∈ _, isBlank k = true => hbl9; exact hbl9 _ (by assumption)))))
  k_with "CompEnd" => (k_here; k_dflt (refine' LCg.CompEnd.intro ?FZ9 ?NZ9 _ ?uZ9 ?oZ9 ?SZ9 rfl; (case FZ9 => k_asm); (case NZ9 => k_asm); (case uZ9 => kst_in); (case oZ9 => k_asm); (case SZ9 => lcg_src)))
  k_with "execs cons" => (k_here; (rename Forced _ _ _ _ _ _ _ _ _ => fo9); (rename lineEnd _ _ ≤ _ => hL9); (rename ((_ : Nat) < _) ∧ _ => z9; clear z9); (repeat (rename ((_ : Nat) < _) ∧ _ => z9; clear z9)); (repeat (rename ((_ : Nat) ≠ _) ∧ _ => z9; clear z9)))
  k_with "isTrue BoolOp And" => (k_here; plain_pass; (fail_if_success with_reducible show wpAny _ _ _ (fun b s' => b = false ∧ _) _ _); (rename Forced _ _ _ _ _ _ _ _ _ => fo9); (with_reducible show wpAny _ _ (PySem.isTrue (PySem.Expr.BoolOp _ [PySem.Expr.Compare (PySem.Expr.Constant (PySem.Const.int 9) _ _) _ _ _, _] _) _ _) _ _ _); refine' cut_false ?walkZ9 ?_; (case walkZ9 => k_steps; all_goals (first | exact ⟨rfl, _, rfl⟩ | exact (no_tab fo9 (by assumption) (by assumption)).elim)); intro tk9; (try dsimp only); (try k_fold))
  k_with "exec If BoolOp cons cons" => (k_here; (rename SpotB _ _ _ _ _ => hS9); (rename Forced _ _ _ _ _ _ _ _ _ => fo9); (rename Fr _ _ _ _ => F9); (rename News _ _ _ _ => N9); (refine' isf_cut ?hwZ9 ?hw9Z9 ?hp0Z9 ?hp1Z9 ?hc0Z9 fo9 ?hbZ9 ?hlZ9 hS9 ?hxZ9 ?emZ9 ?ecZ9 ?erZ9 ?_; (case hwZ9 => assumption); (case hw9Z9 => assumption); (case hp0Z9 => assumption); (case hp1Z9 => assumption); (case hc0Z9 => assumption); (case hbZ9 => assumption); (case hlZ9 => assumption); (case ecZ9 => assumption); (case erZ9 => assumption); (case emZ9 => subst_vars; rfl); (case hxZ9 => assumption)); clear hS9 fo9; intro hf9 hg1 hg2 hg3; refine' cut_next F9 N9 ?walkZ9 ?_; (case walkZ9 => clear hg1 hg2 hg3; rcases hf9 with ⟨hf1, hf2, hf3⟩ | ⟨hf1, hf2, hf3, hf4, hf5, hf6, hf7⟩ | ⟨hf1, hf2, hf3, hf4, hf5, hf6, hf7, hf8⟩ | ⟨hf1, hf2, hf3, hf4, hf5, hf6⟩; all_goals k_steps; all_goals (first | exact next_end (by assumption) (by (rename News _ _ _ _ => N9); first | exact N9 | exact led_tail N9 | exact led_tail (led_tail N9)) | (exfalso; first | contradiction | ((rename ¬ ([_, _] : List Int) = [_, _] => hx9); (rename _ → _ → ([_, _] : List Int) = [_, _] => hy9); exact hx9 (hy9 (by assumption) (by assumption)))))); clear hf9; intro h9 tk9 F9 N9; (try dsimp only); (try k_sweep); (try k_fold))
  k_with "exec If BoolOp cons nil" => (k_here; (fail_if_success with_reducible show wpAny _ _ _ (NextEnd _ _ _ _ _) _ _); (rename _ → _ → ([_, _] : List Int) = [_, _] => hy9); (rename Fr _ _ _ _ => F9); (rename News _ _ _ _ => N9); refine' cut_next F9 N9 ?walkZ9 ?_; (case walkZ9 => k_steps; all_goals (first | exact next_end (by assumption) (by (rename News _ _ _ _ => N9); first | exact N9 | exact led_tail N9 | exact led_tail (led_tail N9)) | (exfalso; first | contradiction | ((rename ¬ ([_, _] : List Int) = [_, _] => hx9); (rename _ → _ → ([_, _] : List Int) = [_, _] => hy9); exact hx9 (hy9 (by assumption) (by assumption)))))); intro h9 tk9 F9 N9; (try dsimp only); (try k_sweep); (try k_fold))
  k_with "ite" => (k_here; (with_reducible show if ((colF _ 0 _ : Int) == if (_ : Int) > _ then _ else _) = true then _ else _); (rename ∀ js : List Int, js = _ → (colF _ _ js == _) = true => hx9); (have hy9 := hx9 _ (by assumption)); (refine ite_yes hy9 ?_))
  k_with "exec While BoolOp cons nil" => k_while_given ["codes", "begin", "last", "column", "width"] (fun ns b l col w _ q => b ≤ q ∧ q ≤ l ∧ SpotB ns w col b q) (fun _ _ l _ _ _ q => (l - q).toNat) "spot"
  k_with "state" => first
    | exact ⟨by omega, by omega, spotB_step (by assumption) (by assumption)⟩
    | exact ⟨Int.le_refl _, by omega, spotB_start⟩
  replace N := led_add N m3 N
  clear m3
  refine wpAny_call ?_
  k_dflt ktr_enter
  k_steps
  refine' cb_retB hret ?e ?F ?N; (case e => assumption); (case F => assumption); (case N => (rename News _ _ _ _ => N9); (repeat replace N9 := led_tail N9); exact N9)
end
/-! part codes -/
section
variable {w : World} {mean : ExcName → Option Value} {mg mb : Str → Option Value} {dp un : Nat} {gd : Option (List Code)} {cn : Str} {cs : Scope} {a : Addr} {ccd : Value} {cl : List (Str × Addr)} {outer : List Env} {A₀ : Around} {base h₀ : Heap} {L : Addr} {m : Str → Option Value} {s : Shared} {Q E : Value → Shared → Prop}

theorem deck_made {vs : List Value} {ns : List Int} (h : IntsAre vs (List.map (fun k' : Int => (if k' < 0 then -k' else k').fmod (10 ^ Int.toNat 16)) (List.take 16 ns))) : ∃ ms, IntsAre vs ms ∧ DeckOk ms := by
  refine ⟨_, h, by rw [List.length_map, List.length_take]; omega, fun v hv => ?_⟩
  obtain ⟨k, _, rfl⟩ := List.mem_map.mp hv
  have e : (10 : Int) ^ Int.toNat 16 = 10 ^ 16 := rfl
  rw [e]
  exact ⟨Int.fmod_nonneg_of_pos _ (by decide), Int.fmod_lt_of_pos _ (by decide)⟩
theorem len_100 {n : Nat} {k : Int} (h : n = (k - 0).toNat) (hk : k < 14) : n ≤ 100 := by omega
theorem len_1000 {n : Nat} (h : n ≤ 100) : n ≤ 1000 := Nat.le_trans h (by decide)
theorem cell_some {o : Obj} {v : Option Value} (h : o.data = Data.cell v) : ∃ v₀, o.data = Data.cell v₀ := ⟨v, h⟩
/-- nothing else of the ledger stands at the deck's address -/
def DeckOff (d : Addr) (pre post : List (Addr × Obj)) : Prop := (∀ p ∈ pre, p.1 ≠ d) ∧ ∀ p ∈ post, p.1 ≠ d
theorem cut_of {d : Addr} {o : Obj} {l pre post : List (Addr × Obj)} (h : DeckOff d pre post) (e : l = pre ++ (d, o) :: post) : Cut d o l pre post := by
  have key : ∀ pre : List (Addr × Obj), (∀ p ∈ pre, p.1 ≠ d) → Cut d o (pre ++ (d, o) :: post) pre post := by
    intro pre
    induction pre with
    | nil => intro _; exact .head h.2
    | cons p pre ih => intro hp; exact .tail (hp p (.head _)) (ih fun q hq => hp q (.tail _ hq))
  rw [e]
  exact key pre h.1
theorem off3_swap {I C D d : Addr} {o o' : Obj} {pre post : List (Addr × Obj)} (h : LCg.Off3 I C D (pre ++ (d, o) :: post)) : LCg.Off3 I C D (pre ++ (d, o') :: post) := by
  refine LCg.Off3.of fun p hp => ?_
  rcases List.mem_append.mp hp with hp | hp
  · exact h.mem p (List.mem_append.mpr (.inl hp))
  · rcases List.mem_cons.mp hp with rfl | hp
    · exact h.mem (d, o) (List.mem_append.mpr (.inr (.head _)))
    · exact h.mem p (List.mem_append.mpr (.inr (.tail _ hp)))
def TurnEnd (h₀ : Heap) (L : Addr) (m : Str → Option Value) (s₁ : Shared) (I : Addr) (oI : Obj) (C : Addr) (oC : Obj) (D : Addr) (oD : Obj) (d : Addr) (pre post : List (Addr × Obj)) (y : Value) (s₂ : Shared) : Prop :=
  ∃ h' tk k t vs ns nn, s₂ = { s₁ with heap := h', toks := tk } ∧ y = .int k t ∧ IntsAre vs ns ∧ DeckOk ns ∧ Fr h₀ L h' m ∧ News h₀ L h' ((I, oI) :: (C, oC) :: (D, oD) :: (pre ++ (d, listOf vs.toArray nn) :: post))
theorem turn_end {I C D d : Addr} {oI oC oD : Obj} {pre post : List (Addr × Obj)} {h' : Heap} {tk : Nat} {k : Int} {t : Tok} {vs : List Value} {ns : List Int} {nn : Nat} (F : Fr h₀ L h' m) (N : News h₀ L h' ((I, oI) :: (C, oC) :: (D, oD) :: (pre ++ (d, listOf vs.toArray nn) :: post))) (hi : IntsAre vs ns) (ho : DeckOk ns) :
    TurnEnd h₀ L m s I oI C oC D oD d pre post (.int k t) { s with heap := h', toks := tk } := ⟨h', tk, k, t, vs, ns, nn, rfl, rfl, hi, ho, F, N⟩
theorem codes_turns {prog : Program} {A : Around} {env : Env} {elt : PySem.Expr} {x : Str} {scope : Scope} {P : Nat → Value → Prop} {Fin : List Value → List (Addr × Obj) → Prop} {n : Nat} {d : Addr} {pre post news : List (Addr × Obj)} {vs : List Value} {ns : List Int} {nn : Nat}
    (hi : IntsAre vs ns) (hok : DeckOk ns) (_ : (d, listOf vs.toArray nn) ∈ news) (hU : Cut d (listOf vs.toArray nn) news pre post)
    (turn : ∀ I oI C oC D m₂ h tk ys vs ns nn (E' : Value → Shared → Prop), IntsAre vs ns → DeckOk ns → Fr h₀ L h m → LCg.NsObj oC m₂ → News h₀ L h ((I, oI) :: (C, oC) :: (D, LCg.lst ys) :: (pre ++ (d, listOf vs.toArray nn) :: post)) → DeckOff d ((I, oI) :: (C, oC) :: (D, LCg.lst ys) :: pre) post →
      wpAny (model prog w) A (eval elt (compEnvC scope cl C env)) (TurnEnd h₀ L m { s with heap := h, toks := tk } I oI C oC D (LCg.lst ys) d pre post) E' { s with heap := h, toks := tk })
    (fin : ∀ ys cs vs ns nn, IntsAre ys cs → cs.length = n → IntsAre vs ns → DeckOk ns → Fin ys (pre ++ (d, listOf vs.toArray nn) :: post)) :
    LCg.CompRest prog w A h₀ L m env elt x scope cl s (fun _ => True) P Fin n 0 [] news := by
  have key : ∀ j i ys cs vs ns nn, i + j = n → IntsAre ys cs → cs.length = i → IntsAre vs ns → DeckOk ns → LCg.CompRest prog w A h₀ L m env elt x scope cl s (fun _ => True) P Fin j i ys (pre ++ (d, listOf vs.toArray nn) :: post) := by
    intro j
    induction j with
    | zero => intro i ys cs vs ns nn e hy hl hi ho; exact LCg.CompRest.zero (fin ys cs vs ns nn hy (by omega) hi ho)
    | succ j ih =>
      intro i ys cs vs ns nn e hy hl hi ho
      refine LCg.CompRest.succ fun v I oI C oC D m₂ h tk E' _ hC _ F N off ne => ?_
      have hof : DeckOff d ((I, oI) :: (C, oC) :: (D, LCg.lst ys) :: pre) post := by
        have hd := off.mem (d, listOf vs.toArray nn) (List.mem_append.mpr (.inr (.head _)))
        exact ⟨List.forall_mem_cons.mpr ⟨Ne.symm hd.1, List.forall_mem_cons.mpr ⟨Ne.symm hd.2.1, List.forall_mem_cons.mpr ⟨Ne.symm hd.2.2, hU.eq.2.1⟩⟩⟩, hU.eq.2.2⟩
      refine wpAny_mono (turn I oI C oC D m₂ h tk ys vs ns nn E' hi ho F hC N hof) (fun y s₂ hq => ?_) fun _ _ e => e
      obtain ⟨h', tk', k, t, vs', ns', nn', rfl, rfl, hi', ho', F', N'⟩ := hq
      exact LCg.CompEnd.intro F' N' _ (fun _ hp => hp) (off3_swap off) trivial (ih (i + 1) _ (cs ++ [k]) vs' ns' nn' (by omega) (hy.append (.cons k t .nil)) (by rw [List.length_append, hl]; rfl) hi' ho')
  rw [hU.eq.1]
  exact key n 0 [] [] vs ns nn (by omega) .nil rfl hi hok
end
/-! part lline2 -/
section
variable {w : World} {mean : ExcName → Option Value} {mg mb : Str → Option Value} {dp un : Nat} {gd : Option (List Code)} {cn : Str} {cs : Scope} {a : Addr} {ccd : Value} {cl : List (Str × Addr)} {outer : List Env} {A₀ : Around} {base h₀ : Heap} {L : Addr} {m : Str → Option Value} {s : Shared} {Q E : Value → Shared → Prop}

theorem c_law_line2 {lc : Addr} {vs : List Value} {ns : List Int} {nn : Nat} {rest : List (Addr × Obj)} {p : Int} {t1 : Tok} (m3 : (lc, listOf vs.toArray nn) ∈ rest) (hi : IntsAre vs ns) (hz : ns.length ≤ 1000) (hp0 : 1 ≤ p) (hp1 : p ≤ 1 + (ns.length : Int))
  (B : Below A₀ base outer h₀) (F : Fr h₀ L s.heap m) (X : (hd.heap_39 w.params).In h₀) (N : News h₀ L s.heap (rest)) (T : TopP mean mg mb h₀) (hk : cs.kind = .function) (hdp : dp + 12 < recursionLimit) (hun : un + 120 < cLine)
  (hret : 1 ≤ lineStart ns p → lineStart ns p ≤ p → p ≤ lineEnd ns p → lineEnd ns p ≤ 1 + (ns.length : Int) → ∀ (r : Addr) (z1 z2 : Tok), (∀ q ∈ rest, q.1 < r) → ∀ (h' : Heap) (tk' : Nat), Fr h₀ L h' m → News h₀ L h' ((r, { cls := Value.type "tuple", data := Data.seq #[Value.int (lineStart ns p) z1, Value.int (lineEnd ns p) z2] }) :: rest) → Q (.ref r) { s with heap := h', toks := tk' }) :
  wpAny (model PP w) (ktrTop dp un gd cn cs L a ccd cl outer) (call (.ref 154) [.ref lc, .int p t1]) Q E s :=
  let b := le_bounds hp0 hp1
  c_law_line m3 hi hz hp0 hp1 B F X N T hk hdp hun (hret (lineStart_ge ns p) (lineStart_le hp0) b.1 b.2)
end
/-! part facts -/
section
variable {w : World} {mean : ExcName → Option Value} {mg mb : Str → Option Value} {dp un : Nat} {gd : Option (List Code)} {cn : Str} {cs : Scope} {a : Addr} {ccd : Value} {cl : List (Str × Addr)} {outer : List Env} {A₀ : Around} {base h₀ : Heap} {L : Addr} {m : Str → Option Value} {s : Shared} {Q E : Value → Shared → Prop}

theorem col_eq {ns js : List Int} {K w b p : Int} (e : K = cT ns w b p) (je : js = (ns.take (p - 1).toNat).drop (b - 1).toNat) : ¬ ((K != colF w 0 js) = true) := by
  have h : K = colF w 0 js := by rw [je]; exact e
  rw [h, bne_self_eq_false]
  decide
theorem place_eq {ns js : List Int} {w col p q b : Int} (hI : IsSpot ns w col p q) (hb : lineStart ns p ≤ b) (hl : b ≤ lineEnd ns p) (hS : SpotB ns w col (lineStart ns p) b) (hx : ¬ b < lineEnd ns p ∨ ¬ cT ns w (lineStart ns p) b < col) (je : js = (ns.take (b - 1).toNat).drop (lineStart ns p - 1).toNat) :
    ¬ ((!(q == b && cT ns w (lineStart ns p) q == colF w 0 js)) = true) := by
  have e : q = b := spot_one hI ⟨⟨hb, hl⟩, hS, hx.imp (by omega) (by omega)⟩
  subst e
  have e2 : cT ns w (lineStart ns p) q = colF w 0 js := by rw [je]; rfl
  rw [e2, beq_self_eq_true, beq_self_eq_true]
  decide
def stopF (w f : Int) (l : List Int) : Int := l.foldl (fun k c => k + widthAt c k w) f
theorem stopF_snoc (w f : Int) (l : List Int) (c : Int) : stopF w f (l ++ [c]) = stopF w f l + widthAt c (stopF w f l) w := by simp [stopF, List.foldl_append]
/-- the end of the bare loop is the first place that is no blank -/
theorem bare_end {ns : List Int} {p b : Int} (h0 : 1 ≤ p) (h3 : p ≤ 1 + (ns.length : Int)) (hl : b ≤ lineEnd ns p) (hx : ¬ b < lineEnd ns p ∨ ¬ Blank (codeAt ns b)) : ¬ Blank (codeAt ns b) := by
  rcases hx with hx | hx
  · have e : b = lineEnd ns p := by omega
    have hbd := le_bounds h0 h3
    intro hB
    have hr := blank_room hB
    have key := lineEnd_code h0 h3 (by rw [← e]; exact hr)
    rw [← e] at key
    rcases blank_is hB with h | h <;> omega
  · exact hx
theorem bare_eq {ns js : List Int} {w p q b : Int} (je : js = (ns.take (b - 1).toNat).drop (lineStart ns p - 1).toNat) (h0 : 1 ≤ p) (h3 : p ≤ 1 + (ns.length : Int)) (hq : lineStart ns p ≤ q) (hB : BareTo ns (lineStart ns p) q) (hE : ¬ Blank (codeAt ns q)) (hb : lineStart ns p ≤ b) (hl : b ≤ lineEnd ns p) (hB' : BareTo ns (lineStart ns p) b) (hx : ¬ b < lineEnd ns p ∨ ¬ Blank (codeAt ns b)) :
    ¬ ((cT ns w (lineStart ns p) q != colF w 0 js) = true) := by
  have e := bare_one hq hb hB hB' hE (bare_end h0 h3 hl hx)
  subst e
  exact col_eq rfl je
theorem with_off {news pre post : List (Addr × Obj)} {h : Heap} {d : Addr} {vs : List Value} {ns : List Int} {nn : Nat} {P : Prop} (_ : DeckOk ns) (_ : IntsAre vs ns) (_ : News h₀ L h news) (_ : (d, listOf vs.toArray nn) ∈ news) (hU : Cut d (listOf vs.toArray nn) news pre post) (k : DeckOff d pre post → P) : P := k hU.eq.2
theorem stopF_blank (w : Int) : ∀ (l : List Int) (f : Int), (∀ k ∈ l, isBlank k = true) → stopF w f l = colF w f l
  | [], _, _ => rfl
  | c :: l, f, h => by
    show stopF w (f + widthAt c f w) l = colF w (if c = 10 then 0 else f + widthAt c f w) l
    have hc : c ≠ 10 := by
      have := blank_is (h c (.head _))
      omega
    rw [if_neg hc]
    exact stopF_blank w l _ fun k hk => h k (.tail _ hk)
theorem stop_eq {w f c x : Int} {tabs : Bool} {bl : List Int} (e : x = stopF w f bl) (be : bl = blanksTo f c w tabs) (hw : 0 < w) : ¬ ((x != if c > f then c else f) = true) := by
  have h : x = if c > f then c else f := by
    rw [e, stopF_blank w bl f (by rw [be]; exact blanksTo_blank), be, colF_blanks hw]
  rw [h, bne_self_eq_false]
  decide
theorem count_rep (a b : Nat) : List.count 9 (List.replicate a (9 : Int) ++ List.replicate b 32) = a := by
  rw [List.count_append, List.count_replicate, List.count_replicate]
  simp
theorem blanks_count {w f c : Int} {tabs : Bool} {bl : List Int} (be : bl = blanksTo f c w tabs) (hw : 0 < w) :
    List.count 9 bl ≤ bl.length ∧ bl = List.replicate (List.count 9 bl) 9 ++ List.replicate (bl.length - List.count 9 bl) 32 ∧ (tabs = false → List.count 9 bl = 0) ∧ (tabs = true → f < c → (List.count 9 bl : Int) = Int.fdiv c w - Int.fdiv f w) := by
  have key : ∃ a b : Nat, bl = List.replicate a 9 ++ List.replicate b 32 ∧ (tabs = false → a = 0) ∧ (tabs = true → f < c → (a : Int) = Int.fdiv c w - Int.fdiv f w) := by
    unfold blanksTo at be
    split at be
    · rename_i h
      refine ⟨_, _, be, fun ht => ?_, fun ht hc => ?_⟩
      · unfold tabsTo at h
        rw [if_neg (by rw [ht]; exact fun h => absurd h.1 (by decide))] at h
        exact absurd h (by decide)
      · unfold tabsTo at h ⊢
        rw [if_pos ⟨ht, hc⟩] at h ⊢
        omega
    · rename_i h
      refine ⟨0, _, by rw [be]; rfl, fun _ => rfl, fun ht hc => ?_⟩
      unfold tabsTo at h
      rw [if_pos ⟨ht, hc⟩] at h
      have := Int.ediv_le_ediv hw (Int.le_of_lt hc)
      rw [← Int.fdiv_eq_ediv_of_nonneg _ (Int.le_of_lt hw), ← Int.fdiv_eq_ediv_of_nonneg _ (Int.le_of_lt hw)] at this
      omega
  obtain ⟨a, b, e, h1, h2⟩ := key
  have hc : List.count 9 bl = a := by rw [e]; exact count_rep a b
  have hl : bl.length = a + b := by rw [e, List.length_append, List.length_replicate, List.length_replicate]
  rw [hc]
  refine ⟨by omega, ?_, h1, h2⟩
  rw [hl, show a + b - a = b by omega]
  exact e
theorem flat_of {k n : Nat} {c : Int} (h : k = n) : (List.replicate k [c]).flatten = List.replicate n c := by rw [h, flat_one]
theorem list_eq {bl js : List Int} {n m : Nat} (h : bl = List.replicate n 9 ++ List.replicate m 32) {x y : List Int} (ej : js = x ++ y) (ex : x = List.replicate n 9) (ey : y = List.replicate m 32) : ¬ ((!decide (bl = js)) = true) := by
  have e : bl = js := by rw [h, ej, ex, ey]
  rw [decide_eq_true e]
  decide
theorem in_blanks2 {prog : Program} {w : World} {A : Around} {E : Value → Shared → Prop} {s : Shared} {t : Addr} {items : Array Value} {x : Int} {u : Tok} {Q : Value → Shared → Prop} (ht : IsTup s.heap t items) (hi : IntsAre items.toList [9, 32]) (h : Q (.bool (isBlank x)) s) :
    wpAny (model prog w) A (compareOp .In (.int x u) (.ref t)) Q E s := by
  refine in_tuple_ints ht hi ?_
  have e : ([9, 32] : List Int).any (· == x) = isBlank x := by
    simp only [isBlank, List.any_cons, List.any_nil, Bool.or_false, Bool.beq_comm (a := x)]
    exact Bool.or_comm _ _
  rw [e]; exact h
theorem blank_yes {ns : List Int} {b : Int} (h1 : 1 ≤ b) (h2 : b < 1 + (ns.length : Int)) (h : isBlank (ns.getD (b - 1).toNat 0) = true) : Blank (codeAt ns b) := by rw [codeAt_get h1 h2]; exact h
theorem blank_no {ns : List Int} {b : Int} (h1 : 1 ≤ b) (h2 : b < 1 + (ns.length : Int)) (h : isBlank (ns.getD (b - 1).toNat 0) = false) : ¬ Blank (codeAt ns b) := by
  rw [codeAt_get h1 h2]
  intro hb
  rw [Blank, h] at hb
  cases hb
theorem cut_bare {ns : List Int} {p q : Int} {M : Model} {A : Around} {T : Sem Bool} {Q : Bool → Shared → Prop} {news : List (Addr × Obj)} (_ : BareTo ns (lineStart ns p) q) (F : Fr h₀ L s.heap m) (N : News h₀ L s.heap news)
    (h : wpAny M A T (CutEnd h₀ L m news s (q < lineEnd ns p ∧ Blank (codeAt ns q)) (¬ q < lineEnd ns p ∨ ¬ Blank (codeAt ns q))) E s)
    (ht : ∀ h' tk', Fr h₀ L h' m → News h₀ L h' news → q < lineEnd ns p → Blank (codeAt ns q) → Q true { s with heap := h', toks := tk' }) (hf : ∀ h' tk', Fr h₀ L h' m → News h₀ L h' news → ¬ q < lineEnd ns p ∨ ¬ Blank (codeAt ns q) → Q false { s with heap := h', toks := tk' }) : wpAny M A T Q E s :=
  cut_and F N h (fun h' tk' F N h => ht h' tk' F N h.1 h.2) hf
end
/-! part law -/
section
variable {w : World} {mean : ExcName → Option Value} {mg mb : Str → Option Value} {dp un : Nat} {gd : Option (List Code)} {cn : Str} {cs : Scope} {a : Addr} {ccd : Value} {cl : List (Str × Addr)} {outer : List Env} {A₀ : Around} {base h₀ : Heap} {L : Addr} {m : Str → Option Value} {s : Shared} {Q E : Value → Shared → Prop}

theorem law_holds : PySem.Challenge.rw_pq0344_01.Holds := hd (by
  k_with_none
  k_with "k_upd" => first | (refine' Cut.head ?aZ9; (case aZ9 => k_all)) | (refine' Cut.tail ?aZ9 ?bZ9; (case aZ9 => k_ne); (case bZ9 => k_upd))
  k_with "k_all" => with_reducible assumption
  k_with "k_ne" => (refine neN ?_; (try dsimp only); as_aux_lemma => first | with_reducible assumption | (apply ne_here; (iterate 24 (try (first | with_reducible assumption | apply and_rest))); done) | (apply ne_back; (iterate 24 (try (first | with_reducible assumption | apply and_rest))); done) | (apply ne_low; (iterate 24 (try (first | with_reducible assumption | apply and_rest))); done) | (apply ne_high; (iterate 24 (try (first | with_reducible assumption | apply and_rest))); done) | fail)
  k_with "call ref" => (k_here; (with_reducible show wpAny _ _ (call (Value.ref 133) _) _ _ _); k_dflt (refine' c_draw ?hiZ9 ?hokZ9 ?hUZ9 ?hk0Z9 ?hk1Z9 ?kBZ9 ?kFZ9 ?kXZ9 ?kNZ9 ?kTZ9 ?kKZ9 ?kdZ9 ?kuZ9 ?_; (case kNZ9 => k_asm); (case kBZ9 => k_asm); (case kFZ9 => k_asm); (case kXZ9 => k_asm); (case kTZ9 => k_asm); (case kKZ9 => first | exact rfl | assumption); (case kdZ9 => first | (rename _ + _ < recursionLimit => hd9; exact room_1 hd9 (by decide)) | ktr_room); (case kuZ9 => first | (rename _ + _ < cLine => hu9; exact room_3 hu9 (by decide)) | ktr_units); (case hUZ9 => k_upd); (case hiZ9 => l_ints); (case hokZ9 => assumption); (case hk0Z9 => (first | assumption | omega)); (case hk1Z9 => (first | assumption | omega)); k_whole); intro r9 vs9 ns9 nn9 lo9 hi9 ia9 ok9 t9 h9 tk9 F9 N9; (try simp only [List.cons_append, List.nil_append] at N9); (try dsimp only); (try k_sweep); (try k_fold))
  k_with "call ref" => (k_here; (with_reducible show wpAny _ _ (call (Value.ref 140) _) _ _ _); k_dflt (refine' c_wide ?hwZ9 ?kBZ9 ?kFZ9 ?kXZ9 ?kNZ9 ?kTZ9 ?kKZ9 ?kdZ9 ?kuZ9 ?_; (case kNZ9 => k_asm); (case kBZ9 => k_asm); (case kFZ9 => k_asm); (case kXZ9 => k_asm); (case kTZ9 => k_asm); (case kKZ9 => first | exact rfl | assumption); (case kdZ9 => first | (rename _ + _ < recursionLimit => hd9; exact room_1 hd9 (by decide)) | ktr_room); (case kuZ9 => first | (rename _ + _ < cLine => hu9; exact room_3 hu9 (by decide)) | ktr_units); (case hwZ9 => first | assumption | omega); k_whole); intro t9 h9 tk9 F9 N9; (try dsimp only); (try k_sweep); (try k_fold))
  k_with "call ref" => (k_here; (with_reducible show wpAny _ _ (call (Value.ref 147) _) _ _ _); k_dflt (refine' c_law_column ?m3Z9 ?hiZ9 ?hzZ9 ?hwZ9 ?kBZ9 ?kFZ9 ?kXZ9 ?kNZ9 ?kTZ9 ?kKZ9 ?kdZ9 ?kuZ9 ?_; (case kNZ9 => k_asm); (case kBZ9 => k_asm); (case kFZ9 => k_asm); (case kXZ9 => k_asm); (case kTZ9 => k_asm); (case kKZ9 => first | exact rfl | assumption); (case kdZ9 => first | (rename _ + _ < recursionLimit => hd9; exact room_1 hd9 (by decide)) | ktr_room); (case kuZ9 => first | (rename _ + _ < cLine => hu9; exact room_3 hu9 (by decide)) | ktr_units); (case m3Z9 => k_mem); (case hiZ9 => l_ints); (case hzZ9 => first | assumption | omega); (case hwZ9 => first | assumption | omega); k_whole); intro t9 h9 tk9 F9 N9; (try dsimp only); (try k_sweep); (try k_fold))
  k_with "call ref" => (k_here; (with_reducible show wpAny _ _ (call (Value.ref 43) _) _ _ _); k_dflt (refine' c_of_codes ?m3Z9 ?hiZ9 ?hzZ9 ?hwZ9 ?kBZ9 ?kFZ9 ?kXZ9 ?kNZ9 ?kTZ9 ?kKZ9 ?kdZ9 ?kuZ9 ?_; (case kNZ9 => k_asm); (case kBZ9 => k_asm); (case kFZ9 => k_asm); (case kXZ9 => k_asm); (case kTZ9 => k_asm); (case kKZ9 => first | exact rfl | assumption); (case kdZ9 => first | (rename _ + _ < recursionLimit => hd9; exact room_1 hd9 (by decide)) | ktr_room); (case kuZ9 => first | (rename _ + _ < cLine => hu9; exact room_3 hu9 (by decide)) | ktr_units); (case m3Z9 => k_mem); (case hiZ9 => l_ints); (case hzZ9 => first | assumption | omega); (case hwZ9 => first | assumption | omega); k_whole); intro t9 h9 tk9 F9 N9; (try dsimp only); (try k_sweep); (try k_fold))
  k_with "call ref" => (k_here; (with_reducible show wpAny _ _ (call (Value.ref 50) _) _ _ _); k_dflt (refine' c_column_at2 ?m1Z9 ?m2Z9 ?m3Z9 ?hiZ9 ?hzZ9 ?hp0Z9 ?hp1Z9 ?hwZ9 ?hw9Z9 ?kBZ9 ?kFZ9 ?kXZ9 ?kNZ9 ?kTZ9 ?kKZ9 ?kdZ9 ?kuZ9 ?_; (case kNZ9 => k_asm); (case kBZ9 => k_asm); (case kFZ9 => k_asm); (case kXZ9 => k_asm); (case kTZ9 => k_asm); (case kKZ9 => first | exact rfl | assumption); (case kdZ9 => first | (rename _ + _ < recursionLimit => hd9; exact room_1 hd9 (by decide)) | ktr_room); (case kuZ9 => first | (rename _ + _ < cLine => hu9; exact room_3 hu9 (by decide)) | ktr_units); (case m1Z9 => k_mem); (case m2Z9 => k_mem); (case m3Z9 => k_mem); (case hiZ9 => l_ints); (case hzZ9 => first | assumption | omega); (case hp0Z9 => first | assumption | omega); (case hp1Z9 => first | assumption | omega); (case hwZ9 => first | assumption | omega); (case hw9Z9 => first | assumption | omega); k_whole); intro K9 e9 g9 u9 t9 h9 tk9 F9 N9; (try dsimp only); (try k_sweep); (try k_fold))
  k_with "call ref" => (k_here; (with_reducible show wpAny _ _ (call (Value.ref 57) _) _ _ _); k_dflt (refine' c_place_at ?m1Z9 ?m2Z9 ?m3Z9 ?hiZ9 ?hzZ9 ?hp0Z9 ?hp1Z9 ?hwZ9 ?kBZ9 ?kFZ9 ?kXZ9 ?kNZ9 ?kTZ9 ?kKZ9 ?kdZ9 ?kuZ9 ?_; (case kNZ9 => k_asm); (case kBZ9 => k_asm); (case kFZ9 => k_asm); (case kXZ9 => k_asm); (case kTZ9 => k_asm); (case kKZ9 => first | exact rfl | assumption); (case kdZ9 => first | (rename _ + _ < recursionLimit => hd9; exact room_1 hd9 (by decide)) | ktr_room); (case kuZ9 => first | (rename _ + _ < cLine => hu9; exact room_3 hu9 (by decide)) | ktr_units); (case m1Z9 => k_mem); (case m2Z9 => k_mem); (case m3Z9 => k_mem); (case hiZ9 => l_ints); (case hzZ9 => first | assumption | omega); (case hp0Z9 => first | assumption | omega); (case hp1Z9 => first | assumption | omega); (case hwZ9 => first | assumption | omega); k_whole); intro q9 s9 r9 z8 z9 l9 h9 tk9 F9 N9; (try k_lt l9); (try dsimp only); (try k_sweep); (try k_fold))
  k_with "call ref" => (k_here; (with_reducible show wpAny _ _ (call (Value.ref 64) _) _ _ _); k_dflt (refine' c_indent ?m1Z9 ?m2Z9 ?m3Z9 ?hiZ9 ?hzZ9 ?hp0Z9 ?hp1Z9 ?hwZ9 ?kBZ9 ?kFZ9 ?kXZ9 ?kNZ9 ?kTZ9 ?kKZ9 ?kdZ9 ?kuZ9 ?_; (case kNZ9 => k_asm); (case kBZ9 => k_asm); (case kFZ9 => k_asm); (case kXZ9 => k_asm); (case kTZ9 => k_asm); (case kKZ9 => first | exact rfl | assumption); (case kdZ9 => first | (rename _ + _ < recursionLimit => hd9; exact room_1 hd9 (by decide)) | ktr_room); (case kuZ9 => first | (rename _ + _ < cLine => hu9; exact room_3 hu9 (by decide)) | ktr_units); (case m1Z9 => k_mem); (case m2Z9 => k_mem); (case m3Z9 => k_mem); (case hiZ9 => l_ints); (case hzZ9 => first | assumption | omega); (case hp0Z9 => first | assumption | omega); (case hp1Z9 => first | assumption | omega); (case hwZ9 => first | assumption | omega); k_whole); intro q9 s9 b9 e9 t9 h9 tk9 F9 N9; (try dsimp only); (try k_sweep); (try k_fold))
  k_with "call ref" => (k_here; (with_reducible show wpAny _ _ (call (Value.ref 71) _) _ _ _); k_dflt (refine' c_blanks_to ?hwZ9 ?hw2Z9 ?hc0Z9 ?hc1Z9 ?hd0Z9 ?hd1Z9 ?kBZ9 ?kFZ9 ?kXZ9 ?kNZ9 ?kTZ9 ?kKZ9 ?kdZ9 ?kuZ9 ?_; (case kNZ9 => k_asm); (case kBZ9 => k_asm); (case kFZ9 => k_asm); (case kXZ9 => k_asm); (case kTZ9 => k_asm); (case kKZ9 => first | exact rfl | assumption); (case kdZ9 => first | (rename _ + _ < recursionLimit => hd9; exact room_1 hd9 (by decide)) | ktr_room); (case kuZ9 => first | (rename _ + _ < cLine => hu9; exact room_3 hu9 (by decide)) | ktr_units); (case hwZ9 => first | assumption | omega); (case hw2Z9 => first | assumption | omega); (case hc0Z9 => first | assumption | omega); (case hc1Z9 => first | assumption | omega); (case hd0Z9 => first | assumption | omega); (case hd1Z9 => first | assumption | omega); k_whole); intro r9 vs9 bl9 n9 be9 bz9 i9 l9 h9 tk9 F9 N9; (try k_lt l9); (try dsimp only); (try k_sweep); (try k_fold))
  k_with "subscriptTail Name Slice ref ref" => (k_here; (with_reducible show wpAny _ _ (subscriptTail _ (PySem.Expr.Slice _ _ none _) (Value.ref _) (Value.ref _)) _ _ _); k_dflt (refine' my_slice ?FZ9 ?NZ9 ?mZ9 ?iZ9 ?zZ9 ?pZ9 ?qZ9 ?eZ9 ?_ ?sZ9 ?tZ9; (case FZ9 => k_asm); (case NZ9 => k_asm); (case mZ9 => k_mem); (case iZ9 => l_ints); (case zZ9 => first | assumption | omega); (case pZ9 => kmk_part); (case qZ9 => kmk_part); (case eZ9 => first | exact kmk_upto (by l_ints) (by omega) | exact kmk_from (by l_ints) (by omega) | exact my_run (by l_ints) (by omega) (by omega)); (case sZ9 => with_unfolding_all rfl); (case tZ9 => kmk_pure)); intro D9 ws9 js9 h9 je9 jz9 jb9 ji9 l9 F9 N9; (try k_lt l9); (try dsimp only); (try k_sweep); (try k_fold))
  k_with "binaryOp Add ref ref" => (k_here; (with_reducible show wpAny _ _ (binaryOp _ (Value.ref _) (Value.ref _)) _ _ _); k_dflt (refine' my_add ?FZ9 ?NZ9 ?aZ9 ?bZ9 ?iZ9 ?jZ9 ?zZ9 ?_; (case FZ9 => k_asm); (case NZ9 => k_asm); (case aZ9 => k_mem); (case bZ9 => k_mem); (case iZ9 => l_ints); (case jZ9 => l_ints); (case zZ9 => first | assumption | omega)); intro D9 us9 js9 h9 je9 jz9 jb9 ji9 l9 F9 N9; (try k_lt l9); (try dsimp only); (try k_sweep); (try k_fold))
  k_with "kst_in" => ((try dsimp only); k_dflt (exact fun _ hp => hp))
  k_with "isTrue BoolOp And" => (k_here; plain_pass; (fail_if_success with_reducible show wpAny _ _ _ (CutEnd _ _ _ _ _ _ _) _ _); (rename SpotB _ _ _ _ _ => hS9); (rename Fr _ _ _ _ => F9); (rename News _ _ _ _ => N9); k_dflt (refine' cut_spot hS9 F9 N9 ?walkZ9 ?_ ?_); (case walkZ9 => k_steps; all_goals (first | exact cut_f (by assumption) (by assumption) (.inl (by assumption)) | exact cut_t (by assumption) (led_tail (by assumption)) ⟨by assumption, js_cT (by assumption) (by assumption)⟩ | exact cut_f (by assumption) (led_tail (by assumption)) (.inr (js_cT' (by assumption) (by assumption))))); (intro h9 tk9 F9 N9 hb9; (try intro hc9); (try dsimp only); (try k_sweep); (try k_fold)))
  k_with "call ref" => (k_here; (with_reducible show wpAny _ _ (call (Value.ref 159) _) _ _ _); k_dflt (refine' c_isf ?m3Z9 ?hiZ9 ?hzZ9 ?hp0Z9 ?hp1Z9 ?hwZ9 ?hw9Z9 ?hc0Z9 ?hc1Z9 ?kBZ9 ?kFZ9 ?kXZ9 ?kNZ9 ?kTZ9 ?kKZ9 ?kdZ9 ?kuZ9 ?_; (case kNZ9 => k_asm); (case kBZ9 => k_asm); (case kFZ9 => k_asm); (case kXZ9 => k_asm); (case kTZ9 => k_asm); (case kKZ9 => first | exact rfl | assumption); (case kdZ9 => first | (rename _ + _ < recursionLimit => hd9; exact room_1 hd9 (by decide)) | ktr_room); (case kuZ9 => first | (rename _ + _ < cLine => hu9; exact room_3 hu9 (by decide)) | ktr_units); (case m3Z9 => k_mem); (case hiZ9 => l_ints); (case hzZ9 => first | assumption | omega); (case hp0Z9 => first | assumption | omega); (case hp1Z9 => first | assumption | omega); (case hwZ9 => first | assumption | omega); (case hw9Z9 => first | assumption | omega); (case hc0Z9 => first | assumption | omega); (case hc1Z9 => first | assumption | omega); k_whole); intro t9 h9 tk9 F9 N9; (try dsimp only); (try k_sweep); (try k_fold))
  k_with "k_upd" => (rename DeckOff _ _ _ => hO9; exact cut_of hO9 rfl)
  k_with "call ref" => (k_here; (with_reducible show wpAny _ _ (call (Value.ref 133) _) _ _ _); (fail_if_success rename DeckOk _ => hx9); (rename IntsAre _ (List.map _ (List.take 16 _)) => hI9); (obtain ⟨ms9, hi9, ho9⟩ := deck_made hI9))
  k_with "CompSrc" => (k_here; (rename DeckOk _ => hD9); k_dflt (refine LCg.CompSrc.range (by rfl) (by k_asm) (by k_asm) (by assumption) (small_one (by omega) (by omega) (by omega) (by omega)) (rangeSize_nat _ _) ?hzZ9 ?_; (case hzZ9 => rw [PySem.sizeLine_eq]; omega)); intro g9; k_dflt (refine' codes_turns ?hiZ9 hD9 ?hmZ9 ?hUZ9 ?turnZ9 ?_; (case hiZ9 => assumption); (case hmZ9 => k_mem); (case hUZ9 => k_upd); (case turnZ9 => (clear hD9; intro I9 oI9 C9 oC9 D9 m9 h9 tk9 ys9 vs9 ns9 nn9 E9 hi9 hok9 F9 hC9 N9 off9; (simp only [List.cons_append, List.nil_append] at N9); (try k_sweep); k_steps; exact turn_end (by assumption) (by assumption) (by assumption) (by assumption)))); clear hD9; intro ys9 cs9 vs9 ns9 nn9 hi9 hl9 hv9 hok9; (have hA9 := len_100 hl9 (by assumption)); (have hB9 := len_1000 hA9); clear hl9; (simp only [List.cons_append, List.nil_append]))
  k_with "call ref" => (k_here; (with_reducible show wpAny _ _ (call (Value.ref 154) _) _ _ _); k_dflt (refine' c_law_line2 ?m3Z9 ?hiZ9 ?hzZ9 ?hp0Z9 ?hp1Z9 ?kBZ9 ?kFZ9 ?kXZ9 ?kNZ9 ?kTZ9 ?kKZ9 ?kdZ9 ?kuZ9 ?_; (case kNZ9 => k_asm); (case kBZ9 => k_asm); (case kFZ9 => k_asm); (case kXZ9 => k_asm); (case kTZ9 => k_asm); (case kKZ9 => first | exact rfl | assumption); (case kdZ9 => first | (rename _ + _ < recursionLimit => hd9; exact room_1 hd9 (by decide)) | ktr_room); (case kuZ9 => first | (rename _ + _ < cLine => hu9; exact room_3 hu9 (by decide)) | ktr_units); (case m3Z9 => k_mem); (case hiZ9 => l_ints); (case hzZ9 => first | assumption | omega); (case hp0Z9 => first | assumption | omega); (case hp1Z9 => first | assumption | omega); k_whole); intro fa9 fb9 fc9 fd9 r9 z8 z9 l9 h9 tk9 F9 N9; (try k_lt l9); (try dsimp only); (try k_sweep); (try k_fold))
  k_with "compareOp In int ref" => (k_here; k_dflt (refine' in_blanks2 (News.isTup ?k1Z9 ?k2Z9) ?k3Z9 ?_; (case k1Z9 => k_asm); (case k2Z9 => k_mem); (case k3Z9 => exact .cons _ _ (.cons _ _ .nil))))
  k_with "kst_inAny" => ((try dsimp only); k_dflt (exact fun _ hp => hp))
  k_with "isTrue BoolOp And" => (k_here; plain_pass; (fail_if_success with_reducible show wpAny _ _ _ (CutEnd _ _ _ _ _ _ _) _ _); (rename BareTo _ _ _ => hS9); (rename Fr _ _ _ _ => F9); (rename News _ _ _ _ => N9); k_dflt (refine' cut_bare hS9 F9 N9 ?walkZ9 ?_ ?_); (case walkZ9 => k_steps; all_goals (first | exact cut_f (by assumption) (by assumption) (.inl (by assumption)) | exact cut_t (by assumption) (led_tail (by assumption)) ⟨by assumption, blank_yes (by omega) (by omega) (by assumption)⟩ | exact cut_f (by assumption) (led_tail (by assumption)) (.inr (blank_no (by omega) (by omega) (by assumption))))); (intro h9 tk9 F9 N9 hb9; (try intro hc9); (try dsimp only); (try k_sweep); (try k_fold)))
  k_with "ite" => (k_here; (with_reducible show if ((_ : Int) != colF _ 0 _) = true then _ else _); first | (refine ite_neg (col_eq (by assumption) (by assumption)) ?_) | (refine ite_neg (bare_eq (by assumption) (by omega) (by omega) (by assumption) (by assumption) (by assumption) (by assumption) (by assumption) (by assumption) (by assumption)) ?_; (repeat (rename BareTo _ _ _ => z9; clear z9))))
  k_with "ite" => (k_here; (with_reducible show if (!((_ : Int) == _ && (_ : Int) == colF _ 0 _)) = true then _ else _); (rename IsSpot _ _ _ _ _ => hI9); (rename SpotB _ _ _ _ _ => hS9); (refine ite_neg (place_eq hI9 (by assumption) (by assumption) hS9 (by assumption) (by assumption)) ?_); clear hI9 hS9)
  k_with "execs cons" => (k_here; (rename lineEnd _ _ ≤ _ => hL9); (fail_if_success (rename _ = blanksTo _ _ _ _ => z9)); (rename News _ _ _ _ => N9); (fail_if_success (have z9 : News _ _ _ (_ :: (_, instObj 117 _) :: _) := N9)); (repeat ((fail_if_success (have z9 : News _ _ _ (_ :: (_, instObj 117 _) :: _) := N9)); (replace N9 := led_tail N9))))
  k_with "execs cons" => (k_here; (rename lineEnd _ _ ≤ _ => hL9); (fail_if_success (rename DeckOff _ _ _ => z9)); (rename News _ _ _ _ => N9); (repeat ((fail_if_success (have z9 : News _ _ _ (_ :: (_, instObj 117 _) :: _) := N9)); (replace N9 := led_tail N9))); (rename DeckOk _ => hD9); k_dflt (refine' with_off hD9 ?hiZ9 N9 ?hmZ9 ?hUZ9 ?_; (case hiZ9 => assumption); (case hmZ9 => k_mem); (case hUZ9 => k_upd)); intro hO9; (repeat (rename ((_ : Nat) < _) ∧ _ => z9; clear z9)); (repeat (rename ((_ : Nat) ≠ _) ∧ _ => z9; clear z9)); (repeat (rename (_ : Nat) < _ => z9; clear z9)))
  k_with "pyIter ref" => (k_here; (rename _ = blanksTo _ _ _ _ => be9); k_dflt (k_state_given ["width", "first"] (fun w f pre stop => stop = stopF w f pre) "stop"))
  k_with "ite" => (k_here; (with_reducible show if ((_ : Int) != if (_ : Int) > _ then _ else _) = true then _ else _); (rename _ = blanksTo _ _ _ _ => be9); (refine ite_neg (stop_eq (by assumption) be9 (by omega)) ?_))
  k_with "ite" => (k_here; (with_reducible show if (!decide ((_ : List Int) = _)) = true then _ else _); (rename _ = List.replicate _ 9 ++ List.replicate _ 32 => hcb9); (refine ite_neg (list_eq hcb9 (by assumption) (flat_of (Int.toNat_natCast _)) (flat_of (Int.toNat_sub _ _))) ?_))
  k_with "call builtin:list.count" => (k_here; (rename _ = blanksTo _ _ _ _ => be9); k_dflt (refine count_list_ints (by is_list) (by l_ints) ?_); obtain ⟨hca9, hcb9, hcc9, hcd9⟩ := blanks_count be9 (by omega))
  k_with "isTrue BoolOp And" => (k_here; plain_pass; (fail_if_success with_reducible show wpAny _ _ _ (fun b s' => b = false ∧ _) _ _); (rename _ = blanksTo _ _ _ _ => be9); (rename _ → List.count 9 _ = 0 => hcc9); (rename _ → _ → (List.count 9 _ : Int) = _ => hcd9); refine' cut_false ?walkZ9 ?_; (case walkZ9 => k_steps; all_goals (first | exact ⟨rfl, _, rfl⟩ | (exfalso; (have hx9 := hcc9 (by first | assumption | exact beq_eq_false_iff_ne.mpr (by assumption))); omega) | (exfalso; (have hx9 := hcd9 (by first | assumption | exact beq_iff_eq.mpr (by assumption)) (by assumption)); omega))); intro tk9; (try dsimp only); (try k_fold))
  k_with "call ref" => (k_here; (with_reducible show wpAny _ _ (call (Value.ref 57) _) _ _ _); k_dflt (refine' c_place_at ?m1Z9 ?m2Z9 ?m3Z9 ?hiZ9 ?hzZ9 ?hp0Z9 ?hp1Z9 ?hwZ9 ?kBZ9 ?kFZ9 ?kXZ9 ?kNZ9 ?kTZ9 ?kKZ9 ?kdZ9 ?kuZ9 ?_; (case kNZ9 => k_asm); (case kBZ9 => k_asm); (case kFZ9 => k_asm); (case kXZ9 => k_asm); (case kTZ9 => k_asm); (case kKZ9 => first | exact rfl | assumption); (case kdZ9 => first | (rename _ + _ < recursionLimit => hd9; exact room_1 hd9 (by decide)) | ktr_room); (case kuZ9 => first | (rename _ + _ < cLine => hu9; exact room_3 hu9 (by decide)) | ktr_units); (case m1Z9 => k_mem); (case m2Z9 => k_mem); (case m3Z9 => k_mem); (case hiZ9 => l_ints); (case hzZ9 => first | assumption | omega); (case hp0Z9 => first | assumption | omega); (case hp1Z9 => first | assumption | omega); (case hwZ9 => first | assumption | omega); k_whole); intro q9 s9 r9 z8 z9 l9 h9 tk9 F9 N9; (clear l9); (try dsimp only); (try k_sweep); (try k_fold))
  k_with "call ref" => (k_here; (with_reducible show wpAny _ _ (call (Value.ref 71) _) _ _ _); k_dflt (refine' c_blanks_to ?hwZ9 ?hw2Z9 ?hc0Z9 ?hc1Z9 ?hd0Z9 ?hd1Z9 ?kBZ9 ?kFZ9 ?kXZ9 ?kNZ9 ?kTZ9 ?kKZ9 ?kdZ9 ?kuZ9 ?_; (case kNZ9 => k_asm); (case kBZ9 => k_asm); (case kFZ9 => k_asm); (case kXZ9 => k_asm); (case kTZ9 => k_asm); (case kKZ9 => first | exact rfl | assumption); (case kdZ9 => first | (rename _ + _ < recursionLimit => hd9; exact room_1 hd9 (by decide)) | ktr_room); (case kuZ9 => first | (rename _ + _ < cLine => hu9; exact room_3 hu9 (by decide)) | ktr_units); (case hwZ9 => first | assumption | omega); (case hw2Z9 => first | assumption | omega); (case hc0Z9 => first | assumption | omega); (case hc1Z9 => first | assumption | omega); (case hd0Z9 => first | assumption | omega); (case hd1Z9 => first | assumption | omega); k_whole); intro r9 vs9 bl9 n9 be9 bz9 i9 l9 h9 tk9 F9 N9; (clear l9); (try dsimp only); (try k_sweep); (try k_fold))
  k_with "subscriptTail Name Slice ref ref" => (k_here; (with_reducible show wpAny _ _ (subscriptTail _ (PySem.Expr.Slice _ _ none _) (Value.ref _) (Value.ref _)) _ _ _); k_dflt (refine' my_slice ?FZ9 ?NZ9 ?mZ9 ?iZ9 ?zZ9 ?pZ9 ?qZ9 ?eZ9 ?_ ?sZ9 ?tZ9; (case FZ9 => k_asm); (case NZ9 => k_asm); (case mZ9 => k_mem); (case iZ9 => l_ints); (case zZ9 => first | assumption | omega); (case pZ9 => kmk_part); (case qZ9 => kmk_part); (case eZ9 => first | exact kmk_upto (by l_ints) (by omega) | exact kmk_from (by l_ints) (by omega) | exact my_run (by l_ints) (by omega) (by omega)); (case sZ9 => with_unfolding_all rfl); (case tZ9 => kmk_pure)); intro D9 ws9 js9 h9 je9 jz9 jb9 ji9 l9 F9 N9; (clear l9); (try dsimp only); (try k_sweep); (try k_fold))
  k_with "binaryOp Add ref ref" => (k_here; (with_reducible show wpAny _ _ (binaryOp _ (Value.ref _) (Value.ref _)) _ _ _); k_dflt (refine' my_add ?FZ9 ?NZ9 ?aZ9 ?bZ9 ?iZ9 ?jZ9 ?zZ9 ?_; (case FZ9 => k_asm); (case NZ9 => k_asm); (case aZ9 => k_mem); (case bZ9 => k_mem); (case iZ9 => l_ints); (case jZ9 => l_ints); (case zZ9 => first | assumption | omega)); intro D9 us9 js9 h9 je9 jz9 jb9 ji9 l9 F9 N9; (clear l9); (try dsimp only); (try k_sweep); (try k_fold))
  k_with "call ref" => (k_here; (with_reducible show wpAny _ _ (call (Value.ref 154) _) _ _ _); k_dflt (refine' c_law_line2 ?m3Z9 ?hiZ9 ?hzZ9 ?hp0Z9 ?hp1Z9 ?kBZ9 ?kFZ9 ?kXZ9 ?kNZ9 ?kTZ9 ?kKZ9 ?kdZ9 ?kuZ9 ?_; (case kNZ9 => k_asm); (case kBZ9 => k_asm); (case kFZ9 => k_asm); (case kXZ9 => k_asm); (case kTZ9 => k_asm); (case kKZ9 => first | exact rfl | assumption); (case kdZ9 => first | (rename _ + _ < recursionLimit => hd9; exact room_1 hd9 (by decide)) | ktr_room); (case kuZ9 => first | (rename _ + _ < cLine => hu9; exact room_3 hu9 (by decide)) | ktr_units); (case m3Z9 => k_mem); (case hiZ9 => l_ints); (case hzZ9 => first | assumption | omega); (case hp0Z9 => first | assumption | omega); (case hp1Z9 => first | assumption | omega); k_whole); intro fa9 fb9 fc9 fd9 r9 z8 z9 l9 h9 tk9 F9 N9; (clear l9); (try dsimp only); (try k_sweep); (try k_fold))
  k_with "exec While BoolOp cons nil" => k_while_given ["codes", "begin", "last", "column", "width"] (fun ns b l col w _ q => b ≤ q ∧ q ≤ l ∧ SpotB ns w col b q) (fun _ _ l _ _ _ q => (l - q).toNat) "spot"
  k_with "exec While BoolOp cons nil" => k_while_given ["codes", "begin", "last"] (fun ns b l _ q => b ≤ q ∧ q ≤ l ∧ BareTo ns b q) (fun _ _ l _ q => (l - q).toNat) "bare"
  k_with "pyIter ref" => k_state_given ["width", "first"] (fun w f pre stop => stop = stopF w f pre) "stop"
  k_with "state" => first
    | exact ⟨by omega, by omega, spotB_step (by assumption) (by assumption)⟩
    | exact ⟨by omega, by omega, bareTo_step (by assumption) (by assumption)⟩
    | exact ⟨Int.le_refl _, by omega, spotB_start⟩
    | exact ⟨Int.le_refl _, by omega, bareTo_start⟩
    | exact rfl
    | (rw [stopF_snoc]; subst_vars; rfl)
  k_go0
  (repeat (rename Heap.CodeRec _ _ _ => z9; clear z9))
  (repeat (rename Dflts _ _ _ => z9; clear z9))
  (repeat (rename CellsAre _ _ _ => z9; clear z9))
  (repeat (rename _ = Data.cell (bindC _ _ _ _) => z9; obtain ⟨v9, z8⟩ := cell_some z9; clear z9))
  (all_goals try k_fold)
  k_steps)
end
end Mine
set_option maxRecDepth 100000 in
set_option maxHeartbeats 8000000 in
theorem PySem.Challenge.cw_pq0344_01_holds : PySem.Challenge.rw_pq0344_01.Holds :=
  Mine.law_holds

