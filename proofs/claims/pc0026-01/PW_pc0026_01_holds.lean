import PyProof.Rows.All
import Wide.All
import OpenK.AllK
import Wide.FinOn
import OpenK.XGo
import PySem.Challenge.RW_pc0026_01
set_option Elab.async false
-- part QHead
section
open PySem PySem.W PyProof.Rows
namespace Q26
noncomputable def viewQ : Program := view PySem.Challenge.rw_pc0026_01.row.toRowW.prog [0, 2, 3, 4, 6, 7, 8, 10, 11, 12, 13, 14, 15, 16]
local macro_rules | `(tactic| o_head $H) => `(tactic| ((refine holds_open (q := Q26.viewQ) (loose := []) (Xt := fun s => xlAt Q26.viewQ [] s && recOk (RowW.records (OpenRow.toRowW PySem.Challenge.rw_pc0026_01.row)) s) (XP := XL Q26.viewQ []) (Yf := Hook.obs $H) (Ya := Hook.val $H) (YP := Hook.says $H) (N := 3086) ?hl (Hook.of $H) (Hook.keeps $H) (fun s e => xl_of s (Bool.and_eq_true_iff.mp e).1) XL.keeps (by rfl) (by rfl) (by rfl) (fun s e => recFacts_of (Bool.and_eq_true_iff.mp e).2) (by rfl) (by first | assumption | decide +kernel) (by decide +kernel) ⟨rfl, rfl, rfl, rfl, rfl, by decide +kernel⟩ ?hw ?hc); (case hl => (refine fun w => ?_; unfold openEnds topFrom; rw [PySem.W.Fast.te14082659384304107361, PySem.W.Fast.te14364793385576792824, PySem.W.Fast.te4187177175401517315]; kernel_rfl))))
set_option maxRecDepth 100000 in
set_option maxHeartbeats 8000000 in
open_top hd for PySem.Challenge.rw_pc0026_01
end Q26
end
-- part QBase
section
open PySem PySem.W PyProof.Rows
namespace Q26
abbrev PP : Program := PySem.Challenge.rw_pc0026_01.row.prog
noncomputable abbrev KK (w : World) : Frag := Q26.hd.heap_39 w.params
noncomputable abbrev TT (mean : ExcName → Option Value) (mg mb : Str → Option Value) (h : Heap) : Prop := Top Q26.viewQ (looseW Q26.viewQ []) mean mg mb h
end Q26
end
-- part QThrown
section
namespace Q26
theorem calm9 : True := by
  w_top off
  trivial
end Q26
open PySem PySem.W PyProof.Rows PySem.Spec PySem.Calls
namespace Q26
theorem warm1 : PySem.Challenge.rw_pc0026_01.prog = PySem.Challenge.rw_pc0026_01.prog ∧ Q26.hd.heap_39 = Q26.hd.heap_39 := by
  k_fill
  exact ⟨rfl, rfl⟩
local macro_rules | `(tactic| k_all) => `(tactic| with_reducible assumption)
theorem fmod_ends (a : Int) {n : Int} (h : 0 < n) : 0 ≤ a.fmod n ∧ a.fmod n < n := by
  have := fdiv_fmod_facts a n
  omega
set_option maxRecDepth 100000 in
set_option maxHeartbeats 8000000 in
theorem thrown_walk {w : World} {mean : ExcName → Option Value} {mg mb : Str → Option Value} {dp un : Nat} {gd : Option (List Code)} {cn : Str} {cs : Scope} {a : Addr} {ccd : Value} {cl : List (Str × Addr)} {outer : List Env} {A₀ : Around} {base h₀ : Heap} {L : Addr} {m : Str → Option Value} {s : Shared}
    {Q E : Value → Shared → Prop} {d c : Addr} {n nc : Nat} {at_ many : Int} {ta tm : Tok} {vs : List Value} {ns : List Int} {tl : List (Addr × Obj)}
    (B : Below A₀ base outer h₀) (F : Fr h₀ L s.heap m) (X : (Q26.hd.heap_39 w.params).In h₀) (N : News h₀ L s.heap ((d, listOf #[.ref c, .int at_ ta] n) :: (c, listOf vs.toArray nc) :: tl)) (T : TT mean mg mb h₀) (hk : cs.kind = .function)
    (hdc : @LT.lt Nat _ c d) (htl : ∀ p ∈ tl, p.1 ≠ d) (hi : IntsAre vs ns) (hlen : ns.length ≤ 60) (hat : 0 ≤ at_) (hat2 : at_ < 1000) (hm : 0 < many) (hm2 : many ≤ 100)
    (hd : dp + 1 < recursionLimit) (hu : un + 8 < cLine)
    (ret : ∀ v t h' tk' ta', 0 ≤ v → v < many → Fr h₀ L h' m → News h₀ L h' ((d, listOf #[.ref c, .int (at_ + 1) ta'] n) :: (c, listOf vs.toArray nc) :: tl) → Q (.int v t) { s with heap := h', toks := tk' }) :
    wpAny (model PP w) (ktrTop dp un gd cn cs L a ccd cl outer) (call (.ref 165) [.ref d, .int many tm]) Q E s := by
  refine wpAny_call ?_
  k_dflt ktr_enter
  k_steps
  all_goals (exact ret _ _ _ _ _ (fmod_ends _ hm).1 (fmod_ends _ hm).2 (by assumption) (by assumption))
end Q26
end
-- part QData
section
namespace Q26
theorem calm10 : True := by
  w_top off
  trivial
end Q26
open PySem PySem.W PyProof.Rows PySem.Spec PySem.Calls
namespace Q26
/-- a sign as it is meant and as it is written -/
def Sgn (p : Str × Str) : Prop :=
  (∃ c : Nat, c ≠ 34 ∧ c ≠ 92 ∧ (c ≠ 10 ∧ c < 1114112) ∧ p.1.cps = #[c] ∧ p.2.cps = #[c]) ∨ (p.1.cps = #[34] ∧ p.2.cps = #[92, 34]) ∨ (p.1.cps = #[92] ∧ p.2.cps = #[92, 92]) ∨ (p.1.cps = #[10] ∧ p.2.cps = #[92, 110])
/-- an object that stands: one of the text's own, or one of the ledger's -/
def Stands (w : World) (tl : List (Addr × Obj)) (a : Addr) (o : Obj) : Prop := ((Q26.hd.heap_39 w.params).lookup a = some o ∧ (a = 155 ∨ a = 156 ∨ a = 157)) ∨ (a, o) ∈ tl
theorem Stands.mono {w : World} {tl tl' : List (Addr × Obj)} {a : Addr} {o : Obj} (h : Stands w tl a o) (hs : ∀ p ∈ tl, p ∈ tl') : Stands w tl' a o := h.imp id (hs _)
def PairIn (w : World) (tl : List (Addr × Obj)) (v : Value) (p : Str × Str) : Prop :=
  ∃ t o ta tb n, v = .ref t ∧ Stands w tl t o ∧ o.cls = .type "tuple" ∧ o.data = .seq #[.str p.1 ta, .str p.2 tb] n
theorem PairIn.mono {w : World} {tl tl' : List (Addr × Obj)} {v : Value} {p : Str × Str} (h : PairIn w tl v p) (hs : ∀ q ∈ tl, q ∈ tl') : PairIn w tl' v p :=
  let ⟨t, o, ta, tb, n, h1, h2, h3⟩ := h; ⟨t, o, ta, tb, n, h1, h2.mono hs, h3⟩
theorem paired_imp {α β : Type} {F G : α → β → Prop} (h : ∀ a b, F a b → G a b) : ∀ {l : List α} {l' : List β}, Paired F l l' → Paired G l l'
  | _, _, .nil => .nil
  | _, _, .cons a r => .cons (h _ _ a) (paired_imp h r)
abbrev PairsIn (w : World) (tl : List (Addr × Obj)) : List Value → List (Str × Str) → Prop := Paired (PairIn w tl)
theorem PairsIn.mono {w : World} {tl tl' : List (Addr × Obj)} {vs : List Value} {sg : List (Str × Str)} (h : PairsIn w tl vs sg) (hs : ∀ q ∈ tl, q ∈ tl') : PairsIn w tl' vs sg := paired_imp (fun _ _ x => x.mono hs) h
/-- the names that a loop stores, set apart -/
theorem over_eq {x : Str} {v : Value} {stored : List Str} {m₁ m₀ : Str → Option Value} (hJ : ∀ y, y ≠ x → stored.contains y = false → m₁ y = m₀ y) :
    (fun y => if y = x then some v else m₁ y) = fun y => if y = x then some v else if stored.contains y then m₁ y else m₀ y := by
  funext y
  by_cases h1 : y = x
  · simp [h1]
  · simp only [if_neg h1]
    cases h2 : stored.contains y with
    | true => simp
    | false => simp only [Bool.false_eq_true, if_false]; exact hJ y h1 h2
theorem over_eq' {x : Str} {stored : List Str} {m₁ m₀ : Str → Option Value} (hJ : ∀ y, y ≠ x → stored.contains y = false → m₁ y = m₀ y) :
    m₁ = fun y => if y = x then m₁ y else if stored.contains y then m₁ y else m₀ y := by
  funext y
  by_cases h1 : y = x
  · simp [h1]
  · simp only [if_neg h1]
    cases h2 : stored.contains y with
    | true => simp
    | false => simp only [Bool.false_eq_true, if_false]; exact hJ y h1 h2
theorem news_sub {h₀ h : Heap} {L : Addr} {l l' : List (Addr × Obj)} (N : News h₀ L h l) (hs : ∀ p ∈ l', p ∈ l) : News h₀ L h l' := fun p hp => N p (hs p hp)
def Stop (p : Prop) : Prop := p
theorem stop_here {p : Prop} (h : Stop p) : p := h
theorem stop_on {p : Prop} (h : p) : Stop p := h
theorem lt_of_allLt {d : Addr} {l : List (Addr × Obj)} (h : AllLt d l) : ∀ p ∈ l, @LT.lt Nat _ p.1 d := by
  induction l with
  | nil => intro p hp; cases hp
  | cons q r ih =>
    intro p hp
    rcases List.mem_cons.mp hp with e | hp
    · rw [e]; exact h.1
    · exact ih h.2 p hp
end Q26
end
-- part QLoop
section
namespace Q26
theorem calm11 : True := by
  w_top off
  trivial
end Q26
open PySem PySem.W PyProof.Rows PySem.Spec PySem.Calls
namespace Q26


/-- the contract of one throw, for any ledger -/
theorem thrown_use {w : World} {mean : ExcName → Option Value} {mg mb : Str → Option Value} {dp un : Nat} {gd : Option (List Code)} {cn : Str} {cs : Scope} {a : Addr} {ccd : Value} {cl : List (Str × Addr)} {outer : List Env} {A₀ : Around} {base h₀ : Heap} {L : Addr} {m : Str → Option Value} {s : Shared}
    {Q E : Value → Shared → Prop} {d c : Addr} {n nc : Nat} {at_ many : Int} {ta tm : Tok} {vs : List Value} {ns : List Int} {news : List (Addr × Obj)} {g : Obj → List (Addr × Obj)}
    (B : Below A₀ base outer h₀) (F : Fr h₀ L s.heap m) (X : (Q26.hd.heap_39 w.params).In h₀) (N : News h₀ L s.heap news) (T : TT mean mg mb h₀) (hk : cs.kind = .function)
    (U : UpdF d (listOf #[.ref c, .int at_ ta] n) news g) (hc : (c, listOf vs.toArray nc) ∈ news)
    (hdc : @LT.lt Nat _ c d) (hi : IntsAre vs ns) (hlen : ns.length ≤ 60) (hat : 0 ≤ at_) (hat2 : at_ < 1000) (hm : 0 < many) (hm2 : many ≤ 100)
    (hd : dp + 1 < recursionLimit) (hu : un + 8 < cLine)
    (ret : ∀ v t h' tk' ta', 0 ≤ v → v < many → Fr h₀ L h' m → News h₀ L h' (g (listOf #[.ref c, .int (at_ + 1) ta'] n)) → Q (.int v t) { s with heap := h', toks := tk' }) :
    wpAny (model PP w) (ktrTop dp un gd cn cs L a ccd cl outer) (call (.ref 165) [.ref d, .int many tm]) Q E s := by
  obtain ⟨pre, post, rfl, hg, h1, h2⟩ := U.split
  have hcd : c ≠ d := Nat.ne_of_lt hdc
  have hc' : (c, listOf vs.toArray nc) ∈ pre ++ post := by
    rcases List.mem_append.mp hc with q | q
    · exact List.mem_append_left _ q
    · rcases List.mem_cons.mp q with q | q
      · exact absurd (congrArg Prod.fst q) hcd
      · exact List.mem_append_right _ q
  refine thrown_walk (tl := pre ++ post) (vs := vs) (nc := nc) (ta := ta) (n := n) B F X (news_sub N ?_) T hk hdc ?_ hi hlen hat hat2 hm hm2 hd hu ?_
  · intro p hp
    rcases List.mem_cons.mp hp with rfl | hp
    · exact List.mem_append_right _ (.head _)
    · rcases List.mem_cons.mp hp with rfl | hp
      · exact hc
      · rcases List.mem_append.mp hp with q | q
        · exact List.mem_append_left _ q
        · exact List.mem_append_right _ (.tail _ q)
  · intro p hp
    rcases List.mem_append.mp hp with q | q
    · exact h1 p q
    · exact h2 p q
  · intro v t h' tk' ta' v0 v1 F' N'
    refine ret v t h' tk' ta' v0 v1 F' (news_sub N' ?_)
    intro p hp
    rw [hg] at hp
    rcases List.mem_append.mp hp with q | q
    · exact .tail _ (.tail _ (List.mem_append_left _ q))
    · rcases List.mem_cons.mp q with rfl | q
      · exact .head _
      · exact .tail _ (.tail _ (List.mem_append_right _ q))

/-- a turn's end: what holds when the body came to its end -/
def TurnJ (h₀ : Heap) (L I : Addr) (io : Obj) (J : (Str → Option Value) → List (Addr × Obj) → Prop) (s₁ : Shared) (Q : Flow → Shared → Prop) (f : Flow) (s₂ : Shared) : Prop :=
  match f with
  | .ret v => Q (.ret v) s₂
  | .brk => Q .next s₂
  | _ => ∃ h' tk m' nx, s₂ = { s₁ with heap := h', toks := tk } ∧ Fr h₀ L h' m' ∧ News h₀ L h' ((I, io) :: nx) ∧ (∀ p ∈ nx, p.1 ≠ I) ∧ J m' nx

/-- a for over a range of n ints from 0, any invariant over the frame's map and the ledger -/
theorem iter_rangeJ {prog : Program} {w : World} {A : Around} {E : Value → Shared → Prop} {s : Shared} {env : Env} {h₀ : Heap} {x : Str} {body : List Stmt} {Q : Flow → Shared → Prop}
    {r : Addr} {a₀ b₀ : Int} {t₀ u₀ v₀ : Tok} {n : Nat} {m₀ : Str → Option Value} {news : List (Addr × Obj)} (J : Nat → (Str → Option Value) → List (Addr × Obj) → Prop)
    (hh : A.handled = none) (hr : IsRange s.heap r a₀ b₀ 1 t₀ u₀ v₀) (hsmall : Builtin.Range.small a₀ b₀ 1 = true) (hn : Builtin.Range.rangeSize a₀ b₀ 1 = (n : Int)) (F : Fr h₀ env.locals s.heap m₀) (N : News h₀ env.locals s.heap news) (hJ : J 0 m₀ news)
    (turn : ∀ i t m₁ nx h tk I io, i < n → J i m₁ nx → (∀ p ∈ nx, p.1 ≠ I) → Fr h₀ env.locals h (fun y => if y = x then some (.int (a₀ + (i : Int)) t) else m₁ y) → News h₀ env.locals h ((I, io) :: nx) →
      wpAny (model prog w) A (execs body env) (TurnJ h₀ env.locals I io (J (i + 1)) { s with heap := h, toks := tk } Q) E { s with heap := h, toks := tk })
    (done : ∀ m₁ nx h tk, J n m₁ nx → Fr h₀ env.locals h m₁ → News h₀ env.locals h nx → Q .next { s with heap := h, toks := tk }) :
    wpAny (model prog w) A (pyIter (.ref r)) (fun it s₂ => LoopAtV prog w A h₀ env x body Q E it s₂) E s := by
  refine wpAny_pyIter_range hr hsmall ?_
  have W : Walks prog w A s.heap.objs.size [s.heap.objs.size] [s.heap.objs.size] n (fun i v => i < n ∧ ∃ t, v = .int (a₀ + i * 1) t)
      (fun i h => IsRangeIter h s.heap.objs.size (a₀ + (i : Nat) * 1) ((n : Int) - (i : Nat)) 1) := (Walks.range hh _ a₀ 1 n).bound
  refine ⟨s.heap.objs.size, _, _, n, _, _, m₀, news, J, rfl, W, ?_, ?_, ?_, (by show IsRangeIter _ _ _ _ _; rw [hn]; simpa using Heap.get?_push_size _ rfl), F.push _, (fun p hp => ⟨Heap.get?_push_of_some _ (N p hp).1, (N p hp).2⟩), hJ, ?_, ?_⟩
  · intro hm
    exact absurd F.ns.lt ((List.mem_singleton.mp hm) ▸ Nat.lt_irrefl _)
  · intro b hb
    rw [List.mem_singleton.mp hb]
    exact next_is_new F
  · intro p hp hI
    exact absurd (Heap.lt_size (N p hp).1) ((List.mem_singleton.mp hI) ▸ Nat.lt_irrefl _)
  · rintro i v m₁ news₁ s₁ own ⟨hh', tk', rfl⟩ hin ⟨_, t, rfl⟩ hJ₁ hoff hown hget hall hst F₁ N₁
    obtain ⟨io, hio⟩ : ∃ io, (s.heap.objs.size, io) ∈ own := ⟨_, hall s.heap.objs.size (by simp) (next_is_new F) _ hst⟩
    have hone : ∀ p ∈ own, p = (s.heap.objs.size, io) := fun p hp => by
      have e1 : p.1 = s.heap.objs.size := by simpa using hown p hp
      have e2 := hget p hp
      rw [e1] at e2
      have e3 := hget _ hio
      rw [e2] at e3
      exact Prod.ext e1 (Option.some.inj e3)
    have hI : ∀ p ∈ news₁, p.1 ≠ s.heap.objs.size := fun p hp e => hoff p hp (by simp [e])
    have N₂ : News h₀ env.locals hh' ((s.heap.objs.size, io) :: news₁) := fun p hp => by
      rcases List.mem_cons.mp hp with rfl | hp
      · exact N₁ _ (List.mem_append_left _ hio)
      · exact N₁ _ (List.mem_append_right _ hp)
    rw [Int.mul_one] at F₁
    refine wpAny_mono (turn i t m₁ news₁ hh' tk' _ _ hin hJ₁ hI F₁ N₂) (fun f s₂ p => ?_) fun _ _ e => e
    have fin : (∃ h' tk m' nx, s₂ = { ({ s with heap := hh', toks := tk' } : Shared) with heap := h', toks := tk } ∧ Fr h₀ env.locals h' m' ∧ News h₀ env.locals h' ((s.heap.objs.size, io) :: nx) ∧ (∀ p ∈ nx, p.1 ≠ s.heap.objs.size) ∧ J (i + 1) m' nx) →
        LoopStepU h₀ env.locals [s.heap.objs.size] own (J (i + 1)) { s with heap := hh', toks := tk' } .next s₂ := by
      rintro ⟨h', tk, m', nx, e, F', N', hI', hJ'⟩
      refine ⟨rfl, h', tk, m', nx, e, F', fun p hp => ?_, fun p hp hq => hI' p hp (by simpa using hq), hJ'⟩
      rcases List.mem_append.mp hp with q | q
      · rw [hone p q]; exact N' _ (.head _)
      · exact N' _ (.tail _ q)
    cases f with
    | ret v => exact .ret p
    | brk => exact .brk p
    | next => exact .next (fin p)
    | cont => exact .cont (fin p)
  · rintro h' tk m' news' F' N' _ hJ'
    exact done m' news' h' tk hJ' F' N'
end Q26
end
-- part QSigns
section
namespace Q26
theorem calm12 : True := by
  w_top off
  trivial
end Q26
open PySem PySem.W PyProof.Rows PySem.Spec PySem.Calls
namespace Q26
theorem warm2 : PySem.Challenge.rw_pc0026_01.prog = PySem.Challenge.rw_pc0026_01.prog ∧ Q26.hd.heap_39 = Q26.hd.heap_39 := by
  k_fill
  exact ⟨rfl, rfl⟩
local macro_rules | `(tactic| k_all) => `(tactic| with_reducible assumption)
local macro_rules | `(tactic| walk_at "pyIter ref") => `(tactic| (with_reducible refine stop_here ?_))
local macro_rules | `(tactic| walk_at "call type:range") => `(tactic| ((rename Fr _ _ _ _ => F'); (rename News _ _ _ _ => N'); (with_unfolding_all refine range1_rows F' N' ?_); intro h9 tk9 t9 u9 v9 R9 F9 N9 K9))
local macro_rules | `(tactic| walk_at "call ref") => `(tactic| (k_here; (with_reducible show wpAny _ _ (PySem.call (Value.ref 165) [Value.ref _, Value.int _ _]) _ _ _); k_dflt (refine' thrown_use ?B ?F ?X ?N ?T ?hk ?U ?hc ?hdc ?hi ?hlen ?hat ?hat2 ?hm ?hm2 ?hd ?hu ?_; (case B => k_asm); (case F => k_asm); (case X => k_asm); (case N => k_asm); (case T => k_asm); (case hk => exact rfl); (case U => k_updF); (case hc => k_mem); (case hdc => assumption); (case hi => assumption); (case hlen => assumption); (case hat => omega); (case hat2 => omega); (case hm => omega); (case hm2 => omega); (case hd => ktr_room); (case hu => ktr_units)); intro v9 t9 h9 tk9 ta9 v90 v91 F9 N9; (try dsimp only at N9); (try k_sweep)))
def SJ (m₀ : Str → Option Value) (w : World) (f d c : Addr) (n nc : Nat) (at_ : Int) (vs : List Value) (tl : List (Addr × Obj)) (i : Nat) (m₁ : Str → Option Value) (nx : List (Addr × Obj)) : Prop :=
  (∀ y, y ≠ ("turn" : Str) → (["way"] : List Str).contains y = false → m₁ y = m₀ y) ∧ ∃ vs' nn sg tl₂ ta' at', at' = at_ + (i : Int) ∧ nx = (f, listOf vs'.toArray nn) :: (d, listOf #[.ref c, .int at' ta'] n) :: (c, listOf vs.toArray nc) :: (tl₂ ++ tl) ∧
    PairsIn w tl₂ vs' sg ∧ (∀ p ∈ sg, Sgn p) ∧ sg.length = i ∧ vs'.length = i ∧ (∀ p ∈ tl₂, @LT.lt Nat _ f p.1)
theorem map_end1 {x z : Str} {u v : Option Value} {m₁ m₀ : Str → Option Value} : ∀ y, y ≠ x → ([z] : List Str).contains y = false → (if y = z then u else if y = x then v else if ([z] : List Str).contains y then m₁ y else m₀ y) = m₀ y := by
  intro y h1 h2
  have h3 : y ≠ z := fun e => by subst e; simp at h2
  rw [if_neg h3, if_neg h1, if_neg (by rw [h2]; exact Bool.false_ne_true)]
theorem signs_end {m₀ m' : Str → Option Value} {w : World} {g' h' : Heap} {L' I : Addr} {io : Obj} {f d c : Addr} {n nc nn i tk : Nat} {at_ at' : Int} {ta : Tok} {vs vs' : List Value} {v : Value} {p : Str × Str} {sg : List (Str × Str)} {tl tl₂ own : List (Addr × Obj)} {s₁ : Shared} {Q : Flow → Shared → Prop}
    (F' : Fr g' L' h' m') (N' : News g' L' h' (own ++ (I, io) :: (f, listOf (vs'.toArray.push v) (nn + 1)) :: (d, listOf #[.ref c, .int at' ta] n) :: (c, listOf vs.toArray nc) :: (tl₂ ++ tl)))
    (hm : ∀ y, y ≠ ("turn" : Str) → (["way"] : List Str).contains y = false → m' y = m₀ y) (hat : at' = at_ + ((i + 1 : Nat) : Int)) (hp : PairsIn w tl₂ vs' sg) (hv : PairIn w own v p) (hsg : ∀ p ∈ sg, Sgn p) (hpp : Sgn p) (hsl : sg.length = i) (hvl : vs'.length = i)
    (htl₂ : ∀ p ∈ tl₂, @LT.lt Nat _ f p.1) (ho : ∀ p ∈ own, @LT.lt Nat _ f p.1 ∧ @LT.lt Nat _ I p.1) (h1 : @Ne Nat f I) (h2 : @Ne Nat d I) (h3 : @Ne Nat c I) (hI : ∀ q ∈ tl₂ ++ tl, q.1 ≠ I) :
    TurnJ g' L' I io (SJ m₀ w f d c n nc at_ vs tl (i + 1)) s₁ Q .next { s₁ with heap := h', toks := tk } := by
  have e : vs'.toArray.push v = (vs' ++ [v]).toArray := by simp
  rw [e] at N'
  refine ⟨h', tk, m', (f, listOf (vs' ++ [v]).toArray (nn + 1)) :: (d, listOf #[.ref c, .int at' ta] n) :: (c, listOf vs.toArray nc) :: ((own ++ tl₂) ++ tl), rfl, F', news_sub N' ?_, ?_, hm, vs' ++ [v], nn + 1, sg ++ [p], own ++ tl₂, ta, at', hat, rfl, ?_, ?_, by simp [hsl], by simp [hvl], ?_⟩
  · intro q hq
    simp only [List.mem_cons, List.mem_append] at hq ⊢
    grind
  · intro q hq
    simp only [List.mem_cons, List.mem_append] at hq
    rcases hq with rfl | rfl | rfl | (hq | hq) | hq
    · exact h1
    · exact h2
    · exact h3
    · exact Nat.ne_of_gt (ho q hq).2
    · exact hI q (List.mem_append_left _ hq)
    · exact hI q (List.mem_append_right _ hq)
  · exact Paired.snoc (hp.mono fun q hq => List.mem_append_right _ hq) (hv.mono fun q hq => List.mem_append_left _ hq)
  · intro q hq
    rcases List.mem_append.mp hq with hq | hq
    · exact hsg q hq
    · rw [List.mem_singleton.mp hq]; exact hpp
  · intro q hq
    rcases List.mem_append.mp hq with hq | hq
    · exact (ho q hq).1
    · exact htl₂ q hq
theorem sgn_plain : ∀ k, k < 12 → Sgn ((["a", "Z", "7", " ", "\t", "\r", "\x00", "%", "(", "'", "é", "\u2028"] : List Str).getD k Str.empty, (["a", "Z", "7", " ", "\t", "\r", "\x00", "%", "(", "'", "é", "\u2028"] : List Str).getD k Str.empty) := by
  intro k hk
  have : k = 0 ∨ k = 1 ∨ k = 2 ∨ k = 3 ∨ k = 4 ∨ k = 5 ∨ k = 6 ∨ k = 7 ∨ k = 8 ∨ k = 9 ∨ k = 10 ∨ k = 11 := by omega
  rcases this with rfl | rfl | rfl | rfl | rfl | rfl | rfl | rfl | rfl | rfl | rfl | rfl
  · exact .inl ⟨97, by decide, by decide, by decide, by decide, by decide⟩
  · exact .inl ⟨90, by decide, by decide, by decide, by decide, by decide⟩
  · exact .inl ⟨55, by decide, by decide, by decide, by decide, by decide⟩
  · exact .inl ⟨32, by decide, by decide, by decide, by decide, by decide⟩
  · exact .inl ⟨9, by decide, by decide, by decide, by decide, by decide⟩
  · exact .inl ⟨13, by decide, by decide, by decide, by decide, by decide⟩
  · exact .inl ⟨0, by decide, by decide, by decide, by decide, by decide⟩
  · exact .inl ⟨37, by decide, by decide, by decide, by decide, by decide⟩
  · exact .inl ⟨40, by decide, by decide, by decide, by decide, by decide⟩
  · exact .inl ⟨39, by decide, by decide, by decide, by decide, by decide⟩
  · exact .inl ⟨233, by decide, by decide, by decide, by decide, by decide⟩
  · exact .inl ⟨8232, by decide, by decide, by decide, by decide, by decide⟩
theorem pair_kept (w : World) : PairIn w [] (.ref 155) (("\"" : Str), ("\\\"" : Str)) ∧ PairIn w [] (.ref 156) (("\\" : Str), ("\\\\" : Str)) ∧ PairIn w [] (.ref 157) (("\n" : Str), ("\\n" : Str)) :=
  ⟨⟨155, _, _, _, _, rfl, .inl ⟨rfl, .inl rfl⟩, rfl, rfl⟩, ⟨156, _, _, _, _, rfl, .inl ⟨rfl, .inr (.inl rfl)⟩, rfl, rfl⟩, ⟨157, _, _, _, _, rfl, .inl ⟨rfl, .inr (.inr rfl)⟩, rfl, rfl⟩⟩
theorem sgn_kept : Sgn (("\"" : Str), ("\\\"" : Str)) ∧ Sgn (("\\" : Str), ("\\\\" : Str)) ∧ Sgn (("\n" : Str), ("\\n" : Str)) :=
  ⟨.inr (.inl ⟨by decide, by decide⟩), .inr (.inr (.inl ⟨by decide, by decide⟩)), .inr (.inr (.inr ⟨by decide, by decide⟩))⟩
set_option maxRecDepth 100000 in
set_option maxHeartbeats 8000000 in
theorem signs_walk {w : World} {mean : ExcName → Option Value} {mg mb : Str → Option Value} {dp un : Nat} {gd : Option (List Code)} {cn : Str} {cs : Scope} {a : Addr} {ccd : Value} {cl : List (Str × Addr)} {outer : List Env} {A₀ : Around} {base h₀ : Heap} {L : Addr} {m : Str → Option Value} {s : Shared}
    {Q E : Value → Shared → Prop} {d c : Addr} {n nc : Nat} {at_ many : Int} {ta tm : Tok} {vs : List Value} {ns : List Int} {tl : List (Addr × Obj)}
    (B : Below A₀ base outer h₀) (F : Fr h₀ L s.heap m) (X : (Q26.hd.heap_39 w.params).In h₀) (N : News h₀ L s.heap ((d, listOf #[.ref c, .int at_ ta] n) :: (c, listOf vs.toArray nc) :: tl)) (T : TT mean mg mb h₀) (hk : cs.kind = .function)
    (hdc : @LT.lt Nat _ c d) (htl : ∀ p ∈ tl, p.1 ≠ d) (hi : IntsAre vs ns) (hlen : ns.length ≤ 60) (hat : 0 ≤ at_) (hat2 : at_ < 500) (hm : 0 ≤ many) (hm2 : many ≤ 6)
    (hd : dp + 3 < recursionLimit) (hu : un + 30 < cLine)
    (ret : ∀ f vs' nn sg tl₂ h' tk' ta' at', at' = at_ + many → Fr h₀ L h' m → News h₀ L h' ((f, listOf vs'.toArray nn) :: (d, listOf #[.ref c, .int at' ta'] n) :: (c, listOf vs.toArray nc) :: (tl₂ ++ tl)) → PairsIn w tl₂ vs' sg → (∀ p ∈ sg, Sgn p) → (sg.length : Int) = many →
      @LT.lt Nat _ d f → (∀ p ∈ tl, @LT.lt Nat _ p.1 f) → (∀ p ∈ tl₂, @LT.lt Nat _ f p.1) → Q (.ref f) { s with heap := h', toks := tk' }) :
    wpAny (model PP w) (ktrTop dp un gd cn cs L a ccd cl outer) (call (.ref 172) [.ref d, .int many tm]) Q E s := by
  refine wpAny_call ?_
  k_dflt ktr_enter
  k_steps
  rename_i g' L' h2 FG B' X' T' f h1 l1 hh F1 N1 h9 tk9 t9 u9 v9 R9 F9 N9 K9
  clear F1 N1
  obtain ⟨l1a, l1b, l1c⟩ := l1
  have l1c' : ∀ p ∈ tl, @LT.lt Nat _ p.1 f := lt_of_allLt l1c
  refine stop_on ?_
  refine iter_rangeJ (n := many.toNat) (SJ _ w f d c n nc at_ vs tl) rfl R9 (small_one (by omega) (by omega) (by omega) (by omega)) (by rw [rangeSize_nat]; simp) F9 N9 ⟨fun _ _ _ => rfl, [], 0, [], [], ta, at_, by simp, by simp, .nil, (fun _ h => nomatch h), rfl, rfl, (fun _ h => nomatch h)⟩ ?turn ?done
  case turn =>
    rintro i t m₁ nx h tk I io hin ⟨hJm, vs', nn, sg, tl₂, ta', at', hat', rfl, hp, hsg, hsl, hvl, htl₂⟩ hI F2 N2
    rw [over_eq hJm] at F2
    clear F9 N9 R9 K9 hJm
    have hin' : (i : Int) < many := by omega
    have hI1 : @Ne Nat f I := hI _ (.head _)
    have hI2 : @Ne Nat d I := hI _ (.tail _ (.head _))
    have hI3 : @Ne Nat c I := hI _ (.tail _ (.tail _ (.head _)))
    have hI4 : ∀ q ∈ tl₂ ++ tl, q.1 ≠ I := fun q hq => hI q (.tail _ (.tail _ (.tail _ hq)))
    have htd : ∀ p ∈ tl₂ ++ tl, p.1 ≠ d := by
      intro p hp
      rcases List.mem_append.mp hp with q | q
      · exact Nat.ne_of_gt (Nat.lt_trans l1a (htl₂ p q))
      · exact htl p q
    have htf : ∀ p ∈ tl₂ ++ tl, p.1 ≠ f := by
      intro p hp
      rcases List.mem_append.mp hp with q | q
      · exact Nat.ne_of_gt (htl₂ p q)
      · exact Nat.ne_of_lt (l1c' p q)
    obtain ⟨tl3, htl3⟩ : ∃ x, x = tl₂ ++ tl := ⟨_, rfl⟩
    rw [← htl3] at N2 htd htf
    show wpAny _ _ _ _ _ _
    k_fold
    k_steps
    all_goals (rename News _ _ _ _ => N5; rename Fr g' _ _ _ => F5; rw [htl3] at N5)
    · rename (_ < _ ∧ _ ∧ _ ∧ _ ∧ AllLt _ _) => l5
      exact signs_end (own := [_]) F5 N5 map_end1 (by omega) hp (p := (_, _)) ⟨_, _, _, _, _, rfl, .inr (.head _), rfl, rfl⟩ hsg (sgn_plain _ (by omega)) hsl hvl htl₂ (fun p hp => by rw [List.mem_singleton.mp hp]; exact ⟨l5.2.1, l5.1⟩) hI1 hI2 hI3 hI4
    · exact signs_end (own := []) F5 N5 map_end1 (by omega) hp (pair_kept w).1 hsg sgn_kept.1 hsl hvl htl₂ (fun _ h => nomatch h) hI1 hI2 hI3 hI4
    · exact signs_end (own := []) F5 N5 map_end1 (by omega) hp (pair_kept w).2.1 hsg sgn_kept.2.1 hsl hvl htl₂ (fun _ h => nomatch h) hI1 hI2 hI3 hI4
    · exact signs_end (own := []) F5 N5 map_end1 (by omega) hp (pair_kept w).2.2 hsg sgn_kept.2.2 hsl hvl htl₂ (fun _ h => nomatch h) hI1 hI2 hI3 hI4
  case done =>
    rintro m₁ nx h tk ⟨hJm, vs', nn, sg, tl₂, ta', at', hat', rfl, hp, hsg, hsl, hvl, htl₂⟩ F2 N2
    have F3 := F2
    rw [over_eq' hJm] at F3
    clear F9 N9 R9 K9 F2
    dsimp only
    k_steps
    all_goals exact ret f vs' nn sg tl₂ _ _ ta' at' (by omega) (by assumption) (by assumption) hp hsg (by omega) l1a l1c' htl₂
end Q26
end
-- part QScan
section
namespace Q26
theorem calm13 : True := by
  w_top off
  trivial
end Q26
open PySem PySem.W PyProof.Rows PySem.Spec PySem.Calls
namespace Q26
theorem warm3 : PySem.Challenge.rw_pc0026_01.prog = PySem.Challenge.rw_pc0026_01.prog ∧ Q26.hd.heap_39 = Q26.hd.heap_39 := by
  k_fill
  exact ⟨rfl, rfl⟩
local macro_rules | `(tactic| k_all) => `(tactic| with_reducible assumption)
/-- the scanner's dict -/
abbrev scanD (h1 h2 : Int) (k1 k2 : Tok) (txt : Str) (tt : Tok) (sp : Int) (ts : Tok) (n : Nat) : Obj := dictOf [⟨h1, .str (Str.ofString "text") k1, .str txt tt⟩, ⟨h2, .str (Str.ofString "spot") k2, .int sp ts⟩] n
set_option maxRecDepth 100000 in
set_option maxHeartbeats 8000000 in
theorem sign_walk {w : World} {mean : ExcName → Option Value} {mg mb : Str → Option Value} {dp un : Nat} {gd : Option (List Code)} {cn : Str} {cs : Scope} {a : Addr} {ccd : Value} {cl : List (Str × Addr)} {outer : List Env} {A₀ : Around} {base h₀ : Heap} {L : Addr} {m : Str → Option Value} {s : Shared}
    {Q E : Value → Shared → Prop} {x dx : Addr} {h1 h2 sp : Int} {k1 k2 tt ts : Tok} {txt : Str} {tl : List (Addr × Obj)}
    (B : Below A₀ base outer h₀) (F : Fr h₀ L s.heap m) (X : (Q26.hd.heap_39 w.params).In h₀) (N : News h₀ L s.heap ((x, instObj 149 dx) :: (dx, scanD h1 h2 k1 k2 txt tt sp ts 2) :: tl)) (T : TT mean mg mb h₀) (hk : cs.kind = .function)
    (h0 : 0 ≤ sp) (hsp : sp < 5000) (hlen : txt.length ≤ 2000)
    (hd : dp + 1 < recursionLimit) (hu : un + 20 < cLine)
    (ret : ∀ t h' tk', Fr h₀ L h' m → News h₀ L h' ((x, instObj 149 dx) :: (dx, scanD h1 h2 k1 k2 txt tt sp ts 2) :: tl) → Q (.str (Txt.slice txt (some sp) (some (sp + 1))) t) { s with heap := h', toks := tk' }) :
    wpAny (model PP w) (ktrTop dp un gd cn cs L a ccd cl outer) (call (.ref 111) [.ref x]) Q E s := by
  refine wpAny_call ?_
  k_dflt ktr_enter
  k_steps
  exact ret _ _ _ (by assumption) (by assumption)
theorem sign_use {w : World} {mean : ExcName → Option Value} {mg mb : Str → Option Value} {dp un : Nat} {gd : Option (List Code)} {cn : Str} {cs : Scope} {a : Addr} {ccd : Value} {cl : List (Str × Addr)} {outer : List Env} {A₀ : Around} {base h₀ : Heap} {L : Addr} {m : Str → Option Value} {s : Shared}
    {Q E : Value → Shared → Prop} {x dx : Addr} {h1 h2 sp : Int} {k1 k2 tt ts : Tok} {txt : Str} {news : List (Addr × Obj)}
    (B : Below A₀ base outer h₀) (F : Fr h₀ L s.heap m) (X : (Q26.hd.heap_39 w.params).In h₀) (N : News h₀ L s.heap news) (T : TT mean mg mb h₀) (hk : cs.kind = .function)
    (hx : (x, instObj 149 dx) ∈ news) (hdx : (dx, scanD h1 h2 k1 k2 txt tt sp ts 2) ∈ news)
    (h0 : 0 ≤ sp) (hsp : sp < 5000) (hlen : txt.length ≤ 2000)
    (hd : dp + 1 < recursionLimit) (hu : un + 20 < cLine)
    (ret : ∀ t h' tk', Fr h₀ L h' m → News h₀ L h' news → Q (.str (Txt.slice txt (some sp) (some (sp + 1))) t) { s with heap := h', toks := tk' }) :
    wpAny (model PP w) (ktrTop dp un gd cn cs L a ccd cl outer) (call (.ref 111) [.ref x]) Q E s :=
  sign_walk (tl := news) B F X (fun p hp => by
    rcases List.mem_cons.mp hp with rfl | hp
    · exact N _ hx
    · rcases List.mem_cons.mp hp with rfl | hp
      · exact N _ hdx
      · exact N _ hp) T hk h0 hsp hlen hd hu fun t h' tk' F' N' => ret t h' tk' F' fun p hp => N' p (.tail _ (.tail _ hp))
end Q26
end
-- part QPure
section
namespace Q26
theorem calm14 : True := by
  w_top off
  trivial
end Q26
open PySem PySem.W PyProof.Rows PySem.Spec PySem.Calls
namespace Q26
/-- how a reading ends -/
inductive How where
  | closed | opened | bad
structure Read where
  text : List Nat
  used : Nat
  how : How
def Read.push (c : Nat) (k : Nat) (r : Read) : Read := ⟨c :: r.text, k + r.used, r.how⟩
/-- what the scanner reads behind the first quote -/
def scan : List Nat → Read
  | [] => ⟨[], 0, .opened⟩
  | c :: r =>
    if c = 10 then ⟨[], 0, .opened⟩
    else if c = 34 then ⟨[], 0, .closed⟩
    else if c = 92 then
      match r with
      | [] => ⟨[], 0, .bad⟩
      | e :: r' => if e = 110 then (scan r').push 10 2 else if e = 34 then (scan r').push 34 2 else if e = 92 then (scan r').push 92 2 else ⟨[], 0, .bad⟩
    else (scan r).push c 1
theorem scan_nil : scan [] = ⟨[], 0, .opened⟩ := rfl
theorem scan_lf (r : List Nat) : scan (10 :: r) = ⟨[], 0, .opened⟩ := by rw [scan.eq_def]; simp
theorem scan_q (r : List Nat) : scan (34 :: r) = ⟨[], 0, .closed⟩ := by rw [scan.eq_def]; simp
theorem scan_bs : scan [92] = ⟨[], 0, .bad⟩ := by rw [scan.eq_def]; simp
theorem scan_bsn (r : List Nat) : scan (92 :: 110 :: r) = (scan r).push 10 2 := by rw [scan.eq_def]; simp
theorem scan_bsq (r : List Nat) : scan (92 :: 34 :: r) = (scan r).push 34 2 := by rw [scan.eq_def]; simp
theorem scan_bsb (r : List Nat) : scan (92 :: 92 :: r) = (scan r).push 92 2 := by rw [scan.eq_def]; simp
theorem scan_bad {e : Nat} (r : List Nat) (h1 : e ≠ 110) (h2 : e ≠ 34) (h3 : e ≠ 92) : scan (92 :: e :: r) = ⟨[], 0, .bad⟩ := by
  rw [scan.eq_def]; simp [h1, h2, h3]
theorem scan_plain {c : Nat} (r : List Nat) (h1 : c ≠ 10) (h2 : c ≠ 34) (h3 : c ≠ 92) : scan (c :: r) = (scan r).push c 1 := by
  rw [scan.eq_def]; simp [h1, h2, h3]
def Read.pre (t : List Nat) (k : Nat) (r : Read) : Read := ⟨t ++ r.text, k + r.used, r.how⟩
theorem Read.pre_nil (r : Read) : r.pre [] 0 = r := by simp [Read.pre]
theorem Read.pre_push (t : List Nat) (k c j : Nat) (r : Read) : (r.push c j).pre t k = r.pre (t ++ [c]) (k + j) := by simp [Read.pre, Read.push, Nat.add_assoc]
theorem Read.push_pre (c j : Nat) (t : List Nat) (k : Nat) (r : Read) : (r.pre t k).push c j = r.pre (c :: t) (j + k) := by simp [Read.pre, Read.push, Nat.add_assoc]
/-- the signs as written, as meant -/
def enc (sg : List (Str × Str)) : List Nat := (sg.map fun p => p.2.cps.toList).flatten
def mnt (sg : List (Str × Str)) : List Nat := (sg.map fun p => p.1.cps.toList).flatten
theorem scan_enc {sg : List (Str × Str)} (h : ∀ p ∈ sg, Sgn p) (r : List Nat) : scan (enc sg ++ r) = (scan r).pre (mnt sg) (enc sg).length := by
  induction sg with
  | nil => simp [enc, mnt, Read.pre_nil]
  | cons p sg ih =>
    have ih' := ih fun q hq => h q (.tail _ hq)
    have e1 : enc (p :: sg) = p.2.cps.toList ++ enc sg := by simp [enc]
    have e2 : mnt (p :: sg) = p.1.cps.toList ++ mnt sg := by simp [mnt]
    rw [e1, e2, List.append_assoc]
    rcases h p (.head _) with ⟨c, c1, c2, c3, ha, hb⟩ | ⟨ha, hb⟩ | ⟨ha, hb⟩ | ⟨ha, hb⟩
    · rw [ha, hb]
      show scan (c :: (enc sg ++ r)) = _
      rw [scan_plain _ c3.1 c1 c2, ih', Read.push_pre]
      rw [List.length_append]; rfl
    · rw [ha, hb]
      show scan (92 :: 34 :: (enc sg ++ r)) = _
      rw [scan_bsq, ih', Read.push_pre]
      rw [List.length_append]; rfl
    · rw [ha, hb]
      show scan (92 :: 92 :: (enc sg ++ r)) = _
      rw [scan_bsb, ih', Read.push_pre]
      rw [List.length_append]; rfl
    · rw [ha, hb]
      show scan (92 :: 110 :: (enc sg ++ r)) = _
      rw [scan_bsn, ih', Read.push_pre]
      rw [List.length_append]; rfl
theorem enc_len {sg : List (Str × Str)} (h : ∀ p ∈ sg, Sgn p) : (enc sg).length ≤ 2 * sg.length ∧ (mnt sg).length = sg.length := by
  induction sg with
  | nil => simp [enc, mnt]
  | cons p sg ih =>
    obtain ⟨i1, i2⟩ := ih fun q hq => h q (.tail _ hq)
    have e1 : enc (p :: sg) = p.2.cps.toList ++ enc sg := by simp [enc]
    have e2 : mnt (p :: sg) = p.1.cps.toList ++ mnt sg := by simp [mnt]
    rw [e1, e2, List.length_append, List.length_append, List.length_cons]
    rcases h p (.head _) with ⟨c, c1, c2, c3, ha, hb⟩ | ⟨ha, hb⟩ | ⟨ha, hb⟩ | ⟨ha, hb⟩ <;> rw [ha, hb] <;> simp <;> omega
theorem sign_some {x : Str} {k : Nat} {c : Nat} (h : x.cps.toList[k]? = some c) : Txt.slice x (some (k : Int)) (some ((k : Int) + 1)) = ⟨#[c]⟩ := by
  obtain ⟨hk, hc⟩ := List.getElem?_eq_some_iff.mp h
  have hl : x.length = x.cps.toList.length := by simp [Str.length]
  have e := eq_of_beq (slice_closesL (x := x) (i := (k : Int)) (j := (k : Int) + 1) (by omega) (by omega) (by rw [hl]; omega))
  rw [e]
  have e1 : ((k : Int) + 1 - (k : Int)).toNat = 1 := by omega
  rw [e1, Int.toNat_natCast, List.drop_eq_getElem_cons hk, hc]
  rfl
theorem sign_none {x : Str} {k : Nat} (h : x.cps.toList.length ≤ k) : Txt.slice x (some (k : Int)) (some ((k : Int) + 1)) = ⟨#[]⟩ := by
  have hl : x.length = x.cps.toList.length := by simp [Str.length]
  have e0 : Builtin.Str.strSliceIndices (some (k : Int)) (some ((k : Int) + 1)) 1 x.length = Builtin.Str.strSliceIndices (some (x.length : Int)) (some (x.length : Int)) 1 x.length := by
    unfold Builtin.Str.strSliceIndices
    have a1 : max 0 (min (k : Int) (x.length : Int)) = (x.length : Int) := by omega
    have a2 : max 0 (min ((k : Int) + 1) (x.length : Int)) = (x.length : Int) := by omega
    have a3 : max 0 (min (x.length : Int) (x.length : Int)) = (x.length : Int) := by omega
    have b1 : ¬ ((k : Int) < 0) := by omega
    have b2 : ¬ ((k : Int) + 1 < 0) := by omega
    have b3 : ¬ ((x.length : Int) < 0) := by omega
    simp only [b1, b2, b3, if_false, a1, a2, a3]
    simp
  have e1 : Txt.slice x (some (k : Int)) (some ((k : Int) + 1)) = Txt.slice x (some (x.length : Int)) (some (x.length : Int)) := by
    unfold Txt.slice
    rw [e0]
  have e := eq_of_beq (slice_closesL (x := x) (i := (x.length : Int)) (j := (x.length : Int)) (by omega) (by omega) (by omega))
  rw [e1, e]
  simp
theorem slice_to {x : Str} {k : Nat} (h : k ≤ x.cps.toList.length) : (Txt.slice x none (some (k : Int))).cps.toList = x.cps.toList.take k := by
  have hl : x.length = x.cps.toList.length := by simp [Str.length]
  have e := eq_of_beq (slice_closes_toL (x := x) (j := (k : Int)) (by omega) (by rw [hl]; omega))
  rw [e]
  simp
theorem slice_from {x : Str} {k : Nat} (h : k ≤ x.cps.toList.length) : (Txt.slice x (some (k : Int)) none).cps.toList = x.cps.toList.drop k := by
  have hl : x.length = x.cps.toList.length := by simp [Str.length]
  have e := eq_of_beq (slice_closes_fromL (x := x) (i := (k : Int)) (b := (x.length : Int)) (by omega) (by rw [hl]; omega) rfl)
  rw [e]
  have e1 : ((x.length : Int) - (k : Int)).toNat = x.cps.toList.length - k := by rw [hl]; omega
  rw [e1, Int.toNat_natCast]
  have e2 : (x.cps.toList.drop k).length = x.cps.toList.length - k := List.length_drop
  rw [← e2, List.take_length]
theorem join_cps : ∀ ts : List Str, (Txt.join Str.empty ts).cps.toList = (ts.map (·.cps.toList)).flatten := by
  intro ts
  show (Builtin.Str.glued Str.empty ts).cps.toList = _
  rw [StrLaws.glued_eq_join]
  induction ts with
  | nil => rfl
  | cons t r ih =>
    cases r with
    | nil => simp [Str.join]
    | cons u r =>
      have : Str.join Str.empty (t :: u :: r) = t ++ Str.empty ++ Str.join Str.empty (u :: r) := rfl
      rw [this]
      simp only [Str.cps_append, Array.toList_append, ih, List.map_cons, List.flatten_cons]
      simp [Str.empty]
theorem lit_e : (Str.ofString "" : Str) = ⟨#[]⟩ := by decide
theorem lit_n : (Str.ofString "\n" : Str) = ⟨#[10]⟩ := by decide
theorem lit_q : (Str.ofString "\"" : Str) = ⟨#[34]⟩ := by decide
theorem lit_b : (Str.ofString "\\" : Str) = ⟨#[92]⟩ := by decide
theorem lit_nn : (Str.ofString "n" : Str) = ⟨#[110]⟩ := by decide
theorem one_eq {c e : Nat} : ((⟨#[c]⟩ : Str) == ⟨#[e]⟩) = decide (c = e) := by
  by_cases h : c = e
  · subst h; simp
  · rw [decide_eq_false h]
    refine beq_eq_false_iff_ne.mpr fun q => h ?_
    injection q with q
    simpa using q
theorem none_eq {e : Nat} : ((⟨#[]⟩ : Str) == ⟨#[e]⟩) = false := by
  refine beq_eq_false_iff_ne.mpr fun q => ?_
  injection q with q
  simp at q
theorem one_none {e : Nat} : ((⟨#[e]⟩ : Str) == ⟨#[]⟩) = false := by
  refine beq_eq_false_iff_ne.mpr fun q => ?_
  injection q with q
  simp at q
/-- the sign at a place: none, or one -/
theorem sign_cases (x : Str) (k : Nat) : (Txt.slice x (some (k : Int)) (some ((k : Int) + 1)) = ⟨#[]⟩ ∧ x.cps.toList.drop k = []) ∨ ∃ c, Txt.slice x (some (k : Int)) (some ((k : Int) + 1)) = ⟨#[c]⟩ ∧ x.cps.toList.drop k = c :: x.cps.toList.drop (k + 1) ∧ k < x.cps.toList.length := by
  by_cases h : k < x.cps.toList.length
  · exact .inr ⟨x.cps.toList[k], sign_some (by rw [List.getElem?_eq_getElem h]), List.drop_eq_getElem_cons h, h⟩
  · exact .inl ⟨sign_none (Nat.le_of_not_lt h), List.drop_eq_nil_of_le (Nat.le_of_not_lt h)⟩
theorem leaf_open {x : Str} {k : Nat} (h1 : ([Str.ofString "", Str.ofString "\n", Str.ofString "\""].any fun y => y == Txt.slice x (some (k : Int)) (some ((k : Int) + 1))) = true)
    (h2 : (Txt.slice x (some (k : Int)) (some ((k : Int) + 1)) != Str.ofString "\"") = true) : scan (x.cps.toList.drop k) = ⟨[], 0, .opened⟩ := by
  rcases sign_cases x k with ⟨_, e⟩ | ⟨c, e, d, _⟩
  · rw [e, scan_nil]
  · rw [e] at h1 h2
    rw [lit_q] at h2
    rw [lit_e, lit_n, lit_q] at h1
    simp only [List.any_cons, List.any_nil, bne, one_eq, none_eq, Bool.or_false, Bool.false_or, Bool.or_eq_true, decide_eq_true_eq, Bool.not_eq_true', decide_eq_false_iff_not] at h1 h2
    have : c = 10 := by omega
    rw [d, this, scan_lf]
theorem leaf_closed {x : Str} {k : Nat} (h2 : (Txt.slice x (some (k : Int)) (some ((k : Int) + 1)) != Str.ofString "\"") = false) : scan (x.cps.toList.drop k) = ⟨[], 0, .closed⟩ ∧ k < x.cps.toList.length := by
  rcases sign_cases x k with ⟨e, _⟩ | ⟨c, e, d, hk⟩
  · rw [e, lit_q] at h2
    simp [bne, none_eq] at h2
  · rw [e, lit_q] at h2
    simp only [bne, one_eq, Bool.not_eq_false', decide_eq_true_eq] at h2
    rw [d, h2, scan_q]
    exact ⟨rfl, hk⟩
theorem sign_is_b {x : Str} {k : Nat} (h : (Txt.slice x (some (k : Int)) (some ((k : Int) + 1)) == Str.ofString "\\") = true) : x.cps.toList.drop k = 92 :: x.cps.toList.drop (k + 1) ∧ k < x.cps.toList.length := by
  rcases sign_cases x k with ⟨e, _⟩ | ⟨c, e, d, hk⟩
  · rw [e, lit_b] at h
    simp [none_eq] at h
  · rw [e, lit_b, one_eq, decide_eq_true_eq] at h
    rw [d, h]
    exact ⟨rfl, hk⟩
theorem cast_next {x : Str} {k : Nat} : Txt.slice x (some ((k : Int) + 1)) (some ((k : Int) + 1 + 1)) = Txt.slice x (some ((k + 1 : Nat) : Int)) (some (((k + 1 : Nat) : Int) + 1)) := rfl
theorem leaf_bn {x : Str} {k : Nat} (h1 : (Txt.slice x (some (k : Int)) (some ((k : Int) + 1)) == Str.ofString "\\") = true) (h2 : (Txt.slice x (some ((k : Int) + 1)) (some ((k : Int) + 1 + 1)) == Str.ofString "n") = true) :
    scan (x.cps.toList.drop k) = (scan (x.cps.toList.drop (k + 2))).push 10 2 ∧ k + 2 ≤ x.cps.toList.length := by
  obtain ⟨d, _⟩ := sign_is_b h1
  rw [cast_next] at h2
  rcases sign_cases x (k + 1) with ⟨e, _⟩ | ⟨c, e, d2, hk⟩
  · rw [e, lit_nn] at h2
    simp [none_eq] at h2
  · rw [e, lit_nn, one_eq, decide_eq_true_eq] at h2
    rw [d, d2, h2, scan_bsn]
    exact ⟨rfl, hk⟩
theorem leaf_bk {x : Str} {k : Nat} (h1 : (Txt.slice x (some (k : Int)) (some ((k : Int) + 1)) == Str.ofString "\\") = true) (h3 : ([Str.ofString "n", Str.ofString "\"", Str.ofString "\\"].any fun y => y == Txt.slice x (some ((k : Int) + 1)) (some ((k : Int) + 1 + 1))) = true)
    (h2 : (Txt.slice x (some ((k : Int) + 1)) (some ((k : Int) + 1 + 1)) == Str.ofString "n") = false) :
    ∃ c, Txt.slice x (some ((k : Int) + 1)) (some ((k : Int) + 1 + 1)) = ⟨#[c]⟩ ∧ scan (x.cps.toList.drop k) = (scan (x.cps.toList.drop (k + 2))).push c 2 ∧ k + 2 ≤ x.cps.toList.length := by
  obtain ⟨d, _⟩ := sign_is_b h1
  rw [cast_next] at h2 h3 ⊢
  rcases sign_cases x (k + 1) with ⟨e, _⟩ | ⟨c, e, d2, hk⟩
  · rw [e, lit_nn, lit_q, lit_b] at h3
    simp only [List.any_cons, List.any_nil, one_none, Bool.or_false, Bool.false_eq_true] at h3
  · rw [e] at h2 h3
    rw [lit_nn, one_eq, decide_eq_false_iff_not] at h2
    rw [lit_nn, lit_q, lit_b] at h3
    simp only [List.any_cons, List.any_nil, one_eq, Bool.or_false, Bool.or_eq_true, decide_eq_true_eq] at h3
    refine ⟨c, e, ?_, hk⟩
    rw [d, d2]
    rcases h3 with h3 | h3 | h3
    · omega
    · rw [← h3, scan_bsq]
    · rw [← h3, scan_bsb]
theorem leaf_bad {x : Str} {k : Nat} (h1 : (Txt.slice x (some (k : Int)) (some ((k : Int) + 1)) == Str.ofString "\\") = true) (h3 : ([Str.ofString "n", Str.ofString "\"", Str.ofString "\\"].any fun y => y == Txt.slice x (some ((k : Int) + 1)) (some ((k : Int) + 1 + 1))) = false) :
    scan (x.cps.toList.drop k) = ⟨[], 0, .bad⟩ := by
  obtain ⟨d, _⟩ := sign_is_b h1
  rw [cast_next] at h3
  rcases sign_cases x (k + 1) with ⟨_, e⟩ | ⟨c, e, d2, hk⟩
  · rw [d, e, scan_bs]
  · rw [e] at h3
    rw [lit_nn, lit_q, lit_b] at h3
    simp only [List.any_cons, List.any_nil, one_eq, Bool.or_false, Bool.or_eq_false_iff, decide_eq_false_iff_not] at h3
    rw [d, d2, scan_bad _ (by omega) (by omega) (by omega)]
theorem leaf_plain {x : Str} {k : Nat} (h1 : ([Str.ofString "", Str.ofString "\n", Str.ofString "\""].any fun y => y == Txt.slice x (some (k : Int)) (some ((k : Int) + 1))) = false)
    (h2 : (Txt.slice x (some (k : Int)) (some ((k : Int) + 1)) == Str.ofString "\\") = false) :
    ∃ c, Txt.slice x (some (k : Int)) (some ((k : Int) + 1)) = ⟨#[c]⟩ ∧ scan (x.cps.toList.drop k) = (scan (x.cps.toList.drop (k + 1))).push c 1 ∧ k + 1 ≤ x.cps.toList.length := by
  rcases sign_cases x k with ⟨e, _⟩ | ⟨c, e, d, hk⟩
  · rw [e, lit_e] at h1
    simp at h1
  · rw [e, lit_e, lit_n, lit_q] at h1
    rw [e, lit_b, one_eq, decide_eq_false_iff_not] at h2
    simp only [List.any_cons, List.any_nil, one_eq, none_eq, Bool.or_false, Bool.or_eq_false_iff, decide_eq_false_iff_not] at h1
    refine ⟨c, e, ?_, hk⟩
    rw [d, scan_plain _ (by omega) (by omega) (by omega)]
theorem joinOk_of {ts : List Str} (h : (ts.map (·.length)).sum ≤ 4000) : JoinOk Str.empty ts = true := by
  unfold JoinOk Builtin.Str.tooLong
  rw [StrLaws.joinTotal]
  have e : Str.empty.length = 0 := rfl
  rw [e, Nat.mul_zero]
  have : ¬ ((ts.map (·.length)).sum + 0 > sizeLine) := by rw [sizeLine_eq]; omega
  simp only [decide_eq_false this, Bool.not_false]
theorem mnt_small {sg : List (Str × Str)} (h : ∀ p ∈ sg, Sgn p) : ∀ c ∈ mnt sg, c < 1114112 := by
  intro c hc
  obtain ⟨l, hl, hcl⟩ := List.mem_flatten.mp hc
  obtain ⟨p, hp, rfl⟩ := List.mem_map.mp hl
  rcases h p hp with ⟨c', c1, c2, c3, ha, hb⟩ | ⟨ha, hb⟩ | ⟨ha, hb⟩ | ⟨ha, hb⟩
  · rw [ha] at hcl
    rw [List.mem_singleton.mp hcl]
    exact c3.2
  · rw [ha] at hcl
    rw [List.mem_singleton.mp hcl]
    decide
  · rw [ha] at hcl
    rw [List.mem_singleton.mp hcl]
    decide
  · rw [ha] at hcl
    rw [List.mem_singleton.mp hcl]
    decide
end Q26
end
-- part QComp
section
namespace Q26
theorem calm15 : True := by
  w_top off
  trivial
end Q26
open PySem PySem.W PyProof.Rows PySem.Spec PySem.Calls PyProof.Rows.LCg PyProof.Rows.LCp
set_option maxRecDepth 100000
namespace Q26
/-- a tuple of the ledger whose chosen item is y -/
def Chosen (sel : Value → Value → Value) (news : List (Addr × Obj)) (v y : Value) : Prop :=
  ∃ t ot a b nt, v = .ref t ∧ (t, ot) ∈ news ∧ ot.cls = .type "tuple" ∧ ot.data = .seq #[a, b] nt ∧ sel a b = y
section
variable {prog : Program} {w : World} {A : Around} {E : Value → Shared → Prop} {s : Shared} {h₀ : Heap} {L : Addr} {m : Str → Option Value} {env : Env}
theorem rest_pairs {sel : Value → Value → Value} {z x x₂ : Str} {pz : Pos} {scope : Scope} {cl : List (Str × Addr)} {S : List (Addr × Obj) → Prop} {Fin : List Value → List (Addr × Obj) → Prop} {news : List (Addr × Obj)} {its : Array Value}
    (hdb : (z == ("__debug__" : Str)) = false) (hz : scope.names.lookup z = some .local) (hk : scope.kind = .function) (hsel : ∀ (m₂ : Str → Option Value) a b, m₂ x = some a → m₂ x₂ = some b → m₂ z = some (sel a b)) (hS : S news) :
    ∀ (l : List Value) (outs : List Value), Paired (Chosen sel news) l outs → ∀ i ys, (∀ j v, its[i + j]? = some v → l[j]? = some v) → Fin (ys ++ outs) news →
      CompRestP prog w A h₀ L m env (.Name z pz) x x₂ scope cl s S (fun i v => its[i]? = some v) Fin l.length i ys news := by
  intro l outs P
  induction P with
  | nil =>
    intro i ys _ hF
    rw [List.append_nil] at hF
    exact CompRestP.zero hF
  | cons hc _ ih =>
    rename_i v0 y0 l1 l2
    intro i ys hit hF
    refine CompRestP.succ fun v hv => ?_
    have := hit 0 v hv
    cases this
    obtain ⟨t, ot, a, b, nt, rfl, hm, hcl, hd, hy⟩ := hc
    refine ⟨t, ot, a, b, nt, rfl, hm, hcl, hd, ?_⟩
    intro I oI C oC D m₂ h tk E' hC ha hb F N off ne
    have hzz := hsel m₂ a b ha hb
    have NC := (N (C, oC) (.tail _ (.head _))).1
    rw [eval_Name (hd := hdb)]
    refine wpAny_bind (wpAny_standAt (wpAny_loadName_local (env := compEnvC scope cl C env) (by simp [compEnvC, relabel, hk]) (lookup_relabel_local hz) (hC.ns NC) hzz ?_))
    refine CompEnd.intro F N news (fun p hp => hp) off hS ?_
    refine ih (i + 1) (ys ++ [sel a b]) (fun j v hj => ?_) ?_
    · have := hit (j + 1) v (by rw [← hj]; congr 1; omega)
      simpa using this
    · rw [hy, List.append_assoc]
      exact hF
/-- a ground without the kept tuples -/
theorem fr_hide {h : Heap} {as : List Addr} (F : Fr h₀ L h m) : Fr (hideAll h₀ as) L h m := ⟨F.ns, fun b o e => F.keep b o (of_hideAll _ e), by rw [hideAll_size]; exact F.above⟩
theorem comp_pairs {sel : Value → Value → Value} {z x x₂ : Str} {pz px px₂ tp pos : Pos} {tk} {iter : Expr} {scope : Scope} {cl : List (Str × Addr)} {news : List (Addr × Obj)} {ax : Addr} {vs outs : List Value} {k : Nat} {Q : Value → Shared → Prop}
    (F : Fr h₀ L s.heap m) (X : (Q26.hd.heap_39 w.params).In h₀) (N : News h₀ L s.heap news) (hax : (ax, listOf vs.toArray k) ∈ news) (P : Paired (fun v y => ∃ t ot a b nt, v = .ref t ∧ Stands w news t ot ∧ ot.cls = .type "tuple" ∧ ot.data = .seq #[a, b] nt ∧ sel a b = y) vs outs)
    (hlen : vs.length ≤ 1000) (hh : A.handled = none)
    (hclos : closureFor scope env = pure cl) (hcell : ∀ y ∈ scope.names, y.2 ≠ .cell) (hkind : scope.kind = .function)
    (hnames : ∀ y ∈ scope.names, y.2 = .local → scope.names.lookup y.1 = some .local) (hx : scope.names.lookup x = some .local) (hx₂ : scope.names.lookup x₂ = some .local) (hxx : x ≠ x₂)
    (hdb : (z == ("__debug__" : Str)) = false) (hz : scope.names.lookup z = some .local) (hsel : ∀ (m₂ : Str → Option Value) a b, m₂ x = some a → m₂ x₂ = some b → m₂ z = some (sel a b))
    (hit : ∀ {Q' : Value → Shared → Prop}, Q' (.ref ax) s → wpAny (model prog w) A (eval iter env) Q' E s)
    (h : ∀ D h' tk, Fr h₀ L h' m → News h₀ L h' ((D, lst outs) :: news) → (∀ p ∈ news, p.1 ≠ D) → Q (.ref D) { s with heap := h', toks := tk })
    (hs : ∀ x, foldedSetIterable iter env x = pure x := by intro _; rfl) :
    wpAny (model prog w) A (eval (.ListComp (.Name z pz) [⟨.Tuple [.Name x px, .Name x₂ px₂] tk tp, iter, [], 0⟩] scope pos) env) Q E s := by
  obtain ⟨o1, e1⟩ : ∃ o, (Q26.hd.heap_39 w.params).lookup 155 = some o := ⟨_, rfl⟩
  obtain ⟨o2, e2⟩ : ∃ o, (Q26.hd.heap_39 w.params).lookup 156 = some o := ⟨_, rfl⟩
  obtain ⟨o3, e3⟩ : ∃ o, (Q26.hd.heap_39 w.params).lookup 157 = some o := ⟨_, rfl⟩
  have g1 := X _ _ e1
  have g2 := X _ _ e2
  have g3 := X _ _ e3
  have hLn : ∀ b o, h₀.get? b = some o → b ≠ L := fun b o e q => by
    have := Heap.lt_size e
    rw [q] at this
    exact absurd (Nat.lt_of_lt_of_le this F.above) (Nat.lt_irrefl _)
  have F' : Fr (hideAll h₀ [155, 156, 157]) L s.heap m := fr_hide F
  have N' : News (hideAll h₀ [155, 156, 157]) L s.heap ((155, o1) :: (156, o2) :: (157, o3) :: news) := by
    intro q hq
    rcases List.mem_cons.mp hq with rfl | hq
    · exact ⟨F.keep _ _ g1, hLn _ _ g1, hideAll_none _ (by simp)⟩
    · rcases List.mem_cons.mp hq with rfl | hq
      · exact ⟨F.keep _ _ g2, hLn _ _ g2, hideAll_none _ (by simp)⟩
      · rcases List.mem_cons.mp hq with rfl | hq
        · exact ⟨F.keep _ _ g3, hLn _ _ g3, hideAll_none _ (by simp)⟩
        · refine ⟨(N q hq).1, (N q hq).2.1, ?_⟩
          cases hc : (hideAll h₀ [155, 156, 157]).get? q.1 with
          | none => rfl
          | some o => have := of_hideAll _ hc; rw [(N q hq).2.2] at this; cases this
  have P' : Paired (Chosen sel ((155, o1) :: (156, o2) :: (157, o3) :: news)) vs outs := by
    refine paired_imp (fun v y => ?_) P
    rintro ⟨t, ot, a, b, nt, rfl, hst, hcl, hd, hy⟩
    refine ⟨t, ot, a, b, nt, rfl, ?_, hcl, hd, hy⟩
    rcases hst with ⟨hst, hkt⟩ | hst
    · rcases hkt with rfl | rfl | rfl
      · rw [e1] at hst; cases hst; exact .head _
      · rw [e2] at hst; cases hst; exact .tail _ (.head _)
      · rw [e3] at hst; cases hst; exact .tail _ (.tail _ (.head _))
    · exact .tail _ (.tail _ (.tail _ hst))
  refine ListComp_P F' hclos hcell hkind hnames hx hx₂ hxx (hit ?_) hs
  refine SrcLP.ledger hh F' N' (.tail _ (.tail _ (.tail _ hax))) (by rw [List.size_toArray, sizeLine_eq]; omega) fun g => ?_
  rw [List.size_toArray]
  refine rest_pairs hdb hz hkind hsel (.inr ⟨_, .tail _ (.tail _ (.tail _ hax)), rfl, _, rfl⟩) vs outs P' 0 [] (fun j v hj => by simpa using hj) ?_
  rw [List.nil_append]
  intro D h' tk F2 N2 off
  have hoff : ∀ p ∈ (155, o1) :: (156, o2) :: (157, o3) :: news, p.1 ≠ D := by
    have : ∀ l : List (Addr × Obj), Off1 D l → ∀ p ∈ l, p.1 ≠ D := by
      intro l
      induction l with
      | nil => intro _ p hp; cases hp
      | cons q r ih =>
        intro o p hp
        rcases List.mem_cons.mp hp with rfl | hp
        · exact o.1
        · exact ih o.2 p hp
    exact this _ off
  have keep : ∀ b o, h₀.get? b = some o → h'.get? b = some o := fun b o e => by
    by_cases hb : b ∈ [155, 156, 157]
    · rcases List.mem_cons.mp hb with rfl | hb
      · rw [g1] at e; cases e; exact (N2 _ (.tail _ (.head _))).1
      · rcases List.mem_cons.mp hb with rfl | hb
        · rw [g2] at e; cases e; exact (N2 _ (.tail _ (.tail _ (.head _)))).1
        · rw [List.mem_singleton.mp hb] at e ⊢; rw [g3] at e; cases e; exact (N2 _ (.tail _ (.tail _ (.tail _ (.head _))))).1
    · exact F2.keep b o (hideAll_get _ e hb)
  refine h D h' tk ⟨F2.ns, keep, F.above⟩ (fun q hq => ?_) fun p hp => hoff p (.tail _ (.tail _ (.tail _ hp)))
  rcases List.mem_cons.mp hq with rfl | hq
  · refine ⟨(N2 _ (.head _)).1, (N2 _ (.head _)).2.1, ?_⟩
    cases hc : h₀.get? D with
    | none => rfl
    | some o =>
      by_cases hb : D ∈ [155, 156, 157]
      · rcases List.mem_cons.mp hb with rfl | hb
        · exact absurd rfl (hoff (155, o1) (.head _))
        · rcases List.mem_cons.mp hb with rfl | hb
          · exact absurd rfl (hoff (156, o2) (.tail _ (.head _)))
          · exact absurd (List.mem_singleton.mp hb).symm (hoff (157, o3) (.tail _ (.tail _ (.head _))))
      · have := (N2 _ (.head _)).2.2
        rw [hideAll_get _ hc hb] at this
        cases this
  · exact ⟨(N2 _ (.tail _ (.tail _ (.tail _ (.tail _ hq))))).1, (N q hq).2.1, (N q hq).2.2⟩
theorem pairs_snd {news : List (Addr × Obj)} {vs : List Value} {sg : List (Str × Str)} (P : PairsIn w news vs sg) :
    ∃ l : List (Str × Tok), l.map (·.1) = sg.map (·.2) ∧ Paired (fun v y => ∃ t ot a b nt, v = .ref t ∧ Stands w news t ot ∧ ot.cls = .type "tuple" ∧ ot.data = .seq #[a, b] nt ∧ (fun _ b => b) a b = y) vs (strValues l) := by
  induction P with
  | nil => exact ⟨[], rfl, .nil⟩
  | cons hp _ ih =>
    obtain ⟨l, e, Pl⟩ := ih
    obtain ⟨t, o, ta, tb, n, rfl, hst, hc, hd⟩ := hp
    exact ⟨(_, tb) :: l, by simp [e], .cons ⟨t, o, _, _, n, rfl, hst, hc, hd, rfl⟩ Pl⟩
theorem pairs_fst {news : List (Addr × Obj)} {vs : List Value} {sg : List (Str × Str)} (P : PairsIn w news vs sg) :
    ∃ l : List (Str × Tok), l.map (·.1) = sg.map (·.1) ∧ Paired (fun v y => ∃ t ot a b nt, v = .ref t ∧ Stands w news t ot ∧ ot.cls = .type "tuple" ∧ ot.data = .seq #[a, b] nt ∧ (fun a _ => a) a b = y) vs (strValues l) := by
  induction P with
  | nil => exact ⟨[], rfl, .nil⟩
  | cons hp _ ih =>
    obtain ⟨l, e, Pl⟩ := ih
    obtain ⟨t, o, ta, tb, n, rfl, hst, hc, hd⟩ := hp
    exact ⟨(_, ta) :: l, by simp [e], .cons ⟨t, o, _, _, n, rfl, hst, hc, hd, rfl⟩ Pl⟩
theorem sgn_len {sg : List (Str × Str)} (h : ∀ p ∈ sg, Sgn p) : (sg.map (·.2.length)).sum ≤ 2 * sg.length ∧ (sg.map (·.1.length)).sum = sg.length := by
  induction sg with
  | nil => simp
  | cons p sg ih =>
    obtain ⟨i1, i2⟩ := ih fun q hq => h q (.tail _ hq)
    simp only [List.map_cons, List.sum_cons, List.length_cons, Str.length]
    simp only [Str.length] at i1 i2
    rcases h p (.head _) with ⟨c, c1, c2, c3, ha, hb⟩ | ⟨ha, hb⟩ | ⟨ha, hb⟩ | ⟨ha, hb⟩ <;> rw [ha, hb] <;> simp <;> omega
theorem comp_snd {z x x₂ : Str} {pz px px₂ tp pos : Pos} {tk} {iter : Expr} {scope : Scope} {cl : List (Str × Addr)} {news : List (Addr × Obj)} {ax : Addr} {vs : List Value} {sg : List (Str × Str)} {k : Nat} {Q : Value → Shared → Prop}
    (F : Fr h₀ L s.heap m) (X : (Q26.hd.heap_39 w.params).In h₀) (N : News h₀ L s.heap news) (hax : (ax, listOf vs.toArray k) ∈ news) (P : PairsIn w news vs sg) (hsg : ∀ p ∈ sg, Sgn p) (hlen : sg.length ≤ 6)
    (hit : ∀ {Q' : Value → Shared → Prop}, Q' (.ref ax) s → wpAny (model prog w) A (eval iter env) Q' E s)
    (h : ∀ D h' tk l, l.map (·.1) = sg.map (·.2) → JoinOk (Str.ofString "") (sg.map (·.2)) = true → ((sg.map (·.2)).map (·.length)).sum ≤ 12 → Fr h₀ L h' m → News h₀ L h' ((D, lst (strValues l)) :: news) → (∀ p ∈ news, p.1 ≠ D) → Q (.ref D) { s with heap := h', toks := tk })
    (hz : z = x₂) (hh : A.handled = none) (hclos : closureFor scope env = pure cl) (hcell : ∀ y ∈ scope.names, y.2 ≠ .cell) (hkind : scope.kind = .function)
    (hnames : ∀ y ∈ scope.names, y.2 = .local → scope.names.lookup y.1 = some .local) (hx : scope.names.lookup x = some .local) (hx₂ : scope.names.lookup x₂ = some .local) (hxx : x ≠ x₂) (hdb : (z == ("__debug__" : Str)) = false)
    (hs : ∀ x, foldedSetIterable iter env x = pure x := by intro _; rfl) :
    wpAny (model prog w) A (eval (.ListComp (.Name z pz) [⟨.Tuple [.Name x px, .Name x₂ px₂] tk tp, iter, [], 0⟩] scope pos) env) Q E s := by
  subst hz
  obtain ⟨l, e, Pl⟩ := pairs_snd P
  have hv := P.length
  have hb : ((sg.map (·.2)).map (·.length)).sum ≤ 12 := by rw [List.map_map]; exact Nat.le_trans (sgn_len hsg).1 (by omega)
  have hj : JoinOk Str.empty (sg.map (·.2)) = true := joinOk_of (Nat.le_trans hb (by omega))
  exact comp_pairs F X N hax Pl (by omega) hh hclos hcell hkind hnames hx hx₂ hxx hdb hx₂ (fun _ _ _ _ hb => hb) hit (fun D h' tk F' N' off => h D h' tk l e hj hb F' N' off) hs
theorem comp_fst {z x x₂ : Str} {pz px px₂ tp pos : Pos} {tk} {iter : Expr} {scope : Scope} {cl : List (Str × Addr)} {news : List (Addr × Obj)} {ax : Addr} {vs : List Value} {sg : List (Str × Str)} {k : Nat} {Q : Value → Shared → Prop}
    (F : Fr h₀ L s.heap m) (X : (Q26.hd.heap_39 w.params).In h₀) (N : News h₀ L s.heap news) (hax : (ax, listOf vs.toArray k) ∈ news) (P : PairsIn w news vs sg) (hsg : ∀ p ∈ sg, Sgn p) (hlen : sg.length ≤ 6)
    (hit : ∀ {Q' : Value → Shared → Prop}, Q' (.ref ax) s → wpAny (model prog w) A (eval iter env) Q' E s)
    (h : ∀ D h' tk l, l.map (·.1) = sg.map (·.1) → JoinOk (Str.ofString "") (sg.map (·.1)) = true → ((sg.map (·.1)).map (·.length)).sum ≤ 12 → Fr h₀ L h' m → News h₀ L h' ((D, lst (strValues l)) :: news) → (∀ p ∈ news, p.1 ≠ D) → Q (.ref D) { s with heap := h', toks := tk })
    (hz : z = x) (hh : A.handled = none) (hclos : closureFor scope env = pure cl) (hcell : ∀ y ∈ scope.names, y.2 ≠ .cell) (hkind : scope.kind = .function)
    (hnames : ∀ y ∈ scope.names, y.2 = .local → scope.names.lookup y.1 = some .local) (hx : scope.names.lookup x = some .local) (hx₂ : scope.names.lookup x₂ = some .local) (hxx : x ≠ x₂) (hdb : (z == ("__debug__" : Str)) = false)
    (hs : ∀ x, foldedSetIterable iter env x = pure x := by intro _; rfl) :
    wpAny (model prog w) A (eval (.ListComp (.Name z pz) [⟨.Tuple [.Name x px, .Name x₂ px₂] tk tp, iter, [], 0⟩] scope pos) env) Q E s := by
  subst hz
  obtain ⟨l, e, Pl⟩ := pairs_fst P
  have hv := P.length
  have hb : ((sg.map (·.1)).map (·.length)).sum ≤ 12 := by rw [List.map_map]; exact Nat.le_trans (Nat.le_of_eq (sgn_len hsg).2) (by omega)
  have hj : JoinOk Str.empty (sg.map (·.1)) = true := joinOk_of (Nat.le_trans hb (by omega))
  exact comp_pairs F X N hax Pl (by omega) hh hclos hcell hkind hnames hx hx₂ hxx hdb hx (fun _ _ _ ha _ => ha) hit (fun D h' tk F' N' off => h D h' tk l e hj hb F' N' off) hs
theorem join_use {D : Addr} {l : List (Str × Tok)} {texts : List Str} {t : Tok} {b : Nat} {news : List (Addr × Obj)} {Q : Value → Shared → Prop} (N : News h₀ L s.heap news) (hm : (D, lst (strValues l)) ∈ news) (e : l.map (·.1) = texts) (hok : JoinOk (Str.ofString "") texts = true) (hb : (texts.map (·.length)).sum ≤ b)
    (h : ∀ S t' k, S.cps.toList = (texts.map (·.cps.toList)).flatten → S.length ≤ b → Q (.str S t') { s with toks := k }) : wpAny (model prog w) A (call (.builtin "str.join") [.str (Str.ofString "") t, .ref D]) Q E s := by
  have e0 : (Str.ofString "" : Str) = Str.empty := by decide
  refine SC.join (l := l) ⟨_, (N _ hm).1, rfl, _, rfl⟩ e hok fun t' k => h _ t' k ?_ ?_
  · rw [e0]; exact join_cps _
  · refine Nat.le_trans (Nat.le_of_eq ?_) hb
    have : (Txt.join (Str.ofString "") texts).length = (Txt.join (Str.ofString "") texts).cps.toList.length := by simp [Str.length]
    rw [this, e0, join_cps, List.length_flatten, List.map_map]
    congr 1
end
end Q26
end
-- part QBent
section
namespace Q26
theorem calm16 : True := by
  w_top off
  trivial
end Q26
open PySem PySem.W PyProof.Rows PySem.Spec PySem.Calls PyProof.Rows.LCg PyProof.Rows.LCp
namespace Q26
theorem warm11 : PySem.Challenge.rw_pc0026_01.prog = PySem.Challenge.rw_pc0026_01.prog ∧ Q26.hd.heap_39 = Q26.hd.heap_39 := by
  k_fill
  exact ⟨rfl, rfl⟩
def bentText (way : Int) (e rest : List Nat) : List Nat := 34 :: (e ++ (if way = 0 then 10 :: 34 :: rest else if way = 1 then [] else if way = 2 then 92 :: 113 :: 34 :: rest else if way = 3 then 92 :: 10 :: 34 :: rest else [92]))
def bentSpot (way : Int) (b n : Nat) : Nat := if way = 0 ∨ way = 1 then b else b + 1 + n
theorem enc_of {sg : List (Str × Str)} {S : Str} (h : S.cps.toList = ((sg.map (·.2)).map (·.cps.toList)).flatten) : S.cps.toList = enc sg := by
  rw [h, List.map_map]; rfl
theorem mnt_of {sg : List (Str × Str)} {S : Str} (h : S.cps.toList = ((sg.map (·.1)).map (·.cps.toList)).flatten) : S.cps.toList = mnt sg := by
  rw [h, List.map_map]; rfl
theorem bq : (Str.ofString "\"").cps.toList = [34] := by decide
theorem b0 : (Str.ofString "\n\"").cps.toList = [10, 34] := by decide
theorem bb : (Str.ofString "\\").cps.toList = [92] := by decide
theorem b2 : (Str.ofString "q\"").cps.toList = [113, 34] := by decide
theorem be : (Str.ofString "").cps.toList = [] := by decide
local macro_rules | `(tactic| walk_at "last subscriptTail") => `(tactic| (with_reducible refine stop_here ?_))
theorem int3 (b n : Nat) : (b : Int) + 1 + (n : Int) = ((b + 1 + n : Nat) : Int) := by omega
theorem news_d2 {h₀ h : Heap} {L : Addr} {q a : Addr × Obj} {r : List (Addr × Obj)} (N : News h₀ L h (q :: a :: r)) : News h₀ L h (q :: r) := fun p hp => N p ((List.mem_cons.mp hp).elim (fun e => e ▸ .head _) fun hp => .tail _ (.tail _ hp))
local macro_rules | `(tactic| k_all) => `(tactic| with_reducible assumption)
local macro_rules | `(tactic| walk_at "eval ListComp") => `(tactic| (k_here; k_dflt (refine' comp_snd ?F ?X ?N ?hax ?P ?hsg ?hlen ?hit ?_ ?c1 ?c2 ?c3 ?c4 ?c5 ?c6 ?c7 ?c8 ?c9 ?c10; (case F => k_asm); (case X => k_asm); (case N => k_asm); (case c1 => rfl); (case c2 => rfl); (case c3 => with_unfolding_all rfl); (case c4 => decide); (case c5 => rfl); (case c6 => decide); (case c7 => rfl); (case c8 => rfl); (case c9 => decide); (case c10 => decide); (case hit => (intro Q9 q9; k_steps; exact q9)); (case hax => k_mem); (case P => (refine PairsIn.mono (by assumption) (fun q9 hq9 => ?_); (repeat (first | exact hq9 | apply List.mem_cons_of_mem)))); (case hsg => assumption); (case hlen => assumption)); intro D9 h9 tk9 l9 e9 j9 b9 F9 N9 o9; (try k_sweep)))
local macro_rules | `(tactic| walk_at "call builtin:str.join") => `(tactic| (k_dflt (refine' join_use ?k1 ?k2 ?k3 ?k4 ?k5 ?_; (case k1 => k_asm); (case k2 => k_mem); (case k3 => assumption); (case k4 => assumption); (case k5 => assumption)); intro S9 t9 k9 c9 b9))
set_option maxRecDepth 100000 in
set_option maxHeartbeats 8000000 in
theorem bent_walk {w : World} {mean : ExcName → Option Value} {mg mb : Str → Option Value} {dp un : Nat} {gd : Option (List Code)} {cn : Str} {cs : Scope} {a : Addr} {ccd : Value} {cl : List (Str × Addr)} {outer : List Env} {A₀ : Around} {base h₀ : Heap} {L : Addr} {m : Str → Option Value} {s : Shared}
    {Q E : Value → Shared → Prop} {f : Addr} {nn : Nat} {b : Nat} {way : Int} {tw tb tr : Tok} {rest : Str} {vs : List Value} {sg : List (Str × Str)} {tl : List (Addr × Obj)}
    (B : Below A₀ base outer h₀) (F : Fr h₀ L s.heap m) (X : (Q26.hd.heap_39 w.params).In h₀) (N : News h₀ L s.heap ((f, listOf vs.toArray nn) :: tl)) (T : TT mean mg mb h₀) (hk : cs.kind = .function)
    (P : PairsIn w tl vs sg) (hsg : ∀ p ∈ sg, Sgn p) (hlen : sg.length ≤ 6) (hw0 : 0 ≤ way) (hw5 : way < 5) (hrest : rest.length ≤ 1000)
    (hd : dp + 3 < recursionLimit) (hu : un + 50 < cLine)
    (ret : ∀ r S tS (e : Nat) te n h' tk', S.cps.toList = bentText way (enc sg) rest.cps.toList → e = bentSpot way b (enc sg).length → Fr h₀ L h' m → News h₀ L h' ((r, { cls := .type "tuple", data := .seq #[.str S tS, .int (e : Int) te] n }) :: (f, listOf vs.toArray nn) :: tl) →
      (∀ p ∈ tl, p.1 < r) → @LT.lt Nat _ f r → Q (.ref r) { s with heap := h', toks := tk' }) :
    wpAny (model PP w) (ktrTop dp un gd cn cs L a ccd cl outer) (call (.ref 184) [.int way tw, .ref f, .int (b : Int) tb, .str rest tr]) Q E s := by
  refine wpAny_call ?_
  k_dflt ktr_enter
  k_steps
  · have c9' := enc_of (by assumption)
    rename (_ < _ ∧ _) => l5
    rename News h₀ L _ _ => N5
    rename Fr h₀ L _ m => F5
    rename way = 0 => hw
    subst hw
    exact ret _ _ _ b _ _ _ _ (by simp [Str.cps_append, bq, b0, c9', bentText]) (by simp [bentSpot]) F5 (news_d2 N5) (lt_of_allLt l5.2.2) l5.2.1
  · have c9' := enc_of (by assumption)
    rename (_ < _ ∧ _) => l5
    rename News h₀ L _ _ => N5
    rename Fr h₀ L _ m => F5
    rename way = 1 => hw
    subst hw
    exact ret _ _ _ b _ _ _ _ (by simp [Str.cps_append, bq, c9', bentText]) (by simp [bentSpot]) F5 (news_d2 N5) (lt_of_allLt l5.2.2) l5.2.1
  · have hw : way = 2 ∨ way = 3 ∨ way = 4 := by
      have h0 : way ≠ 0 := by assumption
      have h1 : way ≠ 1 := by assumption
      omega
    rename News _ _ _ ((_, _) :: _) => N6
    refine stop_on ?_
    rcases hw with rfl | rfl | rfl
    · refine item_tupleT (j := 0) (News.isTup N6 (.head _)) (by decide) (by decide) rfl rfl ?_
      k_steps
      have c9' := enc_of (by assumption)
      rename (_ < _ ∧ _ < _ ∧ _ < _ ∧ AllLt _ _) => l5
      rename News h₀ L _ _ => N5
      rename Fr h₀ L _ m => F5
      rw [int3] at N5
      exact ret _ _ _ _ _ _ _ _ (by simp [Str.cps_append, bq, bb, b0, b2, be, c9', bentText]) (by simp [bentSpot, Str.length, ← c9']) F5 (news_d2 (news_d2 N5)) (lt_of_allLt l5.2.2.2) l5.2.2.1
    · refine item_tupleT (j := 1) (News.isTup N6 (.head _)) (by decide) (by decide) rfl rfl ?_
      k_steps
      have c9' := enc_of (by assumption)
      rename (_ < _ ∧ _ < _ ∧ _ < _ ∧ AllLt _ _) => l5
      rename News h₀ L _ _ => N5
      rename Fr h₀ L _ m => F5
      rw [int3] at N5
      exact ret _ _ _ _ _ _ _ _ (by simp [Str.cps_append, bq, bb, b0, b2, be, c9', bentText]) (by simp [bentSpot, Str.length, ← c9']) F5 (news_d2 (news_d2 N5)) (lt_of_allLt l5.2.2.2) l5.2.2.1
    · refine item_tupleT (j := 2) (News.isTup N6 (.head _)) (by decide) (by decide) rfl rfl ?_
      k_steps
      have c9' := enc_of (by assumption)
      rename (_ < _ ∧ _ < _ ∧ _ < _ ∧ AllLt _ _) => l5
      rename News h₀ L _ _ => N5
      rename Fr h₀ L _ m => F5
      rw [int3] at N5
      exact ret _ _ _ _ _ _ _ _ (by simp [Str.cps_append, bq, bb, b0, b2, be, c9', bentText]) (by simp [bentSpot, Str.length, ← c9']) F5 (news_d2 (news_d2 N5)) (lt_of_allLt l5.2.2.2) l5.2.2.1
end Q26
end
-- part QExc
section
namespace Q26
theorem calm17 : True := by
  w_top off
  trivial
end Q26
open PySem PySem.W PyProof.Rows PySem.Spec PySem.Calls
set_option maxRecDepth 100000
namespace Q26
abbrev tupObj (rest : List Value) : Obj := { cls := .type "tuple", data := .seq rest.toArray }
abbrev excObj (C t : Addr) (d : Option Addr) : Obj := { cls := .ref C, dict := d, data := .fields #[.ref t, .none, .none, .none, .bool false, .none] }
section
variable {prog : Program} {w : World} {A : Around} {E : Value → Shared → Prop} {R : Result → Shared → Prop} {h : Heap} {g : Array GenState} {d : Drawn} {t : Nat} {os : OsState}
variable {nm q : Str} {C N : Addr} {bs bm bmB : List Value} {hdct : Bool} {sn : List Str} {sub : List Value} {ab : Bool} {col : Option Bool} {dd : Option Addr} {k0 k1 k2 k3 k5 : Option Value} {B newId initId : String}
theorem exc_checkNew {M : Model} (F : ExcBaseFacts B newId initId bmB) (hB : bm.contains (.type B) = true) {rest : List Value} {Q : Unit → Shared → Prop} (hC : h.get? C = some (excClassObj nm q C N bs bm hdct sn sub ab col dd k0 k1 k2 k3 k5 newId))
    (hq : Q () ⟨h, g, d, t, os⟩) : wpAny M A (checkBuiltinCall newId ⟨.ref C :: rest, []⟩) Q E ⟨h, g, d, t, os⟩ := by
  have hb : (Value.ref C :: bm).contains (.type B) = true := by rw [List.contains_cons, hB, Bool.or_true]
  have hs := F.noStar
  simp only [checkBuiltinCall, F.newKind, F.newSplit, F.newRow]
  repeat (first | refine wpAny_loadPart_at hC ?_ | (refine wpAny_isSubtype_exc hC ?_; rw [hb]) | refine wpAny_staticBase_exc hC ?_ | refine wpAny_madeBy_exc hC ?_ | simp only [bne_self_eq_false, Bool.false_eq_true, if_false] | wp_step)
  exact hq
theorem exc_new (F : ExcBaseFacts B newId initId bmB) (hB : bm.contains (.type B) = true) (hA : bm.contains (.type "AttributeError") = false) (hN : bm.contains (.type "NameError") = false) {rest : List Value}
    (hC : h.get? C = some (excClassObj nm q C N bs bm hdct sn sub ab col dd k0 k1 k2 k3 k5 newId)) (hrest : rest.length ≤ sizeLine)
    (hq : R (.ok (.ret (.ref (h.objs.size + 1)))) ⟨(h.push (tupObj rest)).push (excObj C h.objs.size none), g, d, t, os⟩) :
    codeAny (model prog w) A (.builtin newId ⟨.ref C :: rest, []⟩) R ⟨h, g, d, t, os⟩ := by
  have he := F.ends
  have c1 : (Value.ref C :: bm).contains (.type B) = true := by rw [List.contains_cons, hB, Bool.or_true]
  have c2 : (Value.ref C :: bm).contains (.type "AttributeError") = false := by rw [List.contains_cons, hA]; rfl
  have c3 : (Value.ref C :: bm).contains (.type "NameError") = false := by rw [List.contains_cons, hN]; rfl
  refine codeAny_builtinAt F.entry ?_
  unfold Builtin.«BaseException.__new__»
  refine PySem.wpAt_bind ?_
  show PySem.wpAt _ _ _ (stack >>= _) _ _ _
  refine PySem.wpAt_bind (PySem.wpAt_stack fun p below => PySem.wpAt_of_wpAny ?_)
  wp_walk
  refine PySem.wpAt_of_wpAny ?_
  rw [F.owner]
  repeat (first | with_reducible refine wpAny_madeHere_exc F.canon hC ?_ | with_reducible refine wpAny_loadPart_at hC ?_ | (with_reducible refine wpAny_isSubtype_exc hC ?_; first | rw [c1] | rw [c2] | rw [c3]) | wp_step)
  show R _ _
  rw [Heap.size_push]
  exact hq
theorem exc_make {f : Addr} {rest : List Value} (F : ExcBaseFacts B newId initId bmB) (hB : bm.contains (.type B) = true) (hA : bm.contains (.type "AttributeError") = false) (hN : bm.contains (.type "NameError") = false)
    (hC : h.get? C = some (excClassObj nm q C N bs bm hdct sn sub ab col dd k0 k1 k2 k3 k5 newId)) (hrest : rest.length ≤ sizeLine)
    (hi : Looks (model prog w) h (typeLookup (.ref C) "__init__") (some (.ref f))) (hf : ∀ self, Looks (model prog w) h (bindSpecial (.ref f) self) (.ref f, [self]))
    (hq : codeAny (model prog w) (A.under (.builtin "type.__call__" ⟨.ref C :: rest, []⟩)) (.call (.ref f) ⟨.ref (h.objs.size + 1) :: rest, []⟩) (InitBack (h.objs.size + 1) R) ⟨(h.push (tupObj rest)).push (excObj C h.objs.size none), g, d, t, os⟩) :
    codeAny (model prog w) A (.call (.ref C) ⟨rest, []⟩) R ⟨h, g, d, t, os⟩ := by
  have f1 := tc_lookup
  have f2 := tc_bind (.ref C)
  have hT : (⟨h, g, d, t, os⟩ : Shared).TypeIs (.ref C) "type" := ⟨_, hC, rfl⟩
  refine codeAny_of_tree ?_
  show wpAny _ _ (callAny (.ref C) _) _ _ _
  repeat (any_goals (first | assumption | with_reducible refine wpAny_loadPart_at hC ?_ | wp_step))
  refine ⟨rfl, ?_⟩
  refine codeAny_call_builtin_at (Code.quiet_builtin _ (by decide +kernel)) entry_typeCall (wpAny_check_type_call_sub hC ?_)
  unfold Builtin.«type.__call__»
  repeat (first | with_reducible refine wpAny_loadPart_at hC ?_ | with_reducible refine wpAny_madeBy_exc hC ?_ | wp_step)
  refine codeAny_call_builtin_code (Code.quiet_builtin _ F.quiet) (exc_checkNew F hB hC ?_)
  refine exc_new F hB hA hN hC hrest ?_
  show wpAny _ _ _ _ _ _
  have k : ∀ b o, h.get? b = some o → ((h.push (tupObj rest)).push (excObj C h.objs.size none)).get? b = some o := fun b o e => Heap.get?_push_of_some _ (Heap.get?_push_of_some _ e)
  have hC₁ := k _ _ hC
  have hget : ((h.push (tupObj rest)).push (excObj C h.objs.size none)).get? (h.objs.size + 1) = some (excObj C h.objs.size none) := by heap_get
  have hcC : (Value.ref C :: bm).contains (.ref C) = true := by simp
  have i1 := hi.keeps k
  have b1 := (hf (.ref (h.objs.size + 1))).keeps k
  simp only [List.append_eq, List.nil_append, List.cons_append]
  unfold isInstance
  repeat (first | with_reducible refine wpAny_loadPart_at hget ?_ | wp_step)
  show wpAny _ _ (isSubtype (.ref C) _) _ _ _
  refine wpAny_isSubtype_exc hC₁ ?_
  rw [hcC]
  simp only [Bool.not_true, Bool.false_eq_true, if_false]
  unfold callSpecial? specialOf
  have t1 : Looks (model prog w) ((h.push (tupObj rest)).push (excObj C h.objs.size none)) (typeOf (.ref (h.objs.size + 1))) (.ref C) := (Looks.ld hget).andThen .now
  repeat (first | with_reducible refine wpAny_call ?_ | lk)
  refine codeAny_mono hq fun r s' z => ?_
  rcases r with e | (v | _ | _ | _) <;> first | exact z | exact z.elim | skip
  obtain ⟨rfl, z⟩ := z
  exact wpAny_pure (wpAny_pure z)
end
end Q26
end
-- part QSup
section
namespace Q26
theorem calm18 : True := by
  w_top off
  trivial
end Q26
open PySem PySem.W PyProof.Rows PySem.Spec PySem.Calls
set_option maxRecDepth 100000
namespace Q26
theorem wd_slot : Slot "wrapper_descriptor" "__get__" "wrapper_descriptor.__get__" := .of (owner := "wrapper_descriptor") (n := "__get__") (by rw [typeLookup_type, builtinLookup_eq_fast]; kernel_rfl) (by decide +kernel) (by decide +kernel) (by decide +kernel)
  (by first | exact .inl (by decide +kernel) | exact .inr (by decide +kernel)) (by rw [isSubtype_type]; kernel_rfl)
theorem wd_entry : entryFor table "wrapper_descriptor.__get__" = some Builtin.«wrapper_descriptor.__get__» := entryFor_of_tree (by kernel_rfl)
theorem wd_args (a b c : Value) : argsOk "wrapper_descriptor.__get__" ⟨[a, b, c], []⟩ := by unfold argsOk; kernel_rfl
theorem ei_type : typeOf (.builtin "Exception.__init__") = pure (.type "wrapper_descriptor") := by kernel_rfl
abbrev wrapObj (i : String) (x : Addr) : Obj := { cls := .type "method-wrapper", data := .fields #[.builtin i, .ref x] }
section
variable {prog : Program} {w : World} {M : Model} {A : Around} {E : Value → Shared → Prop} {R : Result → Shared → Prop} {h : Heap} {g : Array GenState} {d : Drawn} {t : Nat} {os : OsState}
variable {nm q : Str} {C N : Addr} {bs bm bmB : List Value} {hdct : Bool} {sn : List Str} {sub : List Value} {ab : Bool} {col : Option Bool} {dd : Option Addr} {k0 k1 k2 k3 k5 : Option Value} {newId : String}
theorem wrap_get {x : Addr} {ox : Obj} {Q : Value → Shared → Prop} (hx : h.get? x = some ox) (hc : ox.cls = .ref C) (hi : Looks (model prog w) h (isSubtype (.ref C) (.type "Exception")) true)
    (hq : Q (.ref h.objs.size) ⟨h.push (wrapObj "Exception.__init__" x), g, d, t, os⟩) :
    wpAny (model prog w) A (call (.builtin "wrapper_descriptor.__get__") [.builtin "Exception.__init__", .ref x, .ref C]) Q E ⟨h, g, d, t, os⟩ := by
  refine wpAny_call_entry wd_slot (show Shared.TypeIs _ _ _ from ei_type) wd_entry ?_ (wd_args _ _ _)
  unfold Builtin.«wrapper_descriptor.__get__»
  have e : ".".intercalate ("Exception.__init__".cutAt '.').dropLast = "Exception" := by decide +kernel
  repeat (first | (with_reducible refine wpAny_loadPart_at hx ?_; rw [hc]) | (rw [e]; refine Looks.at hi ?_) | (with_reducible refine ⟨_, rfl, ?_⟩) | wp_step | dsimp only)
  all_goals exact hq
/-- a bound __init__ of the base, called -/
theorem wrap_call {b x t0 : Addr} {dc : Option Addr} {rest : List Value} (hb : h.get? b = some (wrapObj "Exception.__init__" x)) (hlen : rest.length ≤ sizeLine) (hx : h.get? x = some (excObj C t0 dc)) (hC : h.get? C = some (excClassObj nm q C N bs bm hdct sn sub ab col dd k0 k1 k2 k3 k5 newId))
    (hq : R (.ok (.ret .none)) ⟨(h.push (tupObj rest)).update x (Obj.mapFields (·.setIfInBounds 0 (.ref h.objs.size))), g, d, t, os⟩) :
    codeAny (model prog w) A (.call (.ref b) ⟨rest, []⟩) R ⟨h, g, d, t, os⟩ := by
  refine codeAny_of_tree ?_
  show wpAny _ A.in1 (callAny (.ref b) _) _ _ _
  unfold callAny
  refine wpAny_bind (wpAny_load hb ?_)
  have F := PySem.F.excBase_Exception
  have hs := F.noStar
  have hx1 := Heap.get?_push_of_some (tupObj rest) hx
  show wpAny _ _ (checkBoundCall "Exception.__init__" ⟨.ref x :: rest, []⟩ >>= fun _ => again (.builtin "Exception.__init__" ⟨.ref x :: rest, []⟩)) _ _ _
  refine wpAny_bind ?_
  simp only [checkBoundCall, F.initKind, F.initRow]
  repeat (first | with_reducible refine wpAny_loadPart_at hx ?_ | with_reducible refine wpAny_loadPart_at hC ?_ | wp_step)
  refine wpAny_onRaise ?_
  rw [show ∀ (a b : String) (n : Nat), Bind.check ⟨.positional, "*", "Exception", .self, [⟨"args", .varPos, false⟩]⟩ a b n (List.map (fun x => x.fst) ({ pos := Value.ref x :: rest } : Args).kw) = pure () from
    fun a b n => check_star_args _ _ _ _ _ _]
  refine wpAny_pure (wpAny_pure ⟨Code.quiet_builtin _ (by decide +kernel), codeAny_builtin F.initEntry ?_⟩)
  unfold Builtin.«BaseException.__init__»
  wp_walk
  exact hq
theorem sup_ga {so D x C : Addr} {i : String} {l₀ l : List Value} {K : Frag} {name : Str} {tk : Tok} {Q : PySem.Fin → Shared → Prop}
    (hso : h.get? so = some (ks_superObj D x C)) (hno : Looks (model prog w) h (opaqueClassAbove (.ref C)) none)
    (hC : Looks (model prog w) h (mroOf (.ref C)) l₀) (hl : (l₀.dropWhile (· != .ref D)).drop 1 = l) (X : K.In h)
    (hf : alongIn K name l = some (some (.builtin i))) (ht : typeOf (.builtin i) = pure (.type "wrapper_descriptor")) (hxC : x ≠ C) (hn : (name == ("__class__" : Str)) = false)
    (hq : ∀ A', wpAny (model prog w) A' (call (.builtin "wrapper_descriptor.__get__") [.builtin i, .ref x, .ref C]) (fun v s' => Q (.done (.ret v)) s') E ⟨h, g, d, t, os⟩) :
    wpAny (model prog w) A (Builtin.«super.__getattribute__» ⟨[.ref so, .str name tk], []⟩) Q E ⟨h, g, d, t, os⟩ := by
  have hlk := wd_slot.lookup
  have hne : (Value.ref x == Value.ref C) = false := by simp [hxC]
  have hdt : (ks_superObj D x C).data = .fields #[.ref D, .ref x, .ref C] := rfl
  have f0 : (#[.ref D, .ref x, .ref C] : Array Value)[0]? = some (.ref D) := rfl
  have f1 : (#[.ref D, .ref x, .ref C] : Array Value)[1]? = some (.ref x) := rfl
  have f2 : (#[.ref D, .ref x, .ref C] : Array Value)[2]? = some (.ref C) := rfl
  unfold Builtin.«super.__getattribute__»
  repeat (first
    | (with_reducible refine wpAny_field hso hdt f0 ?_) | (with_reducible refine wpAny_field hso hdt f1 ?_) | (with_reducible refine wpAny_field hso hdt f2 ?_)
    | (with_reducible refine ks_wpAny_notOpaque hno ?_)
    | (with_reducible refine Looks.at hC ?_; rw [hl])
    | (refine ks_forIn_along X (fun _ _ => rfl) rfl ?_ hf)
    | (with_reducible refine wpAny_of_eq ht ?_)
    | (with_reducible refine wpAny_mono (hq _) (fun v s' z => ?_) fun _ _ z => z)
    | (simp only [hn, hne, Bool.or_false, Bool.false_eq_true, if_false])
    | wp_step
    | dsimp only)
  all_goals exact z
end
end Q26
end
-- part QSup2
section
namespace Q26
theorem calm19 : True := by
  w_top off
  trivial
end Q26
open PySem PySem.W PyProof.Rows PySem.Spec PySem.Calls
set_option maxRecDepth 100000
namespace Q26
section
variable {prog : Program} {w : World} {M : Model} {A : Around} {E : Value → Shared → Prop} {R : Result → Shared → Prop} {s : Shared} {h₀ : Heap} {L : Addr} {m : Str → Option Value} {news : List (Addr × Obj)} {K : Frag}
theorem sup_method {x C D so : Addr} {ox : Obj} {odx : Option Obj} {name : Str} {pl : Sem Bool} {Q : Value × List Value → Shared → Prop} (F : Fr h₀ L s.heap m) (X₀ : K.In h₀) (N : News h₀ L s.heap news) (hso : (so, ks_superObj D x C) ∈ news) (I : InstAt s.heap x ox C odx) (ho : nsIn K cStatics "thirdparty.any" = some none)
    (hm : ks_superIn K C D name = some (some (.builtin "Exception.__init__"))) (hsub : mroIn K C (.type "Exception") = some true) (hn : (name == ("__class__" : Str)) = false)
    (h : ∀ q h', Fr h₀ L h' m → News h₀ L h' ((q, wrapObj "Exception.__init__" x) :: news) → (∀ p ∈ news, p.1 < q) → Q (.ref q, []) { s with heap := h', toks := s.toks + 1 }) : wpAny (model prog w) A (getMethod (.ref so) name pl) Q E s := by
  have X : K.In s.heap := X₀.keeps F.keep
  obtain ⟨hh, g, d, t, os⟩ := s
  cases hc : clsIn K C with
  | none => unfold ks_superIn at hm; rw [hc] at hm; cases hm
  | some cd =>
    unfold ks_superIn at hm
    rw [hc] at hm
    have hlk := PySem.F.ks_slot_super_ga.lookup
    have hcan := PySem.F.ks_canon_super_ga
    have hso' := (N _ hso).1
    have hT : ∀ t', (⟨hh, g, d, t', os⟩ : Shared).TypeIs (.ref so) "super" := fun _ => ⟨_, hso', rfl⟩
    have hmro : Looks (model prog w) hh (mroOf (.ref C)) cd.mro := fun A Q E s k q => wpAny_bind ((looks_clsIn X hc) A _ E s k (wpAny_pure q))
    unfold getMethod
    refine wpAny_bind (wpAny_specialOf (hT _) hlk ?_)
    show wpAny _ _ (if (Manifest.canonical "super.__getattribute__" != "object.__getattribute__") = true then _ else _) _ _ _
    rw [if_pos hcan]
    unfold getAttr getAttrBy
    refine wpAny_bind (wpAny_bind (wpAny_mkText (wpAny_holding (wpAny_bind (wpAny_typeOf (hT _) (wpAny_bind (wpAny_of_eq hlk ?_)))))))
    show wpAny _ _ (getAttrByItsOwn (.ref so) (.str name t) (.type "super") (.builtin "super.__getattribute__") true false) _ _ _
    unfold getAttrByItsOwn hookBefore callGetattribute boundAndCalled
    refine wpAny_bind (wpAny_of_eq (show (if onTheHeap (.type "super") then typeLookup (.type "super") "__getattr__" else pure none) = pure none from rfl) ?_)
    refine wpAny_bind (wpAny_attempt (wpAny_holding ?_))
    show wpAny _ _ (bindSpecial (.builtin "super.__getattribute__") (.ref so) >>= _) _ _ _
    refine wpAny_bind (wpAny_of_eq (PySem.F.ks_slot_super_ga.bind _) ?_)
    refine wpAny_mono (Q := fun v s' => v = .ref hh.objs.size ∧ s' = ⟨hh.push (wrapObj "Exception.__init__" x), g, d, t + 1, os⟩) (E := fun _ _ => False)
      (wpAny_call_entry PySem.F.ks_slot_super_ga (hT _) PySem.F.ks_entry_super_ga (sup_ga hso' (looks_opaque X ho) hmro rfl X hm ei_type (ks_ne X I hc) hn
        (fun A' => wrap_get I.at_ I.cls (looks_mroIn X hsub) ⟨_, rfl, rfl, rfl⟩)) (PySem.F.ks_gaArgs_super _ _)) (fun v s' hv => ?_) fun _ _ z => z.elim
    obtain ⟨rfl, rfl⟩ := hv
    refine wpAny_pure (wpAny_pure ?_)
    obtain ⟨F', N', l'⟩ := ks_newsPush (s := ⟨hh, g, d, t, os⟩) (o := wrapObj "Exception.__init__" x) F N rfl (Heap.get?_push_at rfl rfl) (fun b o e => Heap.get?_push_of_some _ e)
    exact h _ _ F' N' l'
end
end Q26
end
-- part QSet
section
namespace Q26
theorem calm20 : True := by
  w_top off
  trivial
end Q26
open PySem PySem.W PyProof.Rows PySem.Spec PySem.Calls Builtin Builtin.ObjectAttr
set_option maxRecDepth 100000
namespace Q26
section
variable {prog : Program} {w : World} {A : Around} {E : Value → Shared → Prop} {R : Result → Shared → Prop} {s : Shared} {h₀ : Heap} {L x C dx : Addr} {m : Str → Option Value} {K : Frag} {cd : ClassData}
theorem exc_osa {ox : Obj} {od : Option Obj} {name : Str} {tk : Tok} {v : Value} (X : K.In s.heap) (I : InstAt s.heap x ox C od) (hc : clsIn K C = some cd) (hp : refuseLoop (.ref x) "__setattr__" cd.mro = pure ())
    (hob : mroIn K C (.type "object") = some true) (ht : takerIn K C name = some none)
    (h : ∀ b, wpAny (model prog w) A.in1 (storeInOwnDict (.ref x) (.ref C) (.str name tk) name v b)
      (fun fin s' => match fin with | .done f => R (.ok f) s' | .again c' => c'.quiet = true ∧ codeAny (model prog w) A c' R s') (fun e s' => R (.error e) s') s) :
    codeAny (model prog w) A (.call (.builtin "object.__setattr__") ⟨[.ref x, .str name tk, v], []⟩) R s := by
  have SF := PySem.F.store_object
  have sub : Looks (model prog w) s.heap (isInstance (.ref x) (.type "object")) true := I.type.andThen (looks_mroIn X hob)
  refine codeAny_call_builtin SF.slot.plain SF.entry (@check_slot (model prog w) _ _ s "object.__setattr__" "object" "__setattr__" (.ref x) [.str name tk, v] [] _ SF.kind SF.split sub (SF.args (.ref x) (.str name tk) v) ?_)
  obtain ⟨attr, ha, hr⟩ := Option.bind_eq_some_iff.mp ht
  have hm : Looks (model prog w) s.heap (mroOf (.ref C)) cd.mro := (looks_clsIn X hc).andThen .now
  have L3 : Looks (model prog w) s.heap (storeTaker? attr) none := by
    cases attr with
    | none => exact .now
    | some a =>
      obtain ⟨b, hb, e⟩ := Option.map_eq_some_iff.mp hr
      refine (looks_takesIn X hb).andThen ?_
      cases b with
      | false => exact .now
      | true => cases e
  rw [osa_eq, refuse_eq]
  refine wpAny_bind (wpAny_bind (I.type.here (wpAny_bind (hm.here ?_))))
  rw [hp]
  refine wpAny_pure (wpAny_bind (I.type.here (wpAny_bind ((looks_findIn X ha).here (wpAny_bind (L3.here ?_))))))
  exact h _
theorem exc_put {name : Str} {v : Value} {tk : Tok} {od od' : Obj} {d : Addr} {pre post : List (Addr × Obj)} {es : List DictEntry} {n : Nat} {Q : PySem.Fin → Shared → Prop} (F : Fr h₀ L s.heap m) (N : News h₀ L s.heap (pre ++ (d, od) :: post))
    (hl : (lookIn name od).isSome = true) (h1 : ∀ p ∈ pre, p.1 ≠ d) (h2 : ∀ p ∈ post, p.1 ≠ d)
    (e : Obj.putName name (PyData.keyHash w.params name) (.str name s.toks) v od = od') (e' : od'.data = .dict es.toArray n) (hz : es.length ≤ 1000)
    (h : ∀ h', Fr h₀ L h' m → News h₀ L h' (pre ++ (d, od') :: post) → Q (.done (.ret .none)) { s with heap := h', toks := s.toks + 1 }) :
    wpAny (model prog w) A (storeInDict d (.str name tk) name v) Q E s := by
  obtain ⟨U1, U2⟩ := news_upd (f := Obj.putName name (PyData.keyHash w.params name) (.str name s.toks) v) F N h1 h2 e (by obtain ⟨_, _, dd, _⟩ := od'; cases e'; rfl)
  have D := (N (d, od) (by simp)).1
  have D' := (U2 (d, od') (by simp)).1
  unfold storeInDict newKeyGuard
  refine wpAny_bind (wpAny_pure (wpAny_bind ?_))
  unfold nsSet
  refine wpAny_bind (wpAny_bind (wpAny_askSetting (wpAny_pure (wpAny_bind (wpAny_mkText (wpAny_bind (wpAny_loadPart D ?_)))))))
  unfold lookIn at hl
  split at hl
  · rename_i es₀ n₀ q
    rw [q]
    dsimp only
    have c : (!es₀.any (·.key.isStr name) && es₀.any (·.refKey)) = false := by
      rw [← Array.any_toList, ← Array.any_toList]
      split at hl
      · rename_i en he
        rw [List.any_eq_true.mpr ⟨en, List.mem_of_find?_eq_some he, List.find?_some he⟩]; rfl
      · split at hl
        · cases hl
        · rename_i z; rw [Bool.not_eq_true] at z; rw [z, Bool.and_false]
    rw [aRefKeyMayBeTheName_at, c]
    refine wpAny_updatePart D ?_
    refine wpAny_bind (wpAny_lookBehind D' (by rw [e']; exact pastItsLine_dict (by rw [List.size_toArray, sizeLine_eq]; omega)) ?_)
    exact wpAny_pure (h _ U1 U2)
  · cases hl
theorem exc_store1 {t0 : Addr} {name : Str} {tk : Tok} {v : Value} {b : Bool} {pre post : List (Addr × Obj)} {Q : PySem.Fin → Shared → Prop} (F : Fr h₀ L s.heap m) (X : K.In s.heap) (N : News h₀ L s.heap (pre ++ (x, excObj C t0 none) :: post))
    (h1 : ∀ p ∈ pre, p.1 ≠ x) (h2 : ∀ p ∈ post, p.1 ≠ x) (hc : clsIn K C = some cd) (hd : cd.hasDict = true)
    (h : ∀ de h', Fr h₀ L h' m → News h₀ L h' ((de, dictOf [⟨PyData.keyHash w.params name, .str name s.toks, v⟩] 1) :: (pre ++ (x, excObj C t0 (some de)) :: post)) → (∀ p ∈ pre ++ (x, excObj C t0 none) :: post, p.1 < de) → Q (.done (.ret .none)) { s with heap := h', toks := s.toks + 1 }) :
    wpAny (model prog w) A (storeInOwnDict (.ref x) (.ref C) (.str name tk) name v b) Q E s := by
  have hx := (N (x, excObj C t0 none) (by simp)).1
  refine wpAny_bind (wpAny_pure (wpAny_bind (wpAny_bind (wpAny_loadPart hx (wpAny_bind ((looks_clsIn X hc) _ _ _ _ (fun _ _ e => e) ?_))))))
  rw [hd]
  show wpAny _ _ (alloc emptyDict >>= fun d => (update x fun o => { o with dict := some d }) >>= fun _ => dictMade (.ref C) x d) _ _ _
  have F1 := F.push emptyDict
  have N1 := N.push F emptyDict
  have hx1 := (N1 (x, excObj C t0 none) (by simp)).1
  refine wpAny_bind (wpAny_alloc (wpAny_bind (wpAny_update hx1 ?_)))
  have l1 : ∀ p ∈ pre ++ (x, excObj C t0 none) :: post, p.1 < s.heap.objs.size := fun p hp => Heap.lt_size (N p hp).1
  obtain ⟨F2, N2⟩ := news_upd (pre := (s.heap.objs.size, emptyDict) :: pre) (post := post) (f := fun o => { o with dict := some s.heap.objs.size }) (o' := excObj C t0 (some s.heap.objs.size)) F1 N1
    (fun p hp => by
      rcases List.mem_cons.mp hp with rfl | hp
      · exact Nat.ne_of_gt (l1 (x, excObj C t0 none) (by simp))
      · exact h1 p hp) h2 rfl rfl
  refine wpAny_pure ?_
  refine exc_put (s := { s with heap := _ }) (pre := []) (od := dictOf [] 0) (n := 1) (es := [⟨PyData.keyHash w.params name, .str name s.toks, v⟩]) F2 N2 rfl (fun _ h => nomatch h) ?_ ?_ rfl (by simp) (fun h' F' N' => h _ h' F' N' l1)
  · intro p hp
    rcases List.mem_append.mp hp with hp | hp
    · exact Nat.ne_of_lt (l1 p (List.mem_append_left _ hp))
    · rcases List.mem_cons.mp hp with rfl | hp
      · exact Nat.ne_of_lt (l1 (x, excObj C t0 none) (by simp))
      · exact Nat.ne_of_lt (l1 p (List.mem_append_right _ (.tail _ hp)))
  · rw [putName_dict]; rfl
theorem exc_set1 {t0 : Addr} {name : Str} {v : Value} {news : List (Addr × Obj)} {gf : Obj → List (Addr × Obj)} {Q : Unit → Shared → Prop} (F : Fr h₀ L s.heap m) (X₀ : K.In h₀) (N : News h₀ L s.heap news) (U : UpdF x (excObj C t0 none) news gf)
    (hs : findIn K (.ref C) "__setattr__" = some (some (.builtin "object.__setattr__"))) (hc : clsIn K C = some cd) (hd : cd.hasDict = true) (hp : refuseLoop (.ref x) "__setattr__" cd.mro = pure ())
    (hob : mroIn K C (.type "object") = some true) (ht : takerIn K C name = some none)
    (h : ∀ de h', Fr h₀ L h' m → News h₀ L h' ((de, dictOf [⟨PyData.keyHash w.params name, .str name (s.toks + 1), v⟩] 1) :: gf (excObj C t0 (some de))) → (∀ p ∈ news, p.1 < de) → Q () { s with heap := h', toks := s.toks + 2 }) :
    wpAny (model prog w) A (setAttr (.ref x) name v) Q E s := by
  obtain ⟨pre, post, rfl, hg, h1, h2⟩ := U.split
  have X := X₀.keeps F.keep
  have I : InstAt s.heap x (excObj C t0 none) C none := ⟨(N (x, excObj C t0 none) (by simp)).1, rfl, rfl, trivial⟩
  refine set_plain X I hs (exc_osa (s := { s with toks := s.toks + 1 }) X I hc hp hob ht fun b => ?_)
  refine exc_store1 (s := { s with toks := s.toks + 1 }) F X N h1 h2 hc hd fun de h' F' N' l' => ?_
  rw [← hg] at N'
  exact h de h' F' N' l'
theorem exc_set2 {t0 de : Addr} {name : Str} {v : Value} {es es' : List DictEntry} {n n' : Nat} {news news' : List (Addr × Obj)} {Q : Unit → Shared → Prop} (F : Fr h₀ L s.heap m) (X₀ : K.In h₀) (N : News h₀ L s.heap news) (hx : (x, excObj C t0 (some de)) ∈ news) (_hde : (de, dictOf es n) ∈ news)
    (hs : findIn K (.ref C) "__setattr__" = some (some (.builtin "object.__setattr__"))) (hc : clsIn K C = some cd) (hd : cd.hasDict = true) (hp : refuseLoop (.ref x) "__setattr__" cd.mro = pure ())
    (hob : mroIn K C (.type "object") = some true) (ht : takerIn K C name = some none) (hl : (getL name es).isSome = true)
    (e : (putL name (PyData.keyHash w.params name) (.str name (s.toks + 1)) v es, putN name es n) = (es', n')) (U : Upd de (dictOf es n) (dictOf es' n') news news') (hz : es'.length ≤ 1000)
    (h : ∀ h', Fr h₀ L h' m → News h₀ L h' news' → Q () { s with heap := h', toks := s.toks + 2 }) :
    wpAny (model prog w) A (setAttr (.ref x) name v) Q E s := by
  obtain ⟨pre, post, rfl, rfl, h1, h2⟩ := U.split
  obtain ⟨e1, e2⟩ := Prod.mk.inj e
  have X := X₀.keeps F.keep
  have hxx := (N _ hx).1
  have I : InstAt s.heap x (excObj C t0 (some de)) C (some (dictOf es n)) := ⟨hxx, rfl, rfl, (N (de, dictOf es n) (by simp)).1⟩
  refine set_plain X I hs (exc_osa (s := { s with toks := s.toks + 1 }) X I hc hp hob ht fun b => ?_)
  refine wpAny_bind (wpAny_pure (wpAny_bind (wpAny_bind (wpAny_loadPart hxx (wpAny_bind ((looks_clsIn X hc) _ _ _ _ (fun _ _ e => e) ?_))))))
  rw [hd]
  refine wpAny_pure (a := some de) ?_
  exact exc_put (s := { s with toks := s.toks + 1 }) F N hl h1 h2 (by rw [putName_dict, e1, e2]) rfl hz fun h' F' N' => h h' F' N'
end
end Q26
end
-- part QFlt
section
namespace Q26
theorem calm21 : True := by
  w_top off
  trivial
end Q26
open PySem PySem.W PyProof.Rows PySem.Spec PySem.Calls Builtin Builtin.ObjectAttr
set_option maxRecDepth 100000
namespace Q26
theorem warm6 : PySem.Challenge.rw_pc0026_01.prog = PySem.Challenge.rw_pc0026_01.prog ∧ Q26.hd.heap_39 = Q26.hd.heap_39 := by
  k_fill
  exact ⟨rfl, rfl⟩
section
variable {prog : Program} {w : World} {A : Around} {E : Value → Shared → Prop} {R : Result → Shared → Prop} {s : Shared} {h₀ : Heap} {L x C dx : Addr} {m : Str → Option Value} {K : Frag} {cd : ClassData} {news : List (Addr × Obj)}
theorem hC88 (X : (Q26.hd.heap_39 w.params).In h₀) : ∃ nm q N bs hdct sn sub ab col dd k0 k1 k2 k3 k5, h₀.get? 88 = some (excClassObj nm q 88 N bs [.ref 76, .ref 47, .type "Exception", .type "BaseException", .type "object"] hdct sn sub ab col dd k0 k1 k2 k3 k5 "Exception.__new__") :=
  ⟨_, _, _, _, _, _, _, _, _, _, _, _, _, _, _, X 88 _ rfl⟩
theorem exc_cls {rest : List Value} {Q : Value → Shared → Prop} (F : Fr h₀ L s.heap m) (X₀ : (Q26.hd.heap_39 w.params).In h₀) (N : News h₀ L s.heap news) (hrest : rest.length ≤ 10)
    (h : ∀ x t h', Fr h₀ L h' m → News h₀ L h' ((x, excObj 88 t none) :: (t, tupObj rest) :: news) → (∀ p ∈ news, p.1 < t) → t < x →
      codeAny (model prog w) (A.under (.builtin "type.__call__" ⟨.ref 88 :: rest, []⟩)) (.call (.ref 66) ⟨.ref x :: rest, []⟩) (InitBack x fun r s' => match r with | .ok (.ret v) => Q v s' | .ok _ => False | .error e => E e s') { s with heap := h' }) :
    wpAny (model prog w) A (call (.ref 88) rest) Q E s := by
  have X := X₀.keeps F.keep
  obtain ⟨_, _, _, _, _, _, _, _, _, _, _, _, _, _, _, hC⟩ := hC88 (w := w) X
  obtain ⟨hh, g, d, t, os⟩ := s
  refine wpAny_call (exc_make (f := 66) PySem.F.excBase_Exception (by decide +kernel) (by decide +kernel) (by decide +kernel) hC (by rw [sizeLine_eq]; omega) (looks_findIn X (by kernel_rfl)) (fun self => bind_fn X self (by kernel_rfl)) ?_)
  have N2 := (N.push F (tupObj rest)).push (F.push _) (excObj 88 hh.objs.size none)
  rw [Heap.size_push] at N2
  exact h _ hh.objs.size _ ((F.push _).push _) N2 (fun p hp => Heap.lt_size (N p hp).1) (Nat.lt_succ_self _)
theorem wrap_use {b x t0 : Addr} {dc : Option Addr} {rest : List Value} {gf : Obj → List (Addr × Obj)} {Q : Value → Shared → Prop} (F : Fr h₀ L s.heap m) (X₀ : (Q26.hd.heap_39 w.params).In h₀) (N : News h₀ L s.heap news) (hb : (b, wrapObj "Exception.__init__" x) ∈ news)
    (U : UpdF x (excObj 88 t0 dc) news gf) (hrest : rest.length ≤ 10)
    (h : ∀ t h', Fr h₀ L h' m → News h₀ L h' ((t, tupObj rest) :: gf (excObj 88 t dc)) → (∀ p ∈ news, p.1 < t) → Q .none { s with heap := h' }) :
    wpAny (model prog w) A (call (.ref b) rest) Q E s := by
  obtain ⟨pre, post, rfl, hg, h1, h2⟩ := U.split
  have X := X₀.keeps F.keep
  obtain ⟨_, _, _, _, _, _, _, _, _, _, _, _, _, _, _, hC⟩ := hC88 (w := w) X
  have hx := (N (x, excObj 88 t0 dc) (by simp)).1
  obtain ⟨hh, g, d, t, os⟩ := s
  refine wpAny_call (wrap_call (N _ hb).1 (by rw [sizeLine_eq]; omega) hx hC ?_)
  have l1 : ∀ p ∈ pre ++ (x, excObj 88 t0 dc) :: post, p.1 < hh.objs.size := fun p hp => Heap.lt_size (N p hp).1
  have U2 := news_upd (pre := (hh.objs.size, tupObj rest) :: pre) (post := post) (f := Obj.mapFields (·.setIfInBounds 0 (.ref hh.objs.size))) (o' := excObj 88 hh.objs.size dc) (F.push (tupObj rest)) (N.push F (tupObj rest))
    (fun p hp => by
      rcases List.mem_cons.mp hp with rfl | hp
      · exact Nat.ne_of_gt (l1 (x, excObj 88 t0 dc) (by simp))
      · exact h1 p hp) h2 rfl rfl
  refine h hh.objs.size _ U2.1 ?_ l1
  rw [hg]
  exact U2.2
end
end Q26
end
-- part QFlt2
section
namespace Q26
theorem calm22 : True := by
  w_top off
  trivial
end Q26
open PySem PySem.W PyProof.Rows PySem.Spec PySem.Calls Builtin Builtin.ObjectAttr
set_option maxRecDepth 100000
namespace Q26
theorem warm7 : PySem.Challenge.rw_pc0026_01.prog = PySem.Challenge.rw_pc0026_01.prog ∧ Q26.hd.heap_39 = Q26.hd.heap_39 := by
  k_fill
  exact ⟨rfl, rfl⟩
theorem far_ne {d : Addr} {l : List (Addr × Obj)} (h : ∀ p ∈ l, p.1 < d) {p : Addr × Obj} (hp : p ∈ l) : p.1 ≠ d := Nat.ne_of_lt (h p hp)
local macro_rules | `(tactic| k_all) => `(tactic| first | with_reducible assumption | (intro p9 hp9; refine far_ne (by assumption) ?_; (repeat (first | exact hp9 | apply List.mem_cons_of_mem)); done))
theorem inst_exc0 {h₀ h : Heap} {L x C t : Addr} {news : List (Addr × Obj)} (N : News h₀ L h news) (h1 : (x, excObj C t none) ∈ news) : InstAt h x (excObj C t none) C none := ⟨(N _ h1).1, rfl, rfl, trivial⟩
theorem inst_exc1 {h₀ h : Heap} {L x C t d : Addr} {od : Obj} {news : List (Addr × Obj)} (N : News h₀ L h news) (h1 : (x, excObj C t (some d)) ∈ news) (h2 : (d, od) ∈ news) : InstAt h x (excObj C t (some d)) C (some od) := ⟨(N _ h1).1, rfl, rfl, (N _ h2).1⟩
local macro_rules | `(tactic| k_inst) => `(tactic| first | (refine' inst_exc0 ?N ?h1; (case N => k_asm); (case h1 => k_mem)) | (refine' inst_exc1 ?N ?h1 ?h2; (case N => k_asm); (case h1 => k_mem); (case h2 => k_mem)))
def WrapP (q x : Addr) (h : Heap) : Prop := h.get? q = some (wrapObj "Exception.__init__" x)
theorem wrapP {h₀ h : Heap} {L q x : Addr} {news : List (Addr × Obj)} (N : News h₀ L h news) (hq : (q, wrapObj "Exception.__init__" x) ∈ news) : WrapP q x h := (N _ hq).1
theorem keeps_W {M : Model} {q x : Addr} (h : Heap) (X : WrapP q x h) : ∃ k, (k = Keeper.frame ∨ k = Keeper.machine ∨ k = Keeper.boundFrame) ∧ Looks M h (keeperOf (.ref q)) k :=
  ⟨.machine, .inr (.inl rfl), (Looks.ld (part := none) X).andThen .now⟩
theorem callWith_W {M : Model} {A : Around} {E : Value → Shared → Prop} {s : Shared} {env : Env} {pos : Pos} {first : List Value} {Q : Value → Shared → Prop} {h₀ : Heap} {L : Addr} {news : List (Addr × Obj)} {q x : Addr} {e : Expr} {rest : List Expr} (_N : News h₀ L s.heap news) (_q : (q, wrapObj "Exception.__init__" x) ∈ news) (h : wpAny M A (spliced (backTo pos (starEach (e :: rest) env))) (fun vs s₁ => WrapP q x s₁.heap ∧ wpAny M A (call (.ref q) (first ++ vs)) Q E s₁) E s)
    (he : starEach (e :: rest) env = (false, eval e env) :: starEach rest env := by rfl) (hplain : (backTo pos (starEach rest env)).any (·.1) = false := by rfl) :
    wpAny M A (callWith pos (.ref q) first (backTo pos (starEach (e :: rest) env)) []) Q E s := by
  rw [he] at h ⊢
  exact callWith_of (by show ((false || (backTo pos (starEach rest env)).any (·.1)) || false) = false; rw [hplain]; rfl) keeps_W (evalArgs_plain h)
local macro_rules | `(tactic| walk_at "callWith ref") => `(tactic| (k_here; k_dflt (refine' callWith_W ?k1 ?k2 ?_; (case k1 => k_asm); (case k2 => k_mem); k_whole)))
local macro_rules | `(tactic| walk_at "And") => `(tactic| ((with_reducible show WrapP _ _ _ ∧ _); refine ⟨by k_dflt (refine' wrapP ?k1 ?k2; (case k1 => k_asm); (case k2 => k_mem)), ?_⟩; try dsimp only [List.nil_append, List.cons_append]))
theorem refuse88 (x : Addr) : refuseLoop (.ref x) "__setattr__" [.ref 88, .ref 76, .ref 47, .type "Exception", .type "BaseException", .type "object"] = pure () := by
  rw [refuseLoop_ref, refuseLoop_ref, refuseLoop_ref]
  exact PySem.F.store_Exception.passes _
local macro_rules | `(tactic| walk_at "getMethod ref") => `(tactic| (k_here; k_dflt (refine' sup_method ?k1 ?k2 ?k3 ?k4 ?k5 ?k6 ?k7 ?k8 ?k9 ?_; (case k1 => k_asm); (case k2 => k_asm); (case k3 => k_asm); (case k4 => k_mem); (case k5 => k_inst); (case k6 => k_is); (case k7 => ks_is); (case k8 => kernel_rfl); (case k9 => decide); intro q' h' F' N' l1; (try k_lt l1))))
local macro_rules | `(tactic| walk_at "call ref") => `(tactic| (k_here; k_dflt (refine' wrap_use ?k1 ?k2 ?k3 ?k4 ?k5 ?k6 ?_; (case k1 => k_asm); (case k2 => k_asm); (case k3 => k_asm); (case k4 => k_mem); (case k5 => k_updF); (case k6 => simp); intro t' h' F' N' l1; (try dsimp only at N'); (try k_lt l1); (try k_sweep))))
local macro_rules | `(tactic| walk_at "call ref") => `(tactic| (k_here; k_dflt (refine' call_meth ?k1 ?k2 ?_; (case k1 => k_asm); (case k2 => k_mem); (refine' ks_code_super ?k1 ?k2 ?k3 ?k4 ?k5 ?kA ?kF ?kK ?k6 ?k7 ?k8 ?k9 ?kB ?_ ?c1 ?c2 ?c3 ?c4; (case kA => exact rfl); (case kF => exact rfl); (case kK => first | assumption | exact rfl); (case k1 => k_asm); (case k2 => k_asm); (case k3 => k_asm); (case k4 => k_asm); (case k5 => k_asm); (case k6 => k_is); (case k7 => k_is); (case k8 => ktr_room); (case k9 => exact BindsTo.of_eq rfl); (case kB => exact locs rfl); (case c1 => decide); (case c2 => exact rfl); (case c3 => exact rfl); (case c4 => exact rfl); intro g' L' h' FG' F' N' B' X' T' l1; (try k_lt l1); (try dsimp only); (try k_lift B')))))
local macro_rules | `(tactic| walk_at "setAttr ref") => `(tactic| (k_here; k_dflt (first | (refine' exc_set1 ?k1 ?k2 ?k3 ?k4 ?k5 ?k6 ?k7 ?k8 ?k9 ?k10 ?_; (case k1 => k_asm); (case k2 => k_asm); (case k3 => k_asm); (case k4 => k_updF); (case k5 => kernel_rfl); (case k6 => rfl); (case k7 => rfl); (case k8 => exact refuse88 _); (case k9 => kernel_rfl); (case k10 => kernel_rfl); intro d' h' F' N' l1; have l9 := l1; (try dsimp only at N'); (try k_lt l1); (try k_sweep)) | (refine' exc_set2 ?k1 ?k2 ?k3 ?k4 ?k0 ?k5 ?k6 ?k7 ?k8 ?k9 ?k10 ?k11 ?k12 ?k13 ?k14 ?_; (case k1 => k_asm); (case k2 => k_asm); (case k3 => k_asm); (case k4 => k_mem); (case k0 => k_mem); (case k5 => kernel_rfl); (case k6 => rfl); (case k7 => rfl); (case k8 => exact refuse88 _); (case k9 => kernel_rfl); (case k10 => kernel_rfl); (case k11 => k_get); (case k12 => k_put); (case k13 => k_upd); (case k14 => exact Nat.le_of_ble_eq_true rfl); intro h' F' N'; (try k_sweep)))))
theorem fault_end {h₀ h : Heap} {L d t x : Addr} {o1 o2 o3 : Obj} {a1 a2 a3 a4 a5 : Addr × Obj} {tl : List (Addr × Obj)} (N : News h₀ L h ((d, o1) :: (t, o2) :: a1 :: a2 :: a3 :: a4 :: (x, o3) :: a5 :: tl)) : News h₀ L h ((x, o3) :: (d, o1) :: (t, o2) :: tl) := by
  refine news_sub N fun q hq => ?_
  simp only [List.mem_cons] at hq ⊢
  grind
set_option maxRecDepth 100000 in
set_option maxHeartbeats 8000000 in
theorem fault_walk {w : World} {mean : ExcName → Option Value} {mg mb : Str → Option Value} {dp un : Nat} {gd : Option (List Code)} {cn : Str} {cs : Scope} {a : Addr} {ccd : Value} {cl : List (Str × Addr)} {outer : List Env} {A₀ : Around} {base h₀ : Heap} {L : Addr} {m : Str → Option Value} {s : Shared}
    {Q E : Value → Shared → Prop} {what : Str} {tw ts : Tok} {sp : Int} {tl : List (Addr × Obj)}
    (B : Below A₀ base outer h₀) (F : Fr h₀ L s.heap m) (X : (Q26.hd.heap_39 w.params).In h₀) (N : News h₀ L s.heap tl) (T : TT mean mg mb h₀) (hk : cs.kind = .function)
    (hd : dp + 4 < recursionLimit) (hu : un + 50 < cLine)
    (ret : ∀ e de t hs1 hs2 k1 k2 h' tk', Fr h₀ L h' m → News h₀ L h' ((e, excObj 88 t (some de)) :: (de, dictOf [⟨hs1, .str "what" k1, .str what tw⟩, ⟨hs2, .str "spot" k2, .int sp ts⟩] 2) :: (t, tupObj [.str what tw]) :: tl) → (∀ p ∈ tl, p.1 < e) → Q (.ref e) { s with heap := h', toks := tk' }) :
    wpAny (model PP w) (ktrTop dp un gd cn cs L a ccd cl outer) (call (.ref 88) [.str what tw, .int sp ts]) Q E s := by
  refine exc_cls F X N (by simp) fun x t0 h1 F1 N1 l1 l2 => ?_
  have htx : ∀ p ∈ tl, p.1 ≠ x := fun p hp => Nat.ne_of_lt (Nat.lt_trans (l1 p hp) l2)
  have l1' := l1
  replace l1 := allLt_of l1
  k_lt2 l2
  k_dflt (refine' ks_code_super ?k1 ?k2 ?k3 ?k4 ?k5 ?kA ?kF ?kK ?k6 ?k7 ?k8 ?k9 ?kB ?_ ?c1 ?c2 ?c3 ?c4; (case kA => exact rfl); (case kF => exact rfl); (case kK => first | assumption | exact rfl); (case k1 => k_asm); (case k2 => k_asm); (case k3 => k_asm); (case k4 => k_asm); (case k5 => k_asm); (case k6 => k_is); (case k7 => k_is); (case k8 => ktr_room); (case k9 => exact BindsTo.of_eq rfl); (case kB => exact locs rfl); (case c1 => decide); (case c2 => exact rfl); (case c3 => exact rfl); (case c4 => exact rfl); intro g' L' h' FG' F' N' B' X' T' l1; (try k_lt l1); (try dsimp only); (try k_lift B'))
  k_steps
  rename News h₀ L _ _ => N5
  rename Fr h₀ L _ m => F5
  exact ret x _ _ _ _ _ _ _ _ F5 (fault_end N5) (fun p hp => Nat.lt_trans (l1' p hp) l2)
end Q26
end
-- part QKd
section
namespace Q26
theorem calm23 : True := by
  w_top off
  trivial
end Q26
open PySem PySem.W PyProof.Rows PySem.Spec PySem.Calls
set_option maxRecDepth 100000
namespace Q26
/-- every object keeps its dict's address -/
def Kept (h h' : Heap) : Prop := ∀ a o, h.get? a = some o → ∃ o', h'.get? a = some o' ∧ o'.dict = o.dict
theorem Kept.refl (h : Heap) : Kept h h := fun _ o e => ⟨o, e, rfl⟩
theorem Kept.trans {h₁ h₂ h₃ : Heap} (x : Kept h₁ h₂) (y : Kept h₂ h₃) : Kept h₁ h₃ := fun a o e =>
  let ⟨_, e1, d1⟩ := x a o e
  let ⟨o2, e2, d2⟩ := y a _ e1
  ⟨o2, e2, d2.trans d1⟩
theorem Kept.push (h : Heap) (o : Obj) : Kept h (h.push o) := fun _ x e => ⟨x, Heap.get?_push_of_some _ e, rfl⟩
theorem Kept.update (h : Heap) (a : Addr) {f : Obj → Obj} (hf : ∀ o, (f o).dict = o.dict ∧ (f o).isFreed = o.isFreed) : Kept h (h.update a f) := fun b o e => by
  by_cases hb : b = a
  · subst hb
    exact ⟨f o, Heap.get?_update_self _ e ((hf o).2.trans (Heap.get?_some_iff.mp e).2), (hf o).1⟩
  · exact ⟨o, (Heap.get?_update_other _ _ (Ne.symm hb)).trans e, rfl⟩
/-- a tree that keeps every object's dict -/
def KD {α : Type} (x : Sem α) : Prop := ∀ M Γ Q E p s, Sem.wp M Γ x Q E p s → Sem.wp M Γ x (fun a p' s' => Q a p' s' ∧ Kept s.heap s'.heap) (fun e p' s' => E e p' s' ∧ Kept s.heap s'.heap) p s
theorem KD.pure {α : Type} (a : α) : KD (pure a : Sem α) := fun M Γ Q E p s h => by
  rw [Sem.wp_pure'] at h ⊢
  exact ⟨h, Kept.refl _⟩
theorem KD.bind {α β : Type} {x : Sem α} {f : α → Sem β} (hx : KD x) (hf : ∀ a, KD (f a)) : KD (x >>= f) := fun M Γ Q E p s h => by
  rw [Sem.wp_bind'] at h ⊢
  refine Sem.wp_mono M Γ x (fun a p1 s1 k => ?_) (fun e p1 s1 k => k) p s (hx M Γ _ _ p s h)
  exact Sem.wp_mono M Γ (f a) (fun b p2 s2 k2 => ⟨k2.1, k.2.trans k2.2⟩) (fun e p2 s2 k2 => ⟨k2.1, k.2.trans k2.2⟩) p1 s1 (hf a M Γ _ _ p1 s1 k.1)
theorem KD.map {α β : Type} {x : Sem α} (f : α → β) (hx : KD x) : KD (f <$> x) := by
  rw [map_eq_pure_bind]
  exact KD.bind hx fun a => KD.pure _
theorem KD.unsupported {α : Type} (what : String) : KD (unsupported what : Sem α) := fun M Γ Q E p s h => by
  unfold PySem.unsupported at h
  rw [Sem.wp_unsupported] at h
  exact h.elim
theorem KD.loadPart (a : Addr) (part : Option Value) : KD (loadPart a part) := fun M Γ Q E p s h => by
  unfold PySem.loadPart at h ⊢
  rw [Sem.wp_load] at h ⊢
  obtain ⟨o, ho, h⟩ := h
  refine ⟨o, ho, ?_⟩
  rw [Sem.wp_pure] at h ⊢
  exact ⟨h, Kept.refl _⟩
theorem KD.load (a : Addr) : KD (load a) := KD.loadPart a none
theorem KD.updatePart (a : Addr) (part : Option Value) {f : Obj → Obj} (hf : ∀ o, (f o).dict = o.dict ∧ (f o).isFreed = o.isFreed) : KD (updatePart a part f) := fun M Γ Q E p s h => by
  unfold PySem.updatePart at h ⊢
  rw [Sem.wp] at h ⊢
  refine ⟨h.1, ?_⟩
  have h2 := h.2
  rw [Sem.wp_pure] at h2 ⊢
  exact ⟨h2, Kept.update _ _ hf⟩
theorem KD.update (a : Addr) {f : Obj → Obj} (hf : ∀ o, (f o).dict = o.dict ∧ (f o).isFreed = o.isFreed) : KD (update a f) := KD.updatePart a none hf
theorem KD.alloc (o : Obj) : KD (alloc o) := fun M Γ Q E p s h => by
  unfold PySem.alloc at h ⊢
  rw [Sem.wp] at h ⊢
  rw [Sem.wp_pure] at h ⊢
  exact ⟨h, Kept.push _ _⟩
theorem KD.register (a : Addr) : KD (register a) := fun M Γ Q E p s h => by
  unfold PySem.register at h
  rw [Sem.wp] at h
  exact h.elim
theorem KD.stack : KD stack := fun M Γ Q E p s h => by
  unfold PySem.stack at h ⊢
  rw [Sem.wp] at h ⊢
  rw [Sem.wp_pure] at h ⊢
  exact ⟨h, Kept.refl _⟩
theorem KD.mapFields (o : Obj) (f : Array Value → Array Value) : (Obj.mapFields f o).dict = o.dict ∧ (Obj.mapFields f o).isFreed = o.isFreed := by
  obtain ⟨c, d, dt, sl⟩ := o
  cases dt <;> exact ⟨rfl, rfl⟩
theorem KD.slots (o : Obj) (g : Obj → Array (Option Value)) : ({ o with slots := g o } : Obj).dict = o.dict ∧ ({ o with slots := g o } : Obj).isFreed = o.isFreed := by
  obtain ⟨c, d, dt, sl⟩ := o
  cases dt <;> exact ⟨rfl, rfl⟩
theorem KD.fieldsOf (v : Value) : KD (fieldsOf v) := by
  unfold PySem.fieldsOf
  repeat' (first | exact KD.pure _ | exact KD.unsupported _ | exact KD.load _ | exact KD.loadPart _ _ | refine KD.bind ?_ (fun _ => ?_) | split)
theorem KD.field (v : Value) (i : Nat) : KD (field v i) := by
  unfold PySem.field
  repeat' (first | exact KD.pure _ | exact KD.unsupported _ | exact KD.fieldsOf _ | refine KD.bind ?_ (fun _ => ?_) | split)
theorem KD.setField (v : Value) (i : Nat) (x : Value) : KD (setField v i x) := by
  unfold PySem.setField updateField
  repeat' (first | exact KD.pure _ | exact KD.unsupported _ | exact KD.load _ | exact KD.update _ (fun o => KD.mapFields o _) | refine KD.bind ?_ (fun _ => ?_) | split)
theorem KD.frameEnvs : KD frameEnvs := by
  unfold PySem.frameEnvs
  exact KD.bind KD.stack fun _ => KD.pure _
theorem KD.readyFrames : ∀ l, KD (readyFrames l)
  | [] => KD.pure _
  | env :: outer => by
    have ih := KD.readyFrames outer
    unfold PySem.readyFrames
    unfold behindIsImport keptBack underTheClaimsCaller
    repeat' (first | exact ih | exact KD.pure _ | exact KD.unsupported _ | exact KD.load _ | exact KD.stack | exact KD.field _ _ | (refine KD.update _ (fun o => ?_); obtain ⟨c, d, dt, sl⟩ := o; cases dt <;> exact ⟨rfl, rfl⟩) | refine KD.bind ?_ (fun _ => ?_) | split | dsimp only)
theorem KD.frameObject (l : List Env) : KD (frameObject l) := by
  cases l with
  | nil => exact KD.pure _
  | cons env outer =>
    unfold PySem.frameObject
    exact KD.bind (KD.readyFrames _) fun _ => KD.pure _
theorem KD.frameOf (env : Env) : KD (frameOf env) := by
  unfold PySem.frameOf
  repeat' (first | exact KD.pure _ | exact KD.unsupported _ | exact KD.frameEnvs | exact KD.frameObject _ | refine KD.bind ?_ (fun _ => ?_) | split)
theorem KD.entryPlaceOf (f : Addr) (b : Bool) : KD (entryPlaceOf f b) := by
  unfold PySem.entryPlaceOf
  repeat' (first | exact KD.pure _ | exact KD.unsupported _ | exact KD.stack | refine KD.bind ?_ (fun _ => ?_) | split)
theorem KD.newEntry (a b c d e : Value) (pl : List Value) : KD (EntryCells.newEntry a b c d e pl) := by
  unfold EntryCells.newEntry newFields newObj newObjAsIs classHasDel
  repeat' (first | exact KD.pure _ | exact KD.unsupported _ | exact KD.alloc _ | exact KD.load _ | exact KD.register _ | refine KD.bind ?_ (fun _ => ?_) | split | dsimp only)
theorem KD.setFlight (e : Value) (f : Option Addr) : KD (setFlight e f) := by
  unfold PySem.setFlight
  repeat' (first | exact KD.pure _ | exact KD.unsupported _ | exact KD.field _ _ | exact KD.setField _ _ _ | refine KD.bind ?_ (fun _ => ?_) | split | dsimp only)
theorem KD.noteFrame (e : Value) (env : Env) : KD (noteFrame e env) := by
  unfold PySem.noteFrame
  repeat' (first | exact KD.pure _ | exact KD.unsupported _ | exact KD.field _ _ | exact KD.setField _ _ _ | exact KD.frameOf _ | exact KD.entryPlaceOf _ _ | exact KD.newEntry _ _ _ _ _ _ | refine KD.bind ?_ (fun _ => ?_) | split | dsimp only)
theorem KD.leaving (env : Env) (e : Value) : KD (leaving env e) := KD.bind (KD.noteFrame _ _) fun _ => KD.setFlight _ _
theorem KD.conj {α : Type} {M : Model} {A : Around} {x : Sem α} {Q : α → Shared → Prop} {E : Value → Shared → Prop} {s : Shared} (k : KD x) (h : wpAny M A x Q E s) :
    wpAny M A x (fun a s' => Q a s' ∧ Kept s.heap s'.heap) E s := fun Γ p hΓ =>
  Sem.wp_mono M Γ x (fun _ _ _ k => k) (fun _ _ _ k => k.1) p s (k M Γ _ _ p s (h Γ p hΓ))
end Q26
end
-- part QFly
section
namespace Q26
theorem calm24 : True := by
  w_top off
  trivial
end Q26
open PySem PySem.W PyProof.Rows PySem.Spec PySem.Calls
set_option maxRecDepth 100000
namespace Q26
theorem warm8 : PySem.Challenge.rw_pc0026_01.prog = PySem.Challenge.rw_pc0026_01.prog ∧ Q26.hd.heap_39 = Q26.hd.heap_39 := by
  k_fill
  exact ⟨rfl, rfl⟩
/-- a value that may be raised: a TextFault that was just made -/
def RaisE (w : World) (E : Value → Shared → Prop) (v : Value) (s₁ : Shared) : Prop := ∃ x t de, v = .ref x ∧ (Q26.hd.heap_39 w.params).In s₁.heap ∧ s₁.heap.get? x = some (excObj 88 t de) ∧ E (.ref x) s₁
section
variable {w : World} {A : Around} {E : Value → Shared → Prop} {s : Shared} {env : Env}
theorem raise_own {e : Expr} {pos : Pos} {Q : Flow → Shared → Prop} (hh : A.handled = none) (h : wpAny (model PP w) A (eval e env) (RaisE w E) E s) : wpAny (model PP w) A (exec (.Raise (some e) none pos) env) Q E s := by
  show wpAny (model PP w) A (do standAt pos; raiseStmt env (some (do let v ← eval e env; standAt pos; pure v)) none) Q E s
  refine wpAny_bind (wpAny_standAt ?_)
  unfold raiseStmt
  dsimp only
  refine wpAny_bind (wpAny_bind (wpAny_mono h (fun v s₁ h₁ => wpAny_bind (wpAny_standAt (wpAny_pure ?_))) fun _ _ x => x))
  obtain ⟨x, t, de, rfl, X, hx, hE⟩ := h₁
  obtain ⟨_, _, _, _, _, _, _, _, _, _, _, _, _, _, _, hC⟩ := hC88 (w := w) X
  obtain ⟨hp, g, d, tk, os⟩ := s₁
  have hcB : (Value.ref 88 :: [Value.ref 76, .ref 47, .type "Exception", .type "BaseException", .type "object"]).contains (.type "BaseException") = true := by decide +kernel
  repeat (first | with_reducible refine wpAny_loadPart_at hx ?_ | with_reducible refine wpAny_loadPart_at hC ?_ | (with_reducible refine wpAny_isSubtype_exc hC ?_; rw [hcB]) | wp_step)
  exact wpAny_raiseNew_none hh hE
end
/-- a TextFault in flight, with its attributes' dict -/
def RaisedE (base : Heap) (l : List Env) (e de : Addr) (news : List (Addr × Obj)) (h : Heap) : Prop :=
  (∃ B t, base.StaysIn B ∧ (∀ q ∈ news, B.get? q.1 = some q.2 ∧ base.get? q.1 = none) ∧ Heap.FlyingW B l e (.ref 88) (.ref t) h) ∧ ∃ o, h.get? e = some o ∧ o.dict = some de
section
variable {M : Model} {A : Around} {E : Value → Shared → Prop} {s' : Shared} {base g : Heap} {outer : List Env} {L a e t de : Addr} {m : Str → Option Value} {name : Str} {scope : Scope} {cd : Value} {Q : Unit → Shared → Prop} {news : List (Addr × Obj)}
theorem leave_exc (K : Below A base outer g) (F : Fr g L s'.heap m) (N : News g L s'.heap ((e, excObj 88 t (some de)) :: news)) (hne : ∀ q ∈ news, q.1 ≠ e)
    (hQ : ∀ h', RaisedE base outer e de news h' → g.UpToSlots h' → Q () { s' with heap := h' }) (hk : scope.kind = .function := by rfl) :
    wpAny M (A.deeper (envOf name scope L a cd)) (leaving (envOf name scope L a cd) (.ref e)) Q E s' := by
  have K' := K.push (name := name) (a := a) (cd := cd) F hk
  obtain ⟨as, has⟩ : ∃ as, as = e :: (envOf name scope L a cd :: outer).filterMap (·.frame) := ⟨_, rfl⟩
  have hin : ∀ env ∈ (envOf name scope L a cd :: outer), ∀ b, env.frame = some b → b ∈ as := fun env he b hb => by
    rw [has]; exact .tail _ (List.mem_filterMap.mpr ⟨env, he, hb⟩)
  have hE := N _ (.head _)
  have heb : base.get? e = none := fresh_of_stays K.stays hE.2.2
  have st : base.StaysIn (hideAll s'.heap as) := fun b o q => hideAll_get _ (K'.stays b o q) fun hm => by
    rw [has] at hm
    rcases List.mem_cons.mp hm with rfl | hm
    · rw [heb] at q; cases q
    · rw [(K'.frames.mem hm).1] at q; cases q
  have hl : ∀ q ∈ news, (hideAll s'.heap as).get? q.1 = some q.2 ∧ base.get? q.1 = none := fun q hq => by
    have Nq := N q (.tail _ hq)
    refine ⟨hideAll_get _ Nq.1 fun hm => ?_, fresh_of_stays K.stays Nq.2.2⟩
    rw [has] at hm
    rcases List.mem_cons.mp hm with hm | hm
    · exact hne q hq hm
    · obtain ⟨env, he, hf⟩ := List.mem_filterMap.mp hm
      rcases List.mem_cons.mp he with rfl | he
      · exact Nq.2.1 (Option.some.inj hf).symm
      · obtain ⟨o, ho, _⟩ := (K.frames.mem (List.mem_filterMap.mpr ⟨env, he, hf⟩)).2
        rw [Nq.2.2] at ho; cases ho
  have hB : (hideAll s'.heap as).get? e = none := hideAll_none _ (by rw [has]; exact .head _)
  refine wpAny_mono (KD.conj (KD.leaving _ _) (wpAny_leaving_firstW (base := hideAll s'.heap as) (Q := fun _ s2 => ∃ h', s2 = { s' with heap := h' } ∧ Heap.LeftW (hideAll s'.heap as) (envOf name scope L a cd :: outer) e (.ref 88) (.ref t) s'.heap h')
    (Around.frames_deeper K.stack) (funFrames_hide K'.frames hin) rfl hE.1 (fun b o q => of_hideAll _ q) hB rfl rfl rfl fun h' hL => ⟨h', rfl, hL⟩)) (fun _ s2 k => ?_) fun _ _ x => x
  obtain ⟨⟨h', rfl, x1, ⟨_, _, x2⟩, x3, x4⟩, kp⟩ := k
  obtain ⟨o', e1, d1⟩ := kp e _ hE.1
  exact hQ h' ⟨⟨_, t, st, hl, x1, hB, x2, x3⟩, o', e1, d1⟩ ((Heap.UpToSlots.of_keeps F.keep).trans x4)
end
end Q26
end
-- part QCat
section
namespace Q26
theorem calm25 : True := by
  w_top off
  trivial
end Q26
open PySem PySem.W PyProof.Rows PySem.Spec PySem.Calls
set_option maxRecDepth 100000
namespace Q26
theorem warm9 : PySem.Challenge.rw_pc0026_01.prog = PySem.Challenge.rw_pc0026_01.prog ∧ Q26.hd.heap_39 = Q26.hd.heap_39 := by
  k_fill
  exact ⟨rfl, rfl⟩
section
variable {w : World} {A₀ : Around} {E : Value → Shared → Prop} {s' : Shared} {h₀ : Heap} {outer : List Env} {L a e de Lw : Addr} {m : Str → Option Value} {name : Str} {scope : Scope} {cd : Value} {oL : Obj}
  {n : Str} {b₀ : Stmt} {suite : List Stmt} {pos np : Pos} {rest : List ExceptHandler} {Q : Flow → Shared → Prop} {news : List (Addr × Obj)} {mean : ExcName → Option Value} {mg mb : Str → Option Value}
theorem caught_exc (hst : A₀.frames = some outer) (hns : s'.heap.Ns L m) (hab : h₀.objs.size ≤ L) (R : RaisedE h₀ (envOf name scope L a cd :: outer) e de news s'.heap)
    (X : (Q26.hd.heap_39 w.params).In h₀) (T : TT mean mg mb h₀) (hLw : s'.heap.get? Lw = some oL) (hLd : ∃ es n, oL.data = .dict es n) (hL0 : h₀.get? Lw = none) (hLL : Lw ≠ L)
    (k : ∀ h' oe sl tk, Fr h₀ L h' (fun y => if y = n then some (.ref e) else m y) → News h₀ L h' ((e, oe) :: (Lw, { oL with slots := sl }) :: news) → oe.cls = .ref 88 → oe.dict = some de → notCls oe = true →
      wpAny (model PP w) ((A₀.deeper (envOf name scope L a cd)).mark (some (.ref e))) (execs (b₀ :: suite) (envOf name scope L a cd))
        (fun f s₄ => wpAny (model PP w) (A₀.deeper (envOf name scope L a cd)) (do bindName (envOf name scope L a cd) n .none; unbindBehindTheSuite (envOf name scope L a cd) n pos) (fun _ s₅ => Q f s₅) E s₄)
        (AsSuiteRaised (model PP w) ((A₀.deeper (envOf name scope L a cd)).mark (some (.ref e))) (envOf name scope L a cd) n pos (notedBy (model PP w) ((A₀.deeper (envOf name scope L a cd)).mark (some (.ref e))) (envOf name scope L a cd) (cameBackBy (model PP w) (A₀.deeper (envOf name scope L a cd)) (envOf name scope L a cd) E)))
        { s' with heap := h', toks := tk })
    (hk : scope.kind = .function := by rfl) (hlo : (envOf name scope L a cd).kindOf n = some .local := by rfl) (hx : (envOf name scope L a cd).kindOf "TextFault" = some .globalImplicit := by rfl) :
    wpAny (model PP w) (A₀.deeper (envOf name scope L a cd)) (noteFrame (.ref e) (envOf name scope L a cd))
      (fun _ s₂ => wpAny (model PP w) (A₀.deeper (envOf name scope L a cd)) (setFlight (.ref e) none) (fun _ s₃ =>
        wpAny (model PP w) (A₀.deeper (envOf name scope L a cd)) (handleBy (.ref e) (envOf name scope L a cd) (.ExceptHandler (some (.Name "TextFault" np)) (some n) (b₀ :: suite) pos :: rest)) Q E s₃) E s₂) E s' := by
  obtain ⟨⟨B, t, hB, hl, hfl⟩, o, ho, hod⟩ := R
  have hL : B.get? L = none := by
    obtain ⟨_, ⟨L', _, hf, hn', _⟩, _⟩ := hfl.2.2.1
    obtain rfl : L = L' := Option.some.inj hf
    exact hn'
  refine wpAny_mono (KD.conj (KD.noteFrame _ _) (wpAny_looks_onW (Q := fun _ s2 => ∃ h', s2 = { s' with heap := h' } ∧ Heap.HeldW B (envOf name scope L a cd :: outer) e (.ref 88) (.ref t) L h' ∧ s'.heap.UpToSlots h') (Around.frames_deeper hst) rfl hfl fun h' x y => ⟨h', rfl, x, y⟩)) (fun _ s2 z => ?_) fun _ _ x => x
  obtain ⟨⟨h₄, rfl, hheld₄, hsm₄⟩, kp₄⟩ := z
  refine wpAny_mono (KD.conj (KD.setFlight _ _) (wpAny_landsW (Q := fun _ s2 => ∃ h', s2 = { s' with heap := h' } ∧ Heap.FlyingW B (envOf name scope L a cd :: outer) e (.ref 88) (.ref t) h' ∧ h₄.UpToSlots h') hheld₄ fun h' x y => ⟨h', rfl, x, y⟩)) (fun _ s2 z => ?_) fun _ _ x => x
  obtain ⟨⟨h₅, rfl, hheld, hsm₅'⟩, kp₅'⟩ := z
  have hsm₅ := hsm₄.trans hsm₅'
  have kp₅ := kp₄.trans kp₅'
  have hheld' := flyingW_base hB hheld
  have F₅ : Fr h₀ L h₅ m := ⟨hsm₅.ns hns, hheld'.1, hab⟩
  obtain ⟨ob, hob, hobc⟩ := hheld'.there
  have hv : nsIn (Q26.hd.heap_39 w.params) mainGlobals "TextFault" = some (some (.ref 88)) := by kernel_rfl
  refine wpAny_handleBy_cons (codeAny_handlers_test (name_K F₅ X (topRead_of T) hv ?_ hk hx (by decide))) (by intro q; cases q)
  obtain ⟨_, _, _, _, _, _, _, _, _, _, _, _, _, _, _, hC⟩ := hC88 (w := w) (X.keeps F₅.keep)
  refine wpAny_excMatches_sub_self hC hob hobc (by decide +kernel) (codeAny_handlers_suite_as ?_)
  refine wpAny_mono (KD.conj (KD.setFlight _ _) (lands_againW (Q := fun _ s2 => ∃ h', s2 = { s' with heap := h' } ∧ Heap.FlyingW B (envOf name scope L a cd :: outer) e (.ref 88) (.ref t) h' ∧ h₅.UpToSlots h') hheld fun h' x y => ⟨h', rfl, x, y⟩)) (fun _ s2 z => ?_) fun _ _ x => x
  obtain ⟨⟨h₆, rfl, hfl₆, hsm₆'⟩, kp₆'⟩ := z
  have hsm₆ := hsm₅.trans hsm₆'
  have kp₆ := kp₅.trans kp₆'
  have hfl₆' := flyingW_base hB hfl₆
  have F₆ : Fr h₀ L h₆ m := ⟨hsm₆.ns hns, hfl₆'.1, hab⟩
  obtain ⟨oe, ws, hoe, hoec, hoed, hoe0⟩ := hfl₆'.first
  obtain ⟨o2, ho2, hd2⟩ := kp₆ e o ho
  rw [hoe] at ho2
  cases ho2
  obtain ⟨sl, hsl⟩ := hsm₆ Lw oL hLw (fun vs q => by obtain ⟨es, n, hd⟩ := hLd; rw [hd] at q; cases q)
  have Nl : News h₀ L h₆ news := fun q hq => ⟨hfl₆.1 _ _ (hl q hq).1, (fun z => by have := (hl q hq).1; rw [z, hL] at this; cases this), (hl q hq).2⟩
  have hne : e ≠ L := fun z => by
    obtain ⟨o9, es9, ep9, h9, d9, _⟩ := F₆.ns
    rw [z, h9] at hoe
    cases hoe
    rw [hoed] at d9
    cases d9
  have N₆ : News h₀ L h₆ ((e, oe) :: (Lw, { oL with slots := sl }) :: news) := by
    intro q hq
    rcases List.mem_cons.mp hq with rfl | hq
    · exact ⟨hoe, hne, hfl₆'.2.1⟩
    · rcases List.mem_cons.mp hq with rfl | hq
      · exact ⟨hsl, hLL, hL0⟩
      · exact Nl q hq
  refine stN F₆ N₆ (fun h₇ F₇ N₇ => ?_) hk hlo
  exact k h₇ oe sl _ F₇ N₇ hoec (hd2.trans hod) (by unfold notCls; rw [hoed])
end
end Q26
end
-- part QGet
section
namespace Q26
theorem calm26 : True := by
  w_top off
  trivial
end Q26
open PySem PySem.W PyProof.Rows PySem.Spec PySem.Calls Builtin Builtin.ObjectAttr
set_option maxRecDepth 100000
namespace Q26
theorem bg_plain : plainId "BaseException.__getattribute__" = true := by decide +kernel
theorem bg_kind : builtinKind "BaseException.__getattribute__" = some .slot := by decide +kernel
theorem bg_split : splitId "BaseException.__getattribute__" = some ("BaseException", "__getattribute__") := by decide +kernel
theorem bg_bind (self : Value) : bindSpecial (.builtin "BaseException.__getattribute__") self = pure (.builtin "BaseException.__getattribute__", [self]) :=
  (Slot.of (T := "Exception") (name := "__getattribute__") (owner := "BaseException") (n := "__getattribute__") (by rw [typeLookup_type, builtinLookup_eq_fast]; kernel_rfl) (by decide +kernel) (by decide +kernel) (by decide +kernel)
    (by first | exact .inl (by decide +kernel) | exact .inr (by decide +kernel)) (by rw [isSubtype_type]; kernel_rfl)).bind self
section
variable {prog : Program} {w : World} {A : Around} {E : Value → Shared → Prop} {s : Shared} {K : Frag} {x C : Addr} {ox : Obj} {od : Option Obj} {name : Str} {expr : Bool} {Q : Value → Shared → Prop} {v : Value}
theorem exc_get (X : K.In s.heap) (I : InstAt s.heap x ox C od) (hga : findIn K (.ref C) "__getattribute__" = some (some (.builtin "BaseException.__getattribute__"))) (hgt : findIn K (.ref C) "__getattr__" = some none) (hsub : mroIn K C (.type "BaseException") = some true)
    (hf : findObj K C od name = some (.value v)) (hh : handedIn v = true) (h : Q v { s with toks := s.toks + 1 }) : wpAny (model prog w) A (getAttr (.ref x) name expr) Q E s := by
  obtain ⟨hp, g, d, t, os⟩ := s
  have L0 := I.type (M := model prog w)
  have L1 := looks_findIn (M := model prog w) X hga
  have L2 := looks_findIn (M := model prog w) X hgt
  have L3 := looks_find (M := model prog w) X I hf
  have L4 : Looks (model prog w) hp (isInstance (.ref x) (.type "BaseException")) true := I.type.andThen (looks_mroIn X hsub)
  have hx0 : (expr && onTheHeap (Value.builtin "BaseException.__getattribute__")) = false := by cases expr <;> rfl
  unfold getAttr getAttrBy
  refine wpAny_bind (wpAny_mkText (wpAny_holding (wpAny_bind (L0.at (wpAny_bind (L1.at ?_))))))
  show wpAny _ _ (getAttrByItsOwn (.ref x) (.str name t) (.ref C) (.builtin "BaseException.__getattribute__") true expr) _ _ _
  unfold getAttrByItsOwn hookBefore callGetattribute boundAndCalled
  refine wpAny_bind (show wpAny _ _ (typeLookup (.ref C) "__getattr__") _ _ _ from L2.at ?_)
  rw [hx0]
  refine wpAny_bind (wpAny_attempt (wpAny_holding ?_))
  show wpAny _ _ (bindSpecial (.builtin "BaseException.__getattribute__") (.ref x) >>= _) _ _ _
  refine wpAny_bind (wpAny_of_eq (bg_bind _) ?_)
  show wpAny _ _ (call (.builtin "BaseException.__getattribute__") [.ref x, .str name t]) _ _ _
  refine wpAny_call ?_
  refine codeAny_call_builtin bg_plain PySem.F.entry_bexc_ga ?_
  refine @check_slot (model prog w) _ _ ⟨hp, g, d, t + 1, os⟩ "BaseException.__getattribute__" "BaseException" "__getattribute__" (.ref x) [.str name t] [] _ bg_kind bg_split L4 (PySem.F.args_bexc_ga (.ref x) (.str name t)) ?_
  unfold Builtin.«object.__getattribute__»
  repeat (first | (with_reducible refine Looks.at L0 ?_) | (with_reducible refine Looks.at L3 ?_) | wp_step)
  show wpAny _ _ (handedOut v) _ _ _
  rw [handedOut_of hh]
  exact wpAny_pure h
theorem spot_get {e de : Addr} {oe : Obj} {hs1 hs2 : Int} {k1 k2 tw ts : Tok} {what : Str} {sp : Int} {h₀ : Heap} {L : Addr} {m : Str → Option Value} {news : List (Addr × Obj)}
    (F : Fr h₀ L s.heap m) (X₀ : (Q26.hd.heap_39 w.params).In h₀) (N : News h₀ L s.heap news) (hc : oe.cls = .ref 88) (hd : oe.dict = some de) (hn : notCls oe = true) (he : (e, oe) ∈ news)
    (hde : (de, dictOf [⟨hs1, .str "what" k1, .str what tw⟩, ⟨hs2, .str "spot" k2, .int sp ts⟩] 2) ∈ news) (h : Q (.int sp ts) { s with toks := s.toks + 1 }) : wpAny (model prog w) A (getAttr (.ref e) "spot" expr) Q E s := by
  have X := X₀.keeps F.keep
  refine exc_get (K := Q26.hd.heap_39 w.params) (C := 88) (od := some (dictOf [⟨hs1, .str "what" k1, .str what tw⟩, ⟨hs2, .str "spot" k2, .int sp ts⟩] 2)) X ⟨(N _ he).1, hc, hn, by rw [hd]; exact (N _ hde).1⟩ (by kernel_rfl) (by kernel_rfl) (by kernel_rfl)
    (findObj_own (attr := none) (by kernel_rfl) (by kernel_rfl) rfl (by rfl)) rfl h
end
end Q26
end
-- part QQuot
section
namespace Q26
theorem calm27 : True := by
  w_top off
  trivial
end Q26
open PySem PySem.W PyProof.Rows PySem.Spec PySem.Calls
namespace Q26
theorem warm4 : PySem.Challenge.rw_pc0026_01.prog = PySem.Challenge.rw_pc0026_01.prog ∧ Q26.hd.heap_39 = Q26.hd.heap_39 := by
  k_fill
  exact ⟨rfl, rfl⟩
local macro_rules | `(tactic| k_all) => `(tactic| with_reducible assumption)
local macro_rules | `(tactic| walk_at "exec While Compare cons nil") => `(tactic| (with_reducible refine stop_here ?_))
local macro_rules | `(tactic| walk_at "call ref") => `(tactic| (k_here; (try dsimp only [List.cons_append, List.nil_append, List.append_nil]); (with_reducible show wpAny _ _ (PySem.call (Value.ref 111) [Value.ref _]) _ _ _); k_dflt (refine' sign_use ?B ?F ?X ?N ?T ?hk ?hx ?hdx ?h0 ?hsp ?hlen ?hd ?hu ?_; (case B => k_asm); (case F => k_asm); (case X => k_asm); (case N => k_asm); (case T => k_asm); (case hk => exact rfl); (case hx => k_mem); (case hdx => k_mem); (case h0 => omega); (case hsp => omega); (case hlen => assumption); (case hd => ktr_room); (case hu => ktr_units)); intro t9 h9 tk9 F9 N9; (try k_sweep)))
local macro_rules | `(tactic| walk_at "call ref") => `(tactic| (k_here; (with_reducible show wpAny _ _ (PySem.call (Value.ref 88) [Value.str _ _, Value.int _ _]) _ _ _); k_dflt (refine' fault_walk ?B ?F ?X ?N ?T ?hk ?hd ?hu ?_; (case B => k_asm); (case F => k_asm); (case X => k_asm); (case N => k_asm); (case T => k_asm); (case hk => exact rfl); (case hd => ktr_room); (case hu => ktr_units)); intro e9 d9 t9 hs9 hs8 k9 k8 h9 tk9 F9 N9 l9; refine stop_here ?_))
local macro_rules | `(tactic| walk_at "exec Raise some none") => `(tactic| (k_here; k_dflt (refine raise_own rfl ?_)))
def QJ (m₀ : Str → Option Value) (txt : Str) (tt : Tok) (p x dx : Addr) (h1 h2 : Int) (k1 k2 : Tok) (b : Nat) (tl : List (Addr × Obj)) (n : Nat) (m₁ : Str → Option Value) (nx : List (Addr × Obj)) : Prop :=
  (∀ y, (["sign"] : List Str).contains y = false → m₁ y = m₀ y) ∧ ∃ (sp : Nat) (l : List (Str × Tok)) (vs : List Value) (nn : Nat) (ts : Tok), vs = strValues l ∧ nx = (p, listOf vs.toArray nn) :: (x, instObj 149 dx) :: (dx, scanD h1 h2 k1 k2 txt tt (sp : Int) ts 2) :: tl ∧
    b + 1 ≤ sp ∧ sp ≤ txt.cps.toList.length ∧ n = txt.cps.toList.length - sp ∧ scan (txt.cps.toList.drop (b + 1)) = (scan (txt.cps.toList.drop sp)).pre ((l.map (·.1.cps.toList)).flatten) (sp - (b + 1)) ∧ vs.length ≤ sp - (b + 1) ∧ (l.map (·.1.length)).sum ≤ sp - (b + 1)
theorem over_eq0 {stored : List Str} {m₁ m₀ : Str → Option Value} (hJ : ∀ y, stored.contains y = false → m₁ y = m₀ y) :
    m₁ = fun y => if stored.contains y then m₁ y else m₀ y := by
  funext y
  cases h2 : stored.contains y with
  | true => simp
  | false => simp only [Bool.false_eq_true, if_false]; exact hJ y h2
theorem quot_start {g h : Heap} {L D p x dx : Addr} {o oi : Obj} {h1 h2 : Int} {k1 k2 tt ts : Tok} {txt : Str} {b : Nat} {tl : List (Addr × Obj)}
    (N : News g L h ((D, o) :: (p, listOf #[] 0) :: (x, oi) :: (dx, dictOf [⟨h1, .str (Str.ofString "text") k1, .str txt tt⟩, ⟨h2, .str (Str.ofString "spot") k2, .int ((b : Int) + 1) ts⟩] 2) :: tl)) :
    ∃ ts', News g L h ((p, listOf ([] : List Value).toArray 0) :: (x, oi) :: (dx, scanD h1 h2 k1 k2 txt tt ((b + 1 : Nat) : Int) ts' 2) :: tl) :=
  ⟨ts, fun q hq => N q (.tail _ hq)⟩
theorem quot_end {m₀ m' : Str → Option Value} {txt S : Str} {tt ts tS tk : Tok} {g' h' : Heap} {L' p x dx : Addr} {h1 h2 spi : Int} {k1 k2 : Tok} {b sp j c nn : Nat} {l : List (Str × Tok)} {vs : List Value} {tl : List (Addr × Obj)} {s₁ : Shared} {Q : Flow → Shared → Prop}
    (F' : Fr g' L' h' m') (N' : News g' L' h' ((p, listOf (vs.toArray.push (.str S tS)) (nn + 1)) :: (x, instObj 149 dx) :: (dx, scanD h1 h2 k1 k2 txt tt spi ts 2) :: tl))
    (hm : ∀ y, (["sign"] : List Str).contains y = false → m' y = m₀ y) (hspi : spi = ((sp + j : Nat) : Int)) (hS : S.cps = #[c]) (hj : 0 < j) (hsc : scan (txt.cps.toList.drop sp) = (scan (txt.cps.toList.drop (sp + j))).push c j) (hle : sp + j ≤ txt.cps.toList.length)
    (hv : vs = strValues l) (hsp1 : b + 1 ≤ sp) (hold : scan (txt.cps.toList.drop (b + 1)) = (scan (txt.cps.toList.drop sp)).pre ((l.map (·.1.cps.toList)).flatten) (sp - (b + 1))) (hvl : vs.length ≤ sp - (b + 1)) (hsum : (l.map (·.1.length)).sum ≤ sp - (b + 1)) :
    WhileStep2 g' L' s₁ (QJ m₀ txt tt p x dx h1 h2 k1 k2 b tl) Q (txt.cps.toList.length - sp) .next { s₁ with heap := h', toks := tk } := by
  subst hspi
  have e : vs.toArray.push (Value.str S tS) = (vs ++ [Value.str S tS]).toArray := by simp
  rw [e] at N'
  have hSl : S.length = 1 := by unfold Str.length; rw [hS]; rfl
  refine ⟨h', tk, m', _, _, rfl, F', N', ?_, hm, sp + j, l ++ [(S, tS)], vs ++ [.str S tS], nn + 1, ts, ?_, rfl, by omega, hle, rfl, ?_, ?_, ?_⟩
  · omega
  · rw [hv]; simp [strValues]
  · rw [hold, hsc, Read.pre_push]
    have e2 : sp - (b + 1) + j = sp + j - (b + 1) := by omega
    rw [e2]
    simp [hS]
  · rw [List.length_append]; simp only [List.length_cons, List.length_nil]; omega
  · simp only [List.map_append, List.map_cons, List.map_nil, List.sum_append, List.sum_cons, List.sum_nil, hSl]; omega
theorem news_tl {h₀ h : Heap} {L : Addr} {q : Addr × Obj} {l : List (Addr × Obj)} (N : News h₀ L h (q :: l)) : News h₀ L h l := fun p hp => N p (.tail _ hp)
theorem not_sign {y : Str} (hy : (["sign"] : List Str).contains y = false) : y ≠ Str.ofString "sign" := fun e => by
  subst e
  simp at hy
theorem RaisedE.sub {base h : Heap} {l : List Env} {e de : Addr} {news news' : List (Addr × Obj)} (R : RaisedE base l e de news h) (hs : ∀ p ∈ news', p ∈ news) : RaisedE base l e de news' h := by
  obtain ⟨⟨B, t, h1, h2, h3⟩, h4⟩ := R
  exact ⟨⟨B, t, h1, fun q hq => h2 q (hs q hq), h3⟩, h4⟩
theorem RaisedE.drop1 {base h : Heap} {l : List Env} {e de : Addr} {q a : Addr × Obj} {r : List (Addr × Obj)} (R : RaisedE base l e de (q :: a :: r) h) : RaisedE base l e de (q :: r) h :=
  R.sub fun p hp => (List.mem_cons.mp hp).elim (fun e => e ▸ .head _) fun hp => .tail _ (.tail _ hp)
theorem raise_leaf {M : Model} {A : Around} {E : Value → Shared → Prop} {s' : Shared} {base g : Heap} {outer : List Env} {L a e t de p : Addr} {m : Str → Option Value} {name : Str} {scope : Scope} {cd : Value} {Q : Unit → Shared → Prop} {o3 o4 : Obj} {es : List DictEntry} {n : Nat} {rest : List (Addr × Obj)}
    (K : Below A base outer g) (F : Fr g L s'.heap m) (N : News g L s'.heap ((e, excObj 88 t (some de)) :: (de, dictOf es n) :: (t, o3) :: (p, o4) :: rest)) (hlt : ∀ q ∈ (p, o4) :: rest, q.1 < e)
    (hQ : ∀ h', RaisedE base outer e de ((de, dictOf es n) :: rest) h' → g.UpToSlots h' → Q () { s' with heap := h' }) (hk : scope.kind = .function := by rfl) :
    wpAny M (A.deeper (envOf name scope L a cd)) (leaving (envOf name scope L a cd) (.ref e)) Q E s' := by
  have h1 := (N _ (.head _)).1
  have h2 := (N _ (.tail _ (.head _))).1
  refine leave_exc (t := t) K F (news_sub N fun q hq => ?_) (fun q hq => ?_) hQ hk
  · rcases List.mem_cons.mp hq with rfl | hq
    · exact .head _
    · rcases List.mem_cons.mp hq with rfl | hq
      · exact .tail _ (.head _)
      · exact .tail _ (.tail _ (.tail _ (.tail _ hq)))
  · rcases List.mem_cons.mp hq with rfl | hq
    · intro z
      dsimp only at z h1 h2
      rw [z, h1] at h2
      have := congrArg Obj.cls (Option.some.inj h2)
      cases this
    · exact Nat.ne_of_lt (hlt q (.tail _ hq))
set_option maxRecDepth 100000 in
set_option maxHeartbeats 8000000 in
theorem quot_walk {w : World} {mean : ExcName → Option Value} {mg mb : Str → Option Value} {dp un : Nat} {gd : Option (List Code)} {cn : Str} {cs : Scope} {a : Addr} {ccd : Value} {cl : List (Str × Addr)} {outer : List Env} {A₀ : Around} {base h₀ : Heap} {L : Addr} {m : Str → Option Value} {s : Shared}
    {Q E : Value → Shared → Prop} {x dx : Addr} {b : Nat} {h1 h2 : Int} {k1 k2 tt ts : Tok} {txt : Str} {tl : List (Addr × Obj)}
    (B : Below A₀ base outer h₀) (F : Fr h₀ L s.heap m) (X : (Q26.hd.heap_39 w.params).In h₀) (N : News h₀ L s.heap ((x, instObj 149 dx) :: (dx, scanD h1 h2 k1 k2 txt tt (b : Int) ts 2) :: tl)) (T : TT mean mg mb h₀) (hk : cs.kind = .function)
    (hxd : @LT.lt Nat _ dx x) (htl : ∀ p ∈ tl, p.1 ≠ dx) (hb : b < txt.cps.toList.length) (hlen : txt.length ≤ 2000)
    (hd : dp + 6 < recursionLimit) (hu : un + 100 < cLine)
    (ret : ∀ S t h' tk' ts', (scan (txt.cps.toList.drop (b + 1))).how = .closed → S.cps.toList = (scan (txt.cps.toList.drop (b + 1))).text → Fr h₀ L h' m →
      News h₀ L h' ((x, instObj 149 dx) :: (dx, scanD h1 h2 k1 k2 txt tt ((b + 1 + (scan (txt.cps.toList.drop (b + 1))).used + 1 : Nat) : Int) ts' 2) :: tl) → Q (.str S t) { s with heap := h', toks := tk' })
    (bad : ∀ e de (sp' : Nat) sp2 what tw hs1 hs2 kk1 kk2 ts1 ts2 g h' tk', ((scan (txt.cps.toList.drop (b + 1))).how = .opened ∧ sp' = b) ∨ ((scan (txt.cps.toList.drop (b + 1))).how = .bad ∧ sp' = b + 1 + (scan (txt.cps.toList.drop (b + 1))).used) →
      Fr h₀ L g m → RaisedE base (envX cn cs L a ccd cl :: outer) e de ((de, dictOf [⟨hs1, .str "what" kk1, .str what tw⟩, ⟨hs2, .str "spot" kk2, .int (sp' : Int) ts1⟩] 2) :: (x, instObj 149 dx) :: (dx, scanD h1 h2 k1 k2 txt tt sp2 ts2 2) :: tl) h' → g.UpToSlots h' → E (.ref e) { s with heap := h', toks := tk' }) :
    wpAny (model PP w) (ktrTop dp un gd cn cs L a ccd cl outer) (call (.ref 132) [.ref x]) Q E s := by
  have hl : txt.length = txt.cps.toList.length := by simp [Str.length]
  refine wpAny_call ?_
  k_dflt ktr_enter
  k_steps
  rename_i g' L' h6 FG B' X' T' tk0 p h5 l1' D' h4 l1 h3 h2' h1' h' F1 N1
  obtain ⟨l1a, l1b, l1c⟩ := l1'
  have l1c' := lt_of_allLt l1c
  obtain ⟨ts1, N3⟩ := quot_start N1
  refine stop_on ?_
  refine While_inv2 (QJ _ txt tt p x dx h1 h2 k1 k2 b tl) (n₀ := txt.cps.toList.length - (b + 1)) F1 N3 ⟨fun _ _ => rfl, b + 1, [], [], 0, ts1, rfl, rfl, Nat.le_refl _, by omega, rfl, by simp [Read.pre_nil], by simp, by simp⟩ ?turn
  case turn =>
    rintro n m₁ nx h tk F2 N2 ⟨hJm, sp, l, vs, nn, ts', hvs, rfl, hsp1, hsp2, rfl, hsc, hvl, hsum⟩
    rw [over_eq0 hJm] at F2
    have hvl' : vs.length ≤ 2000 := by omega
    clear F1 N1 N3
    k_steps
    · have hsn := leaf_open (by assumption) (by assumption)
      rename News g' L' _ ((_, excObj _ _ _) :: _) => N9
      rename Fr g' L' _ _ => F9
      refine stop_on ⟨_, _, _, rfl, X'.keeps F9.keep, (N9 _ (.head _)).1, ?_⟩
      show wpAny _ _ (leaving _ _) _ _ _
      refine raise_leaf B' F9 N9 (by assumption) (fun h' R U => ?_)
      exact bad _ _ b _ _ _ _ _ _ _ _ _ g' h' _ (.inl ⟨by rw [hsc, hsn]; rfl, rfl⟩) FG R.drop1 U
    · have hsn := leaf_closed (by assumption)
      rename News g' L' _ _ => N9
      rename Fr g' L' _ _ => F9
      have hj : JoinOk Str.empty (l.map (·.1)) = true := joinOk_of (by rw [List.map_map]; exact Nat.le_trans hsum (by omega))
      subst hvs
      refine SC.join (l := l) ⟨_, (N9 _ (.tail _ (.head _))).1, rfl, _, rfl⟩ rfl hj ?_
      intro t9 k9
      show LeaveK _ _ _ _ _ _ _
      k_steps
      rename News h₀ L _ _ => N8
      rename Fr h₀ L _ m => F8
      have e : (sp : Int) + 1 = ((b + 1 + (scan (txt.cps.toList.drop (b + 1))).used + 1 : Nat) : Int) := by
        rw [hsc, hsn.1]
        show _ = ((b + 1 + (sp - (b + 1) + 0) + 1 : Nat) : Int)
        omega
      rw [e] at N8
      refine ret _ _ _ _ _ (by rw [hsc, hsn.1]; rfl) ?_ F8 (fun q hq => N8 q (.tail _ (.tail _ hq)))
      have e0 : (Str.ofString "" : Str) = Str.empty := by decide
      rw [e0, join_cps, hsc, hsn.1]
      simp [Read.pre, List.map_map]
      rfl
    · have hsn := leaf_bn (by assumption) (by assumption)
      rename News g' L' _ _ => N9
      rename Fr g' L' _ _ => F9
      exact quot_end F9 (news_tl (news_tl N9)) (fun y hy => by simp only [if_neg (not_sign hy), hy, Bool.false_eq_true, if_false]) (by omega) rfl (by decide) hsn.1 hsn.2 hvs hsp1 hsc hvl hsum
    · obtain ⟨c, e1, e2, e3⟩ := leaf_bk (by assumption) (by assumption) (by assumption)
      rename News g' L' _ _ => N9
      rename Fr g' L' _ _ => F9
      exact quot_end F9 (news_tl (news_tl N9)) (fun y hy => by simp only [if_neg (not_sign hy), hy, Bool.false_eq_true, if_false]) (by omega) (by rw [e1]) (by decide) e2 e3 hvs hsp1 hsc hvl hsum
    · have hsn := leaf_bad (by assumption) (by assumption)
      rename News g' L' _ ((_, excObj _ _ _) :: _) => N9
      rename Fr g' L' _ _ => F9
      refine stop_on ⟨_, _, _, rfl, X'.keeps F9.keep, (N9 _ (.head _)).1, ?_⟩
      show wpAny _ _ (leaving _ _) _ _ _
      refine raise_leaf B' F9 N9 (by assumption) (fun h' R U => ?_)
      have e : (sp : Int) + 1 - 1 = ((b + 1 + (scan (txt.cps.toList.drop (b + 1))).used : Nat) : Int) := by
        rw [hsc, hsn]
        show _ = ((b + 1 + (sp - (b + 1) + 0) : Nat) : Int)
        omega
      rw [e] at R
      exact bad _ _ _ _ _ _ _ _ _ _ _ _ g' h' _ (.inr ⟨by rw [hsc, hsn]; rfl, rfl⟩) FG R.drop1.drop1 U
    · obtain ⟨c, e1, e2, e3⟩ := leaf_plain (by assumption) (by assumption)
      rename News g' L' _ _ => N9
      rename Fr g' L' _ _ => F9
      exact quot_end F9 (news_tl N9) (fun y hy => by simp only [if_neg (not_sign hy), hy, Bool.false_eq_true, if_false]) (by omega) (by rw [e1]) (by decide) e2 e3 hvs hsp1 hsc hvl hsum
end Q26
end
-- part QAsk
section
namespace Q26
theorem calm28 : True := by
  w_top off
  trivial
end Q26
open PySem PySem.W PyProof.Rows PySem.Spec PySem.Calls
namespace Q26
theorem warm10 : PySem.Challenge.rw_pc0026_01.prog = PySem.Challenge.rw_pc0026_01.prog ∧ Q26.hd.heap_39 = Q26.hd.heap_39 := by
  k_fill
  exact ⟨rfl, rfl⟩
local macro_rules | `(tactic| k_all) => `(tactic| with_reducible assumption)
theorem code_raw {prog : Program} {w : World} {A₀ A : Around} {s : Shared} {K : Frag} {L : Addr} {h₀ base : Heap} {m mg mb : Str → Option Value} {news : List (Addr × Obj)} {p : Program} {loose : List Str} {mean : ExcName → Option Value} {env : Env} {outer : List Env} {R : Result → Shared → Prop} {name qual : Str} {params : Arguments} {body : List Stmt} {scope : Scope} {dV kV doc pm cdv ct oc : Value} {an od : Option Addr} {osl : Array (Option Value)} {f : Addr} {args : Args} {binds : List (Str × Value)}
    (B : Below A₀ base outer h₀) (F : Fr h₀ L s.heap m) (X₀ : K.In h₀) (N : News h₀ L s.heap news) (T : Top p loose mean mg mb h₀) (hA : A.frames = some (env :: outer)) (hf : env.frame = some L) (hke : env.scope.kind = .function)
    (ho : K.lookup f = some ⟨oc, od, .func (fnOf name qual params body scope dV kV doc pm an cdv ct), osl⟩) (hcd : codeIn K cdv qual = true) (hroom : A.depth < recursionLimit)
    (hbind : BindsTo s (fnOf name qual params body scope dV kV doc pm an cdv ct) args binds) (hloc : ∀ y ∈ binds, scope.names.lookup y.1 = some .local)
    (h : ∀ g L' h₁, Fr h₀ L g m → Fr g L' h₁ (fun y => binds.reverse.lookup y) → News g L' h₁ news → Below A base (env :: outer) g → K.In g → Top p loose mean mg mb g → (∀ p ∈ news, p.1 < L') → L < L' →
      wpAny (model prog w) (A.deeper (envOf qual scope L' f cdv)) (execs body (envOf qual scope L' f cdv))
        (fun fl s' => R (.ok (.ret (match fl with | .ret v => v | _ => .none))) s')
        (fun e s' => wpAny (model prog w) (A.deeper (envOf qual scope L' f cdv)) (leaving (envOf qual scope L' f cdv) e) (fun _ s'' => R (.error e) s'') (fun e' s'' => R (.error e') s'') s')
        { s with heap := h₁, toks := s.toks + binds.length })
    (hco : scope.isCoroutine = false) (hgen : scope.isGenerator = false) (hk : scope.kind = .function)
    (hcell : ∀ x ∈ scope.names, x.2 ≠ .cell) : codeAny (model prog w) A (.call (.ref f) args) R s := by
  obtain ⟨FG, BG, st, _⟩ := groundX (R := R) B F N hA hf hke
  refine codeAny_call_def (fd := fnOf name qual params body scope dV kV doc pm an cdv ct) (body := body) (binds := binds) hroom ((X₀.keeps F.keep) _ _ ho) rfl (T.nolimit.keeps F.keep) (codeRec_of (X₀.keeps F.keep) hcd) rfl hbind hcell hloc (fun h₁ hns hk₁ => ?_) hco hgen hk
  exact h _ s.heap.objs.size h₁ FG ⟨hns, fun b o e => hk₁ b o (of_hideAll _ e), Nat.le_of_eq (hideAll_size _ _)⟩
    (fun p hp => ⟨hk₁ _ _ (N p hp).1, Nat.ne_of_lt (Heap.lt_size (N p hp).1), hideAll_none _ (List.mem_map_of_mem hp)⟩) BG (X₀.keeps st) (T.keeps st) (fun p hp => Heap.lt_size (N p hp).1) F.ns.lt
local macro_rules | `(tactic| walk_at "call ref") => `(tactic| (k_here; (with_reducible show wpAny _ _ (PySem.call (Value.ref 132) [Value.ref _]) _ _ _); refine stop_here ?_))
local macro_rules | `(tactic| walk_at "getAttr ref") => `(tactic| (k_here; k_dflt (refine' spot_get ?k1 ?k2 ?k3 ?k4 ?k5 ?k6 ?k7 ?k8 ?_; (case k1 => k_asm); (case k2 => k_asm); (case k3 => k_asm); (case k4 => assumption); (case k5 => assumption); (case k6 => assumption); (case k7 => k_mem); (case k8 => k_mem))))
theorem back_plain {h₀ g h' : Heap} {L L' : Addr} {m m' : Str → Option Value} {news : List (Addr × Obj)} (FG : Fr h₀ L g m) (F9 : Fr g L' h' m') (N9 : News g L' h' news) : Fr h₀ L h' m ∧ News h₀ L h' news := by
  obtain ⟨oL, es, ep, hL, r⟩ := FG.ns
  refine ⟨⟨⟨oL, es, ep, F9.keep _ _ hL, r⟩, fun b o e => F9.keep b o (FG.keep b o e), FG.above⟩, fun p hp => ⟨(N9 p hp).1, fun z => ?_, ?_⟩⟩
  · have := (N9 p hp).2.2
    rw [z, hL] at this
    cases this
  · exact fresh_of_stays FG.keep (N9 p hp).2.2
theorem back_news {h₀ h' : Heap} {L L' : Addr} {news news' : List (Addr × Obj)} (N : News h₀ L' h' news) (hs : ∀ q ∈ news', q ∈ news) (hn : ∀ q ∈ news', q.1 ≠ L) : News h₀ L h' news' :=
  fun q hq => ⟨(N q (hs q hq)).1, hn q hq, (N q (hs q hq)).2.2⟩
theorem back_caught {h₀ h' : Heap} {L L' : Addr} {q1 q2 q3 q4 q5 q6 : Addr × Obj} {tl : List (Addr × Obj)} (N : News h₀ L' h' (q1 :: q2 :: q3 :: q4 :: q5 :: q6 :: tl)) (h1 : q1.1 ≠ L) (h5 : q5.1 ≠ L) (h6 : q6.1 ≠ L) (ht : ∀ q ∈ tl, q.1 ≠ L) : News h₀ L h' (q1 :: q5 :: q6 :: tl) := by
  refine back_news N (fun q hq => ?_) fun q hq => ?_
  · simp only [List.mem_cons] at hq ⊢
    grind
  · rcases List.mem_cons.mp hq with rfl | hq
    · exact h1
    · rcases List.mem_cons.mp hq with rfl | hq
      · exact h5
      · rcases List.mem_cons.mp hq with rfl | hq
        · exact h6
        · exact ht q hq
/-- what asked answers -/
def AnsOK (txt : Str) (b : Nat) (S : Str) (e : Nat) : Prop :=
  ((scan (txt.cps.toList.drop (b + 1))).how = .closed ∧ S.cps.toList = (scan (txt.cps.toList.drop (b + 1))).text ∧ e = b + 1 + (scan (txt.cps.toList.drop (b + 1))).used + 1) ∨
  ((scan (txt.cps.toList.drop (b + 1))).how = .opened ∧ S = Str.ofString "refused" ∧ e = b) ∨
  ((scan (txt.cps.toList.drop (b + 1))).how = .bad ∧ S = Str.ofString "refused" ∧ e = b + 1 + (scan (txt.cps.toList.drop (b + 1))).used)
set_option maxRecDepth 100000 in
set_option maxHeartbeats 8000000 in
theorem asked_walk {w : World} {mean : ExcName → Option Value} {mg mb : Str → Option Value} {dp un : Nat} {gd : Option (List Code)} {cn : Str} {cs : Scope} {a : Addr} {ccd : Value} {cl : List (Str × Addr)} {A₀ : Around} {h₀ : Heap} {L : Addr} {m : Str → Option Value} {s : Shared}
    {Q E : Value → Shared → Prop} {x dx : Addr} {b : Nat} {h1 h2 sp0 : Int} {k1 k2 tt ts tb : Tok} {txt : Str} {tl : List (Addr × Obj)}
    (B : Below A₀ h₀ [] h₀) (F : Fr h₀ L s.heap m) (X : (Q26.hd.heap_39 w.params).In h₀) (N : News h₀ L s.heap ((x, instObj 149 dx) :: (dx, scanD h1 h2 k1 k2 txt tt sp0 ts 2) :: tl)) (T : TT mean mg mb h₀) (hk : cs.kind = .function)
    (hxd : @LT.lt Nat _ dx x) (htl : ∀ p ∈ tl, p.1 ≠ dx) (hb : b < txt.cps.toList.length) (hlen : txt.length ≤ 2000)
    (hd : dp + 8 < recursionLimit) (hu : un + 120 < cLine)
    (ret : ∀ r S tS (e : Nat) te n h' tk' sp2 ts2, AnsOK txt b S e → Fr h₀ L h' m → News h₀ L h' ((r, { cls := .type "tuple", data := .seq #[.str S tS, .int (e : Int) te] n }) :: (x, instObj 149 dx) :: (dx, scanD h1 h2 k1 k2 txt tt sp2 ts2 2) :: tl) → (∀ p ∈ tl, p.1 < r) → Q (.ref r) { s with heap := h', toks := tk' }) :
    wpAny (model PP w) (ktrTop dp un gd cn cs L a ccd cl []) (call (.ref 179) [.ref x, .int (b : Int) tb]) Q E s := by
  have hl : txt.length = txt.cps.toList.length := by simp [Str.length]
  refine wpAny_call ?_
  k_dflt (refine' code_raw ?k1 ?k2 ?k3 ?k4 ?k5 ?kA ?kF ?kK ?k6 ?k7 ?k8 ?k9 ?kB ?_ ?c2 ?c3 ?c4 ?c5; (case kA => exact rfl); (case kF => exact rfl); (case kK => assumption); (case k1 => k_asm); (case k2 => k_asm); (case k3 => k_asm); (case k4 => k_asm); (case k5 => k_asm); (case k6 => k_is); (case k7 => k_is); (case k8 => ktr_room); (case k9 => exact BindsTo.of_eq rfl); (case c5 => decide); (case kB => exact locs rfl); (case c2 => exact rfl); (case c3 => exact rfl); (case c4 => exact rfl))
  intro g' L' h6 FG F' N' B' X' T' lt1 lLL
  try dsimp only
  try k_fold
  k_steps
  rename News g' L' _ _ => N2
  rename Fr g' L' _ _ => F2
  refine stop_on ?_
  show wpAny _ _ (PySem.call (Value.ref 132) [Value.ref x]) _ _ _
  refine quot_walk (b := b) B' F2 X' N2 T' rfl hxd htl hb hlen (by ktr_room) (by ktr_units) ?ret ?bad
  case ret =>
    intro S t h9 tk9 ts9 hcl htx F9 N9
    clear F2 N2
    show wpAny _ _ _ _ _ _
    k_steps
    rename News g' L' _ _ => N8
    rename Fr g' L' _ _ => F8
    obtain ⟨F7, N7⟩ := back_plain FG F8 N8
    show Q (.ref _) _
    exact ret _ _ _ _ _ _ _ _ _ _ (.inl ⟨hcl, htx, rfl⟩) F7 N7 (by rename (_ < _ ∧ _ < _ ∧ AllLt _ _) => l5; exact lt_of_allLt l5.2.2)
  case bad =>
    intro e de sp' sp2 what tw hs1 hs2 kk1 kk2 ts1 ts2 g2 h9 tk9 hcase Fg R9 U9
    obtain ⟨oL, es, ep, hL, hLd, hLk, hLf⟩ := FG.ns
    obtain ⟨sl, hsl⟩ := U9 L oL (Fg.keep _ _ hL) (fun vs q => by rw [hLd] at q; cases q)
    have hL0 : h₀.get? L = none := Heap.get?_none_of_le F.above
    refine caught_exc (Lw := L) (oL := { oL with slots := sl }) rfl (U9.ns Fg.ns) (Nat.le_trans F.above (Nat.le_of_lt lLL)) R9 X T hsl ⟨es, ep, hLd⟩ hL0 (Nat.ne_of_lt lLL) (fun h8 oe sl8 tk8 F8 N8 hoc hod hon => ?_)
    clear F2 N2 B' X' T' Fg R9 U9
    k_steps
    rename News h₀ L' _ _ => N6
    rename Fr h₀ L' _ _ => F6
    rename (_ < _ ∧ _ < _ ∧ _ < _ ∧ _ < _ ∧ _ < _ ∧ AllLt _ _) => l5
    refine name_goes_keeps F6 N6 ?_
    intro h5 v5 F5 N5
    have hlt := lt_of_allLt l5.2.2.2.2.2
    show Q (.ref _) _
    have N4 := back_caught N5 (Nat.ne_of_gt l5.2.1) (N _ (.head _)).2.1 (N _ (.tail _ (.head _))).2.1 (fun q hq => (N _ (.tail _ (.tail _ hq))).2.1)
    have F4 : Fr h₀ L h5 m := ⟨⟨_, es, ep, (N5 _ (.tail _ (.tail _ (.head _)))).1, hLd, hLk, hLf⟩, F5.keep, F.above⟩
    exact ret _ _ _ sp' _ _ _ _ _ _ (hcase.elim (fun z => .inr (.inl ⟨z.1, rfl, z.2⟩)) (fun z => .inr (.inr ⟨z.1, rfl, z.2⟩))) F4 N4 hlt
end Q26
end
-- part QUse
section
namespace Q26
theorem calm29 : True := by
  w_top off
  trivial
end Q26
open PySem PySem.W PyProof.Rows PySem.Spec PySem.Calls
namespace Q26
theorem signs_use {w : World} {mean : ExcName → Option Value} {mg mb : Str → Option Value} {dp un : Nat} {gd : Option (List Code)} {cn : Str} {cs : Scope} {a : Addr} {ccd : Value} {cl : List (Str × Addr)} {outer : List Env} {A₀ : Around} {base h₀ : Heap} {L : Addr} {m : Str → Option Value} {s : Shared}
    {Q E : Value → Shared → Prop} {d c : Addr} {n nc : Nat} {at_ many : Int} {ta tm : Tok} {vs : List Value} {ns : List Int} {news : List (Addr × Obj)} {g : Obj → List (Addr × Obj)}
    (B : Below A₀ base outer h₀) (F : Fr h₀ L s.heap m) (X : (Q26.hd.heap_39 w.params).In h₀) (N : News h₀ L s.heap news) (T : TT mean mg mb h₀) (hk : cs.kind = .function)
    (U : UpdF d (listOf #[.ref c, .int at_ ta] n) news g) (hc : (c, listOf vs.toArray nc) ∈ news)
    (hdc : @LT.lt Nat _ c d) (hi : IntsAre vs ns) (hlen : ns.length ≤ 60) (hat : 0 ≤ at_) (hat2 : at_ < 500) (hm : 0 ≤ many) (hm2 : many ≤ 6)
    (hd : dp + 3 < recursionLimit) (hu : un + 30 < cLine)
    (ret : ∀ f vs' nn sg tl₂ h' tk' ta' at', at' = at_ + many → Fr h₀ L h' m → News h₀ L h' ((f, listOf vs'.toArray nn) :: (tl₂ ++ g (listOf #[.ref c, .int at' ta'] n))) → PairsIn w tl₂ vs' sg → (∀ p ∈ sg, Sgn p) → (sg.length : Int) = many →
      (∀ p ∈ news, @LT.lt Nat _ p.1 f) → (∀ p ∈ tl₂, @LT.lt Nat _ f p.1) → Q (.ref f) { s with heap := h', toks := tk' }) :
    wpAny (model PP w) (ktrTop dp un gd cn cs L a ccd cl outer) (call (.ref 172) [.ref d, .int many tm]) Q E s := by
  obtain ⟨pre, post, rfl, hg, h1, h2⟩ := U.split
  have hcd : c ≠ d := Nat.ne_of_lt hdc
  have hc' : (c, listOf vs.toArray nc) ∈ pre ++ post := by
    rcases List.mem_append.mp hc with q | q
    · exact List.mem_append_left _ q
    · rcases List.mem_cons.mp q with q | q
      · exact absurd (congrArg Prod.fst q) hcd
      · exact List.mem_append_right _ q
  refine signs_walk (tl := pre ++ post) (vs := vs) (nc := nc) (ta := ta) (n := n) B F X (news_sub N ?_) T hk hdc ?_ hi hlen hat hat2 hm hm2 hd hu ?_
  · intro p hp
    rcases List.mem_cons.mp hp with rfl | hp
    · exact List.mem_append_right _ (.head _)
    · rcases List.mem_cons.mp hp with rfl | hp
      · exact hc
      · rcases List.mem_append.mp hp with q | q
        · exact List.mem_append_left _ q
        · exact List.mem_append_right _ (.tail _ q)
  · intro p hp
    rcases List.mem_append.mp hp with q | q
    · exact h1 p q
    · exact h2 p q
  · intro f vs' nn sg tl₂ h' tk' ta' at' hat' F' N' P hsg hsl l1 l2 l3
    refine ret f vs' nn sg tl₂ h' tk' ta' at' hat' F' (news_sub N' ?_) P hsg hsl ?_ l3
    · intro p hp
      rcases List.mem_cons.mp hp with rfl | hp
      · exact .head _
      · rcases List.mem_append.mp hp with q | q
        · exact .tail _ (.tail _ (.tail _ (List.mem_append_left _ q)))
        · rw [hg] at q
          rcases List.mem_append.mp q with q | q
          · exact .tail _ (.tail _ (.tail _ (List.mem_append_right _ (List.mem_append_left _ q))))
          · rcases List.mem_cons.mp q with rfl | q
            · exact .tail _ (.head _)
            · exact .tail _ (.tail _ (.tail _ (List.mem_append_right _ (List.mem_append_right _ q))))
    · intro p hp
      rcases List.mem_append.mp hp with q | q
      · exact l2 p (List.mem_append_left _ q)
      · rcases List.mem_cons.mp q with rfl | q
        · exact l1
        · exact l2 p (List.mem_append_right _ q)
theorem bent_use {w : World} {mean : ExcName → Option Value} {mg mb : Str → Option Value} {dp un : Nat} {gd : Option (List Code)} {cn : Str} {cs : Scope} {a : Addr} {ccd : Value} {cl : List (Str × Addr)} {outer : List Env} {A₀ : Around} {base h₀ : Heap} {L : Addr} {m : Str → Option Value} {s : Shared}
    {Q E : Value → Shared → Prop} {f : Addr} {nn : Nat} {b : Nat} {way : Int} {tw tb tr : Tok} {rest : Str} {vs : List Value} {sg : List (Str × Str)} {news : List (Addr × Obj)}
    (B : Below A₀ base outer h₀) (F : Fr h₀ L s.heap m) (X : (Q26.hd.heap_39 w.params).In h₀) (N : News h₀ L s.heap news) (hf : (f, listOf vs.toArray nn) ∈ news) (T : TT mean mg mb h₀) (hk : cs.kind = .function)
    (P : PairsIn w news vs sg) (hsg : ∀ p ∈ sg, Sgn p) (hlen : sg.length ≤ 6) (hw0 : 0 ≤ way) (hw5 : way < 5) (hrest : rest.length ≤ 1000)
    (hd : dp + 3 < recursionLimit) (hu : un + 50 < cLine)
    (ret : ∀ r S tS (e : Nat) te n h' tk', S.cps.toList = bentText way (enc sg) rest.cps.toList → e = bentSpot way b (enc sg).length → Fr h₀ L h' m → News h₀ L h' ((r, { cls := .type "tuple", data := .seq #[.str S tS, .int (e : Int) te] n }) :: news) →
      (∀ p ∈ news, p.1 < r) → Q (.ref r) { s with heap := h', toks := tk' }) :
    wpAny (model PP w) (ktrTop dp un gd cn cs L a ccd cl outer) (call (.ref 184) [.int way tw, .ref f, .int (b : Int) tb, .str rest tr]) Q E s :=
  bent_walk (tl := news) B F X (fun p hp => (List.mem_cons.mp hp).elim (fun e => e ▸ N _ hf) (N p)) T hk P hsg hlen hw0 hw5 hrest hd hu fun r S tS e te n h' tk' h1 h2 F' N' l1 _ =>
    ret r S tS e te n h' tk' h1 h2 F' (fun p hp => N' p ((List.mem_cons.mp hp).elim (fun e => e ▸ .head _) fun hp => .tail _ (.tail _ hp))) l1
theorem asked_use {w : World} {mean : ExcName → Option Value} {mg mb : Str → Option Value} {dp un : Nat} {gd : Option (List Code)} {cn : Str} {cs : Scope} {a : Addr} {ccd : Value} {cl : List (Str × Addr)} {A₀ : Around} {h₀ : Heap} {L : Addr} {m : Str → Option Value} {s : Shared}
    {Q E : Value → Shared → Prop} {x dx : Addr} {b : Nat} {h1 h2 sp0 : Int} {k1 k2 tt ts tb : Tok} {txt : Str} {news : List (Addr × Obj)} {g : Obj → List (Addr × Obj)}
    (B : Below A₀ h₀ [] h₀) (F : Fr h₀ L s.heap m) (X : (Q26.hd.heap_39 w.params).In h₀) (N : News h₀ L s.heap news) (T : TT mean mg mb h₀) (hk : cs.kind = .function)
    (hx : (x, instObj 149 dx) ∈ news) (U : UpdF dx (scanD h1 h2 k1 k2 txt tt sp0 ts 2) news g) (hxd : @LT.lt Nat _ dx x) (hb : b < txt.cps.toList.length) (hlen : txt.length ≤ 2000)
    (hd : dp + 8 < recursionLimit) (hu : un + 120 < cLine)
    (ret : ∀ r S tS (e : Nat) te n h' tk' sp2 ts2, AnsOK txt b S e → Fr h₀ L h' m → News h₀ L h' ((r, { cls := .type "tuple", data := .seq #[.str S tS, .int (e : Int) te] n }) :: g (scanD h1 h2 k1 k2 txt tt sp2 ts2 2)) → (∀ p ∈ news, p.1 ≠ dx → p.1 < r) → Q (.ref r) { s with heap := h', toks := tk' }) :
    wpAny (model PP w) (ktrTop dp un gd cn cs L a ccd cl []) (call (.ref 179) [.ref x, .int (b : Int) tb]) Q E s := by
  obtain ⟨pre, post, rfl, hg, h1', h2'⟩ := U.split
  have hx' : (x, instObj 149 dx) ∈ pre ++ post := by
    rcases List.mem_append.mp hx with q | q
    · exact List.mem_append_left _ q
    · rcases List.mem_cons.mp q with q | q
      · exact absurd (congrArg Prod.fst q) (Nat.ne_of_gt hxd)
      · exact List.mem_append_right _ q
  refine asked_walk (tl := pre ++ post) (h1 := h1) (h2 := h2) (sp0 := sp0) (k1 := k1) (k2 := k2) (tt := tt) (ts := ts) B F X (news_sub N ?_) T hk hxd ?_ hb hlen hd hu ?_
  · intro p hp
    rcases List.mem_cons.mp hp with rfl | hp
    · exact hx
    · rcases List.mem_cons.mp hp with rfl | hp
      · exact List.mem_append_right _ (.head _)
      · rcases List.mem_append.mp hp with q | q
        · exact List.mem_append_left _ q
        · exact List.mem_append_right _ (.tail _ q)
  · intro p hp
    rcases List.mem_append.mp hp with q | q
    · exact h1' p q
    · exact h2' p q
  · intro r S tS e te n h' tk' sp2 ts2 hA F' N' l1
    refine ret r S tS e te n h' tk' sp2 ts2 hA F' (news_sub N' ?_) ?_
    · intro p hp
      rcases List.mem_cons.mp hp with rfl | hp
      · exact .head _
      · rw [hg] at hp
        rcases List.mem_append.mp hp with q | q
        · exact .tail _ (.tail _ (.tail _ (List.mem_append_left _ q)))
        · rcases List.mem_cons.mp q with rfl | q
          · exact .tail _ (.tail _ (.head _))
          · exact .tail _ (.tail _ (.tail _ (List.mem_append_right _ q)))
    · intro p hp hne
      rcases List.mem_append.mp hp with q | q
      · exact l1 p (List.mem_append_left _ q)
      · rcases List.mem_cons.mp q with rfl | q
        · exact absurd rfl hne
        · exact l1 p (List.mem_append_right _ q)
end Q26
end
-- part QPlain
section
namespace Q26
theorem calm30 : True := by
  w_top off
  trivial
end Q26
open PySem PySem.W PyProof.Rows PySem.Spec PySem.Calls
namespace Q26
/-- a quotation: what stands ahead of it, and its signs -/
abbrev Qn := List Nat × List (Str × Str)
def piece (q : Qn) : List Nat := q.1 ++ 34 :: (enc q.2 ++ [34])
def body : List Qn → List Nat
  | [] => []
  | q :: r => piece q ++ body r
theorem body_append : ∀ a b, body (a ++ b) = body a ++ body b
  | [], b => rfl
  | q :: r, b => by simp [body, body_append r b]
/-- an entry that is due: where it begins, what it tells, where it ends -/
abbrev Due := Nat × Str × Nat
/-- an entry stands for a quotation at o -/
def DueOf (o : Nat) (q : Qn) (d : Due) : Prop := d.1 = o + q.1.length ∧ d.2.1.cps.toList = mnt q.2 ∧ d.2.2 = o + (piece q).length
def DuesOf : Nat → List Qn → List Due → Prop
  | _, [], [] => True
  | o, q :: r, d :: ds => DueOf o q d ∧ DuesOf (o + (piece q).length) r ds
  | _, _, _ => False
theorem DuesOf.snoc : ∀ {o : Nat} {qs : List Qn} {ds : List Due} {q : Qn} {d : Due}, DuesOf o qs ds → DueOf (o + (body qs).length) q d → DuesOf o (qs ++ [q]) (ds ++ [d])
  | o, [], [], q, d, _, h => ⟨by simpa [body] using h, trivial⟩
  | o, q' :: r, d' :: ds, q, d, ⟨h1, h2⟩, h => ⟨h1, DuesOf.snoc h2 (by simpa [body, Nat.add_assoc] using h)⟩
  | _, [], _ :: _, _, _, h, _ => h.elim
  | _, _ :: _, [], _, _, h, _ => h.elim
theorem DuesOf.length : ∀ {o : Nat} {qs : List Qn} {ds : List Due}, DuesOf o qs ds → ds.length = qs.length
  | _, [], [], _ => rfl
  | _, _ :: _, _ :: _, ⟨_, h⟩ => by simp [h.length]
  | _, [], _ :: _, h => h.elim
  | _, _ :: _, [], h => h.elim
theorem DuesOf.split : ∀ {o : Nat} {qs : List Qn} {ds : List Due} (k : Nat), DuesOf o qs ds → DuesOf o (qs.take k) (ds.take k) ∧ DuesOf (o + (body (qs.take k)).length) (qs.drop k) (ds.drop k)
  | o, qs, ds, 0, h => by simpa [body, DuesOf] using h
  | o, [], [], k + 1, h => by simp [body, DuesOf]
  | o, q :: r, d :: ds, k + 1, ⟨h1, h2⟩ => by
    obtain ⟨a, b⟩ := DuesOf.split k h2
    refine ⟨⟨h1, a⟩, ?_⟩
    have e : o + (body (List.take (k + 1) (q :: r))).length = o + (piece q).length + (body (r.take k)).length := by simp [body, Nat.add_assoc]
    rw [e]
    exact b
  | _, [], _ :: _, _, h => h.elim
  | _, _ :: _, [], _, h => h.elim
def Good (q : Qn) : Prop := (∀ p ∈ q.2, Sgn p) ∧ q.2.length ≤ 6 ∧ q.1.length ≤ 2
/-- what the text answers at an entry -/
def Fits (txt : Str) (d : Due) : Prop := AnsOK txt d.1 d.2.1 d.2.2 ∧ d.1 < txt.cps.toList.length
theorem fits_closed {txt : Str} {pre post : List Nat} {sg : List (Str × Str)} {d : Due} (hsg : ∀ p ∈ sg, Sgn p) (ht : txt.cps.toList = pre ++ 34 :: (enc sg ++ 34 :: post)) (h1 : d.1 = pre.length) (h2 : d.2.1.cps.toList = mnt sg) (h3 : d.2.2 = pre.length + 1 + (enc sg).length + 1) : Fits txt d := by
  have e : txt.cps.toList.drop (d.1 + 1) = enc sg ++ 34 :: post := by rw [ht, h1]; simp
  have es : scan (txt.cps.toList.drop (d.1 + 1)) = ⟨mnt sg, (enc sg).length, .closed⟩ := by rw [e, scan_enc hsg, scan_q]; simp [Read.pre]
  refine ⟨.inl ?_, ?_⟩
  · rw [es]
    exact ⟨rfl, h2, by rw [h3, h1]⟩
  · rw [ht, h1]; simp
/-- entries that lie behind some text -/
theorem fits_dues {txt : Str} : ∀ {qs : List Qn} {ds : List Due} {o : Nat} {pre post : List Nat} {sh : Nat}, (∀ q ∈ qs, Good q) → DuesOf o qs ds → txt.cps.toList = pre ++ (body qs ++ post) → pre.length = o + sh → ∀ d ∈ ds, Fits txt (d.1 + sh, d.2.1, d.2.2 + sh)
  | [], [], _, _, _, _, _, _, _, _, d, hd => by cases hd
  | q :: r, d0 :: ds, o, pre, post, sh, hg, ⟨h1, h2⟩, ht, hp, d, hd => by
    rcases List.mem_cons.mp hd with rfl | hd
    · obtain ⟨a, b, c⟩ := h1
      refine fits_closed (pre := pre ++ q.1) (post := body r ++ post) (sg := q.2) (hg q (.head _)).1 ?_ ?_ b ?_
      · rw [ht]; simp [body, piece]
      · simp only [List.length_append]; omega
      · simp only [List.length_append]; rw [c]; simp [piece]; omega
    · refine fits_dues (pre := pre ++ piece q) (post := post) (sh := sh) (fun q hq => hg q (.tail _ hq)) h2 ?_ ?_ d hd
      · rw [ht]; simp [body]
      · simp only [List.length_append]; omega
  | [], _ :: _, _, _, _, _, _, h, _, _, _, _ => h.elim
  | _ :: _, [], _, _, _, _, _, h, _, _, _, _ => h.elim
theorem AnsOK.same {txt : Str} {b : Nat} {S S' : Str} {e e' : Nat} (h : AnsOK txt b S e) (h' : AnsOK txt b S' e') : S = S' ∧ e = e' := by
  have ext : ∀ x y : Str, x.cps.toList = y.cps.toList → x = y := fun x y q => by
    obtain ⟨⟨a⟩⟩ := x
    obtain ⟨⟨b⟩⟩ := y
    simpa using q
  rcases h with ⟨a, b, c⟩ | ⟨a, b, c⟩ | ⟨a, b, c⟩ <;> rcases h' with ⟨a', b', c'⟩ | ⟨a', b', c'⟩ | ⟨a', b', c'⟩ <;> first
    | (rw [a] at a'; cases a'; done)
    | exact ⟨ext _ _ (b.trans b'.symm), c.trans c'.symm⟩
    | exact ⟨b.trans b'.symm, c.trans c'.symm⟩
theorem piece_len {q : Qn} (h : Good q) : (piece q).length ≤ 16 := by
  have := (enc_len h.1).1
  have h2 := h.2
  simp only [piece, List.length_append, List.length_cons, List.length_nil]
  omega
theorem body_len : ∀ {qs : List Qn}, (∀ q ∈ qs, Good q) → (body qs).length ≤ 16 * qs.length
  | [], _ => by simp [body]
  | q :: r, h => by
    have := body_len (qs := r) fun q hq => h q (.tail _ hq)
    have := piece_len (h q (.head _))
    simp only [body, List.length_append, List.length_cons]
    omega
theorem bent_fits {txt txt' : Str} {qs : List Qn} {ds : List Due} {p : Nat} {q : Qn} {d : Due} {way : Int} (hg : ∀ q ∈ qs, Good q) (D : DuesOf 0 qs ds) (ht : txt.cps.toList = body qs) (hq : qs[p]? = some q) (hd : ds[p]? = some d) (h0 : 0 ≤ way) (h5 : way < 5)
    (ht' : txt'.cps.toList = (txt.cps.toList.take d.1) ++ bentText way (enc q.2) (txt.cps.toList.drop d.2.2)) :
    (∀ x ∈ ds.take p, Fits txt' x) ∧ Fits txt' (d.1, Str.ofString "refused", bentSpot way d.1 (enc q.2).length) ∧
    ((way = 0 ∨ way = 2 ∨ way = 3) → ∃ sh : Nat, txt'.cps.toList.length = txt.cps.toList.length + sh ∧ ∀ x ∈ ds.drop (p + 1), Fits txt' (x.1 + sh, x.2.1, x.2.2 + sh)) := by
  obtain ⟨D1, D2⟩ := D.split p
  obtain ⟨hp, hqe⟩ := List.getElem?_eq_some_iff.mp hq
  obtain ⟨hp', hde⟩ := List.getElem?_eq_some_iff.mp hd
  have eq1 : qs.drop p = q :: qs.drop (p + 1) := by rw [List.drop_eq_getElem_cons hp, hqe]
  have ed1 : ds.drop p = d :: ds.drop (p + 1) := by rw [List.drop_eq_getElem_cons hp', hde]
  rw [eq1, ed1] at D2
  obtain ⟨⟨a1, a2, a3⟩, D3⟩ := D2
  have eb : body qs = body (qs.take p) ++ (piece q ++ body (qs.drop (p + 1))) := by
    conv => lhs; rw [← List.take_append_drop p qs, body_append, eq1]
    rfl
  have hgq : Good q := hg q (by rw [← hqe]; exact List.getElem_mem hp)
  simp only [Nat.zero_add] at a1 a3 D3
  have e1 : txt.cps.toList.take d.1 = body (qs.take p) ++ q.1 := by
    have : body qs = (body (qs.take p) ++ q.1) ++ (34 :: (enc q.2 ++ [34]) ++ body (qs.drop (p + 1))) := by rw [eb]; simp [piece]
    rw [ht, this, a1]
    exact List.take_left' (by simp)
  have e2 : txt.cps.toList.drop d.2.2 = body (qs.drop (p + 1)) := by
    have : body qs = (body (qs.take p) ++ piece q) ++ body (qs.drop (p + 1)) := by rw [eb]; simp
    rw [ht, this, a3]
    exact List.drop_left' (by simp)
  rw [e1, e2] at ht'
  have hl : txt.cps.toList.length = (body (qs.take p)).length + ((piece q).length + (body (qs.drop (p + 1))).length) := by rw [ht, eb]; simp
  have epl : (piece q).length = q.1.length + 1 + (enc q.2).length + 1 := by simp [piece]; omega
  refine ⟨?_, ?_, ?_⟩
  · intro x hx
    have := fits_dues (txt := txt') (pre := []) (post := q.1 ++ bentText way (enc q.2) (body (qs.drop (p + 1)))) (sh := 0) (fun q hq => hg q (List.mem_of_mem_take hq)) D1 (by rw [ht']; simp) rfl x hx
    simpa using this
  · have edr : txt'.cps.toList.drop (d.1 + 1) = enc q.2 ++ (if way = 0 then 10 :: 34 :: (body (qs.drop (p + 1))) else if way = 1 then [] else if way = 2 then 92 :: 113 :: 34 :: (body (qs.drop (p + 1))) else if way = 3 then 92 :: 10 :: 34 :: (body (qs.drop (p + 1))) else [92]) := by
      have hl1 : d.1 + 1 = (body (qs.take p) ++ q.1 ++ [34]).length := by rw [a1]; simp; omega
      have : txt'.cps.toList = (body (qs.take p) ++ q.1 ++ [34]) ++ (enc q.2 ++ (if way = 0 then 10 :: 34 :: (body (qs.drop (p + 1))) else if way = 1 then [] else if way = 2 then 92 :: 113 :: 34 :: (body (qs.drop (p + 1))) else if way = 3 then 92 :: 10 :: 34 :: (body (qs.drop (p + 1))) else [92])) := by rw [ht']; simp [bentText]
      rw [this, hl1]
      exact List.drop_left' rfl
    have hlt : d.1 < txt'.cps.toList.length := by
      rw [ht']; simp only [bentText, List.length_append, List.length_cons]; omega
    refine ⟨?_, hlt⟩
    have hw : way = 0 ∨ way = 1 ∨ way = 2 ∨ way = 3 ∨ way = 4 := by omega
    rcases hw with rfl | rfl | rfl | rfl | rfl
    · have es : scan (txt'.cps.toList.drop (d.1 + 1)) = ⟨mnt q.2, (enc q.2).length, .opened⟩ := by rw [edr, scan_enc hgq.1]; simp [scan_lf, Read.pre]
      exact .inr (.inl ⟨by show (scan (txt'.cps.toList.drop (d.1 + 1))).how = _; rw [es], rfl, by simp [bentSpot]⟩)
    · have es : scan (txt'.cps.toList.drop (d.1 + 1)) = ⟨mnt q.2, (enc q.2).length, .opened⟩ := by rw [edr, scan_enc hgq.1]; simp [scan_nil, Read.pre]
      exact .inr (.inl ⟨by show (scan (txt'.cps.toList.drop (d.1 + 1))).how = _; rw [es], rfl, by simp [bentSpot]⟩)
    · have es : scan (txt'.cps.toList.drop (d.1 + 1)) = ⟨mnt q.2, (enc q.2).length, .bad⟩ := by rw [edr, scan_enc hgq.1]; simp [scan_bad, Read.pre]
      exact .inr (.inr ⟨by show (scan (txt'.cps.toList.drop (d.1 + 1))).how = _; rw [es], rfl, by show bentSpot 2 d.1 _ = d.1 + 1 + (scan (txt'.cps.toList.drop (d.1 + 1))).used; rw [es]; simp [bentSpot]⟩)
    · have es : scan (txt'.cps.toList.drop (d.1 + 1)) = ⟨mnt q.2, (enc q.2).length, .bad⟩ := by rw [edr, scan_enc hgq.1]; simp [scan_bad, Read.pre]
      exact .inr (.inr ⟨by show (scan (txt'.cps.toList.drop (d.1 + 1))).how = _; rw [es], rfl, by show bentSpot 3 d.1 _ = d.1 + 1 + (scan (txt'.cps.toList.drop (d.1 + 1))).used; rw [es]; simp [bentSpot]⟩)
    · have es : scan (txt'.cps.toList.drop (d.1 + 1)) = ⟨mnt q.2, (enc q.2).length, .bad⟩ := by rw [edr, scan_enc hgq.1]; simp [scan_bs, Read.pre]
      exact .inr (.inr ⟨by show (scan (txt'.cps.toList.drop (d.1 + 1))).how = _; rw [es], rfl, by show bentSpot 4 d.1 _ = d.1 + 1 + (scan (txt'.cps.toList.drop (d.1 + 1))).used; rw [es]; simp [bentSpot]⟩)
  · intro hw

    rcases hw with rfl | rfl | rfl
    · refine ⟨1, by rw [ht', hl]; simp [bentText]; omega, fun x hx => fits_dues (txt := txt') (pre := body (qs.take p) ++ q.1 ++ 34 :: (enc q.2 ++ [10, 34])) (post := []) (sh := 1) (fun q hq => hg q (List.mem_of_mem_drop hq)) D3 (by rw [ht']; simp [bentText]) (by simp; omega) x hx⟩
    · refine ⟨2, by rw [ht', hl]; simp [bentText]; omega, fun x hx => fits_dues (txt := txt') (pre := body (qs.take p) ++ q.1 ++ 34 :: (enc q.2 ++ [92, 113, 34])) (post := []) (sh := 2) (fun q hq => hg q (List.mem_of_mem_drop hq)) D3 (by rw [ht']; simp [bentText]) (by simp; omega) x hx⟩
    · refine ⟨2, by rw [ht', hl]; simp [bentText]; omega, fun x hx => fits_dues (txt := txt') (pre := body (qs.take p) ++ q.1 ++ 34 :: (enc q.2 ++ [92, 10, 34])) (post := []) (sh := 2) (fun q hq => hg q (List.mem_of_mem_drop hq)) D3 (by rw [ht']; simp [bentText]) (by simp; omega) x hx⟩
end Q26
end
-- part QState
section
namespace Q26
theorem calm31 : True := by
  w_top off
  trivial
end Q26
open PySem PySem.W PyProof.Rows PySem.Spec PySem.Calls
namespace Q26
theorem toN {a b : Addr} (h : a ≠ b) : @Ne Nat a b := h
abbrev tup2 (a b : Value) (n : Nat) : Obj := { cls := .type "tuple", data := .seq #[a, b] n }
/-- an entry of due, as it stands in the heap -/
def DueIn (tl : List (Addr × Obj)) (v : Value) (d : Due) : Prop :=
  ∃ t1 n1 tb t2 n2 tm te, v = .ref t1 ∧ (t1, tup2 (.int (d.1 : Int) tb) (.ref t2) n1) ∈ tl ∧ (t2, tup2 (.str d.2.1 tm) (.int (d.2.2 : Int) te) n2) ∈ tl
theorem DueIn.mono {tl tl' : List (Addr × Obj)} {v : Value} {d : Due} (h : DueIn tl v d) (hs : ∀ q ∈ tl, q ∈ tl') : DueIn tl' v d :=
  let ⟨t1, n1, tb, t2, n2, tm, te, a, b, c⟩ := h; ⟨t1, n1, tb, t2, n2, tm, te, a, hs _ b, hs _ c⟩
abbrev DuesIn (tl : List (Addr × Obj)) : List Value → List Due → Prop := Paired (DueIn tl)
theorem DuesIn.mono {tl tl' : List (Addr × Obj)} {vs : List Value} {ds : List Due} (h : DuesIn tl vs ds) (hs : ∀ q ∈ tl, q ∈ tl') : DuesIn tl' vs ds := paired_imp (fun _ _ x => x.mono hs) h
/-- what late holds -/
def LateIn (w : World) (tl : List (Addr × Obj)) (lv : Value) (bend place : Int) (i : Nat) (qs : List Qn) (ds : List Due) : Prop :=
  (lv = .none ∧ ¬ (bend = 1 ∧ place < (i : Int))) ∨ (bend = 1 ∧ place < (i : Int) ∧ ∃ tL nL tb fl nl fvs q d, lv = .ref tL ∧ (tL, tup2 (.int (d.1 : Int) tb) (.ref fl) nL) ∈ tl ∧ (fl, listOf fvs.toArray nl) ∈ tl ∧ PairsIn w tl fvs q.2 ∧ qs[place.toNat]? = some q ∧ ds[place.toNat]? = some (d : Due))
theorem LateIn.mono {w : World} {tl tl' : List (Addr × Obj)} {lv : Value} {bend place : Int} {i : Nat} {qs : List Qn} {ds : List Due} {q : Qn} {d : Due} (h : LateIn w tl lv bend place i qs ds) (hs : ∀ q ∈ tl, q ∈ tl') (hi : qs.length = i) (hn : ¬ (bend = 1 ∧ place = (i : Int))) (hp : 0 ≤ place) (hdl : ds.length = qs.length) :
    LateIn w tl' lv bend place (i + 1) (qs ++ [q]) (ds ++ [d]) := by
  rcases h with ⟨h1, h2⟩ | ⟨h1, h2, tL, nL, tb, fl, nl, fvs, q', d', a, b, c, e, f, g⟩
  · exact .inl ⟨h1, fun z => h2 ⟨z.1, by have := z.2; have : ¬ (place = (i : Int)) := fun q => hn ⟨z.1, q⟩; omega⟩⟩
  · refine .inr ⟨h1, by omega, tL, nL, tb, fl, nl, fvs, q', d', a, hs _ b, hs _ c, e.mono hs, ?_, ?_⟩
    · rw [List.getElem?_append_left (by omega)]; exact f
    · rw [List.getElem?_append_left (by omega)]; exact g
theorem LateIn.here {w : World} {tl : List (Addr × Obj)} {bend place : Int} {i : Nat} {qs : List Qn} {ds : List Due} {q : Qn} {d : Due} {tL fl : Addr} {nL nl : Nat} {tb : Tok} {fvs : List Value} (hb : bend = 1) (hp : place = (i : Int)) (hi : qs.length = i) (hdl : ds.length = qs.length)
    (h1 : (tL, tup2 (.int (d.1 : Int) tb) (.ref fl) nL) ∈ tl) (h2 : (fl, listOf fvs.toArray nl) ∈ tl) (h3 : PairsIn w tl fvs q.2) : LateIn w tl (.ref tL) bend place (i + 1) (qs ++ [q]) (ds ++ [d]) := by
  refine .inr ⟨hb, by omega, tL, nL, tb, fl, nl, fvs, q, d, rfl, h1, h2, h3, ?_, ?_⟩
  · have : place.toNat = qs.length := by omega
    rw [this]; simp
  · have : place.toNat = ds.length := by omega
    rw [this]; simp
/-- the loop's invariant -/
def LJ (w : World) (m₀ : Str → Option Value) (d c ld sc dcl : Addr) (so dco : Obj) (n : Nat) (ys : List Value) (bend place : Int) (i : Nat) (m₁ : Str → Option Value) (nx : List (Addr × Obj)) : Prop :=
  (∀ y, y ≠ Str.ofString "number" → (["text", "late", "signs"] : List Str).contains y = false → m₁ y = m₀ y) ∧ ∃ txt tt lv at' ta' dvs nd tl qs ds, m₁ (Str.ofString "text") = some (.str txt tt) ∧ m₁ (Str.ofString "late") = some lv ∧
    nx = (ld, listOf (List.toArray dvs) nd) :: (d, listOf #[.ref c, .int at' ta'] n) :: (c, LCg.lst ys) :: (sc, so) :: (dcl, dco) :: tl ∧ 0 ≤ at' ∧ at' ≤ 4 + 12 * (i : Int) ∧ DuesIn tl dvs ds ∧ DuesOf 0 qs ds ∧ (∀ q ∈ qs, Good q) ∧ qs.length = i ∧ txt.cps.toList = body qs ∧ LateIn w tl lv bend place i qs ds ∧
    (∀ p ∈ tl, p.1 ≠ d) ∧ (∀ p ∈ tl, p.1 ≠ ld)
theorem over3 {m₁ m₀ : Str → Option Value} {txt : Str} {tt : Tok} {lv : Value} (hm : ∀ y, y ≠ Str.ofString "number" → (["text", "late", "signs"] : List Str).contains y = false → m₁ y = m₀ y) (ht : m₁ (Str.ofString "text") = some (.str txt tt)) (hl : m₁ (Str.ofString "late") = some lv) :
    m₁ = fun y => if y = Str.ofString "text" then some (.str txt tt) else if y = Str.ofString "late" then some lv else if y = Str.ofString "signs" then m₁ y else if y = Str.ofString "number" then m₁ y else m₀ y := by
  funext y
  by_cases h1 : y = Str.ofString "text"
  · rw [if_pos h1, h1]; exact ht
  · rw [if_neg h1]
    by_cases h2 : y = Str.ofString "late"
    · rw [if_pos h2, h2]; exact hl
    · rw [if_neg h2]
      by_cases h3 : y = Str.ofString "signs"
      · rw [if_pos h3]
      · rw [if_neg h3]
        by_cases h4 : y = Str.ofString "number"
        · rw [if_pos h4]
        · rw [if_neg h4]
          refine hm y h4 ?_
          simp only [List.contains_cons, List.contains_nil, Bool.or_false, Bool.or_eq_false_iff, beq_eq_false_iff_ne]
          exact ⟨h1, h2, h3⟩
theorem over3n {m₁ m₀ : Str → Option Value} {txt : Str} {tt : Tok} {lv nv : Value} (hm : ∀ y, y ≠ Str.ofString "number" → (["text", "late", "signs"] : List Str).contains y = false → m₁ y = m₀ y) (ht : m₁ (Str.ofString "text") = some (.str txt tt)) (hl : m₁ (Str.ofString "late") = some lv) :
    (fun y => if y = Str.ofString "number" then some nv else m₁ y) = fun y => if y = Str.ofString "number" then some nv else if y = Str.ofString "text" then some (.str txt tt) else if y = Str.ofString "late" then some lv else if y = Str.ofString "signs" then m₁ y else m₀ y := by
  funext y
  by_cases h4 : y = Str.ofString "number"
  · rw [if_pos h4, if_pos h4]
  · rw [if_neg h4, if_neg h4]
    refine (congrFun (over3 hm ht hl) y).trans ?_
    simp only [if_neg h4]
theorem loop_start {h₀ h : Heap} {L : Addr} {a1 a2 a3 a4 b1 b2 b3 b4 b5 : Addr × Obj} (N : News h₀ L h [a1, b1, a2, a3, b2, b3, a4, b4, b5]) : News h₀ L h [b1, b2, b3, b4, b5] := by
  refine news_sub N fun q hq => ?_
  simp only [List.mem_cons, List.not_mem_nil, or_false] at hq ⊢
  grind
section
open PyProof.Rows.LCg
variable {prog : Program} {w : World} {A : Around} {E : Value → Shared → Prop} {s : Shared} {h₀ : Heap} {L : Addr} {m : Str → Option Value} {env : Env}
theorem rest_ind {elt : Expr} {x : Str} {scope : Scope} {cl : List (Str × Addr)} {S : List (Addr × Obj) → Prop} {P : Nat → Value → Prop} {Fin : List Value → List (Addr × Obj) → Prop} (Inv : Nat → Nat → List Value → List (Addr × Obj) → Prop)
    (step : ∀ k i ys news, Inv (k + 1) i ys news → ∀ v I oI C oC D m₂ h tk (E' : Value → Shared → Prop), P i v → NsObj oC m₂ → m₂ x = some v → Fr h₀ L h m → News h₀ L h ((I, oI) :: (C, oC) :: (D, lst ys) :: news) → Off3 I C D news → ((@Ne Nat I C) ∧ (@Ne Nat I D) ∧ (@Ne Nat C D)) →
      wpAny (model prog w) A (eval elt (compEnvC scope cl C env)) (CompEnd h₀ L m { s with heap := h, toks := tk } I oI C oC D (lst ys) S (fun y news' => Inv k (i + 1) (ys ++ [y]) news')) E' { s with heap := h, toks := tk })
    (fin : ∀ i ys news, Inv 0 i ys news → Fin ys news) : ∀ {k i : Nat} {ys : List Value} {news : List (Addr × Obj)}, Inv k i ys news → CompRest prog w A h₀ L m env elt x scope cl s S P Fin k i ys news := by
  intro k
  induction k with
  | zero => intro i ys news h; exact CompRest.zero (fin i ys news h)
  | succ k ih =>
    intro i ys news h
    refine fun v I oI C oC D m₂ h' tk E' a1 a2 a3 a4 a5 a6 a7 => wpAny_mono (step k i ys news h v I oI C oC D m₂ h' tk E' a1 a2 a3 a4 a5 a6 a7) (fun y s₂ z => ?_) fun _ _ z => z
    obtain ⟨h2, tk2, n2, rfl, F2, N2, o2, S2, i2⟩ := z
    exact ⟨h2, tk2, n2, rfl, F2, N2, o2, S2, ih i2⟩
end
def LeadInv (I : Addr) (io : Obj) (ld d c sc dcl : Addr) (od so dco : Obj) (n : Nat) (ysc : List Value) (tl : List (Addr × Obj)) (at0 : Int) (k i : Nat) (ys : List Value) (news : List (Addr × Obj)) : Prop :=
  ∃ l at'' ta'', ys = strValues l ∧ news = (I, io) :: (ld, od) :: (d, listOf #[.ref c, .int at'' ta''] n) :: (c, LCg.lst ysc) :: (sc, so) :: (dcl, dco) :: tl ∧ at'' = at0 + (i : Int) ∧ i + k ≤ 2 ∧ (∀ p ∈ l, p.1.length = 1) ∧ l.length = i
theorem lead_step {h₀ h' : Heap} {L I2 C2 D2 I ld d c sc dcl : Addr} {m : Str → Option Value} {oI2 oC2 io od so dco dold : Obj} {n j k : Nat} {ysc : List Value} {tl : List (Addr × Obj)} {mt : Addr × Obj} {l : List (Str × Tok)} {at0 at3 : Int} {ta3 tS tk : Tok} {S : Str} {s₁ : Shared}
    (F : Fr h₀ L h' m) (N : News h₀ L h' (mt :: (I2, oI2) :: (C2, oC2) :: (D2, LCg.lst (strValues l)) :: (I, io) :: (ld, od) :: (d, listOf #[.ref c, .int at3 ta3] n) :: (c, LCg.lst ysc) :: (sc, so) :: (dcl, dco) :: tl))
    (off : LCg.Off3 I2 C2 D2 ((I, io) :: (ld, od) :: (d, dold) :: (c, LCg.lst ysc) :: (sc, so) :: (dcl, dco) :: tl)) (hat : at3 = at0 + ((j + 1 : Nat) : Int)) (hk : j + (k + 1) ≤ 2) (hl1 : ∀ p ∈ l, p.1.length = 1) (hll : l.length = j) (hS : S.length = 1) :
    LCg.CompEnd h₀ L m s₁ I2 oI2 C2 oC2 D2 (LCg.lst (strValues l)) (fun _ => True) (fun y news' => LeadInv I io ld d c sc dcl od so dco n ysc tl at0 k (j + 1) (strValues l ++ [y]) news') (.str S tS) { s₁ with heap := h', toks := tk } := by
  refine LCg.CompEnd.intro F N _ (fun p hp => .tail _ hp) ?_ trivial ⟨l ++ [(S, tS)], at3, ta3, by simp [strValues], rfl, hat, by omega, ?_, by simp [hll]⟩
  · simp only [LCg.Off3] at off ⊢
    exact off
  · intro p hp
    rcases List.mem_append.mp hp with hp | hp
    · exact hl1 p hp
    · rw [List.mem_singleton.mp hp]; exact hS
theorem sig_start {h₀ h : Heap} {L : Addr} {f a1 a2 a3 a4 a5 a6 : Addr × Obj} {tl9 tl : List (Addr × Obj)} (N : News h₀ L h (f :: (tl9 ++ (a1 :: a2 :: a3 :: a4 :: a5 :: a6 :: tl)))) : News h₀ L h (f :: a1 :: a2 :: a3 :: a4 :: a5 :: a6 :: (tl9 ++ tl)) := by
  refine news_sub N fun q hq => ?_
  simp only [List.mem_cons, List.mem_append] at hq ⊢
  grind
theorem sig_far {f d : Addr} {tl9 tl : List (Addr × Obj)} (h9 : ∀ p ∈ tl9, @LT.lt Nat _ f p.1) (hd : @LT.lt Nat _ d f) (h : ∀ p ∈ tl, p.1 ≠ d) : ∀ p ∈ tl9 ++ tl, p.1 ≠ d := fun p hp => by
  rcases List.mem_append.mp hp with q | q
  · exact Nat.ne_of_gt (Nat.lt_trans hd (h9 p q))
  · exact h p q
theorem sum_ones {l : List (Str × Tok)} (h : ∀ p ∈ l, p.1.length = 1) : ((l.map (·.1)).map (·.length)).sum = l.length := by
  induction l with
  | nil => rfl
  | cons p r ih => simp only [List.map_cons, List.sum_cons, List.length_cons]; rw [ih fun q hq => h q (.tail _ hq), h p (.head _)]; omega
theorem off3_tl {D : Addr} {a1 a2 a3 a4 a5 a6 : Addr × Obj} {tl : List (Addr × Obj)} (o : LCg.Off1 D (a1 :: a2 :: a3 :: a4 :: a5 :: a6 :: tl)) : ∀ p ∈ tl, p.1 ≠ D := by
  have all : ∀ l : List (Addr × Obj), LCg.Off1 D l → ∀ p ∈ l, p.1 ≠ D := by
    intro l
    induction l with
    | nil => intro _ p hp; cases hp
    | cons q r ih =>
      intro o p hp
      rcases List.mem_cons.mp hp with rfl | hp
      · exact o.1
      · exact ih o.2 p hp
  exact fun p hp => all _ o p (.tail _ (.tail _ (.tail _ (.tail _ (.tail _ (.tail _ hp))))))
theorem join_use2 {prog : Program} {w : World} {A : Around} {E : Value → Shared → Prop} {s : Shared} {h₀ : Heap} {L D : Addr} {l : List (Str × Tok)} {texts : List Str} {t : Tok} {b : Nat} {rest : List (Addr × Obj)} {Q : Value → Shared → Prop} (N : News h₀ L s.heap ((D, LCg.lst (strValues l)) :: rest)) (e : l.map (·.1) = texts) (hok : JoinOk (Str.ofString "") texts = true) (hb : (texts.map (·.length)).sum ≤ b)
    (h : ∀ S t' k, S.cps.toList = (texts.map (·.cps.toList)).flatten → S.length ≤ b → News h₀ L s.heap rest → Q (.str S t') { s with toks := k }) : wpAny (model prog w) A (call (.builtin "str.join") [.str (Str.ofString "") t, .ref D]) Q E s :=
  join_use N (.head _) e hok hb fun S t' k h1 h2 => h S t' k h1 h2 fun p hp => N p (.tail _ hp)
theorem last_get {prog : Program} {w : World} {A : Around} {E : Value → Shared → Prop} {s : Shared} {value slice : Expr} {h₀ : Heap} {L D : Addr} {news : List (Addr × Obj)} {u : Tok} {vs : List Value} {v : Value} {n : Nat} {Q : Value → Shared → Prop}
    (N : News h₀ L s.heap news) (hm : (D, listOf (vs.toArray.push v) n) ∈ news) (hlen : vs.length ≤ 2000) (h : Q v s)
    (hs : subscripted slice false (.ref D) (.int (-1) u) = operate [.ref D, .int (-1) u] (getItem (.ref D) (.int (-1) u)) := by with_unfolding_all rfl) :
    wpAny (model prog w) A (subscriptTail value slice (.ref D) (.int (-1) u)) Q E s := by
  have hl : s.heap.IsList D (vs.toArray.push v) := ⟨_, (N _ hm).1, rfl, _, rfl⟩
  have hsz : (vs.toArray.push v).size = vs.length + 1 := by simp
  refine tail_any hl.typeIs slot_list_getitem.lookup (wpAny_getItem_list_neg hl (by decide) (by rw [hsz]; omega) (by decide) (x := v) ?_ h) hs
  have e : (-1 + ((vs.toArray.push v).size : Int)).toNat = vs.toArray.size := by rw [hsz, List.size_toArray]; omega
  rw [e]
  simp
theorem last_set {prog : Program} {w : World} {A : Around} {E : Value → Shared → Prop} {s : Shared} {h₀ : Heap} {L D : Addr} {m : Str → Option Value} {news : List (Addr × Obj)} {gf : Obj → List (Addr × Obj)} {u : Tok} {vs : List Value} {v0 v : Value} {n : Nat} {Q : Unit → Shared → Prop}
    (F : Fr h₀ L s.heap m) (N : News h₀ L s.heap news) (U : UpdF D (listOf (vs.toArray.push v0) n) news gf) (hlen : vs.length ≤ 2000)
    (h : ∀ h', Fr h₀ L h' m → News h₀ L h' (gf (listOf (vs.toArray.push v) n)) → Q () { s with heap := h' }) : wpAny (model prog w) A (setItem (.ref D) (.int (-1) u) v) Q E s := by
  obtain ⟨pre, post, rfl, hg, a, b⟩ := U.split
  have z := N (D, listOf (vs.toArray.push v0) n) (List.mem_append.mpr (.inr (.head _)))
  have hsz : (vs.toArray.push v0).size = vs.length + 1 := by simp
  have e : (-1 + ((vs.toArray.push v0).size : Int)).toNat = vs.toArray.size := by rw [hsz, List.size_toArray]; omega
  refine ki_setBack z.1 (by decide) (by rw [hsz]; omega) (by decide) (h _ (F.change (Heap.SameBut.update ..) z.2.1 z.2.2) ?_)
  rw [hg]
  refine ki_turn _ N a b ?_ ?_
  · rw [e]
    apply Array.toList_inj.mp
    simp
  · simp
theorem item5 {prog : Program} {w : World} {A : Around} {E : Value → Shared → Prop} {s : Shared} {value slice : Expr} {h₀ : Heap} {L D : Addr} {news : List (Addr × Obj)} {k : Int} {u : Tok} {s0 s1 s2 s3 s4 : Str} {t0 t1 t2 t3 t4 : Tok} {n : Nat} {Q : Value → Shared → Prop}
    (N : News h₀ L s.heap news) (hm : (D, ({ cls := .type "tuple", data := .seq #[.str s0 t0, .str s1 t1, .str s2 t2, .str s3 t3, .str s4 t4] n } : Obj)) ∈ news) (h0 : 0 ≤ k) (h5 : k < 5)
    (hl : s0.length = 1 ∧ s1.length = 1 ∧ s2.length = 1 ∧ s3.length = 1 ∧ s4.length = 1) (h : ∀ S tS, S.length = 1 → Q (.str S tS) s)
    (hs : ∀ k u, subscripted slice false (.ref D) (.int k u) = operate [.ref D, .int k u] (getItem (.ref D) (.int k u)) := by intro _ _; with_unfolding_all rfl) :
    wpAny (model prog w) A (subscriptTail value slice (.ref D) (.int k u)) Q E s := by
  have hT : IsTup s.heap D [Value.str s0 t0, .str s1 t1, .str s2 t2, .str s3 t3, .str s4 t4].toArray := ⟨_, (N _ hm).1, rfl, _, rfl⟩
  have : k = 0 ∨ k = 1 ∨ k = 2 ∨ k = 3 ∨ k = 4 := by omega
  rcases this with rfl | rfl | rfl | rfl | rfl
  · exact item_tupleT (j := 0) hT (by decide) (by decide) rfl rfl (h _ _ hl.1) (hs _ _)
  · exact item_tupleT (j := 1) hT (by decide) (by decide) rfl rfl (h _ _ hl.2.1) (hs _ _)
  · exact item_tupleT (j := 2) hT (by decide) (by decide) rfl rfl (h _ _ hl.2.2.1) (hs _ _)
  · exact item_tupleT (j := 3) hT (by decide) (by decide) rfl rfl (h _ _ hl.2.2.2.1) (hs _ _)
  · exact item_tupleT (j := 4) hT (by decide) (by decide) rfl rfl (h _ _ hl.2.2.2.2) (hs _ _)
theorem str_len (x : Str) : x.length = x.cps.toList.length := by simp [Str.length]
theorem turn_end {w : World} {m₀ m' : Str → Option Value} {g h' : Heap} {L I d c ld sc dcl t1 t2 : Addr} {io so dco : Obj} {n n1 n2 nd i : Nat} {ys dvs : List Value} {bend place at9 : Int} {ta9 tt' tb tm te tk : Tok} {txt S9 M W : Str} {lv' : Value} {qs : List Qn} {ds : List Due} {sg : List (Str × Str)} {own tl : List (Addr × Obj)} {s₁ : Shared} {Q : Flow → Shared → Prop}
    (F : Fr g L h' m') (N : News g L h' (own ++ (I, io) :: (ld, listOf (dvs.toArray.push (.ref t1)) (nd + 1)) :: (d, listOf #[.ref c, .int at9 ta9] n) :: (c, LCg.lst ys) :: (sc, so) :: (dcl, dco) :: tl))
    (hm : ∀ y, y ≠ Str.ofString "number" → (["text", "late", "signs"] : List Str).contains y = false → m' y = m₀ y) (ht : m' (Str.ofString "text") = some (.str (txt ++ S9 ++ Str.ofString "\"" ++ W ++ Str.ofString "\"") tt')) (hl : m' (Str.ofString "late") = some lv')
    (ho : ∀ p ∈ own, p.1 ≠ d ∧ p.1 ≠ ld ∧ p.1 ≠ I) (htd : ∀ p ∈ tl, p.1 ≠ d) (htl : ∀ p ∈ tl, p.1 ≠ ld) (htI : ∀ p ∈ tl, p.1 ≠ I) (h1 : ld ≠ I) (h2 : d ≠ I) (h3 : c ≠ I) (h4 : sc ≠ I) (h5 : dcl ≠ I)
    (ha0 : 0 ≤ at9) (ha1 : at9 ≤ 4 + 12 * ((i + 1 : Nat) : Int)) (m1 : (t1, tup2 (.int ((txt ++ S9).length : Int) tb) (.ref t2) n1) ∈ own) (m2 : (t2, tup2 (.str M tm) (.int ((txt ++ S9 ++ Str.ofString "\"" ++ W ++ Str.ofString "\"").length : Int) te) n2) ∈ own)
    (hM : M.cps.toList = mnt sg) (hW : W.cps.toList = enc sg) (hS9 : S9.length ≤ 2) (hsg : ∀ p ∈ sg, Sgn p) (hsl : sg.length ≤ 6)
    (hdi : DuesIn tl dvs ds) (hdo : DuesOf 0 qs ds) (hgd : ∀ q ∈ qs, Good q) (hql : qs.length = i) (htb : txt.cps.toList = body qs)
    (hlate : LateIn w (own ++ tl) lv' bend place (i + 1) (qs ++ [(S9.cps.toList, sg)]) (ds ++ [((txt ++ S9).length, M, (txt ++ S9 ++ Str.ofString "\"" ++ W ++ Str.ofString "\"").length)])) :
    TurnJ g L I io (LJ w m₀ d c ld sc dcl so dco n ys bend place (i + 1)) s₁ Q .next { s₁ with heap := h', toks := tk } := by
  have e : dvs.toArray.push (Value.ref t1) = (dvs ++ [Value.ref t1]).toArray := by simp
  rw [e] at N
  have ec : (txt ++ S9 ++ Str.ofString "\"" ++ W ++ Str.ofString "\"").cps.toList = body (qs ++ [(S9.cps.toList, sg)]) := by
    rw [body_append, ← htb]
    simp [Str.cps_append, bq, hW, body, piece]
  refine ⟨h', tk, m', (ld, listOf (dvs ++ [Value.ref t1]).toArray (nd + 1)) :: (d, listOf #[.ref c, .int at9 ta9] n) :: (c, LCg.lst ys) :: (sc, so) :: (dcl, dco) :: (own ++ tl), rfl, F, news_sub N ?_, ?_, hm, _, tt', lv', at9, ta9, dvs ++ [Value.ref t1], nd + 1, own ++ tl, qs ++ [(S9.cps.toList, sg)],
    ds ++ [((txt ++ S9).length, M, (txt ++ S9 ++ Str.ofString "\"" ++ W ++ Str.ofString "\"").length)], ht, hl, rfl, ha0, ha1, ?_, ?_, ?_, by simp [hql], ec, hlate, ?_, ?_⟩
  · intro q hq
    simp only [List.mem_cons, List.mem_append] at hq ⊢
    grind
  · intro q hq
    simp only [List.mem_cons, List.mem_append] at hq
    rcases hq with rfl | rfl | rfl | rfl | rfl | hq | hq
    · exact h1
    · exact h2
    · exact h3
    · exact h4
    · exact h5
    · exact (ho q hq).2.2
    · exact htI q hq
  · exact Paired.snoc (hdi.mono fun q hq => List.mem_append_right _ hq) ⟨t1, n1, tb, t2, n2, tm, te, rfl, List.mem_append_left _ m1, List.mem_append_left _ m2⟩
  · refine hdo.snoc ⟨?_, hM, ?_⟩
    · show (txt ++ S9).length = _
      rw [str_len, Str.cps_append, Array.toList_append, List.length_append, htb]; simp
    · show (txt ++ S9 ++ Str.ofString "\"" ++ W ++ Str.ofString "\"").length = _
      rw [str_len, ec, body_append]; simp [body]
  · intro q hq
    rcases List.mem_append.mp hq with hq | hq
    · exact hgd q hq
    · rw [List.mem_singleton.mp hq]
      exact ⟨hsg, hsl, by rw [← str_len]; exact hS9⟩
  · intro q hq
    rcases List.mem_append.mp hq with hq | hq
    · exact (ho q hq).1
    · exact htd q hq
  · intro q hq
    rcases List.mem_append.mp hq with hq | hq
    · exact (ho q hq).2.1
    · exact htl q hq
theorem map3 {m₁ m₀ : Str → Option Value} {tv lv nv sv : Option Value} : ∀ y, y ≠ Str.ofString "number" → (["text", "late", "signs"] : List Str).contains y = false →
    (if y = Str.ofString "text" then tv else if y = Str.ofString "signs" then sv else if y = Str.ofString "number" then nv else if y = Str.ofString "late" then lv else m₀ y) = m₀ y := by
  intro y h1 h2
  simp only [List.contains_cons, List.contains_nil, Bool.or_false, Bool.or_eq_false_iff, beq_eq_false_iff_ne] at h2
  rw [if_neg h2.1, if_neg h2.2.2, if_neg h1, if_neg h2.2.1]
theorem not3 {y : Str} (h : (["text", "late", "signs"] : List Str).contains y = false) : y ≠ Str.ofString "text" ∧ y ≠ Str.ofString "late" ∧ y ≠ Str.ofString "signs" := by
  simpa only [List.contains_cons, List.contains_nil, Bool.or_false, Bool.or_eq_false_iff, beq_eq_false_iff_ne] using h
end Q26
end
-- part QMake
section
namespace Q26
theorem calm32 : True := by
  w_top off
  trivial
end Q26
open PySem PySem.W PyProof.Rows PySem.Spec PySem.Calls
namespace Q26
theorem warm12 : PySem.Challenge.rw_pc0026_01.prog = PySem.Challenge.rw_pc0026_01.prog ∧ Q26.hd.heap_39 = Q26.hd.heap_39 := by
  k_fill
  exact ⟨rfl, rfl⟩
local macro_rules | `(tactic| k_all) => `(tactic| with_reducible assumption)
set_option maxRecDepth 100000 in
set_option maxHeartbeats 8000000 in
theorem scanner_make {w : World} {mean : ExcName → Option Value} {mg mb : Str → Option Value} {dp un : Nat} {gd : Option (List Code)} {cn : Str} {cs : Scope} {a : Addr} {ccd : Value} {cl : List (Str × Addr)} {outer : List Env} {A₀ : Around} {base h₀ : Heap} {L : Addr} {m : Str → Option Value} {s : Shared}
    {Q E : Value → Shared → Prop} {tt : Tok} {txt : Str} {news : List (Addr × Obj)}
    (B : Below A₀ base outer h₀) (F : Fr h₀ L s.heap m) (X : (Q26.hd.heap_39 w.params).In h₀) (N : News h₀ L s.heap news) (T : TT mean mg mb h₀) (hk : cs.kind = .function)
    (hd : dp + 1 < recursionLimit) (hu : un + 20 < cLine)
    (ret : ∀ x dx h1 h2 k1 k2 t2 ts h' tk', @LT.lt Nat _ dx x → (∀ p ∈ news, @LT.lt Nat _ p.1 dx) → Fr h₀ L h' m → News h₀ L h' ((x, instObj 149 dx) :: (dx, scanD h1 h2 k1 k2 txt t2 0 ts 2) :: news) → Q (.ref x) { s with heap := h', toks := tk' }) :
    wpAny (model PP w) (ktrTop dp un gd cn cs L a ccd cl outer) (call (.ref 149) [.str txt tt]) Q E s := by
  k_dflt (refine' call_cls ?k1 ?k2 ?k3 ?k4 ?k5 ?k6 ?_; (case k1 => k_asm); (case k2 => k_asm); (case k3 => k_asm); (case k4 => k_is); (case k5 => k_is); (case k6 => k_is))
  intro x dx h' F' N' l1 l2
  have hne : ∀ p ∈ news, p.1 ≠ dx := fun p hp => Nat.ne_of_lt (l1 p hp)
  have l2' : @LT.lt Nat _ dx x := l2
  clear F N
  k_dflt ktr_enter
  k_steps
  rename News _ _ _ _ => N5
  rename Fr _ _ _ _ => F5
  exact ret _ _ _ _ _ _ _ _ _ _ l2' (fun p hp => l1 p hp) F5 N5
end Q26
end
-- part QCut
section
namespace Q26
theorem calm33 : True := by
  w_top off
  trivial
end Q26
open PySem PySem.W PyProof.Rows PySem.Spec PySem.Calls PyProof.V
namespace Q26
theorem pick_to {vs : List Value} {y : Int} (h : 0 ≤ y) : (slicePick vs.toArray none (some y) none).toList = vs.take y.toNat := by
  have e : sliceBounds none (some y) none vs.toArray.size = (((0 : Nat) : Int), ((min y.toNat vs.toArray.size : Nat) : Int), 1) := by
    simp only [sliceBounds, Option.getD_none, show (1 : Int) > 0 by decide, if_true, if_neg (show ¬ (y < 0) by omega)]
    congr 1
    congr 1
    omega
  rw [kmk_pick_nat _ e]
  simp only [List.drop_zero, Nat.sub_zero, List.size_toArray, kmk_take_min]
theorem pick_from {vs : List Value} {x : Int} (h : 0 ≤ x) : (slicePick vs.toArray (some x) none none).toList = vs.drop x.toNat := by
  have e : sliceBounds (some x) none none vs.toArray.size = (((min x.toNat vs.toArray.size : Nat) : Int), ((vs.toArray.size : Nat) : Int), 1) := by
    simp only [sliceBounds, Option.getD_none, show (1 : Int) > 0 by decide, if_true, if_neg (show ¬ (x < 0) by omega)]
    congr 1
    omega
  rw [kmk_pick_nat _ e]
  simp only [List.size_toArray, kmk_drop_min]
  rw [List.take_of_length_le (by rw [List.length_drop]; omega)]
theorem len_use {prog : Program} {w : World} {A : Around} {E : Value → Shared → Prop} {s : Shared} {h₀ : Heap} {L l : Addr} {news : List (Addr × Obj)} {vs : List Value} {n k : Nat} {Q : Value → Shared → Prop}
    (N : News h₀ L s.heap news) (hm : (l, listOf vs.toArray n) ∈ news) (hk : vs.length = k) (hlen : k ≤ 2000) (h : Q (.int (k : Int) (s.toks + 1)) { s with toks := s.toks + 1 + 1 }) : wpAny (model prog w) A (call (.builtin "len") [.ref l]) Q E s := by
  have hl : s.heap.IsList l vs.toArray := ⟨_, (N _ hm).1, rfl, n, rfl⟩
  have e : vs.toArray.size = k := by simp [hk]
  exact len_list hl (by rw [e]; omega) (by rw [e]; exact h)
theorem shaped_pair (S : Str) (e : Int) (h : PyData.strOk S = true) : SeqAt.shaped (.tuple [.str S, .int e]) = true := by
  simp [SeqAt.shaped, PyData.canLay0, PyData.canLayAll0, PyData.depth, PyData.depthAll, h]
theorem ne_pair {prog : Program} {w : World} {A : Around} {E : Value → Shared → Prop} {s : Shared} {h₀ : Heap} {L r t : Addr} {news : List (Addr × Obj)} {S S' : Str} {e e' : Int} {tS te tS' te' : Tok} {n n' : Nat} {Q : Value → Shared → Prop}
    (N : News h₀ L s.heap news) (m1 : (r, tup2 (.str S tS) (.int e te) n) ∈ news) (m2 : (t, tup2 (.str S' tS') (.int e' te') n') ∈ news) (hS : S = S') (he : e = e') (hok : PyData.strOk S = true) (hu : A.units + 64 < cLine) (h : Q (.bool false) s) :
    wpAny (model prog w) A (compareOp .NotEq (.ref r) (.ref t)) Q E s := by
  subst hS
  subst he
  refine ne_dataH (reads_tuple_at (N _ m1).1 rfl rfl (.cons (.str _ _) (.cons (.int _ _) .nil))) (reads_tuple_at (N _ m2).1 rfl rfl (.cons (.str _ _) (.cons (.int _ _) .nil))) (shaped_pair S e hok) (shaped_pair S e hok) hu ?_
  simp only [PyData.eqv, PyData.eqvAll, beq_self_eq_true, Bool.and_true, Bool.not_true]
  exact h
theorem items_ind {prog : Program} {w : World} {A : Around} {E : Value → Shared → Prop} {s : Shared} {env : Env} {h₀ : Heap} {target : Expr} {body : List Stmt} {Q : Flow → Shared → Prop} {I ax : Addr} {lo : Obj} {P : Value → Prop} (Inv : (Str → Option Value) → List (Addr × Obj) → Prop)
    (turn : ∀ v m₁ nx h tk io, Inv m₁ nx → Fr h₀ env.locals h m₁ → News h₀ env.locals h ((I, io) :: nx) → P v →
      wpAny (model prog w) A (assign target env v) (fun _ s₂ => wpAny (model prog w) A (execs body env) (UnrPostW h₀ env.locals { s with heap := h, toks := tk } [(I, io)] (fun m' n' => SubL [(ax, lo)] n' ∧ Inv m' n') Q) E s₂) E { s with heap := h, toks := tk })
    (fin : ∀ m₁ nx h tk, Inv m₁ nx → Fr h₀ env.locals h m₁ → News h₀ env.locals h nx → Q .next { s with heap := h, toks := tk }) (vs : List Value) (hP : ∀ v ∈ vs, P v) :
    ∀ {m₀ : Str → Option Value} {news : List (Addr × Obj)}, Inv m₀ news → ItemsRest prog w A E h₀ env target body Q s [(I, "list_iterator")] [(ax, lo)] (vs.map .val) m₀ news := by
  induction vs with
  | nil => intro m₀ news hI; exact ItemsRest.zero fun h tk F N => fin _ _ h tk hI F N
  | cons v r ih =>
    intro m₀ news hI
    refine ItemsRest.val fun h tk F => AllObj.cons fun io hc => AllObj.nil fun N => ?_
    refine wpAny_mono (turn v m₀ news h tk io hI F N (hP v (.head _))) (fun _ s₂ h₂ => wpAny_mono h₂ (fun f s₃ p => ?_) fun _ _ e => e) fun _ _ e => e
    have fin' : UnrEndW h₀ env.locals { s with heap := h, toks := tk } [(I, io)] (fun m' n' => SubL [(ax, lo)] n' ∧ Inv m' n') s₃ → UnrEndW h₀ env.locals { s with heap := h, toks := tk } [(I, io)] (fun m' n' => SubL [(ax, lo)] n' ∧ ItemsRest prog w A E h₀ env target body Q s [(I, "list_iterator")] [(ax, lo)] (r.map .val) m' n') s₃ := by
      rintro ⟨h', tk', m', n', e, F', N', ho, hk, hi⟩
      exact ⟨h', tk', m', n', e, F', N', ho, hk, ih (fun v hv => hP v (.tail _ hv)) hi⟩
    cases f with
    | ret v => exact p
    | brk => exact p
    | next => exact fin' p
    | cont => exact fin' p
theorem strOk_mnt {x : Str} {sg : List (Str × Str)} (h : x.cps.toList = mnt sg) (hs : ∀ p ∈ sg, Sgn p) : PyData.strOk x = true := by
  unfold PyData.strOk
  rw [Array.all_eq_true_iff_forall_mem]
  intro c hc
  have : c ∈ mnt sg := by rw [← h]; exact Array.mem_toList_iff.mpr hc
  exact decide_eq_true (mnt_small hs c this)
end Q26
end
-- part QTail
section
namespace Q26
theorem calm34 : True := by
  w_top off
  trivial
end Q26
open PySem PySem.W PyProof.Rows PySem.Spec PySem.Calls
namespace Q26
/-- what stands behind the if -/
def Ready (g : Heap) (L d c dcl : Addr) (dco : Obj) (n : Nat) (ys : List Value) (s₁ : Shared) (fl : Flow) (s₂ : Shared) : Prop :=
  fl = .next ∧ ∃ h' tk m' txt tt ld nd dvs ds at' ta' tl, s₂ = { s₁ with heap := h', toks := tk } ∧ Fr g L h' m' ∧ News g L h' ((ld, listOf (List.toArray dvs) nd) :: (d, listOf #[.ref c, .int at' ta'] n) :: (c, LCg.lst ys) :: (dcl, dco) :: tl) ∧
    m' (Str.ofString "text") = some (.str txt tt) ∧ m' (Str.ofString "due") = some (.ref ld) ∧ 0 ≤ at' ∧ at' ≤ 60 ∧ DuesIn tl dvs ds ∧ (∀ e ∈ ds, Fits txt e ∧ PyData.strOk e.2.1 = true) ∧ 0 < ds.length ∧ ds.length ≤ 4 ∧ txt.length ≤ 2000 ∧ (∀ p ∈ tl, p.1 ≠ d) ∧ @Ne Nat ld d
theorem cut_if {prog : Program} {w : World} {A : Around} {E : Value → Shared → Prop} {s : Shared} {env : Env} {st : Stmt} {rest : List Stmt} {Q : Flow → Shared → Prop} {g h : Heap} {L ld d c sc dcl : Addr} {lo so dco : Obj} {n : Nat} {at' : Int} {ta' : Tok} {ys : List Value} {tl : List (Addr × Obj)} {m : Str → Option Value}
    (_F : Fr g L h m) (_N : News g L h ((ld, lo) :: (d, listOf #[.ref c, .int at' ta'] n) :: (c, LCg.lst ys) :: (sc, so) :: (dcl, dco) :: tl))
    (h1 : wpAny (model prog w) A (exec st env) (Ready g L d c dcl dco n ys s) E s) (h2 : ∀ s₂, Ready g L d c dcl dco n ys s .next s₂ → wpAny (model prog w) A (execs rest env) Q E s₂) : wpAny (model prog w) A (execs (st :: rest) env) Q E s :=
  wpAny_execs_cons (wpAny_mono h1 (fun fl s₂ p => by cases p.1; exact h2 s₂ p) fun _ _ e => e)
theorem over2 {m : Str → Option Value} {txt : Str} {tt : Tok} {ld : Addr} (ht : m (Str.ofString "text") = some (.str txt tt)) (hl : m (Str.ofString "due") = some (.ref ld)) :
    m = fun y => if y = Str.ofString "text" then some (.str txt tt) else if y = Str.ofString "due" then some (.ref ld) else m y := by
  funext y
  by_cases h1 : y = Str.ofString "text"
  · rw [if_pos h1, h1]; exact ht
  · rw [if_neg h1]
    by_cases h2 : y = Str.ofString "due"
    · rw [if_pos h2, h2]; exact hl
    · rw [if_neg h2]
/-- the last loop's invariant -/
def TailInv (M₀ : Str → Option Value) (D x dx : Addr) (lo : Obj) (h1 h2 : Int) (k1 k2 t2 : Tok) (txt : Str) (tl : List (Addr × Obj)) (m₁ : Str → Option Value) (nx : List (Addr × Obj)) : Prop :=
  (∀ y, y ≠ Str.ofString "here" → y ≠ Str.ofString "told" → m₁ y = M₀ y) ∧ ∃ sp ts, nx = (D, lo) :: (x, instObj 149 dx) :: (dx, scanD h1 h2 k1 k2 txt t2 sp ts 2) :: tl
theorem over_ht {m₁ M₀ : Str → Option Value} (h : ∀ y, y ≠ Str.ofString "here" → y ≠ Str.ofString "told" → m₁ y = M₀ y) :
    m₁ = fun y => if y = Str.ofString "here" then m₁ y else if y = Str.ofString "told" then m₁ y else M₀ y := by
  funext y
  by_cases h1 : y = Str.ofString "here"
  · rw [if_pos h1]
  · rw [if_neg h1]
    by_cases h2 : y = Str.ofString "told"
    · rw [if_pos h2]
    · rw [if_neg h2]; exact h y h1 h2
def DueOK (txt : Str) (tl : List (Addr × Obj)) (v : Value) : Prop := ∃ d : Due, DueIn tl v d ∧ Fits txt d ∧ PyData.strOk d.2.1 = true
theorem dues_ok {txt : Str} {tl : List (Addr × Obj)} {vs : List Value} {ds : List Due} (h : DuesIn tl vs ds) (hd : ∀ e ∈ ds, Fits txt e ∧ PyData.strOk e.2.1 = true) : ∀ v ∈ vs, DueOK txt tl v := by
  induction h with
  | nil => intro v hv; cases hv
  | cons a _ ih =>
    intro v hv
    rcases List.mem_cons.mp hv with rfl | hv
    · exact ⟨_, a, hd _ (.head _)⟩
    · exact ih (fun e he => hd e (.tail _ he)) v hv
theorem dues_all {txt : Str} {tl : List (Addr × Obj)} {vs : List Value} {f : Nat} (h : ∀ v ∈ vs, DueOK txt tl v) : ∀ v ∈ vs.drop f ++ vs.take f ++ vs.reverse, DueOK txt tl v := fun v hv => by
  rcases List.mem_append.mp hv with hv | hv
  · rcases List.mem_append.mp hv with hv | hv
    · exact h v (List.mem_of_mem_drop hv)
    · exact h v (List.mem_of_mem_take hv)
  · exact h v (List.mem_reverse.mp hv)
theorem tail_start {h₀ h : Heap} {L : Addr} {a b1 b2 b3 b4 b5 x dx c1 c2 c3 c4 : Addr × Obj} {tl : List (Addr × Obj)} (N : News h₀ L h (a :: b1 :: b2 :: b3 :: b4 :: b5 :: x :: dx :: c1 :: c2 :: c3 :: c4 :: tl)) : News h₀ L h (a :: x :: dx :: tl) := by
  refine news_sub N fun q hq => ?_
  simp only [List.mem_cons] at hq ⊢
  grind
theorem turn_start {h₀ h : Heap} {L : Addr} {i a x dx p q : Addr × Obj} {tl : List (Addr × Obj)} (N : News h₀ L h (i :: a :: x :: dx :: tl)) (hp : p ∈ tl) (hq : q ∈ tl) : News h₀ L h (i :: a :: x :: dx :: p :: q :: tl) := by
  refine news_sub N fun z hz => ?_
  simp only [List.mem_cons] at hz ⊢
  rcases hz with h | h | h | h | h | h | h
  · exact .inl h
  · exact .inr (.inl h)
  · exact .inr (.inr (.inl h))
  · exact .inr (.inr (.inr (.inl h)))
  · exact .inr (.inr (.inr (.inr (h ▸ hp))))
  · exact .inr (.inr (.inr (.inr (h ▸ hq))))
  · exact .inr (.inr (.inr (.inr h)))
theorem ne_kinds {h₀ h : Heap} {L a b : Addr} {oa ob : Obj} {news : List (Addr × Obj)} (N : News h₀ L h news) (h1 : (a, oa) ∈ news) (h2 : (b, ob) ∈ news) (ca : oa.cls = .type "list") (cb : ob.cls = .type "dict") : @Ne Nat a b := by
  intro e
  have e1 := (N _ h1).1
  have e2 := (N _ h2).1
  have e' : a = b := e
  dsimp only at e1 e2
  rw [e', e2] at e1
  cases e1
  rw [ca] at cb
  exact absurd cb (by decide)
theorem tail_turn_end {g h' : Heap} {L I D x dx : Addr} {io lo d0 : Obj} {r p q : Addr × Obj} {m' M₀ : Str → Option Value} {h1 h2 sp : Int} {k1 k2 t2 ts tk : Tok} {txt : Str} {tl : List (Addr × Obj)} {s₁ : Shared}
    (F : Fr g L h' m') (N : News g L h' (r :: (I, io) :: (D, lo) :: (x, instObj 149 dx) :: (dx, scanD h1 h2 k1 k2 txt t2 sp ts 2) :: p :: q :: tl)) (hI : ∀ p ∈ (D, lo) :: (x, instObj 149 dx) :: (dx, d0) :: tl, p.1 < I)
    (hm : ∀ y, y ≠ Str.ofString "here" → y ≠ Str.ofString "told" → m' y = M₀ y) :
    UnrEndW g L s₁ [(I, io)] (fun m' n' => SubL [(D, lo)] n' ∧ TailInv M₀ D x dx lo h1 h2 k1 k2 t2 txt tl m' n') { s₁ with heap := h', toks := tk } := by
  refine ⟨h', tk, m', (D, lo) :: (x, instObj 149 dx) :: (dx, scanD h1 h2 k1 k2 txt t2 sp ts 2) :: tl, rfl, F, news_sub N ?_, ?_, ⟨.head _, trivial⟩, hm, sp, ts, rfl⟩
  · intro z hz
    simp only [List.mem_cons, List.mem_append, List.not_mem_nil, or_false] at hz ⊢
    grind
  · intro z hz y hy
    rw [List.mem_singleton.mp hy]
    refine Nat.ne_of_lt ?_
    rcases List.mem_cons.mp hz with rfl | hz
    · exact hI _ (.head _)
    · rcases List.mem_cons.mp hz with rfl | hz
      · exact hI _ (.tail _ (.head _))
      · rcases List.mem_cons.mp hz with rfl | hz
        · exact hI (dx, d0) (.tail _ (.tail _ (.head _)))
        · exact hI _ (.tail _ (.tail _ (.tail _ hz)))
theorem str_ne_self {x : Str} : ¬ ((x != x) = true) := by simp
end Q26
end
-- part QIf
section
namespace Q26
theorem calm35 : True := by
  w_top off
  trivial
end Q26
open PySem PySem.W PyProof.Rows PySem.Spec PySem.Calls
namespace Q26
theorem dues_str : ∀ {o : Nat} {qs : List Qn} {ds : List Due}, DuesOf o qs ds → (∀ q ∈ qs, Good q) → ∀ e ∈ ds, PyData.strOk e.2.1 = true
  | _, [], [], _, _ => fun _ h => nomatch h
  | _, q :: r, d :: ds, ⟨h1, h2⟩, hg => fun e he => by
    rcases List.mem_cons.mp he with rfl | he
    · exact strOk_mnt h1.2.1 (hg q (.head _)).1
    · exact dues_str h2 (fun q hq => hg q (.tail _ hq)) e he
  | _, [], _ :: _, h, _ => h.elim
  | _, _ :: _, [], h, _ => h.elim
theorem ready_none {g h : Heap} {L ld d c sc dcl : Addr} {so dco : Obj} {n nd : Nat} {at' : Int} {ta' tt tk : Tok} {ys dvs : List Value} {tl : List (Addr × Obj)} {m : Str → Option Value} {txt : Str} {qs : List Qn} {ds : List Due} {s₁ : Shared}
    (F : Fr g L h m) (N : News g L h ((ld, listOf dvs.toArray nd) :: (d, listOf #[.ref c, .int at' ta'] n) :: (c, LCg.lst ys) :: (sc, so) :: (dcl, dco) :: tl)) (ht : m (Str.ofString "text") = some (.str txt tt)) (hd : m (Str.ofString "due") = some (.ref ld))
    (ha0 : 0 ≤ at') (ha1 : at' ≤ 60) (hdi : DuesIn tl dvs ds) (hdo : DuesOf 0 qs ds) (hg : ∀ q ∈ qs, Good q) (hq0 : 0 < qs.length) (hq4 : qs.length ≤ 4) (htb : txt.cps.toList = body qs) (htd : ∀ p ∈ tl, p.1 ≠ d) (hld : @Ne Nat ld d) :
    Ready g L d c dcl dco n ys s₁ .next { s₁ with heap := h, toks := tk } := by
  have hbl := body_len hg
  refine ⟨rfl, h, tk, m, txt, tt, ld, nd, dvs, ds, at', ta', tl, rfl, F, news_sub N ?_, ht, hd, ha0, ha1, hdi, fun e he => ⟨?_, dues_str hdo hg e he⟩, by rw [hdo.length]; exact hq0, by rw [hdo.length]; exact hq4, ?_, htd, hld⟩
  · intro z hz
    simp only [List.mem_cons] at hz ⊢
    grind
  · have := fits_dues (txt := txt) (pre := []) (post := []) (sh := 0) hg hdo (by simp [htb]) rfl e he
    simpa using this
  · rw [str_len, htb]; omega
end Q26
end
-- part QNest
section
namespace Q26
theorem calm36 : True := by
  w_top off
  trivial
end Q26
open PySem PySem.W PyProof.Rows PySem.Spec PySem.Calls PyProof.Rows.LCg PyProof.Rows.LCp
set_option maxRecDepth 100000
namespace Q26
section
variable {prog : Program} {w : World} {A : Around} {E : Value → Shared → Prop} {s : Shared} {h₀ : Heap} {L : Addr} {m : Str → Option Value} {env : Env}
/-- a pair whose second is a pair, as they stand in the ledger -/
def Nest (nw : List (Addr × Obj)) (v v1 v2 v3 : Value) : Prop := ∃ t1 n1 t2 n2, v = .ref t1 ∧ (t1, tup2 v1 (.ref t2) n1) ∈ nw ∧ (t2, tup2 v2 v3 n2) ∈ nw
/-- what the walk owes once the iterable stands: an invariant over the ledger -/
def Src3 (prog : Program) (w : World) (A : Around) (h₀ : Heap) (L : Addr) (m : Str → Option Value) (env : Env) (elt : Expr) (x y z : Str) (scope : Scope) (cl : List (Str × Addr)) (Q : Value → Shared → Prop) (xv : Value) (s₁ : Shared) : Prop :=
  ∃ ax its kk nw₀, xv = .ref ax ∧ Fr h₀ L s₁.heap m ∧ News h₀ L s₁.heap nw₀ ∧ (List.length its) ≤ 1000 ∧ ∃ Inv : Nat → List Value → List (Addr × Obj) → Prop, Inv 0 [] nw₀ ∧ (∀ i ys nw, Inv i ys nw → (ax, listOf (List.toArray its) kk) ∈ nw) ∧
    (∀ i ys nw v, Inv i ys nw → its[i]? = some v → ∃ v1 v2 v3, Nest nw v v1 v2 v3 ∧
      ∀ I oI C oC D m₂ h tk (E' : Value → Shared → Prop), NsObj oC m₂ → m₂ x = some v1 → m₂ y = some v2 → m₂ z = some v3 → Fr h₀ L h m → News h₀ L h ((I, oI) :: (C, oC) :: (D, lst ys) :: nw) → Off3 I C D nw → ((@Ne Nat I C) ∧ (@Ne Nat I D) ∧ (@Ne Nat C D)) →
        wpAny (model prog w) A (eval elt (compEnvC scope cl C env)) (CompEnd h₀ L m { s₁ with heap := h, toks := tk } I oI C oC D (lst ys) (fun _ => True) (fun y nw' => Inv (i + 1) (ys ++ [y]) nw')) E' { s₁ with heap := h, toks := tk }) ∧
    ∀ ys nw, Inv its.length ys nw → FinE h₀ L m s₁ Q ys nw
theorem comp_nested {elt iter : Expr} {x y z : Str} {px py pz tp tp2 pos : Pos} {k1 k2} {scope : Scope} {cl : List (Str × Addr)} {Q : Value → Shared → Prop} (hh : A.handled = none)
    (hclos : closureFor scope env = pure cl) (hcell : ∀ q ∈ scope.names, q.2 ≠ .cell) (hkind : scope.kind = .function) (hnames : ∀ q ∈ scope.names, q.2 = .local → scope.names.lookup q.1 = some .local)
    (hx : scope.names.lookup x = some .local) (hy : scope.names.lookup y = some .local) (hz : scope.names.lookup z = some .local) (hxy : x ≠ y) (hxz : x ≠ z) (hyz : y ≠ z)
    (h : wpAny (model prog w) A (eval iter env) (Src3 prog w A h₀ L m env elt x y z scope cl Q) E s)
    (hs : ∀ x, foldedSetIterable iter env x = pure x := by intro _; rfl) :
    wpAny (model prog w) A (eval (.ListComp elt [⟨.Tuple [.Name x px, .Tuple [.Name y py, .Name z pz] k2 tp2] k1 tp, iter, [], 0⟩] scope pos) env) Q E s := by
  rw [eval_ListComp]
  refine wpAny_comprehension_free (use := none) rfl hs hclos hkind hnames (wpAny_mono h (fun xv s₁ h₁ => ?_) fun _ _ e => e)
  obtain ⟨ax, its, kk, nw₀, rfl, F, N, hsz, Inv, i0, keep, step, fin⟩ := h₁
  have hax := N _ (keep _ _ _ i0)
  have hl : s₁.heap.IsList ax its.toArray := ⟨_, hax.1, rfl, kk, rfl⟩
  refine wpAny_pyIter_list hl ?_
  refine wpAny_newObj_type (wpAny_newFunctionEnv hcell (by intro q hq; simp at hq) (fun g hns hsb => ?_) hkind)
  dsimp only at hns hsb ⊢
  -- the three new addresses
  obtain ⟨I, hI⟩ : ∃ I, I = s₁.heap.objs.size := ⟨_, rfl⟩
  generalize hH1 : s₁.heap.push { cls := .type "list_iterator", data := .fields #[.ref ax, .int 0 0] } = H1 at hns hsb ⊢
  have s1 : H1.objs.size = I + 1 := by rw [← hH1, Heap.size_push, hI]
  generalize hH2 : H1.push { cls := .type "list", dict := none, data := .seq ([] : List Value).toArray } = H2 at hns hsb ⊢
  have s2 : H2.objs.size = I + 2 := by rw [← hH2, Heap.size_push, s1]
  rw [← hI, s1]
  rw [s2] at hns hsb ⊢
  have far : ∀ b : Addr, b < I → b ≠ I ∧ b ≠ I + 1 ∧ b ≠ I + 2 := fun b hb => ⟨Nat.ne_of_lt hb, Nat.ne_of_lt (Nat.lt_succ_of_lt hb), Nat.ne_of_lt (Nat.lt_succ_of_lt (Nat.lt_succ_of_lt hb))⟩
  have e1 : ∀ b o, H1.get? b = some o → b < I + 1 := fun b o e => by rw [← s1]; exact Heap.lt_size e
  have up1 : ∀ b o, s₁.heap.get? b = some o → H1.get? b = some o := fun b o e => hH1 ▸ Heap.get?_push_of_some _ e
  have up2 : ∀ b o, H1.get? b = some o → g.get? b = some o := fun b o e => hsb.extBut b o (fun q => by have := e1 b o e; rw [q] at this; exact absurd this (Nat.not_lt.mpr (Nat.le_succ _))) (Heap.get?_push_of_some _ (hH2 ▸ Heap.get?_push_of_some _ e))
  have up : ∀ b o, s₁.heap.get? b = some o → g.get? b = some o := fun b o e => up2 b o (up1 b o e)
  have gI : g.IsListIter I ax 0 := ⟨_, up2 _ _ (hH1 ▸ hI ▸ Heap.get?_push_size _ rfl), rfl, rfl⟩
  have gD : g.get? (I + 1) = some (lst []) := hsb.extBut _ _ (Nat.ne_of_lt (Nat.lt_succ_self _)) (Heap.get?_push_of_some _ (hH2 ▸ s1 ▸ Heap.get?_push_size _ rfl))
  have none0 : ∀ a : Addr, I ≤ a → h₀.get? a = none := fun a ha => by
    cases e : h₀.get? a with
    | none => rfl
    | some o => exact absurd (Heap.lt_size (F.keep a o e)) (Nat.not_lt.mpr (hI ▸ ha))
  have I0 : h₀.get? I = none := none0 _ (Nat.le_refl _)
  have D0 : h₀.get? (I + 1) = none := none0 _ (Nat.le_succ _)
  have C0 : h₀.get? (I + 2) = none := none0 _ (Nat.le_add_right _ _)
  have hL : L < I := hI ▸ F.ns.lt
  have LI := far L hL
  have loop : ∀ s₃ : Shared, (∃ k, s₃ = { s₁ with heap := g, toks := k }) →
      codeAny (model prog w) A (.compLoop (.ListComp elt [⟨.Tuple [.Name x px, .Tuple [.Name y py, .Name z pz] k2 tp2] k1 tp, iter, [], 0⟩] scope pos) 0 (.ref I) (.ref (I + 1)) (compEnvC scope cl (I + 2) env)) (compPost (model prog w) A E none Q (.ref (I + 1)) (I + 2)) s₃ := by
    rintro s₃ ⟨k0, rfl⟩
    refine codeAny_compLoop_pair (fun k s' => ∃ h' tk i ys mc nw, s' = { s₁ with heap := h', toks := tk } ∧ i ≤ its.length ∧ k = its.length + 1 - i ∧ ys.length = i ∧ h'.IsListIter I ax i ∧ Fr h₀ L h' m ∧ h'.Ns (I + 2) mc ∧ News h₀ L h' ((I + 1, lst ys) :: nw) ∧ Off3 I (I + 2) (I + 1) nw ∧ Inv i ys nw) ?_ (its.length + 1)
      ⟨g, k0, 0, [], _, nw₀, rfl, Nat.zero_le _, rfl, rfl, gI, ⟨F.ns.at' (up _), fun b o e => up b o (F.keep b o e), F.above⟩, hns, ?_, Off3.of fun p hp => ?_, i0⟩
    rotate_left
    · intro p hp
      rcases List.mem_cons.mp hp with rfl | hp
      · exact ⟨gD, Ne.symm LI.2.1, D0⟩
      · exact ⟨up _ _ (N p hp).1, (N p hp).2⟩
    · have := far p.1 (hI ▸ Heap.lt_size (N p hp).1)
      exact ⟨this.1, this.2.2, this.2.1⟩
    rintro k s' ⟨h', tk, i, ys, mc, nw, rfl, hi, rfl, hyl, hit', F', hc', N', off', hI'⟩
    have hoff := off'.mem
    have Nax := N' _ (.tail _ (keep _ _ _ hI'))
    have hl' : h'.IsList ax its.toArray := ⟨_, Nax.1, rfl, kk, rfl⟩
    -- a change at the iterator alone
    have at_I : ∀ h₂ : Heap, (∀ b o, b ≠ I → h'.get? b = some o → h₂.get? b = some o) → Fr h₀ L h₂ m ∧ News h₀ L h₂ ((I + 1, lst ys) :: nw) ∧ h₂.Ns (I + 2) mc := fun h₂ hk => by
      refine ⟨⟨F'.ns.at' fun o e => hk _ o LI.1 e, fun b o e => hk b o (fun q => by rw [q, I0] at e; cases e) (F'.keep b o e), F'.above⟩, fun p hp => ⟨hk _ _ ?_ (N' p hp).1, (N' p hp).2⟩, hc'.at' fun o e => hk _ o (Nat.ne_of_gt (Nat.lt_add_of_pos_right (by decide))) e⟩
      rcases List.mem_cons.mp hp with rfl | hp
      · exact Nat.ne_of_gt (Nat.lt_succ_self _)
      · exact (hoff p hp).1
    by_cases hlt : i < its.length
    · obtain ⟨v, hv⟩ : ∃ v, its[i]? = some v := ⟨its[i], by simp [hlt]⟩
      refine wpAny_pyNext_list_item hit' hl' (x := v) (by simpa using hv) fun h₂ hit₂ hs₂ => ?_
      obtain ⟨F₂, N₂, hc₂⟩ := at_I h₂ hs₂.extBut
      obtain ⟨v1, v2, v3, ⟨t1, n1, t2, n2, rfl, m1, m2⟩, hstep⟩ := step i ys nw v hI' hv
      dsimp only
      refine wpAny_letOwnedTupleGo_listiter hit₂ ?_
      have T1 : IsTup h₂ t1 #[v1, .ref t2] := ⟨_, (N₂ _ (.tail _ m1)).1, rfl, _, rfl⟩
      refine assign_Tuple_tuple hh T1 rfl rfl fun h₃ he₃ => ?_
      have k3 : ∀ b o, h₂.get? b = some o → h₃.get? b = some o := fun b o e => he₃ b o (Nat.ne_of_lt (Heap.lt_size e)) e
      refine assignInOrder_cons (wpAny_assign_Name (wpAny_storeName_local (lookup_relabel_local hx) (hc₂.at' fun o e => k3 _ o e) (fun h₄ hc₄ hs₄ => ?_) (by simp [compEnvC, relabel, hkind])))
      have T2 : IsTup h₄ t2 #[v2, v3] := ⟨_, hs₄.extBut _ _ (hoff _ m2).2.1 (k3 _ _ (N₂ _ (.tail _ m2)).1), rfl, _, rfl⟩
      refine assignInOrder_cons (assign_Tuple_tuple (elts := [.Name y py, .Name z pz]) (x1 := k2) (pos := tp2) hh T2 rfl rfl fun h₅ he₅ => ?_)
      have k5 : ∀ b o, h₄.get? b = some o → h₅.get? b = some o := fun b o e => he₅ b o (Nat.ne_of_lt (Heap.lt_size e)) e
      refine assignInOrder_cons (wpAny_assign_Name (wpAny_storeName_local (lookup_relabel_local hy) (hc₄.at' fun o e => k5 _ o e) (fun h₆ hc₆ hs₆ => ?_) (by simp [compEnvC, relabel, hkind])))
      refine assignInOrder_cons (wpAny_assign_Name (wpAny_storeName_local (lookup_relabel_local hz) hc₆ (fun h₇ hc₇ hs₇ => ?_) (by simp [compEnvC, relabel, hkind])))
      refine assignInOrder_nil (assignInOrder_nil ?_)
      have k7 : ∀ b o, b ≠ I + 2 → h₂.get? b = some o → h₇.get? b = some o := fun b o hb e => hs₇.extBut b o hb (hs₆.extBut b o hb (k5 b o (hs₄.extBut b o hb (k3 b o e))))
      have hCI : I ≠ I + 2 := Nat.ne_of_lt (Nat.lt_add_of_pos_right (by decide))
      have hDC : I + 1 ≠ I + 2 := Nat.ne_of_lt (Nat.lt_succ_self _)
      obtain ⟨oI, gI₂, cI, dI⟩ := id hit₂
      obtain ⟨oC, gC, nC⟩ := ns_obj hc₇
      have F₇ : Fr h₀ L h₇ m := ⟨F₂.ns.at' fun o e => k7 _ o LI.2.2 e, fun b o e => k7 b o (fun q => by rw [q, C0] at e; cases e) (F₂.keep b o e), F₂.above⟩
      have N₇ : News h₀ L h₇ ((I, oI) :: (I + 2, oC) :: (I + 1, lst ys) :: nw) := by
        intro p hp
        rcases List.mem_cons.mp hp with rfl | hp
        · exact ⟨k7 _ _ hCI gI₂, Ne.symm LI.1, I0⟩
        · rcases List.mem_cons.mp hp with rfl | hp
          · exact ⟨gC, Ne.symm LI.2.2, C0⟩
          · refine ⟨k7 _ _ ?_ (N₂ p hp).1, (N₂ p hp).2⟩
            rcases List.mem_cons.mp hp with rfl | hp
            · exact hDC
            · exact (hoff p hp).2.1
      refine wpAny_mono (hstep I oI (I + 2) oC (I + 1) _ h₇ _ _ nC (by simp [hxy, hxz]) (by simp [hyz]) (by simp) F₇ N₇ off' ⟨hCI, Nat.ne_of_lt (Nat.lt_succ_self _), Ne.symm hDC⟩) (fun y₉ s₈ h₈ => ?_) fun _ _ e => e
      obtain ⟨h₈, tk₈, nw₈, rfl, F₈, N₈, off₈, -, I₈⟩ := h₈
      have zI := (N₈ _ (.head _)).1
      have zC := (N₈ _ (.tail _ (.head _))).1
      have zD := (N₈ _ (.tail _ (.tail _ (.head _)))).1
      refine append_at (hsz := by show ys.toArray.size ≤ sizeLine; rw [List.size_toArray, hyl, sizeLine_eq]; omega) zD fun h₉ hs₉ hD₉ => ?_
      refine ⟨its.length + 1 - (i + 1), by omega, h₉, tk₈, i + 1, ys ++ [y₉], _, nw₈, rfl, hlt, rfl, by rw [List.length_append, List.length_singleton, hyl], ⟨oI, hs₉.extBut _ _ (Nat.ne_of_lt (Nat.lt_succ_self _)) zI, cI, dI⟩,
        ⟨F₈.ns.at' fun o e => hs₉.extBut _ o LI.2.1 e, fun b o e => hs₉.extBut b o (fun q => by rw [q, D0] at e; cases e) (F₈.keep b o e), F₈.above⟩, (nC.ns zC).at' fun o e => hs₉.extBut _ o (Ne.symm hDC) e, fun p hp => ?_, off₈, I₈⟩
      rcases List.mem_cons.mp hp with rfl | hp
      · exact ⟨hD₉.trans (congrArg some (lst_snoc ys y₉)), Ne.symm LI.2.1, D0⟩
      · have z := N₈ p (.tail _ (.tail _ (.tail _ hp)))
        exact ⟨hs₉.extBut _ _ (off₈.mem p hp).2.2 z.1, z.2⟩
    · obtain rfl : i = its.length := Nat.le_antisymm hi (Nat.not_lt.mp hlt)
      refine wpAny_pyNext_list_end hh hit' hl' (by simp) fun h₂ hs₂ => ?_
      obtain ⟨F₂, N₂, hc₂⟩ := at_I h₂ fun b o hb e => hs₂ b o hb e
      refine ⟨mc, hc₂, fun h₃ hs₃ => ?_⟩
      refine fin ys nw hI' (I + 1) h₃ tk ⟨F₂.ns.at' fun o e => hs₃.extBut _ o LI.2.2 e, fun b o e => hs₃.extBut b o (fun q => by rw [q, C0] at e; cases e) (F₂.keep b o e), F₂.above⟩ (fun p hp => ⟨hs₃.extBut _ _ ?_ (N₂ p hp).1, (N₂ p hp).2⟩) off'.one
      rcases List.mem_cons.mp hp with rfl | hp
      · exact Nat.ne_of_lt (Nat.lt_succ_self _)
      · exact (hoff p hp).2.1
  exact codeAny_compStart_list (loop _ ⟨_, rfl⟩) (wpAny_pyIter_listiter gI (loop _ ⟨_, rfl⟩))
theorem comp_nestedF {elt iter : Expr} {x y z : Str} {px py pz tp tp2 pos : Pos} {k1 k2} {scope : Scope} {cl : List (Str × Addr)} {Q : Value → Shared → Prop} (_F : Fr h₀ L s.heap m) (hh : A.handled = none)
    (hclos : closureFor scope env = pure cl) (hcell : ∀ q ∈ scope.names, q.2 ≠ .cell) (hkind : scope.kind = .function) (hnames : ∀ q ∈ scope.names, q.2 = .local → scope.names.lookup q.1 = some .local)
    (hx : scope.names.lookup x = some .local) (hy : scope.names.lookup y = some .local) (hz : scope.names.lookup z = some .local) (hxy : x ≠ y) (hxz : x ≠ z) (hyz : y ≠ z)
    (h : wpAny (model prog w) A (eval iter env) (Src3 prog w A h₀ L m env elt x y z scope cl Q) E s)
    (hs : ∀ x, foldedSetIterable iter env x = pure x := by intro _; rfl) :
    wpAny (model prog w) A (eval (.ListComp elt [⟨.Tuple [.Name x px, .Tuple [.Name y py, .Name z pz] k2 tp2] k1 tp, iter, [], 0⟩] scope pos) env) Q E s :=
  comp_nested hh hclos hcell hkind hnames hx hy hz hxy hxz hyz h hs
end
end Q26
end
-- part QLate
section
namespace Q26
theorem calm37 : True := by
  w_top off
  trivial
end Q26
open PySem PySem.W PyProof.Rows PySem.Spec PySem.Calls
namespace Q26
theorem ne_cell {h₀ h : Heap} {L a b : Addr} {oa ob : Obj} {news : List (Addr × Obj)} {x : Array Value} {n : Nat} {v : Option Value} (N : News h₀ L h news) (h1 : (a, oa) ∈ news) (h2 : (b, ob) ∈ news) (ca : oa.data = .seq x n) (cb : ob.data = .cell v) : @Ne Nat a b := by
  intro e
  have e1 := (N _ h1).1
  have e2 := (N _ h2).1
  have e' : a = b := e
  dsimp only at e1 e2
  rw [e', e2] at e1
  cases e1
  rw [ca] at cb
  cases cb
theorem paired_get {α β : Type} {F : α → β → Prop} {l : List α} {l' : List β} (h : Paired F l l') : ∀ {i : Nat} {b : β}, l'[i]? = some b → ∃ a, l[i]? = some a ∧ F a b := by
  induction h with
  | nil => intro i b hb; simp at hb
  | cons a _ ih =>
    intro i b hb
    cases i with
    | zero => simp at hb; subst hb; exact ⟨_, rfl, a⟩
    | succ i => simpa using ih (by simpa using hb)
theorem paired_drop {α β : Type} {F : α → β → Prop} {l : List α} {l' : List β} (h : Paired F l l') : ∀ k, Paired F (l.drop k) (l'.drop k) := by
  induction h with
  | nil => intro k; simpa using Paired.nil
  | cons a r ih =>
    intro k
    cases k with
    | zero => exact .cons a r
    | succ k => simpa using ih k
theorem paired_take {α β : Type} {F : α → β → Prop} {l : List α} {l' : List β} (h : Paired F l l') : ∀ k, Paired F (l.take k) (l'.take k) := by
  induction h with
  | nil => intro k; simpa using Paired.nil
  | cons a r ih =>
    intro k
    cases k with
    | zero => exact .nil
    | succ k => exact .cons a (ih k)
theorem paired_append {α β : Type} {F : α → β → Prop} {l k : List α} {l' k' : List β} (h : Paired F l l') (g : Paired F k k') : Paired F (l ++ k) (l' ++ k') := by
  induction h with
  | nil => exact g
  | cons a _ ih => exact .cons a ih
theorem dues_last : ∀ {o : Nat} {qs : List Qn} {ds : List Due}, DuesOf o qs ds → 0 < qs.length → ∃ e, ds[ds.length - 1]? = some e ∧ e.2.2 = o + (body qs).length
  | o, [q], [d], ⟨h1, _⟩, _ => ⟨d, rfl, by simpa [body] using h1.2.2⟩
  | o, q :: q' :: r, d :: d' :: ds, ⟨_, h2⟩, _ => by
    obtain ⟨e, e1, e2⟩ := dues_last h2 (by simp)
    refine ⟨e, ?_, by rw [e2]; simp only [body, List.length_append]; omega⟩
    simpa using e1
  | _, [], _, _, h => absurd h (by simp)
  | _, _ :: _, [], h, _ => h.elim
  | _, [_], _ :: _ :: _, h, _ => h.2.elim
  | _, _ :: _ :: _, [_], h, _ => h.2.elim
theorem late_prep {w : World} {g h : Heap} {L ld d c sc dcl tL fl : Addr} {so dco dO cO : Obj} {nd nL nl p : Nat} {tbL : Tok} {tl : List (Addr × Obj)} {dvs fvs : List Value} {ds : List Due} {qs : List Qn} {q : Qn} {dd : Due} {cv : Option Value} {txt : Str}
    (N : News g L h ((ld, listOf dvs.toArray nd) :: (d, dO) :: (c, cO) :: (sc, so) :: (dcl, dco) :: tl)) (hso : so.data = .cell cv) (hdi : DuesIn tl dvs ds) (hdo : DuesOf 0 qs ds) (htb : txt.cps.toList = body qs) (hq0 : 0 < qs.length)
    (b1 : (tL, tup2 (.int (dd.1 : Int) tbL) (.ref fl) nL) ∈ tl) (b2 : (fl, listOf fvs.toArray nl) ∈ tl) (b3 : PairsIn w tl fvs q.2) (b5 : ds[p]? = some dd) :
    ∃ tl₂ t1 n1 tb t2 n2 tm te z1 m1 zb z2 m2 zm ze, ∃ e : Due, News g L h ((ld, listOf dvs.toArray nd) :: (d, dO) :: (c, cO) :: (sc, so) :: (dcl, dco) :: (tL, tup2 (.int (dd.1 : Int) tbL) (.ref fl) nL) :: (fl, listOf fvs.toArray nl) :: (t1, tup2 (.int (dd.1 : Int) tb) (.ref t2) n1) :: (t2, tup2 (.str dd.2.1 tm) (.int (dd.2.2 : Int) te) n2) ::
        (z1, tup2 (.int (e.1 : Int) zb) (.ref z2) m1) :: (z2, tup2 (.str e.2.1 zm) (.int (txt.length : Int) ze) m2) :: tl₂) ∧
      DuesIn tl₂ dvs ds ∧ PairsIn w tl₂ fvs q.2 ∧ (∀ p ∈ tl₂, p ∈ tl) ∧ (∀ p ∈ tl₂, p.1 ≠ sc) ∧ dvs[p]? = some (.ref t1) ∧ dvs[dvs.length - 1]? = some (.ref z1) ∧
      @Ne Nat ld sc ∧ @Ne Nat tL sc ∧ @Ne Nat fl sc ∧ @Ne Nat t1 sc ∧ @Ne Nat t2 sc ∧ @Ne Nat z1 sc ∧ @Ne Nat z2 sc := by
  have off : ∀ {a : Addr} {o : Obj} {x : Array Value} {n : Nat}, (a, o) ∈ tl → o.data = .seq x n → @Ne Nat a sc := fun ha hd =>
    ne_cell N (.tail _ (.tail _ (.tail _ (.tail _ (.tail _ ha))))) (.tail _ (.tail _ (.tail _ (.head _)))) hd hso
  have keep : ∀ {a : Addr} {o : Obj} {x : Array Value} {n : Nat}, (a, o) ∈ tl → o.data = .seq x n → (a, o) ∈ tl.filter (fun p => decide (@Ne Nat p.1 sc)) := fun ha hd =>
    List.mem_filter.mpr ⟨ha, decide_eq_true (off ha hd)⟩
  have hdi2 : DuesIn (tl.filter (fun p => decide (@Ne Nat p.1 sc))) dvs ds := paired_imp (fun v e x => by
    obtain ⟨t1, n1, tb, t2, n2, tm, te, a, b, c⟩ := x
    exact ⟨t1, n1, tb, t2, n2, tm, te, a, keep b rfl, keep c rfl⟩) hdi
  have b3' : PairsIn w (tl.filter (fun p => decide (@Ne Nat p.1 sc))) fvs q.2 := paired_imp (fun v e x => by
    obtain ⟨t, o, ta, tb, n, a, b, c, d⟩ := x
    exact ⟨t, o, ta, tb, n, a, b.imp id fun z => keep z d, c, d⟩) b3
  obtain ⟨e, e1, e2⟩ := dues_last hdo hq0
  obtain ⟨v1, x1, t1, n1, tb, t2, n2, tm, te, rfl, y1, y2⟩ := paired_get hdi b5
  obtain ⟨v2, x2, z1, m1, zb, z2, m2, zm, ze, rfl, y3, y4⟩ := paired_get hdi e1
  have hel : e.2.2 = txt.length := by rw [e2, str_len, htb]; omega
  rw [hel] at y4
  have hdl : dvs.length = ds.length := hdi.length
  refine ⟨_, t1, n1, tb, t2, n2, tm, te, z1, m1, zb, z2, m2, zm, ze, e, news_sub N ?_, hdi2, b3', fun p hp => (List.mem_filter.mp hp).1, fun p hp => of_decide_eq_true (List.mem_filter.mp hp).2, x1, by rw [hdl]; exact x2,
    ne_cell N (.head _) (.tail _ (.tail _ (.tail _ (.head _)))) rfl hso, off b1 rfl, off b2 rfl, off y1 rfl, off y2 rfl, off y3 rfl, off y4 rfl⟩
  intro z hz
  simp only [List.mem_cons] at hz ⊢
  have hf : z ∈ tl.filter (fun p => decide (@Ne Nat p.1 sc)) → z ∈ tl := fun h => (List.mem_filter.mp h).1
  rcases hz with h | h | h | h | h | h | h | h | h | h | h | h
  · exact .inl h
  · exact .inr (.inl h)
  · exact .inr (.inr (.inl h))
  · exact .inr (.inr (.inr (.inl h)))
  · exact .inr (.inr (.inr (.inr (.inl h))))
  · exact .inr (.inr (.inr (.inr (.inr (h ▸ b1)))))
  · exact .inr (.inr (.inr (.inr (.inr (h ▸ b2)))))
  · exact .inr (.inr (.inr (.inr (.inr (h ▸ y1)))))
  · exact .inr (.inr (.inr (.inr (.inr (h ▸ y2)))))
  · exact .inr (.inr (.inr (.inr (.inr (h ▸ y3)))))
  · exact .inr (.inr (.inr (.inr (.inr (h ▸ y4)))))
  · exact .inr (.inr (.inr (.inr (.inr (hf h)))))
/-- an item of a made list at a known place -/
theorem list_at {prog : Program} {w : World} {A : Around} {E : Value → Shared → Prop} {s : Shared} {value slice : Expr} {h₀ : Heap} {L D : Addr} {news : List (Addr × Obj)} {u : Tok} {k : Int} {vs : List Value} {v : Value} {n : Nat} {Q : Value → Shared → Prop}
    (N : News h₀ L s.heap news) (hm : (D, listOf vs.toArray n) ∈ news) (h0 : 0 ≤ k) (hk : k < 2000) (hv : vs[k.toNat]? = some v) (h : Q v s)
    (hs : subscripted slice false (.ref D) (.int k u) = operate [.ref D, .int k u] (getItem (.ref D) (.int k u)) := by with_unfolding_all rfl) :
    wpAny (model prog w) A (subscriptTail value slice (.ref D) (.int k u)) Q E s := by
  have hl : s.heap.IsList D vs.toArray := ⟨_, (N _ hm).1, rfl, _, rfl⟩
  exact tail_any hl.typeIs slot_list_getitem.lookup (wpAny_getItem_list hl h0 (by omega) (by simpa using hv) h) hs
/-- the last item of a made list -/
theorem list_last {prog : Program} {w : World} {A : Around} {E : Value → Shared → Prop} {s : Shared} {value slice : Expr} {h₀ : Heap} {L D : Addr} {news : List (Addr × Obj)} {u : Tok} {vs : List Value} {v : Value} {n : Nat} {Q : Value → Shared → Prop}
    (N : News h₀ L s.heap news) (hm : (D, listOf vs.toArray n) ∈ news) (hlen : vs.length ≤ 2000) (hv : vs[vs.length - 1]? = some v) (h : Q v s)
    (hs : subscripted slice false (.ref D) (.int (-1) u) = operate [.ref D, .int (-1) u] (getItem (.ref D) (.int (-1) u)) := by with_unfolding_all rfl) :
    wpAny (model prog w) A (subscriptTail value slice (.ref D) (.int (-1) u)) Q E s := by
  have hl : s.heap.IsList D vs.toArray := ⟨_, (N _ hm).1, rfl, _, rfl⟩
  have hsz : vs.toArray.size = vs.length := by simp
  have hlt : vs.length - 1 < vs.length := (List.getElem?_eq_some_iff.mp hv).1
  refine tail_any hl.typeIs slot_list_getitem.lookup (wpAny_getItem_list_neg hl (by decide) (by rw [hsz]; omega) (by decide) (x := v) ?_ h) hs
  have e : (-1 + (vs.toArray.size : Int)).toNat = vs.length - 1 := by rw [hsz]; omega
  rw [e]
  simpa using hv
end Q26
end
-- part QEnd
section
namespace Q26
theorem calm38 : True := by
  w_top off
  trivial
end Q26
open PySem PySem.W PyProof.Rows PySem.Spec PySem.Calls
namespace Q26
theorem text_to {x : Str} {b : Nat} (h : b ≤ x.cps.toList.length) : (Txt.slice x none (some (b : Int))).cps.toList = x.cps.toList.take b := by
  have e : Txt.slice x none (some (b : Int)) = _ := StrLaws.sliceText_to (x := x) (j := (b : Int)) ⟨by omega, by omega⟩
  rw [e]
  simp
theorem text_from {x : Str} {b : Nat} (h : b ≤ x.cps.toList.length) : (Txt.slice x (some (b : Int)) none).cps.toList = x.cps.toList.drop b := by
  have e : Txt.slice x (some (b : Int)) none = _ := StrLaws.sliceText_from (x := x) (i := (b : Int)) ⟨by omega, by omega⟩
  rw [e]
  simp only [Int.toNat_natCast]
  rw [List.take_of_length_le (by rw [List.length_drop]; omega)]
theorem due_bounds : ∀ {o p : Nat} {qs : List Qn} {ds : List Due} {dd : Due}, DuesOf o qs ds → ds[p]? = some dd → o ≤ dd.1 ∧ dd.1 ≤ dd.2.2 ∧ dd.2.2 ≤ o + (body qs).length
  | o, p, [], [], dd, _, h => by simp at h
  | o, 0, q :: r, d :: ds, dd, ⟨h1, h2⟩, h => by
    simp only [List.getElem?_cons_zero, Option.some.injEq] at h
    subst h
    obtain ⟨a, _, b⟩ := h1
    simp only [body, List.length_append]
    have : (piece q).length = q.1.length + 1 + (enc q.2).length + 1 := by simp [piece]; omega
    omega
  | o, p + 1, q :: r, d :: ds, dd, ⟨h1, h2⟩, h => by
    have := due_bounds (p := p) h2 (by simpa using h)
    simp only [body, List.length_append]
    omega
  | _, _, [], _ :: _, _, h, _ => h.elim
  | _, _, _ :: _, [], _, h, _ => h.elim
/-- the dues behind the bent one, shifted -/
abbrev shifted (sh : Nat) (ds : List Due) : List Due := ds.map fun x => (x.1 + sh, x.2.1, x.2.2 + sh)
theorem bent_len {way : Int} {e rest : List Nat} : (bentText way e rest).length ≤ e.length + rest.length + 4 := by
  unfold bentText
  simp only [List.length_cons, List.length_append]
  split
  · simp only [List.length_cons]; omega
  · split
    · simp only [List.length_nil]; omega
    · split
      · simp only [List.length_cons]; omega
      · split
        · simp only [List.length_cons]; omega
        · simp only [List.length_cons, List.length_nil]; omega
theorem late_end {g h' : Heap} {L D d c dcl t5 t6 : Addr} {dco : Obj} {n n5 n6 n9 p : Nat} {ys dvs bvs : List Value} {at' way : Int} {ta' u5 u6 u7 tk tt : Tok} {m' : Str → Option Value} {tl : List (Addr × Obj)} {txt S : Str} {qs : List Qn} {ds bds : List Due} {q : Qn} {dd : Due} {s₁ : Shared} {sh : Nat}
    (F : Fr g L h' m') (N : News g L h' ((D, listOf (dvs.take p ++ [Value.ref t5] ++ bvs).toArray n9) :: (t5, tup2 (.int (dd.1 : Int) u5) (.ref t6) n5) :: (t6, tup2 (.str (Str.ofString "refused") u6) (.int ((bentSpot way dd.1 (enc q.2).length : Nat) : Int) u7) n6) :: (d, listOf #[.ref c, .int at' ta'] n) :: (c, LCg.lst ys) :: (dcl, dco) :: tl))
    (ht : m' (Str.ofString "text") = some (.str (Txt.slice txt none (some (dd.1 : Int)) ++ S) tt)) (hd : m' (Str.ofString "due") = some (.ref D)) (ha0 : 0 ≤ at') (ha1 : at' ≤ 60)
    (hdi : DuesIn tl dvs ds) (hbi : DuesIn tl bvs bds) (hdo : DuesOf 0 qs ds) (hg : ∀ q ∈ qs, Good q) (hq4 : qs.length ≤ 4) (htb : txt.cps.toList = body qs) (hq : qs[p]? = some q) (hdd : ds[p]? = some dd) (h0 : 0 ≤ way) (h5 : way < 5)
    (hS : S.cps.toList = bentText way (enc q.2) ((Txt.slice txt (some (dd.2.2 : Int)) none).cps.toList))
    (hb : bds = [] ∨ ((way = 0 ∨ way = 2 ∨ way = 3) ∧ (sh : Int) = ((Txt.slice txt none (some (dd.1 : Int)) ++ S).length : Int) - (txt.length : Int) ∧ bds = shifted sh (ds.drop (p + 1))))
    (htd : ∀ p ∈ tl, p.1 ≠ d) (h5d : @Ne Nat t5 d) (h6d : @Ne Nat t6 d) (hDd : @Ne Nat D d) :
    Ready g L d c dcl dco n ys s₁ .next { s₁ with heap := h', toks := tk } := by
  obtain ⟨b0, b1, b2⟩ := due_bounds hdo hdd
  have hdl := hdo.length
  rw [Nat.zero_add, ← htb] at b2
  have e1 := text_to (x := txt) (b := dd.1) (by omega)
  have e2 := text_from (x := txt) (b := dd.2.2) (by omega)
  rw [e2] at hS
  have et : (Txt.slice txt none (some (dd.1 : Int)) ++ S).cps.toList = txt.cps.toList.take dd.1 ++ bentText way (enc q.2) (txt.cps.toList.drop dd.2.2) := by
    rw [Str.cps_append, Array.toList_append, e1, hS]
  obtain ⟨f1, f2, f3⟩ := bent_fits hg hdo htb hq hdd h0 h5 et
  have hbl := body_len hg
  have hp : p < ds.length := (List.getElem?_eq_some_iff.mp hdd).1
  refine ⟨rfl, h', tk, m', _, tt, D, n9, dvs.take p ++ [Value.ref t5] ++ bvs, ds.take p ++ [(dd.1, Str.ofString "refused", bentSpot way dd.1 (enc q.2).length)] ++ bds, at', ta', (t5, tup2 (.int (dd.1 : Int) u5) (.ref t6) n5) :: (t6, tup2 (.str (Str.ofString "refused") u6) (.int ((bentSpot way dd.1 (enc q.2).length : Nat) : Int) u7) n6) :: tl, rfl, F, news_sub N ?_, ht, hd, ha0, ha1, ?_, ?_, ?_, ?_, ?_, ?_, hDd⟩
  · intro z hz
    simp only [List.mem_cons] at hz ⊢
    grind
  · refine paired_append (paired_append (DuesIn.mono (paired_take hdi p) fun _ h => .tail _ (.tail _ h)) (.cons ⟨t5, n5, u5, t6, n6, u6, u7, rfl, .head _, .tail _ (.head _)⟩ .nil)) (DuesIn.mono hbi fun _ h => .tail _ (.tail _ h))
  · intro e he
    rcases List.mem_append.mp he with he | he
    · rcases List.mem_append.mp he with he | he
      · exact ⟨f1 e he, dues_str hdo hg e (List.mem_of_mem_take he)⟩
      · rw [List.mem_singleton.mp he]
        exact ⟨f2, (by decide +kernel : PyData.strOk (Str.ofString "refused") = true)⟩
    · rcases hb with rfl | ⟨hw, hsh, rfl⟩
      · cases he
      · obtain ⟨sh', g1, g2⟩ := f3 hw
        have es : sh = sh' := by
          rw [str_len, str_len] at hsh
          omega
        subst es
        obtain ⟨x, hx, rfl⟩ := List.mem_map.mp he
        exact ⟨g2 x hx, dues_str hdo hg x (List.mem_of_mem_drop hx)⟩
  · simp only [List.length_append, List.length_cons, List.length_nil]; omega
  · have h1 : bds.length ≤ ds.length - (p + 1) := by
      rcases hb with rfl | ⟨_, _, rfl⟩
      · simp
      · simp
    have h2 : (ds.take p).length ≤ p := by rw [List.length_take]; omega
    simp only [List.length_append, List.length_cons, List.length_nil]
    omega
  · rw [str_len, et]
    have hgq : Good q := hg q (by obtain ⟨z1, z2⟩ := List.getElem?_eq_some_iff.mp hq; rw [← z2]; exact List.getElem_mem z1)
    have := (enc_len hgq.1).1
    have h2 := hgq.2.1
    have h3 := bent_len (way := way) (e := enc q.2) (rest := txt.cps.toList.drop dd.2.2)
    simp only [List.length_append, List.length_take, List.length_drop] at h3 ⊢
    rw [htb] at h3 ⊢
    omega
  · intro z hz
    rcases List.mem_cons.mp hz with rfl | hz
    · exact h5d
    · rcases List.mem_cons.mp hz with rfl | hz
      · exact h6d
      · exact htd z hz
theorem paired_get' {α β : Type} {F : α → β → Prop} {l : List α} {l' : List β} (h : Paired F l l') : ∀ {i : Nat} {a : α}, l[i]? = some a → ∃ b, l'[i]? = some b ∧ F a b := by
  induction h with
  | nil => intro i b hb; simp at hb
  | cons a _ ih =>
    intro i b hb
    cases i with
    | zero => simp at hb; subst hb; exact ⟨_, rfl, a⟩
    | succ i => simpa using ih (by simpa using hb)
/-- the ledger of the comprehension over the dues behind -/
def ShInv (ax sc ld d c dcl : Addr) (so lo dO cO dco : Obj) (its dvs : List Value) (kk sh : Nat) (ds bds : List Due) (i : Nat) (ys : List Value) (nw : List (Addr × Obj)) : Prop :=
  ∃ tlx, nw = (ax, listOf its.toArray kk) :: (sc, so) :: (ld, lo) :: (d, dO) :: (c, cO) :: (dcl, dco) :: tlx ∧ DuesIn tlx dvs ds ∧ DuesIn tlx its bds ∧ DuesIn tlx ys (shifted sh (bds.take i)) ∧ (∀ p ∈ tlx, p.1 ≠ d)
theorem ShInv.nest {ax sc ld d c dcl : Addr} {so lo dO cO dco : Obj} {its dvs ys : List Value} {kk sh i : Nat} {ds bds : List Due} {nw : List (Addr × Obj)} {v : Value} (h : ShInv ax sc ld d c dcl so lo dO cO dco its dvs kk sh ds bds i ys nw) (hv : its[i]? = some v) :
    ∃ x tb tm te, bds[i]? = some x ∧ Nest nw v (.int ((x : Due).1 : Int) tb) (.str x.2.1 tm) (.int (x.2.2 : Int) te) := by
  obtain ⟨tlx, rfl, h1, h2, h3, h4⟩ := h
  obtain ⟨x, hx, t1, n1, tb, t2, n2, tm, te, rfl, a, b⟩ := paired_get' h2 hv
  exact ⟨x, tb, tm, te, hx, t1, n1, t2, n2, rfl, List.mem_append_right [_, _, _, _, _, _] a, List.mem_append_right [_, _, _, _, _, _] b⟩
theorem shift_step {h₀ h' : Heap} {L I C D t5 t6 ax sc ld d c dcl : Addr} {m : Str → Option Value} {oI oC so lo dO cO dco : Obj} {its dvs ys : List Value} {kk sh i n5 n6 : Nat} {ds bds : List Due} {x : Due} {u5 u6 u7 tk : Tok} {nw : List (Addr × Obj)} {s₁ : Shared} {k1 k2 : Int}
    (hI : ShInv ax sc ld d c dcl so lo dO cO dco its dvs kk sh ds bds i ys nw) (hx : bds[i]? = some x) (off : LCg.Off3 I C D nw) (F : Fr h₀ L h' m) (N : News h₀ L h' ((t5, tup2 (.int k1 u5) (.ref t6) n5) :: (t6, tup2 (.str x.2.1 u6) (.int k2 u7) n6) :: (I, oI) :: (C, oC) :: (D, LCg.lst ys) :: nw))
    (e1 : k1 = (x.1 : Int) + (sh : Int)) (e2 : k2 = (x.2.2 : Int) + (sh : Int))
    (a1 : @Ne Nat t5 I) (a2 : @Ne Nat t5 C) (a3 : @Ne Nat t5 D) (a4 : @Ne Nat t5 d) (b1 : @Ne Nat t6 I) (b2 : @Ne Nat t6 C) (b3 : @Ne Nat t6 D) (b4 : @Ne Nat t6 d) :
    LCg.CompEnd h₀ L m s₁ I oI C oC D (LCg.lst ys) (fun _ => True) (fun y nw' => ShInv ax sc ld d c dcl so lo dO cO dco its dvs kk sh ds bds (i + 1) (ys ++ [y]) nw') (.ref t5) { s₁ with heap := h', toks := tk } := by
  obtain ⟨tlx, rfl, h1, h2, h3, h4⟩ := hI
  have ek1 : k1 = ((x.1 + sh : Nat) : Int) := by omega
  have ek2 : k2 = ((x.2.2 + sh : Nat) : Int) := by omega
  subst ek1
  subst ek2
  have up : ∀ q ∈ tlx, q ∈ (t5, tup2 (.int ((x.1 + sh : Nat) : Int) u5) (.ref t6) n5) :: (t6, tup2 (.str x.2.1 u6) (.int ((x.2.2 + sh : Nat) : Int) u7) n6) :: tlx := fun q hq => .tail _ (.tail _ hq)
  refine LCg.CompEnd.intro F N ((ax, listOf its.toArray kk) :: (sc, so) :: (ld, lo) :: (d, dO) :: (c, cO) :: (dcl, dco) :: (t5, tup2 (.int ((x.1 + sh : Nat) : Int) u5) (.ref t6) n5) :: (t6, tup2 (.str x.2.1 u6) (.int ((x.2.2 + sh : Nat) : Int) u7) n6) :: tlx) ?_ ?_ trivial ⟨_, rfl, h1.mono up, h2.mono up, ?_, ?_⟩
  · intro z hz
    simp only [List.mem_cons] at hz ⊢
    grind
  · simp only [LCg.Off3] at off ⊢
    exact ⟨off.1, off.2.1, off.2.2.1, off.2.2.2.1, off.2.2.2.2.1, off.2.2.2.2.2.1, ⟨a1, a2, a3⟩, ⟨b1, b2, b3⟩, off.2.2.2.2.2.2⟩
  · have et : bds.take (i + 1) = bds.take i ++ [x] := by
      rw [List.take_add_one, hx]; rfl
    rw [et]
    unfold shifted
    rw [List.map_append]
    exact Paired.snoc (h3.mono up) ⟨t5, n5, u5, t6, n6, u6, u7, rfl, .head _, .tail _ (.head _)⟩
  · intro z hz
    rcases List.mem_cons.mp hz with rfl | hz
    · exact a4
    · rcases List.mem_cons.mp hz with rfl | hz
      · exact b4
      · exact h4 z hz
theorem late_mid {h₀ h : Heap} {L : Addr} {r a1 a2 a3 a4 a5 b1 b2 b3 b4 z1 z2 : Addr × Obj} {tl : List (Addr × Obj)} (N : News h₀ L h (r :: a1 :: a2 :: a3 :: a4 :: a5 :: b1 :: b2 :: b3 :: b4 :: z1 :: z2 :: tl)) : News h₀ L h (r :: a1 :: a2 :: a3 :: a4 :: a5 :: z1 :: z2 :: tl) := by
  refine news_sub N fun z hz => ?_
  simp only [List.mem_cons] at hz ⊢
  rcases hz with h | h | h | h | h | h | h | h | h
  · exact .inl h
  · exact .inr (.inl h)
  · exact .inr (.inr (.inl h))
  · exact .inr (.inr (.inr (.inl h)))
  · exact .inr (.inr (.inr (.inr (.inl h))))
  · exact .inr (.inr (.inr (.inr (.inr (.inl h)))))
  · exact .inr (.inr (.inr (.inr (.inr (.inr (.inr (.inr (.inr (.inr (.inl h))))))))))
  · exact .inr (.inr (.inr (.inr (.inr (.inr (.inr (.inr (.inr (.inr (.inr (.inl h)))))))))))
  · exact .inr (.inr (.inr (.inr (.inr (.inr (.inr (.inr (.inr (.inr (.inr (.inr h)))))))))))
theorem bent_small {way : Int} {sg : List (Str × Str)} {S rest : Str} (hs : ∀ p ∈ sg, Sgn p) (hl : sg.length ≤ 6) (h : S.cps.toList = bentText way (enc sg) rest.cps.toList) (hr : rest.length ≤ 64) : S.length ≤ 90 := by
  have h1 := bent_len (way := way) (e := enc sg) (rest := rest.cps.toList)
  have h2 := (enc_len hs).1
  rw [← h, ← str_len, ← str_len] at h1
  omega
theorem in3_yes {prog : Program} {w : World} {A : Around} {E : Value → Shared → Prop} {s : Shared} {h₀ : Heap} {L t : Addr} {news : List (Addr × Obj)} {x : Int} {u k1 k2 k3 : Tok} {n : Nat} {Q : Value → Shared → Prop}
    (N : News h₀ L s.heap ((t, { cls := .type "tuple", data := .seq #[.int 0 k1, .int 2 k2, .int 3 k3] n }) :: news)) (h : x = 0 ∨ x = 2 ∨ x = 3) (q : Q (.bool true) s) : wpAny (model prog w) A (compareOp .In (.int x u) (.ref t)) Q E s := by
  refine in_tuple_ints (ns := [0, 2, 3]) (News.isTup N (.head _)) (by repeat constructor) ?_
  have e : ([0, 2, 3] : List Int).any (· == x) = true := by rcases h with rfl | rfl | rfl <;> decide
  rw [e]
  exact q
theorem in3_no {prog : Program} {w : World} {A : Around} {E : Value → Shared → Prop} {s : Shared} {h₀ : Heap} {L t : Addr} {news : List (Addr × Obj)} {x : Int} {u k1 k2 k3 : Tok} {n : Nat} {Q : Value → Shared → Prop}
    (N : News h₀ L s.heap ((t, { cls := .type "tuple", data := .seq #[.int 0 k1, .int 2 k2, .int 3 k3] n }) :: news)) (h : ¬ (x = 0 ∨ x = 2 ∨ x = 3)) (q : Q (.bool false) s) : wpAny (model prog w) A (compareOp .In (.int x u) (.ref t)) Q E s := by
  refine in_tuple_ints (ns := [0, 2, 3]) (News.isTup N (.head _)) (by repeat constructor) ?_
  have e : ([0, 2, 3] : List Int).any (· == x) = false := by
    simp only [List.any_cons, List.any_nil, Bool.or_false, Bool.or_eq_false_iff, beq_eq_false_iff_ne]
    refine ⟨?_, ?_, ?_⟩ <;> omega
  rw [e]
  exact q
/-- the store into shift's cell; the tuple of three is dropped -/
theorem shift_store {M : Model} {A : Around} {E : Value → Shared → Prop} {s : Shared} {h₀ : Heap} {L a : Addr} {m : Str → Option Value} {cn : Str} {cs : Scope} {ccd : Value} {cl : List (Str × Addr)}
    {x : Str} {v : Value} {p1 p2 p3 p4 p5 p6 p7 p8 : Addr × Obj} {tl : List (Addr × Obj)} {c : Addr} {o : Obj} {v₀ : Option Value} {Q : Unit → Shared → Prop}
    (F : Fr h₀ L s.heap m) (N : News h₀ L s.heap (p1 :: p2 :: p3 :: p4 :: p5 :: (c, o) :: p6 :: p7 :: p8 :: tl)) (hd : o.data = .cell v₀)
    (n2 : @Ne Nat p2.1 c) (n3 : @Ne Nat p3.1 c) (n4 : @Ne Nat p4.1 c) (n5 : @Ne Nat p5.1 c) (n6 : @Ne Nat p6.1 c) (n7 : @Ne Nat p7.1 c) (n8 : @Ne Nat p8.1 c) (ht : ∀ p ∈ tl, p.1 ≠ c)
    (h : ∀ h' o', Fr h₀ L h' m → News h₀ L h' (p2 :: p3 :: p4 :: p5 :: (c, o') :: p6 :: p7 :: p8 :: tl) → o'.data = .cell (some v) → Q () { s with heap := h' })
    (hc : cl.lookup x = some c := by rfl) (hk : cs.kind = .function := by rfl) (hx : (envX cn cs L a ccd cl).kindOf x = some .cell := by rfl) : wpAny M A (storeName (envX cn cs L a ccd cl) x v) Q E s := by
  refine storeX_C F (fun p hp => N p (.tail _ hp) : News h₀ L s.heap (p2 :: p3 :: p4 :: p5 :: (c, o) :: p6 :: p7 :: p8 :: tl)) hc (.tail n2 (.tail n3 (.tail n4 (.tail n5 (.head ?_))))) hd (fun h' o' F' N' d' => h h' o' F' N' d') hk hx
  intro p hp
  simp only [List.mem_cons] at hp
  rcases hp with rfl | rfl | rfl | hp
  · exact n6
  · exact n7
  · exact n8
  · exact ht p hp
theorem late_shift {txt S : Str} {qs : List Qn} {ds : List Due} {p : Nat} {q : Qn} {dd : Due} {way : Int} (hg : ∀ q ∈ qs, Good q) (hdo : DuesOf 0 qs ds) (htb : txt.cps.toList = body qs) (hq : qs[p]? = some q) (hdd : ds[p]? = some dd) (h0 : 0 ≤ way) (h5 : way < 5)
    (hS : S.cps.toList = bentText way (enc q.2) ((Txt.slice txt (some (dd.2.2 : Int)) none).cps.toList)) (hw : way = 0 ∨ way = 2 ∨ way = 3) :
    ∃ sh : Nat, ((Txt.slice txt none (some (dd.1 : Int)) ++ S).length : Int) - (txt.length : Int) = (sh : Int) := by
  obtain ⟨b0, b1, b2⟩ := due_bounds hdo hdd
  rw [Nat.zero_add, ← htb] at b2
  have e1 := text_to (x := txt) (b := dd.1) (by omega)
  have e2 := text_from (x := txt) (b := dd.2.2) (by omega)
  rw [e2] at hS
  have et : (Txt.slice txt none (some (dd.1 : Int)) ++ S).cps.toList = txt.cps.toList.take dd.1 ++ bentText way (enc q.2) (txt.cps.toList.drop dd.2.2) := by
    rw [Str.cps_append, Array.toList_append, e1, hS]
  obtain ⟨sh, g1, _⟩ := (bent_fits hg hdo htb hq hdd h0 h5 et).2.2 hw
  exact ⟨sh, by rw [str_len, str_len]; omega⟩
theorem ShInv.start {h₀ h : Heap} {L ax sc ld d c dcl : Addr} {so lo dO cO dco : Obj} {its dvs : List Value} {kk sh : Nat} {ds bds : List Due} {p1 p2 p3 p4 : Addr × Obj} {tl : List (Addr × Obj)}
    (N : News h₀ L h ((ax, listOf its.toArray kk) :: p1 :: p2 :: (ld, lo) :: (d, dO) :: (c, cO) :: (sc, so) :: (dcl, dco) :: p3 :: p4 :: tl)) (hdi : DuesIn tl dvs ds) (hbi : DuesIn tl its bds) (htd : ∀ p ∈ tl, p.1 ≠ d) :
    ∃ nw, News h₀ L h nw ∧ ShInv ax sc ld d c dcl so lo dO cO dco its dvs kk sh ds bds 0 [] nw := by
  refine ⟨(ax, listOf its.toArray kk) :: (sc, so) :: (ld, lo) :: (d, dO) :: (c, cO) :: (dcl, dco) :: tl, news_sub N ?_, tl, rfl, hdi, hbi, .nil, htd⟩
  intro z hz
  simp only [List.mem_cons] at hz ⊢
  grind
theorem ShInv.keep {ax sc ld d c dcl : Addr} {so lo dO cO dco : Obj} {its dvs : List Value} {kk sh : Nat} {ds bds : List Due} : ∀ i ys nw, ShInv ax sc ld d c dcl so lo dO cO dco its dvs kk sh ds bds i ys nw → (ax, listOf its.toArray kk) ∈ nw := by
  rintro i ys nw ⟨tlx, rfl, _⟩
  exact .head _
theorem late_news {h₀ h : Heap} {L : Addr} {D p1 p2 t5 t6 p3 p4 p5 p6 p7 d c dcl : Addr × Obj} {tl : List (Addr × Obj)} (N : News h₀ L h (D :: p1 :: p2 :: t5 :: t6 :: p3 :: p4 :: p5 :: p6 :: p7 :: d :: c :: dcl :: tl)) : News h₀ L h (D :: t5 :: t6 :: d :: c :: dcl :: tl) := by
  refine news_sub N ?_
  intro z hz
  simp only [List.mem_cons] at hz ⊢
  grind
theorem full_shift {tl : List (Addr × Obj)} {ys dvs : List Value} {ds : List Due} {sh : Nat} {k : Int} (hk : 0 ≤ k) (hd : dvs.length = ds.length) (h : DuesIn tl ys (shifted sh ((ds.drop (k + 1).toNat).take (dvs.drop (k + 1).toNat).length))) : DuesIn tl ys (shifted sh (ds.drop (k.toNat + 1))) := by
  have e0 : (k + 1).toNat = k.toNat + 1 := by omega
  rw [List.take_of_length_le (by simp only [List.length_drop]; omega), e0] at h
  exact h
theorem late_newsB {h₀ h : Heap} {L : Addr} {D p1 p2 t5 t6 p3 p4 p5 p6 p7 d c p8 dcl p9 p10 : Addr × Obj} {tl : List (Addr × Obj)} (N : News h₀ L h (D :: p1 :: p2 :: t5 :: t6 :: p3 :: p4 :: p5 :: p6 :: p7 :: d :: c :: p8 :: dcl :: p9 :: p10 :: tl)) : News h₀ L h (D :: t5 :: t6 :: d :: c :: dcl :: tl) := by
  refine news_sub N ?_
  intro z hz
  simp only [List.mem_cons] at hz ⊢
  grind
theorem above_of {news : List (Addr × Obj)} {D a : Addr} {o : Obj} (h : ∀ p ∈ news, p.1 < D) (hm : (a, o) ∈ news) : @Ne Nat D a := Nat.ne_of_gt (h _ hm)
end Q26
end
-- part QTurn
section
namespace Q26
theorem calm39 : True := by
  w_top off
  trivial
end Q26
open PySem PySem.W PyProof.Rows PySem.Spec PySem.Calls
namespace Q26
theorem LateIn.sub {w : World} {tl tl' : List (Addr × Obj)} {lv : Value} {bend place : Int} {i : Nat} {qs : List Qn} {ds : List Due} (h : LateIn w tl lv bend place i qs ds) (hs : ∀ q ∈ tl, q ∈ tl') : LateIn w tl' lv bend place i qs ds := by
  rcases h with h | ⟨h1, h2, tL, nL, tb, fl, nl, fvs, q', d', a, b, c, e, f, g⟩
  · exact .inl h
  · exact .inr ⟨h1, h2, tL, nL, tb, fl, nl, fvs, q', d', a, hs _ b, hs _ c, e.mono hs, f, g⟩
/-- what stands behind the turn's if -/
inductive Mid (w : World) (g : Heap) (L : Addr) (m : Str → Option Value) (pre : List (Addr × Obj)) (I d ld : Addr) (tl : List (Addr × Obj)) (bend place : Int) (i : Nat) (qs : List Qn) (q : Qn) (ds : List Due) (B : Nat) (s : Shared) : Flow → Shared → Prop
  | mk (h' : Heap) (tk : Tok) (m' : Str → Option Value) (lv' : Value) (tl' : List (Addr × Obj)) (F : Fr g L h' m') (N : News g L h' (pre ++ tl')) (hl : m' (Str.ofString "late") = some lv') (hm : ∀ y, y ≠ Str.ofString "late" → m' y = m y)
      (hs : ∀ p ∈ tl, p ∈ tl') (hd : ∀ p ∈ tl', p.1 ≠ d) (hld : ∀ p ∈ tl', p.1 ≠ ld) (hI : ∀ p ∈ tl', p.1 ≠ I) (hlate : ∀ dd : Due, dd.1 = B → LateIn w tl' lv' bend place (i + 1) (qs ++ [q]) (ds ++ [dd])) : Mid w g L m pre I d ld tl bend place i qs q ds B s .next { s with heap := h', toks := tk }
theorem cut_mid {prog : Program} {w : World} {A : Around} {E : Value → Shared → Prop} {s : Shared} {env : Env} {st : Stmt} {rest : List Stmt} {Q : Flow → Shared → Prop} {g h : Heap} {L I d ld : Addr} {pre tl : List (Addr × Obj)} {m : Str → Option Value} {bend place : Int} {i B : Nat} {qs : List Qn} {q : Qn} {ds : List Due}
    (_F : Fr g L h m) (_N : News g L h (pre ++ tl)) (_hd : ∀ p ∈ tl, p.1 ≠ d) (_hld : ∀ p ∈ tl, p.1 ≠ ld) (_hI : ∀ p ∈ tl, p.1 ≠ I)
    (h1 : wpAny (model prog w) A (exec st env) (Mid w g L m pre I d ld tl bend place i qs q ds B s) E s) (h2 : ∀ s₂, Mid w g L m pre I d ld tl bend place i qs q ds B s .next s₂ → wpAny (model prog w) A (execs rest env) Q E s₂) : wpAny (model prog w) A (execs (st :: rest) env) Q E s :=
  wpAny_execs_cons (wpAny_mono h1 (fun fl s₂ p => by cases p; exact h2 _ (.mk _ _ _ _ _ (by assumption) (by assumption) (by assumption) (by assumption) (by assumption) (by assumption) (by assumption) (by assumption) (by assumption))) fun _ _ e => e)
theorem over_late {m m' : Str → Option Value} {lv' : Value} (hl : m' (Str.ofString "late") = some lv') (hm : ∀ y, y ≠ Str.ofString "late" → m' y = m y) : m' = fun y => if y = Str.ofString "late" then some lv' else m y := by
  funext y
  by_cases h : y = Str.ofString "late"
  · rw [if_pos h, h]; exact hl
  · rw [if_neg h]; exact hm y h
theorem mid_same {w : World} {g h' : Heap} {L I d ld : Addr} {m : Str → Option Value} {pre tl tl0 : List (Addr × Obj)} {bend place : Int} {i B : Nat} {qs : List Qn} {q : Qn} {ds : List Due} {s : Shared} {lv : Value} {tk : Tok}
    (F : Fr g L h' m) (N : News g L h' (pre ++ tl)) (hl : m (Str.ofString "late") = some lv) (hd : ∀ p ∈ tl, p.1 ≠ d) (hld : ∀ p ∈ tl, p.1 ≠ ld) (hI : ∀ p ∈ tl, p.1 ≠ I) (h : LateIn w tl0 lv bend place i qs ds) (hs : ∀ p ∈ tl0, p ∈ tl) (hi : qs.length = i) (hn : ¬ (bend = 1 ∧ place = (i : Int))) (hp : 0 ≤ place) (hdl : ds.length = qs.length) :
    Mid w g L m pre I d ld tl bend place i qs q ds B s .next { s with heap := h', toks := tk } :=
  .mk _ _ _ _ _ F N hl (fun _ _ => rfl) (fun _ h => h) hd hld hI fun _ _ => h.mono hs hi hn hp hdl
theorem mid_here {w : World} {g h' : Heap} {L I d ld f t : Addr} {m m' : Str → Option Value} {pre tl : List (Addr × Obj)} {bend place : Int} {i B nL nn : Nat} {qs : List Qn} {q : Qn} {ds : List Due} {s : Shared} {tk tb : Tok} {vs : List Value}
    (F : Fr g L h' m') (N : News g L h' ((t, tup2 (.int (B : Int) tb) (.ref f) nL) :: (f, listOf vs.toArray nn) :: (pre ++ tl))) (hl : m' (Str.ofString "late") = some (.ref t)) (hm : ∀ y, y ≠ Str.ofString "late" → m' y = m y)
    (hd : ∀ p ∈ tl, p.1 ≠ d) (hld : ∀ p ∈ tl, p.1 ≠ ld) (hI : ∀ p ∈ tl, p.1 ≠ I) (t1 : t ≠ d) (t2 : t ≠ ld) (t3 : t ≠ I) (f1 : f ≠ d) (f2 : f ≠ ld) (f3 : f ≠ I)
    (hb : bend = 1) (hp : place = (i : Int)) (hi : qs.length = i) (hdl : ds.length = qs.length) (hP : PairsIn w tl vs q.2) :
    Mid w g L m ((f, listOf vs.toArray nn) :: pre) I d ld tl bend place i qs q ds B s .next { s with heap := h', toks := tk } := by
  have far : ∀ {x : Addr}, (∀ p ∈ tl, p.1 ≠ x) → t ≠ x → f ≠ x → ∀ p ∈ (t, tup2 (.int (B : Int) tb) (.ref f) nL) :: (f, listOf vs.toArray nn) :: tl, p.1 ≠ x := fun h a b p hp => by
    rcases List.mem_cons.mp hp with rfl | hp
    · exact a
    · rcases List.mem_cons.mp hp with rfl | hp
      · exact b
      · exact h p hp
  refine .mk _ _ _ _ ((t, tup2 (.int (B : Int) tb) (.ref f) nL) :: (f, listOf vs.toArray nn) :: tl) F (fun p hq => N p ?_) hl hm (fun _ h => .tail _ (.tail _ h)) (far hd t1 f1) (far hld t2 f2) (far hI t3 f3) fun dd hB => ?_
  · simp only [List.mem_cons, List.mem_append] at hq ⊢
    grind
  · subst hB
    exact LateIn.here hb hp hi hdl (.head _) (.tail _ (.head _)) (hP.mono fun _ h => .tail _ (.tail _ h))
end Q26
end
-- part QLaw
section
namespace Q26
theorem calm40 : True := by
  w_top off
  trivial
end Q26
open PySem PySem.W PyProof.Rows PySem.Spec PySem.Calls
namespace Q26
theorem take60 (vs : List Value) (ns : List Int) (_h : IntsAre vs (List.map (fun k => k.fmod 99991) (List.take 60 ns))) : (List.map (fun k => k.fmod 99991) (List.take 60 ns)).length ≤ 60 := by
  rw [List.length_map, List.length_take]; omega
local macro_rules | `(tactic| k_steps) => `(tactic| repeat' (first | (k_unfold; (try dsimp only)) | walk1 | (dsimp only; walk1) | (leave1; (try dsimp only)) | fail "no step"))
local macro_rules | `(tactic| k_all) => `(tactic| with_reducible assumption)
local macro_rules | `(tactic| walk_at "eval ListComp") => `(tactic| (with_reducible refine stop_here ?_))
local macro_rules | `(tactic| walk_at "eval ListComp") => `(tactic| (k_here; (with_reducible show wpAny _ _ (PySem.eval (PySem.Expr.ListComp (PySem.Expr.Name (PySem.Str.ofString "written") _) _ _ _) _) _ _ _); k_dflt (refine' comp_snd ?F ?X ?N ?hax ?P ?hsg ?hlen ?hit ?_ ?c1 ?c2 ?c3 ?c4 ?c5 ?c6 ?c7 ?c8 ?c9 ?c10; (case F => k_asm); (case X => k_asm); (case N => k_asm); (case c1 => rfl); (case c2 => rfl); (case c3 => with_unfolding_all rfl); (case c4 => decide); (case c5 => rfl); (case c6 => decide); (case c7 => rfl); (case c8 => rfl); (case c9 => decide); (case c10 => decide); (case hit => (intro Q9 q9; k_steps; exact q9)); (case hax => k_mem); (case P => (refine PairsIn.mono (by assumption) (fun q9 hq9 => ?_); (repeat (first | exact hq9 | apply List.mem_cons_of_mem)))); (case hsg => assumption); (case hlen => assumption)); intro D9 h9 tk9 l9 e9 j9 b9 F9 N9 o9; (try k_sweep)))
local macro_rules | `(tactic| walk_at "eval ListComp") => `(tactic| (k_here; (with_reducible show wpAny _ _ (PySem.eval (PySem.Expr.ListComp (PySem.Expr.Name (PySem.Str.ofString "meant") _) _ _ _) _) _ _ _); k_dflt (refine' comp_fst ?F ?X ?N ?hax ?P ?hsg ?hlen ?hit ?_ ?c1 ?c2 ?c3 ?c4 ?c5 ?c6 ?c7 ?c8 ?c9 ?c10; (case F => k_asm); (case X => k_asm); (case N => k_asm); (case c1 => rfl); (case c2 => rfl); (case c3 => with_unfolding_all rfl); (case c4 => decide); (case c5 => rfl); (case c6 => decide); (case c7 => rfl); (case c8 => rfl); (case c9 => decide); (case c10 => decide); (case hit => (intro Q9 q9; k_steps; exact q9)); (case hax => k_mem); (case P => (refine PairsIn.mono (by assumption) (fun q9 hq9 => ?_); (repeat (first | exact hq9 | apply List.mem_cons_of_mem)))); (case hsg => assumption); (case hlen => assumption)); intro D9 h9 tk9 l9 e9 j9 b9 F9 N9 o9; (try k_sweep)))
local macro_rules | `(tactic| walk_at "CompSrc") => `(tactic| ((with_reducible show LCg.CompSrc _ _ _ _ _ _ _ _ (PySem.Str.ofString "turn") _ _ _ _ _); (with_reducible refine stop_here ?_)))
local macro_rules | `(tactic| walk_at "CompEnd") => `(tactic| ((with_reducible show LCg.CompEnd _ _ _ _ _ _ _ _ _ _ _ (fun _ _ => LeadInv _ _ _ _ _ _ _ _ _ _ _ _ _ _ _ _ _ _) _ _); (with_reducible refine stop_here ?_)))
local macro_rules | `(tactic| walk_at "last subscriptTail") => `(tactic| ((with_reducible show wpAny _ _ (subscriptTail _ _ (PySem.Value.ref _) (PySem.Value.int _ _)) _ _ _); (with_reducible refine stop_here ?_)))
local macro_rules | `(tactic| walk_at "subscriptTail") => `(tactic| ((with_reducible show wpAny _ _ (subscriptTail _ _ (PySem.Value.ref _) (PySem.Value.int _ _)) _ _ _); (with_reducible refine stop_here ?_)))
local macro_rules | `(tactic| walk_at "subscriptTail Tuple") => `(tactic| ((with_reducible show wpAny _ _ (subscriptTail _ _ (PySem.Value.ref _) (PySem.Value.int _ _)) _ _ _); (with_reducible refine stop_here ?_)))
local macro_rules | `(tactic| walk_at "subscriptTail Tuple Call") => `(tactic| ((with_reducible show wpAny _ _ (subscriptTail _ _ (PySem.Value.ref _) (PySem.Value.int _ _)) _ _ _); (with_reducible refine stop_here ?_)))
local macro_rules | `(tactic| walk_at "subscriptTail Tuple Call ref") => `(tactic| ((with_reducible show wpAny _ _ (subscriptTail _ _ (PySem.Value.ref _) (PySem.Value.int _ _)) _ _ _); (with_reducible refine stop_here ?_)))
local macro_rules | `(tactic| walk_at "subscriptTail Tuple Call ref int") => `(tactic| ((with_reducible show wpAny _ _ (subscriptTail _ _ (PySem.Value.ref _) (PySem.Value.int _ _)) _ _ _); (with_reducible refine stop_here ?_)))
local macro_rules | `(tactic| walk_at "call builtin:str.join") => `(tactic| ((rename News _ _ _ ((_, LCg.lst _) :: _) => Nj9); k_dflt (refine' join_use2 Nj9 ?k3 ?k4 ?k5 ?_; (case k3 => assumption); (case k4 => assumption); (case k5 => assumption)); intro S9 t9 k9 c9 b9 Nn9; clear Nj9))
local macro_rules | `(tactic| walk_at "subscriptTail Name") => `(tactic| ((with_reducible show wpAny _ _ (subscriptTail _ _ (PySem.Value.ref _) (PySem.Value.int _ _)) _ _ _); (with_reducible refine stop_here ?_)))
local macro_rules | `(tactic| walk_at "subscriptTail Subscript") => `(tactic| ((with_reducible show wpAny _ _ (subscriptTail _ _ (PySem.Value.ref _) (PySem.Value.int _ _)) _ _ _); (with_reducible refine stop_here ?_)))
local macro_rules | `(tactic| walk_at "subscriptTail Name UnaryOp") => `(tactic| ((with_reducible show wpAny _ _ (subscriptTail _ _ (PySem.Value.ref _) (PySem.Value.int _ _)) _ _ _); (with_reducible refine stop_here ?_)))
local macro_rules | `(tactic| walk_at "subscriptTail Name UnaryOp ref") => `(tactic| ((with_reducible show wpAny _ _ (subscriptTail _ _ (PySem.Value.ref _) (PySem.Value.int _ _)) _ _ _); (with_reducible refine stop_here ?_)))
local macro_rules | `(tactic| walk_at "subscriptTail Name UnaryOp ref int") => `(tactic| ((with_reducible show wpAny _ _ (subscriptTail _ _ (PySem.Value.ref _) (PySem.Value.int _ _)) _ _ _); (with_reducible refine stop_here ?_)))
local macro_rules | `(tactic| walk_at "subscriptTail Subscript Constant") => `(tactic| ((with_reducible show wpAny _ _ (subscriptTail _ _ (PySem.Value.ref _) (PySem.Value.int _ _)) _ _ _); (with_reducible refine stop_here ?_)))
local macro_rules | `(tactic| walk_at "subscriptTail Subscript Constant ref") => `(tactic| ((with_reducible show wpAny _ _ (subscriptTail _ _ (PySem.Value.ref _) (PySem.Value.int _ _)) _ _ _); (with_reducible refine stop_here ?_)))
local macro_rules | `(tactic| walk_at "subscriptTail Subscript Constant ref int") => `(tactic| ((with_reducible show wpAny _ _ (subscriptTail _ _ (PySem.Value.ref _) (PySem.Value.int _ _)) _ _ _); (with_reducible refine stop_here ?_)))
local macro_rules | `(tactic| walk_at "setItem ref int") => `(tactic| (with_reducible refine stop_here ?_))
local macro_rules | `(tactic| walk_at "setItem") => `(tactic| (with_reducible refine stop_here ?_))
local macro_rules | `(tactic| walk_at "subscriptTail Name UnaryOp ref int") => `(tactic| (k_here; k_dflt (refine' last_get ?N ?m ?l ?_; (case N => k_asm); (case m => k_mem); (case l => assumption))))
local macro_rules | `(tactic| walk_at "setItem ref int") => `(tactic| (k_here; k_dflt (refine' last_set ?F ?N ?U ?l ?_; (case F => k_asm); (case N => k_asm); (case U => k_updF); (case l => assumption)); intro h9 F9 N9; (try dsimp only at N9); (try k_sweep)))
local macro_rules | `(tactic| walk_at "subscriptTail Subscript") => `(tactic| (k_here; k_dflt (refine' item_tupleT ?t ?a ?b ?c ?d ?_; (case t => exact News.isTup (by k_asm) (by k_mem)); (case a => decide); (case b => decide); (case c => rfl); (case d => rfl))))
local macro_rules | `(tactic| walk_at "pyIter ref") => `(tactic| (with_reducible refine stop_here ?_))
local macro_rules | `(tactic| walk_at "call type:range") => `(tactic| ((rename Fr _ _ _ _ => F'); (rename News _ _ _ _ => N'); (with_unfolding_all refine range1_rows F' N' ?_); intro h9 tk9 t9 u9 v9 R9 F9 N9 K9))
local macro_rules | `(tactic| walk_at "call ref") => `(tactic| (with_reducible refine stop_here ?_))
local macro_rules | `(tactic| walk_at "call ref") => `(tactic| (k_here; (with_reducible show wpAny _ _ (PySem.call (Value.ref 165) [Value.ref _, Value.int _ _]) _ _ _); k_dflt (refine' thrown_use ?B ?F ?X ?N ?T ?hk ?U ?hc ?hdc ?hi ?hlen ?hat ?hat2 ?hm ?hm2 ?hd ?hu ?_; (case B => k_asm); (case F => k_asm); (case X => k_asm); (case N => k_asm); (case T => k_asm); (case hk => exact rfl); (case U => k_updF); (case hc => k_mem); (case hdc => assumption); (case hi => assumption); (case hlen => assumption); (case hat => omega); (case hat2 => omega); (case hm => omega); (case hm2 => omega); (case hd => ktr_room); (case hu => ktr_units)); intro v9 t9 h9 tk9 ta9 v90 v91 F9 N9; (try dsimp only at N9); (try k_sweep)))
local macro_rules | `(tactic| walk_at "call builtin:len") => `(tactic| (k_here; (with_reducible show wpAny _ _ (PySem.call (Value.builtin "len") [Value.ref _]) _ _ _); k_dflt (refine' len_use ?N ?m ?k ?l ?_; (case N => k_asm); (case m => k_mem); (case k => assumption); (case l => omega))))
local macro_rules | `(tactic| walk_at "subscriptTail Name Slice ref ref") => `(tactic| (k_here; (with_reducible show wpAny _ _ (subscriptTail _ (PySem.Expr.Slice none (some _) none _) (Value.ref _) (Value.ref _)) _ _ _); k_dflt (refine' kmk_slice_lit ?F ?N ?l ?p ?q ?e ?_ ?s ?t ?z; (case F => k_asm); (case N => k_asm); (case l => exact News.isList (by k_asm) (by k_mem)); (case p => kmk_part); (case q => kmk_part); (case e => exact pick_to (by omega)); (case s => with_unfolding_all rfl); (case t => kmk_pure); (case z => (rw [List.size_toArray, sizeLine_eq]; omega))); intro D9 h9 F9 N9 l9))
local macro_rules | `(tactic| walk_at "subscriptTail Name Slice ref ref") => `(tactic| (k_here; (with_reducible show wpAny _ _ (subscriptTail _ (PySem.Expr.Slice (some _) none none _) (Value.ref _) (Value.ref _)) _ _ _); k_dflt (refine' kmk_slice_lit ?F ?N ?l ?p ?q ?e ?_ ?s ?t ?z; (case F => k_asm); (case N => k_asm); (case l => exact News.isList (by k_asm) (by k_mem)); (case p => kmk_part); (case q => kmk_part); (case e => exact pick_from (by omega)); (case s => with_unfolding_all rfl); (case t => kmk_pure); (case z => (rw [List.size_toArray, sizeLine_eq]; omega))); intro D9 h9 F9 N9 l9))
local macro_rules | `(tactic| walk_at "subscriptTail Name Slice ref ref") => `(tactic| (k_here; (with_reducible show wpAny _ _ (subscriptTail _ (PySem.Expr.Slice none none (some _) _) (Value.ref _) (Value.ref _)) _ _ _); k_dflt (refine' krv_lit ?F ?N ?l ?k ?e ?_ ?s ?t ?z; (case F => k_asm); (case N => k_asm); (case l => exact News.isList (by k_asm) (by k_mem)); (case k => exact IsPart.int _ _); (case e => exact rfl); (case s => with_unfolding_all rfl); (case t => kmk_pure); (case z => (rw [List.size_toArray, sizeLine_eq]; omega))); intro D9 h9 F9 N9 l9))
local macro_rules | `(tactic| walk_at "binaryOp Add ref ref") => `(tactic| (k_here; (with_reducible show wpAny _ _ (binaryOp _ (Value.ref _) (Value.ref _)) _ _ _); k_dflt (refine' kmk_add_lit ?F ?N ?a ?b ?e ?_ ?z; (case F => k_asm); (case N => k_asm); (case a => exact News.isList (by k_asm) (by k_mem)); (case b => exact News.isList (by k_asm) (by k_mem)); (case e => exact rfl); (case z => (simp only [sizeLine_eq, List.length_take, List.length_drop, List.length_append, List.length_reverse, List.length_cons, List.length_nil]; omega))); intro D9 h9 F9 N9 l9))
local macro_rules | `(tactic| walk_at "exec For Tuple BinOp cons nil") => `(tactic| (k_here; (rename Fr _ _ _ _ => lF9); (with_unfolding_all refine' For_turns lF9 ?_)))
local macro_rules | `(tactic| walk_at "compareOp NotEq ref ref") => `(tactic| (k_here; (with_reducible show wpAny _ _ (compareOp CmpOp.NotEq (Value.ref _) (Value.ref _)) _ _ _); k_dflt (refine' ne_pair ?N ?m1 ?m2 ?e1 ?e2 ?ok ?hu ?_; (case N => k_asm); (case m1 => k_mem); (case m2 => k_mem); (case e1 => assumption); (case e2 => assumption); (case ok => assumption); (case hu => ke_room))))
local macro_rules | `(tactic| walk_at "subscriptTail Name") => `(tactic| (k_here; (with_reducible show wpAny _ _ (subscriptTail _ _ (PySem.Value.ref _) (PySem.Value.int _ _)) _ _ _); k_dflt (refine' list_at ?N ?m ?h0 ?hk ?hv ?_; (case N => k_asm); (case m => k_mem); (case h0 => omega); (case hk => omega); (case hv => assumption))))
local macro_rules | `(tactic| walk_at "subscriptTail Name UnaryOp ref int") => `(tactic| (k_here; k_dflt (refine' list_last ?N ?m ?l ?hv ?_; (case N => k_asm); (case m => k_mem); (case l => omega); (case hv => assumption))))
local macro_rules | `(tactic| walk_at "compareOp In int ref") => `(tactic| ((with_reducible show wpAny _ _ (compareOp CmpOp.In (Value.int _ _) (Value.ref _)) _ _ _); k_dflt (first | (refine' in3_yes ?N ?h ?_; (case N => k_asm); (case h => assumption)) | (refine' in3_no ?N ?h ?_; (case N => k_asm); (case h => assumption)))))
local macro_rules | `(tactic| walk_at "execs cons") => `(tactic| ((with_reducible show wpAny _ _ (execs (PySem.Stmt.If (PySem.Expr.BoolOp PySem.BoolOp.And _ _) _ _ _ :: _) _) _ _ _); (with_reducible refine stop_here ?_)))
set_option maxRecDepth 100000 in
set_option maxHeartbeats 8000000 in
theorem law_holds : (PySem.Challenge.rw_pc0026_01).Holds := Q26.hd (by
  k_go0
  all_goals try k_fold
  k_steps
  · refine stop_on ?_
    k_dflt (refine LCg.ListComp_U (F₀ := by k_asm) (by with_unfolding_all rfl) (by decide) (by rfl) (by decide) (by rfl) ?_)
    k_steps
    refine stop_on ?_
    rename IntsAre _ (List.map _ _) => hi8
    rename (@LT.lt Nat _ _ _ ∧ @LT.lt Nat _ _ _ ∧ @LT.lt Nat _ _ _ ∧ @LT.lt Nat _ _ _) => l8
    have hdc8 := l8.1
    have hlen8 := take60 _ _ hi8
    k_steps
    rename World => w
    rename_i v4 t4 h4 tk4 ta4 v40 v41 v3 t3 h3 tk3 ta3 v30 v31 D2 h13 l3 h12 h11 h10 tk1 v2 t2 hh2 tk2 ta2 v20 v21 v1 t1 hh1 tk1' ta1 v10 v11 D1 h9 l2 h8 h7 h6 tk0 ld h5 l1 D h4' l0 h33 h22 h11' h0 F' N' h9' tk9 t9 u9 v9 R9 F9 N9 K9
    clear F' N' K9
    refine stop_on ?_
    refine iter_rangeJ (n := (1 + v4).toNat) (LJ w _ _ _ ld _ _ _ _ _ _ v3 v2) rfl R9 (small_one (by omega) (by omega) (by omega) (by omega)) (by rw [rangeSize_nat]; simp) F9 (loop_start N9) ⟨fun _ _ _ => rfl, Str.ofString "", _, .none, _, _, [], 0, [], [], [], rfl, rfl, rfl, by omega, by omega, .nil, trivial, (fun _ h => nomatch h), rfl, by decide, .inl ⟨rfl, by omega⟩, (fun _ h => nomatch h), (fun _ h => nomatch h)⟩ ?turn ?done
    case turn =>
      rintro i t m₁ nx h tk I io hin ⟨hJm, txt, tt, lv, at', ta', dvs, nd, tl, qs, ds, htx, hlv, rfl, hat0, hat1, hdi, hdo, hgd, hql, htb, hlate, htd, htl⟩ hI F2 N2
      rw [over3n hJm htx hlv] at F2
      clear F9 N9 R9
      have hI1 : @Ne Nat ld I := hI _ (.head _)
      have hI2 := toN (hI _ (.tail _ (.head _)))
      have hI3 := toN (hI _ (.tail _ (.tail _ (.head _))))
      have hI4 := toN (hI _ (.tail _ (.tail _ (.tail _ (.head _)))))
      have hI5 := toN (hI _ (.tail _ (.tail _ (.tail _ (.tail _ (.head _))))))
      dsimp only at hI2 hI3 hI4 hI5
      have hI6 : ∀ p ∈ tl, p.1 ≠ I := fun p hp => hI _ (.tail _ (.tail _ (.tail _ (.tail _ (.tail _ hp)))))
      show wpAny _ _ _ _ _ _
      k_fold
      k_steps
      refine stop_on ?_
      k_dflt (refine LCg.ListComp_U (F₀ := by k_asm) (by with_unfolding_all rfl) (by decide) (by rfl) (by decide) (by rfl) ?_)
      k_steps
      rename_i vv tv hv tkv tav vv0 vv1 Fv Nv h9r tk9r t9r u9r v9r R7 F7 N7 K7
      clear K7
      refine stop_on ?_
      refine LCg.CompSrc.range (n := vv.toNat) rfl F7 N7 R7 (small_one (by omega) (by omega) (by omega) (by omega)) (by rw [rangeSize_nat]; simp) (by rw [sizeLine_eq]; omega) (fun g => ?_)
      refine rest_ind (LeadInv I io ld _ _ _ _ _ _ _ _ _ tl (at' + 1)) ?step ?fin ⟨[], _, _, rfl, rfl, by omega, by omega, (fun _ h => nomatch h), rfl⟩
      case step =>
        rintro k j ys' news' ⟨l, at2, ta2, rfl, rfl, hat2, hk2, hl1, hll⟩ v I2 oI2 C2 oC2 Da2 m2 h2x tk2x E' hP hoC hmx F6 N6 off6 ne6
        clear F2 N2 F7 N7 R7 Fv Nv
        have hof : ∀ p ∈ tl, p.1 ≠ I2 ∧ p.1 ≠ C2 ∧ p.1 ≠ Da2 := fun p hp => LCg.Off3.mem off6 p (.tail _ (.tail _ (.tail _ (.tail _ (.tail _ (.tail _ hp))))))
        have off6' := stop_on off6
        simp only [LCg.Off3] at off6
        obtain ⟨hd1, hd2, hd3⟩ := off6.2.2.1
        clear off6
        clear hI1 hI3 hI4 hI5 ne6
        k_steps
        refine stop_on ?_
        rename News _ _ _ _ => N5
        rename Fr _ _ _ _ => F5
        refine item5 N5 (by k_mem) (by omega) (by omega) ⟨by decide, by decide, by decide, by decide, by decide⟩ (fun S tS hS => ?_)
        k_steps
        refine stop_on ?_
        exact lead_step F5 N5 off6' (by omega) hk2 hl1 hll hS
      case fin =>
        rintro j ys' news' ⟨l, at2, ta2, rfl, rfl, hat2, hk2, hl1, hll⟩ D6 h6 tk6 F6 N6 off6
        clear F2 N2 F7 N7 R7 Fv Nv
        have hbs : ((l.map (·.1)).map (·.length)).sum ≤ 2 := by rw [sum_ones hl1]; omega
        have hjk : JoinOk (Str.ofString "") (l.map (·.1)) = true := joinOk_of (Nat.le_trans hbs (by omega))
        have hle : l.map (·.1) = l.map (·.1) := rfl
        have hD6 : ∀ p ∈ tl, p.1 ≠ D6 := off3_tl off6
        have htxl : txt.length ≤ 64 := by
          have hbl := body_len hgd
          have : txt.length = (body qs).length := by rw [← htb]; simp [Str.length]
          omega
        clear off6 hI3 hI4 hI5
        k_steps
        refine stop_on ?_
        k_dflt (refine' signs_use ?B ?F ?X ?N ?T ?hk ?U ?hc ?hdc ?hi ?hlen ?hat ?hat2 ?hm ?hm2 ?hd ?hu ?_; (case B => k_asm); (case F => k_asm); (case X => k_asm); (case N => k_asm); (case T => k_asm); (case hk => exact rfl); (case U => k_updF); (case hc => k_mem); (case hdc => assumption); (case hi => assumption); (case hlen => assumption); (case hat => omega); (case hat2 => omega); (case hm => omega); (case hm2 => omega); (case hd => ktr_room); (case hu => ktr_units))
        intro f9 vs9 nn9 sg9 tl9 h9' tk9' ta9' at9 hat9 F9 N9 P9 hsg9 hsl9 lf9 ltl9
        have N10 := sig_start N9
        obtain ⟨tl', htle⟩ : ∃ x, x = tl9 ++ tl := ⟨_, rfl⟩
        have hfI := lf9 _ (.head _)
        have hfl := lf9 _ (.tail _ (.head _))
        have hfd := lf9 _ (.tail _ (.tail _ (.head _)))
        dsimp only at hfI hfl hfd
        have htd' := sig_far ltl9 hfd htd
        have htl' := sig_far ltl9 hfl htl
        have htI' := sig_far ltl9 hfI hI6
        have hdi' : DuesIn (tl9 ++ tl) dvs ds := hdi.mono (fun q hq => List.mem_append_right _ hq)
        have hP' : PairsIn w (tl9 ++ tl) vs9 sg9 := P9.mono (fun q hq => List.mem_append_left _ hq)
        have hsub : ∀ q ∈ tl, q ∈ tl9 ++ tl := fun q hq => List.mem_append_right _ hq
        rw [← htle] at N10 htd' htl' htI' hdi' hP' hsub
        have hsl6 : sg9.length ≤ 6 := by omega
        have hdvl : dvs.length = i := by rw [hdi.length, hdo.length, hql]
        clear N9 P9 lf9 ltl9 htle hD6
        have hdvl' : dvs.length ≤ 2000 := by omega
        k_steps
        refine stop_on ?_
        rename News _ _ _ _ => N5
        rename Fr _ _ _ _ => F5
        rename Str => S5
        refine cut_mid (pre := [_, _, _, _, _, _, _]) (bend := v3) (place := v2) (i := i) (qs := qs) (q := (S5.cps.toList, sg9)) (ds := ds) (B := (txt ++ S5).length) F5 N5 htd' htl' htI' ?mif ?mrest
        case mif =>
          k_steps
          all_goals (rename News _ _ _ _ => N4; rename Fr _ _ _ _ => F4)
          · exact mid_here F4 N4 rfl (fun y h => by simp only [if_neg h]) htd' htl' htI' (by k_ne) (by k_ne) (by k_ne) (by k_ne) (by k_ne) (by k_ne) (by assumption) (by omega) hql hdo.length hP'
          · exact mid_same F4 N4 rfl htd' htl' htI' hlate hsub hql (by omega) (by omega) hdo.length
          · exact mid_same F4 N4 rfl htd' htl' htI' hlate hsub hql (by omega) (by omega) hdo.length
        case mrest =>
          rintro s₂ ⟨h8, tk8, m8, lv9, tl5, F8, N8, hl9, hm9, hsb9, hd9, hld9, hI9, hlt9⟩
          rw [over_late hl9 hm9] at F8
          dsimp only [List.cons_append, List.nil_append] at N8
          try dsimp only at F8
          have hP9 := hP'.mono hsb9
          have hdi9 := hdi'.mono hsb9
          clear N5 F5 hP' hdi' htd' htl' htI' hsub hlate hl9 hm9 hsb9
          k_steps
          rename News _ _ _ _ => N5
          rename Fr _ _ _ _ => F5
          exact turn_end (own := [_, _, _, _, _]) F5 N5 (fun y h1 h2 => by simp only [if_neg h1, if_neg (not3 h2).1, if_neg (not3 h2).2.1, if_neg (not3 h2).2.2]) rfl rfl (by intro p hp; simp only [List.mem_cons, List.not_mem_nil, or_false] at hp; rcases hp with rfl | rfl | rfl | rfl | rfl <;> (refine ⟨?_, ?_, ?_⟩ <;> k_ne)) hd9 hld9 hI9 (hI _ (.head _)) (hI _ (.tail _ (.head _))) (hI _ (.tail _ (.tail _ (.head _)))) (hI _ (.tail _ (.tail _ (.tail _ (.head _))))) (hI _ (.tail _ (.tail _ (.tail _ (.tail _ (.head _)))))) (by omega) (by omega) (.head _) (.tail _ (.head _)) (mnt_of (by assumption)) (enc_of (by assumption)) (by assumption) hsg9 hsl6 hdi9 hdo hgd hql htb ((hlt9 _ rfl).sub fun q hq => List.mem_append_right _ hq)
    case done =>
      rintro m₁ nx h tk ⟨hJm, txt, tt, lv, at', ta', dvs, nd, tl, qs, ds, htx, hlv, rfl, hat0, hat1, hdi, hdo, hgd, hql, htb, hlate, htd, htl⟩ F2 N2
      rw [over3 hJm htx hlv] at F2
      clear F9 N9 R9
      show wpAny _ _ _ _ _ _
      refine cut_if F2 N2 ?ifq9 ?rest9
      case ifq9 =>
        rcases hlate with ⟨rfl, hnb⟩ | ⟨hb1, hpl, tL, nL, tbL, fl, nl, fvs, q, dd, rfl, b1, b2, b3, b4, b5⟩
        · k_steps
          exact ready_none F2 N2 rfl rfl hat0 (by omega) hdi hdo hgd (by omega) (by omega) htb htd (by k_ne)
        · obtain ⟨tl₂, t1, n1, tb, t2, n2, tm, te, z1, m1', zb, z2, m2', zm, ze, e, N3, hdi3, b3', hsub, hsc, x1, x2, c1, c2, c3, c4, c5, c6, c7⟩ := late_prep N2 (by assumption) hdi hdo htb (by omega) b1 b2 b3 b5
          rename (_ ≠ _ ∧ _ ≠ _ ∧ _ ≠ _) => o1
          have hld := toN (Nat.ne_of_gt l1.2.2.1)
          have cS := stop_on (And.intro c1 (And.intro c6 (And.intro c7 (And.intro l8 (And.intro o1 hld)))))
          have hq4 : qs.length ≤ 4 := by omega
          have hgq : Good q := hgd q (by obtain ⟨z1, z2⟩ := List.getElem?_eq_some_iff.mp b4; rw [← z2]; exact List.getElem_mem z1)
          have hgq1 := hgq.1
          have hgq2 := hgq.2.1
          have hbl := body_len hgd
          have hbl2 : txt.length ≤ 64 := by rw [str_len, htb]; omega
          have hdl : dvs.length ≤ 4 := by rw [hdi3.length, hdo.length]; exact hq4
          have hpl2 : v2 < 4 := by omega
          have hway : v1 < 5 := v11
          have htd2 : ∀ p ∈ tl₂, _ := fun p hp => htd p (hsub p hp)
          have htd3 := stop_on htd2
          have hb12 := due_bounds hdo b5
          rw [Nat.zero_add, ← htb] at hb12
          have hr1 : (Txt.slice txt (some (dd.2.2 : Int)) none).length ≤ 64 := Nat.le_trans (Txt.slice_le _ _ _) hbl2
          have hr2 : (Txt.slice txt none (some (dd.1 : Int))).length ≤ 64 := Nat.le_trans (Txt.slice_le _ _ _) hbl2
          have hS2 := stop_on (And.intro hbl2 (And.intro hb12 (And.intro hq4 (And.intro hgd (And.intro htb (And.intro b4 (And.intro b5 (And.intro hdo htd3))))))))
          clear N2 b1 b2 b3 c1 c2 c3 c4 c5 c6 c7 l0 l1 l2 l3 l8 o1 hld hdi hdc8 hlen8 hi8 hgd htb b4 b5 hdo htd htl htd2 htd3 hb12 hbl hgq hq4 hsub hql
          k_steps
          refine stop_on ?_
          k_dflt (refine' bent_use ?B ?F ?X ?N ?hf ?T ?hk ?P ?hsg ?hlen ?hw0 ?hw5 ?hrest ?hd ?hu ?_; (case B => k_asm); (case F => k_asm); (case X => k_asm); (case N => k_asm); (case hf => k_mem); (case T => k_asm); (case hk => exact rfl); (case P => (refine PairsIn.mono (by assumption) (fun q9 hq9 => ?_); (repeat (first | exact hq9 | apply List.mem_cons_of_mem)))); (case hsg => assumption); (case hlen => assumption); (case hw0 => assumption); (case hw5 => assumption); (case hrest => omega); (case hd => ktr_room); (case hu => ktr_units))
          intro r S tS e9 te9 n9 h9 tk9 hS9 he9 F9 N9 l9
          try dsimp only at N9
          have hS9l := bent_small hgq1 hgq2 hS9 hr1
          have hrd := l9 _ (.tail _ (.head _))
          have hrs := l9 _ (.tail _ (.tail _ (.tail _ (.head _))))
          have hS3 := stop_on (And.intro hrd (And.intro hrs (And.intro hS9 he9)))
          have N8 := late_mid N9
          clear N9 l9 hrd hrs hS9 he9 x1 b3' hgq1 hgq2
          iterate 37 (first | (k_unfold; (try dsimp only)) | walk1 | (dsimp only; walk1) | (leave1; (try dsimp only)))
          by_cases hw3 : v1 = 0 ∨ v1 = 2 ∨ v1 = 3
          · k_steps
            obtain ⟨c1, c6, c7, l8, o1, hld⟩ : _ ∧ _ ∧ _ ∧ _ ∧ _ ∧ _ := cS
            obtain ⟨hrd, hrs, hS9, he9⟩ : _ ∧ _ ∧ _ ∧ _ := hS3
            dsimp only at hrd hrs
            rename News _ _ _ _ => N7
            rename Fr _ _ _ _ => F7
            refine shift_store F7 N7 (by assumption) (Nat.ne_of_gt hrs) c1 (Nat.ne_of_gt l8.2.2.1) (Ne.symm o1.2.1) (Nat.ne_of_lt (Nat.lt_succ_self _)) c6 c7 hsc ?_
            intro h7 o7 F8 N8 d8
            clear F7 N7
            have hS2' := hS2
            obtain ⟨g1, g2, g3, g4, g5, g6, g7, g8, g9⟩ : _ ∧ _ ∧ _ ∧ _ ∧ _ ∧ _ ∧ _ ∧ _ ∧ _ := hS2'
            obtain ⟨sh, hsh⟩ := late_shift g4 g8 g5 g6 g7 v10 hway hS9 hw3
            obtain ⟨tsh, d9⟩ : ∃ ts, o7.data = .cell (some (.int (sh : Int) ts)) := ⟨_, by rw [← hsh]; exact d8⟩
            clear d8 g1 g2 g3 g4 g5 g6 g7 g8 g9
            have hsh' := stop_on hsh
            clear hsh
            k_steps
            refine stop_on ?_
            rename Fr _ _ _ _ => F6
            refine comp_nestedF F6 (by rfl) (by with_unfolding_all rfl) (by decide) (by rfl) (by decide) (by rfl) (by rfl) (by rfl) (by decide) (by decide) (by decide) ?_
            k_steps
            rename News _ _ _ _ => N5
            rename Fr _ _ _ _ => F5
            obtain ⟨g1, g2, g3, g4, g5, g6, g7, g8, g9⟩ : _ ∧ _ ∧ _ ∧ _ ∧ _ ∧ _ ∧ _ ∧ _ ∧ _ := hS2
            obtain ⟨nw0, N4, i0⟩ := ShInv.start (sh := sh) N5 hdi3 (paired_drop hdi3 _) g9
            refine ⟨_, _, _, nw0, rfl, F5, N4, by rw [List.length_drop]; omega, _, i0, ShInv.keep, ?stp, ?fin⟩
            case stp =>
              rintro i9 ys9 nw9 u9 hI hv
              obtain ⟨x9, tb9, tm9, te9', hx9, hn9⟩ := hI.nest hv
              refine ⟨_, _, _, hn9, ?_⟩
              intro I3 oI3 C3 oC3 D3 m3 h3 tk3 E3 hoC hm1 hm2 hm3 F4' N4' off4 ne4
              have hI' := stop_on hI
              obtain ⟨tlx, rfl, y1, y2, y3, y4⟩ := hI
              clear N4 N5 F5
              k_steps
              rename News _ _ _ _ => N5
              rename Fr _ _ _ _ => F5
              exact shift_step hI' hx9 off4 F5 N5 rfl rfl (by k_ne) (by k_ne) (by k_ne) (by k_ne) (by k_ne) (by k_ne) (by k_ne) (by k_ne)
            case fin =>
              intro ys9 nw9 hI D3 h3 tk3 F4' N4' off4
              obtain ⟨tlx, rfl, y1, y2, y3, y4⟩ := hI
              have hys : ys9.length ≤ 4 := by
                rw [y3.length]
                simp only [List.length_map, List.length_take, List.length_drop]
                rw [← hdi3.length]
                omega
              clear N4 N5 F5
              k_steps
              rename News _ _ _ _ => N5
              rename Fr _ _ _ _ => F5
              have ys3 := full_shift (by omega) hdi3.length y3
              subst he9
              exact late_end (S := S) F5 (late_news N5) rfl rfl hat0 (by omega) y1 ys3 g8 g4 g3 g5 g6 g7 v10 hway hS9 (.inr ⟨hw3, (hsh' : _ = _).symm, rfl⟩) y4 (by k_ne) (by k_ne) (above_of (by assumption) (by exact .tail _ (.tail _ (.tail _ (.tail _ (.tail _ (.tail _ (.tail _ (.tail _ (.tail _ (.head _)))))))))))
          · k_steps
            obtain ⟨c1, c6, c7, l8, o1, hld⟩ : _ ∧ _ ∧ _ ∧ _ ∧ _ ∧ _ := cS
            obtain ⟨hrd, hrs, hS9, he9⟩ : _ ∧ _ ∧ _ ∧ _ := hS3
            dsimp only at hrd hrs
            rename News _ _ _ _ => N7
            rename Fr _ _ _ _ => F7
            refine shift_store F7 N7 (by assumption) (Nat.ne_of_gt hrs) c1 (Nat.ne_of_gt l8.2.2.1) (Ne.symm o1.2.1) (Nat.ne_of_lt (Nat.lt_succ_self _)) c6 c7 hsc ?_
            intro h7 o7 F8 N8 d8
            clear F7 N7
            k_steps
            rename News _ _ _ _ => N5
            rename Fr _ _ _ _ => F5
            obtain ⟨g1, g2, g3, g4, g5, g6, g7, g8, g9⟩ : _ ∧ _ ∧ _ ∧ _ ∧ _ ∧ _ ∧ _ ∧ _ ∧ _ := hS2
            subst he9
            exact late_end (S := S) (bvs := []) (bds := []) (sh := 0) F5 (late_newsB N5) rfl rfl hat0 (by omega) hdi3 .nil g8 g4 g3 g5 g6 g7 v10 hway hS9 (.inl rfl) g9 (by k_ne) (by k_ne) (above_of (by assumption) (by exact .tail _ (.tail _ (.tail _ (.tail _ (.tail _ (.tail _ (.tail _ (.tail _ (.tail _ (.head _)))))))))))
      case rest9 =>
        rintro s₂ ⟨-, h', tk', m', txt', tt', ld', nd', dvs', ds', at9, ta9, tl', rfl, F5, N5, h1, h2, h3, h4, h5, h6, h7, h8, h9, h10, h11⟩
        clear F2 N2
        rw [over2 h1 h2] at F5
        have hdl : dvs'.length = ds'.length := h5.length
        k_steps
        refine stop_on ?_
        refine scanner_make (by k_asm) (by k_asm) (by k_asm) (by k_asm) (by k_asm) rfl (by ktr_room) (by ktr_units) ?_
        intro x9 dx9 h19 h29 k19 k29 t29 ts9 h9 tk9 xd9 xn9 F9 N9
        have xl1 := xn9 _ (.head _)
        have xl2 := xn9 _ (.tail _ (.head _))
        have xl3 := xn9 _ (.tail _ (.tail _ (.head _)))
        have xl4 := xn9 _ (.tail _ (.tail _ (.tail _ (.head _))))
        dsimp only at xl1 xl2 xl3 xl4
        clear F5 N5
        have hdl2 : dvs'.length ≤ 4 := by omega
        k_steps
        refine stop_on ?_
        rename News _ _ _ _ => N8
        rename Fr _ _ _ _ => F8
        have hxd : @LT.lt Nat _ dx9 x9 := xd9
        have htldx : ∀ p ∈ tl', p.1 ≠ dx9 := fun p hp => Nat.ne_of_lt (xn9 p (.tail _ (.tail _ (.tail _ (.tail _ hp)))))
        have N7 := tail_start N8
        clear N8
        have hDx := ne_kinds N7 (.head _) (.tail _ (.tail _ (.head _))) rfl rfl
        refine iter_listTurns rfl F8 N7 (.head _) rfl rfl (fun I hI => ?_)
        refine items_ind (P := DueOK txt' tl') (TailInv _ _ x9 dx9 _ h19 h29 k19 k29 t29 txt' tl') ?turn9 ?fin9 _ (dues_all (dues_ok h5 h6)) ⟨fun _ _ _ => rfl, _, _, rfl⟩
        case turn9 =>
          rintro v m₁ nx h tk io ⟨hm9, sp9, ts9', rfl⟩ F7 N7' ⟨de, ⟨t1, n1, tb, t2, n2, tm, te, rfl, a1, a2⟩, hfit, hok⟩
          clear F8 N7
          rw [over_ht hm9] at F7
          have hI1 := toN (Nat.ne_of_lt (hI _ (.head _)))
          have hI2 := toN (Nat.ne_of_lt (hI _ (.tail _ (.head _))))
          have hI3 := toN (Nat.ne_of_lt (hI _ (.tail _ (.tail _ (.head _)))))
          have hI4 := toN (Nat.ne_of_lt (hI _ (.tail _ (.tail _ (.tail _ a1)))))
          have hI5 := toN (Nat.ne_of_lt (hI _ (.tail _ (.tail _ (.tail _ a2)))))
          have hd1 := toN (htldx _ a1)
          have hd2 := toN (htldx _ a2)
          dsimp only at hI1 hI2 hI3 hI4 hI5 hd1 hd2
          have N6 := turn_start N7' a1 a2
          clear N7'
          k_steps
          refine stop_on ?_
          k_dflt (refine' asked_use ?B ?F ?X ?N ?T ?hk ?hx ?U ?hxd ?hb ?hlen ?hd ?hu ?_; (case B => k_asm); (case F => k_asm); (case X => k_asm); (case N => k_asm); (case T => k_asm); (case hk => exact rfl); (case hx => k_mem); (case U => k_updF); (case hxd => assumption); (case hb => exact hfit.2); (case hlen => assumption); (case hd => ktr_room); (case hu => ktr_units))
          intro r S tS e9 te9 n9 h10' tk10 sp2 ts2 hA F9 N9 l9
          obtain ⟨hS9, he9⟩ := hA.same hfit.1
          have he9' : ((e9 : Nat) : Int) = ((de.2.2 : Nat) : Int) := congrArg _ he9
          have hok9 : PyData.strOk S = true := by rw [hS9]; exact hok
          try dsimp only at N9
          clear l9 hA
          k_steps
          · rename ((txt' != txt') = true) => hbad
            exact absurd hbad str_ne_self
          · rename News _ _ _ _ => N4
            rename Fr _ _ _ _ => F4
            exact tail_turn_end F4 N4 hI (fun y a b => by simp only [if_neg a, if_neg b])
        case fin9 =>
          intro m₁ nx h tk hin F7 N7'
          show wpAny _ _ _ _ _ _
          clear hin
          k_steps
          dsimp only
          k_end
          kc_close)
end Q26
end
open PySem PySem.W PyProof.Rows
theorem PySem.Challenge.cw_pc0026_01_holds : PySem.Challenge.rw_pc0026_01.Holds :=
  Q26.law_holds
