import PyProof.Rows.All
import Wide.All
import OpenK.AllK
import Wide.FinOn
import KE.KNestM
import KE.KLam
import HandS.ForMost
import HandS.ForExc
import HandS.Finally
import HandS.Lambda
import HandS.EndTab
import HandS.Deep
import HandS.TupAny
import HandS.Zip
import HandS.DictComp
import HandS.Defaults
import HandS.IsInst
import HandS.Style
import HandS.ExcInit
import HandS.OwnEq
import HandS.SortOrd
import HandS.RaiseMore
import HandS.Small
import PyProof.MinMaxWalk
import KE.KTryMore
import KE.KExcInit
import PyProof.Rows.SortShellAny
import PySem.Challenge.RW_offbyon_k31_whole_a_board_beside_own_pag
set_option Elab.async false
set_option linter.all false
set_option maxRecDepth 100000
set_option maxHeartbeats 400000
/-! OA: own rules: walked lists or tuples, min and max of texts, texts in pairs sorted -/
namespace Ob
open PySem PySem.Spec PyProof.Rows L2
/-! ### the text -/
def top (i : Nat) : Stmt := PySem.Challenge.pw_offbyon_k31_whole_a_board_beside_own_pag.main.body.getD i (.Pass ⟨0, 0, 0, 0⟩)

/-! ### the order of texts -/
def sltB (x y : Str) : Bool := decide (x.cps.toList < y.cps.toList)

section
variable {X : Cx}
/-! ### a list or a tuple -/
/-- what stands at v is a list or a tuple of these -/
def SqA (K : PySem.W.Frag) (H : Hp) (a : Addr) (xs : List V) : Prop := SqL K H a xs ∨ SqT K H a xs
def iSeq (K : PySem.W.Frag) (te : TE) : TI := fun σ H R => iList K te σ H R ∨ iTup K te σ H R
theorem pi_seq {tg e : Expr} {te : TE} (he : PE X e te) : PI X tg e (iSeq X.K te) :=
  ⟨fun pins s σ H R I h => h.elim (fun h => (pi_list he).run pins s σ H R I h) fun h => (pi_tup he).run pins s σ H R I h⟩

/-! ### min and max of two texts -/
def pickV (b : Bool) (x y : V) : V := if b = true then y else x
theorem two_texts {prog : Program} {w : World} {A : Around} {s : Shared} {E : Value → Shared → Prop} {Q : Value → Shared → Prop} {op : CmpOp} {nm : String} {a b : Str} {t u : Tok} {bt : Nat → Nat → Bool} (hh : A.handled = none)
    (cmp : CmpOf prog w A.in1 op (fun i v => (#[Value.str a t, Value.str b u] : Array Value)[i]? = some v) bt)
    (rule : ∀ {Q : Value → Shared → Prop}, wpAny (model prog w) A.in1 (pyIter (.ref s.heap.objs.size)) (fun it s2 => ∃ I fp wr n P St bt, it = .ref I ∧ Walks prog w A.in1 I fp wr n P St ∧ St 0 s2.heap ∧ (∀ b ∈ fp, b < s2.heap.objs.size) ∧ 0 < n ∧ CmpOf prog w A.in1 op P bt ∧
      ∀ v h' tk, P (argBest bt (n - 1)) v → (∀ b o, b ∉ wr → s2.heap.get? b = some o → h'.get? b = some o) → Q v { s2 with heap := h', toks := tk }) E
      { s with heap := s.heap.push { cls := .type "tuple", data := .seq #[.str a t, .str b u] } } → wpAny (model prog w) A (call (.builtin nm) [.str a t, .str b u]) Q E s)
    (h : ∀ h' tk, (∀ c o, s.heap.get? c = some o → h'.get? c = some o) → Q (if bt 1 0 = true then .str b u else .str a t) { s with heap := h', toks := tk }) :
    wpAny (model prog w) A (call (.builtin nm) [.str a t, .str b u]) Q E s := by
  let T : Obj := { cls := .type "tuple", data := .seq #[.str a t, .str b u] }
  have hT : (s.heap.push T).IsTuple s.heap.objs.size #[.str a t, .str b u] := ⟨_, Heap.get?_push_size _ rfl, rfl, 0, rfl⟩
  have hsz : (s.heap.push T).objs.size = s.heap.objs.size + 1 := Heap.size_push ..
  refine rule (wpAny_pyIter_tuple hT ?_)
  refine ⟨_, [_, s.heap.objs.size], [_], _, _, _, bt, rfl, Walks.tuple (A := A.in1) hh _ s.heap.objs.size (Nat.ne_of_lt (by rw [hsz]; exact Nat.lt_succ_self _)) #[.str a t, .str b u],
    ⟨⟨_, Heap.get?_push_size _ rfl, rfl, rfl⟩, hT.push _⟩, ?_, Nat.zero_lt_succ 1, cmp, ?_⟩
  · intro c hc
    simp only [List.mem_cons, List.not_mem_nil, or_false] at hc
    show c < ((s.heap.push _).push _).objs.size
    rw [Heap.size_push, hsz]
    rcases hc with e | e
    · rw [e, hsz]; exact Nat.lt_succ_self _
    · rw [e]; exact Nat.lt_succ_of_lt (Nat.lt_succ_self _)
  · intro v h' tk hP hk
    have old : ∀ c o, s.heap.get? c = some o → h'.get? c = some o := fun c o e =>
      hk c o (fun hm => by
        have l := Heap.lt_size e
        simp only [List.mem_cons, List.not_mem_nil, or_false] at hm
        rw [hm, hsz] at l
        exact Nat.lt_irrefl _ (Nat.lt_of_succ_lt l)) (Heap.get?_push_of_some _ (Heap.get?_push_of_some _ e))
    have q := h h' tk old
    have hv : v = if bt 1 0 = true then Value.str b u else Value.str a t := by
      have hP : (#[Value.str a t, Value.str b u] : Array Value)[argBest bt 1]? = some v := hP
      cases hc : bt 1 0 <;> simp [argBest, hc] at hP <;> simp [hP]
    rw [hv]
    exact q
theorem txt_lt {prog : Program} {w : World} {A : Around} {a b : Str} {t u : Tok} :
    CmpOf prog w A .Lt (fun i v => (#[Value.str a t, Value.str b u] : Array Value)[i]? = some v) (fun i j => sltB (if i = 0 then a else b) (if j = 0 then a else b)) := by
  have at_ : ∀ {i : Nat} {v : Value}, (#[Value.str a t, Value.str b u] : Array Value)[i]? = some v → ∃ tk, v = .str (if i = 0 then a else b) tk := by
    intro i v h
    match i, h with
    | 0, h => exact ⟨t, by simpa using h.symm⟩
    | 1, h => exact ⟨u, by simpa using h.symm⟩
    | n + 2, h => simp at h
  intro i j vi vj s Q E hi hj h
  obtain ⟨tk, rfl⟩ := at_ hi
  obtain ⟨tk', rfl⟩ := at_ hj
  exact PySem.P.lt_str h
theorem txt_gt {prog : Program} {w : World} {A : Around} {a b : Str} {t u : Tok} :
    CmpOf prog w A .Gt (fun i v => (#[Value.str a t, Value.str b u] : Array Value)[i]? = some v) (fun i j => sltB (if j = 0 then a else b) (if i = 0 then a else b)) := by
  have at_ : ∀ {i : Nat} {v : Value}, (#[Value.str a t, Value.str b u] : Array Value)[i]? = some v → ∃ tk, v = .str (if i = 0 then a else b) tk := by
    intro i v h
    match i, h with
    | 0, h => exact ⟨t, by simpa using h.symm⟩
    | 1, h => exact ⟨u, by simpa using h.symm⟩
    | n + 2, h => simp at h
  intro i j vi vj s Q E hi hj h
  obtain ⟨tk, rfl⟩ := at_ hi
  obtain ⟨tk', rfl⟩ := at_ hj
  exact PySem.P.gt_str h
theorem call_min2S (hc : X.calm = true) : CallR X (.builtin "min") (fun xs H Q => ∃ i j, xs = [.str i, .str j] ∧ Q (.str (if sltB j i = true then j else i)) H) := by
  intro pins s σ H xs us Q I r h
  obtain ⟨i, j, rfl, q⟩ := h
  obtain ⟨u, w', rfl, ⟨t, rfl⟩, ⟨t', rfl⟩⟩ := vals2 r
  refine two_texts (I.ok.hd hc) txt_lt (fun h => call_min_two h) fun h' tk k => ⟨_, H, I.kept k, ?_, q⟩
  show RelV (.str (if sltB j i = true then j else i)) (if sltB j i = true then Value.str j t' else Value.str i t)
  split
  · exact ⟨_, rfl⟩
  · exact ⟨_, rfl⟩
theorem call_max2S (hc : X.calm = true) : CallR X (.builtin "max") (fun xs H Q => ∃ i j, xs = [.str i, .str j] ∧ Q (.str (if sltB i j = true then j else i)) H) := by
  intro pins s σ H xs us Q I r h
  obtain ⟨i, j, rfl, q⟩ := h
  obtain ⟨u, w', rfl, ⟨t, rfl⟩, ⟨t', rfl⟩⟩ := vals2 r
  refine two_texts (I.ok.hd hc) txt_gt (fun h => call_max_two h) fun h' tk k => ⟨_, H, I.kept k, ?_, q⟩
  show RelV (.str (if sltB i j = true then j else i)) (if sltB i j = true then Value.str j t' else Value.str i t)
  split
  · exact ⟨_, rfl⟩
  · exact ⟨_, rfl⟩
end
end Ob

/-! OB: the order of texts and of pairs of texts; sorted of a list of such pairs -/
namespace Ob
open PySem PySem.Spec PyProof.Rows L2

/-! ### texts -/
theorem slt_iff {x y : Str} : sltB x y = true ↔ x.cps.toList < y.cps.toList := by unfold sltB; exact decide_eq_true_iff
theorem slt_no {x y : Str} : sltB x y = false ↔ y.cps.toList ≤ x.cps.toList := by
  unfold sltB
  rw [decide_eq_false_iff_not]
  exact List.not_lt
theorem str_ext {x y : Str} (h : x.cps.toList = y.cps.toList) : x = y := by
  cases x with | mk a => cases y with | mk b =>
    have : a = b := Array.ext' h
    subst this
    rfl
theorem slt_irr (x : Str) : sltB x x = false := slt_no.mpr (List.le_refl _)
theorem slt_asym {x y : Str} (h : sltB x y = true) : sltB y x = false := slt_no.mpr (List.le_of_lt (slt_iff.mp h))
theorem slt_ntr {x y z : Str} (h : sltB x y = false) (g : sltB y z = false) : sltB x z = false := slt_no.mpr (List.le_trans (slt_no.mp g) (slt_no.mp h))
theorem slt_eq {x y : Str} (h : sltB x y = false) (g : sltB y x = false) : x = y := str_ext (List.le_antisymm (slt_no.mp g) (slt_no.mp h))

/-- one list sorted by lt: there is just one -/
theorem sort_one {α : Type} {lt : α → α → Bool} (asym : ∀ {x y}, lt x y = true → lt y x = false) (ntr : ∀ {x y z}, lt x y = false → lt y z = false → lt x z = false) (eq : ∀ {x y}, lt x y = false → lt y x = false → x = y)
    {l m : List α} (p : l.Perm m) (s : l.Pairwise fun a b => lt b a = false) : l = m.mergeSort (fun a b => !lt b a) := by
  have ss : (m.mergeSort (fun a b => !lt b a)).Pairwise fun a b => lt b a = false := by
    refine List.Pairwise.imp (fun {a b} h => ?_) (List.pairwise_mergeSort (le := fun a b => !lt b a) (fun a b c h g => ?_) (fun a b => ?_) m)
    · cases q : lt b a with
      | false => rfl
      | true => rw [q] at h; cases h
    · have h' : lt b a = false := by cases q : lt b a with | false => rfl | true => rw [q] at h; cases h
      have g' : lt c b = false := by cases q : lt c b with | false => rfl | true => rw [q] at g; cases g
      rw [ntr g' h'] <;> rfl
    · cases q : lt b a with
      | false => rfl
      | true => rw [asym q] <;> rfl
  exact List.Perm.eq_of_pairwise (le := fun a b => lt b a = false) (fun a b _ _ h g => eq g h) s ss (p.trans (List.mergeSort_perm m _).symm)
def sortS (l : List Str) : List Str := l.mergeSort (fun a b => !sltB b a)
theorem sortS_perm (l : List Str) : (sortS l).Perm l := List.mergeSort_perm _ _
theorem sortS_one {l m : List Str} (p : l.Perm m) (s : l.Pairwise fun a b => sltB b a = false) : l = sortS m := sort_one (lt := sltB) slt_asym slt_ntr slt_eq p s
theorem sortS_len (l : List Str) : (sortS l).length = l.length := (sortS_perm l).length_eq
theorem sortS_mem {l : List Str} {x : Str} : x ∈ sortS l ↔ x ∈ l := (sortS_perm l).mem_iff

/-! ### pairs of texts -/
abbrev Pr := Str × Str
def pltB (p q : Pr) : Bool := if p.1 = q.1 then sltB p.2 q.2 else sltB p.1 q.1
theorem plt_asym {p q : Pr} (h : pltB p q = true) : pltB q p = false := by
  unfold pltB at *
  by_cases e : p.1 = q.1
  · rw [if_pos e] at h
    rw [if_pos e.symm]
    exact slt_asym h
  · rw [if_neg e] at h
    rw [if_neg (Ne.symm e)]
    exact slt_asym h
theorem plt_eq {p q : Pr} (h : pltB p q = false) (g : pltB q p = false) : p = q := by
  unfold pltB at *
  by_cases e : p.1 = q.1
  · rw [if_pos e] at h
    rw [if_pos e.symm] at g
    exact Prod.ext e (slt_eq h g)
  · rw [if_neg e] at h
    rw [if_neg (Ne.symm e)] at g
    exact absurd (slt_eq h g) e
theorem plt_ntr {p q r : Pr} (h : pltB p q = false) (g : pltB q r = false) : pltB p r = false := by
  unfold pltB at *
  by_cases e : p.1 = q.1
  · rw [if_pos e] at h
    by_cases f : q.1 = r.1
    · rw [if_pos f] at g
      rw [if_pos (e.trans f)]
      exact slt_ntr h g
    · rw [if_neg f] at g
      rw [if_neg (fun z => f (e.symm.trans z)), e]
      exact g
  · rw [if_neg e] at h
    by_cases f : q.1 = r.1
    · rw [if_neg (fun z => e (z.trans f.symm)), ← f]
      exact h
    · rw [if_neg f] at g
      by_cases z : p.1 = r.1
      · rw [z] at h
        exact absurd (slt_eq h g) (Ne.symm f)
      · rw [if_neg z]
        exact slt_ntr h g
def sortP (l : List Pr) : List Pr := l.mergeSort (fun a b => !pltB b a)
theorem sortP_perm (l : List Pr) : (sortP l).Perm l := List.mergeSort_perm _ _
theorem sortP_one {l m : List Pr} (p : l.Perm m) (s : l.Pairwise fun a b => pltB b a = false) : l = sortP m := sort_one (lt := pltB) plt_asym plt_ntr plt_eq p s
theorem sortP_len (l : List Pr) : (sortP l).length = l.length := (sortP_perm l).length_eq
theorem sortP_mem {l : List Pr} {x : Pr} : x ∈ sortP l ↔ x ∈ l := (sortP_perm l).mem_iff

/-! ### a tuple of two texts in the heap -/
def IsPr (h : Heap) (v : Value) (p : Pr) : Prop := ∃ a o t u n, v = .ref a ∧ h.get? a = some o ∧ o.cls = .type "tuple" ∧ o.data = .seq #[.str p.1 t, .str p.2 u] n
theorem IsPr.keeps {h h' : Heap} {v : Value} {p : Pr} (x : IsPr h v p) (k : ∀ b o, h.get? b = some o → o.cls = .type "tuple" → h'.get? b = some o) : IsPr h' v p :=
  let ⟨a, o, t, u, n, e, ho, hc, hd⟩ := x; ⟨a, o, t, u, n, e, k _ _ ho hc, hc, hd⟩
theorem IsPr.inj {h : Heap} {v : Value} {p q : Pr} (x : IsPr h v p) (y : IsPr h v q) : p = q := by
  obtain ⟨a, o, t, u, n, e, ho, hc, hd⟩ := x
  obtain ⟨a', o', t', u', n', e', ho', hc', hd'⟩ := y
  rw [e] at e'
  cases e'
  rw [ho] at ho'
  cases ho'
  rw [hd] at hd'
  injection hd' with h1 h2
  have h3 := congrArg Array.toList h1
  simp only [List.cons.injEq, Value.str.injEq, and_true] at h3
  exact Prod.ext h3.1.1 h3.2.1
open Classical in
noncomputable def prOf (h : Heap) (v : Value) : Pr := if e : ∃ p, IsPr h v p then e.choose else (⟨#[]⟩, ⟨#[]⟩)
theorem prOf_is {h : Heap} {v : Value} {p : Pr} (x : IsPr h v p) : prOf h v = p := by
  unfold prOf
  rw [dif_pos ⟨p, x⟩]
  exact IsPr.inj (Exists.choose_spec (p := fun p => IsPr h v p) ⟨p, x⟩) x
theorem prOf_keeps {h h' : Heap} {v : Value} {p : Pr} (x : IsPr h v p) (k : ∀ b o, h.get? b = some o → o.cls = .type "tuple" → h'.get? b = some o) : prOf h' v = prOf h v := by
  rw [prOf_is x, prOf_is (x.keeps k)]

section
variable {prog : Program} {w : World} {A : Around} {E : Value → Shared → Prop} {s : Shared}
/-- how the sorting machine compares two such tuples -/
theorem pr_cmp {vs : List Value} {k : Value → Pr} (hp : ∀ v ∈ vs, IsPr s.heap v (k v)) : SrtO.Cmp prog w A s (tuples' true) (fun p => p.1 ∈ vs) (SrtO.lt2 fun v u => pltB (k v) (k u)) := by
  intro p q hm hm'
  have h1 := hp _ hm
  have h2 := hp _ hm'
  show wpAny (model prog w) A (keyLt' (tuples' true) p.1 q.1) (fun r s' => s' = s ∧ r = pltB (k p.1) (k q.1)) (fun _ _ => False) s
  generalize k p.1 = x at h1 ⊢
  generalize k q.1 = y at h2 ⊢
  obtain ⟨a, o, t, u, n, e, ho, hc, hd⟩ := h1
  obtain ⟨a', o', t', u', n', e', ho', hc', hd'⟩ := h2
  rw [e, e']
  refine PySem.W.kat_lt ho hd ho' hd' (show PySem.W.KatLex prog w A true (decide (2 < 2)) _ [(.str x.1 t, .str y.1 t'), (.str x.2 u, .str y.2 u')] 0 s from PySem.W.kat_cons (wpAny_eqBool_str (PySem.W.kat_go (fun f => ?_) fun f => ?_)))
  · have f : x.1 = y.1 := of_decide_eq_true f
    refine PySem.W.kat_yes (PySem.W.kat_cons (wpAny_eqBool_str (PySem.W.kat_go (fun g => ?_) fun g => ?_)))
    · have g : x.2 = y.2 := of_decide_eq_true g
      refine PySem.W.kat_yes (PySem.W.kat_nil ⟨rfl, ?_⟩)
      unfold pltB
      rw [if_pos f, g, slt_irr]
      rfl
    · refine PySem.W.kat_no (PySem.W.kat_one _ _ (PySem.P.lt_str ?_))
      refine (show s = s ∧ decide (x.2.cps.toList < y.2.cps.toList) = pltB x y from ⟨rfl, ?_⟩)
      unfold pltB
      rw [if_pos f]
      rfl
  · have f : ¬ x.1 = y.1 := of_decide_eq_false f
    refine PySem.W.kat_no (oneLt_str ⟨rfl, ?_⟩)
    unfold pltB
    rw [if_neg f]
    rfl
theorem pr_firsts {h : Heap} : ∀ {vs : List Value}, (∀ v ∈ vs, ∃ p, IsPr h v p) → ∃ fs : List Value, PySem.W.KatTups h vs fs ∧ fs.length = vs.length ∧ ∀ f ∈ fs, ∃ x t, f = Value.str x t
  | [], _ => ⟨[], PySem.W.KatTups.nil, rfl, fun f hf => absurd hf (by simp)⟩
  | v :: vs, hp => by
    obtain ⟨fs, h1, h2, h3⟩ := pr_firsts (vs := vs) fun v hv => hp v (List.mem_cons_of_mem _ hv)
    obtain ⟨p, a, o, t, u, n, e, ho, hc, hd⟩ := hp v (List.mem_cons_self ..)
    subst e
    refine ⟨.str p.1 t :: fs, PySem.W.KatTups.cons ho hc hd rfl h1, congrArg Nat.succ h2, fun f hf => ?_⟩
    rcases List.mem_cons.mp hf with e | hf
    · exact ⟨_, _, e⟩
    · exact h3 f hf
theorem pr_sortable {a : Addr} {vs : List Value} {k : Value → Pr} (h0 : 0 < vs.length) (hp : ∀ v ∈ vs, IsPr s.heap v (k v)) (ha : ∀ o, s.heap.get? a = some o → o.cls ≠ .type "tuple") : SrtO.SortableO prog w A s a vs fun v u => pltB (k v) (k u) := by
  intro h' keep
  have hp' : ∀ v ∈ vs, IsPr h' v (k v) := fun v hm => (hp v hm).keeps fun b o e c => keep b o (fun z => ha o (z ▸ e) c) e
  obtain ⟨fs, h1, h2, h3⟩ := pr_firsts fun v hm => ⟨_, hp' v hm⟩
  refine ⟨tuples' true, fun Q E hq => PySem.W.kat_kind (T := .type "str") h1 (by omega) (fun f hm => ?_) (by rfl) ?_, pr_cmp hp'⟩
  · obtain ⟨x, t, rfl⟩ := h3 f hm
    exact PySem.W.Looks.now
  · have e : (Value.type "str" != Value.type "tuple") = true := by first | decide +kernel | rfl | decide
    rw [e]
    exact hq
theorem plt_swo (k : Value → Pr) : SrtO.Swo fun v u => pltB (k v) (k u) := ⟨fun x y h => plt_asym h, fun x y z h g => plt_ntr g h⟩
/-- sorted(l) of tuples of two texts -/
theorem sorted_prs {l : Addr} {vs : List Value} {k : Value → Pr} {Q : Value → Shared → Prop} (hl : s.heap.IsList l vs.toArray) (hz : vs.length ≤ sizeLine) (hp : ∀ v ∈ vs, IsPr s.heap v (k v))
    (h : ∀ (h' : Heap) (d : Addr) (out : List Value), out.Perm vs → out.map k = sortP (vs.map k) → (∀ b o, s.heap.get? b = some o → h'.get? b = some o) → s.heap.objs.size ≤ d → (∃ n, h'.get? d = some (seqObj "list" out.toArray n)) → Q (.ref d) { s with heap := h' }) :
    wpAny (model prog w) A (call (.builtin "sorted") [.ref l]) Q E s := by
  refine SrtO.sorted_ord (plt_swo k) hl hz (fun h2 h1 a ha kk => ?_) fun out hs hb => ?_
  · refine pr_sortable (s := { s with heap := h1 }) (by omega) (fun v hm => (hp v hm).keeps fun b o e _ => (kk b o e).2) fun o e c => ?_
    have e' : some o = some (seqObj "list" vs.toArray 0) := e.symm.trans ha
    cases e'
    exact absurd (Value.type.inj c) (by decide)
  · refine h _ _ out hb.perm (sortP_one (hb.perm.map k) (List.pairwise_map.mpr ?_)) (fun b o e => sortedAll_old e) (Nat.le_succ _) (sortedAll_at s.heap vs out.toArray)
    exact hs
end

/-! ### as a rule of the layer -/
def prD (p : Pr) : PyData := .tuple [.str p.1, .str p.2]
theorem dp_pr {X : Cx} {pins : List (Addr × Obj)} {σ : L2.St} {H : Hp} {s : Shared} (I : Inv X pins σ H s) {x : V} {u : Value} {p : Pr} (h : Dp X.K H x (prD p)) (r : RelV x u) : IsPr s.heap u p ∧ ∃ t, x = V.ref t := by
  cases h with
  | @tup a xs _ hs ha =>
    obtain rfl : u = Value.ref a := r
    cases ha with
    | cons h1 h2 =>
      cases h2 with
      | cons h3 h4 =>
        cases h4
        cases h1
        cases h3
        obtain ⟨its, rv, ⟨o, ho, hc, n, hd⟩, _⟩ := I.tuple hs
        obtain ⟨u1, u2, rfl, ⟨t1, rfl⟩, ⟨t2, rfl⟩⟩ := vals2 rv
        exact ⟨⟨a, o, t1, t2, n, rfl, ho, hc, hd⟩, a, rfl⟩
/-- sorted(xs), xs a list of tuples of two texts -/
def rSortedPS (K : PySem.W.Frag) : List V → Hp → VK → Prop := fun vs H Q => ∃ (a : Addr) (xs : List V) (ps : List Pr), vs = [V.ref a] ∧ SqL K H a xs ∧ DpAll K H xs (ps.map prD) ∧
  ∀ ys p, H p = none → DpAll K H ys ((sortP ps).map prD) → ys.length = ps.length → Q (.ref p) (upd H p (.lst ys))
theorem dpAll_of {K : PySem.W.Frag} {H : Hp} : ∀ {xs : List V} {ds : List PyData}, xs.length = ds.length → (∀ (i : Nat) (x : V) (d : PyData), xs[i]? = some x → ds[i]? = some d → Dp K H x d) → DpAll K H xs ds
  | [], [], _, _ => .nil
  | x :: xs, d :: ds, hl, h => .cons (h 0 x d rfl rfl) (dpAll_of (by simpa using hl) fun i y e h1 h2 => h (i + 1) y e (by simpa using h1) (by simpa using h2))
  | [], _ :: _, hl, _ => by simp at hl
  | _ :: _, [], hl, _ => by simp at hl
theorem dpAll_len {K : PySem.W.Frag} {H : Hp} : ∀ {xs : List V} {ds : List PyData}, DpAll K H xs ds → xs.length = ds.length
  | _, _, .nil => rfl
  | _, _, .cons _ t => by rw [List.length_cons, List.length_cons, dpAll_len t]
theorem dpAll_at {K : PySem.W.Frag} {H : Hp} : ∀ {xs : List V} {ds : List PyData}, DpAll K H xs ds → ∀ {i : Nat} {x : V}, xs[i]? = some x → ∃ d, ds[i]? = some d ∧ Dp K H x d
  | _, _, .nil, i, x, e => by simp at e
  | _, _, .cons h t, 0, x, e => by simp at e; subst e; exact ⟨_, rfl, h⟩
  | _, _, .cons h t, i + 1, x, e => by
    obtain ⟨d, h1, h2⟩ := dpAll_at t (i := i) (x := x) (by simpa using e)
    exact ⟨d, by simpa using h1, h2⟩
def unV : Value → V
  | .ref a => .ref a
  | _ => .non
theorem cr_sortedPS {X : Cx} : CallR X (.builtin "sorted") (rSortedPS X.K) := by
  intro pins s σ H vs us Q I r h
  obtain ⟨a, xs, ps, rfl, hs, hx, q⟩ := h
  obtain ⟨its, rv, hl, hz⟩ := I.list hs
  have lx : xs.length = ps.length := by rw [dpAll_len hx, List.length_map]
  rw [Vals.ref1 r]
  -- item by item: the value, its pair
  have item : ∀ (i : Nat) (v : Value), its[i]? = some v → ∃ (x : V) (p : Pr) (t : Addr), xs[i]? = some x ∧ ps[i]? = some p ∧ x = .ref t ∧ v = .ref t ∧ Dp X.K H x (prD p) ∧ IsPr s.heap v p := by
    intro i v hv
    have li : i < xs.length := by rw [rv.length]; exact (List.getElem?_eq_some_iff.mp hv).1
    have ex : xs[i]? = some xs[i] := List.getElem?_eq_getElem li
    obtain ⟨u, e1, e2⟩ := rv.get ex
    rw [hv] at e1
    cases e1
    obtain ⟨d, d1, d2⟩ := dpAll_at hx ex
    rw [List.getElem?_map] at d1
    cases ep : ps[i]? with
    | none => rw [ep] at d1; cases d1
    | some p =>
      rw [ep] at d1
      cases d1
      obtain ⟨z, t, et⟩ := dp_pr I d2 e2
      rw [et] at e2
      exact ⟨_, p, t, ex, rfl, et, e2, d2, z⟩
  have pv : ∀ v ∈ its, IsPr s.heap v (prOf s.heap v) := fun v hv => by
    obtain ⟨i, hi⟩ := List.mem_iff_getElem?.mp hv
    obtain ⟨x, p, t, _, _, _, _, _, z⟩ := item i v hi
    rw [prOf_is z]
    exact z
  have km : its.map (prOf s.heap) = ps := by
    refine List.ext_getElem? fun i => ?_
    rw [List.getElem?_map]
    cases hv : its[i]? with
    | none =>
      have l1 := List.getElem?_eq_none_iff.mp hv
      have l2 : ps.length ≤ i := by rw [← lx, rv.length]; exact l1
      rw [List.getElem?_eq_none_iff.mpr l2]
      rfl
    | some v =>
      obtain ⟨x, p, t, _, e, _, _, _, z⟩ := item i v hv
      rw [e]
      show some (prOf s.heap v) = some p
      rw [prOf_is z]
  refine sorted_prs hl.isList (by rw [← rv.length]; exact hz) pv fun h' d out hp hk kp hd hn => ?_
  obtain ⟨n, hn⟩ := hn
  rw [km] at hk
  have mem : ∀ v ∈ out, ∃ t, v = Value.ref t ∧ Dp X.K H (.ref t) (prD (prOf s.heap v)) := fun v hv => by
    obtain ⟨i, hi⟩ := List.mem_iff_getElem?.mp (hp.mem_iff.mp hv)
    obtain ⟨x, p, t, _, _, e1, e2, dp, z⟩ := item i v hi
    rw [prOf_is z]
    exact ⟨t, e2, e1 ▸ dp⟩
  have vo : Vals (out.map unV) out := by
    clear hk hn hp
    induction out with
    | nil => exact .nil
    | cons v out ih =>
      obtain ⟨t, e, _⟩ := mem v (List.mem_cons_self ..)
      subst e
      exact .cons rfl (ih fun v hv => mem v (List.mem_cons_of_mem _ hv))
  have lo : out.length = ps.length := by rw [hp.length_eq, ← rv.length, lx]
  refine ⟨.ref d, upd H d (.lst (out.map unV)), I.laid (t' := s.toks) kp hd ⟨by rw [List.length_map, lo, ← lx]; exact hz, out, n, vo, hn⟩, rfl, q _ d (I.hok.fresh hd) ?_ (by rw [List.length_map, lo])⟩
  rw [← hk, List.map_map]
  refine dpAll_of (by rw [List.length_map, List.length_map]) fun i x e h1 h2 => ?_
  rw [List.getElem?_map] at h1 h2
  cases ev : out[i]? with
  | none => rw [ev] at h1; cases h1
  | some v =>
    rw [ev] at h1 h2
    cases h1
    cases h2
    obtain ⟨t, e1, e2⟩ := mem v (List.mem_of_getElem? ev)
    subst e1
    exact e2
end Ob

/-! OC: own exceptions whose __init__ says Base.__init__(self, v); self.f = v -/
namespace Ob
open PySem PySem.Spec PyProof.Rows L2

/-- what is known of a built-in base -/
structure XBase (B newId initId : String) (bmB : List Value) : Prop where
  fb : ExcBaseFacts B newId initId bmB
  sf : StoreFacts B bmB "object.__setattr__" "object"
  ty : typeOf (.type B) = pure (.type "type")
  stub : Manifest.isStub B = false
  hand : PySem.W.handedIn (.builtin initId) = true
theorem xb_Value : XBase "ValueError" "ValueError.__new__" "ValueError.__init__" [.type "ValueError", .type "Exception", .type "BaseException", .type "object"] :=
  ⟨F.excBase_ValueError, F.store_ValueError, by kernel_rfl, by decide +kernel, by decide +kernel⟩
theorem xb_Lookup : XBase "LookupError" "LookupError.__new__" "LookupError.__init__" [.type "LookupError", .type "Exception", .type "BaseException", .type "object"] :=
  ⟨F.excBase_LookupError, F.store_LookupError, by kernel_rfl, by decide +kernel, by decide +kernel⟩
theorem xb_Runtime : XBase "RuntimeError" "RuntimeError.__new__" "RuntimeError.__init__" [.type "RuntimeError", .type "Exception", .type "BaseException", .type "object"] :=
  ⟨F.excBase_RuntimeError, F.store_RuntimeError, by kernel_rfl, by decide +kernel, by decide +kernel⟩

/-- what the written part says of the class at C, over the base B, its own __init__ at fI, its field f -/
structure XCls (K : PySem.W.Frag) (C fI : Addr) (bmB : List Value) (newId : String) (f : Str) : Prop where
  ci : PySem.W.excInitIn K C bmB newId = true
  ov : PySem.W.excOver K C bmB = true
  hd : PySem.W.hasDictIn K C = true
  sa : PySem.W.findIn K (.ref C) "__setattr__" = some (some (.builtin "object.__setattr__"))
  tk : PySem.W.takerIn K C f = some none
  iC : PySem.W.findIn K (.ref C) "__init__" = some (some (.ref fI))
  fn : PySem.W.isFn K (.ref fI) = true
  exC : PySem.W.subIn K (.ref C) (.type "BaseException") = some true
  tyC : PySem.W.typeIn K (.ref C) = some (.type "type")
  kC : PySem.W.keepIn K (.ref C) = true

section
variable {prog : Program} {w : World} {A : Around} {R : Result → Shared → Prop} {s : Shared} {K : PySem.W.Frag} {C fI : Addr} {B newId initId : String} {bmB : List Value} {f : Str}
/-- the first store into an exception: its dict is made -/
theorem x_lay (T : XCls K C fI bmB newId f) (XB : XBase B newId initId bmB) {x t0 : Addr} {tk : Tok} {v : Value} (X : K.In s.heap) (hx : s.heap.get? x = some (PySem.W.excObj C t0 none .none))
    (hq : ∀ h' tk' dx, (∀ b o, b ≠ x → s.heap.get? b = some o → h'.get? b = some o) → s.heap.objs.size ≤ dx → dx ≠ x → h'.get? x = some (PySem.W.excObj C t0 (some dx) .none) → h'.Ns1 dx (fun y => if y = f then some v else none) → R (.ok (.ret .none)) { s with heap := h', toks := tk' }) :
    codeAny (model prog w) A (.call (.builtin "object.__setattr__") ⟨[.ref x, .str f tk, v], []⟩) R s := by
  obtain ⟨hp, g, d, t, os⟩ := s
  have hlt : x < hp.objs.size := Heap.lt_size hx
  refine PySem.W.osa_openX (od := none) XB.sf X ⟨hx, rfl, rfl, trivial⟩ T.ov T.tk fun b => ?_
  obtain ⟨cd, hc, hdd⟩ := PySem.W.any_some T.hd
  refine wpAny_bind (wpAny_pure (wpAny_bind (PySem.W.instanceDict_exc (s := ⟨hp, g, d, t, os⟩) hx (PySem.W.looks_clsIn X hc) hdd ?_)))
  show wpAny _ _ (Builtin.ObjectAttr.storeInDict hp.objs.size (.str f tk) f v) _ _ _
  have hx1 : (hp.push (PySem.W.dictOf [] 0)).get? x = some (PySem.W.excObj C t0 none .none) := Heap.get?_push_of_some _ hx
  refine HandSPX.store_in_new ?_ fun h' tk' hn' hs => ?_
  · exact ⟨_, #[], _, (Heap.get?_update_ne _ _ _ _ (Nat.ne_of_gt hlt)).trans (Heap.get?_push_at rfl rfl), rfl, fun e he => absurd he (by simp), fun _ => rfl⟩
  · refine hq h' tk' hp.objs.size (fun b o hb ho => ?_) (Nat.le_refl _) (Nat.ne_of_gt hlt) ?_ hn'
    · exact (hs.2 b (Nat.ne_of_lt (Heap.lt_size ho))).trans ((Heap.get?_update_ne _ _ _ _ hb).trans (Heap.get?_push_of_some _ ho))
    · exact (hs.2 x (Nat.ne_of_lt hlt)).trans (Heap.get?_update_self _ hx1 rfl)
end

section
variable {X : Cx} {pins : List (Addr × Obj)} {σ : L2.St} {H : Hp} {s : Shared} {a C fI : Addr} {f : Str} {y : V} {u : Value} {E : Value → Shared → Prop} {A : Around} {B newId initId : String} {bmB : List Value}
/-- self.f = y on an exception that is being made -/
theorem x_store {Q : Unit → Shared → Prop} (T : XCls X.K C fI bmB newId f) (XB : XBase B newId initId bmB) (I : Inv X pins σ H s) (e : H a = some (exo a C none)) (ry : RelV y u)
    (h : ∀ dx s', H dx = none → dx ≠ a → Inv X pins σ (upd (upd H dx (exd dx [(f, y)])) a (exo a C (some dx))) s' → Q () s') : wpAny (model X.prog X.w) A (setAttr (.ref a) f u) Q E s := by
  obtain ⟨t1, ho⟩ := exo_at I.hok e
  obtain ⟨hp, g, d, t, os⟩ := s
  refine PySem.W.set_plain I.kIn (ox := PySem.W.excObj C t1 none .none) (od := none) ⟨ho, rfl, rfl, trivial⟩ T.sa (x_lay (s := ⟨hp, g, d, t + 1, os⟩) T XB I.kIn ho fun h' tk' dx k dn dne hx hn => ?_)
  have fresh : H dx = none := I.hok.fresh dn
  have oldD : ∀ {b : Addr} {o : Obj}, hp.get? b = some o → b ≠ dx := fun q => Nat.ne_of_lt (Nat.lt_of_lt_of_le (Heap.lt_size q) dn)
  have freeA : ∀ {b : Addr}, H b = none → b ≠ a := fun n z => by rw [z, e] at n; cases n
  -- elsewhere the new abstract heap is the old one
  have far : ∀ {b : Addr} {o : HO}, H b = some o → o ≠ exo a C none → upd (upd H dx (exd dx [(f, y)])) a (exo a C (some dx)) b = some o := fun {b o} q ne => by
    rw [upd_ne (fun z => ne (Option.some.inj (q.symm.trans (by rw [z]; exact e)))), upd_ne (ne_of_none q fresh)]
    exact q
  have U : Un X.fs [] H (upd (upd H dx (exd dx [(f, y)])) a (exo a C (some dx))) hp h' := by
    refine ⟨fun b o q n _ _ => k b o (freeA n) q, fun b o q n _ _ => ⟨_, k b o (freeA n) q⟩, fun b o q n _ => ?_, fun b o q _ => ?_, fun b xs q => far q exo_tup.symm, fun b o v q => far q exo_frz.symm, fun b ps q => ⟨#[], ?_⟩⟩
    · rw [upd_ne (freeA n), upd_ne (oldD q)]; exact n
    · by_cases z : b = a
      · exact ⟨_, z ▸ hx⟩
      · exact ⟨o, k b o z q⟩
    · rw [far q exo_tbl.symm, Array.append_empty]
  refine h dx _ fresh dne (I.un (t' := tk') U fun b o q => ?_)
  by_cases z : b = a
  · subst z
    rw [upd_same] at q
    cases q
    exact exo_ok hx
  rw [upd_ne z] at q
  by_cases z2 : b = dx
  · subst z2
    rw [upd_same] at q
    cases q
    exact exd_ok hn (relO_put (fs := []) ry fun _ => True.intro)
  rw [upd_ne z2] at q
  refine (I.hok b o q).stay (fun c v hc r => k c v (fun w => ?_) r) (fun c hc => far hc exo_own.symm) fun c xs hc => far hc exo_tup.symm
  rcases hc with hc | hc
  · exact z (hc.symm.trans w)
  · rw [w, e] at hc
    exact exo_own (Option.some.inj hc)
/-- B.__init__(self, ..) -/
theorem x_init {us : List Value} {Q : Value → Shared → Prop} (T : XCls X.K C fI bmB newId f) (XB : XBase B newId initId bmB) (I : Inv X pins σ H s) (e : H a = some (exo a C none)) (hl : us.length ≤ sizeLine) (h : ∀ s', Inv X pins σ H s' → Q .none s') :
    wpAny (model X.prog X.w) A (call (.builtin initId) (.ref a :: us)) Q E s := by
  obtain ⟨nm, N, qn, bs, bm, hdct, sn, sub, ab, col, dd, k0, k1, k2, k3, k5, hC, hT⟩ := PySem.W.excInit_of I.kIn T.ci
  obtain ⟨t1, ho⟩ := exo_at I.hok e
  obtain ⟨hp, g, d, t, os⟩ := s
  refine wpAny_call (HandSPX.init_base XB.fb hT hC ho hl fun h' t2 k hx => h ⟨h', g, d, t, os⟩ ?_)
  have same : upd H a (exo a C none) = H := funext fun b => by
    by_cases z : b = a
    · rw [z, upd_same, e]
    · exact upd_ne z
  have J := I.write (t' := t) (x := a) (e := a) (o := exo a C none) (by rw [e]; exact True.intro) (.inl rfl) k ⟨_, hx⟩ (exo_ok hx)
  rw [same] at J
  exact J
end

/-! ### readings and rules -/
def tXin (C : Addr) (ta : TA) : TE := fun σ H Q => ta σ H fun vs H1 => ∃ (a : Addr) (ws : List V), vs = .ref a :: ws ∧ ws.length ≤ 1000 ∧ H1 a = some (exo a C none) ∧ Q .non H1
def tXst (C : Addr) (f : Str) (to te : TE) : TS := fun D σ H => te σ H fun y H1 => to σ H1 fun x H2 => ∃ a : Addr, x = .ref a ∧ H2 a = some (exo a C none) ∧ ∀ dx, H2 dx = none → dx ≠ a → D.nx σ (upd (upd H2 dx (exd dx [(f, y)])) a (exo a C (some dx)))
section
variable {X : Cx} {C fI : Addr} {f : Str} {B newId initId : String} {bmB : List Value} {o e : Expr} {es : List Expr} {to te : TE} {ta : TA} {p p' p1 p2 pos : Pos}
theorem pe_xin {b : Str} {pl : Sem Bool} (T : XCls X.K C fI bmB newId f) (XB : XBase B newId initId bmB) (hg : Gl X b) (hm : X.mg b = none) (hv : bootBuiltins b = some (.type B)) (vV : PySem.W.findCls X.K (.type B) (.type "type") "__init__" = some (.val (.builtin initId))) (ha : PA X (e :: es) ta)
    (hc : eval (.Call (.Attribute (.Name b p1) "__init__" p2) (e :: es) [] pos) X.env = (do
      let ov ← eval (.Name b p1) X.env
      standAt p2.atName
      let (f, first) ← holding [ov] (getMethod ov "__init__" pl)
      callWith pos f first (backTo pos (starEach (e :: es) X.env)) (backToKw pos (keywordEach [] X.env))) := by rfl)
    (he : starEach (e :: es) X.env = (false, eval e X.env) :: starEach es X.env := by rfl) (hpl : (backTo pos (starEach es X.env)).any (·.1) = false := by rfl) (hn : b ≠ "__name__" := by decide) (hdb : (b == ("__debug__" : Str)) = false := by decide) :
    PE X (.Call (.Attribute (.Name b p1) "__init__" p2) (e :: es) [] pos) (tXin C ta) := by
  refine ⟨fun pins s σ H Q I h => PySem.W.methodCall_KW (ld_blt I hg hm hv ?_ hn hdb) hc⟩
  obtain ⟨m, fr⟩ := I.fr
  refine PySem.W.method_type fr I.ok.mod.kin XB.ty XB.stub vV XB.hand ?_
  show wpAny _ _ (callWith pos (Value.builtin initId) [] (backTo pos (starEach (e :: es) X.env)) []) _ _ _
  refine PyProof.Rows.callWith_method1 (thn (ha.run pos pins _ σ H _ (I.tok _) h) fun us s1 ⟨vs, H1, I1, r1, a, ws, ev, hl, ea, q⟩ => ?_) he hpl
  subst ev
  cases r1 with
  | @cons _ u0 _ ur ra rw' =>
    obtain rfl : u0 = Value.ref a := ra
    exact x_init T XB I1 ea (by rw [← Paired.length rw', sizeLine_eq]; omega) fun s' J => ⟨.non, H1, J, rfl, q⟩
theorem ps_xst (T : XCls X.K C fI bmB newId f) (XB : XBase B newId initId bmB) (ho : PE X o to) (he : PE X e te) (hs : swapsWith e (some (.Attribute o f p')) pos.line X.env = pure false := by rfl) : PS X (.Assign [.Attribute o f p'] e pos) (tXst C f to te) := by
  refine ⟨fun pins s σ H D I h => plainObj_wpAny_Assign_Attribute (thn (he.run pins s σ H _ I h) fun v s1 ⟨y, H1, I1, r1, q1⟩ => thn (ho.run pins s1 σ H1 _ I1 q1) fun u s2 ⟨x, H2, I2, r2, a, ex, ea, q⟩ => ?_) hs⟩
  subst ex
  obtain rfl : u = Value.ref a := r2
  exact x_store T XB I2 ea r1 fun dx s' n ne J => ⟨σ, _, J, q dx n ne⟩
/-- C(e), C's own __init__ keeping sp -/
def tXmk (C : Addr) (f : Str) (ta : TA) : L2.St → Hp → XK → Prop := fun σ H Q => ta σ H fun vs H1 => ∃ v, vs = [v] ∧ ∀ d, H1 d = none → Q (.ref C) (some d) (upd H1 d (.xd [(f, v)]))
/-- what the __init__ of such a class promises -/
def spX (C : Addr) (f : Str) : Sp := fun vs H Q _ => ∃ (a : Addr) (v : V), vs = [.ref a, v] ∧ H a = some (exo a C none) ∧ ∀ dx, H dx = none → dx ≠ a → Q .non (upd (upd H dx (exd dx [(f, v)])) a (exo a C (some dx)))
theorem pmk_x {x : Str} {k : Nat} {fd : FuncData} {ps : List Str} (T : XCls X.K C fI bmB newId f) (XB : XBase B newId initId bmB) (F1 : FnOk X.prog X.w X.K X.mg X.base CX0 k fI fd ps (spX C f)) (hr : Room (k + 1) X.A) (hb : Binds X.K fd ps []) (hg : Gl X x) (hm : X.mg x = some (.ref C)) (ha : PA X (e :: es) ta)
    (hdb : (x == ("__debug__" : Str)) = false := by decide) (he : starEach (e :: es) X.env = (false, eval e X.env) :: starEach es X.env := by rfl) (hpl : (backTo pos (starEach es X.env)).any (·.1) = false := by rfl) :
    PMk X (.Call (.Name x p) (e :: es) [] pos) (tXmk C f ta) := by
  intro pins s σ H Q I h
  refine wpAny_Call_Name_kw (ld_glob I hg hm (PySem.W.callWith_K (h₀ := X.base) I.ok.mod.kin T.kC (thn (ha.run pos pins s σ H _ I h) fun us s1 ⟨vs, H1, I1, r1, v, ev, q1⟩ => ⟨I1.kIn, ?_⟩) he hpl) hdb)
  subst ev
  show wpAny _ _ (call (.ref C) us) _ _ _
  obtain ⟨nm, N, qn, bs, bm, hdct, sn, sub, ab, col, dd, k0, k1, k2, k3, k5, hC, hT⟩ := PySem.W.excInit_of I1.kIn T.ci
  obtain ⟨hp, g, dr, tk, os⟩ := s1
  let n := hp.objs.size
  let h2 := (hp.push (PySem.W.kdv_tup us)).push (HandSPX.excO C n)
  have kk : ∀ b o, hp.get? b = some o → h2.get? b = some o := fun b o q => Heap.get?_push_of_some _ (Heap.get?_push_of_some _ q)
  have hget : h2.get? (n + 1) = some (HandSPX.excO C n) := by
    show ((hp.push (PySem.W.kdv_tup us)).push (HandSPX.excO C hp.objs.size)).get? (hp.objs.size + 1) = _
    heap_get
  have hn : H1 (n + 1) = none := I1.hok.fresh (Nat.le_succ _)
  have I2 : Inv X pins σ (upd H1 (n + 1) (exo (n + 1) C none)) ⟨h2, g, dr, tk, os⟩ := I1.laid (t' := tk) (a := n + 1) (h' := h2) kk (Nat.le_succ _) (exo_ok hget)
  have r2 : Vals [V.ref (n + 1), v] (Value.ref (n + 1) :: us) := .cons rfl r1
  let Post : VK := fun v' H2 => v' = .non ∧ ∃ d, H2 (n + 1) = some (exo (n + 1) C (some d)) ∧ H2 d = some (exd d [(f, v)]) ∧ H1 d = none ∧ Q (.ref C) (some d) (upd (del H2 (n + 1)) d (.xd [(f, v)]))
  have hsp : spX C f [V.ref (n + 1), v] (upd H1 (n + 1) (exo (n + 1) C none)) Post (fun _ _ _ => False) := by
    refine ⟨n + 1, v, rfl, upd_same, fun dx nd ne => ⟨rfl, dx, upd_same, ?_, ?_, ?_⟩⟩
    · rw [upd_ne ne]; exact upd_same
    · rw [upd_ne ne] at nd; exact nd
    · have nd' : H1 dx = none := by rw [upd_ne ne] at nd; exact nd
      have same : upd (del (upd (upd (upd H1 (n + 1) (exo (n + 1) C none)) dx (exd dx [(f, v)])) (n + 1) (exo (n + 1) C (some dx))) (n + 1)) dx (.xd [(f, v)]) = upd H1 dx (.xd [(f, v)]) := funext fun b => by
        by_cases z : b = dx
        · rw [z, upd_same, upd_same]
        · rw [upd_ne z, upd_ne z]
          by_cases z2 : b = n + 1
          · rw [z2, del_same, hn]
          · rw [del_ne z2, upd_ne z2, upd_ne z, upd_ne z2]
      rw [same]
      exact q1 dx nd'
  have hl : (Value.ref (n + 1) :: us).length = ps.length := by
    have e1 := F1.len _ _ _ _ hsp
    rw [← r2.length, e1]
  have hus : us.length ≤ sizeLine := by
    rw [← Paired.length r1, sizeLine_eq]
    show (1 : Nat) ≤ 16777216
    decide
  have hbind := hb (⟨h2, g, dr, tk, os⟩ : Shared) (Value.ref (n + 1) :: us) I2.kIn (by simpa using hl)
  rw [List.append_nil] at hbind
  refine wpAny_call (HandSPX.call_own XB.fb hT hC (PySem.W.looks_findIn I1.kIn T.iC) (fun self => PySem.W.bind_fn I1.kIn self (beq_iff_eq.mp T.fn)) hus
    (codeAny_mono (F1.run _ X.stack _ _ ⟨Value.ref (n + 1) :: us, []⟩ (Value.ref (n + 1) :: us) _ Post (fun _ _ _ => False) (hr.make C us []) (I2.env0.make C us []) hbind r2 hsp) fun r s' hq' => ?_))
  cases r with
  | error er => exact False.elim hq'
  | ok fl =>
    cases fl with
    | ret u =>
      obtain ⟨v', H2, os2, bare2, un2, hok2, rv, ev, d, ea, ed, hd1, q2⟩ := hq'
      subst ev
      obtain ⟨h3, g2, d2, t2, os'⟩ := s'
      exact ⟨rv, mk_end (raises_own T.exC T.tyC) I1 (Nat.le_succ _) kk un2 hok2 os2 bare2 ea ed hd1 q2⟩
    | next => exact False.elim hq'
    | brk => exact False.elim hq'
    | cont => exact False.elim hq'
end
end Ob

/-! OD: short calls; == of a class with its own __eq__; a method called by a keyword; LastSwitch() -/
namespace Ob
open PySem PySem.Spec PyProof.Rows L2

/-! ### what may be let out -/
theorem p0 {X : Cx} (σ : L2.St) : PassesAt CX0 X σ ((fun _ => E0) σ) := fun _ _ _ _ _ _ h => h.elim
theorem pF {X : Cx} (σ : L2.St) : PassesAt (L2.CX X.prog X.w) X σ ((fun _ => E0) σ) := fun _ _ _ e s' I c => takes0 e s' (XE.of_call (W := fun _ _ _ _ => False) I (fun _ _ _ h => h) c)
theorem pT {X : Cx} {W : WX} (tk : Takes X W) : ∀ σ, PassesAt (L2.CX X.prog X.w) X σ (WE W σ) := fun σ => passAt tk σ
theorem tkE {P : Program} {w : World} {K : PySem.W.Frag} {mg : Str → Option Value} {base : Heap} {N : List Str} {qual : Str} {scope : Scope} {f : Addr} {cd : Value} {A : Around} {outer : List Env} {s : Shared} {H : Hp} {E : XK} :
    Takes (cxOf (L2.CX P w) P w K mg base N qual scope f cd A outer s H E) (fun cls d _ H => E cls d H) := takes_of rfl rfl rfl rfl

section
variable (P : Program) (w : World) (K : PySem.W.Frag) (mg : Str → Option Value) (base : Heap)
/-- the def of the module named x keeps sp -/
structure Gd (CX : CXT) (k : Nat) (x : Str) (ps : List Str) (sp : Sp) : Prop where
  ex : ∃ f fd, mg x = some (.ref f) ∧ PySem.W.keepIn K (.ref f) = true ∧ Binds K fd ps [] ∧ FnOk P w K mg base CX k f fd ps sp
/-- the method m of the class at C keeps sp -/
structure Gm (CX : CXT) (k : Nat) (C : Addr) (m : Str) (ps : List Str) (sp : Sp) : Prop where
  cl : Cls K C
  ex : ∃ f fd, Meth K C m f ∧ Binds K fd ps [] ∧ FnOk P w K mg base CX k f fd ps sp
/-- the class named x, at C, is made by an __init__ that keeps sp -/
structure Gk (CX : CXT) (k : Nat) (x : Str) (C : Addr) (ps : List Str) (sp : Sp) : Prop where
  g : mg x = some (.ref C)
  ex : ∃ f fd, Mk K C f ∧ Binds K fd ps [] ∧ FnOk P w K mg base CX k f fd ps sp
/-- an own exception class x at C, field f, its __init__ kept -/
structure Gx (k : Nat) (x : Str) (C : Addr) (B newId initId : String) (bmB : List Value) (f : Str) (ps : List Str) : Prop where
  g : mg x = some (.ref C)
  xb : XBase B newId initId bmB
  ex : ∃ fI fd, XCls K C fI bmB newId f ∧ Binds K fd ps [] ∧ FnOk P w K mg base CX0 k fI fd ps (spX C f)
end
section
variable {X : Cx} {CX : CXT} {k : Nat} {C : Addr} {x m : Str} {ps : List Str} {sp : Sp} {E : L2.St → XK} {o e : Expr} {es : List Expr} {ta : TE} {t : TA} {p pos apos : Pos}
theorem pcl (G : Gd X.prog X.w X.K X.mg X.base CX k x ps sp) (hg : Gl X x) (hr : Room k X.A) (hx : ∀ σ, PassesAt CX X σ (E σ)) (ha : PA X (e :: es) t)
    (hdb : (x == ("__debug__" : Str)) = false := by decide) (he : starEach (e :: es) X.env = (false, eval e X.env) :: starEach es X.env := by rfl) (hpl : (backTo pos (starEach es X.env)).any (·.1) = false := by rfl) :
    PE X (.Call (.Name x p) (e :: es) [] pos) (tCallS sp E t) := by
  obtain ⟨f, fd, h1, h2, h3, h4⟩ := G.ex
  exact pe_callS h4 hr hg h1 h2 h3 hx ha hdb he hpl
/-- o.m(e, ..) at the caller's slots -/
def tMt (C : Addr) (m : Str) (sp : Sp) (E : L2.St → XK) (ta : TE) (t : TA) : TE := fun σ H Q => ta σ H fun x H1 => ∃ a dx fs, x = .ref a ∧ H1 a = some (.ins C dx fs) ∧ fs.lookup m = none ∧ t σ H1 fun vs H2 => sp (x :: vs) H2 Q (E σ)
theorem pmt {pl : Sem Bool} (G : Gm X.prog X.w X.K X.mg X.base CX k C m ps sp) (hr : Room k X.A) (hx : ∀ σ, PassesAt CX X σ (E σ)) (he : PE X o ta) (ha : PA X (e :: es) t)
    (hst : starEach (e :: es) X.env = (false, eval e X.env) :: starEach es X.env := by rfl) (hpl : (backTo pos (starEach es X.env)).any (·.1) = false := by rfl)
    (ht : eval (.Call (.Attribute o m apos) (e :: es) [] pos) X.env = (do
      let ov ← eval o X.env
      standAt apos.atName
      let (f, first) ← holding [ov] (getMethod ov m pl)
      callWith pos f first (backTo pos (starEach (e :: es) X.env)) (backToKw pos (keywordEach [] X.env))) := by rfl) :
    PE X (.Call (.Attribute o m apos) (e :: es) [] pos) (tMt C m sp E ta t) := by
  obtain ⟨f, fd, hm, hb, F⟩ := G.ex
  refine ⟨fun pins s σ H Q I h => PySem.W.methodCall_KW (pl := pl) (thn (he.run pins s σ H _ I h) fun u s1 ⟨x, H1, I1, rx, a, dx, fs, ex, ea, l, q⟩ => ?_) ht⟩
  subst ex
  obtain rfl : u = Value.ref a := rx
  refine getmeth_ok I1 ea G.cl hm l (PySem.W.callWith_K (first := [.ref a]) (h₀ := X.base) I.ok.mod.kin hm.kp (thn (ha.run pos pins s1 σ H1 _ I1 q) fun us s2 ⟨vs, H2, I2, r, q2⟩ => ⟨I2.kIn, ?_⟩) hst hpl)
  exact run_fnS (us := .ref a :: us) (vs := .ref a :: vs) F hr hb (hx σ) I2 (.cons rfl r) q2
theorem pmt0 {pl : Sem Bool} (G : Gm X.prog X.w X.K X.mg X.base CX k C m ps sp) (hr : Room k X.A) (hx : ∀ σ, PassesAt CX X σ (E σ)) (he : PE X o ta)
    (ht : eval (.Call (.Attribute o m apos) [] [] pos) X.env = (do
      let ov ← eval o X.env
      standAt apos.atName
      let (f, first) ← holding [ov] (getMethod ov m pl)
      callWith pos f first (backTo pos (starEach [] X.env)) (backToKw pos (keywordEach [] X.env))) := by rfl) :
    PE X (.Call (.Attribute o m apos) [] [] pos) (tMt C m sp E ta tNil) := by
  obtain ⟨f, fd, hm, hb, F⟩ := G.ex
  refine ⟨fun pins s σ H Q I h => PySem.W.methodCall_KW (pl := pl) (thn (he.run pins s σ H _ I h) fun u s1 ⟨x, H1, I1, rx, a, dx, fs, ex, ea, l, q⟩ => ?_) ht⟩
  subst ex
  obtain rfl : u = Value.ref a := rx
  exact getmeth_ok I1 ea G.cl hm l (PySem.W.callWith_K0 (first := [.ref a]) I1.kIn hm.kp (run_fnS (us := [.ref a]) (vs := [.ref a]) F hr hb (hx σ) I1 (.cons rfl .nil) q))
/-- C(e, ..) -/
theorem pmk (G : Gk X.prog X.w X.K X.mg X.base CX0 k x C ps sp) (hg : Gl X x) (hr : Room (k + 1) X.A) (ha : PA X (e :: es) t)
    (hdb : (x == ("__debug__" : Str)) = false := by decide) (he : starEach (e :: es) X.env = (false, eval e X.env) :: starEach es X.env := by rfl) (hpl : (backTo pos (starEach es X.env)).any (·.1) = false := by rfl) :
    PE X (.Call (.Name x p) (e :: es) [] pos) (tMake C sp [] E0 t) := by
  obtain ⟨f, fd, hm, hb, F⟩ := G.ex
  exact pe_make hm F hr hg G.g hb .nil pass0 ha hdb he hpl
/-- raise C(e) -/
theorem prx {B newId initId : String} {bmB : List Value} {f : Str} {W : WX} {pos2 : Pos} (G : Gx X.prog X.w X.K X.mg X.base k x C B newId initId bmB f ps) (hc : X.calm = true) (hg : Gl X x) (hr : Room (k + 1) X.A) (tk : Takes X W) (ha : PA X (e :: es) t)
    (hdb : (x == ("__debug__" : Str)) = false := by decide) (he : starEach (e :: es) X.env = (false, eval e X.env) :: starEach es X.env := by rfl) (hpl : (backTo pos (starEach es X.env)).any (·.1) = false := by rfl) :
    PS X (.Raise (some (.Call (.Name x p) (e :: es) [] pos)) none pos2) (fun _ σ H => tXmk C f t σ H fun cls d H' => W cls d σ H') := by
  obtain ⟨fI, fd, T, hb, F⟩ := G.ex
  exact ps_raise hc tk (pmk_x T G.xb F hr hb hg G.g ha hdb he hpl)
end

/-! ### == by an own __eq__, either answer -/
section
variable {X : Cx} {CX : CXT} {n : Nat} {C : Addr} {ps : List Str} {sp : Sp}
/-- x == y, two instances of the class at C -/
def rOwn (C : Addr) (sp : Sp) : R2 := fun x y H Q => ∃ a b dx dy fs gs, x = .ref a ∧ y = .ref b ∧ H a = some (.ins C dx fs) ∧ H b = some (.ins C dy gs) ∧ sp [.ref a, .ref b] H (fun v H' => ∃ r, v = .bl r ∧ Q (.bl r) H') E0
theorem op_own (G : Gm X.prog X.w X.K X.mg X.base CX0 n C "__eq__" ps sp) (hr : Room n X.A) : OpR X (compareOp .Eq) (rOwn C sp) := by
  intro pins s σ H x y u v Q I rx ry hq
  obtain ⟨a, b, dx, dy, fs, gs, rfl, rfl, ha, hb, hsp⟩ := hq
  obtain ⟨f, fd, hm, hbi, F⟩ := G.ex
  cases rx
  cases ry
  obtain ⟨mA, J, _⟩ := ins_get I.hok ha
  obtain ⟨mB, J', _⟩ := ins_get I.hok hb
  obtain ⟨od, J, _⟩ := J.look
  obtain ⟨od', J', _⟩ := J'.look
  obtain ⟨m, hF⟩ := I.fr
  show wpAny (model X.prog X.w) X.A (richCompare .Eq (.ref a) (.ref b)) (EP X pins σ Q) X.xe s
  refine PySem.W.cmp_K (op := .Eq) (tb := .ref C) hr.units0 hF I.ok.mod.kin J J'.type (by simp [PySem.W.notFirst]) hm.at_ hm.fn ?_
  refine wpAny_mono (run_fnS (E := fun _ => E0) (us := [.ref a, .ref b]) (vs := [.ref a, .ref b]) F hr hbi (p0 σ) I (.cons rfl (.cons rfl .nil)) hsp) (fun v s' q => ?_) fun _ _ z => z
  obtain ⟨z, H', I', rz, r, ez, q⟩ := q
  subst ez
  cases rz
  exact ⟨.bl r, H', I', rfl, q⟩
end

/-! ### o.m(k = e) -/
section
variable {X : Cx} {CX : CXT} {k : Nat} {C : Addr} {m kw : Str} {ps : List Str} {sp : Sp} {o e : Expr} {ta te : TE} {kpos pos apos : Pos}
/-- how the one keyword binds behind self -/
def KwBinds (K : PySem.W.Frag) (fd : FuncData) (ps : List Str) (kw : Str) : Prop := ∀ (s : Shared) (a u : Value), K.In s.heap → BindsTo s fd ⟨[a], [(kw, u)]⟩ (ps.zip [a, u])
structure GmK (P : Program) (w : World) (K : PySem.W.Frag) (mg : Str → Option Value) (base : Heap) (CX : CXT) (k : Nat) (C : Addr) (m kw : Str) (ps : List Str) (sp : Sp) : Prop where
  cl : Cls K C
  ex : ∃ f fd, Meth K C m f ∧ KwBinds K fd ps kw ∧ FnOk P w K mg base CX k f fd ps sp
def tMtK (C : Addr) (m : Str) (sp : Sp) (ta te : TE) : TE := fun σ H Q => ta σ H fun x H1 => ∃ a dx fs, x = .ref a ∧ H1 a = some (.ins C dx fs) ∧ fs.lookup m = none ∧ tCons te tNil σ H1 fun vs H2 => ∃ v, vs = [v] ∧ sp [x, v] H2 Q E0
theorem pmtK {pl : Sem Bool} (G : GmK X.prog X.w X.K X.mg X.base CX0 k C m kw ps sp) (hr : Room k X.A) (he : PE X o ta) (hv : PE X e te)
    (hall : (backToKw pos (keywordEach [⟨some kw, e, kpos⟩] X.env)).all (·.1.isSome) = true := by rfl) (hks : (backToKw pos (keywordEach [⟨some kw, e, kpos⟩] X.env)).filterMap (·.1) = [kw] := by rfl)
    (hpl : ((backTo pos (starEach [] X.env)).any (·.1) || (backToKw pos (keywordEach [⟨some kw, e, kpos⟩] X.env)).any (·.1.isNone)) = false := by rfl)
    (ht : eval (.Call (.Attribute o m apos) [] [⟨some kw, e, kpos⟩] pos) X.env = (do
      let ov ← eval o X.env
      standAt apos.atName
      let (f, first) ← holding [ov] (getMethod ov m pl)
      callWith pos f first (backTo pos (starEach [] X.env)) (backToKw pos (keywordEach [⟨some kw, e, kpos⟩] X.env))) := by rfl) :
    PE X (.Call (.Attribute o m apos) [] [⟨some kw, e, kpos⟩] pos) (tMtK C m sp ta te) := by
  obtain ⟨f, fd, hm, hb, F⟩ := G.ex
  refine ⟨fun pins s σ H Q I h => PySem.W.methodCall_KW (pl := pl) (thn (he.run pins s σ H _ I h) fun u s1 ⟨x, H1, I1, rx, a, dx, fs, ex, ea, l, q⟩ => ?_) ht⟩
  subst ex
  obtain rfl : u = Value.ref a := rx
  refine getmeth_ok I1 ea G.cl hm l (PySem.W.callWith_KW0 (first := [.ref a]) (h₀ := X.base) I.ok.mod.kin hm.kp hall (thn ((pk_cons hv pk_nil).run pos pins s1 σ H1 _ I1 q) fun ws s2 ⟨zs, H2, I2, rz, q2⟩ => ⟨I2.kIn, ?_⟩) hpl)
  obtain ⟨z, ez, q2⟩ := q2
  subst ez
  obtain ⟨u1, ew, r1⟩ := rz.one
  subst ew
  rw [hks]
  have r2 : Vals [V.ref a, z] [Value.ref a, u1] := .cons rfl (.cons r1 .nil)
  refine wpAny_call (codeAny_mono (F.run X.A X.stack s2 H2 ⟨[.ref a], [(kw, u1)]⟩ [.ref a, u1] [V.ref a, z] Q E0 hr I2.env0 (hb s2 (.ref a) u1 I2.kIn) r2 q2) fun r s' hq => ?_)
  cases r with
  | error e => exact hq.elim
  | ok fl =>
    cases fl with
    | ret u => exact I2.after hq
    | next => exact False.elim hq
    | brk => exact False.elim hq
    | cont => exact False.elim hq
end
end Ob

/-! OE: o.m(e, lambda: ..), the method calls what it got -/
namespace Ob
open PySem PySem.Spec PyProof.Rows L2 LamX

section
variable {X : Cx} {pins : List (Addr × Obj)} {σ : L2.St} {H : Hp} {s : Shared}
/-- what x() reads as in the method that got the lambda: slot i holds it, its code object is known; E0: what its body lets out, wished for at the slots as they stand -/
def tWork (i : Nat) (f c' : Addr) (q : Str) (W : WX) (tl : XK → Hp → VK → Prop) : TE := fun σZ HZ Q => σZ[i]? = some (some (.ref f)) ∧ HZ c' = some (CodeO c' q) ∧ ∃ E : XK, (∀ cls d H', E cls d H' → W cls d σZ H') ∧ tl E HZ Q
theorem pe_work {CXg : CXT} {Eg : XK} {Ng : List Str} {qg : Str} {sg : Scope} {g f c' : Addr} {cdg pm ctv : Value} {params : Arguments} {body : Expr} {scope : Scope} {k i : Nat} {a : Str} {pn : List (Addr × Obj)} {xe : Value → Shared → Prop} {W : WX} {t : XK → TE} {p1 p2 : Pos} {sG : Shared} {HG : Hp}
    (I : Inv X pins σ HG sG) (L : LamS X.env.scope scope) (hf : sG.heap.get? f = some (PySem.W.kla_obj "<lambda>" (X.env.qual ++ "<lambda>") params body scope (cloFrom X.env.cells scope.names []) pm c' ctv)) (hfn : HG f = none) (hfr : f ∉ frs X.stack)
    (hbind : bindArgs (PySem.W.kla_fn "<lambda>" (X.env.qual ++ "<lambda>") params body scope (cloFrom X.env.cells scope.names []) pm (.ref c') ctv) ⟨[], []⟩ = pure [])
    (tk : Takes ((cxOf CXg X.prog X.w X.K X.mg X.base Ng qg sg g cdg X.A X.stack sG HG Eg).tr pn xe) W) (hr : Room (k + 1) (X.A.deeper (envOfC qg sg sG.heap.objs.size g cdg)))
    (hbody : ∀ (A : Around) (outer : List Env) (s : Shared) (H : Hp) (E : XK), Room k (A.deeper (lamEnv X scope s.heap.objs.size f c')) → PE (lamCx X A outer s H E scope f c') body (t E))
    (hN : Ng[i]? = some a) (hv : Vis sg a) (hd : (a == ("__debug__" : Str)) = false := by decide) (hcd : (a == ("__classdict__" : Str)) = false := by decide) :
    PE ((cxOf CXg X.prog X.w X.K X.mg X.base Ng qg sg g cdg X.A X.stack sG HG Eg).tr pn xe) (.Call (.Name a p1) [] [] p2) (tWork i f c' (X.env.qual ++ "<lambda>") W fun E H' Q => t E σ H' Q) := by
  refine ⟨fun pZ sZ σZ HZ Q IZ h => ?_⟩
  obtain ⟨hs, hc, E, hW, ht⟩ := h
  refine wpAny_Call_Name_kw (thn ((pe_var (pos := p1) (i := i) hN hv hd hcd).run pZ sZ σZ HZ (fun v H1 => v = .ref f ∧ H1 = HZ) IZ ⟨.ref f, hs, rfl, rfl⟩) fun u s1 ⟨v, H1, I1, r1, ev, eH⟩ => ?_)
  subst ev
  subst eH
  obtain rfl : u = Value.ref f := r1
  have of1 : s1.heap.get? f = some (PySem.W.kla_obj "<lambda>" (X.env.qual ++ "<lambda>") params body scope (cloFrom X.env.cells scope.names []) pm c' ctv) := I1.base.keep f _ hf hfn hfr (fun z => nomatch (show f ∈ ([] : List Addr) from z))
  have un : Un (frs X.stack) [] HG H1 sG.heap s1.heap := I1.base
  obtain ⟨⟨oc, vs, tq, hoc, hdc, hvc⟩, _, _⟩ := I1.hok c' _ hc
  let Z := envOfC qg sg sG.heap.objs.size g cdg
  have rc : codeAny (model X.prog X.w) (X.A.deeper Z) (.call (.ref f) ⟨[], []⟩) (CR (L2.CX X.prog X.w) (Z :: X.stack) X.prog X.w H1 s1 Q E) s1 := by
    refine PySem.W.kla_callFunE hr.depth of1 rfl L.co L.gen rfl ⟨c', oc, vs, tq, rfl, hoc, hdc, hvc⟩ ?_
    rw [hbind]
    refine wpAny_pure (wpAny_newFunctionEnv (fun y hy => (L.own y hy).2) (fun y hy => absurd hy (by simp)) (fun h1 hns hsb => ⟨I1.nolimit.fresh _ hsb, ?_⟩) L.kind)
    show codeAny _ _ (.expr body (lamEnv X scope s1.heap.objs.size f c')) _ _
    have kp : ∀ b o, s1.heap.get? b = some o → h1.get? b = some o := fun b o e => hsb.extBut b o (Nat.ne_of_lt (Heap.lt_size e)) (Heap.get?_push_of_some _ e)
    have J : Inv (lamCx X (X.A.deeper Z) (Z :: X.stack) s1 H1 E scope f c') [] σ H1 { s1 with heap := h1, toks := s1.toks + ([] : List (Str × Value)).length } := lam_start2 I L I1.env0 hr.hd un hns kp
    exact PySem.W.kla_codeExpr (wpAny_mono ((hbody _ _ s1 H1 E (hr.deeper _)).run [] _ _ H1 Q J ht) (fun v s' ⟨w', H', J', rv, q⟩ => ⟨w', H', J'.os, J'.bare, J'.base, J'.hok, rv, q⟩) fun e s' hq => hq)
  refine PySem.W.callWith_F0 ⟨_, _, _, _, of1⟩ (wpAny_call (codeAny_mono rc fun r s' hq => ?_))
  cases r with
  | error e => exact tk e s' (XE.of_call I1 hW hq)
  | ok fl =>
    cases fl with
    | ret u => exact I1.after hq
    | next => exact False.elim hq
    | brk => exact False.elim hq
    | cont => exact False.elim hq
end

/-- the method's own part: its text with the call of what it got read by tl -/
def Works (X : Cx) (Ng : List Str) (qg : Str) (sg : Scope) (g : Addr) (cdg : Value) (bg : List Stmt) (a : Str) (i : Nat) (q : Str) (k : Nat) (tb : Addr → Addr → (XK → Hp → VK → Prop) → XK → TS) : Prop :=
  ∀ (f c' : Addr) (s : Shared) (H : Hp) (E : XK) (tl : XK → Hp → VK → Prop), Room k (X.A.deeper (envOfC qg sg s.heap.objs.size g cdg)) →
    (∀ (W : WX) (pn : List (Addr × Obj)) (xe : Value → Shared → Prop) (p1 p2 : Pos), Takes ((cxOf (L2.CX X.prog X.w) X.prog X.w X.K X.mg X.base Ng qg sg g cdg X.A X.stack s H E).tr pn xe) W →
      PE ((cxOf (L2.CX X.prog X.w) X.prog X.w X.K X.mg X.base Ng qg sg g cdg X.A X.stack s H E).tr pn xe) (.Call (.Name a p1) [] [] p2) (tWork i f c' q W tl)) →
    PSs (cxOf (L2.CX X.prog X.w) X.prog X.w X.K X.mg X.base Ng qg sg g cdg X.A X.stack s H E) bg (tb f c' tl E)
/-- o.m(e, lambda: ..): t, the lambda's body; W, what is wished of what comes out -/
def tLamM (C : Addr) (m : Str) (T : List (Addr × Str)) (H0 : Hp) (Ng : List Str) (q : Str) (tb : Addr → Addr → (XK → Hp → VK → Prop) → XK → TS) (E : L2.St → XK) (to te : TE) (t : XK → TE) : TE := fun σ H Q => to σ H fun x H1 => ∃ a dx fs, x = .ref a ∧ H1 a = some (.ins C dx fs) ∧ fs.lookup m = none ∧
  te σ H1 fun y H2 => Tabs T H2 ∧ ∀ (f c' : Addr) (H3 : Hp), ExtN H2 H3 → Tabs T H3 → (∀ b ps, H0 b = some (.tbl ps) → ∃ o, H3 b = some o) → H3 f = none → H3 c' = some (CodeO c' q) → tb f c' (fun E' H' Q' => t E' σ H' Q') (E σ) { nx := fun _ H' => Q .non H', rt := Q } (L2.start Ng [x, y, .ref f]) H3
section
variable {X : Cx}
theorem pe_lamM {T : List (Addr × Str)} {tb : Addr → Addr → (XK → Hp → VK → Prop) → XK → TS} {m a0 a1 a2 nm qg : Str} {C g c P : Addr} {k : Nat} {sg : Stmt} {fd : FuncData} {Ng : List Str} {E : L2.St → XK} {pl : Sem Bool}
    {params : Arguments} {body : Expr} {scope : Scope} {t : XK → TE} {o we : Expr} {to tw : TE} {lpos apos pos : Pos}
    (he : PE X o to) (cl : Cls X.K C) (hm : Meth X.K C m g) (hw : PE X we tw) (Fg : Fun X.K nm qg sg g fd) (hb : Binds X.K fd [a0, a1, a2] []) (Sg : FnScope Ng [a0, a1, a2] (defScope sg)) (hN : Ng[2]? = some a2) (hva : Vis (defScope sg) a2)
    (hG : ∀ cdg, Works X Ng qg (defScope sg) g cdg (defBody sg) a2 2 (X.env.qual ++ "<lambda>") (k + 1) tb)
    (TB : TabB X.base X.mg c P) (hcode : X.env.code = .ref c) (hmT : (P, X.env.qual ++ "<lambda>") ∈ T) (hu : ∀ p ∈ T, p.1 = P → p.2 = X.env.qual ++ "<lambda>") (hr : Room (k + 2) X.A) (L : LamS X.env.scope scope) (hdef : defaultsOf params X.env = ([], []))
    (hbind : ∀ (q : Str) (cl : List (Str × Addr)) (pm cv ctv : Value), bindArgs (PySem.W.kla_fn "<lambda>" q params body scope cl pm cv ctv) ⟨[], []⟩ = pure [])
    (hx : ∀ σ, PassesAt (L2.CX X.prog X.w) X σ (E σ))
    (hbody : ∀ (A : Around) (outer : List Env) (s : Shared) (H : Hp) (E : XK) (f c' : Addr), Room k (A.deeper (lamEnv X scope s.heap.objs.size f c')) → PE (lamCx X A outer s H E scope f c') body (t E))
    (hd : (a2 == ("__debug__" : Str)) = false := by decide) (hcd : (a2 == ("__classdict__" : Str)) = false := by decide)
    (hst : starEach [we, .Lambda params body scope lpos] X.env = (false, eval we X.env) :: starEach [.Lambda params body scope lpos] X.env := by rfl) (hpl : (backTo pos (starEach [.Lambda params body scope lpos] X.env)).any (·.1) = false := by rfl)
    (hst2 : starEach [.Lambda params body scope lpos] X.env = (false, eval (.Lambda params body scope lpos) X.env) :: starEach [] X.env := by rfl)
    (ht : eval (.Call (.Attribute o m apos) [we, .Lambda params body scope lpos] [] pos) X.env = (do
      let ov ← eval o X.env
      standAt apos.atName
      let (f, first) ← holding [ov] (getMethod ov m pl)
      callWith pos f first (backTo pos (starEach [we, .Lambda params body scope lpos] X.env)) (backToKw pos (keywordEach [] X.env))) := by rfl) :
    PE X (.Call (.Attribute o m apos) [we, .Lambda params body scope lpos] [] pos) (tLamM C m T X.H_0 Ng (X.env.qual ++ "<lambda>") tb E to tw t) := by
  obtain ⟨oc, od, kV, doc, pm, an, cdv, ct, osl, efd, lk, hcd2⟩ := Fg.ex
  refine ⟨fun pins s σ H Q I h => PySem.W.methodCall_KW (pl := pl) (thn (he.run pins s σ H _ I h) fun u s1 ⟨x, H1, I1, rx, a, dx, fs, ex, ea, l, q⟩ => ?_) ht⟩
  subst ex
  obtain rfl : u = Value.ref a := rx
  refine getmeth_ok I1 ea cl hm l (PySem.W.callWith_K (first := [.ref a]) (h₀ := X.base) I.ok.mod.kin hm.kp ?_ hst hpl)
  rw [hst, hst2]
  show wpAny _ _ (spliced ((false, eval we X.env) :: (false, eval (.Lambda params body scope lpos) X.env) :: backTo pos (starEach [] X.env))) _ _ s1
  refine Calls.spliced_cons (thn (hw.run pins s1 σ H1 _ I1 q) fun u2 s2 ⟨y, H2, I2, ry, hT, q2⟩ => ?_)
  refine Calls.spliced_cons (lam_make2 I2 TB hcode hmT hu hT hdef (L.has I.ok) fun f c' pm' ctv H3 s3 I3 eN T3 hf hfn hfr hco => ?_)
  refine Calls.spliced_nil ⟨I3.kIn, ?_⟩
  have q3 := q2 f c' H3 eN T3 (fun b ps e => (I3.base.tbls b ps e).elim fun m z => ⟨_, z⟩) hfn hco
  show wpAny _ _ (call (.ref g) [.ref a, u2, .ref f]) _ _ _
  have rv : Vals [V.ref a, y, V.ref f] [Value.ref a, u2, .ref f] := .cons rfl (.cons ry (.cons rfl .nil))
  have bnd := hb s3 [Value.ref a, u2, .ref f] I3.kIn rfl
  rw [List.append_nil] at bnd
  subst efd
  refine wpAny_call (codeAny_mono (run_ofS (CX := L2.CX X.prog X.w) (N := Ng) (ps := [a0, a1, a2]) (us := [.ref a, u2, .ref f]) (vs := [.ref a, y, .ref f]) (E := E σ) (Q := Q) lk hcd2 Sg hr I3.env0 bnd rv rfl fun hr' => ⟨_, hG cdv f c' s3 H3 (E σ) (fun E' H' Q' => t E' σ H' Q') hr' fun W pn xe p1 p2 tk => ?_, q3⟩) fun r s4 hq => ?_)
  · exact pe_work (i := 2) I3 L hf hfn hfr (hbind _ _ _ _ _) tk hr' (fun A outer s H E hr2 => hbody A outer s H E f c' hr2) hN hva hd hcd
  · cases r with
    | error e => exact hx σ pins H3 s3 e s4 I3 hq
    | ok fl =>
      cases fl with
      | ret u => exact I3.after hq
      | next => exact False.elim hq
      | brk => exact False.elim hq
      | cont => exact False.elim hq
end
end Ob

/-! OF: except (A, B, ..) as n, every error of the body one of these -/
namespace Ob
open PySem PySem.Spec PyProof.Rows L2

theorem fly_grow {base : Heap} {l : List Env} {e : Addr} {Z : Obj → Prop} {h h' : Heap} (f : HandSPX.FlyingZ base l e Z h) (k : ∀ b o, h.get? b = some o → h'.get? b = some o) : HandSPX.FlyingZ base l e Z h' := by
  obtain ⟨f1, f2, f3, oe, vs, T, oT, ts, a1, a2, a3, a4, a5, a6, a7, a8, a9⟩ := f
  exact ⟨fun b o q => k b o (f1 b o q), f2, f3.of_keeps fun b o q _ => ⟨o, k b o q, rfl⟩, oe, vs, T, oT, ts, k _ _ a1, a2, a3, a4, a5, a6, k _ _ a7, a8, a9⟩
/-- the classes of the tuple, as names of the module -/
inductive ClsNames (X : Cx) : List Expr → List Addr → Prop
  | nil : ClsNames X [] []
  | cons {x : Str} {p : Pos} {c : Addr} {es : List Expr} {cs : List Addr} (hg : Gl X x) (hm : X.mg x = some (.ref c)) (r : ClsNames X es cs) (hd : (x == ("__debug__" : Str)) = false := by decide) : ClsNames X (.Name x p :: es) (c :: cs)
section
variable {X : Cx} {pins : List (Addr × Obj)} {σ : L2.St} {H : Hp} {s : Shared}
theorem names_eval (pos : Pos) {E : Value → Shared → Prop} (I : Inv X pins σ H s) : ∀ {es : List Expr} {cs : List Addr}, ClsNames X es cs → ∀ {Q : List Value → Shared → Prop}, Q (cs.map Value.ref) s → wpAny (model X.prog X.w) X.A (spliced (backTo pos (starEach es X.env))) Q E s
  | _, _, .nil, Q, h => Calls.spliced_nil h
  | _, _, @ClsNames.cons _ x p c es cs hg hm r hd, Q, h => by
    show wpAny _ _ (spliced ((false, eval (.Name x p) X.env) :: backTo pos (starEach es X.env))) _ _ s
    exact Calls.spliced_cons (ld_glob I hg hm (names_eval pos I r h) hd)
end
/-- a loop whose turns all go on, or one of which ends it -/
theorem turns {α β : Type} {M : Model} {A : Around} {E : Value → Shared → Prop} {f : α → β → Sem (ForInStep β)} {b : β} {G : Shared → Prop} : ∀ {cs : List α} {Q : β → Shared → Prop} {s : Shared}, (∀ c ∈ cs, ∀ (Q : ForInStep β → Shared → Prop) (s : Shared), G s → Q (.yield b) s → wpAny M A (f c b) Q E s) → G s → Q b s → wpAny M A (forIn cs b f) Q E s
  | [], Q, s, _, _, q => by
    rw [List.forIn_nil]
    exact wpAny_pure q
  | c :: cs, Q, s, h, g, q => by
    rw [List.forIn_cons]
    exact wpAny_bind (h c (List.mem_cons_self ..) _ s g (turns (fun d hd => h d (List.mem_cons_of_mem _ hd)) g q))
theorem turns_end {α β : Type} {M : Model} {A : Around} {E : Value → Shared → Prop} {f : α → β → Sem (ForInStep β)} {b r : β} {G : Shared → Prop} {t : α → Bool} : ∀ {cs : List α} {Q : β → Shared → Prop} {s : Shared}, (∀ c ∈ cs, ∀ (Q : ForInStep β → Shared → Prop) (s : Shared), G s → Q (if t c = true then .done r else .yield b) s → wpAny M A (f c b) Q E s) → G s → Q (if cs.any t = true then r else b) s → wpAny M A (forIn cs b f) Q E s
  | [], Q, s, _, _, q => by
    rw [List.forIn_nil]
    exact wpAny_pure q
  | c :: cs, Q, s, h, g, q => by
    rw [List.forIn_cons]
    refine wpAny_bind (h c (List.mem_cons_self ..) _ s g ?_)
    cases e : t c with
    | true =>
      rw [if_pos rfl]
      rw [List.any_cons, e, Bool.true_or, if_pos rfl] at q
      exact wpAny_pure q
    | false =>
      rw [if_neg Bool.false_ne_true]
      rw [List.any_cons, e, Bool.false_or] at q
      exact turns_end (fun d hd => h d (List.mem_cons_of_mem _ hd)) g q
theorem exm_each {K : PySem.W.Frag} {cls : Value} : ∀ {cs : List Value} {b : Bool}, PySem.W.exmAny K cls cs = some b → ∃ t : Value → Bool, (∀ c ∈ cs, PySem.W.exmOne K cls c = some (t c)) ∧ b = cs.any t := by
  intro cs b h
  refine ⟨fun c => (PySem.W.exmOne K cls c).getD false, ?_⟩
  induction cs generalizing b with
  | nil =>
    unfold PySem.W.exmAny at h
    cases h
    exact ⟨fun c hc => absurd hc (by simp), rfl⟩
  | cons c cs ih =>
    obtain ⟨b1, d1, h1, h2, e⟩ := PySem.W.exmAny_cons h
    obtain ⟨i1, i2⟩ := ih h2
    refine ⟨fun x hx => ?_, ?_⟩
    · rcases List.mem_cons.mp hx with z | z
      · show PySem.W.exmOne K cls x = some ((PySem.W.exmOne K cls x).getD false)
        rw [z, h1]; rfl
      · exact i1 x z
    · rw [List.any_cons, e, ← i2, h1]
      rfl
/-- a tuple of classes names the error's class -/
theorem exm_tupN {M : Model} {K : PySem.W.Frag} {cls : Value} {tp e : Addr} {b : Bool} {h : Heap} {cs : List Value} (X : K.In h) (LT : PySem.W.Looks M h (typeOf (.ref e)) cls) (hp : h.get? tp = some { cls := .type "tuple", data := .seq cs.toArray })
    (hx : PySem.W.exmAny K cls cs = some b) : PySem.W.Looks M h (excMatches (.ref e) (.ref tp)) b := by
  have L0 : PySem.W.Looks M h (isInstance (.ref tp) (.type "tuple")) true := ((PySem.W.Looks.ld hp).andThen .now).andThen (PySem.W.Looks.of_pure isSubtype_tuple_tuple)
  obtain ⟨t, ht, eb⟩ := exm_each hx
  intro A Q E s k q
  have hp' := k _ _ hp
  unfold excMatches
  refine wpAny_bind ((L0.keeps k).here ?_)
  dsimp only
  rw [if_pos rfl]
  refine wpAny_bind (wpAny_seqItems hp' rfl (wpAny_bind (wpAny_pure ?_)))
  dsimp only [Option.getD_some, Option.getD]
  refine wpAny_bind (turns (G := fun s' => s' = s) (fun c hc Q' s' g q' => ?_) rfl ?_)
  · subst g
    obtain ⟨e1, _⟩ := PySem.W.exm_cls (M := M) X (ht c hc)
    refine wpAny_bind ((e1.keeps k).here ?_)
    exact wpAny_pure q'
  · refine wpAny_bind ((LT.keeps k).here ?_)
    refine wpAny_bind (turns_end (G := fun s' => s' = s) (t := t) (r := (some true, ())) (fun c hc Q' s' g q' => ?_) rfl ?_)
    · subst g
      obtain ⟨_, e2⟩ := PySem.W.exm_cls (M := M) X (ht c hc)
      refine wpAny_bind ((e2.keeps k).here ?_)
      cases z : t c with
      | true =>
        rw [z, if_pos rfl] at q'
        exact wpAny_pure q'
      | false =>
        rw [z, if_neg Bool.false_ne_true] at q'
        exact wpAny_pure q'
    · rw [eb] at q
      cases z : cs.any t with
      | true =>
        rw [z] at q
        rw [if_pos rfl]
        exact wpAny_pure q
      | false =>
        rw [z] at q
        rw [if_neg Bool.false_ne_true]
        exact wpAny_pure q

theorem ClsNames.suite {X : Cx} {a : Addr} {pn : List (Addr × Obj)} {es : List Expr} {cs : List Addr} (hc : ClsNames X es cs) : ClsNames (X.suite a pn) es cs := by
  induction hc with
  | nil => exact .nil
  | cons g m r dbg ih => exact .cons g m ih dbg
/-- what the clause 'except (A, B, ..) as n' wishes of an exception of the body: it is one of these -/
def wTup (K : PySem.W.Frag) (cs : List Addr) (i : Nat) (ts : Addr → Value → Option Addr → TS) (D : Ends) : WX := fun cls d σ H =>
  PySem.W.exmAny K cls (cs.map Value.ref) = some true ∧ (∀ a, H a = none → ts a cls d { nx := fun σ' H' => D.nx (σ'.set i none) H', rt := D.rt, bk := fun σ' H' => D.bk (σ'.set i none) H', ct := fun σ' H' => D.ct (σ'.set i none) H' } (σ.set i (some (.ref a))) H)
section
variable {X : Cx} {n : Str} {cs : List Addr} {es : List Expr} {kk} {i : Nat} {body suite : List Stmt} {b₀ : Stmt} {tp pos pos' : Pos} {tb : WX → TS} {ts : Addr → Value → Option Addr → TS}
theorem ps_try_tup (hs : X.stack = X.env :: X.outer) (hf : X.env.frame = some X.env.locals) (hN : X.N.Nodup) (hi : X.N[i]? = some n) (hln : X.env.kindOf n = some .local) (hc : ClsNames X es cs) (hl : cs.length ≤ sizeLine)
    (hb : ∀ (W : WX) (pn : List (Addr × Obj)) (xe : Value → Shared → Prop), Takes (X.tr pn xe) W → PassesOwn (model X.prog X.w) X.A X.env xe → PSs (X.tr pn xe) body (tb W))
    (hsu : ∀ (a : Addr) (oe : Obj) (cls : Value) (d : Option Addr) (pn : List (Addr × Obj)), Zc cls d oe → (∃ vs, oe.data = .fields vs) → PSs (X.suite a ((a, oe) :: pn)) (b₀ :: suite) (ts a cls d)) :
    PS X (.Try body [.ExceptHandler (some (.Tuple es kk tp)) (some n) (b₀ :: suite) pos'] [] [] pos) (fun D σ H => tb (wTup X.K cs i ts D) D σ H) := by
  refine ⟨fun pins s σ H D I h => ?_⟩
  have ok := I.ok
  have hfr : X.A.frames = some (X.env :: X.outer) := by rw [ok.frames, hs]
  have hloc : Loc X.env.scope n := .inl hln
  refine wpAny_Try_except ?_
  refine wpAny_mono ((hb (wTup X.K cs i ts D) (X.pn ++ pins) (fun e s₁ => wpAny (model X.prog X.w) X.A (noteFrame e X.env) (fun _ s₂ => wpAny (model X.prog X.w) X.A (setFlight e none) (fun _ s₃ =>
    wpAny (model X.prog X.w) X.A (handleBy e X.env [.ExceptHandler (some (.Tuple es kk tp)) (some n) (b₀ :: suite) pos']) (SP X pins D) X.xe s₃) X.xe s₂) X.xe s₁) (fun u s' xx => ?_) PassesOwn.looking).run [] s σ H D (I.toTry _) h) (fun f s1 hsp => ?_) (fun e s1 he => he)
  · -- the catch
    obtain ⟨a, B, sI, pins', σ', H', cls, d, rfl, J', nb, up, sky, na, os, ag, hb1, hyes⟩ := xx
    have J : Inv X pins σ' H' sI := J'.ofTry ok
    have sky' : Sky B (X.env :: X.outer) a (Zc cls d) X.env.locals s'.heap := by rw [← hs]; exact sky
    show wpAny (model X.prog X.w) X.A (noteFrame (.ref a) X.env) _ _ _
    refine Sky.land Zc.steady hfr hf sky' fun h3 fl3 up3 => ?_
    have J3 : Inv X pins σ' H' { s' with heap := h3 } := J.landed nb fl3.1 (up.trans up3) os ag
    obtain ⟨oe3, vs3, he3, hz3, hd3⟩ := fl3.there
    have notFr : ∀ {h : Heap} {o : Obj} {vs : Array Value}, h.FunFrames B (X.env :: X.outer) → h.get? a = some o → o.data = .fields vs → a ∉ frs (X.env :: X.outer) := fun {h o vs} ff e dd hm => by
      obtain ⟨_, o', e', hnf⟩ := ff.mem hm
      rw [e] at e'; cases e'
      exact hnf _ dd
    have nfr := notFr fl3.2.2.1 he3 hd3
    have nL : a ≠ X.env.locals := fun z => nfr (List.mem_filterMap.mpr ⟨X.env, List.mem_cons_self, by rw [hf, z]⟩)
    have nF : a ∉ X.fs := fun hm => by
      obtain ⟨e, he, q⟩ := List.mem_filterMap.mp hm
      exact nfr (List.mem_filterMap.mpr ⟨e, List.mem_cons_of_mem _ he, q⟩)
    have S3 := J3.suite he3 hd3 na nL nF
    have hc3 : ClsNames (X.suite a ((a, oe3) :: (X.pn ++ pins))) es cs := hc.suite
    refine wpAny_handleBy_cons (codeAny_handlers_test ?_) (by intro q; cases q)
    refine wpAny_Tuple_spliced (names_eval (X := X.suite a ((a, oe3) :: (X.pn ++ pins))) tp S3 hc3 ⟨by rw [List.length_map]; exact hl, ?_⟩)
    let h3p : Heap := h3.push { cls := .type "tuple", data := .seq (cs.map Value.ref).toArray }
    have kp : ∀ b o, h3.get? b = some o → h3p.get? b = some o := fun b o e => Heap.get?_push_of_some _ e
    have ht : h3p.get? h3.objs.size = some { cls := .type "tuple", data := .seq (cs.map Value.ref).toArray } := Heap.get?_push_size h3 rfl
    have fl3p : HandSPX.FlyingZ B (X.env :: X.outer) a (Zc cls d) h3p := fly_grow fl3 kp
    have up3p : h3.UpToSlots h3p := fun b o q _ => ⟨o.slots, kp b o q⟩
    have LT : PySem.W.Looks (model X.prog X.w) h3p (typeOf (.ref a)) cls := fun A Q E s k q => wpAny_typeOf_ref (k _ _ (kp _ _ he3)) (by rw [hz3.1]; exact q)
    have LM := exm_tupN (M := model X.prog X.w) (J3.kIn.keeps kp) LT ht hb1
    show wpAny (model X.prog X.w) _ (excMatches (.ref a) (.ref h3.objs.size)) _ _ { s' with heap := h3p }
    refine LM.here ?_
    refine codeAny_handlers_suite_as ?_
    refine HandSPX.lands_againZ fl3p fun h4 fl4 up4 => ?_
    have J4 : Inv X pins σ' H' { s' with heap := h4 } := J.landed nb fl4.1 (((up.trans up3).trans up3p).trans up4) os ag
    obtain ⟨oe4, vs4, he4, hz4, hd4⟩ := fl4.there
    have S4 := J4.suite he4 hd4 na nL nF
    refine store_ok (X := X.suite a ((a, oe4) :: (X.pn ++ pins))) (v := .ref a) S4 hN hi hloc rfl (fun s5 S5 => ?_) (.inr hln)
    refine wpAny_mono ((hsu a oe4 cls d (X.pn ++ pins) hz4 ⟨_, hd4⟩).run [] s5 _ H' _ S5 (hyes a na)) (fun f s6 hsp => ?_) (fun _ _ z => False.elim z)
    have end_ : ∀ {σ6 : L2.St} {H6 : Hp} {Q : Shared → Prop}, Inv (X.suite a ((a, oe4) :: (X.pn ++ pins))) [] σ6 H6 s6 → (∀ s7, Inv X pins (σ6.set i none) H6 s7 → Q s7) →
        wpAny (model X.prog X.w) X.A (do bindName X.env n .none; unbindBehindTheSuite X.env n pos') (fun _ s7 => Q s7) X.xe s6 := fun {σ6 H6 Q} S6 hq => gone_ok (S6.unsuite ok) hN hi hln hq
    cases f with
    | next =>
      obtain ⟨σ6, H6, S6, q6⟩ := hsp
      exact end_ S6 fun s7 J7 => ⟨_, _, J7, q6⟩
    | brk =>
      obtain ⟨σ6, H6, S6, q6⟩ := hsp
      exact end_ S6 fun s7 J7 => ⟨_, _, J7, q6⟩
    | cont =>
      obtain ⟨σ6, H6, S6, q6⟩ := hsp
      exact end_ S6 fun s7 J7 => ⟨_, _, J7, q6⟩
    | ret u =>
      obtain ⟨v6, σ6, H6, S6, r6, q6⟩ := hsp
      exact end_ S6 fun s7 J7 => ⟨_, _, _, J7, r6, q6⟩
  · cases f with
    | next =>
      obtain ⟨σ', H', J', q⟩ := hsp
      exact wpAny_execs_nil ⟨σ', H', J'.ofTry ok, q⟩
    | brk =>
      obtain ⟨σ', H', J', q⟩ := hsp
      exact ⟨σ', H', J'.ofTry ok, q⟩
    | cont =>
      obtain ⟨σ', H', J', q⟩ := hsp
      exact ⟨σ', H', J'.ofTry ok, q⟩
    | ret u =>
      obtain ⟨v, σ', H', J', r, q⟩ := hsp
      exact ⟨v, σ', H', J'.ofTry ok, r, q⟩
end
end Ob

/-! OG: the data, the frame, filtering comprehensions -/
namespace Ob
open PySem PySem.Spec PyProof.Rows L2 LamX

abbrev Pan := List Str × List Pr
abbrev Pg := Pan × List Str
def stD (S : List Str) : PyData := .tuple (S.map .str)
def psD (ps : List Pr) : PyData := .tuple (ps.map prD)
def panD (P : Pan) : PyData := .tuple [stD P.1, psD P.2]
def pgD (g : Pg) : PyData := .tuple [panD g.1, stD g.2]

section
variable {K : PySem.W.Frag} {H H' H0 : Hp} {v : V} {xs : List V}
theorem dp_tup {ds : List PyData} (h : Dp K H v (.tuple ds)) : ∃ a xs, v = .ref a ∧ SqT K H a xs ∧ DpAll K H xs ds := by
  cases h with
  | tup h1 h2 => exact ⟨_, _, rfl, h1, h2⟩
theorem dp_lst {ds : List PyData} (h : Dp K H v (.list ds)) : ∃ a xs, v = .ref a ∧ SqL K H a xs ∧ DpAll K H xs ds := by
  cases h with
  | lst h1 h2 => exact ⟨_, _, rfl, h1, h2⟩
theorem dp_str {x : Str} (h : Dp K H v (.str x)) : v = .str x := by
  cases h
  rfl
theorem dpAll_str : ∀ {xs : List V} {S : List Str}, DpAll K H xs (S.map .str) → xs = S.map V.str
  | _, [], h => by cases h; rfl
  | _, x :: S, h => by
    cases h with
    | cons h1 h2 =>
      rw [dp_str h1, dpAll_str h2]
      rfl
theorem dpAll_strs : ∀ (S : List Str), DpAll K H (S.map V.str) (S.map .str)
  | [] => .nil
  | x :: S => .cons (.str x) (dpAll_strs S)
theorem dpAll_app : ∀ {xs ys : List V} {ds es : List PyData}, DpAll K H xs ds → DpAll K H ys es → DpAll K H (xs ++ ys) (ds ++ es)
  | _, _, _, _, .nil, h => h
  | _, _, _, _, .cons a b, h => .cons a (dpAll_app b h)
theorem dpAll_drop : ∀ {xs : List V} {ds : List PyData} (n : Nat), DpAll K H xs ds → DpAll K H (xs.drop n) (ds.drop n)
  | _, _, 0, h => h
  | _, _, n + 1, .nil => .nil
  | _, _, n + 1, .cons a b => dpAll_drop n b
theorem dpAll_take : ∀ {xs : List V} {ds : List PyData} (n : Nat), DpAll K H xs ds → DpAll K H (xs.take n) (ds.take n)
  | _, _, 0, h => .nil
  | _, _, n + 1, .nil => .nil
  | _, _, n + 1, .cons a b => .cons a (dpAll_take n b)
theorem dp_st {S : List Str} (h : Dp K H v (stD S)) : ∃ a, v = .ref a ∧ SqT K H a (S.map V.str) := by
  obtain ⟨a, xs, e, h1, h2⟩ := dp_tup h
  exact ⟨a, e, dpAll_str h2 ▸ h1⟩
theorem dp_st_of {S : List Str} {a : Addr} (h : SqT K H a (S.map V.str)) : Dp K H (.ref a) (stD S) := .tup h (dpAll_strs S)
theorem dp_ps {ps : List Pr} (h : Dp K H v (psD ps)) : ∃ a xs, v = .ref a ∧ SqT K H a xs ∧ DpAll K H xs (ps.map prD) := dp_tup h
theorem dp_two {d e : PyData} (h : Dp K H v (.tuple [d, e])) : ∃ a x y, v = .ref a ∧ SqT K H a [x, y] ∧ Dp K H x d ∧ Dp K H y e := by
  obtain ⟨a, xs, e, h1, h2⟩ := dp_tup h
  cases h2 with
  | cons h3 h4 =>
    cases h4 with
    | cons h5 h6 =>
      cases h6
      exact ⟨a, _, _, e, h1, h3, h5⟩
theorem dp_two_of {d e : PyData} {a : Addr} {x y : V} (h : SqT K H a [x, y]) (h1 : Dp K H x d) (h2 : Dp K H y e) : Dp K H (.ref a) (.tuple [d, e]) := .tup h (.cons h1 (.cons h2 .nil))
theorem dp_prI {p : Pr} (h : Dp K H v (prD p)) : ∃ a, v = .ref a ∧ SqT K H a [.str p.1, .str p.2] := by
  obtain ⟨a, x, y, e, h1, h2, h3⟩ := dp_two h
  rw [dp_str h2, dp_str h3] at h1
  exact ⟨a, e, h1⟩
theorem dp_pr_of {p : Pr} {a : Addr} (h : SqT K H a [.str p.1, .str p.2]) : Dp K H (.ref a) (prD p) := dp_two_of h (.str _) (.str _)
theorem sqT {a : Addr} {xs : List V} (h : H a = some (.tup xs)) : SqT K H a xs := .inl (.inl h)
theorem sqL {a : Addr} {xs : List V} (h : H a = some (.lst xs)) : SqL K H a xs := .inl (.inl h)
end

/-! ### the frame: the lists at S may change, and the code tables -/
structure Fr (T : List (Addr × Str)) (S : List Addr) (H H' : Hp) : Prop where
  keep : ∀ a o, H a = some o → ((∃ xs, o = .lst xs) → a ∉ S) → (∀ ps, o ≠ .tbl ps) → H' a = some o
  dom : ∀ a o, H a = some o → ∃ o', H' a = some o'
  tabs : Tabs T H → Tabs T H'
/-- what a def may write -/
def Soft : Option HO → Prop
  | none => True
  | some (.lst _) => True
  | some (.ins _ _ _) => True
  | some (.dK _) => True
  | some (.frz _ (.dK _)) => True
  | some (.own _) => True
  | some (.tup _) => True
  | _ => False
section
variable {T : List (Addr × Str)} {K : PySem.W.Frag} {S S' S1 : List Addr} {H H' H0 H1 H2 : Hp} {v : V} {xs : List V} {p a : Addr} {o : HO}
theorem tabs_upd (h : Tabs T H) (hs : Soft (H p)) : Tabs T (upd H p o) := fun q hq => by
  obtain ⟨ps, h1, h2, h3⟩ := h q hq
  have ne : ∀ b u, H b = some u → ¬ Soft (some u) → b ≠ p := fun b u e n z => n (by rw [← e, z]; exact hs)
  refine ⟨ps, ?_, h2, fun pos cv hc => ?_⟩
  · rw [upd_ne (ne _ _ h1 (fun z => z))]
    exact h1
  · obtain ⟨c, e1, e2⟩ := h3 pos cv hc
    refine ⟨c, e1, ?_⟩
    rw [upd_ne (ne _ _ e2 (fun z => z))]
    exact e2
theorem Fr.refl : Fr T S H H := ⟨fun a o h _ _ => h, fun a o h => ⟨o, h⟩, fun h => h⟩
theorem Fr.call (f : Fr T S H0 H1) (g : Fr T S1 H1 H2) (hs : ∀ a ∈ S1, a ∈ S ∨ H0 a = none) : Fr T S H0 H2 := by
  refine ⟨fun a o h n t => ?_, fun a o h => ?_, fun h => g.tabs (f.tabs h)⟩
  · refine g.keep a o (f.keep a o h n t) (fun l m => ?_) t
    rcases hs a m with q | q
    · exact n l q
    · rw [h] at q; cases q
  · obtain ⟨o1, h1⟩ := f.dom a o h
    exact g.dom a o1 h1
theorem Fr.trans (f : Fr T S H0 H1) (g : Fr T S H1 H2) : Fr T S H0 H2 := f.call g fun a h => .inl h
theorem Fr.call0 (f : Fr T S H0 H1) (g : Fr T [] H1 H2) : Fr T S H0 H2 := f.call g fun a h => absurd h (by simp)
theorem Fr.more (f : Fr T S H H') (h : ∀ a ∈ S, a ∈ S') : Fr T S' H H' := ⟨fun a o e n t => f.keep a o e (fun l m => n l (h a m)) t, f.dom, f.tabs⟩
theorem Fr.zero (f : Fr T [] H H') : Fr T S H H' := f.more fun a h => absurd h (by simp)
/-- all that is written lies where nothing was -/
theorem Fr.drop (f : Fr T S H H') (h : ∀ a ∈ S, H a = none ∨ a ∈ S') : Fr T S' H H' := ⟨fun a o e n t => f.keep a o e (fun l m => by
  rcases h a m with q | q
  · rw [e] at q; cases q
  · exact n l q) t, f.dom, f.tabs⟩
theorem Fr.put (f : Fr T S H0 H) (hs : Soft (H p)) (hp : H0 p = none ∨ (p ∈ S ∧ ∃ xs, H0 p = some (.lst xs))) : Fr T S H0 (upd H p o) := by
  refine ⟨fun a u e n t => ?_, fun a u e => ?_, fun h => tabs_upd (f.tabs h) hs⟩
  · have ne : a ≠ p := fun z => by
      subst z
      rcases hp with q | ⟨q, xs, q2⟩
      · rw [e] at q; cases q
      · rw [e] at q2; cases q2
        exact n ⟨_, rfl⟩ q
    rw [upd_ne ne]
    exact f.keep a u e n t
  · by_cases z : a = p
    · rw [z, upd_same]; exact ⟨_, rfl⟩
    · rw [upd_ne z]; exact f.dom a u e
theorem Fr.nw (f : Fr T S H0 H) (h : H p = none) : Fr T S H0 (upd H p o) := by
  refine f.put (by rw [h]; exact True.intro) (.inl ?_)
  cases e : H0 p with
  | none => rfl
  | some u =>
    obtain ⟨u', z⟩ := f.dom _ _ e
    rw [h] at z; cases z
theorem Fr.free (f : Fr T S H0 H) (h : H p = none) : H0 p = none := by
  cases e : H0 p with
  | none => rfl
  | some u =>
    obtain ⟨u', z⟩ := f.dom _ _ e
    rw [h] at z; cases z
theorem Fr.ext (f : Fr T S H0 H) (e : ExtN H H1) (hd : ∀ a o, H a = some o → ∃ o', H1 a = some o') (t : Tabs T H1) : Fr T S H0 H1 := ⟨fun a o h n q => e a o (f.keep a o h n q) q, fun a o h => (f.dom a o h).elim fun o1 h1 => hd a o1 h1, fun _ => t⟩
theorem Fr.tup (f : Fr T S H H') (h : H a = some (.tup xs)) : H' a = some (.tup xs) := f.keep a _ h (fun ⟨_, z⟩ => nomatch z) fun ps z => nomatch z
theorem Fr.ins {C dx : Addr} {fs : List (Str × V)} (f : Fr T S H H') (h : H a = some (.ins C dx fs)) : H' a = some (.ins C dx fs) := f.keep a _ h (fun ⟨_, z⟩ => nomatch z) fun ps z => nomatch z
theorem Fr.dK {kvs : List (Key × V)} (f : Fr T S H H') (h : H a = some (.dK kvs)) : H' a = some (.dK kvs) := f.keep a _ h (fun ⟨_, z⟩ => nomatch z) fun ps z => nomatch z
theorem Fr.lst (f : Fr T S H H') (h : H a = some (.lst xs)) (n : a ∉ S := by simp) : H' a = some (.lst xs) := f.keep a _ h (fun _ => n) fun ps z => nomatch z
theorem Fr.sqT (f : Fr T S H H') (h : SqT K H a xs) : SqT K H' a xs := by
  rcases h with (h | ⟨o, h⟩) | h
  · exact .inl (.inl (f.tup h))
  · exact .inl (.inr ⟨o, f.keep a _ h (fun ⟨_, z⟩ => nomatch z) fun ps z => nomatch z⟩)
  · exact .inr h
theorem Fr.sqL (f : Fr T S H H') (h : SqL K H a xs) (n : a ∉ S := by simp) : SqL K H' a xs := by
  rcases h with (h | ⟨o, h⟩) | h
  · exact .inl (.inl (f.lst h n))
  · exact .inl (.inr ⟨o, f.keep a _ h (fun ⟨_, z⟩ => nomatch z) fun ps z => nomatch z⟩)
  · exact .inr h
/-- what never changes stands -/
def Tk (H H' : Hp) : Prop := ∀ a o, H a = some o → ((∃ xs, o = .tup xs) ∨ ∃ ob u, o = .frz ob u) → H' a = some o
theorem Fr.tk (f : Fr T S H H') : Tk H H' := fun a o h k => f.keep a o h (fun ⟨_, z⟩ => by subst z; rcases k with ⟨_, k⟩ | ⟨_, _, k⟩ <;> cases k) fun ps z => by subst z; rcases k with ⟨_, k⟩ | ⟨_, _, k⟩ <;> cases k
theorem Tk.sqT (f : Tk H H') (h : SqT K H a xs) : SqT K H' a xs := by
  rcases h with (h | ⟨o, h⟩) | h
  · exact .inl (.inl (f _ _ h (.inl ⟨_, rfl⟩)))
  · exact .inl (.inr ⟨o, f _ _ h (.inr ⟨_, _, rfl⟩)⟩)
  · exact .inr h
theorem tk_ins {C dx : Addr} {fs : List (Str × V)} {o : HO} (h : H p = some (.ins C dx fs)) : Tk H (upd H p o) := fun a u e k => by
  rw [upd_ne (fun z => ?_)]
  · exact e
  · subst z
    rw [e] at h
    cases h
    rcases k with ⟨_, k⟩ | ⟨_, _, k⟩ <;> cases k
/-- data without a list -/
def Imm (d : PyData) : Prop := ∀ {K : PySem.W.Frag} {H H' : Hp} {v : V}, Tk H H' → Dp K H v d → Dp K H' v d
theorem imm_str (x : Str) : Imm (.str x) := fun f h => by
  rw [dp_str h]
  exact .str x
theorem dpAll_tk : ∀ {ds : List PyData} {xs : List V}, (∀ d ∈ ds, Imm d) → Tk H H' → DpAll K H xs ds → DpAll K H' xs ds
  | _, _, _, _, .nil => .nil
  | _, _, i, f, .cons a b => .cons (i _ (List.mem_cons_self ..) f a) (dpAll_tk (fun d h => i d (List.mem_cons_of_mem _ h)) f b)
theorem dpAll_fr {ds : List PyData} {xs : List V} (i : ∀ d ∈ ds, Imm d) (f : Fr T S H H') (h : DpAll K H xs ds) : DpAll K H' xs ds := dpAll_tk i f.tk h
theorem imm_tup {ds : List PyData} (h : ∀ d ∈ ds, Imm d) : Imm (.tuple ds) := fun f q => by
  obtain ⟨a, xs, rfl, h1, h2⟩ := dp_tup q
  exact .tup (f.sqT h1) (dpAll_tk h f h2)
theorem imm_two {d e : PyData} (h : Imm d) (h' : Imm e) : Imm (.tuple [d, e]) := imm_tup fun x hx => by
  rcases List.mem_cons.mp hx with z | z
  · rw [z]; exact h
  · rw [List.mem_singleton.mp z]; exact h'
theorem imm_pr (p : Pr) : Imm (prD p) := imm_two (imm_str _) (imm_str _)
theorem imm_st (S : List Str) : Imm (stD S) := imm_tup fun d h => by
  obtain ⟨x, _, e⟩ := List.mem_map.mp h
  rw [← e]; exact imm_str x
theorem imm_ps (ps : List Pr) : Imm (psD ps) := imm_tup fun d h => by
  obtain ⟨x, _, e⟩ := List.mem_map.mp h
  rw [← e]; exact imm_pr x
theorem imm_prs (ps : List Pr) : ∀ d ∈ ps.map prD, Imm d := fun d h => by
  obtain ⟨x, _, e⟩ := List.mem_map.mp h
  rw [← e]; exact imm_pr x
theorem imm_pan (P : Pan) : Imm (panD P) := imm_two (imm_st _) (imm_ps _)
theorem imm_pg (g : Pg) : Imm (pgD g) := imm_two (imm_pan _) (imm_st _)
theorem Fr.dst {S2 : List Str} (f : Fr T S H H') (h : Dp K H v (stD S2)) : Dp K H' v (stD S2) := imm_st _ f.tk h
theorem Fr.dps {ps : List Pr} (f : Fr T S H H') (h : Dp K H v (psD ps)) : Dp K H' v (psD ps) := imm_ps _ f.tk h
theorem Fr.dpr {q : Pr} (f : Fr T S H H') (h : Dp K H v (prD q)) : Dp K H' v (prD q) := imm_pr _ f.tk h
theorem Fr.dpan {P : Pan} (f : Fr T S H H') (h : Dp K H v (panD P)) : Dp K H' v (panD P) := imm_pan _ f.tk h
theorem Fr.dpg {g : Pg} (f : Fr T S H H') (h : Dp K H v (pgD g)) : Dp K H' v (pgD g) := imm_pg _ f.tk h
theorem Fr.prs {ps : List Pr} (f : Fr T S H H') (h : DpAll K H xs (ps.map prD)) : DpAll K H' xs (ps.map prD) := dpAll_fr (imm_prs ps) f h
end
theorem small (n : Nat) (h : n ≤ 10000000) : n < sizeLine := by
  show n < 2 ^ 24
  omega
theorem small' (n : Nat) (h : n ≤ 10000000) : n ≤ sizeLine := Nat.le_of_lt (small n h)

/-! ### [x for x in xs if t], t and x looked up without a change of the heap -/
section
variable {K : PySem.W.Frag} {a : Addr} {g : TG} {tt : TT} {te : TE} {vs : List Nat} {σ : L2.St} {H1 : Hp} {D : Addr} {Qd : Hp → Prop} {α : Type}
/-- how a turn goes: x to the slots, the test, the item -/
def Turn1 (g : TG) (tt : TT) (te : TE) (vs : List Nat) (σ : L2.St) (H : Hp) (x : V) (b : Bool) (y : V) : Prop :=
  ∃ σ2, wipe σ2 vs = wipe σ vs ∧ (∀ Q : L2.St → Hp → Prop, Q σ2 H → g x (wipe σ vs) H Q) ∧ (∀ Q : Bool → Hp → Prop, Q b H → tt σ2 H Q) ∧ (b = true → ∀ Q : VK, Q y H → te σ2 H Q)
theorem upd_old {H : Hp} {D : Addr} {o : HO} (n : H D = none) : ∀ a u, H a = some u → upd H D o a = some u := fun a u e => by
  rw [upd_ne (ne_of_none e n)]; exact e
theorem up_same {H : Hp} {p : Addr} {o : HO} : upd H p o p = some o := upd_same
theorem lc_filtL {xs : List V} {as : List α} {c : α → PyData} {q : α → Bool} (hn : H1 D = none) (hq : SqL K H1 a xs) (hl : xs.length ≤ 1000000) (hx : DpAll K H1 xs (as.map c))
    (hs : ∀ x e acc, e ∈ as → Dp K H1 x (c e) → Turn1 g tt te vs σ (upd H1 D (.lst acc)) x (q e) x) (hd : ∀ acc, DpAll K H1 acc ((as.filter q).map c) → Qd (upd H1 D (.lst acc))) :
    ∃ W : Nat → Nat → Hp → Prop, (∃ m, W 0 m (upd H1 D (.lst []))) ∧ ∀ i m H, W i m H →
      ((Itl K a).stop i H ∧ Qd H) ∨ ((Itl K a).go i H ∧ ∃ Nx : Hp → Prop, (∀ H', Nx H' → ∃ m', m' < m ∧ W (i + 1) m' H') ∧ ∀ x H', (Itl K a).yld i H x H' → g x (wipe σ vs) H' fun σ2 H2 => wipe σ2 vs = wipe σ vs ∧ tt σ2 H2 fun b H3 =>
        if b = true then te σ2 H3 fun y H4 => ∃ acc, H4 D = some (.lst acc) ∧ acc.length < sizeLine ∧ Nx (upd H4 D (.lst (acc ++ [y]))) else Nx H3) := by
  have ll : xs.length = as.length := by rw [dpAll_len hx, List.length_map]
  refine lc_list (xs := xs) (Qd := Qd) (fun i H => ∃ acc, H = upd H1 D (.lst acc) ∧ DpAll K H1 acc (((as.take i).filter q).map c) ∧ acc.length ≤ i) ⟨[], rfl, .nil, Nat.zero_le _⟩ (fun i H _ h => ?_) (fun i x H hi h => ?_) (fun H h => ?_)
  · obtain ⟨acc, rfl, _, _⟩ := h
    rcases hq with (e | ⟨o, e⟩) | e
    · exact .inl (.inl (upd_old hn _ _ e))
    · exact .inl (.inr ⟨o, upd_old hn _ _ e⟩)
    · exact .inr e
  · obtain ⟨acc, rfl, ha, hl2⟩ := h
    obtain ⟨d, hd1, hd2⟩ := dpAll_at hx hi
    rw [List.getElem?_map] at hd1
    cases he : as[i]? with
    | none => rw [he] at hd1; cases hd1
    | some e =>
      rw [he] at hd1
      cases hd1
      obtain ⟨σ2, h1, h2, h3, h4⟩ := hs x e acc (List.mem_of_getElem? he) hd2
      refine h2 _ ⟨h1, h3 _ ?_⟩
      have tk : as.take (i + 1) = as.take i ++ [e] := by rw [List.take_add_one, he]; rfl
      have li := (List.getElem?_eq_some_iff.mp hi).1
      cases hb : q e with
      | true =>
        rw [if_pos rfl]
        refine h4 hb _ ⟨acc, upd_same, small _ (by omega), acc ++ [x], upd_upd, ?_, by rw [List.length_append]; simp; omega⟩
        rw [tk, List.filter_append, List.map_append, List.filter_cons_of_pos (by exact hb)]
        exact dpAll_app ha (.cons hd2 .nil)
      | false =>
        rw [if_neg Bool.false_ne_true]
        refine ⟨acc, rfl, ?_, by omega⟩
        rw [tk, List.filter_append, List.filter_cons_of_neg (by rw [hb]; exact Bool.false_ne_true), List.filter_nil, List.append_nil]
        exact ha
  · obtain ⟨acc, rfl, ha, _⟩ := h
    rw [ll, List.take_length] at ha
    exact hd acc ha
theorem lc_filtT {xs : List V} {as : List α} {c : α → PyData} {q : α → Bool} (hn : H1 D = none) (hq : SqT K H1 a xs) (hl : xs.length ≤ 1000000) (hx : DpAll K H1 xs (as.map c))
    (hs : ∀ x e acc, e ∈ as → Dp K H1 x (c e) → Turn1 g tt te vs σ (upd H1 D (.lst acc)) x (q e) x) (hd : ∀ acc, DpAll K H1 acc ((as.filter q).map c) → Qd (upd H1 D (.lst acc))) :
    ∃ W : Nat → Nat → Hp → Prop, (∃ m, W 0 m (upd H1 D (.lst []))) ∧ ∀ i m H, W i m H →
      ((Itt K a).stop i H ∧ Qd H) ∨ ((Itt K a).go i H ∧ ∃ Nx : Hp → Prop, (∀ H', Nx H' → ∃ m', m' < m ∧ W (i + 1) m' H') ∧ ∀ x H', (Itt K a).yld i H x H' → g x (wipe σ vs) H' fun σ2 H2 => wipe σ2 vs = wipe σ vs ∧ tt σ2 H2 fun b H3 =>
        if b = true then te σ2 H3 fun y H4 => ∃ acc, H4 D = some (.lst acc) ∧ acc.length < sizeLine ∧ Nx (upd H4 D (.lst (acc ++ [y]))) else Nx H3) := by
  have ll : xs.length = as.length := by rw [dpAll_len hx, List.length_map]
  refine lc_tup (xs := xs) (Qd := Qd) (fun i H => ∃ acc, H = upd H1 D (.lst acc) ∧ DpAll K H1 acc (((as.take i).filter q).map c) ∧ acc.length ≤ i) ⟨[], rfl, .nil, Nat.zero_le _⟩ (fun i H _ h => ?_) (fun i x H hi h => ?_) (fun H h => ?_)
  · obtain ⟨acc, rfl, _, _⟩ := h
    rcases hq with (e | ⟨o, e⟩) | e
    · exact .inl (.inl (upd_old hn _ _ e))
    · exact .inl (.inr ⟨o, upd_old hn _ _ e⟩)
    · exact .inr e
  · obtain ⟨acc, rfl, ha, hl2⟩ := h
    obtain ⟨d, hd1, hd2⟩ := dpAll_at hx hi
    rw [List.getElem?_map] at hd1
    cases he : as[i]? with
    | none => rw [he] at hd1; cases hd1
    | some e =>
      rw [he] at hd1
      cases hd1
      obtain ⟨σ2, h1, h2, h3, h4⟩ := hs x e acc (List.mem_of_getElem? he) hd2
      refine h2 _ ⟨h1, h3 _ ?_⟩
      have tk : as.take (i + 1) = as.take i ++ [e] := by rw [List.take_add_one, he]; rfl
      have li := (List.getElem?_eq_some_iff.mp hi).1
      cases hb : q e with
      | true =>
        rw [if_pos rfl]
        refine h4 hb _ ⟨acc, upd_same, small _ (by omega), acc ++ [x], upd_upd, ?_, by rw [List.length_append]; simp; omega⟩
        rw [tk, List.filter_append, List.map_append, List.filter_cons_of_pos (by exact hb)]
        exact dpAll_app ha (.cons hd2 .nil)
      | false =>
        rw [if_neg Bool.false_ne_true]
        refine ⟨acc, rfl, ?_, by omega⟩
        rw [tk, List.filter_append, List.filter_cons_of_neg (by rw [hb]; exact Bool.false_ne_true), List.filter_nil, List.append_nil]
        exact ha
  · obtain ⟨acc, rfl, ha, _⟩ := h
    rw [ll, List.take_length] at ha
    exact hd acc ha
end
end Ob

/-! OG2: sorted of a list of texts of any length -/
namespace Ob
open PySem PySem.Spec PyProof.Rows L2
theorem rising_pw : ∀ (r : List Str) (p : Str), risingS p r = true → (p :: r).Pairwise fun a b => sltB b a = false
  | [], p, _ => List.pairwise_singleton _ _
  | x :: r, p, h => by
    have h' : (!ltCps x.cps.toList p.cps.toList && risingS x r) = true := h
    rw [Bool.and_eq_true] at h'
    obtain ⟨h1, h2⟩ := h'
    have h3 : sltB x p = false := by
      unfold sltB
      rw [← ltCps_eq]
      cases e : ltCps x.cps.toList p.cps.toList with
      | false => rfl
      | true => rw [e] at h1; cases h1
    have ih := rising_pw r x h2
    refine List.pairwise_cons.mpr ⟨fun y hy => ?_, ih⟩
    rcases List.mem_cons.mp hy with e | hy
    · rw [e]; exact h3
    · exact slt_ntr (List.rel_of_pairwise_cons ih hy) h3
theorem sortedS_pw {l : List Str} (h : sortedS l = true) : l.Pairwise fun a b => sltB b a = false := by
  cases l with
  | nil => exact .nil
  | cons x r => exact rising_pw r x h
/-- sorted(xs), xs a list of texts -/
def rSortedT (K : PySem.W.Frag) : List V → Hp → VK → Prop := fun vs H Q => ∃ (a : Addr) (xs : List Str), vs = [V.ref a] ∧ SqL K H a (xs.map V.str) ∧ ∀ (p : Addr), H p = none → Q (.ref p) (upd H p (.lst ((sortS xs).map V.str)))
theorem cr_sortedT {X : Cx} : CallR X (.builtin "sorted") (rSortedT X.K) := by
  intro pins s σ H vs us Q I r h
  obtain ⟨a, xs, rfl, hs, q⟩ := h
  obtain ⟨its, rv, hl, hz⟩ := I.list hs
  rw [Vals.ref1 r]
  have hlen0 := rv.length
  rw [List.length_map] at hlen0
  refine PyProof.Rows.sorted_strsAny hl.isList rv.strs (by rw [← hlen0]; rw [List.length_map] at hz; exact hz) fun out ys h1 h2 h3 => ?_
  obtain ⟨ep, he'⟩ := PyProof.Rows.sortedAll_at s.heap its out
  have hlen : (ys.map V.str).length ≤ sizeLine := by rw [List.length_map, h2.length_eq]; rw [List.length_map] at hz; exact hz
  have ey : ys = sortS xs := sortS_one h2 (sortedS_pw h3)
  refine ⟨.ref _, upd H (s.heap.objs.size + 1) (.lst (ys.map V.str)), I.laid (t' := s.toks) (fun _ _ => PyProof.Rows.sortedAll_old) (Nat.le_succ _) ⟨hlen, out.toList, ep, vals_of_strs h1, he'⟩, rfl, ?_⟩
  rw [ey]
  exact q _ (I.hok.fresh (Nat.le_succ _))

/-! ### the fragment written out: for what stands in a comprehension -/
section
variable (K : PySem.W.Frag) {X : Cx}
theorem op_notIn_seqK (h : X.K = K := by rfl) : OpR X (compareOp .NotIn) (rIn K true) := by subst h; exact op_notIn_seq
theorem op_in_seqK (h : X.K = K := by rfl) : OpR X (compareOp .In) (rIn K false) := by subst h; exact op_in_seq
theorem ix_tupK (h : X.K = K := by rfl) : IxR X (rIxT K) := by subst h; exact ix_tup
theorem ix_listK (h : X.K = K := by rfl) : IxR X (rIxL K) := by subst h; exact ix_list
theorem ix_seqK (h : X.K = K := by rfl) : IxR X (rIx K) := by subst h; exact ix_seq
theorem cr_sortedTK (h : X.K = K := by rfl) : CallR X (.builtin "sorted") (rSortedT K) := by subst h; exact cr_sortedT
def rTupOf (K : PySem.W.Frag) : List V → Hp → VK → Prop := fun xs H Q =>
    ∃ p ys, xs = [V.ref p] ∧ ((SqL K H p ys ∧ ∀ (l : Addr), H l = none → Q (V.ref l) (upd H l (HO.tup ys))) ∨ SqT K H p ys ∧ Q (V.ref p) H)
theorem call_tuple_ofK (h : X.K = K := by rfl) : CallR X (.type "tuple") (rTupOf K) := by subst h; exact call_tuple_of
theorem op_inDK (hu : X.A.units + 65 < cLine) (h : X.K = K := by rfl) : OpR X (compareOp .In) (rInD K) := by subst h; exact op_inD hu
theorem pg_tupK (n : Nat) {es : List Expr} {k : Nat} {t : TGs} {pos : Pos} (hc : X.calm = true) (h : PGs X es t)
    (hn : (assignEach es X.env).length = n := by rfl) (hst : (assignEach es X.env).findIdx? (·.1) = none := by rfl) (hK : X.K = K := by rfl) : PG X (.Tuple es k pos) (gTup K n t) := by subst hK; exact pg_tup hc h hn hst
def rLstOf (K : PySem.W.Frag) : List V → Hp → VK → Prop := fun xs H Q => ∃ p ys, xs = [V.ref p] ∧ (SqL K H p ys ∨ SqT K H p ys) ∧ ∀ (l : Addr), H l = none → Q (V.ref l) (upd H l (HO.lst ys))
theorem call_list_ofK (h : X.K = K := by rfl) : CallR X (.type "list") (rLstOf K) := by subst h; exact call_list_of
end
end Ob

/-! OH: is_name, look_switches, rival_table, in_order, with_press, states_after, lost -/
namespace Ob
open PySem PySem.Spec PyProof.Rows L2 LamX
section
variable (K : PySem.W.Frag) (mg : Str → Option Value)
/-- a def of the module -/
structure Df (x q : Str) (st : Stmt) (ps : List Str) : Prop where
  ex : ∃ f fd, mg x = some (.ref f) ∧ PySem.W.keepIn K (.ref f) = true ∧ Binds K fd ps [] ∧ Fun K x q st f fd
/-- a def of the class at C -/
structure Dm (C : Addr) (m q : Str) (st : Stmt) (ps : List Str) : Prop where
  cl : Cls K C
  ex : ∃ f fd, Meth K C m f ∧ Binds K fd ps [] ∧ Fun K m q st f fd
/-- the __init__ of the class named x, at C -/
structure Di (x : Str) (C : Addr) (q : Str) (st : Stmt) (ps : List Str) : Prop where
  g : mg x = some (.ref C)
  cl : Cls K C
  ex : ∃ f fd, Mk K C f ∧ Binds K fd ps [] ∧ Fun K "__init__" q st f fd
/-- the module's names -/
structure Txt : Prop where
  n_isinstance : mg "isinstance" = none
  n_str : mg "str" = none
  n_len : mg "len" = none
  n_all : mg "all" = none
  n_any : mg "any" = none
  n_sorted : mg "sorted" = none
  n_tuple : mg "tuple" = none
  n_list : mg "list" = none
  n_dict : mg "dict" = none
  n_zip : mg "zip" = none
  n_abs : mg "abs" = none
  n_int : mg "int" = none
  n_bool : mg "bool" = none
  n_min : mg "min" = none
  n_max : mg "max" = none
  n_enumerate : mg "enumerate" = none
  n_range : mg "range" = none
  g_LETTERS : ∃ t, mg "LETTERS" = some (.str "abcdefghijklmnopqrstuvwxyz" t)
  g_MOST_LETTERS : ∃ t, mg "MOST_LETTERS" = some (.int 6 t)
  g_IN : ∃ t, mg "IN" = some (.str "in" t)
  g_OUT : ∃ t, mg "OUT" = some (.str "out" t)
end
section
variable {P : Program} {w : World} {K : PySem.W.Frag} {mg : Str → Option Value} {base : Heap}
theorem Df.ok {x q : Str} {st : Stmt} {N ps : List Str} {k : Nat} {sp : Sp} (D : Df K mg x q st ps) (S : FnScope N ps (defScope st)) (len : ∀ vs H Q E, sp vs H Q E → vs.length = ps.length)
    (hbody : ∀ (f : Addr) (cdv : Value) (A : Around) (outer : List Env) (s : Shared) (H : Hp) (vs : List V) (Q : VK) (E : XK), Room k (A.deeper (envOfC q (defScope st) s.heap.objs.size f cdv)) → sp vs H Q E →
      ∃ t, PSs (cxOf CX0 P w K mg base N q (defScope st) f cdv A outer s H E).nox (defBody st) t ∧ t { nx := fun _ H' => Q .non H', rt := Q } (start N vs) H) : Gd P w K mg base CX0 (k + 1) x ps sp := by
  obtain ⟨f, fd, h1, h2, h3, h4⟩ := D.ex
  exact ⟨f, fd, h1, h2, h3, h4.ok S len fun cdv A outer s H vs Q E hr h => hbody f cdv A outer s H vs Q E hr h⟩
theorem Df.okX {x q : Str} {st : Stmt} {N ps : List Str} {k : Nat} {sp : Sp} (D : Df K mg x q st ps) (S : FnScope N ps (defScope st)) (len : ∀ vs H Q E, sp vs H Q E → vs.length = ps.length)
    (hbody : ∀ (f : Addr) (cdv : Value) (A : Around) (outer : List Env) (s : Shared) (H : Hp) (vs : List V) (Q : VK) (E : XK), Room k (A.deeper (envOfC q (defScope st) s.heap.objs.size f cdv)) → sp vs H Q E →
      ∃ t, PSs (cxOf (L2.CX P w) P w K mg base N q (defScope st) f cdv A outer s H E) (defBody st) t ∧ t { nx := fun _ H' => Q .non H', rt := Q } (start N vs) H) : Gd P w K mg base (L2.CX P w) (k + 1) x ps sp := by
  obtain ⟨f, fd, h1, h2, h3, h4⟩ := D.ex
  exact ⟨f, fd, h1, h2, h3, h4.okX S len fun cdv A outer s H vs Q E hr h => hbody f cdv A outer s H vs Q E hr h⟩
theorem Dm.ok {C : Addr} {m q : Str} {st : Stmt} {N ps : List Str} {k : Nat} {sp : Sp} (D : Dm K C m q st ps) (S : FnScope N ps (defScope st)) (len : ∀ vs H Q E, sp vs H Q E → vs.length = ps.length)
    (hbody : ∀ (f : Addr) (cdv : Value) (A : Around) (outer : List Env) (s : Shared) (H : Hp) (vs : List V) (Q : VK) (E : XK), Room k (A.deeper (envOfC q (defScope st) s.heap.objs.size f cdv)) → sp vs H Q E →
      ∃ t, PSs (cxOf CX0 P w K mg base N q (defScope st) f cdv A outer s H E).nox (defBody st) t ∧ t { nx := fun _ H' => Q .non H', rt := Q } (start N vs) H) : Gm P w K mg base CX0 (k + 1) C m ps sp := by
  obtain ⟨f, fd, h1, h3, h4⟩ := D.ex
  exact ⟨D.cl, f, fd, h1, h3, h4.ok S len fun cdv A outer s H vs Q E hr h => hbody f cdv A outer s H vs Q E hr h⟩
theorem Dm.okX {C : Addr} {m q : Str} {st : Stmt} {N ps : List Str} {k : Nat} {sp : Sp} (D : Dm K C m q st ps) (S : FnScope N ps (defScope st)) (len : ∀ vs H Q E, sp vs H Q E → vs.length = ps.length)
    (hbody : ∀ (f : Addr) (cdv : Value) (A : Around) (outer : List Env) (s : Shared) (H : Hp) (vs : List V) (Q : VK) (E : XK), Room k (A.deeper (envOfC q (defScope st) s.heap.objs.size f cdv)) → sp vs H Q E →
      ∃ t, PSs (cxOf (L2.CX P w) P w K mg base N q (defScope st) f cdv A outer s H E) (defBody st) t ∧ t { nx := fun _ H' => Q .non H', rt := Q } (start N vs) H) : Gm P w K mg base (L2.CX P w) (k + 1) C m ps sp := by
  obtain ⟨f, fd, h1, h3, h4⟩ := D.ex
  exact ⟨D.cl, f, fd, h1, h3, h4.okX S len fun cdv A outer s H vs Q E hr h => hbody f cdv A outer s H vs Q E hr h⟩
theorem Di.ok {C : Addr} {x q : Str} {st : Stmt} {N ps : List Str} {k : Nat} {sp : Sp} (D : Di K mg x C q st ps) (S : FnScope N ps (defScope st)) (len : ∀ vs H Q E, sp vs H Q E → vs.length = ps.length)
    (hbody : ∀ (f : Addr) (cdv : Value) (A : Around) (outer : List Env) (s : Shared) (H : Hp) (vs : List V) (Q : VK) (E : XK), Room k (A.deeper (envOfC q (defScope st) s.heap.objs.size f cdv)) → sp vs H Q E →
      ∃ t, PSs (cxOf CX0 P w K mg base N q (defScope st) f cdv A outer s H E).nox (defBody st) t ∧ t { nx := fun _ H' => Q .non H', rt := Q } (start N vs) H) : Gk P w K mg base CX0 (k + 1) x C ps sp := by
  obtain ⟨f, fd, h1, h3, h4⟩ := D.ex
  exact ⟨D.g, f, fd, h1, h3, h4.ok S len fun cdv A outer s H vs Q E hr h => hbody f cdv A outer s H vs Q E hr h⟩
theorem hu64_of {A : Around} {k : Nat} (hr : Room k A) : A.units + 64 < cLine := hr.units
theorem hu65_of {A : Around} {k : Nat} (hr : Room k A) : A.units + 65 < cLine := by
  have := hr.un
  omega
end

/-! ### [t for c in text], t a truth -/
section
variable {K : PySem.W.Frag} {g : TG} {te : TE} {vs : List Nat} {σ : L2.St} {H1 : Hp} {D : Addr} {Qd : Hp → Prop}
theorem lc_chars {x : Str} {f : Nat → Bool} (hl : x.length ≤ 1000000)
    (hs : ∀ c H, ∃ σ2, wipe σ2 vs = wipe σ vs ∧ (∀ Q : L2.St → Hp → Prop, Q σ2 H → g (.str ⟨#[c]⟩) (wipe σ vs) H Q) ∧ (∀ Q : VK, Q (.bl (f c)) H → te σ2 H Q)) (hd : Qd (upd H1 D (.lst ((x.cps.toList.map f).map V.bl)))) :
    ∃ W : Nat → Nat → Hp → Prop, (∃ m, W 0 m (upd H1 D (.lst []))) ∧ ∀ i m H, W i m H →
      ((Its x).stop i H ∧ Qd H) ∨ ((Its x).go i H ∧ ∃ Nx : Hp → Prop, (∀ H', Nx H' → ∃ m', m' < m ∧ W (i + 1) m' H') ∧ ∀ y H', (Its x).yld i H y H' → g y (wipe σ vs) H' fun σ2 H2 => wipe σ2 vs = wipe σ vs ∧ tYes σ2 H2 fun b H3 =>
        if b = true then te σ2 H3 fun y H4 => ∃ acc, H4 D = some (.lst acc) ∧ acc.length < sizeLine ∧ Nx (upd H4 D (.lst (acc ++ [y]))) else Nx H3) := by
  refine ⟨fun i m H => m = x.cps.size - i ∧ i ≤ x.cps.size ∧ H = upd H1 D (.lst (((x.cps.toList.take i).map f).map V.bl)), ⟨x.cps.size, by simp, Nat.zero_le _, rfl⟩, ?_⟩
  rintro i m H ⟨rfl, hi, rfl⟩
  by_cases hlt : i < x.cps.size
  · refine .inr ⟨hlt, fun H => H = upd H1 D (.lst (((x.cps.toList.take (i + 1)).map f).map V.bl)), fun H' p' => ⟨x.cps.size - (i + 1), by omega, rfl, hlt, p'⟩, fun y H' e => ?_⟩
    obtain ⟨rfl, c, hc, rfl⟩ := e
    obtain ⟨σ2, h1, h2, h3⟩ := hs c (upd H1 D (.lst (((x.cps.toList.take i).map f).map V.bl)))
    refine h2 _ ⟨h1, ?_⟩
    simp only [tYes, if_true]
    refine h3 _ ⟨_, upd_same, small _ ?_, ?_⟩
    · rw [List.length_map, List.length_map, List.length_take]
      have : x.cps.size ≤ 1000000 := hl
      omega
    · rw [upd_upd, List.take_add_one, Array.getElem?_toList, hc, List.map_append, List.map_append]
      rfl
  · have e : i = x.cps.size := by omega
    subst e
    refine .inl ⟨Nat.le_refl _, ?_⟩
    have z : x.cps.toList.take x.cps.size = x.cps.toList := List.take_of_length_le (by simp)
    rw [z]
    exact hd
end

/-! ### is_name -/
def LET : Str := "abcdefghijklmnopqrstuvwxyz"
def isName (x : Str) : Bool := decide (1 ≤ x.length ∧ x.length ≤ 6) && x.cps.toList.all fun c => decide (c ∈ LET.cps.toList)
section
variable {P : Program} {w : World} {K : PySem.W.Frag} {mg : Str → Option Value} {base : Heap}
abbrev s_is_name : Stmt := top 13
theorem S_is_name : FnScope ["thing", "letter"] ["thing"] (defScope s_is_name) := ⟨rfl, rfl, rfl, by decide +kernel, rfl, by decide +kernel, by decide +kernel⟩
def sp_isName (T : List (Addr × Str)) : Sp := fun vs H Q _ => ∃ x : Str, vs = [.str x] ∧ x.length ≤ 1000 ∧ ∀ H', Fr T [] H H' → Q (.bl (isName x)) H'
theorem ok_is_name {T : List (Addr × Str)} (TX : Txt mg) (D : Df K mg "is_name" "is_name" s_is_name ["thing"]) : Gd P w K mg base CX0 1 "is_name" ["thing"] (sp_isName T) := by
  refine D.ok (k := 0) S_is_name (fun vs H Q E h => ?_) (fun f cdv A outer s H vs Q E hr h => ?_)
  · obtain ⟨x, rfl, _⟩ := h
    rfl
  · obtain ⟨x, rfl, hl, q⟩ := h
    obtain ⟨t1, g1⟩ := TX.g_LETTERS
    obtain ⟨t2, g2⟩ := TX.g_MOST_LETTERS
    -- slots: 0:thing 1:letter
    refine ⟨_, (pss_cons (ps_if (PW.pt (pw_or (pt_not (pt_val (pe_callB call_isi rfl TX.n_isinstance (by decide +kernel) (pa_cons (pv 0) (pa_cons (pe_bltn (v := .ty "str") (u := .type "str") rfl TX.n_str (by decide +kernel) rfl) pa_nil))))) (pw_or1 (pt_not (pt_chain op_le op_le pe_int (pe_callB call_len_str rfl TX.n_len (by decide +kernel) (pa_cons (pv 0) pa_nil)) (pe_glob (v := .int 6) rfl g2 ⟨_, rfl⟩)))))) (pss_one (ps_ret pe_bl)) pss_nil)
    (pss_one (ps_ret (pe_callB (cr_all rfl) rfl TX.n_all (by decide +kernel) (pa_cons (pe_lc (own := [("letter", 1)]) rfl S_is_name.nd (pi_str (pv 0)) (blkOk_by (N := ["thing", "letter"]) (sc := defScope s_is_name) (by decide +kernel)) (fun _ _ _ _ _ => (pg_name (i := 1) S_is_name.nd rfl (Or.inl rfl))) (fun _ _ _ _ _ => pts_nil) (fun _ _ _ _ _ => (pe_cmpR op_in_sign (pv 1) (pe_glob (v := .str LET) rfl g1 ⟨_, rfl⟩) rfl))) pa_nil))))), ?_⟩
    refine ⟨.str x, rfl, .str x, .ty "str", .type "str", .type "str", true, rfl, .ty _, .base (.str _), kit_ty (by decide +kernel), true, rfl, iteF ?_⟩
    refine ⟨.str x, rfl, x, rfl, small' _ (by omega), 1, x.length, rfl, rfl, _, rfl, ?_⟩
    by_cases h1 : (1 : Int) ≤ x.length
    · rw [decide_eq_true h1]
      refine iteT ⟨x.length, 6, rfl, rfl, _, rfl, ?_⟩
      by_cases h2 : (x.length : Int) ≤ 6
      · rw [decide_eq_true h2]
        refine iteF ⟨.str x, rfl, x, rfl, fun D hD => ?_⟩
        refine lc_chars (x := x) (f := fun c => decide (c ∈ LET.cps.toList)) (by omega) (fun c H => ⟨[some (.str x), some (.str ⟨#[c]⟩)], rfl, fun Q h => h, fun Q h => ⟨_, rfl, c, LET, rfl, rfl, h⟩⟩) ⟨D, _, rfl, sqL upd_same, ?_⟩
        rw [List.all_map]
        have e : isName x = x.cps.toList.all (id ∘ fun c => decide (c ∈ LET.cps.toList)) := by
          unfold isName
          rw [decide_eq_true ⟨by omega, by omega⟩]
          rfl
        rw [← e]
        exact q _ (Fr.refl.nw hD)
      · rw [decide_eq_false h2]
        refine iteT ?_
        have e : isName x = false := by
          unfold isName
          rw [decide_eq_false (fun h => h2 (by omega))]
          rfl
        exact e ▸ q _ .refl
    · rw [decide_eq_false h1]
      refine iteF ⟨false, rfl, iteT ?_⟩
      have e : isName x = false := by
        unfold isName
        rw [decide_eq_false (fun h => h1 (by omega))]
        rfl
      exact e ▸ q _ .refl

/-! ### texts in a row -/
theorem inV_strs (x : Str) (S : List Str) : inV (V.str x) (S.map V.str) = decide (x ∈ S) := by
  unfold inV
  rw [List.any_map]
  induction S with
  | nil => rfl
  | cons y S ih =>
    rw [List.any_cons, ih]
    have e : (((fun z => eqV z (V.str x)) ∘ V.str) y) = decide (y = x) := by rfl
    rw [e]
    by_cases h : y = x
    · subst h
      simp
    · have h2 : ¬ x = y := fun z => h z.symm
      simp [h, h2]
theorem flat_strs (S : List Str) : (S.map V.str).all flatV = true := by
  rw [List.all_map]
  exact List.all_eq_true.mpr fun x _ => rfl
theorem dec_str {a b : Str} [Decidable (V.str a = V.str b)] : decide (V.str a = V.str b) = decide (a = b) := by
  by_cases h : a = b
  · subst h
    simp
  · rw [decide_eq_false h]
    exact decide_eq_false fun z => h (V.str.inj z)
def rivB (ps : List Pr) (x s : Str) : Bool := ps.any fun p => decide (p = (x, s)) || decide (p = (s, x))
def press (ps : List Pr) (S : List Str) (s : Str) : List Str := sortS (S.filter (fun o => !rivB ps o s && !decide (o = s)) ++ [s])
theorem press_len (ps : List Pr) (S : List Str) (s : Str) : (press ps S s).length ≤ S.length + 1 := by
  unfold press
  rw [sortS_len, List.length_append]
  have := List.length_filter_le (fun o => !rivB ps o s && !decide (o = s)) S
  simp
  omega
/-- at d: the rivals of every switch -/
def TabAt (H : Hp) (d : Addr) (P : Pan) : Prop := ∃ kvs : List (Key × V), H d = some (.dK kvs) ∧ ∀ s ∈ P.1, ∃ (l : Addr) (xs : List Str), valV kvs (.inr s) = some (.ref l) ∧ H l = some (.lst (xs.map V.str)) ∧ (∀ x, decide (x ∈ xs) = rivB P.2 x s) ∧ xs.length ≤ 200000
theorem TabAt.fr {T : List (Addr × Str)} {S : List Addr} {H H' : Hp} {d : Addr} {P : Pan} (h : TabAt H d P) (f : Fr T S H H') (hS : ∀ b ∈ S, ∀ xs : List Str, H b ≠ some (.lst (xs.map V.str))) : TabAt H' d P := by
  obtain ⟨kvs, h1, h2⟩ := h
  refine ⟨kvs, f.dK h1, fun s hs => ?_⟩
  obtain ⟨l, xs, a, b, c⟩ := h2 s hs
  exact ⟨l, xs, a, f.lst b (fun m => hS l m xs b), c⟩
theorem TabAt.fr0 {T : List (Addr × Str)} {H H' : Hp} {d : Addr} {P : Pan} (h : TabAt H d P) (f : Fr T [] H H') : TabAt H' d P := h.fr f fun b m => absurd m (by simp)

/-! ### look_switches -/
abbrev s_look_switches : Stmt := top 14
theorem S_look_switches : FnScope ["panel", "switches", "switch"] ["panel", "switches"] (defScope s_look_switches) := ⟨rfl, rfl, rfl, by decide +kernel, rfl, by decide +kernel, by decide +kernel⟩
def sp_look (K : PySem.W.Frag) (T : List (Addr × Str)) (C : Addr) : Sp := fun vs H Q E => ∃ (pv : V) (P : Pan) (a : Addr) (xs : List Str), vs = [pv, .ref a] ∧ Dp K H pv (panD P) ∧ SqL K H a (xs.map V.str) ∧
  ((∀ x ∈ xs, x ∈ P.1) → Q .non H) ∧ ((∃ x ∈ xs, x ∉ P.1) → ∀ d H', Fr T [] H H' → E (.ref C) d H')
theorem ok_look {T : List (Addr × Str)} {C : Addr} {nI iI : String} {bmB : List Value} (D : Df K mg "look_switches" "look_switches" s_look_switches ["panel", "switches"]) (GX_NoSwitch : Gx P w K mg base 1 "NoSwitch" C "LookupError" nI iI bmB "switch" ["self", "switch"]) :
    Gd P w K mg base (L2.CX P w) 3 "look_switches" ["panel", "switches"] (sp_look K T C) := by
  refine D.okX (k := 2) S_look_switches (fun vs H Q E h => ?_) (fun f cdv A outer s H vs Q E hr h => ?_)
  · obtain ⟨pv, P, a, xs, rfl, _⟩ := h
    rfl
  · obtain ⟨pa, P, a, xs, rfl, hP, ha, q1, q2⟩ := h
    obtain ⟨b, x, y, rfl, hb, hx, hy⟩ := dp_two hP
    obtain ⟨c, rfl, hc⟩ := dp_st hx
    -- slots: 0:panel 1:switches 2:switch
    refine ⟨_, (pss_one (ps_for (passes_of rfl) rfl (pi_list (pv 1)) (pg_name (i := 2) S_look_switches.nd rfl (Or.inl rfl))
      (pss_one (ps_if (pt_cmpR (op_notIn_seqK K) (pv 2) (pe_ix (ix_tupK K) (pv 0) pe_int (fun _ _ => rfl)) rfl) (pss_one (prx GX_NoSwitch rfl rfl (hr.mono (by decide)) tkE (pa_cons (pv 2) pa_nil))) pss_nil)))), ?_⟩
    refine ⟨_, rfl, a, rfl, ⟨_, ha⟩, ?_⟩
    refine for_list (xs := xs.map V.str) (fun i σ H' => H' = H ∧ ∃ z, σ = [some (.ref b), some (.ref a), z] ∧ ∀ x ∈ xs.take i, x ∈ P.1) ⟨rfl, none, rfl, fun x h => absurd h (by simp)⟩ (fun i σ H' _ h => h.1 ▸ ha) (fun i x σ H' hi h => ?_) (fun σ H' h => ?_)
    · obtain ⟨rfl, z, rfl, hall⟩ := h
      rw [List.getElem?_map] at hi
      cases he : xs[i]? with
      | none => rw [he] at hi; cases hi
      | some e =>
        rw [he] at hi
        cases hi
        refine ⟨.str e, rfl, .ref b, rfl, b, _, 0, .ref c, rfl, rfl, hb, rfl, c, _, rfl, .inr hc, rfl, flat_strs _, _, rfl, ?_⟩
        show if (!inV (V.str e) (P.1.map V.str)) = true then _ else _
        rw [inV_strs]
        by_cases hm : e ∈ P.1
        · rw [decide_eq_true hm]
          refine iteF ⟨rfl, _, rfl, fun x hx => ?_⟩
          rw [List.take_add_one, he] at hx
          rcases List.mem_append.mp hx with h | h
          · exact hall x h
          · rw [List.mem_singleton.mp h]; exact hm
        · rw [decide_eq_false hm]
          refine iteT ⟨.str e, rfl, .str e, rfl, fun d hd => ?_⟩
          exact q2 ⟨e, List.mem_of_getElem? he, hm⟩ _ _ (Fr.refl.nw hd)
    · obtain ⟨rfl, z, rfl, hall⟩ := h
      rw [List.length_map, List.take_length] at hall
      exact q1 hall

/-! ### in_order -/
abbrev s_in_order : Stmt := top 16
theorem S_in_order : FnScope ["one", "other"] ["one", "other"] (defScope s_in_order) := ⟨rfl, rfl, rfl, by decide +kernel, rfl, by decide +kernel, by decide +kernel⟩
def ordB (x y : Str) : Pr := if sltB x y = true then (x, y) else (y, x)
def sp_order (K : PySem.W.Frag) (T : List (Addr × Str)) : Sp := fun vs H Q _ => ∃ (x y : Str), vs = [.str x, .str y] ∧ ∀ v H', Fr T [] H H' → Dp K H' v (prD (ordB x y)) → Q v H'
theorem ok_order {T : List (Addr × Str)} (D : Df K mg "in_order" "in_order" s_in_order ["one", "other"]) : Gd P w K mg base CX0 1 "in_order" ["one", "other"] (sp_order K T) := by
  refine D.ok (k := 0) S_in_order (fun vs H Q E h => ?_) (fun f cdv A outer s H vs Q E hr h => ?_)
  · obtain ⟨x, y, rfl, _⟩ := h
    rfl
  · obtain ⟨x, y, rfl, q⟩ := h
    -- slots: 0:one 1:other
    refine ⟨_, (pss_one (ps_ret (pe_ifExp (pt_cmpR op_lt_str (pv 0) (pv 1) (nomark _)) (pe_tup (pa_cons (pv 0) (pa_cons (pv 1) pa_nil))) (pe_tup (pa_cons (pv 1) (pa_cons (pv 0) pa_nil)))))), ?_⟩
    refine ⟨.str x, rfl, .str y, rfl, x, y, rfl, rfl, _, rfl, ?_⟩
    show if sltB x y = true then _ else _
    by_cases h : sltB x y = true
    · rw [if_pos h]
      refine ⟨.str x, rfl, .str y, rfl, small' 2 (by decide), fun p hp => ?_⟩
      refine q _ _ (Fr.refl.nw hp) ?_
      unfold ordB
      rw [if_pos h]
      exact dp_pr_of (sqT upd_same)
    · rw [if_neg h]
      refine ⟨.str y, rfl, .str x, rfl, small' 2 (by decide), fun p hp => ?_⟩
      refine q _ _ (Fr.refl.nw hp) ?_
      unfold ordB
      rw [if_neg h]
      exact dp_pr_of (sqT upd_same)

/-! ### with_press -/
abbrev s_with_press : Stmt := top 18
theorem S_with_press : FnScope ["rivals", "state", "switch", "other"] ["rivals", "state", "switch"] (defScope s_with_press) := ⟨rfl, rfl, rfl, by decide +kernel, rfl, by decide +kernel, by decide +kernel⟩
def sp_withPress (K : PySem.W.Frag) (T : List (Addr × Str)) : Sp := fun vs H Q _ => ∃ (d : Addr) (P : Pan) (v : V) (S : List Str) (s : Str), vs = [.ref d, v, .str s] ∧ TabAt H d P ∧ Dp K H v (stD S) ∧ s ∈ P.1 ∧ S.length ≤ 100000 ∧ ∀ v H', Fr T [] H H' → Dp K H' v (stD (press P.2 S s)) → Q v H'
theorem ok_withPress {T : List (Addr × Str)} (TX : Txt mg) (D : Df K mg "with_press" "with_press" s_with_press ["rivals", "state", "switch"]) : Gd P w K mg base CX0 1 "with_press" ["rivals", "state", "switch"] (sp_withPress K T) := by
  refine D.ok (k := 0) S_with_press (fun vs H Q E h => ?_) (fun f cdv A outer s H vs Q E hr h => ?_)
  · obtain ⟨d, P, v, S, s, rfl, _⟩ := h
    rfl
  · obtain ⟨d, P, v, S, sw, rfl, hT, hS, hs, hl, q⟩ := h
    obtain ⟨a, rfl, ha⟩ := dp_st hS
    obtain ⟨kvs, hd, hk⟩ := hT
    obtain ⟨l, xs, h1, h2, h3, _⟩ := hk sw hs
    -- slots: 0:rivals* 1:state 2:switch* 3:other
    refine ⟨_, (pss_one (ps_ret (pe_callTy (call_tuple_ofK K) rfl TX.n_tuple (by decide +kernel) (pa_cons (pe_callB (cr_sortedTK K) rfl TX.n_sorted (by decide +kernel) (pa_cons (pe_op op_cat (pe_lc (own := [("other", 3)]) rfl S_with_press.nd (pi_tup (pv 1)) (blkOk_by (N := ["rivals", "state", "switch", "other"]) (sc := defScope s_with_press) (by decide +kernel)) (fun _ _ _ _ _ => (pg_name (i := 3) S_with_press.nd rfl (Or.inl rfl))) (fun _ _ _ _ _ => (pts_one (PW.pt (pw_and (pt_cmpR (op_notIn_seqK K) (pv 3) (pe_dget (hu_of hr) (pv 0) (pv 2) (fun _ _ => rfl)) rfl) (pw_and1 (pt_cmpR op_ne (pv 3) (pv 2) (nomark _))))))) (fun _ _ _ _ _ => (pv 3))) (pe_lst (pa_cons (pv 2) pa_nil))) pa_nil)) pa_nil)))), ?_⟩
    refine ⟨.ref a, rfl, a, rfl, ⟨_, ha⟩, fun D hD => ?_⟩
    refine lc_filtT (as := S) (c := PyData.str) (q := fun o => !rivB P.2 o sw && !decide (o = sw)) hD ha (by rw [List.length_map]; omega) (dpAll_strs S) (fun x e acc he hx => ?_) (fun acc hacc => ?_)
    · obtain rfl := dp_str hx
      refine ⟨[some (.ref d), some (.ref a), some (.str sw), some (.str e)], rfl, fun Q h => h, fun Q h => ?_, fun _ Q h => ⟨_, rfl, h⟩⟩
      refine ⟨.str e, rfl, .ref d, rfl, .str sw, rfl, d, .ref l, rfl, ?_, l, _, rfl, .inl (sqL (upd_old hD _ _ h2)), rfl, flat_strs _, _, rfl, ?_⟩
      · rw [← h1]
        exact DGet.k (k := .inr sw) (upd_old hD _ _ hd)
      · show if (!inV (V.str e) (xs.map V.str)) = true then _ else _
        rw [inV_strs, h3]
        refine ite2 (fun c => ?_) (fun c => ?_)
        · refine ⟨.str e, rfl, .str sw, rfl, rfl, _, rfl, ?_⟩
          rw [c, Bool.true_and] at h
          rw [dec_str]
          exact h
        · have c : (!rivB P.2 e sw) = false := by
            cases z : (!rivB P.2 e sw) with
            | false => rfl
            | true => exact absurd z c
          rw [c] at h
          exact h
    · have ea := dpAll_str hacc
      subst ea
      refine ⟨.str sw, rfl, small' 1 (by decide), fun L hL => ?_⟩
      have fr0 : Fr T [] H (upd (upd H D (.lst ((S.filter (fun o => !rivB P.2 o sw && !decide (o = sw))).map V.str))) L (.lst [.str sw])) := (Fr.refl.nw hD).nw hL
      refine ⟨D, L, _, _, rfl, rfl, (upd_old hL _ _ upd_same), upd_same, small' _ ?_, fun M hM => ?_⟩
      · rw [List.length_map]
        have := List.length_filter_le (fun o => !rivB P.2 o sw && !decide (o = sw)) S
        simp
        omega
      refine ⟨M, S.filter (fun o => !rivB P.2 o sw && !decide (o = sw)) ++ [sw], rfl, ?_, fun p hp => ?_⟩
      · refine sqL ?_
        rw [upd_same, List.map_append]
        rfl
      refine ⟨p, _, rfl, .inl ⟨sqL upd_same, fun r hr2 => ?_⟩⟩
      exact q _ _ (((fr0.nw hM).nw hp).nw hr2) (dp_st_of (sqT upd_same))

/-! ### lost -/
abbrev s_lost : Stmt := top 24
theorem S_lost : FnScope ["before", "after", "switch"] ["before", "after"] (defScope s_lost) := ⟨rfl, rfl, rfl, by decide +kernel, rfl, by decide +kernel, by decide +kernel⟩
def sp_lost (K : PySem.W.Frag) (T : List (Addr × Str)) : Sp := fun vs H Q _ => ∃ (v u : V) (A B : List Str), vs = [v, u] ∧ Dp K H v (stD A) ∧ Dp K H u (stD B) ∧ A.length ≤ 100000 ∧ ∀ l H', H l = none → Fr T [] H H' → H' l = some (.lst ((A.filter fun x => !decide (x ∈ B)).map V.str)) → Q (.ref l) H'
theorem ok_lost {T : List (Addr × Str)} (D : Df K mg "lost" "lost" s_lost ["before", "after"]) : Gd P w K mg base CX0 1 "lost" ["before", "after"] (sp_lost K T) := by
  refine D.ok (k := 0) S_lost (fun vs H Q E h => ?_) (fun f cdv A outer s H vs Q E hr h => ?_)
  · obtain ⟨v, u, A, B, rfl, _⟩ := h
    rfl
  · obtain ⟨v, u, as, bs, rfl, hA, hB, hl, q⟩ := h
    obtain ⟨a, rfl, ha⟩ := dp_st hA
    obtain ⟨b, rfl, hb⟩ := dp_st hB
    -- slots: 0:before 1:after* 2:switch
    refine ⟨_, (pss_one (ps_ret (pe_lc (own := [("switch", 2)]) rfl S_lost.nd (pi_tup (pv 0)) (blkOk_by (N := ["before", "after", "switch"]) (sc := defScope s_lost) (by decide +kernel)) (fun _ _ _ _ _ => (pg_name (i := 2) S_lost.nd rfl (Or.inl rfl))) (fun _ _ _ _ _ => (pts_one (pt_cmpR (op_notIn_seqK K) (pv 2) (pv 1) rfl))) (fun _ _ _ _ _ => (pv 2))))), ?_⟩
    refine ⟨.ref a, rfl, a, rfl, ⟨_, ha⟩, fun D hD => ?_⟩
    refine lc_filtT (as := as) (c := PyData.str) (q := fun x => !decide (x ∈ bs)) hD ha (by rw [List.length_map]; omega) (dpAll_strs _) (fun x e acc he hx => ?_) (fun acc hacc => ?_)
    · obtain rfl := dp_str hx
      refine ⟨[some (.ref a), some (.ref b), some (.str e)], rfl, fun Q h => h, fun Q h => ?_, fun _ Q h => ⟨_, rfl, h⟩⟩
      refine ⟨.str e, rfl, .ref b, rfl, b, _, rfl, .inr ((Fr.refl (T := T) (S := [])).nw hD |>.sqT hb), rfl, flat_strs _, _, rfl, ?_⟩
      show Q (!inV (V.str e) (bs.map V.str)) _
      rw [inV_strs]
      exact h
    · have ea := dpAll_str hacc
      subst ea
      exact q _ _ hD (Fr.refl.nw hD) upd_same
end
end Ob

/-! OI: the tables of rivals; states_after; _law_after -/
namespace Ob
open PySem PySem.Spec PyProof.Rows L2 LamX

def accum (ps : List Pr) (s : Str) : List Str := ps.flatMap fun p => (if p.1 = s then [p.2] else []) ++ (if p.2 = s then [p.1] else [])
theorem accum_step (ps : List Pr) (p : Pr) (s : Str) : accum (ps ++ [p]) s = (accum ps s ++ (if p.1 = s then [p.2] else [])) ++ (if p.2 = s then [p.1] else []) := by
  unfold accum
  rw [List.flatMap_append, List.flatMap_cons, List.flatMap_nil, List.append_nil, List.append_assoc]
theorem accum_len : ∀ (ps : List Pr) (s : Str), (accum ps s).length ≤ 2 * ps.length
  | [], _ => Nat.zero_le _
  | p :: ps, s => by
    have ih := accum_len ps s
    have e : accum (p :: ps) s = ((if p.1 = s then [p.2] else []) ++ (if p.2 = s then [p.1] else [])) ++ accum ps s := rfl
    rw [e, List.length_append, List.length_append, List.length_cons]
    have h1 : (if p.1 = s then [p.2] else []).length ≤ 1 := by split <;> simp
    have h2 : (if p.2 = s then [p.1] else []).length ≤ 1 := by split <;> simp
    omega
theorem accum_mem (ps : List Pr) (x s : Str) : decide (x ∈ accum ps s) = rivB ps x s := by
  induction ps with
  | nil => rfl
  | cons p ps ih =>
    obtain ⟨a, b⟩ := p
    have e : accum ((a, b) :: ps) s = ((if a = s then [b] else []) ++ (if b = s then [a] else [])) ++ accum ps s := rfl
    have r : rivB ((a, b) :: ps) x s = ((decide ((a, b) = (x, s)) || decide ((a, b) = (s, x))) || rivB ps x s) := rfl
    rw [e, r, ← ih]
    have q : (x ∈ (if a = s then [b] else []) ++ (if b = s then [a] else [])) ↔ ((a, b) = (x, s) ∨ (a, b) = (s, x)) := by
      rw [List.mem_append]
      by_cases h1 : a = s <;> by_cases h2 : b = s
      · simp [h1, h2, eq_comm]
      · simp only [if_pos h1, if_neg h2, List.append_nil, List.mem_singleton, List.mem_cons, List.not_mem_nil, or_false, false_or]
        refine ⟨fun h => .inr (by rw [h1, h]), fun h => h.elim (fun h => absurd (Prod.mk.inj h).2 h2) fun h => (Prod.mk.inj h).2.symm⟩
      · simp only [if_neg h1, if_pos h2, List.nil_append, List.mem_singleton, List.mem_cons, List.not_mem_nil, or_false, false_or]
        refine ⟨fun h => .inl (by rw [h2, h]), fun h => h.elim (fun h => (Prod.mk.inj h).1.symm) fun h => absurd (Prod.mk.inj h).1 h1⟩
      · simp only [if_neg h1, if_neg h2, List.append_nil]
        exact ⟨fun h => absurd h (by simp), fun h => h.elim (fun h => absurd (Prod.mk.inj h).2 h2) fun h => absurd (Prod.mk.inj h).1 h1⟩
    by_cases m : x ∈ accum ps s
    · rw [decide_eq_true m, Bool.or_true]
      exact decide_eq_true (List.mem_append.mpr (.inr m))
    · rw [decide_eq_false m, Bool.or_false]
      by_cases c : (a, b) = (x, s) ∨ (a, b) = (s, x)
      · rw [decide_eq_true (List.mem_append.mpr (.inl (q.mpr c)))]
        rcases c with c | c
        · rw [decide_eq_true c]; rfl
        · rw [decide_eq_true c, Bool.or_true]
      · rw [decide_eq_false (fun h => (List.mem_append.mp h).elim (fun h => c (q.mp h)) m), decide_eq_false (fun h => c (.inl h)), decide_eq_false (fun h => c (.inr h))]
        rfl
theorem put_len (kvs : List (Key × V)) (k : Key) (v : V) : (putK kvs k v).length ≤ kvs.length + 1 := by
  unfold putK
  split
  · rw [List.length_map]
    omega
  · rw [List.length_append]
    exact Nat.le_refl _
theorem put_keys {kvs : List (Key × V)} {k : Key} {v : V} {kv : Key × V} (h : kv ∈ putK kvs k v) : kv.1 = k ∨ ∃ q ∈ kvs, q.1 = kv.1 := by
  unfold putK at h
  split at h
  · obtain ⟨q, hq, e⟩ := List.mem_map.mp h
    refine .inr ⟨q, hq, ?_⟩
    rw [← e]
    split <;> rfl
  · rcases List.mem_append.mp h with h | h
    · exact .inr ⟨kv, h, rfl⟩
    · rw [List.mem_singleton.mp h]
      exact .inl rfl

/-- kvs: for each of these texts its own list, new since H0 -/
structure Tb (H0 H : Hp) (kvs : List (Key × V)) (L : Str → Addr) (A : Str → List Str) (sw : List Str) : Prop where
  at_ : ∀ s ∈ sw, valV kvs (.inr s) = some (.ref (L s)) ∧ H (L s) = some (.lst ((A s).map V.str)) ∧ H0 (L s) = none
  inj : ∀ s ∈ sw, ∀ s' ∈ sw, L s = L s' → s = s'
  keys : ∀ kv ∈ kvs, ∃ s ∈ sw, kv.1 = .inr s
section
variable {T : List (Addr × Str)} {H0 H H' : Hp} {kvs : List (Key × V)} {L : Str → Addr} {A : Str → List Str} {sw : List Str}
theorem Tb.nil : Tb H0 H [] L A [] := ⟨fun s h => absurd h (by simp), fun s h => absurd h (by simp), fun s h => absurd h (by simp)⟩
theorem Tb.keep (b : Tb H0 H kvs L A sw) (k : ∀ s ∈ sw, ∀ o, H (L s) = some o → H' (L s) = some o) : Tb H0 H' kvs L A sw :=
  ⟨fun s h => ⟨(b.at_ s h).1, k s h _ (b.at_ s h).2.1, (b.at_ s h).2.2⟩, b.inj, b.keys⟩
theorem Tb.nw (b : Tb H0 H kvs L A sw) {p : Addr} {o : HO} (h : H p = none) : Tb H0 (upd H p o) kvs L A sw := b.keep fun s _ u e => upd_old h _ _ e
theorem Tb.add (b : Tb H0 H kvs L (fun _ => []) sw) {l : Addr} {s : Str} (hn : H l = none) (h0 : H0 l = none) : Tb H0 (upd H l (.lst [])) (putK kvs (.inr s) (.ref l)) (fun x => if x = s then l else L x) (fun _ => []) (sw ++ [s]) := by
  refine ⟨fun x hx => ?_, fun x hx y hy e => ?_, fun kv h => ?_⟩
  · by_cases c : x = s
    · subst c
      rw [valV_put, if_pos rfl]
      simp only [if_true]
      exact ⟨trivial, upd_same, h0⟩
    · have hx' : x ∈ sw := (List.mem_append.mp hx).elim id fun h => absurd (List.mem_singleton.mp h) c
      obtain ⟨h1, h2, h3⟩ := b.at_ x hx'
      rw [valV_put, if_neg (fun z => c (Sum.inr.inj z))]
      simp only [c, if_false]
      exact ⟨h1, upd_old hn _ _ h2, h3⟩
  · have ne : ∀ z ∈ sw, L z ≠ l := fun z hz e2 => by
      have := (b.at_ z hz).2.1
      rw [e2, hn] at this
      cases this
    have ins : ∀ z, z ∈ sw ++ [s] → ¬ z = s → z ∈ sw := fun z hz c => (List.mem_append.mp hz).elim id fun h => absurd (List.mem_singleton.mp h) c
    by_cases c : x = s <;> by_cases c2 : y = s
    · rw [c, c2]
    · simp only [c, c2, if_true, if_false] at e
      exact absurd e.symm (ne y (ins y hy c2))
    · simp only [c, c2, if_true, if_false] at e
      exact absurd e (ne x (ins x hx c))
    · simp only [c, c2, if_false] at e
      exact b.inj x (ins x hx c) y (ins y hy c2) e
  · rcases put_keys h with e | ⟨q, hq, e⟩
    · exact ⟨s, List.mem_append.mpr (.inr (List.mem_singleton.mpr rfl)), e⟩
    · obtain ⟨x, hx, e2⟩ := b.keys q hq
      exact ⟨x, List.mem_append.mpr (.inl hx), e ▸ e2⟩
theorem Tb.app (b : Tb H0 H kvs L A sw) {a y : Str} (ha : a ∈ sw) : Tb H0 (upd H (L a) (.lst ((A a).map V.str ++ [V.str y]))) kvs L (fun s => if a = s then A s ++ [y] else A s) sw := by
  refine ⟨fun x hx => ?_, b.inj, b.keys⟩
  obtain ⟨h1, h2, h3⟩ := b.at_ x hx
  by_cases c : a = x
  · subst c
    simp only [if_true]
    refine ⟨h1, ?_, h3⟩
    rw [upd_same, List.map_append]
    rfl
  · simp only [c, if_false]
    refine ⟨h1, ?_, h3⟩
    rw [upd_ne (fun e => c (b.inj a ha x hx e.symm))]
    exact h2
theorem Tb.congr {A' : Str → List Str} (b : Tb H0 H kvs L A sw) (e : ∀ s ∈ sw, A' s = A s) : Tb H0 H kvs L A' sw := ⟨fun s h => by rw [e s h]; exact b.at_ s h, b.inj, b.keys⟩
theorem Tb.tab (b : Tb H0 H kvs L A sw) {d : Addr} {ps : List Pr} (hd : H d = some (.dK kvs)) (h : ∀ s ∈ sw, ∀ x, decide (x ∈ A s) = rivB ps x s) (hl : ∀ s, (A s).length ≤ 200000) : TabAt H d (sw, ps) := ⟨kvs, hd, fun s hs => ⟨L s, A s, (b.at_ s hs).1, (b.at_ s hs).2.1, h s hs, hl s⟩⟩
end

/-! ### {k: e for k in d} -/
theorem dc_keys {d : Addr} {od : Obj} {kvs : List (Key × V)} {g : TG} {tt : TT} {tk tv : TE} {vs : List Nat} {σ : L2.St} {H1 : Hp} {D : Addr} {Qd : Hp → Prop} (Pv : Nat → Hp → Prop) (h0 : Pv 0 (upd H1 D (.dK []))) (hl : ∀ i H, i ≤ kvs.length → Pv i H → H d = some (.frz od (.dK kvs)))
    (hs : ∀ i k v H, kvs[i]? = some (k, v) → Pv i H → g (kV k) (wipe σ vs) H fun σ2 H2 => wipe σ2 vs = wipe σ vs ∧ tt σ2 H2 fun b H3 =>
      if b = true then tk σ2 H3 fun y H4 => tv σ2 H4 fun z H5 => ∃ kvs k, y = kV k ∧ H5 D = some (.dK kvs) ∧ kvs.length < sizeLine ∧ Pv (i + 1) (upd H5 D (.dK (putK kvs k z))) else Pv (i + 1) H3) (hd : ∀ H, Pv kvs.length H → Qd H) :
    ∃ W : Nat → Nat → Hp → Prop, (∃ m, W 0 m (upd H1 D (.dK []))) ∧ ∀ i m H, W i m H →
      ((Itk d od kvs).stop i H ∧ Qd H) ∨ ((Itk d od kvs).go i H ∧ ∃ Nx : Hp → Prop, (∀ H', Nx H' → ∃ m', m' < m ∧ W (i + 1) m' H') ∧ ∀ x H', (Itk d od kvs).yld i H x H' → g x (wipe σ vs) H' fun σ2 H2 => wipe σ2 vs = wipe σ vs ∧ tt σ2 H2 fun b H3 =>
        if b = true then tk σ2 H3 fun y H4 => tv σ2 H4 fun z H5 => ∃ kvs k, y = kV k ∧ H5 D = some (.dK kvs) ∧ kvs.length < sizeLine ∧ Nx (upd H5 D (.dK (putK kvs k z))) else Nx H3) := by
  refine ⟨fun i m H => m = kvs.length - i ∧ i ≤ kvs.length ∧ Pv i H, ⟨kvs.length, by simp, Nat.zero_le _, h0⟩, ?_⟩
  rintro i m H ⟨rfl, hi, p⟩
  have q := hl i H hi p
  by_cases hlt : i < kvs.length
  · refine .inr ⟨⟨q, hlt⟩, Pv (i + 1), fun H' p' => ⟨kvs.length - (i + 1), by omega, rfl, hlt, p'⟩, fun x H' y => ?_⟩
    obtain ⟨e, k, v, e1, e2⟩ := y
    subst e
    subst e2
    exact hs i k v _ e1 p
  · have e : i = kvs.length := by omega
    subst e
    exact .inl ⟨⟨q, Nat.le_refl _⟩, hd _ p⟩

section
variable {P : Program} {w : World} {K : PySem.W.Frag} {mg : Str → Option Value} {base : Heap}
def Mem (P : Pan) : Prop := ∀ p ∈ P.2, p.1 ∈ P.1 ∧ p.2 ∈ P.1
def sp_table (K : PySem.W.Frag) (T : List (Addr × Str)) : Sp := fun vs H Q _ => ∃ (v : V) (P : Pan), vs = [v] ∧ Dp K H v (panD P) ∧ Mem P ∧ P.1.length ≤ 100000 ∧ P.2.length ≤ 100000 ∧ ∀ d H', H d = none → Fr T [] H H' → TabAt H' d P → Q (.ref d) H'
abbrev s_rival_table : Stmt := top 15
theorem S_rival_table : FnScope ["panel", "found", "one", "other", "switch"] ["panel"] (defScope s_rival_table) := ⟨rfl, rfl, rfl, by decide +kernel, rfl, by decide +kernel, by decide +kernel⟩
abbrev s_law_rivals : Stmt := top 36
theorem S_law_rivals : FnScope ["_law_panel_here", "_law_found", "_law_one", "_law_two", "_law_name"] ["_law_panel_here"] (defScope s_law_rivals) := ⟨rfl, rfl, rfl, by decide +kernel, rfl, by decide +kernel, by decide +kernel⟩
/-- what the loop over the pairs does, from a fresh table -/
theorem pairs_loop {T : List (Addr × Str)} {H0 H1 : Hp} {d c : Addr} {P : Pan} {kvs : List (Key × V)} {L : Str → Addr} {b : Addr} {xs : List V} {D : Ends} {z3 z4 z5 : Option V}
    (hc : SqT K H0 c xs) (hx : DpAll K H0 xs (P.2.map prD)) (hm : Mem P) (hl : P.2.length ≤ 100000) (f : Fr T [] H0 H1) (hd : H1 d = some (.dK kvs)) (d0 : H0 d = none) (tb : Tb H0 H1 kvs L (fun _ => []) P.1)
    (hq : ∀ z2 z3 H', Fr T [] H0 H' → H' d = some (.dK kvs) → Tb H0 H' kvs L (accum P.2) P.1 → D.nx [some (.ref b), some (.ref d), z2, z3, z5] H') :
    ∃ W : Nat → Nat → L2.St → Hp → Prop, (∃ m, W 0 m [some (.ref b), some (.ref d), z3, z4, z5] H1) ∧ ∀ i m σ H, W i m σ H →
      ((Itt K c).stop i H ∧ D.nx σ H) ∨ ((Itt K c).go i H ∧ ∃ N : L2.St → Hp → Prop, (∀ σ' H', N σ' H' → ∃ m', m' < m ∧ W (i + 1) m' σ' H') ∧ ∀ x H', (Itt K c).yld i H x H' → gTup K 2 (gCons (gName 2) (gCons (gName 3) gNil)) x σ H' fun σ2 H2 =>
        tSeq (tDrop (tBM K "list" rAppend (tDGet (tVar 1) (tVar 2)) (tCons (tVar 3) tNil))) (tDrop (tBM K "list" rAppend (tDGet (tVar 1) (tVar 3)) (tCons (tVar 2) tNil))) { D with nx := N, ct := N, bk := D.nx } σ2 H2) := by
  have lx : xs.length = P.2.length := by rw [dpAll_len hx, List.length_map]
  refine for_tup (xs := xs) (fun i σ H => ∃ z2 z3, σ = [some (.ref b), some (.ref d), z2, z3, z5] ∧ Fr T [] H0 H ∧ H d = some (.dK kvs) ∧ Tb H0 H kvs L (accum (P.2.take i)) P.1) ⟨_, _, rfl, f, hd, tb⟩ (fun i σ H hi h => ?_) (fun i v σ H hi h => ?_) (fun σ H h => ?_)
  · obtain ⟨z2, z3, rfl, f, _, _⟩ := h
    exact f.sqT hc
  · obtain ⟨z2, z3, rfl, f, hd, tb⟩ := h
    obtain ⟨dd, hd1, hd2⟩ := dpAll_at hx hi
    rw [List.getElem?_map] at hd1
    cases he : P.2[i]? with
    | none => rw [he] at hd1; cases hd1
    | some p =>
      rw [he] at hd1
      cases hd1
      have hp : p ∈ P.2 := List.mem_of_getElem? he
      have li := (List.getElem?_eq_some_iff.mp he).1
      obtain ⟨pa, rfl, hpa⟩ := dp_prI hd2
      obtain ⟨m1, m2⟩ := hm p hp
      obtain ⟨a1, a2, a3⟩ := tb.at_ _ m1
      have len : ∀ s, (accum (P.2.take i) s).length ≤ 200000 := fun s => by
        have := accum_len (P.2.take i) s
        rw [List.length_take] at this
        omega
      refine ⟨pa, _, rfl, f.sqT hpa, rfl, _, _, rfl, _, _, rfl, rfl, ?_⟩
      refine ⟨.ref d, rfl, .str p.1, rfl, d, .ref (L p.1), rfl, a1 ▸ DGet.k (k := .inr p.1) hd, .inl ⟨rfl, _, sqL a2⟩, .str p.2, rfl, _, _, _, rfl, rfl, a2, small _ (by rw [List.length_map]; have := len p.1; omega), ?_⟩
      have t2 := tb.app (y := p.2) m1
      have f2 : Fr T [] H0 (upd H (L p.1) (.lst ((accum (P.2.take i) p.1).map V.str ++ [V.str p.2]))) := f.put (by rw [a2]; exact True.intro) (.inl a3)
      have d2 : (upd H (L p.1) (.lst ((accum (P.2.take i) p.1).map V.str ++ [V.str p.2]))) d = some (.dK kvs) := by
        rw [upd_ne (ne_of hd a2 (by intro z; cases z))]
        exact hd
      obtain ⟨b1, b2, b3⟩ := t2.at_ _ m2
      refine ⟨.ref d, rfl, .str p.2, rfl, d, .ref (L p.2), rfl, b1 ▸ DGet.k (k := .inr p.2) d2, .inl ⟨rfl, _, sqL b2⟩, .str p.1, rfl, _, _, _, rfl, rfl, b2, small _ ?_, ?_⟩
      · rw [List.length_map]
        have := len p.2
        split <;> simp <;> omega
      have t3 := t2.app (y := p.1) m2
      refine ⟨_, _, rfl, f2.put (by rw [b2]; exact True.intro) (.inl b3), ?_, t3.congr fun s hs => ?_⟩
      · rw [upd_ne (ne_of d2 b2 (by intro z; cases z))]
        exact d2
      · rw [List.take_add_one, he]
        show accum (P.2.take i ++ [p]) s = _
        rw [accum_step]
        by_cases c1 : p.1 = s <;> by_cases c2 : p.2 = s <;> simp only [c1, c2, if_true, if_false, List.append_nil]
  · obtain ⟨z2, z3, rfl, f, hd, tb⟩ := h
    rw [lx, List.take_length] at tb
    exact hq _ _ _ f hd tb
theorem ok_table {T : List (Addr × Str)} (TX : Txt mg) (D : Df K mg "rival_table" "rival_table" s_rival_table ["panel"]) : Gd P w K mg base CX0 1 "rival_table" ["panel"] (sp_table K T) := by
  refine D.ok (k := 0) S_rival_table (fun vs H Q E h => ?_) (fun f cdv A outer s H vs Q E hr h => ?_)
  · obtain ⟨v, P, rfl, _⟩ := h
    rfl
  · obtain ⟨v, P, rfl, hP, hm, hl1, hl2, q⟩ := h
    obtain ⟨b, x, y, rfl, hb, hx, hy⟩ := dp_two hP
    obtain ⟨c, rfl, hc⟩ := dp_st hx
    obtain ⟨e, ys, rfl, he, hys⟩ := dp_ps hy
    -- slots: 0:panel 1:found* 2:one 3:other 4:switch
    refine ⟨_, (pss_cons (ps_set (i := 1) S_rival_table.nd rfl (Or.inr rfl) (pe_dc (own := [("switch", 4)]) rfl S_rival_table.nd (pi_tup (pe_ix (ix_tupK K) (pv 0) pe_int (fun _ _ => rfl))) (blkOk_by (N := ["panel", "found", "one", "other", "switch"]) (sc := defScope s_rival_table) (by decide +kernel)) (fun _ _ _ _ _ => (pg_name (i := 4) S_rival_table.nd rfl (Or.inl rfl))) (fun _ _ _ _ _ => pts_nil) (fun _ _ _ _ _ => (pv 4)) (fun _ _ _ _ _ => (pe_lst pa_nil))))
    (pss_cons (ps_for PassesOwn.never rfl (pi_tup (pe_ix (ix_tupK K) (pv 0) pe_int (fun _ _ => rfl))) (pg_tup rfl (pgs_cons (pg_name (i := 2) S_rival_table.nd rfl (Or.inl rfl)) (pgs_cons (pg_name (i := 3) S_rival_table.nd rfl (Or.inl rfl)) pgs_nil)))
      (pss_cons (ps_expr (pe_bm PySem.F.plainAttrs_list PySem.F.slot_list_append PySem.F.type_list_append mt_append (pe_dget (hu_of hr) (pv 1) (pv 2) (fun _ _ => rfl)) (pa_cons (pv 3) pa_nil)))
      (pss_one (ps_expr (pe_bm PySem.F.plainAttrs_list PySem.F.slot_list_append PySem.F.type_list_append mt_append (pe_dget (hu_of hr) (pv 1) (pv 3) (fun _ _ => rfl)) (pa_cons (pv 2) pa_nil))))))
    (pss_one (ps_ret (pe_lock (pe_dc (own := [("switch", 4)]) rfl S_rival_table.nd (pi_keys (pv 1)) (blkOk_by (N := ["panel", "found", "one", "other", "switch"]) (sc := defScope s_rival_table) (by decide +kernel)) (fun _ _ _ _ _ => (pg_name (i := 4) S_rival_table.nd rfl (Or.inl rfl))) (fun _ _ _ _ _ => pts_nil) (fun _ _ _ _ _ => (pv 4)) (fun _ _ _ _ _ => (pe_callB (cr_sortedTK K) rfl TX.n_sorted (by decide +kernel) (pa_cons (pe_dget (hu_of hr) (pv 1) (pv 4) (fun _ _ => rfl)) pa_nil))))))))), ?_⟩
    refine ⟨.ref b, rfl, b, _, 0, .ref c, rfl, rfl, hb, rfl, c, rfl, ⟨_, hc⟩, fun d hd => ?_⟩
    refine dc_tup (xs := P.1.map V.str) (fun i H' => Fr T [] H H' ∧ ∃ kvs L, H' d = some (.dK kvs) ∧ kvs.length ≤ i ∧ Tb H H' kvs L (fun _ => []) (P.1.take i)) ⟨Fr.refl.nw hd, [], fun _ => 0, upd_same, Nat.le_refl _, Tb.nil⟩ (fun i H' _ h => h.1.sqT hc) (fun i x H' hi h => ?_) (fun H' h => ?_)
    · rw [List.getElem?_map] at hi
      cases he : P.1[i]? with
      | none => rw [he] at hi; cases hi
      | some z =>
        rw [he] at hi
        cases hi
        have li := (List.getElem?_eq_some_iff.mp he).1
        obtain ⟨fr, kvs, L, h1, h2, tb⟩ := h
        refine ⟨rfl, ?_⟩
        simp only [tYes, if_true]
        refine ⟨.str z, rfl, small' 0 (by decide), fun l hl => ?_⟩
        have h0 := fr.free hl
        have nd : d ≠ l := ne_of_none h1 hl
        refine ⟨kvs, .inr z, rfl, upd_old hl _ _ h1, small _ (by omega), (fr.nw hl).put (by rw [upd_old hl _ _ h1]; exact True.intro) (.inl hd), _, fun x => if x = z then l else L x, upd_same, ?_, ?_⟩
        · have := put_len kvs (.inr z) (.ref l)
          omega
        · rw [List.take_add_one, he]
          exact (tb.add hl h0).keep fun s hs o e => by
            rw [upd_ne (fun z => ?_)]
            · exact e
            · have := ((tb.add hl h0).at_ s hs).2.1
              rw [z, upd_old hl _ _ h1] at this
              cases this
    · rw [List.length_map, List.take_length] at h
      obtain ⟨fr, kvs, L, h1, h2, tb⟩ := h
      refine ⟨.ref b, rfl, b, _, 1, .ref e, rfl, rfl, fr.sqT hb, rfl, e, rfl, ⟨_, fr.sqT he⟩, ?_⟩
      refine pairs_loop he hys hm hl2 fr h1 hd tb (fun z2 z3 H2 f2 d2 t2 => ?_)
      refine ⟨d, _, d2, trivial, fun od => ?_⟩
      refine ⟨.ref d, rfl, d, od, rfl, .inl ⟨kvs, upd_same, fun D2 hD => ?_⟩⟩
      have nD : D2 ≠ d := fun z => by rw [z, upd_same] at hD; cases hD
      have f3 : Fr T [] H (upd H2 d (.frz od (.dK kvs))) := f2.put (by rw [d2]; exact True.intro) (.inl hd)
      have g3 : ∀ s ∈ P.1, (upd H2 d (.frz od (.dK kvs))) (L s) = some (.lst ((accum P.2 s).map V.str)) := fun s hs => by
        rw [upd_ne (ne_of (t2.at_ s hs).2.1 d2 (by intro z; cases z))]
        exact (t2.at_ s hs).2.1
      refine dc_keys (fun i H' => Fr T [] (upd H2 d (.frz od (.dK kvs))) H' ∧ ∃ kvs2, H' D2 = some (.dK kvs2) ∧ kvs2.length ≤ i ∧ ∀ s ∈ P.1, (.inr s) ∈ (kvs.take i).map (·.1) → ∃ l, valV kvs2 (.inr s) = some (.ref l) ∧ H' l = some (.lst ((sortS (accum P.2 s)).map V.str)))
        ⟨Fr.refl.nw hD, [], upd_same, Nat.le_refl _, fun s _ h => absurd h (by simp)⟩ (fun i H' _ h => ?_) (fun i k v H' hi h => ?_) (fun H' h => ?_)
      · exact h.1.keep d _ upd_same (fun ⟨_, z⟩ => nomatch z) fun ps z => nomatch z
      · obtain ⟨f4, kvs2, k1, k2, k3⟩ := h
        obtain ⟨s, hs, e⟩ := t2.keys _ (List.mem_of_getElem? hi)
        have e : k = .inr s := e
        subst e
        refine ⟨rfl, ?_⟩
        simp only [tYes, if_true]
        have hd4 : H' d = some (.frz od (.dK kvs)) := f4.keep d _ upd_same (fun ⟨_, z⟩ => nomatch z) fun ps z => nomatch z
        have li := (List.getElem?_eq_some_iff.mp hi).1
        refine ⟨.str s, rfl, .ref d, rfl, .str s, rfl, d, .ref (L s), rfl, .inl ⟨kvs, .inr s, .inr ⟨od, hd4⟩, rfl, (t2.at_ s hs).1.symm⟩, L s, accum P.2 s, rfl, sqL (f4.lst (g3 s hs)), fun p hp => ?_⟩
        refine ⟨kvs2, .inr s, rfl, upd_old hp _ _ k1, small _ ?_, ?_⟩
        · omega
        refine ⟨(f4.nw hp).put (by rw [upd_old hp _ _ k1]; exact True.intro) (.inl hD), _, upd_same, ?_, fun s' hs' hm' => ?_⟩
        · have := put_len kvs2 (.inr s) (.ref p)
          omega
        · rw [valV_put]
          by_cases c : s' = s
          · subst c
            refine ⟨p, if_pos rfl, ?_⟩
            rw [upd_ne (ne_of_none k1 hp).symm, upd_same]
          · rw [if_neg (fun z => c (Sum.inr.inj z))]
            rw [List.take_add_one, hi, List.map_append] at hm'
            obtain ⟨l, l1, l2⟩ := k3 s' hs' ((List.mem_append.mp hm').elim id fun h => absurd (Sum.inr.inj (List.mem_singleton.mp h)) c)
            refine ⟨l, l1, ?_⟩
            rw [upd_ne (ne_of l2 k1 (by intro z; cases z)), upd_old hp _ _ l2]
      · rw [List.take_length] at h
        obtain ⟨f4, kvs2, k1, k2, k3⟩ := h
        have hd4 : H' d = some (.frz od (.dK kvs)) := f4.keep d _ upd_same (fun ⟨_, z⟩ => nomatch z) fun ps z => nomatch z
        refine ⟨hd4, q D2 _ (f3.free hD) ((f3.trans f4).put (by rw [hd4]; exact True.intro) (.inl hd)) ⟨kvs2, ?_, fun s hs => ?_⟩⟩
        · rw [upd_ne nD]
          exact k1
        · obtain ⟨l, l1, l2⟩ := k3 s hs (valV_in (t2.at_ s hs).1)
          refine ⟨l, sortS (accum P.2 s), l1, ?_, fun x => ?_, by rw [sortS_len]; exact Nat.le_trans (accum_len P.2 s) (by omega)⟩
          · rw [upd_ne (ne_of l2 hd4 (by intro z; cases z))]
            exact l2
          · rw [← accum_mem]
            by_cases c : x ∈ accum P.2 s
            · rw [decide_eq_true c, decide_eq_true (sortS_mem.mpr c)]
            · rw [decide_eq_false c, decide_eq_false (fun z => c (sortS_mem.mp z))]

/-! ### _law_rivals -/
theorem paired_snoc {α β : Type} {F : α → β → Prop} : ∀ {l : List α} {m : List β} {a : α} {b : β}, Paired F l m → F a b → Paired F (l ++ [a]) (m ++ [b])
  | _, _, _, _, .nil, h => .cons h .nil
  | _, _, _, _, .cons x r, h => .cons x (paired_snoc r h)
theorem ok_lrivals {T : List (Addr × Str)} (TX : Txt mg) (D : Df K mg "_law_rivals" "_law_rivals" s_law_rivals ["_law_panel_here"]) : Gd P w K mg base CX0 1 "_law_rivals" ["_law_panel_here"] (sp_table K T) := by
  refine D.ok (k := 0) S_law_rivals (fun vs H Q E h => ?_) (fun f cdv A outer s H vs Q E hr h => ?_)
  · obtain ⟨v, P, rfl, _⟩ := h
    rfl
  · obtain ⟨v, P, rfl, hP, hm, hl1, hl2, q⟩ := h
    obtain ⟨b, x, y, rfl, hb, hx, hy⟩ := dp_two hP
    obtain ⟨c, rfl, hc⟩ := dp_st hx
    obtain ⟨e, ys, rfl, he, hys⟩ := dp_ps hy
    -- slots: 0:_law_panel_here 1:_law_found 2:_law_one 3:_law_two 4:_law_name
    refine ⟨_, (pss_cons (ps_set (i := 1) S_law_rivals.nd rfl (Or.inl rfl) (pe_callTy (call_dictP rfl) rfl TX.n_dict (by decide +kernel) (pa_cons (pe_lc (own := [("_law_name", 4)]) rfl S_law_rivals.nd (pi_tup (pe_ix (ix_tupK K) (pv 0) pe_int (fun _ _ => rfl))) (blkOk_by (N := ["_law_panel_here", "_law_found", "_law_one", "_law_two", "_law_name"]) (sc := defScope s_law_rivals) (by decide +kernel)) (fun _ _ _ _ _ => (pg_name (i := 4) S_law_rivals.nd rfl (Or.inl rfl))) (fun _ _ _ _ _ => pts_nil) (fun _ _ _ _ _ => (pe_tup (pa_cons (pv 4) (pa_cons (pe_lst pa_nil) pa_nil))))) pa_nil)))
    (pss_cons (ps_for PassesOwn.never rfl (pi_tup (pe_ix (ix_tupK K) (pv 0) pe_int (fun _ _ => rfl))) (pg_tup rfl (pgs_cons (pg_name (i := 2) S_law_rivals.nd rfl (Or.inl rfl)) (pgs_cons (pg_name (i := 3) S_law_rivals.nd rfl (Or.inl rfl)) pgs_nil)))
      (pss_cons (ps_expr (pe_bm PySem.F.plainAttrs_list PySem.F.slot_list_append PySem.F.type_list_append mt_append (pe_dget (hu_of hr) (pv 1) (pv 2) (fun _ _ => rfl)) (pa_cons (pv 3) pa_nil)))
      (pss_one (ps_expr (pe_bm PySem.F.plainAttrs_list PySem.F.slot_list_append PySem.F.type_list_append mt_append (pe_dget (hu_of hr) (pv 1) (pv 3) (fun _ _ => rfl)) (pa_cons (pv 2) pa_nil))))))
    (pss_one (ps_ret (pv 1))))), ?_⟩
    refine ⟨.ref b, rfl, b, _, 0, .ref c, rfl, rfl, hb, rfl, c, rfl, ⟨_, hc⟩, fun d hd => ?_⟩
    refine lc_tup (xs := P.1.map V.str) (fun i H' => Fr T [] H H' ∧ ∃ ps kvs L, H' d = some (.lst (ps.map V.ref)) ∧ ps.length ≤ i ∧ Paired (fun p kv => SqT K H' p [kV kv.1, kv.2]) ps kvs ∧ Tb H H' (mergeK [] kvs) L (fun _ => []) (P.1.take i) ∧ ∀ s ∈ P.1.take i, L s ≠ d) ⟨Fr.refl.nw hd, [], [], fun _ => 0, upd_same, Nat.le_refl _, .nil, Tb.nil, fun s h => absurd h (by simp)⟩ (fun i H' _ h => h.1.sqT hc) (fun i x H' hi h => ?_) (fun H' h => ?_)
    · rw [List.getElem?_map] at hi
      cases he : P.1[i]? with
      | none => rw [he] at hi; cases hi
      | some z =>
        rw [he] at hi
        cases hi
        have li := (List.getElem?_eq_some_iff.mp he).1
        obtain ⟨fr, ps, kvs, L, h1, h2, h3, tb, h4⟩ := h
        refine ⟨rfl, ?_⟩
        simp only [tYes, if_true]
        refine ⟨.str z, rfl, small' 0 (by decide), fun l hl => ?_⟩
        have h0 := fr.free hl
        refine ⟨small' 2 (by decide), fun t ht => ?_⟩
        have d2 := upd_old (o := .tup [.str z, .ref l]) ht _ _ (upd_old (o := .lst []) hl _ _ h1)
        refine ⟨_, d2, small _ (by rw [List.length_map]; omega), ?_⟩
        have f2 : Fr T [] H (upd (upd H' l (.lst [])) t (.tup [.str z, .ref l])) := (fr.nw hl).nw ht
        have ext : ∀ (p : Addr) (xs ys : List V), SqT K H' p xs → SqT K (upd (upd (upd H' l (.lst [])) t (.tup [.str z, .ref l])) d (.lst ys)) p xs := fun p xs ys h =>
          (((Fr.refl (T := T) (S := [d])).nw hl).nw ht |>.put (by rw [d2]; exact True.intro) (.inr ⟨by simp, _, h1⟩)).sqT h
        refine ⟨f2.put (by rw [d2]; exact True.intro) (.inl hd), ps ++ [t], kvs ++ [(.inr z, .ref l)], fun x => if x = z then l else L x, ?_, ?_, paired_snoc (L2.Paired.mapP h3 fun p kv h => ext p _ _ h) (sqT ?_), ?_, fun s hs => ?_⟩
        · rw [upd_same, List.map_append]
          rfl
        · rw [List.length_append]
          simp
          omega
        · rw [upd_ne (ne_of upd_same d2 (by intro z; cases z)), upd_same]
          rfl
        · have e3 : mergeK [] (kvs ++ [(Sum.inr z, V.ref l)]) = putK (mergeK [] kvs) (.inr z) (.ref l) := by
            unfold mergeK
            rw [List.foldl_append]
            rfl
          rw [e3, List.take_add_one, he]
          exact ((tb.add hl h0).nw ht).keep fun s hs o e => by
            rw [upd_ne ?_]
            · exact e
            · by_cases c : s = z
              · simp only [c, if_true]
                exact (ne_of_none h1 hl).symm
              · simp only [c, if_false]
                exact h4 s ((List.mem_append.mp hs).elim id fun h => absurd (List.mem_singleton.mp h) c)
        · rw [List.take_add_one, he] at hs
          by_cases c : s = z
          · simp only [c, if_true]
            exact (ne_of_none h1 hl).symm
          · simp only [c, if_false]
            exact h4 s ((List.mem_append.mp hs).elim id fun h => absurd (List.mem_singleton.mp h) c)
    · rw [List.length_map, List.take_length] at h
      obtain ⟨fr, ps, kvs, L, h1, h2, h3, tb, h4⟩ := h
      refine ⟨d, ps, kvs, rfl, sqL h1, h3, fun m hm2 => ?_⟩
      have f1 : Fr T [] H (upd H' m (.dK (mergeK [] kvs))) := fr.nw hm2
      refine ⟨.ref b, rfl, b, _, 1, .ref e, rfl, rfl, f1.sqT hb, rfl, e, rfl, ⟨_, f1.sqT he⟩, ?_⟩
      refine pairs_loop he hys hm hl2 f1 upd_same (fr.free hm2) (tb.nw hm2) (fun z2 z3 H2 f2 d2 t2 => ?_)
      exact ⟨.ref m, rfl, q m _ (fr.free hm2) f2 (t2.tab d2 (fun s hs x => accum_mem P.2 x s) fun s => Nat.le_trans (accum_len P.2 s) (by omega))⟩
end
end Ob

/-! OJ: states_after, _law_after -/
namespace Ob
open PySem PySem.Spec PyProof.Rows L2 LamX

/-- the states before, between and behind the presses -/
def sts (ps : List Pr) (S : List Str) : List Str → List (List Str)
  | [] => [S]
  | x :: r => S :: sts ps (press ps S x) r
theorem sts_snoc (ps : List Pr) : ∀ (l : List Str) (S : List Str) (x : Str), sts ps S (l ++ [x]) = sts ps S l ++ [press ps (l.foldl (press ps) S) x]
  | [], S, x => rfl
  | y :: l, S, x => by
    show S :: sts ps (press ps S y) (l ++ [x]) = _
    rw [sts_snoc ps l]
    rfl
theorem sts_last (ps : List Pr) : ∀ (l : List Str) (S : List Str), ∃ m, sts ps S l = m ++ [l.foldl (press ps) S]
  | [], S => ⟨[], rfl⟩
  | y :: l, S => by
    obtain ⟨m, e⟩ := sts_last ps l (press ps S y)
    exact ⟨S :: m, by show S :: sts ps (press ps S y) l = _; rw [e]; rfl⟩
theorem sts_len (ps : List Pr) : ∀ (l : List Str) (S : List Str), (sts ps S l).length = l.length + 1
  | [], S => rfl
  | y :: l, S => by
    show (sts ps (press ps S y) l).length + 1 = _
    rw [sts_len ps l]
    rfl
theorem fold_len (ps : List Pr) : ∀ (l : List Str) (S : List Str), (l.foldl (press ps) S).length ≤ S.length + l.length
  | [], S => Nat.le_refl _
  | y :: l, S => by
    have h1 := fold_len ps l (press ps S y)
    have h2 := press_len ps S y
    show (l.foldl (press ps) (press ps S y)).length ≤ S.length + (l.length + 1)
    omega
theorem dpAll_snoc {K : PySem.W.Frag} {H : Hp} : ∀ {xs : List V} {ds : List PyData} {d : PyData}, DpAll K H xs (ds ++ [d]) → ∃ ys v, xs = ys ++ [v] ∧ DpAll K H ys ds ∧ Dp K H v d
  | _, [], d, h => by
    cases h with
    | cons h1 h2 => cases h2; exact ⟨[], _, rfl, .nil, h1⟩
  | _, e :: ds, d, h => by
    cases h with
    | cons h1 h2 =>
      obtain ⟨ys, v, rfl, h3, h4⟩ := dpAll_snoc h2
      exact ⟨_ :: ys, v, rfl, .cons h1 h3, h4⟩
theorem imm_sts (l : List (List Str)) : ∀ d ∈ l.map stD, Imm d := fun d h => by
  obtain ⟨x, _, e⟩ := List.mem_map.mp h
  rw [← e]; exact imm_st x
section
variable {P : Program} {w : World} {K : PySem.W.Frag} {mg : Str → Option Value} {base : Heap}
abbrev s_states_after : Stmt := top 19
theorem S_states_after : FnScope ["panel", "state", "history", "rivals", "found", "switch"] ["panel", "state", "history"] (defScope s_states_after) := ⟨rfl, rfl, rfl, by decide +kernel, rfl, by decide +kernel, by decide +kernel⟩
abbrev s_law_after : Stmt := top 39
theorem S_law_after : FnScope ["_law_table", "_law_state_here", "_law_presses_here", "_law_now", "_law_name", "_law_near"] ["_law_table", "_law_state_here", "_law_presses_here"] (defScope s_law_after) := ⟨rfl, rfl, rfl, by decide +kernel, rfl, by decide +kernel, by decide +kernel⟩
def sp_states (K : PySem.W.Frag) (T : List (Addr × Str)) (C : Addr) : Sp := fun vs H Q E => ∃ (pv sv : V) (P : Pan) (S : List Str) (a : Addr) (xs : List Str), vs = [pv, sv, .ref a] ∧ Dp K H pv (panD P) ∧ Dp K H sv (stD S) ∧ SqL K H a (xs.map V.str) ∧ Mem P ∧ P.1.length ≤ 100000 ∧ P.2.length ≤ 100000 ∧ S.length + xs.length ≤ 100000 ∧
  ((∀ x ∈ xs, x ∈ P.1) → ∀ l vs H', H l = none → Fr T [] H H' → H' l = some (.lst vs) → DpAll K H' vs ((sts P.2 S xs).map stD) → Q (.ref l) H') ∧ ((∃ x ∈ xs, x ∉ P.1) → ∀ d H', Fr T [] H H' → E (.ref C) d H')
theorem ok_states {T : List (Addr × Str)} {C : Addr} (TX : Txt mg) (D : Df K mg "states_after" "states_after" s_states_after ["panel", "state", "history"])
    (G_look_switches : Gd P w K mg base (L2.CX P w) 3 "look_switches" ["panel", "switches"] (sp_look K T C)) (G_rival_table : Gd P w K mg base CX0 1 "rival_table" ["panel"] (sp_table K T)) (G_with_press : Gd P w K mg base CX0 1 "with_press" ["rivals", "state", "switch"] (sp_withPress K T)) :
    Gd P w K mg base (L2.CX P w) 4 "states_after" ["panel", "state", "history"] (sp_states K T C) := by
  refine D.okX (k := 3) S_states_after (fun vs H Q E h => ?_) (fun f cdv A outer s H vs Q E hr h => ?_)
  · obtain ⟨pv, sv, P, S, a, xs, rfl, _⟩ := h
    rfl
  · obtain ⟨pa, sa, P, S, a, xs, rfl, hP, hS, ha, hm, hl1, hl2, hl3, q1, q2⟩ := h
    obtain ⟨sd, rfl, hsd⟩ := dp_st hS
    -- slots: 0:panel 1:state 2:history 3:rivals 4:found 5:switch
    refine ⟨_, (pss_cons (ps_expr (pcl G_look_switches rfl (hr.mono (by decide)) (pT tkE) (pa_cons (pv 0) (pa_cons (pv 2) pa_nil))))
    (pss_cons (ps_par (i := 3) (j := 4) rfl S_states_after.nd rfl rfl (by decide) rfl rfl (pa_cons (pcl G_rival_table rfl (hr.mono (by decide)) p0 (pa_cons (pv 0) pa_nil)) (pa_cons (pe_lst (pa_cons (pe_callTy (call_tuple_ofK K) rfl TX.n_tuple (by decide +kernel) (pa_cons (pv 1) pa_nil)) pa_nil)) pa_nil)) rfl)
    (pss_cons (ps_for (passes_of rfl) rfl (pi_list (pv 2)) (pg_name (i := 5) S_states_after.nd rfl (Or.inl rfl))
      (pss_one (ps_expr (pe_bm PySem.F.plainAttrs_list PySem.F.slot_list_append PySem.F.type_list_append mt_append (pv 4) (pa_cons (pcl G_with_press rfl (hr.mono (by decide)) p0 (pa_cons (pv 3) (pa_cons (pe_ix (ix_listK K) (pv 4) (pe_un un_neg pe_int) (fun _ _ => rfl)) (pa_cons (pv 5) pa_nil)))) pa_nil)))))
    (pss_one (ps_ret (pv 4)))))), ?_⟩
    refine ⟨pa, rfl, .ref a, rfl, pa, P, a, xs, rfl, hP, ha, fun hall => ?_, fun hex d H' f => q2 hex d H' f⟩
    refine ⟨pa, rfl, pa, P, rfl, hP, hm, hl1, hl2, fun d H1 d0 f1 ht => ?_⟩
    refine ⟨.ref sd, rfl, sd, _, rfl, .inr ⟨f1.sqT hsd, ?_⟩⟩
    refine ⟨small' 1 (by decide), fun l hl => ?_⟩
    refine ⟨_, _, rfl, ?_⟩
    have f2 : Fr T [] H (upd H1 l (.lst [.ref sd])) := f1.nw hl
    refine ⟨.ref a, rfl, a, rfl, ⟨_, f2.sqL ha⟩, ?_⟩
    refine for_list (xs := xs.map V.str) (fun i σ H' => ∃ z vs, σ = [some pa, some (.ref sd), some (.ref a), some (.ref d), some (.ref l), z] ∧ Fr T [] H H' ∧ TabAt H' d P ∧ H' l = some (.lst vs) ∧ DpAll K H' vs ((sts P.2 S (xs.take i)).map stD))
      ⟨none, [.ref sd], rfl, f2, ht.fr0 (T := T) (Fr.refl.nw hl), upd_same, .cons (f2.dst hS) .nil⟩ (fun i σ H' _ h => ?_) (fun i x σ H' hi h => ?_) (fun σ H' h => ?_)
    · obtain ⟨z, vs, _, f3, _⟩ := h
      exact f3.sqL ha
    · obtain ⟨z, vs, rfl, f3, t3, l3, d3⟩ := h
      rw [List.getElem?_map] at hi
      cases he : xs[i]? with
      | none => rw [he] at hi; cases hi
      | some e =>
        rw [he] at hi
        cases hi
        have li := (List.getElem?_eq_some_iff.mp he).1
        obtain ⟨m, em⟩ := sts_last P.2 (xs.take i) S
        have d3' := d3
        rw [em, List.map_append] at d3'
        obtain ⟨ys, v, rfl, d4, d5⟩ := dpAll_snoc d3'
        have ln := fold_len P.2 (xs.take i) S
        rw [List.length_take] at ln
        refine ⟨.ref l, rfl, .inl ⟨rfl, _, sqL l3⟩, .ref d, rfl, .ref l, rfl, 1, rfl, l, _, -1, v, rfl, rfl, sqL l3, atI_last ys v, .str e, rfl, d, P, v, _, e, rfl, t3, d5, hall e (List.mem_of_getElem? he), by omega, fun w' H5 f5 d6 => ?_⟩
        have l5 : H5 l = some (.lst (ys ++ [v])) := f5.lst l3
        have f6 : Fr T [l] H5 (upd H5 l (.lst (ys ++ [v] ++ [w']))) := Fr.refl.put (by rw [l5]; exact True.intro) (.inr ⟨by simp, _, l5⟩)
        have len : (ys ++ [v]).length = min i xs.length + 1 := by
          have := dpAll_len d3
          rw [List.length_map, sts_len, List.length_take] at this
          exact this
        refine ⟨l, _, w', rfl, rfl, l5, small _ (by omega), some (.str e), _, rfl, (f3.trans f5).put (by rw [l5]; exact True.intro) (.inl (f1.free hl)), (t3.fr0 f5).fr f6 (fun b hb xs hxs => ?_), upd_same, ?_⟩
        · rw [List.mem_singleton.mp hb, l5] at hxs
          have z := Option.some.inj hxs
          injection z with z
          cases d5
          cases xs with
          | nil => simp at z
          | cons x r =>
            have z2 := congrArg List.getLast? z
            rw [List.getLast?_append, List.getLast?_map] at z2
            simp at z2
            obtain ⟨_, _, z2⟩ := z2
        · rw [List.take_add_one, he]
          show DpAll K _ _ ((sts P.2 S (xs.take i ++ [e])).map stD)
          rw [sts_snoc, List.map_append]
          exact dpAll_app (dpAll_fr (imm_sts _) f6 (dpAll_fr (imm_sts _) f5 d3)) (.cons (f6.dst d6) .nil)
    · obtain ⟨z, vs, rfl, f3, t3, l3, d3⟩ := h
      rw [List.length_map, List.take_length] at d3
      exact ⟨.ref l, rfl, q1 hall l vs _ (f1.free hl) f3 l3 d3⟩

def sp_lafter (K : PySem.W.Frag) (T : List (Addr × Str)) : Sp := fun vs H Q _ => ∃ (d : Addr) (P : Pan) (v : V) (S : List Str) (a : Addr) (s : Str), vs = [.ref d, v, .ref a] ∧ TabAt H d P ∧ Dp K H v (stD S) ∧ SqL K H a [.str s] ∧ s ∈ P.1 ∧ S.length ≤ 100000 ∧ ∀ v H', Fr T [] H H' → Dp K H' v (stD (press P.2 S s)) → Q v H'
theorem ok_lafter {T : List (Addr × Str)} (TX : Txt mg) (D : Df K mg "_law_after" "_law_after" s_law_after ["_law_table", "_law_state_here", "_law_presses_here"]) : Gd P w K mg base CX0 1 "_law_after" ["_law_table", "_law_state_here", "_law_presses_here"] (sp_lafter K T) := by
  refine D.ok (k := 0) S_law_after (fun vs H Q E h => ?_) (fun f cdv A outer s H vs Q E hr h => ?_)
  · obtain ⟨d, P, v, S, a, s, rfl, _⟩ := h
    rfl
  · obtain ⟨d, P, v, S, a, sw, rfl, hT, hS, ha, hs, hl, q⟩ := h
    obtain ⟨sd, rfl, hsd⟩ := dp_st hS
    -- slots: 0:_law_table* 1:_law_state_here 2:_law_presses_here 3:_law_now 4:_law_name* 5:_law_near
    refine ⟨_, (pss_cons (ps_set (i := 3) S_law_after.nd rfl (Or.inl rfl) (pe_callTy call_list_of rfl TX.n_list (by decide +kernel) (pa_cons (pv 1) pa_nil)))
    (pss_cons (ps_for PassesOwn.never rfl (pi_list (pv 2)) (pg_name (i := 4) S_law_after.nd rfl (Or.inr rfl))
      (pss_one (ps_set (i := 3) S_law_after.nd rfl (Or.inl rfl) (pe_op op_cat (pe_lc (own := [("_law_near", 5)]) rfl S_law_after.nd (pi_list (pv 3)) (blkOk_by (N := ["_law_table", "_law_state_here", "_law_presses_here", "_law_now", "_law_name", "_law_near"]) (sc := defScope s_law_after) (by decide +kernel)) (fun _ _ _ _ _ => (pg_name (i := 5) S_law_after.nd rfl (Or.inl rfl))) (fun _ _ _ _ _ => (pts_one (PW.pt (pw_and (pt_cmpR (op_notIn_seqK K) (pv 5) (pe_dget (hu_of hr) (pv 0) (pv 4) (fun _ _ => rfl)) rfl) (pw_and1 (pt_cmpR op_ne (pv 5) (pv 4) (nomark _))))))) (fun _ _ _ _ _ => (pv 5))) (pe_lst (pa_cons (pv 4) pa_nil))))))
    (pss_one (ps_ret (pe_callTy (call_tuple_ofK K) rfl TX.n_tuple (by decide +kernel) (pa_cons (pe_callB (cr_sortedTK K) rfl TX.n_sorted (by decide +kernel) (pa_cons (pv 3) pa_nil)) pa_nil)))))), ?_⟩
    refine ⟨.ref sd, rfl, sd, _, rfl, .inr hsd, fun n hn => ?_⟩
    have f1 : Fr T [] H (upd H n (.lst (S.map V.str))) := Fr.refl.nw hn
    refine ⟨.ref a, rfl, a, rfl, ⟨_, f1.sqL ha⟩, ?_⟩
    let fl := S.filter (fun o => !rivB P.2 o sw && !decide (o = sw))
    refine for_list (xs := [.str sw]) (fun i σ H' => ∃ z n, Fr T [] H H' ∧ σ = [some (.ref d), some (.ref sd), some (.ref a), some (.ref n), z, none] ∧ ((i = 0 ∧ H' n = some (.lst (S.map V.str))) ∨ (i = 1 ∧ H' n = some (.lst ((fl ++ [sw]).map V.str)))))
      ⟨none, n, f1, rfl, .inl ⟨rfl, upd_same⟩⟩ (fun i σ H' _ h => ?_) (fun i x σ H' hi h => ?_) (fun σ H' h => ?_)
    · obtain ⟨_, _, f, _⟩ := h
      exact f.sqL ha
    · obtain ⟨z, n, f, rfl, h⟩ := h
      have hi0 : i = 0 := by
        cases i with
        | zero => rfl
        | succ i => simp at hi
      subst hi0
      cases hi
      have hn : H' n = some (.lst (S.map V.str)) := h.elim (fun h => h.2) fun h => absurd h.1 (by decide)
      obtain ⟨kvs, hd, hk⟩ := hT.fr0 f
      obtain ⟨l, xs, h1, h2, h3, _⟩ := hk sw hs
      refine ⟨.ref n, rfl, n, rfl, ⟨_, sqL hn⟩, fun D hD => ?_⟩
      refine lc_filtL (as := S) (c := PyData.str) (q := fun o => !rivB P.2 o sw && !decide (o = sw)) hD (sqL hn) (by rw [List.length_map]; omega) (dpAll_strs S) (fun x e acc he hx => ?_) (fun acc hacc => ?_)
      · obtain rfl := dp_str hx
        refine ⟨[some (.ref d), some (.ref sd), some (.ref a), some (.ref n), some (.str sw), some (.str e)], rfl, fun Q h => h, fun Q h => ?_, fun _ Q h => ⟨_, rfl, h⟩⟩
        refine ⟨.str e, rfl, .ref d, rfl, .str sw, rfl, d, .ref l, rfl, ?_, l, _, rfl, .inl (sqL (upd_old hD _ _ h2)), rfl, flat_strs _, _, rfl, ?_⟩
        · rw [← h1]
          exact DGet.k (k := .inr sw) (upd_old hD _ _ hd)
        · show if (!inV (V.str e) (xs.map V.str)) = true then _ else _
          rw [inV_strs, h3]
          refine ite2 (fun c => ?_) (fun c => ?_)
          · refine ⟨.str e, rfl, .str sw, rfl, rfl, _, rfl, ?_⟩
            rw [c, Bool.true_and] at h
            rw [dec_str]
            exact h
          · have c : (!rivB P.2 e sw) = false := by
              cases z : (!rivB P.2 e sw) with
              | false => rfl
              | true => exact absurd z c
            rw [c] at h
            exact h
      · have ea := dpAll_str hacc
        subst ea
        refine ⟨.str sw, rfl, small' 1 (by decide), fun L hL => ?_⟩
        refine ⟨D, L, _, _, rfl, rfl, (upd_old hL _ _ upd_same), upd_same, small' _ ?_, fun M hM => ?_⟩
        · rw [List.length_map]
          have := List.length_filter_le (fun o => !rivB P.2 o sw && !decide (o = sw)) S
          simp
          omega
        refine ⟨_, M, ((f.nw hD).nw hL).nw hM, rfl, .inr ⟨rfl, ?_⟩⟩
        rw [upd_same, List.map_append]
        rfl
    · obtain ⟨z, n, f, rfl, h⟩ := h
      have hn : H' n = some (.lst ((fl ++ [sw]).map V.str)) := h.elim (fun h => absurd h.1 (by simp)) fun h => h.2
      refine ⟨.ref n, rfl, n, _, rfl, sqL hn, fun p hp => ?_⟩
      refine ⟨p, _, rfl, .inl ⟨sqL upd_same, fun r hr2 => ?_⟩⟩
      exact q _ _ ((f.nw hp).nw hr2) (dp_st_of (sqT upd_same))
end
end Ob

/-! OM: pages and boards -/
namespace Ob
open PySem PySem.Spec PyProof.Rows L2 LamX

/-! ### what is laid out as lists or tuples -/
section
variable (K : PySem.W.Frag) (H : Hp)
def StL (v : V) (S : List Str) : Prop := ∃ a, v = .ref a ∧ SqA K H a (S.map V.str)
def PrL (v : V) (p : Pr) : Prop := ∃ a, v = .ref a ∧ SqA K H a [.str p.1, .str p.2]
def PsL (v : V) (ps : List Pr) : Prop := ∃ a vs, v = .ref a ∧ SqA K H a vs ∧ Paired (PrL K H) vs ps
def PanL (v : V) (P : Pan) : Prop := ∃ a x y, v = .ref a ∧ SqA K H a [x, y] ∧ StL K H x P.1 ∧ PsL K H y P.2
end
section
variable {T : List (Addr × Str)} {K : PySem.W.Frag} {H H' : Hp} {v : V}
theorem Fr.sqA {a : Addr} {xs : List V} (f : Fr T [] H H') (h : SqA K H a xs) : SqA K H' a xs := h.elim (fun h => .inl (f.sqL h)) fun h => .inr (f.sqT h)
theorem Fr.stL {S : List Str} (f : Fr T [] H H') (h : StL K H v S) : StL K H' v S := let ⟨a, e, q⟩ := h; ⟨a, e, f.sqA q⟩
theorem Fr.prL {p : Pr} (f : Fr T [] H H') (h : PrL K H v p) : PrL K H' v p := let ⟨a, e, q⟩ := h; ⟨a, e, f.sqA q⟩
theorem Fr.psL {ps : List Pr} (f : Fr T [] H H') (h : PsL K H v ps) : PsL K H' v ps := let ⟨a, vs, e, q, r⟩ := h; ⟨a, vs, e, f.sqA q, L2.Paired.mapP r fun _ _ z => f.prL z⟩
theorem Fr.panL {P : Pan} (f : Fr T [] H H') (h : PanL K H v P) : PanL K H' v P := let ⟨a, x, y, e, q, r, s⟩ := h; ⟨a, x, y, e, f.sqA q, f.stL r, f.psL s⟩
theorem stL_of {S : List Str} (h : Dp K H v (stD S)) : StL K H v S := let ⟨a, e, q⟩ := dp_st h; ⟨a, e, .inr q⟩
theorem prs_of : ∀ {vs : List V} {ps : List Pr}, DpAll K H vs (ps.map prD) → Paired (PrL K H) vs ps
  | _, [], h => by cases h; exact .nil
  | _, p :: ps, h => by
    cases h with
    | cons h1 h2 =>
      obtain ⟨a, e, q⟩ := dp_prI h1
      exact .cons ⟨a, e, .inr q⟩ (prs_of h2)
theorem psL_of {ps : List Pr} (h : Dp K H v (psD ps)) : PsL K H v ps := let ⟨a, vs, e, q, r⟩ := dp_ps h; ⟨a, vs, e, .inr q, prs_of r⟩
theorem panL_of {P : Pan} (h : Dp K H v (panD P)) : PanL K H v P := let ⟨a, x, y, e, q, r, s⟩ := dp_two h; ⟨a, x, y, e, .inr q, stL_of r, psL_of s⟩
end

theorem lc_seq {T : List (Addr × Str)} {K : PySem.W.Frag} {te : TE} {a : Addr} {xs : List V} {g : TG} {tt : TT} {tel : TE} {vs : List Nat} {σ : L2.St} {H : Hp} {Q : VK} (hte : ∀ R : VK, R (.ref a) H → te σ H R) (hq : SqA K H a xs) (Pv : Addr → Nat → Hp → Prop) (hf : ∀ D i H', Pv D i H' → Fr T [] H H')
    (h0 : ∀ D, H D = none → Pv D 0 (upd H D (.lst [])))
    (hs : ∀ D i x H', H D = none → xs[i]? = some x → Pv D i H' → g x (wipe σ vs) H' fun σ2 H2 => wipe σ2 vs = wipe σ vs ∧ tt σ2 H2 fun b H3 => if b = true then tel σ2 H3 fun y H4 => ∃ acc, H4 D = some (.lst acc) ∧ acc.length < sizeLine ∧ Pv D (i + 1) (upd H4 D (.lst (acc ++ [y]))) else Pv D (i + 1) H3)
    (hd : ∀ D H', H D = none → Pv D xs.length H' → Q (.ref D) H') : tLc (iSeq K te) g tt tel vs σ H Q := by
  rcases hq with h | h
  · refine .inl (hte _ ⟨a, rfl, ⟨xs, h⟩, fun D hD => ?_⟩)
    exact lc_list (Qd := fun H' => Q (.ref D) H') (Pv D) (h0 D hD) (fun i H' _ p => (hf D i H' p).sqL h) (fun i x H' hi p => hs D i x H' hD hi p) (fun H' p => hd D H' hD p)
  · refine .inr (hte _ ⟨a, rfl, ⟨xs, h⟩, fun D hD => ?_⟩)
    exact lc_tup (Qd := fun H' => Q (.ref D) H') (Pv D) (h0 D hD) (fun i H' _ p => (hf D i H' p).sqT h) (fun i x H' hi p => hs D i x H' hD hi p) (fun H' p => hd D H' hD p)
theorem ixSeq {K : PySem.W.Frag} {H : Hp} {a : Addr} {xs : List V} {i : Nat} {v : V} {Q : VK} (h : SqA K H a xs) (hi : xs[i]? = some v) (q : Q v H) : rIx K (.ref a) (.int i) H Q :=
  h.elim (fun h => .inl ⟨a, xs, i, v, rfl, rfl, h, atI_nat hi, q⟩) fun h => .inr (.inl ⟨a, xs, i, v, rfl, rfl, h, atI_nat hi, q⟩)
theorem paired_at {α β : Type} {F : α → β → Prop} : ∀ {l : List α} {m : List β}, Paired F l m → ∀ {i : Nat} {a : α}, l[i]? = some a → ∃ b, m[i]? = some b ∧ F a b
  | _, _, .nil, i, a, e => by simp at e
  | _, _, .cons h t, 0, a, e => by simp at e; subst e; exact ⟨_, rfl, h⟩
  | _, _, .cons h t, i + 1, a, e => by
    obtain ⟨b, h1, h2⟩ := paired_at t (i := i) (a := a) (by simpa using e)
    exact ⟨b, by simpa using h1, h2⟩

/-- the classes' facts -/
structure Cf (K : PySem.W.Frag) (BC PC : Addr) : Prop where
  clB : Cls K BC
  clP : Cls K PC
  nPages : NoAttr K BC "pages"
  nWords : NoAttr K BC "words"
  nLayout : NoAttr K PC "layout"
  nLit : NoAttr K PC "lit"
/-- a page's object -/
def PageAt (K : PySem.W.Frag) (PC : Addr) (H : Hp) (v : V) (g : Pg) : Prop := ∃ pa dx x y, v = .ref pa ∧ H pa = some (.ins PC dx [("layout", x), ("lit", y)]) ∧ Dp K H x (panD g.1) ∧ Dp K H y (stD g.2)
/-- a board's object: pages at pl, words at wl -/
structure BoardAt (K : PySem.W.Frag) (BC PC : Addr) (H : Hp) (a pl wl : Addr) (pgs : List Pg) (n : Nat) : Prop where
  ex : ∃ dx vs ws, H a = some (.ins BC dx [("pages", .ref pl), ("words", .ref wl)]) ∧ H pl = some (.lst vs) ∧ Paired (PageAt K PC H) vs pgs ∧ H wl = some (.lst ws) ∧ ws.length ≤ n
  ne : pl ≠ wl
theorem paired_len {α β : Type} {F : α → β → Prop} : ∀ {l : List α} {m : List β}, Paired F l m → l.length = m.length
  | _, _, .nil => rfl
  | _, _, .cons _ r => by rw [List.length_cons, List.length_cons, paired_len r]
theorem paired_last {α β : Type} {F : α → β → Prop} : ∀ {l : List α} {m : List β} {b : β}, Paired F l (m ++ [b]) → ∃ l' a, l = l' ++ [a] ∧ Paired F l' m ∧ F a b
  | _, [], b, h => by
    cases h with
    | cons h1 h2 => cases h2; exact ⟨[], _, rfl, .nil, h1⟩
  | _, e :: ds, d, h => by
    cases h with
    | cons h1 h2 =>
      obtain ⟨ys, v, rfl, h3, h4⟩ := paired_last h2
      exact ⟨_ :: ys, v, rfl, .cons h1 h3, h4⟩
section
variable {T : List (Addr × Str)} {K : PySem.W.Frag} {BC PC : Addr} {S : List Addr} {H H' : Hp} {v : V} {g : Pg} {a pl wl : Addr} {pgs : List Pg} {n m : Nat}
theorem PageAt.fr (h : PageAt K PC H v g) (f : Fr T S H H') : PageAt K PC H' v g := let ⟨pa, dx, x, y, e, a, b, c⟩ := h; ⟨pa, dx, x, y, e, f.ins a, f.dpan b, f.dst c⟩
theorem pages_fr {vs : List V} (h : Paired (PageAt K PC H) vs pgs) (f : Fr T S H H') : Paired (PageAt K PC H') vs pgs := L2.Paired.mapP h fun _ _ z => z.fr f
theorem BoardAt.fr (h : BoardAt K BC PC H a pl wl pgs n) (f : Fr T S H H') (h1 : pl ∉ S := by simp) (h2 : wl ∉ S := by simp) : BoardAt K BC PC H' a pl wl pgs n := by
  obtain ⟨⟨dx, vs, ws, q1, q2, q3, q4, q5⟩, q6⟩ := h
  exact ⟨⟨dx, vs, ws, f.ins q1, f.lst q2 h1, pages_fr q3 f, f.lst q4 h2, q5⟩, q6⟩
theorem BoardAt.more (h : BoardAt K BC PC H a pl wl pgs n) (l : n ≤ m) : BoardAt K BC PC H a pl wl pgs m := let ⟨⟨dx, vs, ws, q1, q2, q3, q4, q5⟩, q6⟩ := h; ⟨⟨dx, vs, ws, q1, q2, q3, q4, Nat.le_trans q5 l⟩, q6⟩
end

section
variable {P : Program} {w : World} {K : PySem.W.Frag} {mg : Str → Option Value} {base : Heap} {BC PC : Addr} {T : List (Addr × Str)}
abbrev s_Page_init : Stmt := inClass (top 23) 0
theorem S_Page_init : FnScope ["self", "panel", "state", "pair"] ["self", "panel", "state"] (defScope s_Page_init) := ⟨rfl, rfl, rfl, by decide +kernel, rfl, by decide +kernel, by decide +kernel⟩
abbrev s_Board_now : Stmt := inClass (top 25) 1
theorem S_Board_now : FnScope ["self"] ["self"] (defScope s_Board_now) := ⟨rfl, rfl, rfl, by decide +kernel, rfl, by decide +kernel, by decide +kernel⟩
abbrev s_Board_panel : Stmt := inClass (top 25) 2
theorem S_Board_panel : FnScope ["self"] ["self"] (defScope s_Board_panel) := ⟨rfl, rfl, rfl, by decide +kernel, rfl, by decide +kernel, by decide +kernel⟩
abbrev s_Board_state : Stmt := inClass (top 25) 3
theorem S_Board_state : FnScope ["self"] ["self"] (defScope s_Board_state) := ⟨rfl, rfl, rfl, by decide +kernel, rfl, by decide +kernel, by decide +kernel⟩
abbrev s_Board_turn : Stmt := inClass (top 25) 4
theorem S_Board_turn : FnScope ["self", "panel", "state"] ["self", "panel", "state"] (defScope s_Board_turn) := ⟨rfl, rfl, rfl, by decide +kernel, rfl, by decide +kernel, by decide +kernel⟩
abbrev s_Board_deeds : Stmt := inClass (top 25) 19
theorem S_Board_deeds : FnScope ["self"] ["self"] (defScope s_Board_deeds) := ⟨rfl, rfl, rfl, by decide +kernel, rfl, by decide +kernel, by decide +kernel⟩
def sp_page (K : PySem.W.Frag) (T : List (Addr × Str)) (PC : Addr) : Sp := fun vs H Q _ => ∃ (x dx : Addr) (Hb : Hp) (pv sv : V) (P : Pan) (S : List Str), vs = [.ref x, pv, sv] ∧ H = upd (upd Hb dx (.own x)) x (.ins PC dx []) ∧ Hb x = none ∧ Hb dx = none ∧ dx ≠ x ∧ PanL K Hb pv P ∧ StL K Hb sv S ∧ P.2.length ≤ 100000 ∧
  ∀ H', Fr T [] Hb H' → PageAt K PC H' (.ref x) (P, S) → Q .non H'
theorem tConsI {ta : TE} {tr : TA} {σ : L2.St} {H : Hp} {Q : List V → Hp → Prop} (h : ta σ H fun x H1 => tr σ H1 fun xs H2 => Q (x :: xs) H2) : tCons ta tr σ H Q := h
theorem tCBI {r : List V → Hp → VK → Prop} {t : TA} {σ : L2.St} {H : Hp} {Q : VK} (h : t σ H fun vs H1 => r vs H1 Q) : tCB r t σ H Q := h
theorem tNilI {σ : L2.St} {H : Hp} {Q : List V → Hp → Prop} (h : Q [] H) : tNil σ H Q := h
theorem sFldI {ta tv : TE} {f : Str} {D : Ends} {σ : L2.St} {H : Hp} (h : tv σ H fun y H1 => ta σ H1 fun x H2 => ∃ a C dx fs, x = .ref a ∧ H2 a = some (.ins C dx fs) ∧ Cls K C ∧ NoAttr K C f ∧ fs.length < 1000 ∧ D.nx σ (upd H2 a (.ins C dx (putF f y fs)))) : sFld K ta tv f D σ H := h
theorem tRetI {te : TE} {D : Ends} {σ : L2.St} {H : Hp} (h : te σ H D.rt) : tRet te D σ H := h
theorem tSeqI {t u : TS} {D : Ends} {σ : L2.St} {H : Hp} (h : t { D with nx := u D } σ H) : tSeq t u D σ H := h
/-- tuple(xs) of a list or a tuple -/
theorem tupOf {a : Addr} {xs : List V} {H : Hp} {Q : VK} (h : SqA K H a xs) (q : ∀ b H', Fr T [] H H' → SqT K H' b xs → Q (.ref b) H') : rTupOf K [.ref a] H Q :=
  ⟨a, xs, rfl, h.elim (fun h => .inl ⟨h, fun l hl => q l _ (Fr.refl.nw hl) (sqT upd_same)⟩) fun h => .inr ⟨h, q a H .refl h⟩⟩
theorem tTupOf {te : TE} {σ : L2.St} {a : Addr} {xs : List V} {H H1 : Hp} {Q : VK} (hte : ∀ R : VK, R (.ref a) H1 → te σ H R) (h : SqA K H1 a xs) (q : ∀ b H', Fr T [] H1 H' → SqT K H' b xs → Q (.ref b) H') : tCB (rTupOf K) (tCons te tNil) σ H Q := hte _ (tupOf (T := T) h q)
theorem ok_page (TX : Txt mg) (CF : Cf K BC PC) (D : Di K mg "Page" PC "Page.__init__" s_Page_init ["self", "panel", "state"]) : Gk P w K mg base CX0 1 "Page" PC ["self", "panel", "state"] (sp_page K T PC) := by
  refine D.ok (k := 0) S_Page_init (fun vs H Q E h => ?_) (fun f cdv A outer s H vs Q E hr h => ?_)
  · obtain ⟨x, dx, Hb, pv, sv, P, S, rfl, _⟩ := h
    rfl
  · obtain ⟨x, dx, Hb, pv, sv, P, S, rfl, rfl, nx, ndx, ne, hP, hS, hl, q⟩ := h
    have f0 : Fr T [] Hb (upd (upd Hb dx (.own x)) x (.ins PC dx [])) := (Fr.refl.nw ndx).nw (by rw [upd_ne ne.symm]; exact nx)
    obtain ⟨b, y, z, rfl, hb, hy, hz⟩ := f0.panL hP
    obtain ⟨c, rfl, hc⟩ := hy
    obtain ⟨d, ws, rfl, hd, hws⟩ := hz
    obtain ⟨e, rfl, he⟩ := f0.stL hS
    -- slots: 0:self 1:panel 2:state 3:pair
    refine ⟨_, (pss_cons (ps_fld (pv 0) (pe_tup (pa_cons (pe_callTy (call_tuple_ofK K) rfl TX.n_tuple (by decide +kernel) (pa_cons (pe_ix (ix_seqK K) (pv 1) pe_int (fun _ _ => rfl)) pa_nil)) (pa_cons (pe_callTy (call_tuple_ofK K) rfl TX.n_tuple (by decide +kernel) (pa_cons (pe_lc (own := [("pair", 3)]) rfl S_Page_init.nd (pi_seq (pe_ix (ix_seqK K) (pv 1) pe_int (fun _ _ => rfl))) (blkOk_by (N := ["self", "panel", "state", "pair"]) (sc := defScope s_Page_init) (by decide +kernel)) (fun _ _ _ _ _ => (pg_name (i := 3) S_Page_init.nd rfl (Or.inl rfl))) (fun _ _ _ _ _ => pts_nil) (fun _ _ _ _ _ => (pe_callTy (call_tuple_ofK K) rfl TX.n_tuple (by decide +kernel) (pa_cons (pv 3) pa_nil)))) pa_nil)) pa_nil))) rfl)
    (pss_one (ps_fld (pv 0) (pe_callTy (call_tuple_ofK K) rfl TX.n_tuple (by decide +kernel) (pa_cons (pv 2) pa_nil)) rfl))), ?_⟩
    -- (tuple(panel[0]), tuple([tuple(pair) for pair in panel[1]]))
    refine tTupOf (T := T) (a := c) (fun R h => ⟨.ref b, rfl, ixSeq (i := 0) hb rfl h⟩) hc fun c' H1 f1 hc' => ?_
    refine tConsI (tCBI (tConsI ?_))
    refine lc_seq (T := T) (a := d) (xs := ws) (fun R h => ⟨.ref b, rfl, ixSeq (i := 1) (f1.sqA hb) rfl h⟩) (f1.sqA hd) (fun D i H' => Fr T [] H1 H' ∧ ∃ acc, H' D = some (.lst acc) ∧ DpAll K H' acc ((P.2.take i).map prD)) (fun D i H' h => h.1) (fun D hD => ⟨Fr.refl.nw hD, [], upd_same, .nil⟩) (fun D i z H' hD hi h => ?_) (fun D H2 hD h => ?_)
    · obtain ⟨f2, acc, h1, h2⟩ := h
      obtain ⟨p, hp, a1, rfl, a2⟩ := paired_at hws hi
      have li := (List.getElem?_eq_some_iff.mp hp).1
      refine ⟨rfl, ?_⟩
      simp only [tYes, if_true]
      refine tTupOf (T := T) (a := a1) (fun R h => ⟨.ref a1, rfl, h⟩) ((f1.trans f2).sqA a2) fun t H3 f3 ht => ?_
      have h3 := f3.lst h1
      have ln := dpAll_len h2
      rw [List.length_map, List.length_take] at ln
      have f4 : Fr T [D] H3 (upd H3 D (.lst (acc ++ [.ref t]))) := Fr.refl.put (by rw [h3]; exact True.intro) (.inr ⟨by simp, _, h3⟩)
      refine ⟨acc, h3, Ob.small _ (by omega), (f2.trans f3).put (by rw [h3]; exact True.intro) (.inl hD), _, upd_same, ?_⟩
      rw [List.take_add_one, hp, List.map_append]
      exact dpAll_app (f4.prs (f3.prs h2)) (.cons (f4.dpr (dp_pr_of ht)) .nil)
    · obtain ⟨f2, acc, h1, h2⟩ := h
      rw [paired_len hws, List.take_length] at h2
      refine tNilI (tupOf (T := T) (.inl (sqL h1)) fun e' H3 f3 he' => ?_)
      refine ⟨small' 2 (by decide), fun p hp => ?_⟩
      have f5 : Fr T [] (upd (upd Hb dx (.own x)) x (.ins PC dx [])) (upd H3 p (.tup [.ref c', .ref e'])) := ((f1.trans f2).trans f3).nw hp
      have hx := f5.ins upd_same
      refine ⟨.ref x, rfl, x, PC, dx, _, rfl, hx, CF.clP, CF.nLayout, by show 0 < 1000; decide, ?_⟩
      have f6 : Fr T [] Hb (upd (upd H3 p (.tup [.ref c', .ref e'])) x (.ins PC dx (putF "layout" (.ref p) []))) := (f0.trans f5).put (by rw [hx]; exact True.intro) (.inl nx)
      have fp : Fr T [] H3 (upd H3 p (.tup [.ref c', .ref e'])) := Fr.refl.nw hp
      have dp : Dp K (upd H3 p (.tup [.ref c', .ref e'])) (.ref p) (panD P) := dp_two_of (sqT upd_same) (dp_st_of (((f2.trans f3).trans fp).sqT hc')) (.tup (fp.sqT he') (fp.prs (f3.prs h2)))
      obtain ⟨e2, ee, he2⟩ := f6.stL hS
      cases ee
      dsimp only
      refine sFldI (K := K) (tTupOf (T := T) (a := e) (fun R h => ⟨.ref e, rfl, h⟩) he2 fun s' H7 f7 hs' => ?_)
      have hx7 := f7.ins upd_same
      refine ⟨.ref x, rfl, x, PC, dx, _, rfl, hx7, CF.clP, CF.nLit, by show 1 < 1000; decide, ?_⟩
      refine q _ ((f6.trans f7).put (by rw [hx7]; exact True.intro) (.inl nx)) ⟨x, dx, .ref p, .ref s', rfl, upd_same, ?_, ?_⟩
      · exact imm_pan _ (tk_ins hx7) (f7.dpan (imm_pan _ (tk_ins hx) dp))
      · exact imm_st _ (tk_ins hx7) (dp_st_of hs')

/-! ### the board's plain methods -/
def sp_now (K : PySem.W.Frag) (BC PC : Addr) : Sp := fun vs H Q _ => ∃ (a pl wl : Addr) (ms : List Pg) (g : Pg) (n : Nat), vs = [.ref a] ∧ BoardAt K BC PC H a pl wl (ms ++ [g]) n ∧ ∀ v, PageAt K PC H v g → Q v H
theorem ok_now (CF : Cf K BC PC) (D : Dm K BC "now" "Board.now" s_Board_now ["self"]) : Gm P w K mg base CX0 1 BC "now" ["self"] (sp_now K BC PC) := by
  refine D.ok (k := 0) S_Board_now (fun vs H Q E h => ?_) (fun f cdv A outer s H vs Q E hr h => ?_)
  · obtain ⟨a, pl, wl, ms, g, n, rfl, _⟩ := h
    rfl
  · obtain ⟨a, pl, wl, ms, g, n, rfl, hB, q⟩ := h
    obtain ⟨⟨dx, vs, ws, h1, h2, h3, h4, h5⟩, _⟩ := hB
    obtain ⟨ys, v, rfl, h6, h7⟩ := paired_last h3
    -- slots: 0:self
    refine ⟨_, (pss_one (ps_ret (pe_ix (ix_listK K) (pe_fld (pv 0) rfl) (pe_un un_neg pe_int) (fun _ _ => rfl)))), ?_⟩
    exact ⟨.ref a, rfl, a, BC, dx, _, _, rfl, h1, CF.clB, CF.nPages, rfl, 1, rfl, pl, _, -1, v, rfl, rfl, sqL h2, atI_last ys v, q v h7⟩
def sp_panel (K : PySem.W.Frag) (BC PC : Addr) : Sp := fun vs H Q _ => ∃ (a pl wl : Addr) (ms : List Pg) (g : Pg) (n : Nat), vs = [.ref a] ∧ BoardAt K BC PC H a pl wl (ms ++ [g]) n ∧ ∀ v, Dp K H v (panD g.1) → Q v H
def sp_state (K : PySem.W.Frag) (BC PC : Addr) : Sp := fun vs H Q _ => ∃ (a pl wl : Addr) (ms : List Pg) (g : Pg) (n : Nat), vs = [.ref a] ∧ BoardAt K BC PC H a pl wl (ms ++ [g]) n ∧ ∀ v, Dp K H v (stD g.2) → Q v H
theorem ok_panel (CF : Cf K BC PC) (D : Dm K BC "panel" "Board.panel" s_Board_panel ["self"]) (G_Board_now : Gm P w K mg base CX0 1 BC "now" ["self"] (sp_now K BC PC)) : Gm P w K mg base CX0 2 BC "panel" ["self"] (sp_panel K BC PC) := by
  refine D.ok (k := 1) S_Board_panel (fun vs H Q E h => ?_) (fun f cdv A outer s H vs Q E hr h => ?_)
  · obtain ⟨a, pl, wl, ms, g, n, rfl, _⟩ := h
    rfl
  · obtain ⟨a, pl, wl, ms, g, n, rfl, hB, q⟩ := h
    obtain ⟨⟨dx, vs, ws, h1, _⟩, _⟩ := id hB
    -- slots: 0:self
    refine ⟨_, (pss_one (ps_ret (pe_fld (pmt0 G_Board_now (hr.mono (by decide)) p0 (pv 0)) rfl))), ?_⟩
    refine ⟨.ref a, rfl, a, dx, _, rfl, h1, rfl, a, pl, wl, ms, g, n, rfl, hB, fun v hv => ?_⟩
    obtain ⟨pa, dp, x, y, rfl, e1, e2, e3⟩ := hv
    exact ⟨pa, PC, dp, _, x, rfl, e1, CF.clP, CF.nLayout, rfl, q x e2⟩
theorem ok_state (CF : Cf K BC PC) (D : Dm K BC "state" "Board.state" s_Board_state ["self"]) (G_Board_now : Gm P w K mg base CX0 1 BC "now" ["self"] (sp_now K BC PC)) : Gm P w K mg base CX0 2 BC "state" ["self"] (sp_state K BC PC) := by
  refine D.ok (k := 1) S_Board_state (fun vs H Q E h => ?_) (fun f cdv A outer s H vs Q E hr h => ?_)
  · obtain ⟨a, pl, wl, ms, g, n, rfl, _⟩ := h
    rfl
  · obtain ⟨a, pl, wl, ms, g, n, rfl, hB, q⟩ := h
    obtain ⟨⟨dx, vs, ws, h1, _⟩, _⟩ := id hB
    -- slots: 0:self
    refine ⟨_, (pss_one (ps_ret (pe_fld (pmt0 G_Board_now (hr.mono (by decide)) p0 (pv 0)) rfl))), ?_⟩
    refine ⟨.ref a, rfl, a, dx, _, rfl, h1, rfl, a, pl, wl, ms, g, n, rfl, hB, fun v hv => ?_⟩
    obtain ⟨pa, dp, x, y, rfl, e1, e2, e3⟩ := hv
    exact ⟨pa, PC, dp, _, y, rfl, e1, CF.clP, CF.nLit, rfl, q y e3⟩
def sp_deeds (K : PySem.W.Frag) (BC PC : Addr) : Sp := fun vs H Q _ => ∃ (a pl wl : Addr) (ms : List Pg) (n : Nat), vs = [.ref a] ∧ BoardAt K BC PC H a pl wl ms n ∧ Q (.int (ms.length - 1)) H
theorem ok_deeds (TX : Txt mg) (CF : Cf K BC PC) (D : Dm K BC "deeds" "Board.deeds" s_Board_deeds ["self"]) : Gm P w K mg base CX0 1 BC "deeds" ["self"] (sp_deeds K BC PC) := by
  refine D.ok (k := 0) S_Board_deeds (fun vs H Q E h => ?_) (fun f cdv A outer s H vs Q E hr h => ?_)
  · obtain ⟨a, pl, wl, ms, n, rfl, _⟩ := h
    rfl
  · obtain ⟨a, pl, wl, ms, n, rfl, hB, q⟩ := h
    obtain ⟨⟨dx, vs, ws, h1, h2, h3, _⟩, _⟩ := hB
    -- slots: 0:self
    refine ⟨_, (pss_one (ps_ret (pe_op op_sub (pe_callB call_len_seq rfl TX.n_len (by decide +kernel) (pa_cons (pe_fld (pv 0) rfl) pa_nil)) pe_int))), ?_⟩
    refine ⟨.ref a, rfl, a, BC, dx, _, _, rfl, h1, CF.clB, CF.nPages, rfl, pl, _, rfl, .inl (sqL h2), vs.length, 1, rfl, rfl, ?_⟩
    rw [paired_len h3]
    exact q
def sp_turn (K : PySem.W.Frag) (T : List (Addr × Str)) (BC PC : Addr) : Sp := fun vs H Q _ => ∃ (a pl wl : Addr) (ms : List Pg) (n : Nat) (pv sv : V) (P : Pan) (S : List Str), vs = [.ref a, pv, sv] ∧ BoardAt K BC PC H a pl wl ms n ∧ PanL K H pv P ∧ StL K H sv S ∧ P.2.length ≤ 100000 ∧ ms.length ≤ 100000 ∧
  ∀ H', Fr T [pl] H H' → BoardAt K BC PC H' a pl wl (ms ++ [(P, S)]) n → Q .non H'
theorem ok_turn (CF : Cf K BC PC) (D : Dm K BC "turn" "Board.turn" s_Board_turn ["self", "panel", "state"]) (G_Page : Gk P w K mg base CX0 1 "Page" PC ["self", "panel", "state"] (sp_page K T PC)) : Gm P w K mg base CX0 3 BC "turn" ["self", "panel", "state"] (sp_turn K T BC PC) := by
  refine D.ok (k := 2) S_Board_turn (fun vs H Q E h => ?_) (fun f cdv A outer s H vs Q E hr h => ?_)
  · obtain ⟨a, pl, wl, ms, n, pv, sv, P, S, rfl, _⟩ := h
    rfl
  · obtain ⟨a, pl, wl, ms, n, pa, sv, P, S, rfl, hB, hP, hS, hl, hl2, q⟩ := h
    obtain ⟨⟨dx, vs, ws, h1, h2, h3, h4, h5⟩, ne⟩ := id hB
    -- slots: 0:self 1:panel 2:state
    refine ⟨_, (pss_one (ps_expr (pe_bm PySem.F.plainAttrs_list PySem.F.slot_list_append PySem.F.type_list_append mt_append (pe_fld (pv 0) rfl) (pa_cons (pmk G_Page rfl (hr.mono (by decide)) (pa_cons (pv 1) (pa_cons (pv 2) pa_nil))) pa_nil)))), ?_⟩
    refine ⟨.ref a, rfl, a, BC, dx, _, _, rfl, h1, CF.clB, CF.nPages, rfl, .inl ⟨rfl, _, sqL h2⟩, pa, rfl, sv, rfl, fun x xd nx ndx nex => ?_⟩
    refine ⟨x, xd, H, pa, sv, P, S, rfl, rfl, nx, ndx, nex, hP, hS, hl, fun H' f hp => ⟨rfl, ?_⟩⟩
    have e2 := f.lst h2
    have ln := paired_len h3
    refine ⟨pl, _, _, rfl, rfl, e2, Ob.small _ (by omega), ?_⟩
    have f2 : Fr T [pl] H (upd H' pl (.lst (vs ++ [.ref x]))) := (f.zero (S := [pl])).put (by rw [e2]; exact True.intro) (.inr ⟨by simp, _, h2⟩)
    have f3 : Fr T [pl] H' (upd H' pl (.lst (vs ++ [.ref x]))) := Fr.refl.put (by rw [e2]; exact True.intro) (.inr ⟨by simp, _, e2⟩)
    exact q _ f2 ⟨⟨dx, _, ws, f2.ins h1, upd_same, paired_snoc (pages_fr h3 f2) (hp.fr f3), f2.lst h4 (by simpa using ne.symm), h5⟩, ne⟩
end
end Ob

/-! ON: == of such data; cuts -/
namespace Ob
open PySem PySem.Spec PyProof.Rows L2 LamX

theorem eqv_str (x y : Str) : PyData.eqv (.str x) (.str y) = decide (x = y) := by
  rw [PyData.eqv]
  by_cases h : x = y
  · subst h
    simp
  · rw [decide_eq_false h]
    exact beq_eq_false_iff_ne.mpr h
theorem eqvAll_map {α : Type} [DecidableEq α] (c : α → PyData) (h : ∀ a b, PyData.eqv (c a) (c b) = decide (a = b)) : ∀ l m : List α, PyData.eqvAll (l.map c) (m.map c) = decide (l = m)
  | [], [] => by simp [PyData.eqvAll]
  | [], b :: m => by simp [PyData.eqvAll]
  | a :: l, [] => by simp [PyData.eqvAll]
  | a :: l, b :: m => by
    rw [List.map_cons, List.map_cons, PyData.eqvAll, h, eqvAll_map c h l m]
    by_cases e : a = b <;> by_cases f : l = m <;> simp [e, f]
theorem eqv_two (a b c d : PyData) : PyData.eqv (.tuple [a, b]) (.tuple [c, d]) = (PyData.eqv a c && PyData.eqv b d) := by
  rw [PyData.eqv, PyData.eqvAll, PyData.eqvAll, PyData.eqvAll, Bool.and_true]
theorem eqv_pr (p q : Pr) : PyData.eqv (prD p) (prD q) = decide (p = q) := by
  obtain ⟨a, b⟩ := p
  obtain ⟨c, d⟩ := q
  unfold prD
  rw [eqv_two, eqv_str, eqv_str]
  by_cases e : a = c <;> by_cases f : b = d <;> simp [e, f]
theorem eqv_st (A B : List Str) : PyData.eqv (stD A) (stD B) = decide (A = B) := by
  unfold stD
  rw [PyData.eqv]
  exact eqvAll_map PyData.str eqv_str A B
theorem eqv_ps (A B : List Pr) : PyData.eqv (psD A) (psD B) = decide (A = B) := by
  unfold psD
  rw [PyData.eqv]
  exact eqvAll_map prD eqv_pr A B
theorem eqv_pan (P R : Pan) : PyData.eqv (panD P) (panD R) = decide (P = R) := by
  obtain ⟨a, b⟩ := P
  obtain ⟨c, d⟩ := R
  unfold panD
  rw [eqv_two, eqv_st, eqv_ps]
  by_cases e : a = c <;> by_cases f : b = d <;> simp [e, f]
theorem eqv_pg (P R : Pg) : PyData.eqv (pgD P) (pgD R) = decide (P = R) := by
  obtain ⟨a, b⟩ := P
  obtain ⟨c, d⟩ := R
  unfold pgD
  rw [eqv_two, eqv_pan, eqv_st]
  by_cases e : a = c <;> by_cases f : b = d <;> simp [e, f]

/-- a name's text -/
def okS (s : Str) : Prop := PyData.strOk s = true ∧ s.length ≤ 6
theorem lay_map {α : Type} (c : α → PyData) (n : Nat) : ∀ l : List α, (∀ a ∈ l, (c a).canLay0 = true ∧ (c a).depth ≤ n) → PyData.canLayAll0 (l.map c) = true ∧ PyData.depthAll (l.map c) ≤ n
  | [], _ => ⟨by simp [PyData.canLayAll0], by simp [PyData.depthAll]⟩
  | a :: l, h => by
    obtain ⟨h1, h2⟩ := h a (List.mem_cons_self ..)
    obtain ⟨h3, h4⟩ := lay_map c n l fun b hb => h b (List.mem_cons_of_mem _ hb)
    rw [List.map_cons, PyData.canLayAll0, PyData.depthAll, h1, h3]
    exact ⟨rfl, by omega⟩
def Lay (d : PyData) (n : Nat) : Prop := d.canLay0 = true ∧ d.depth ≤ n
theorem Lay.shaped {d : PyData} {n : Nat} (h : Lay d n) (hn : n ≤ 64) : SeqAt.shaped d = true := by
  unfold SeqAt.shaped
  rw [h.1, decide_eq_true (Nat.le_trans h.2 hn)]
  rfl
theorem lay_str {s : Str} (h : PyData.strOk s = true) : Lay (.str s) 0 := ⟨by rw [PyData.canLay0]; exact h, by simp [PyData.depth]⟩
theorem lay_tup {α : Type} (c : α → PyData) (n : Nat) (l : List α) (h : ∀ a ∈ l, Lay (c a) n) : Lay (.tuple (l.map c)) (n + 1) := by
  obtain ⟨h1, h2⟩ := lay_map c n l h
  exact ⟨by rw [PyData.canLay0]; exact h1, by rw [PyData.depth]; omega⟩
theorem lay_two {a b : PyData} {n : Nat} (h : Lay a n) (g : Lay b n) : Lay (.tuple [a, b]) (n + 1) := by
  refine lay_tup id n [a, b] fun x hx => ?_
  rcases List.mem_cons.mp hx with e | e
  · rw [e]; exact h
  · rw [List.mem_singleton.mp e]; exact g
theorem Lay.more {d : PyData} {n m : Nat} (h : Lay d n) (l : n ≤ m) : Lay d m := ⟨h.1, Nat.le_trans h.2 l⟩
theorem lay_st {S : List Str} (h : ∀ s ∈ S, okS s) : Lay (stD S) 1 := lay_tup _ 0 S fun s hs => lay_str (h s hs).1
theorem lay_pr {p : Pr} (h1 : okS p.1) (h2 : okS p.2) : Lay (prD p) 1 := lay_two (lay_str h1.1) (lay_str h2.1)
theorem lay_ps {ps : List Pr} (h : ∀ p ∈ ps, okS p.1 ∧ okS p.2) : Lay (psD ps) 2 := lay_tup _ 1 ps fun p hp => lay_pr (h p hp).1 (h p hp).2
/-- a page that may be -/
structure Ok (g : Pg) : Prop where
  sw : ∀ s ∈ g.1.1, okS s
  mem : Mem g.1
  st : ∀ s ∈ g.2, okS s
  ne : g.1.1 ≠ []
  nd : g.1.1.Nodup
theorem Ok.ps {g : Pg} (h : Ok g) : ∀ p ∈ g.1.2, okS p.1 ∧ okS p.2 := fun p hp => ⟨h.sw _ (h.mem p hp).1, h.sw _ (h.mem p hp).2⟩
theorem lay_pan {g : Pg} (h : Ok g) : Lay (panD g.1) 3 := lay_two ((lay_st h.sw).more (by decide)) (lay_ps h.ps)
theorem lay_pg {g : Pg} (h : Ok g) : Lay (pgD g) 4 := lay_two (lay_pan h) ((lay_st h.st).more (by decide))

theorem cut_take (xs : List V) (k : Nat) : cutV xs none (some (k : Int)) = xs.take k := by
  unfold cutV
  rw [HT.sIx_none, HT.sIx_nat, List.drop_zero, Nat.sub_zero]
  by_cases h : k ≤ xs.length
  · rw [Nat.min_eq_left h]
  · rw [Nat.min_eq_right (by omega), List.take_length, List.take_of_length_le (by omega)]
theorem cut_drop1 (xs : List V) : cutV xs (some 1) none = xs.drop 1 := by
  unfold cutV
  rw [show HT.sIx xs.length 0 (some 1) = min 1 xs.length from HT.sIx_nat xs.length 0 1, HT.sIx_none]
  cases xs with
  | nil => rfl
  | cons x r =>
    rw [show min 1 (x :: r).length = 1 by
      rw [List.length_cons]
      omega]
    show (List.take ((x :: r).length - 1) r) = r
    rw [List.length_cons, Nat.add_sub_cancel]
    exact List.take_length
theorem paired_take {α β : Type} {F : α → β → Prop} : ∀ {l : List α} {m : List β} (n : Nat), Paired F l m → Paired F (l.take n) (m.take n)
  | _, _, 0, _ => .nil
  | _, _, n + 1, .nil => .nil
  | _, _, n + 1, .cons h t => .cons h (paired_take n t)
end Ob

/-! OP0: a pair in a tuple of pairs; raise X() -/
namespace Ob
open PySem PySem.Spec PyProof.Rows L2
section
variable (K : PySem.W.Frag) {X : Cx}
/-- x in y, a pair of names and a tuple of such pairs -/
def rInP (K : PySem.W.Frag) (neg : Bool) : R2 := fun x y H Q => ∃ (p : Pr) (ps : List Pr), Dp K H x (prD p) ∧ Dp K H y (psD ps) ∧ okS p.1 ∧ okS p.2 ∧ (∀ q ∈ ps, okS q.1 ∧ okS q.2) ∧ Q (.bl (if neg = true then !decide (p ∈ ps) else decide (p ∈ ps))) H
theorem any_pr (p : Pr) (ps : List Pr) : ((ps.map prD).any fun z => PyData.eqv z (prD p)) = decide (p ∈ ps) := by
  rw [List.any_map]
  induction ps with
  | nil => rfl
  | cons q ps ih =>
    rw [List.any_cons, ih]
    show (PyData.eqv (prD q) (prD p) || decide (p ∈ ps)) = _
    rw [eqv_pr]
    by_cases h : q = p
    · subst h
      simp
    · have h2 : ¬ p = q := fun z => h z.symm
      simp [h, h2]
theorem op_inP (hu : X.A.units + 65 < cLine) (h : X.K = K := by rfl) : OpR X (compareOp .In) (rInP K false) := by
  subst h
  intro pins s σ H x y v u Q I rx ry h
  obtain ⟨p, ps, hd, he, o1, o2, o3, q⟩ := h
  obtain ⟨as, r1⟩ := Dp.reads I _ x v hd rx
  obtain ⟨bs, r2⟩ := Dp.reads I _ y u he ry
  have l1 := lay_pr o1 o2
  have l2 : PyData.canLayAll0 (ps.map prD) = true := (lay_map prD 1 ps fun q hq => lay_pr (o3 q hq).1 (o3 q hq).2).1
  refine SeqAt.in_tuple_reads r2 r1 l2 l1.1 (Nat.lt_of_le_of_lt (Nat.add_le_add_left (Nat.min_le_right _ _) _) ?_) ⟨.bl _, H, I, rfl, ?_⟩
  · have := l1.2
    omega
  · rw [any_pr]
    exact q
theorem op_notInP (hu : X.A.units + 65 < cLine) (h : X.K = K := by rfl) : OpR X (compareOp .NotIn) (rInP K true) := by
  subst h
  intro pins s σ H x y v u Q I rx ry h
  obtain ⟨p, ps, hd, he, o1, o2, o3, q⟩ := h
  obtain ⟨as, r1⟩ := Dp.reads I _ x v hd rx
  obtain ⟨bs, r2⟩ := Dp.reads I _ y u he ry
  have l1 := lay_pr o1 o2
  have l2 : PyData.canLayAll0 (ps.map prD) = true := (lay_map prD 1 ps fun q hq => lay_pr (o3 q hq).1 (o3 q hq).2).1
  refine SeqAt.notIn_tuple_reads r2 r1 l2 l1.1 (Nat.lt_of_le_of_lt (Nat.add_le_add_left (Nat.min_le_right _ _) _) ?_) ⟨.bl _, H, I, rfl, ?_⟩
  · have := l1.2
    omega
  · rw [any_pr]
    exact q
theorem op_eqDK (hu : X.A.units + 64 < cLine) (h : X.K = K := by rfl) : OpR X (compareOp .Eq) (rEqD K) := by subst h; exact op_eqD hu
theorem op_neDK (hu : X.A.units + 64 < cLine) (h : X.K = K := by rfl) : OpR X (compareOp .NotEq) (rNeD K) := by subst h; exact op_neD hu
end

/-! ### raise X(), no own __init__ -/
/-- the class's facts -/
structure Gx0 (K : PySem.W.Frag) (mg : Str → Option Value) (x : Str) (C : Addr) (B newId initId : String) (bmB : List Value) : Prop where
  g : mg x = some (.ref C)
  F : ExcBaseFacts B newId initId bmB
  q : PySem.W.excIn K C bmB newId = true
  k : PySem.W.keepIn K (.ref C) = true
  b : PySem.W.subIn K (.ref C) (.type "BaseException") = some true
  t : PySem.W.typeIn K (.ref C) = some (.type "type")
theorem prx0 {X : Cx} {x : Str} {C : Addr} {B newId initId : String} {bmB : List Value} {W : WX} {p pos pos2 : Pos} (G : Gx0 X.K X.mg x C B newId initId bmB) (hc : X.calm = true) (hg : Gl X x) (tk : Takes X W) (hdb : (x == ("__debug__" : Str)) = false := by decide) :
    PS X (.Raise (some (.Call (.Name x p) [] [] pos)) none pos2) (fun _ σ H => W (.ref C) none σ H) := by
  refine ps_raise hc tk (t := fun _ H Q => Q (.ref C) none H) fun pins s σ H Q I h => ?_
  refine wpAny_Call_Name_kw (ld_glob I hg G.g ?_ hdb)
  refine PySem.W.callWith_K0 I.kIn G.k ?_
  show wpAny _ _ (call (.ref C) []) _ _ _
  obtain ⟨bm, N, nm, qn, bs, hdct, sn, sub, ab, col, dd, k0, k1, k2, k3, k5, mN, hC, hN, hni, T⟩ := exc_obj I.kIn G.q
  refine wpAny_call_exc_subT G.F T hC hN hni (fun h' e hm => ?_) (by show 0 ≤ sizeLine; rw [sizeLine_eq]; omega)
  exact mk_of I hm (raises_own G.b G.t) h (I.hok.gone hm.new)
end Ob

/-! OP1: sorted of a tuple -/
namespace Ob
open PySem PySem.Spec PyProof.Rows L2
section
open Builtin
variable {prog : Program} {w : World} {A : Around} {E : Value → Shared → Prop} {s : Shared}
theorem collect_tup {l : Addr} {vs : List Value} {Q : List Value → Shared → Prop} (hl : IsTup s.heap l vs.toArray)
    (h : Q vs { s with heap := (s.heap.push (seqObj "list" #[] 0)).update s.heap.objs.size (Obj.mapSeq (· ++ vs.toArray)) }) (hsz : vs.length ≤ sizeLine) :
    wpAny (model prog w) A (collect (.ref l)) Q E s := by
  obtain ⟨o, ho, hc, n, hd⟩ := id hl
  unfold collect
  refine wpAny_bind (wpAny_runValue (codeAny_builtin entry_proto_collect' ?_))
  show wpAny _ _ (do again (.builtin "list.__iadd__" ⟨[← newList [], .ref l], []⟩)) _ _ s
  refine wpAny_bind (wpAny_newList (wpAny_pure ⟨Code.quiet_builtin _ (by decide +kernel), codeAny_builtin entry_list_iadd' ?_⟩))
  show wpAny _ _ (Builtin.List.listExtendWith (.ref s.heap.objs.size) (.ref l) (.ref s.heap.objs.size)) _ _ { s with heap := s.heap.push (seqObj "list" #[] 0) }
  unfold Builtin.List.listExtendWith
  have ho' : (s.heap.push (seqObj "list" #[] 0)).get? l = some o := Heap.get?_push_of_some _ ho
  refine wpAny_bind (wpAny_typeOf (T := "tuple") ⟨o, ho', hc⟩ ?_)
  have ht : (Value.type "tuple" == Value.type "tuple") = true := by rfl
  rw [if_pos (by rw [ht]; simp)]
  refine wpAny_bind (listItems_at ho' hd ?_)
  refine wpAny_bind (listItems_at (xs := #[]) (n := 0) (Heap.get?_push_size _ rfl) rfl ?_)
  rw [if_neg (by simp)]
  refine wpAny_bind (listUpdate_at (xs := #[]) (n := 0) (Heap.get?_push_size _ rfl) rfl ?_ (Nat.zero_le _) (by show (#[] ++ vs.toArray).size ≤ sizeLine + 1; simp only [Array.size_append, List.size_toArray, List.length_nil]; omega))
  refine wpAny_pure ?_
  show wpAny (model prog w) A (do
      let o ← load s.heap.objs.size
      match o.data with
      | .seq xs _ => pure xs.toList
      | _ => unsupported "internal:collect") Q E { s with heap := (s.heap.push (seqObj "list" #[] 0)).update s.heap.objs.size (Obj.mapSeq (· ++ vs.toArray)) }
  refine wpAny_bind (wpAny_load (get?_update_seq (Heap.get?_push_size _ rfl) _) ?_)
  show wpAny _ _ (pure ((#[] : Array Value) ++ vs.toArray).toList) Q E _
  rw [show ((#[] : Array Value) ++ vs.toArray).toList = vs by simp]
  exact wpAny_pure h
theorem sorted_ordT {l : Addr} {vs : List Value} {ltv : Value → Value → Bool} {Q : Value → Shared → Prop} (O : SrtO.Swo ltv) (hl : IsTup s.heap l vs.toArray) (hz : vs.length ≤ sizeLine)
    (hS : 2 ≤ vs.length → ∀ (h₁ : Heap) (a : Addr), h₁.get? a = some (seqObj "list" vs.toArray 0) → (∀ b o, s.heap.get? b = some o → b ≠ a ∧ h₁.get? b = some o) → SrtO.SortableO prog w A.in1.in1 { s with heap := h₁ } a vs ltv)
    (h : ∀ out : List Value, SrtO.Srtd ltv out → SrtO.Stb ltv out vs → Q (.ref (s.heap.objs.size + 1)) { s with heap := sortedAll s.heap vs out.toArray }) :
    wpAny (model prog w) A (call (.builtin "sorted") [.ref l]) Q E s := by
  refine Calls.call_function_entry kind_sorted plain_sorted entry_sorted (args_sorted1 _) ?_
  unfold Builtin.«sorted»
  refine wpAny_bind (m := checkCount "sorted" 1 1 _) (wpAny_pure ?_)
  refine wpAny_bind (collect_tup hl ?_ hz)
  refine wpAny_bind (wpAny_newList ?_ hz)
  have hsz : ((s.heap.push (seqObj "list" #[] 0)).update s.heap.objs.size (Obj.mapSeq (· ++ vs.toArray))).objs.size = s.heap.objs.size + 1 := by
    rw [Heap.size_update, size_push']
  have hoL : (((s.heap.push (seqObj "list" #[] 0)).update s.heap.objs.size (Obj.mapSeq (· ++ vs.toArray))).push (seqObj "list" vs.toArray 0)).get? (s.heap.objs.size + 1) = some (seqObj "list" vs.toArray 0) := by
    rw [← hsz]; exact Heap.get?_push_size _ rfl
  have keep : ∀ b o, s.heap.get? b = some o → b ≠ s.heap.objs.size + 1 ∧ (((s.heap.push (seqObj "list" #[] 0)).update s.heap.objs.size (Obj.mapSeq (· ++ vs.toArray))).push (seqObj "list" vs.toArray 0)).get? b = some o := fun b o q => by
    have hlt : b < s.heap.objs.size := Heap.lt_size q
    refine ⟨Nat.ne_of_lt (Nat.lt_succ_of_lt hlt), Heap.get?_push_of_some _ ?_⟩
    rw [Heap.get?_update_ne _ _ _ _ (Nat.ne_of_lt hlt)]
    exact Heap.get?_push_of_some _ q
  show wpAny _ _ _ _ _ { s with heap := ((s.heap.push (seqObj "list" #[] 0)).update s.heap.objs.size (Obj.mapSeq (· ++ vs.toArray))).push (seqObj "list" vs.toArray 0) }
  rw [hsz]
  refine wpAny_bind (wpAny_holding (wpAny_call_entry slot_list_sort ⟨_, hoL, rfl⟩ entry_list_sort (SrtO.list_sort_ord O hoL hz (fun h2 => hS h2 _ _ hoL keep) fun out hs hb => ⟨_, rfl, ?_⟩) (args_list_sort _)))
  exact wpAny_pure ⟨_, rfl, h out hs hb⟩
theorem sorted_strsT {l : Addr} {vs : List Value} {ss : List Str} {Q : Value → Shared → Prop} (hl : IsTup s.heap l vs.toArray) (hS : StrsAre vs ss) (hL : vs.length ≤ sizeLine)
    (h : ∀ (out : Array Value) (ss' : List Str), StrsAre out.toList ss' → ss'.Perm ss → sortedS ss' = true → Q (.ref (s.heap.objs.size + 1)) { s with heap := sortedAll s.heap vs out }) :
    wpAny (model prog w) A (call (.builtin "sorted") [.ref l]) Q E s := by
  refine Calls.call_function_entry kind_sorted plain_sorted entry_sorted (args_sorted1 _) ?_
  unfold Builtin.«sorted»
  refine wpAny_bind (m := checkCount "sorted" 1 1 _) (wpAny_pure ?_)
  refine wpAny_bind (collect_tup hl ?_ hL)
  refine wpAny_bind (wpAny_newList ?_)
  have hsz : ((s.heap.push (seqObj "list" #[] 0)).update s.heap.objs.size (Obj.mapSeq (· ++ vs.toArray))).objs.size = s.heap.objs.size + 1 := by
    rw [Heap.size_update, size_push']
  have hoL : (((s.heap.push (seqObj "list" #[] 0)).update s.heap.objs.size (Obj.mapSeq (· ++ vs.toArray))).push (seqObj "list" vs.toArray 0)).get? (s.heap.objs.size + 1) = some (seqObj "list" vs.toArray 0) := by
    rw [← hsz]; exact Heap.get?_push_size _ rfl
  show wpAny _ _ _ _ _ { s with heap := ((s.heap.push (seqObj "list" #[] 0)).update s.heap.objs.size (Obj.mapSeq (· ++ vs.toArray))).push (seqObj "list" vs.toArray 0) }
  rw [hsz]
  refine wpAny_bind (wpAny_holding (wpAny_call_entry slot_list_sort ⟨_, hoL, rfl⟩ entry_list_sort (list_sort_treeKAny strKind_oneLt hoL hS.keysOf (fun v₁ v₂ rest e => keyKind_strs (by rw [← e]; exact hS)) hL fun st' hp hs => ⟨_, rfl, ?_⟩) (args_list_sort _)))
  obtain ⟨ss', h1, h2, h3⟩ := sorted_out_str hS hp hs
  exact wpAny_pure ⟨_, rfl, h _ ss' h1 h2 h3⟩
end
/-- sorted(xs), xs a tuple of texts -/
def rSortedTT (K : PySem.W.Frag) : List V → Hp → VK → Prop := fun vs H Q => ∃ (a : Addr) (xs : List Str), vs = [V.ref a] ∧ SqT K H a (xs.map V.str) ∧ ∀ (p : Addr), H p = none → Q (.ref p) (upd H p (.lst ((sortS xs).map V.str)))
theorem cr_sortedTT {X : Cx} : CallR X (.builtin "sorted") (rSortedTT X.K) := by
  intro pins s σ H vs us Q I r h
  obtain ⟨a, xs, rfl, hs, q⟩ := h
  obtain ⟨its, rv, hl, hz⟩ := I.tuple hs
  rw [Vals.ref1 r]
  have hlen0 := rv.length
  rw [List.length_map] at hlen0
  refine sorted_strsT hl rv.strs (by rw [← hlen0]; rw [List.length_map] at hz; exact hz) fun out ys h1 h2 h3 => ?_
  obtain ⟨ep, he'⟩ := PyProof.Rows.sortedAll_at s.heap its out
  have hlen : (ys.map V.str).length ≤ sizeLine := by rw [List.length_map, h2.length_eq]; rw [List.length_map] at hz; exact hz
  have ey : ys = sortS xs := sortS_one h2 (sortedS_pw h3)
  refine ⟨.ref _, upd H (s.heap.objs.size + 1) (.lst (ys.map V.str)), I.laid (t' := s.toks) (fun _ _ => PyProof.Rows.sortedAll_old) (Nat.le_succ _) ⟨hlen, out.toList, ep, vals_of_strs h1, he'⟩, rfl, ?_⟩
  rw [ey]
  exact q _ (I.hok.fresh (Nat.le_succ _))
/-- sorted(xs), xs a list or a tuple of pairs of texts -/
def rSortedPA (K : PySem.W.Frag) : List V → Hp → VK → Prop := fun vs H Q => ∃ (a : Addr) (xs : List V) (ps : List Pr), vs = [V.ref a] ∧ SqA K H a xs ∧ DpAll K H xs (ps.map prD) ∧
  ∀ ys p, H p = none → DpAll K H ys ((sortP ps).map prD) → ys.length = ps.length → Q (.ref p) (upd H p (.lst ys))
def rSortedA (K : PySem.W.Frag) : List V → Hp → VK → Prop := fun vs H Q => ∃ (a : Addr) (xs : List Str), vs = [V.ref a] ∧ SqA K H a (xs.map V.str) ∧ ∀ (p : Addr), H p = none → Q (.ref p) (upd H p (.lst ((sortS xs).map V.str)))
theorem cr_sortedA {X : Cx} : CallR X (.builtin "sorted") (rSortedA X.K) := by
  intro pins s σ H vs us Q I r h
  obtain ⟨a, xs, e, hs, q⟩ := h
  rcases hs with hs | hs
  · exact cr_sortedT pins s σ H vs us Q I r ⟨a, xs, e, hs, q⟩
  · exact cr_sortedTT pins s σ H vs us Q I r ⟨a, xs, e, hs, q⟩
theorem cr_sortedAK (K : PySem.W.Frag) {X : Cx} (h : X.K = K := by rfl) : CallR X (.builtin "sorted") (rSortedA K) := by subst h; exact cr_sortedA
section
variable {prog : Program} {w : World} {A : Around} {E : Value → Shared → Prop} {s : Shared}
/-- sorted(l) of tuples of two texts -/
theorem sorted_prsT {l : Addr} {vs : List Value} {k : Value → Pr} {Q : Value → Shared → Prop} (hl : IsTup s.heap l vs.toArray) (hz : vs.length ≤ sizeLine) (hp : ∀ v ∈ vs, IsPr s.heap v (k v))
    (h : ∀ (h' : Heap) (d : Addr) (out : List Value), out.Perm vs → out.map k = sortP (vs.map k) → (∀ b o, s.heap.get? b = some o → h'.get? b = some o) → s.heap.objs.size ≤ d → (∃ n, h'.get? d = some (seqObj "list" out.toArray n)) → Q (.ref d) { s with heap := h' }) :
    wpAny (model prog w) A (call (.builtin "sorted") [.ref l]) Q E s := by
  refine sorted_ordT (plt_swo k) hl hz (fun h2 h1 a ha kk => ?_) fun out hs hb => ?_
  · refine pr_sortable (s := { s with heap := h1 }) (by omega) (fun v hm => (hp v hm).keeps fun b o e _ => (kk b o e).2) fun o e c => ?_
    have e' : some o = some (seqObj "list" vs.toArray 0) := e.symm.trans ha
    cases e'
    exact absurd (Value.type.inj c) (by decide)
  · refine h _ _ out hb.perm (sortP_one (hb.perm.map k) (List.pairwise_map.mpr ?_)) (fun b o e => sortedAll_old e) (Nat.le_succ _) (sortedAll_at s.heap vs out.toArray)
    exact hs
end
/-- sorted(xs), xs a tuple of tuples of two texts -/
def rSortedPT (K : PySem.W.Frag) : List V → Hp → VK → Prop := fun vs H Q => ∃ (a : Addr) (xs : List V) (ps : List Pr), vs = [V.ref a] ∧ SqT K H a xs ∧ DpAll K H xs (ps.map prD) ∧
  ∀ ys p, H p = none → DpAll K H ys ((sortP ps).map prD) → ys.length = ps.length → Q (.ref p) (upd H p (.lst ys))
theorem cr_sortedPT {X : Cx} : CallR X (.builtin "sorted") (rSortedPT X.K) := by
  intro pins s σ H vs us Q I r h
  obtain ⟨a, xs, ps, rfl, hs, hx, q⟩ := h
  obtain ⟨its, rv, hl, hz⟩ := I.tuple hs
  have lx : xs.length = ps.length := by rw [dpAll_len hx, List.length_map]
  rw [Vals.ref1 r]
  -- item by item: the value, its pair
  have item : ∀ (i : Nat) (v : Value), its[i]? = some v → ∃ (x : V) (p : Pr) (t : Addr), xs[i]? = some x ∧ ps[i]? = some p ∧ x = .ref t ∧ v = .ref t ∧ Dp X.K H x (prD p) ∧ IsPr s.heap v p := by
    intro i v hv
    have li : i < xs.length := by rw [rv.length]; exact (List.getElem?_eq_some_iff.mp hv).1
    have ex : xs[i]? = some xs[i] := List.getElem?_eq_getElem li
    obtain ⟨u, e1, e2⟩ := rv.get ex
    rw [hv] at e1
    cases e1
    obtain ⟨d, d1, d2⟩ := dpAll_at hx ex
    rw [List.getElem?_map] at d1
    cases ep : ps[i]? with
    | none => rw [ep] at d1; cases d1
    | some p =>
      rw [ep] at d1
      cases d1
      obtain ⟨z, t, et⟩ := dp_pr I d2 e2
      rw [et] at e2
      exact ⟨_, p, t, ex, rfl, et, e2, d2, z⟩
  have pv : ∀ v ∈ its, IsPr s.heap v (prOf s.heap v) := fun v hv => by
    obtain ⟨i, hi⟩ := List.mem_iff_getElem?.mp hv
    obtain ⟨x, p, t, _, _, _, _, _, z⟩ := item i v hi
    rw [prOf_is z]
    exact z
  have km : its.map (prOf s.heap) = ps := by
    refine List.ext_getElem? fun i => ?_
    rw [List.getElem?_map]
    cases hv : its[i]? with
    | none =>
      have l1 := List.getElem?_eq_none_iff.mp hv
      have l2 : ps.length ≤ i := by rw [← lx, rv.length]; exact l1
      rw [List.getElem?_eq_none_iff.mpr l2]
      rfl
    | some v =>
      obtain ⟨x, p, t, _, e, _, _, _, z⟩ := item i v hv
      rw [e]
      show some (prOf s.heap v) = some p
      rw [prOf_is z]
  refine sorted_prsT hl (by rw [← rv.length]; exact hz) pv fun h' d out hp hk kp hd hn => ?_
  obtain ⟨n, hn⟩ := hn
  rw [km] at hk
  have mem : ∀ v ∈ out, ∃ t, v = Value.ref t ∧ Dp X.K H (.ref t) (prD (prOf s.heap v)) := fun v hv => by
    obtain ⟨i, hi⟩ := List.mem_iff_getElem?.mp (hp.mem_iff.mp hv)
    obtain ⟨x, p, t, _, _, e1, e2, dp, z⟩ := item i v hi
    rw [prOf_is z]
    exact ⟨t, e2, e1 ▸ dp⟩
  have vo : Vals (out.map unV) out := by
    clear hk hn hp
    induction out with
    | nil => exact .nil
    | cons v out ih =>
      obtain ⟨t, e, _⟩ := mem v (List.mem_cons_self ..)
      subst e
      exact .cons rfl (ih fun v hv => mem v (List.mem_cons_of_mem _ hv))
  have lo : out.length = ps.length := by rw [hp.length_eq, ← rv.length, lx]
  refine ⟨.ref d, upd H d (.lst (out.map unV)), I.laid (t' := s.toks) kp hd ⟨by rw [List.length_map, lo, ← lx]; exact hz, out, n, vo, hn⟩, rfl, q _ d (I.hok.fresh hd) ?_ (by rw [List.length_map, lo])⟩
  rw [← hk, List.map_map]
  refine dpAll_of (by rw [List.length_map, List.length_map]) fun i x e h1 h2 => ?_
  rw [List.getElem?_map] at h1 h2
  cases ev : out[i]? with
  | none => rw [ev] at h1; cases h1
  | some v =>
    rw [ev] at h1 h2
    cases h1
    cases h2
    obtain ⟨t, e1, e2⟩ := mem v (List.mem_of_getElem? ev)
    subst e1
    exact e2

theorem cr_sortedPA {X : Cx} : CallR X (.builtin "sorted") (rSortedPA X.K) := by
  intro pins s σ H vs us Q I r h
  obtain ⟨a, xs, ps, e, hs, hx, q⟩ := h
  rcases hs with hs | hs
  · exact cr_sortedPS pins s σ H vs us Q I r ⟨a, xs, ps, e, hs, hx, q⟩
  · exact cr_sortedPT pins s σ H vs us Q I r ⟨a, xs, ps, e, hs, hx, q⟩
theorem cr_sortedPAK (K : PySem.W.Frag) {X : Cx} (h : X.K = K := by rfl) : CallR X (.builtin "sorted") (rSortedPA K) := by subst h; exact cr_sortedPA
end Ob

/-! OP: Board.__init__, as_of, twin, ==, the deeds' inner methods -/
namespace Ob
open PySem PySem.Spec PyProof.Rows L2 LamX

/-- a def with defaults that is a class's __init__ -/
structure DiD (K : PySem.W.Frag) (mg : Str → Option Value) (x : Str) (C : Addr) (q : Str) (st : Stmt) (ps : List Str) : Prop where
  g : mg x = some (.ref C)
  cl : Cls K C
  ex : ∃ f fd dvs, Mk K C f ∧ Binds K fd ps [] ∧ FunD K "__init__" q (defArgs st) (defBody st) (defScope st) dvs [] f fd
section
variable {P : Program} {w : World} {K : PySem.W.Frag} {mg : Str → Option Value} {base : Heap}
theorem DiD.ok {C : Addr} {x q : Str} {st : Stmt} {N ps : List Str} {k : Nat} {sp : Sp} (D : DiD K mg x C q st ps) (S : FnScope N ps (defScope st)) (len : ∀ vs H Q E, sp vs H Q E → vs.length = ps.length)
    (hbody : ∀ (f : Addr) (cdv : Value) (A : Around) (outer : List Env) (s : Shared) (H : Hp) (vs : List V) (Q : VK) (E : XK), Room k (A.deeper (envOfC q (defScope st) s.heap.objs.size f cdv)) → sp vs H Q E →
      ∃ t, PSs (cxOf CX0 P w K mg base N q (defScope st) f cdv A outer s H E).nox (defBody st) t ∧ t { nx := fun _ H' => Q .non H', rt := Q } (start N vs) H) : Gk P w K mg base CX0 (k + 1) x C ps sp := by
  obtain ⟨f, fd, dvs, h1, h3, h4⟩ := D.ex
  refine ⟨D.g, f, fd, h1, h3, h4.ok S len fun cdv A outer s H vs Q E hr h => ?_⟩
  obtain ⟨t, h5, h6⟩ := hbody f cdv A outer s H vs Q E hr h
  exact ⟨t, h5.nox, h6⟩
end
/-- the own exceptions' facts; XL: the classes that the law catches -/
structure Exs (P : Program) (w : World) (K : PySem.W.Frag) (mg : Str → Option Value) (base : Heap) (XL : Addr → Prop) : Prop where
  noSwitch : ∃ C nI iI bmB, XL C ∧ Gx P w K mg base 1 "NoSwitch" C "LookupError" nI iI bmB "switch" ["self", "switch"]
  sameSwitch : ∃ C nI iI bmB, XL C ∧ Gx P w K mg base 1 "SameSwitch" C "ValueError" nI iI bmB "switch" ["self", "switch"]
  badName : ∃ C nI iI bmB, XL C ∧ Gx P w K mg base 1 "BadName" C "ValueError" nI iI bmB "name" ["self", "name"]
  noPair : ∃ C nI iI bmB, XL C ∧ Gx P w K mg base 1 "NoPair" C "LookupError" nI iI bmB "pair" ["self", "pair"]
  taken : ∃ C nI iI bmB, XL C ∧ Gx P w K mg base 1 "Taken" C "RuntimeError" nI iI bmB "switch" ["self", "switch"]
  known : ∃ C nI iI bmB, XL C ∧ Gx P w K mg base 1 "Known" C "RuntimeError" nI iI bmB "pair" ["self", "pair"]
  bothOn : ∃ C nI iI bmB, XL C ∧ Gx P w K mg base 1 "BothOn" C "RuntimeError" nI iI bmB "pair" ["self", "pair"]
  lastSwitch : ∃ C B nI iI bmB, XL C ∧ Gx0 K mg "LastSwitch" C B nI iI bmB
  noDeed : ∃ C nI iI bmB, Gx P w K mg base 1 "NoDeed" C "LookupError" nI iI bmB "many" ["self", "many"]

/-! ### what the deeds do -/
def pEx (g : Pg) (a : Str × Str) : Option Pg := if a.1 ∈ g.1.1 ∧ a.2 ∈ g.1.1 ∧ ¬ a.1 = a.2 ∧ ordB a.1 a.2 ∉ g.1.2 ∧ ¬ (a.1 ∈ g.2 ∧ a.2 ∈ g.2) then some ((g.1.1, sortP (g.1.2 ++ [ordB a.1 a.2])), g.2) else none
def pLet (g : Pg) (a : Str × Str) : Option Pg := if a.1 ∈ g.1.1 ∧ a.2 ∈ g.1.1 ∧ ordB a.1 a.2 ∈ g.1.2 then some ((g.1.1, g.1.2.filter fun p => !decide (p = ordB a.1 a.2)), g.2) else none
def pAdd (g : Pg) (s : Str) : Option Pg := if isName s = true ∧ s ∉ g.1.1 then some ((sortS (g.1.1 ++ [s]), g.1.2), g.2) else none
def pRem (g : Pg) (s : Str) : Option Pg := if s ∈ g.1.1 ∧ g.1.1.length ≠ 1 then some ((g.1.1.filter fun x => !decide (x = s), g.1.2.filter fun p => !decide (s ∈ [p.1, p.2])), g.2.filter fun x => !decide (x = s)) else none
/-- bounds -/
structure Sz (g : Pg) (n : Nat) : Prop where
  sw : g.1.1.length ≤ n
  ps : g.1.2.length ≤ n
  st : g.2.length ≤ n
theorem ord_ok {x y : Str} (hx : okS x) (hy : okS y) : okS (ordB x y).1 ∧ okS (ordB x y).2 := by
  unfold ordB
  split
  · exact ⟨hx, hy⟩
  · exact ⟨hy, hx⟩

section
variable {P : Program} {w : World} {K : PySem.W.Frag} {mg : Str → Option Value} {base : Heap} {BC PC : Addr} {T : List (Addr × Str)} {XL : Addr → Prop}
abbrev s_Board_init : Stmt := inClass (top 25) 0
theorem S_Board_init : FnScope ["self", "panel", "state"] ["self", "panel", "state"] (defScope s_Board_init) := ⟨rfl, rfl, rfl, by decide +kernel, rfl, by decide +kernel, by decide +kernel⟩
abbrev s_Board_as_of : Stmt := inClass (top 25) 20
theorem S_Board_as_of : FnScope ["self", "many", "other"] ["self", "many"] (defScope s_Board_as_of) := ⟨rfl, rfl, rfl, by decide +kernel, rfl, by decide +kernel, by decide +kernel⟩
abbrev s_Board_twin : Stmt := inClass (top 25) 21
theorem S_Board_twin : FnScope ["self"] ["self"] (defScope s_Board_twin) := ⟨rfl, rfl, rfl, by decide +kernel, rfl, by decide +kernel, by decide +kernel⟩
abbrev s_Board_eq : Stmt := inClass (top 25) 23
theorem S_Board_eq : FnScope ["self", "other"] ["self", "other"] (defScope s_Board_eq) := ⟨rfl, rfl, rfl, by decide +kernel, rfl, by decide +kernel, by decide +kernel⟩
abbrev s_Board_gone : Stmt := inClass (top 25) 6
theorem S_Board_gone : FnScope ["self", "history", "found", "before", "after"] ["self", "history"] (defScope s_Board_gone) := ⟨rfl, rfl, rfl, by decide +kernel, rfl, by decide +kernel, by decide +kernel⟩
abbrev s_Board_excluded : Stmt := inClass (top 25) 9
theorem S_Board_excluded : FnScope ["self", "one", "other", "pair", "switches", "exclusions"] ["self", "one", "other"] (defScope s_Board_excluded) := ⟨rfl, rfl, rfl, by decide +kernel, rfl, by decide +kernel, by decide +kernel⟩
abbrev s_Board_let : Stmt := inClass (top 25) 11
theorem S_Board_let : FnScope ["self", "one", "other", "pair", "switches", "exclusions", "near"] ["self", "one", "other"] (defScope s_Board_let) := ⟨rfl, rfl, rfl, by decide +kernel, rfl, by decide +kernel, by decide +kernel⟩
abbrev s_Board_added : Stmt := inClass (top 25) 13
theorem S_Board_added : FnScope ["self", "switch", "switches", "exclusions"] ["self", "switch"] (defScope s_Board_added) := ⟨rfl, rfl, rfl, by decide +kernel, rfl, by decide +kernel, by decide +kernel⟩
abbrev s_Board_removed : Stmt := inClass (top 25) 15
theorem S_Board_removed : FnScope ["self", "switch", "switches", "exclusions", "left", "near", "pair"] ["self", "switch"] (defScope s_Board_removed) := ⟨rfl, rfl, rfl, by decide +kernel, rfl, by decide +kernel, by decide +kernel⟩
abbrev s_Board_taken_back : Stmt := inClass (top 25) 18
theorem S_Board_taken_back : FnScope ["self"] ["self"] (defScope s_Board_taken_back) := ⟨rfl, rfl, rfl, by decide +kernel, rfl, by decide +kernel, by decide +kernel⟩
def sp_board (K : PySem.W.Frag) (T : List (Addr × Str)) (BC PC : Addr) : Sp := fun vs H Q _ => ∃ (x dx : Addr) (Hb : Hp) (pv sv : V) (P : Pan) (S : List Str), vs = [.ref x, pv, sv] ∧ H = upd (upd Hb dx (.own x)) x (.ins BC dx []) ∧ Hb x = none ∧ Hb dx = none ∧ dx ≠ x ∧ PanL K Hb pv P ∧ StL K Hb sv S ∧ P.2.length ≤ 100000 ∧
  ∀ pl wl H', Hb pl = none → Hb wl = none → Fr T [] Hb H' → BoardAt K BC PC H' x pl wl [(P, S)] 0 → Q .non H'
theorem ok_board (CF : Cf K BC PC) (D : DiD K mg "Board" BC "Board.__init__" s_Board_init ["self", "panel", "state"]) (G_Page : Gk P w K mg base CX0 1 "Page" PC ["self", "panel", "state"] (sp_page K T PC)) :
    Gk P w K mg base CX0 3 "Board" BC ["self", "panel", "state"] (sp_board K T BC PC) := by
  refine D.ok (k := 2) S_Board_init (fun vs H Q E h => ?_) (fun f cdv A outer s H vs Q E hr h => ?_)
  · obtain ⟨x, dx, Hb, pv, sv, P, S, rfl, _⟩ := h
    rfl
  · obtain ⟨x, dx, Hb, pa, sv, P, S, rfl, rfl, nx, ndx, ne, hP, hS, hl, q⟩ := h
    have f0 : Fr T [] Hb (upd (upd Hb dx (.own x)) x (.ins BC dx [])) := (Fr.refl.nw ndx).nw (by rw [upd_ne ne.symm]; exact nx)
    -- slots: 0:self 1:panel 2:state
    refine ⟨_, (pss_cons (ps_fld (pv 0) (pe_lst (pa_cons (pmk G_Page rfl (hr.mono (by decide)) (pa_cons (pv 1) (pa_cons (pv 2) pa_nil))) pa_nil)) rfl)
    (pss_one (ps_fld (pv 0) (pe_lst pa_nil) rfl))), ?_⟩
    refine ⟨pa, rfl, sv, rfl, fun y yd ny nyd nye => ?_⟩
    refine ⟨y, yd, _, pa, sv, P, S, rfl, rfl, ny, nyd, nye, f0.panL hP, f0.stL hS, hl, fun H1 f1 hp => ⟨rfl, ?_⟩⟩
    refine ⟨Ob.small' 1 (by decide), fun l hl => ?_⟩
    have f2 := (f0.trans f1).nw (o := .lst [V.ref y]) hl
    have hx : (upd H1 l (.lst [.ref y])) x = some (.ins BC dx []) := upd_old hl _ _ (f1.ins upd_same)
    refine ⟨.ref x, rfl, x, BC, dx, _, rfl, hx, CF.clB, CF.nPages, by show 0 < 1000; decide, ?_⟩
    have f3 : Fr T [] Hb (upd (upd H1 l (.lst [.ref y])) x (.ins BC dx (putF "pages" (.ref l) []))) := f2.put (by rw [hx]; exact True.intro) (.inl nx)
    refine ⟨Ob.small' 0 (by decide), fun m hm => ?_⟩
    have hx2 := upd_old (o := .lst []) hm _ _ (upd_same (H := upd H1 l (.lst [.ref y])) (a := x) (o := .ins BC dx (putF "pages" (.ref l) [])))
    refine ⟨.ref x, rfl, x, BC, dx, _, rfl, hx2, CF.clB, CF.nWords, by show 1 < 1000; decide, ?_⟩
    have f4 : Fr T [] Hb (upd (upd (upd (upd H1 l (.lst [.ref y])) x (.ins BC dx (putF "pages" (.ref l) []))) m (.lst [])) x (.ins BC dx (putF "words" (.ref m) (putF "pages" (.ref l) [])))) := (f3.nw hm).put (by rw [hx2]; exact True.intro) (.inl nx)
    have xl : x ≠ l := ne_of hx (upd_same (H := H1) (a := l) (o := .lst [.ref y])) (by intro z; cases z)
    have ml : l ≠ m := ne_of_none (by rw [upd_ne xl.symm]; exact upd_same) hm
    have xm : x ≠ m := ne_of_none upd_same hm
    refine q l m _ ((f0.trans f1).free hl) (f3.free hm) f4 ⟨⟨dx, [.ref y], [], upd_same, ?_, .cons ?_ .nil, ?_, Nat.le_refl _⟩, ml⟩
    · rw [upd_ne xl.symm, upd_ne ml, upd_ne xl.symm, upd_same]
    · obtain ⟨pq, dq, a, b, e1, e2, e3, e4⟩ := hp
      cases e1
      have t1 : Tk H1 (upd (upd (upd (upd H1 l (.lst [.ref y])) x (.ins BC dx (putF "pages" (.ref l) []))) m (.lst [])) x (.ins BC dx (putF "words" (.ref m) (putF "pages" (.ref l) [])))) := fun a o h k => tk_ins hx2 a o (((Fr.refl (T := T) (S := [])).nw hm).tk a o (tk_ins hx a o (((Fr.refl (T := T) (S := [])).nw hl).tk a o h k) k) k) k
      have yx : y ≠ x := fun z => by rw [z, upd_same] at ny; cases ny
      refine ⟨y, dq, a, b, rfl, ?_, imm_pan _ t1 e3, imm_st _ t1 e4⟩
      have e2' := upd_old (o := .lst [V.ref y]) hl _ _ e2
      have e3' : (upd (upd H1 l (.lst [.ref y])) x (.ins BC dx (putF "pages" (.ref l) []))) y = some (.ins PC dq [("layout", a), ("lit", b)]) := by
        rw [upd_ne yx]; exact e2'
      rw [upd_ne yx, upd_ne (ne_of_none e3' hm)]
      exact e3'
    · rw [upd_ne xm.symm, upd_same]

def sp_asOf (K : PySem.W.Frag) (T : List (Addr × Str)) (BC PC : Addr) : Sp := fun vs H Q _ => ∃ (a pl wl : Addr) (ms : List Pg) (g : Pg) (n k : Nat), vs = [.ref a, .int k] ∧ BoardAt K BC PC H a pl wl (ms ++ [g]) n ∧ k ≤ ms.length ∧ g.1.2.length ≤ 100000 ∧
  ∀ o pl' wl' H', H o = none → H pl' = none → H wl' = none → Fr T [] H H' → BoardAt K BC PC H' o pl' wl' ((ms ++ [g]).take (k + 1)) 0 → Q (.ref o) H'
theorem ok_asOf (TX : Txt mg) (CF : Cf K BC PC) (D : Dm K BC "as_of" "Board.as_of" s_Board_as_of ["self", "many"]) (EX : Exs P w K mg base XL)
    (G_Board_deeds : Gm P w K mg base CX0 1 BC "deeds" ["self"] (sp_deeds K BC PC)) (G_Board_panel : Gm P w K mg base CX0 2 BC "panel" ["self"] (sp_panel K BC PC)) (G_Board_state : Gm P w K mg base CX0 2 BC "state" ["self"] (sp_state K BC PC))
    (G_Board : Gk P w K mg base CX0 3 "Board" BC ["self", "panel", "state"] (sp_board K T BC PC)) : Gm P w K mg base (L2.CX P w) 5 BC "as_of" ["self", "many"] (sp_asOf K T BC PC) := by
  obtain ⟨CN, nI, iI, bmB, GX_NoDeed⟩ := EX.noDeed
  refine D.okX (k := 4) S_Board_as_of (fun vs H Q E h => ?_) (fun f cdv A outer s H vs Q E hr h => ?_)
  · obtain ⟨a, pl, wl, ms, g, n, k, rfl, _⟩ := h
    rfl
  · obtain ⟨a, pl, wl, ms, g, n, k, rfl, hB, hk, hl, q⟩ := h
    obtain ⟨⟨dx, vs, ws, h1, h2, h3, h4, h5⟩, ne⟩ := id hB
    -- slots: 0:self 1:many 2:other
    refine ⟨_, (pss_cons (ps_if (pt_not (pt_chain op_le op_le pe_int (pv 1) (pmt0 G_Board_deeds (hr.mono (by decide)) p0 (pv 0)))) (pss_one (prx GX_NoDeed rfl rfl (hr.mono (by decide)) tkE (pa_cons (pv 1) pa_nil))) pss_nil)
    (pss_cons (ps_set (i := 2) S_Board_as_of.nd rfl (Or.inl rfl) (pmk G_Board rfl (hr.mono (by decide)) (pa_cons (pmt0 G_Board_panel (hr.mono (by decide)) p0 (pv 0)) (pa_cons (pmt0 G_Board_state (hr.mono (by decide)) p0 (pv 0)) pa_nil))))
    (pss_cons (ps_fld (pv 2) (pe_slice sl_list (pe_fld (pv 0) rfl) po_none (po_some (pe_op op_add (pv 1) pe_int))) rfl)
    (pss_one (ps_ret (pv 2)))))), ?_⟩
    refine ⟨.int k, rfl, 0, k, rfl, rfl, _, rfl, ?_⟩
    rw [decide_eq_true (by omega)]
    refine iteT ⟨.ref a, rfl, a, dx, _, rfl, h1, rfl, a, pl, wl, _, n, rfl, hB, ?_⟩
    refine ⟨k, (((ms ++ [g]).length : Nat) : Int) - 1, rfl, rfl, _, rfl, ?_⟩
    rw [decide_eq_true (by rw [List.length_append]; simp; omega)]
    refine iteF ⟨.ref a, rfl, a, dx, _, rfl, h1, rfl, a, pl, wl, ms, g, n, rfl, hB, fun pv hpv => ?_⟩
    refine ⟨.ref a, rfl, a, dx, _, rfl, h1, rfl, a, pl, wl, ms, g, n, rfl, hB, fun sv hsv => ?_⟩
    intro o od no nod noe
    refine ⟨o, od, H, pv, sv, g.1, g.2, rfl, rfl, no, nod, noe, panL_of hpv, stL_of hsv, hl, fun pl' wl' H1 np nw f1 b1 => ⟨rfl, ?_⟩⟩
    obtain ⟨⟨dy, vs', ws', e1, e2, e3, e4, e5⟩, ne'⟩ := b1
    refine ⟨.ref a, rfl, a, BC, dx, _, _, rfl, f1.ins h1, CF.clB, CF.nPages, rfl, ?_⟩
    refine ⟨.int k, rfl, k, 1, rfl, rfl, (k : Int) + 1, rfl, ?_⟩
    refine ⟨pl, vs, rfl, sqL (f1.lst h2), fun c hc => ?_⟩
    have oc := upd_old (o := .lst (cutV vs none (some ((k : Int) + 1)))) hc _ _ e1
    refine ⟨.ref o, rfl, o, BC, dy, _, rfl, oc, CF.clB, CF.nPages, by show 2 < 1000; decide, ?_⟩
    have f2 : Fr T [] H (upd (upd H1 c (.lst (cutV vs none (some ((k : Int) + 1))))) o (.ins BC dy (putF "pages" (.ref c) [("pages", .ref pl'), ("words", .ref wl')]))) := (f1.nw hc).put (by rw [oc]; exact True.intro) (.inl no)
    have oc' : o ≠ c := ne_of oc upd_same (by intro z; cases z)
    have wo : wl' ≠ o := ne_of e4 e1 (by intro z; cases z)
    have wc : wl' ≠ c := ne_of_none e4 hc
    refine ⟨.ref o, rfl, q o c wl' _ no (f1.free hc) nw f2 ⟨⟨dy, cutV vs none (some ((k : Int) + 1)), ws', upd_same, ?_, ?_, ?_, e5⟩, wc.symm⟩⟩
    · rw [upd_ne oc'.symm, upd_same]
    · have ct : cutV vs none (some ((k : Int) + 1)) = vs.take (k + 1) := cut_take vs (k + 1)
      have z := paired_take (k + 1) (pages_fr h3 f2)
      rw [← ct] at z
      exact z
    · rw [upd_ne wo, upd_ne wc]
      exact e4
def sp_twin (K : PySem.W.Frag) (T : List (Addr × Str)) (BC PC : Addr) : Sp := fun vs H Q _ => ∃ (a pl wl : Addr) (ms : List Pg) (g : Pg) (n : Nat), vs = [.ref a] ∧ BoardAt K BC PC H a pl wl (ms ++ [g]) n ∧ g.1.2.length ≤ 100000 ∧
  ∀ o pl' wl' H', H o = none → H pl' = none → H wl' = none → Fr T [] H H' → BoardAt K BC PC H' o pl' wl' (ms ++ [g]) 0 → Q (.ref o) H'
theorem ok_twin (CF : Cf K BC PC) (D : Dm K BC "twin" "Board.twin" s_Board_twin ["self"])
    (G_Board_deeds : Gm P w K mg base CX0 1 BC "deeds" ["self"] (sp_deeds K BC PC)) (G_Board_as_of : Gm P w K mg base (L2.CX P w) 5 BC "as_of" ["self", "many"] (sp_asOf K T BC PC)) : Gm P w K mg base (L2.CX P w) 6 BC "twin" ["self"] (sp_twin K T BC PC) := by
  refine D.okX (k := 5) S_Board_twin (fun vs H Q E h => ?_) (fun f cdv A outer s H vs Q E hr h => ?_)
  · obtain ⟨a, pl, wl, ms, g, n, rfl, _⟩ := h
    rfl
  · obtain ⟨a, pl, wl, ms, g, n, rfl, hB, hl, q⟩ := h
    obtain ⟨⟨dx, vs, ws, h1, _⟩, _⟩ := id hB
    -- slots: 0:self
    refine ⟨_, (pss_one (ps_ret (pmt G_Board_as_of (hr.mono (by decide)) pF (pv 0) (pa_cons (pmt0 G_Board_deeds (hr.mono (by decide)) p0 (pv 0)) pa_nil)))), ?_⟩
    refine ⟨.ref a, rfl, a, dx, _, rfl, h1, rfl, .ref a, rfl, a, dx, _, rfl, h1, rfl, a, pl, wl, _, n, rfl, hB, ?_⟩
    refine ⟨a, pl, wl, ms, g, n, ms.length, ?_, hB, Nat.le_refl _, hl, fun o pl' wl' H' a1 a2 a3 f b => q o pl' wl' H' a1 a2 a3 f ?_⟩
    · rw [List.length_append]
      simp
    · rw [List.take_of_length_le (by simp)] at b
      exact b
/-- isinstance(b, Board) -/
structure IsB (K : PySem.W.Frag) (BC : Addr) : Prop where
  ty : ∀ (H : Hp) (a dx : Addr) (fs : List (Str × V)), H a = some (.ins BC dx fs) → TyX K H (.ref a) (.ref BC)
  kit : PySem.W.kitOne K (.ref BC) (.ref BC) = some true
def sp_eq (K : PySem.W.Frag) (T : List (Addr × Str)) (BC PC : Addr) : Sp := fun vs H Q _ => ∃ (a b pl wl pl' wl' : Addr) (ms ms' : List Pg) (g g' : Pg) (n n' : Nat), vs = [.ref a, .ref b] ∧ BoardAt K BC PC H a pl wl (ms ++ [g]) n ∧ BoardAt K BC PC H b pl' wl' (ms' ++ [g']) n' ∧ Ok g ∧ Ok g' ∧
  ∀ H', Fr T [] H H' → Q (.bl (decide (g = g'))) H'
theorem ok_eq (TX : Txt mg) (gBoard : mg "Board" = some (.ref BC)) (IB : IsB K BC) (D : Dm K BC "__eq__" "Board.__eq__" s_Board_eq ["self", "other"])
    (G_Board_panel : Gm P w K mg base CX0 2 BC "panel" ["self"] (sp_panel K BC PC)) (G_Board_state : Gm P w K mg base CX0 2 BC "state" ["self"] (sp_state K BC PC)) : Gm P w K mg base CX0 3 BC "__eq__" ["self", "other"] (sp_eq K T BC PC) := by
  refine D.ok (k := 2) S_Board_eq (fun vs H Q E h => ?_) (fun f cdv A outer s H vs Q E hr h => ?_)
  · obtain ⟨a, b, pl, wl, pl', wl', ms, ms', g, g', n, n', rfl, _⟩ := h
    rfl
  · obtain ⟨a, b, pl, wl, pl', wl', ms, ms', g, g', n, n', rfl, hA, hB, og, og', q⟩ := h
    obtain ⟨⟨dx, vs, ws, h1, _⟩, _⟩ := id hA
    obtain ⟨⟨dy, vs', ws', h2, _⟩, _⟩ := id hB
    -- slots: 0:self 1:other
    refine ⟨_, (pss_cons (ps_if (pt_not (pt_val (pe_callB call_isi rfl TX.n_isinstance (by decide +kernel) (pa_cons (pv 1) (pa_cons (pe_glob (v := .ref BC) rfl gBoard rfl) pa_nil))))) (pss_one (ps_ret pe_bl)) pss_nil)
    (pss_one (ps_ret (pe_cmpR (op_eqDK K (hu64_of hr)) (pe_tup (pa_cons (pmt0 G_Board_panel (hr.mono (by decide)) p0 (pv 0)) (pa_cons (pmt0 G_Board_state (hr.mono (by decide)) p0 (pv 0)) pa_nil))) (pe_tup (pa_cons (pmt0 G_Board_panel (hr.mono (by decide)) p0 (pv 1)) (pa_cons (pmt0 G_Board_state (hr.mono (by decide)) p0 (pv 1)) pa_nil))) (nomark _))))), ?_⟩
    refine ⟨.ref b, rfl, .ref b, .ref BC, .ref BC, .ref BC, true, rfl, .own _, IB.ty _ _ _ _ h2, IB.kit, true, rfl, iteF ?_⟩
    refine ⟨.ref a, rfl, a, dx, _, rfl, h1, rfl, a, pl, wl, ms, g, n, rfl, hA, fun pv hp => ?_⟩
    refine ⟨.ref a, rfl, a, dx, _, rfl, h1, rfl, a, pl, wl, ms, g, n, rfl, hA, fun sv hs => ?_⟩
    refine ⟨Ob.small' 2 (by decide), fun t ht => ?_⟩
    have f1 : Fr T [] H (upd H t (.tup [pv, sv])) := Fr.refl.nw ht
    have d1 : Dp K (upd H t (.tup [pv, sv])) (.ref t) (pgD g) := dp_two_of (sqT upd_same) (f1.dpan hp) (f1.dst hs)
    refine ⟨.ref b, rfl, b, dy, _, rfl, f1.ins h2, rfl, b, pl', wl', ms', g', n', rfl, hB.fr f1, fun pv' hp' => ?_⟩
    refine ⟨.ref b, rfl, b, dy, _, rfl, f1.ins h2, rfl, b, pl', wl', ms', g', n', rfl, hB.fr f1, fun sv' hs' => ?_⟩
    refine ⟨Ob.small' 2 (by decide), fun t' ht' => ?_⟩
    have f2 : Fr T [] (upd H t (.tup [pv, sv])) (upd (upd H t (.tup [pv, sv])) t' (.tup [pv', sv'])) := Fr.refl.nw ht'
    refine ⟨pgD g, pgD g', f2.dpg d1, dp_two_of (sqT upd_same) (f2.dpan hp') (f2.dst hs'), (lay_pg og).shaped (by decide), (lay_pg og').shaped (by decide), ?_⟩
    rw [eqv_pg]
    exact q _ (f1.trans f2)
end
end Ob

/-! OQ: what the deeds do within -/
namespace Ob
open PySem PySem.Spec PyProof.Rows L2 LamX
theorem tIfSI {c : TT} {t u : TS} {D : Ends} {σ : L2.St} {H : Hp} (h : c σ H fun b H1 => if b = true then t D σ H1 else u D σ H1) : tIfS c t u D σ H := h
theorem tNextI {D : Ends} {σ : L2.St} {H : Hp} (h : D.nx σ H) : tNext D σ H := h
theorem and_test {tA tB : TT} {σ : L2.St} {H : Hp} {Q : Bool → Hp → Prop} (p q : Prop) [Decidable p] [Decidable q] (hA : ∀ R : Bool → Hp → Prop, R (decide p) H → tA σ H R) (hB : p → ∀ R : Bool → Hp → Prop, R (decide q) H → tB σ H R) (h : Q (decide (p ∧ q)) H) : tAnd tA tB σ H Q := by
  refine hA _ ?_
  by_cases hp : p
  · rw [decide_eq_true hp]
    refine iteT (hB hp _ ?_)
    have e : decide (p ∧ q) = decide q := by
      by_cases hq : q
      · rw [decide_eq_true ⟨hp, hq⟩, decide_eq_true hq]
      · rw [decide_eq_false (fun z => hq z.2), decide_eq_false hq]
    rw [e] at h
    exact h
  · rw [decide_eq_false hp]
    refine iteF ?_
    rw [decide_eq_false (fun z => hp z.1)] at h
    exact h
theorem or_test {tA tB : TT} {σ : L2.St} {H : Hp} {Q : Bool → Hp → Prop} (p q : Prop) [Decidable p] [Decidable q] (hA : ∀ R : Bool → Hp → Prop, R (decide p) H → tA σ H R) (hB : ¬ p → ∀ R : Bool → Hp → Prop, R (decide q) H → tB σ H R) (h : Q (decide (p ∨ q)) H) : tOr tA tB σ H Q := by
  refine hA _ ?_
  by_cases hp : p
  · rw [decide_eq_true hp]
    refine iteT ?_
    rw [decide_eq_true (.inl hp)] at h
    exact h
  · rw [decide_eq_false hp]
    refine iteF (hB hp _ ?_)
    have e : decide (p ∨ q) = decide q := by
      by_cases hq : q
      · rw [decide_eq_true (.inr hq), decide_eq_true hq]
      · rw [decide_eq_false (fun z => z.elim hp hq), decide_eq_false hq]
    rw [e] at h
    exact h
theorem catA {K : PySem.W.Frag} {T : List (Addr × Str)} {H : Hp} {a b : Addr} {xs ys : List V} {Q : VK} (h1 : SqT K H a xs) (h2 : SqT K H b ys) (hl : xs.length + ys.length ≤ 1000000) (q : ∀ c H', Fr T [] H H' → SqT K H' c (xs ++ ys) → Q (.ref c) H') : rCatA K (.ref a) (.ref b) H Q :=
  ⟨a, b, xs, ys, rfl, rfl, h1, h2, small' _ (by omega), fun e => q b H .refl (by rw [e]; exact h2), fun _ e => q a H .refl (by rw [e, List.append_nil]; exact h1), fun _ _ p hp => q p _ (Fr.refl.nw hp) (sqT upd_same)⟩
section
variable {P : Program} {w : World} {K : PySem.W.Frag} {mg : Str → Option Value} {base : Heap} {BC PC : Addr} {T : List (Addr × Str)} {XL : Addr → Prop} {CN : Addr}
def sp_step {α : Type} (K : PySem.W.Frag) (T : List (Addr × Str)) (BC PC : Addr) (XL : Addr → Prop) (ar : α → List V) (pre : α → Prop) (st : Pg → α → Option Pg) : Sp := fun vs H Q E => ∃ (a pl wl : Addr) (ms : List Pg) (g : Pg) (n : Nat) (x : α), vs = .ref a :: ar x ∧ pre x ∧ BoardAt K BC PC H a pl wl (ms ++ [g]) n ∧ Ok g ∧ Sz g 50000 ∧ ms.length ≤ 50000 ∧
  (∀ g', st g x = some g' → ∀ H', Fr T [pl] H H' → BoardAt K BC PC H' a pl wl (ms ++ [g] ++ [g']) n → Q .non H') ∧ (st g x = none → ∀ C d H', XL C → Fr T [] H H' → E (.ref C) d H')
def ar2 (x : Str × Str) : List V := [.str x.1, .str x.2]
def ar1 (x : Str) : List V := [.str x]
theorem inP_pos {neg : Bool} {p : Pr} {ps : List Pr} : (if neg = true then !decide (p ∈ ps) else decide (p ∈ ps)) = (if neg = true then !decide (p ∈ ps) else decide (p ∈ ps)) := rfl
theorem ok_excluded (TX : Txt mg) (D : Dm K BC "excluded" "Board.excluded" s_Board_excluded ["self", "one", "other"]) (EX : Exs P w K mg base XL)
    (G_look_switches : ∃ CN, XL CN ∧ Gd P w K mg base (L2.CX P w) 3 "look_switches" ["panel", "switches"] (sp_look K T CN)) (G_in_order : Gd P w K mg base CX0 1 "in_order" ["one", "other"] (sp_order K T))
    (G_Board_panel : Gm P w K mg base CX0 2 BC "panel" ["self"] (sp_panel K BC PC)) (G_Board_state : Gm P w K mg base CX0 2 BC "state" ["self"] (sp_state K BC PC)) (G_Board_turn : Gm P w K mg base CX0 3 BC "turn" ["self", "panel", "state"] (sp_turn K T BC PC)) :
    Gm P w K mg base (L2.CX P w) 4 BC "excluded" ["self", "one", "other"] (sp_step K T BC PC XL ar2 (fun _ => True) pEx) := by
  obtain ⟨C1, _, _, _, X1, GX_SameSwitch⟩ := EX.sameSwitch
  obtain ⟨C2, _, _, _, X2, GX_Known⟩ := EX.known
  obtain ⟨C3, _, _, _, X3, GX_BothOn⟩ := EX.bothOn
  obtain ⟨CN, X0, G_look_switches⟩ := G_look_switches
  refine D.okX (k := 3) S_Board_excluded (fun vs H Q E h => ?_) (fun f cdv A outer s H vs Q E hr h => ?_)
  · obtain ⟨a, pl, wl, ms, g, n, x, rfl, _⟩ := h
    rfl
  · obtain ⟨a, pl, wl, ms, g, n, ⟨x, y⟩, rfl, _, hB, og, sz, hms, q1, q2⟩ := h
    obtain ⟨⟨dx, vs, ws, h1, h2, h3, h4, h5⟩, ne⟩ := id hB
    have no : ∀ {r : Prop}, ¬ (x ∈ g.1.1 ∧ y ∈ g.1.1 ∧ ¬ x = y ∧ ordB x y ∉ g.1.2 ∧ ¬ (x ∈ g.2 ∧ y ∈ g.2)) → (pEx g (x, y) = none → r) → r := fun c h => h (if_neg c)
    -- slots: 0:self 1:one 2:other 3:pair 4:switches 5:exclusions
    refine ⟨_, (pss_cons (ps_expr (pcl G_look_switches rfl (hr.mono (by decide)) (pT tkE) (pa_cons (pmt0 G_Board_panel (hr.mono (by decide)) p0 (pv 0)) (pa_cons (pe_lst (pa_cons (pv 1) (pa_cons (pv 2) pa_nil))) pa_nil))))
    (pss_cons (ps_if (pt_cmpR op_eq (pv 1) (pv 2) (nomark _)) (pss_one (prx GX_SameSwitch rfl rfl (hr.mono (by decide)) tkE (pa_cons (pv 1) pa_nil))) pss_nil)
    (pss_cons (ps_asg (pe_tup (pa_cons (pcl G_in_order rfl (hr.mono (by decide)) p0 (pa_cons (pv 1) (pa_cons (pv 2) pa_nil))) (pa_cons (pmt0 G_Board_panel (hr.mono (by decide)) p0 (pv 0)) pa_nil))) (pg_tup rfl (pgs_cons (pg_name (i := 3) S_Board_excluded.nd rfl (Or.inl rfl)) (pgs_cons (pg_tup rfl (pgs_cons (pg_name (i := 4) S_Board_excluded.nd rfl (Or.inl rfl)) (pgs_cons (pg_name (i := 5) S_Board_excluded.nd rfl (Or.inl rfl)) pgs_nil))) pgs_nil))))
    (pss_cons (ps_if (pt_cmpR (op_inP K (hu65_of hr)) (pv 3) (pv 5) rfl) (pss_one (prx GX_Known rfl rfl (hr.mono (by decide)) tkE (pa_cons (pv 3) pa_nil))) pss_nil)
    (pss_cons (ps_if (PW.pt (pw_and (pt_cmpR (op_in_seqK K) (pv 1) (pmt0 G_Board_state (hr.mono (by decide)) p0 (pv 0)) rfl) (pw_and1 (pt_cmpR (op_in_seqK K) (pv 2) (pmt0 G_Board_state (hr.mono (by decide)) p0 (pv 0)) rfl)))) (pss_one (prx GX_BothOn rfl rfl (hr.mono (by decide)) tkE (pa_cons (pv 3) pa_nil))) pss_nil)
    (pss_one (ps_expr (pmt G_Board_turn (hr.mono (by decide)) p0 (pv 0) (pa_cons (pe_tup (pa_cons (pv 4) (pa_cons (pe_callB (cr_sortedPAK K) rfl TX.n_sorted (by decide +kernel) (pa_cons (pe_op op_catA (pv 5) (pe_tup (pa_cons (pv 3) pa_nil))) pa_nil)) pa_nil))) (pa_cons (pmt0 G_Board_state (hr.mono (by decide)) p0 (pv 0)) pa_nil)))))))))), ?_⟩
    refine ⟨.ref a, rfl, a, dx, _, rfl, h1, rfl, a, pl, wl, ms, g, n, rfl, hB, fun pv hpv => ?_⟩
    refine ⟨.str x, rfl, .str y, rfl, Ob.small' 2 (by decide), fun l hl => ?_⟩
    have f1 : Fr T [] H (upd H l (.lst [.str x, .str y])) := Fr.refl.nw hl
    refine ⟨pv, g.1, l, [x, y], rfl, f1.dpan hpv, sqL upd_same, fun hall => ?_, fun hex d H' f => ?_⟩
    rotate_left
    · refine no (fun c => ?_) fun e => q2 e CN d H' X0 (f1.trans f)
      obtain ⟨z, hz, hz2⟩ := hex
      rcases List.mem_cons.mp hz with e | e
      · exact hz2 (e ▸ c.1)
      · exact hz2 (List.mem_singleton.mp e ▸ c.2.1)
    have hx : x ∈ g.1.1 := hall x (by simp)
    have hy : y ∈ g.1.1 := hall y (by simp)
    -- one == other
    refine ⟨.str x, rfl, .str y, rfl, rfl, _, rfl, ?_⟩
    rw [dec_str]
    by_cases exy : x = y
    · rw [decide_eq_true exy]
      exact iteT ⟨.str x, rfl, .str x, rfl, fun d hd => no (fun c => c.2.2.1 exy) fun e => q2 e C1 _ _ X1 (f1.nw hd)⟩
    rw [decide_eq_false exy]
    refine iteF ?_
    -- pair, (switches, exclusions)
    have B1 := hB.fr f1
    refine ⟨.str x, rfl, .str y, rfl, x, y, rfl, fun pv2 H2 f2 hp2 => ?_⟩
    refine ⟨.ref a, rfl, a, dx, _, rfl, f2.ins (f1.ins h1), rfl, a, pl, wl, ms, g, n, rfl, B1.fr f2, fun pn hpn => ?_⟩
    refine ⟨Ob.small' 2 (by decide), fun t ht => ?_⟩
    have f3 : Fr T [] H2 (upd H2 t (.tup [pv2, pn])) := Fr.refl.nw ht
    obtain ⟨pb, sv, ev, rfl, hpb, hsv, hev⟩ := dp_two hpn
    refine ⟨t, _, rfl, sqT upd_same, rfl, _, _, rfl, _, _, rfl, pb, _, rfl, f3.sqT hpb, rfl, _, _, rfl, _, _, rfl, rfl, rfl, ?_⟩
    have F3 := (f1.trans f2).trans f3
    have B3 := (B1.fr f2).fr f3
    have ho := ord_ok (og.sw x hx) (og.sw y hy)
    -- pair in exclusions
    refine ⟨pv2, rfl, ev, rfl, ordB x y, g.1.2, f3.dpr hp2, f3.dps hev, ho.1, ho.2, og.ps, _, rfl, ?_⟩
    show if decide (ordB x y ∈ g.1.2) = true then _ else _
    by_cases hin : ordB x y ∈ g.1.2
    · rw [decide_eq_true hin]
      exact iteT ⟨pv2, rfl, pv2, rfl, fun d hd => no (fun c => c.2.2.2.1 hin) fun e => q2 e C2 _ _ X2 (F3.nw hd)⟩
    rw [decide_eq_false hin]
    refine iteF ?_
    -- one in self.state() and other in self.state()
    obtain ⟨⟨dx3, vs3, ws3, k1, _⟩, _⟩ := id B3
    have tst : ∀ (z : Str) (Q : V → Hp → Prop), Q (.bl (decide (z ∈ g.2))) (upd H2 t (.tup [pv2, .ref pb])) → ∀ v, v = V.str z → (tMt BC "state" (sp_state K BC PC) (fun _ => E0) (tVar 0) tNil) [some (.ref a), some (.str x), some (.str y), some pv2, some sv, some ev] (upd H2 t (.tup [pv2, .ref pb])) fun u H' => rIn K false v u H' Q := fun z Q hQ v hv => by
      subst hv
      refine ⟨.ref a, rfl, a, dx3, _, rfl, k1, rfl, a, pl, wl, ms, g, n, rfl, B3, fun st hst => ?_⟩
      obtain ⟨sa, rfl, hsa⟩ := dp_st hst
      refine ⟨sa, _, rfl, .inr hsa, rfl, flat_strs _, ?_⟩
      show Q (.bl (inV (V.str z) (g.2.map V.str))) _
      rw [inV_strs]
      exact hQ
    refine tNextI ?_
    dsimp only
    refine tSeqI (tIfSI (and_test (x ∈ g.2) (y ∈ g.2) (fun R h => ⟨.str x, rfl, tst x _ ⟨_, rfl, h⟩ _ rfl⟩) (fun _ R h => ⟨.str y, rfl, tst y _ ⟨_, rfl, h⟩ _ rfl⟩) ?_))
    by_cases hboth : x ∈ g.2 ∧ y ∈ g.2
    · rw [decide_eq_true hboth]
      exact iteT ⟨pv2, rfl, pv2, rfl, fun d hd => no (fun c => c.2.2.2.2 hboth) fun e => q2 e C3 _ _ X3 (F3.nw hd)⟩
    rw [decide_eq_false hboth]
    refine iteF ?_
    refine ⟨.ref a, rfl, a, dx3, _, rfl, k1, rfl, sv, rfl, ev, rfl, pv2, rfl, Ob.small' 1 (by decide), fun u hu => ?_⟩
    have f4 : Fr T [] (upd H2 t (.tup [pv2, .ref pb])) (upd (upd H2 t (.tup [pv2, .ref pb])) u (.tup [pv2])) := Fr.refl.nw hu
    obtain ⟨ea, es, rfl, hea, hes⟩ := dp_ps (f4.dps (f3.dps hev))
    have hpr := f4.dpr (f3.dpr hp2)
    have le : es.length = g.1.2.length := by rw [dpAll_len hes, List.length_map]
    refine catA (T := T) hea (sqT upd_same) (by have := sz.ps; simp; omega) fun c H5 f5 hc => ?_
    refine ⟨c, es ++ [pv2], g.1.2 ++ [ordB x y], rfl, .inr hc, ?_, fun ys p hp hys hyl => ?_⟩
    · rw [List.map_append]
      exact dpAll_app (f5.prs hes) (.cons (f5.dpr hpr) .nil)
    refine ⟨Ob.small' 2 (by decide), fun m hm => ?_⟩
    have f6 : Fr T [] H5 (upd (upd H5 p (.lst ys)) m (.tup [sv, .ref p])) := (Fr.refl.nw hp).nw hm
    have F6 := ((F3.trans f4).trans f5).trans f6
    have B6 := ((B3.fr f4).fr f5).fr f6
    obtain ⟨⟨dx6, vs6, ws6, k6, _⟩, _⟩ := id B6
    refine ⟨.ref a, rfl, a, dx6, _, rfl, k6, rfl, a, pl, wl, ms, g, n, rfl, B6, fun st hst => ?_⟩
    have hsv6 := f6.dst (f5.dst (f4.dst (f3.dst hsv)))
    refine ⟨a, pl, wl, ms ++ [g], n, .ref m, st, (g.1.1, sortP (g.1.2 ++ [ordB x y])), g.2, rfl, B6, ⟨m, sv, .ref p, rfl, .inr (sqT upd_same), stL_of hsv6, ?_⟩, stL_of hst, ?_, ?_, fun H7 f7 b7 => ?_⟩
    · exact ⟨p, ys, rfl, .inl (sqL (upd_old hm _ _ upd_same)), L2.Paired.mapP (prs_of hys) fun _ _ z => f6.prL z⟩
    · rw [sortP_len, List.length_append]
      have := sz.ps
      simp
      omega
    · rw [List.length_append]
      simp
      omega
    · refine q1 _ ?_ H7 (F6.zero.trans f7) b7
      exact if_pos ⟨hx, hy, exy, hin, hboth⟩

theorem ok_let (TX : Txt mg) (D : Dm K BC "let" "Board.let" s_Board_let ["self", "one", "other"]) (EX : Exs P w K mg base XL)
    (G_look_switches : ∃ CN, XL CN ∧ Gd P w K mg base (L2.CX P w) 3 "look_switches" ["panel", "switches"] (sp_look K T CN)) (G_in_order : Gd P w K mg base CX0 1 "in_order" ["one", "other"] (sp_order K T))
    (G_Board_panel : Gm P w K mg base CX0 2 BC "panel" ["self"] (sp_panel K BC PC)) (G_Board_state : Gm P w K mg base CX0 2 BC "state" ["self"] (sp_state K BC PC)) (G_Board_turn : Gm P w K mg base CX0 3 BC "turn" ["self", "panel", "state"] (sp_turn K T BC PC)) :
    Gm P w K mg base (L2.CX P w) 4 BC "let" ["self", "one", "other"] (sp_step K T BC PC XL ar2 (fun _ => True) pLet) := by
  obtain ⟨C2, _, _, _, X2, GX_NoPair⟩ := EX.noPair
  obtain ⟨CN, X0, G_look_switches⟩ := G_look_switches
  refine D.okX (k := 3) S_Board_let (fun vs H Q E h => ?_) (fun f cdv A outer s H vs Q E hr h => ?_)
  · obtain ⟨a, pl, wl, ms, g, n, x, rfl, _⟩ := h
    rfl
  · obtain ⟨a, pl, wl, ms, g, n, ⟨x, y⟩, rfl, _, hB, og, sz, hms, q1, q2⟩ := h
    obtain ⟨⟨dx, vs, ws, h1, h2, h3, h4, h5⟩, ne⟩ := id hB
    have no : ∀ {r : Prop}, ¬ (x ∈ g.1.1 ∧ y ∈ g.1.1 ∧ ordB x y ∈ g.1.2) → (pLet g (x, y) = none → r) → r := fun c h => h (if_neg c)
    -- slots: 0:self 1:one 2:other 3:pair* 4:switches 5:exclusions 6:near
    refine ⟨_, (pss_cons (ps_expr (pcl G_look_switches rfl (hr.mono (by decide)) (pT tkE) (pa_cons (pmt0 G_Board_panel (hr.mono (by decide)) p0 (pv 0)) (pa_cons (pe_lst (pa_cons (pv 1) (pa_cons (pv 2) pa_nil))) pa_nil))))
    (pss_cons (ps_asg (pe_tup (pa_cons (pcl G_in_order rfl (hr.mono (by decide)) p0 (pa_cons (pv 1) (pa_cons (pv 2) pa_nil))) (pa_cons (pmt0 G_Board_panel (hr.mono (by decide)) p0 (pv 0)) pa_nil))) (pg_tup rfl (pgs_cons (pg_name (i := 3) S_Board_let.nd rfl (Or.inr rfl)) (pgs_cons (pg_tup rfl (pgs_cons (pg_name (i := 4) S_Board_let.nd rfl (Or.inl rfl)) (pgs_cons (pg_name (i := 5) S_Board_let.nd rfl (Or.inl rfl)) pgs_nil))) pgs_nil))))
    (pss_cons (ps_if (pt_cmpR (op_notInP K (hu65_of hr)) (pv 3) (pv 5) rfl) (pss_one (prx GX_NoPair rfl rfl (hr.mono (by decide)) tkE (pa_cons (pv 3) pa_nil))) pss_nil)
    (pss_one (ps_expr (pmt G_Board_turn (hr.mono (by decide)) p0 (pv 0) (pa_cons (pe_tup (pa_cons (pv 4) (pa_cons (pe_lc (own := [("near", 6)]) rfl S_Board_let.nd (pi_tup (pv 5)) (blkOk_by (N := ["self", "one", "other", "pair", "switches", "exclusions", "near"]) (sc := defScope s_Board_let) (by decide +kernel)) (fun _ _ _ _ _ => (pg_name (i := 6) S_Board_let.nd rfl (Or.inl rfl))) (fun _ _ _ _ _ => (pts_one (pt_cmpR (op_neDK K (hu64_of hr)) (pv 6) (pv 3) (nomark _)))) (fun _ _ _ _ _ => (pv 6))) pa_nil))) (pa_cons (pmt0 G_Board_state (hr.mono (by decide)) p0 (pv 0)) pa_nil)))))))), ?_⟩
    refine ⟨.ref a, rfl, a, dx, _, rfl, h1, rfl, a, pl, wl, ms, g, n, rfl, hB, fun pv hpv => ?_⟩
    refine ⟨.str x, rfl, .str y, rfl, Ob.small' 2 (by decide), fun l hl => ?_⟩
    have f1 : Fr T [] H (upd H l (.lst [.str x, .str y])) := Fr.refl.nw hl
    refine ⟨pv, g.1, l, [x, y], rfl, f1.dpan hpv, sqL upd_same, fun hall => ?_, fun hex d H' f => ?_⟩
    rotate_left
    · refine no (fun c => ?_) fun e => q2 e CN d H' X0 (f1.trans f)
      obtain ⟨z, hz, hz2⟩ := hex
      rcases List.mem_cons.mp hz with e | e
      · exact hz2 (e ▸ c.1)
      · exact hz2 (List.mem_singleton.mp e ▸ c.2.1)
    have hx : x ∈ g.1.1 := hall x (by simp)
    have hy : y ∈ g.1.1 := hall y (by simp)
    have B1 := hB.fr f1
    refine ⟨.str x, rfl, .str y, rfl, x, y, rfl, fun pv2 H2 f2 hp2 => ?_⟩
    refine ⟨.ref a, rfl, a, dx, _, rfl, f2.ins (f1.ins h1), rfl, a, pl, wl, ms, g, n, rfl, B1.fr f2, fun pn hpn => ?_⟩
    refine ⟨Ob.small' 2 (by decide), fun t ht => ?_⟩
    have f3 : Fr T [] H2 (upd H2 t (.tup [pv2, pn])) := Fr.refl.nw ht
    obtain ⟨pb, sv, ev, rfl, hpb, hsv, hev⟩ := dp_two hpn
    refine ⟨t, _, rfl, sqT upd_same, rfl, _, _, rfl, _, _, rfl, pb, _, rfl, f3.sqT hpb, rfl, _, _, rfl, _, _, rfl, rfl, rfl, ?_⟩
    have F3 := (f1.trans f2).trans f3
    have B3 := (B1.fr f2).fr f3
    have ho := ord_ok (og.sw x hx) (og.sw y hy)
    refine ⟨pv2, rfl, ev, rfl, ordB x y, g.1.2, f3.dpr hp2, f3.dps hev, ho.1, ho.2, og.ps, _, rfl, ?_⟩
    show if (!decide (ordB x y ∈ g.1.2)) = true then _ else _
    by_cases hin : ordB x y ∈ g.1.2
    · rw [decide_eq_true hin]
      refine iteF ?_
      obtain ⟨⟨dx3, vs3, ws3, k1, _⟩, _⟩ := id B3
      obtain ⟨ea, es, rfl, hea, hes⟩ := dp_ps (f3.dps hev)
      refine ⟨.ref a, rfl, a, dx3, _, rfl, k1, rfl, sv, rfl, .ref ea, rfl, ea, rfl, ⟨_, hea⟩, fun D hD => ?_⟩
      have ln := dpAll_len hes
      rw [List.length_map] at ln
      refine lc_filtT (as := g.1.2) (c := prD) (q := fun p => !decide (p = ordB x y)) hD hea (by have := sz.ps; omega) hes (fun z e acc he hz => ?_) (fun acc hacc => ?_)
      · have fD : Fr T [] (upd H2 t (.tup [pv2, .ref pb])) (upd (upd H2 t (.tup [pv2, .ref pb])) D (.lst acc)) := Fr.refl.nw hD
        refine ⟨[some (.ref a), some (.str x), some (.str y), some pv2, some sv, some (.ref ea), some z], rfl, fun Q h => h, fun Q h => ?_, fun _ Q h => ⟨_, rfl, h⟩⟩
        refine ⟨z, rfl, pv2, rfl, prD e, prD (ordB x y), fD.dpr hz, fD.dpr (f3.dpr hp2), (lay_pr (og.ps e he).1 (og.ps e he).2).shaped (by decide), (lay_pr ho.1 ho.2).shaped (by decide), _, rfl, ?_⟩
        rw [eqv_pr]
        exact h
      · have fD : Fr T [] (upd H2 t (.tup [pv2, .ref pb])) (upd (upd H2 t (.tup [pv2, .ref pb])) D (.lst acc)) := Fr.refl.nw hD
        refine ⟨Ob.small' 2 (by decide), fun m hm => ?_⟩
        have f6 : Fr T [] (upd (upd H2 t (.tup [pv2, .ref pb])) D (.lst acc)) (upd (upd (upd H2 t (.tup [pv2, .ref pb])) D (.lst acc)) m (.tup [sv, .ref D])) := Fr.refl.nw hm
        have B6 := (B3.fr fD).fr f6
        have hacc6 := f6.prs (fD.prs hacc)
        refine ⟨.ref a, rfl, a, dx3, _, rfl, f6.ins (fD.ins k1), rfl, a, pl, wl, ms, g, n, rfl, B6, fun st hst => ?_⟩
        refine ⟨a, pl, wl, ms ++ [g], n, .ref m, st, (g.1.1, g.1.2.filter fun p => !decide (p = ordB x y)), g.2, rfl, B6, ⟨m, sv, .ref D, rfl, .inr (sqT upd_same), stL_of (f6.dst (fD.dst (f3.dst hsv))), ?_⟩, stL_of hst, ?_, ?_, fun H7 f7 b7 => ?_⟩
        · exact ⟨D, acc, rfl, .inl (sqL (upd_old hm _ _ upd_same)), prs_of hacc6⟩
        · have := sz.ps
          exact Nat.le_trans (List.length_filter_le ..) (by omega)
        · rw [List.length_append]
          simp
          omega
        · refine q1 _ ?_ H7 (((F3.trans fD).trans f6).zero.trans f7) b7
          exact if_pos ⟨hx, hy, hin⟩
    · rw [decide_eq_false hin]
      exact iteT ⟨pv2, rfl, pv2, rfl, fun d hd => no (fun c => hin c.2.2) fun e => q2 e C2 _ _ X2 (F3.nw hd)⟩

theorem ok_added (TX : Txt mg) (D : Dm K BC "added" "Board.added" s_Board_added ["self", "switch"]) (EX : Exs P w K mg base XL)
    (G_is_name : Gd P w K mg base CX0 1 "is_name" ["thing"] (sp_isName T))
    (G_Board_panel : Gm P w K mg base CX0 2 BC "panel" ["self"] (sp_panel K BC PC)) (G_Board_state : Gm P w K mg base CX0 2 BC "state" ["self"] (sp_state K BC PC)) (G_Board_turn : Gm P w K mg base CX0 3 BC "turn" ["self", "panel", "state"] (sp_turn K T BC PC)) :
    Gm P w K mg base (L2.CX P w) 4 BC "added" ["self", "switch"] (sp_step K T BC PC XL ar1 (fun x => x.length ≤ 1000) pAdd) := by
  obtain ⟨C1, _, _, _, X1, GX_BadName⟩ := EX.badName
  obtain ⟨C2, _, _, _, X2, GX_Taken⟩ := EX.taken
  refine D.okX (k := 3) S_Board_added (fun vs H Q E h => ?_) (fun f cdv A outer s H vs Q E hr h => ?_)
  · obtain ⟨a, pl, wl, ms, g, n, x, rfl, _⟩ := h
    rfl
  · obtain ⟨a, pl, wl, ms, g, n, x, rfl, hlx, hB, og, sz, hms, q1, q2⟩ := h
    have no : ∀ {r : Prop}, ¬ (isName x = true ∧ x ∉ g.1.1) → (pAdd g x = none → r) → r := fun c h => h (if_neg c)
    -- slots: 0:self 1:switch 2:switches 3:exclusions
    refine ⟨_, (pss_cons (ps_if (pt_not (pt_val (pcl G_is_name rfl (hr.mono (by decide)) p0 (pa_cons (pv 1) pa_nil)))) (pss_one (prx GX_BadName rfl rfl (hr.mono (by decide)) tkE (pa_cons (pv 1) pa_nil))) pss_nil)
    (pss_cons (ps_asg (pmt0 G_Board_panel (hr.mono (by decide)) p0 (pv 0)) (pg_tup rfl (pgs_cons (pg_name (i := 2) S_Board_added.nd rfl (Or.inl rfl)) (pgs_cons (pg_name (i := 3) S_Board_added.nd rfl (Or.inl rfl)) pgs_nil))))
    (pss_cons (ps_if (pt_cmpR (op_in_seqK K) (pv 1) (pv 2) rfl) (pss_one (prx GX_Taken rfl rfl (hr.mono (by decide)) tkE (pa_cons (pv 1) pa_nil))) pss_nil)
    (pss_one (ps_expr (pmt G_Board_turn (hr.mono (by decide)) p0 (pv 0) (pa_cons (pe_tup (pa_cons (pe_callB (cr_sortedAK K) rfl TX.n_sorted (by decide +kernel) (pa_cons (pe_op op_catA (pv 2) (pe_tup (pa_cons (pv 1) pa_nil))) pa_nil)) (pa_cons (pv 3) pa_nil))) (pa_cons (pmt0 G_Board_state (hr.mono (by decide)) p0 (pv 0)) pa_nil)))))))), ?_⟩
    refine ⟨.str x, rfl, x, rfl, hlx, fun H1 f1 => ⟨_, rfl, ?_⟩⟩
    have B1 := hB.fr f1
    obtain ⟨⟨dx, vs, ws, h1, h2, h3, h4, h5⟩, ne⟩ := id B1
    by_cases hn : isName x = true
    · rw [hn]
      refine iteF ?_
      refine ⟨.ref a, rfl, a, dx, _, rfl, h1, rfl, a, pl, wl, ms, g, n, rfl, B1, fun pn hpn => ?_⟩
      obtain ⟨pb, sv, ev, rfl, hpb, hsv, hev⟩ := dp_two hpn
      refine ⟨pb, _, rfl, hpb, rfl, _, _, rfl, _, _, rfl, rfl, ?_⟩
      obtain ⟨sa, rfl, hsa⟩ := dp_st hsv
      refine ⟨.str x, rfl, .ref sa, rfl, sa, _, rfl, .inr hsa, rfl, flat_strs _, _, rfl, ?_⟩
      show if inV (V.str x) (g.1.1.map V.str) = true then _ else _
      rw [inV_strs]
      by_cases hm : x ∈ g.1.1
      · rw [decide_eq_true hm]
        exact iteT ⟨.str x, rfl, .str x, rfl, fun d hd => no (fun c => c.2 hm) fun e => q2 e C2 _ _ X2 (f1.nw hd)⟩
      · rw [decide_eq_false hm]
        refine iteF ?_
        refine ⟨.ref a, rfl, a, dx, _, rfl, h1, rfl, .ref sa, rfl, .str x, rfl, Ob.small' 1 (by decide), fun u hu => ?_⟩
        have f2 : Fr T [] H1 (upd H1 u (.tup [.str x])) := Fr.refl.nw hu
        refine catA (T := T) (f2.sqT hsa) (sqT upd_same) (by have := sz.sw; rw [List.length_map]; simp; omega) fun c H5 f5 hc => ?_
        refine ⟨c, g.1.1 ++ [x], rfl, .inr ?_, fun p hp => ?_⟩
        · rw [List.map_append]
          exact hc
        refine ⟨ev, rfl, Ob.small' 2 (by decide), fun m hm2 => ?_⟩
        have f6 : Fr T [] H5 (upd (upd H5 p (.lst ((sortS (g.1.1 ++ [x])).map V.str))) m (.tup [.ref p, ev])) := (Fr.refl.nw hp).nw hm2
        have F6 := ((f1.trans f2).trans f5).trans f6
        have B6 := ((B1.fr f2).fr f5).fr f6
        refine ⟨.ref a, rfl, a, dx, _, rfl, f6.ins (f5.ins (f2.ins h1)), rfl, a, pl, wl, ms, g, n, rfl, B6, fun st hst => ?_⟩
        refine ⟨a, pl, wl, ms ++ [g], n, .ref m, st, (sortS (g.1.1 ++ [x]), g.1.2), g.2, rfl, B6, ⟨m, .ref p, ev, rfl, .inr (sqT upd_same), ⟨p, rfl, .inl (sqL (upd_old hm2 _ _ upd_same))⟩, psL_of (f6.dps (f5.dps (f2.dps hev)))⟩, stL_of hst, ?_, ?_, fun H7 f7 b7 => ?_⟩
        · have := sz.ps
          show g.1.2.length ≤ _
          omega
        · rw [List.length_append]
          simp
          omega
        · refine q1 _ ?_ H7 (F6.zero.trans f7) b7
          exact if_pos ⟨hn, hm⟩
    · have hn' : isName x = false := by
        cases e : isName x with
        | false => rfl
        | true => exact absurd e hn
      rw [hn']
      exact iteT ⟨.str x, rfl, .str x, rfl, fun d hd => no (fun c => hn c.1) fun e => q2 e C1 _ _ X1 (f1.nw hd)⟩

theorem ok_removed (TX : Txt mg) (D : Dm K BC "removed" "Board.removed" s_Board_removed ["self", "switch"]) (EX : Exs P w K mg base XL)
    (G_look_switches : ∃ CN, XL CN ∧ Gd P w K mg base (L2.CX P w) 3 "look_switches" ["panel", "switches"] (sp_look K T CN)) (G_lost : Gd P w K mg base CX0 1 "lost" ["before", "after"] (sp_lost K T))
    (G_Board_panel : Gm P w K mg base CX0 2 BC "panel" ["self"] (sp_panel K BC PC)) (G_Board_state : Gm P w K mg base CX0 2 BC "state" ["self"] (sp_state K BC PC)) (G_Board_turn : Gm P w K mg base CX0 3 BC "turn" ["self", "panel", "state"] (sp_turn K T BC PC)) :
    Gm P w K mg base (L2.CX P w) 4 BC "removed" ["self", "switch"] (sp_step K T BC PC XL ar1 (fun _ => True) pRem) := by
  obtain ⟨C1, _, _, _, _, X1, GX_LastSwitch⟩ := EX.lastSwitch
  obtain ⟨CN, X0, G_look_switches⟩ := G_look_switches
  refine D.okX (k := 3) S_Board_removed (fun vs H Q E h => ?_) (fun f cdv A outer s H vs Q E hr h => ?_)
  · obtain ⟨a, pl, wl, ms, g, n, x, rfl, _⟩ := h
    rfl
  · obtain ⟨a, pl, wl, ms, g, n, x, rfl, _, hB, og, sz, hms, q1, q2⟩ := h
    obtain ⟨⟨dx, vs, ws, h1, h2, h3, h4, h5⟩, ne⟩ := id hB
    have no : ∀ {r : Prop}, ¬ (x ∈ g.1.1 ∧ g.1.1.length ≠ 1) → (pRem g x = none → r) → r := fun c h => h (if_neg c)
    -- slots: 0:self 1:switch* 2:switches 3:exclusions 4:left 5:near 6:pair
    refine ⟨_, (pss_cons (ps_expr (pcl G_look_switches rfl (hr.mono (by decide)) (pT tkE) (pa_cons (pmt0 G_Board_panel (hr.mono (by decide)) p0 (pv 0)) (pa_cons (pe_lst (pa_cons (pv 1) pa_nil)) pa_nil))))
    (pss_cons (ps_asg (pmt0 G_Board_panel (hr.mono (by decide)) p0 (pv 0)) (pg_tup rfl (pgs_cons (pg_name (i := 2) S_Board_removed.nd rfl (Or.inl rfl)) (pgs_cons (pg_name (i := 3) S_Board_removed.nd rfl (Or.inl rfl)) pgs_nil))))
    (pss_cons (ps_if (pt_cmpR op_eq (pe_callB call_len_seq rfl TX.n_len (by decide +kernel) (pa_cons (pv 2) pa_nil)) pe_int (nomark _)) (pss_one (prx0 GX_LastSwitch rfl rfl tkE)) pss_nil)
    (pss_cons (ps_setLc (i := 4) (own := [("near", 5)]) rfl S_Board_removed.nd rfl rfl (sw_true rfl rfl rfl (by decide +kernel)) (pi_tup (pv 2)) (blkOk_by (N := ["self", "switch", "switches", "exclusions", "left", "near", "pair"]) (sc := defScope s_Board_removed) (by decide +kernel)) (fun _ _ _ _ _ => (pg_name (i := 5) S_Board_removed.nd rfl (Or.inl rfl))) (fun _ _ _ _ _ => (pts_one (pt_cmpR op_ne (pv 5) (pv 1) (nomark _)))) (fun _ _ _ _ _ => (pv 5)))
    (pss_one (ps_expr (pmt G_Board_turn (hr.mono (by decide)) p0 (pv 0) (pa_cons (pe_tup (pa_cons (pv 4) (pa_cons (pe_lc (own := [("pair", 6)]) rfl S_Board_removed.nd (pi_tup (pv 3)) (blkOk_by (N := ["self", "switch", "switches", "exclusions", "left", "near", "pair"]) (sc := defScope s_Board_removed) (by decide +kernel)) (fun _ _ _ _ _ => (pg_name (i := 6) S_Board_removed.nd rfl (Or.inl rfl))) (fun _ _ _ _ _ => (pts_one (pt_cmpR (op_notIn_seqK K) (pv 1) (pv 6) rfl))) (fun _ _ _ _ _ => (pv 6))) pa_nil))) (pa_cons (pcl G_lost rfl (hr.mono (by decide)) p0 (pa_cons (pmt0 G_Board_state (hr.mono (by decide)) p0 (pv 0)) (pa_cons (pe_tup (pa_cons (pv 1) pa_nil)) pa_nil))) pa_nil))))))))), ?_⟩
    refine ⟨.ref a, rfl, a, dx, _, rfl, h1, rfl, a, pl, wl, ms, g, n, rfl, hB, fun pv hpv => ?_⟩
    refine ⟨.str x, rfl, Ob.small' 1 (by decide), fun l hl => ?_⟩
    have f1 : Fr T [] H (upd H l (.lst [.str x])) := Fr.refl.nw hl
    refine ⟨pv, g.1, l, [x], rfl, f1.dpan hpv, sqL upd_same, fun hall => ?_, fun hex d H' f => ?_⟩
    rotate_left
    · refine no (fun c => ?_) fun e => q2 e CN d H' X0 (f1.trans f)
      obtain ⟨z, hz, hz2⟩ := hex
      exact hz2 (List.mem_singleton.mp hz ▸ c.1)
    have hx : x ∈ g.1.1 := hall x (by simp)
    have B1 := hB.fr f1
    refine ⟨.ref a, rfl, a, dx, _, rfl, f1.ins h1, rfl, a, pl, wl, ms, g, n, rfl, B1, fun pn hpn => ?_⟩
    obtain ⟨pb, sv, ev, rfl, hpb, hsv, hev⟩ := dp_two hpn
    refine ⟨pb, _, rfl, hpb, rfl, _, _, rfl, _, _, rfl, rfl, ?_⟩
    obtain ⟨sa, rfl, hsa⟩ := dp_st hsv
    refine ⟨.ref sa, rfl, sa, _, rfl, .inr hsa, rfl, _, rfl, ?_⟩
    by_cases hlen : g.1.1.length = 1
    · have e1 : decide (V.int ((g.1.1.map V.str).length : Nat) = V.int 1) = true := by
        rw [List.length_map, hlen]
        exact decide_eq_true rfl
      rw [e1]
      exact iteT (no (fun c => c.2 hlen) fun e => q2 e C1 _ _ X1 f1)
    · have e1 : decide (V.int ((g.1.1.map V.str).length : Nat) = V.int 1) = false := by
        rw [List.length_map]
        refine decide_eq_false fun z => hlen ?_
        have z := V.int.inj z
        omega
      rw [e1]
      refine iteF ?_
      refine ⟨.ref sa, rfl, sa, rfl, ⟨_, hsa⟩, fun D hD => ?_⟩
      refine lc_filtT (as := g.1.1) (c := PyData.str) (q := fun z => !decide (z = x)) hD hsa (by have := sz.sw; rw [List.length_map]; omega) (dpAll_strs _) (fun z e acc he hz => ?_) (fun acc hacc => ?_)
      · obtain rfl := dp_str hz
        refine ⟨[some (.ref a), some (.str x), some (.ref sa), some ev, none, some (.str e), none], rfl, fun Q h => h, fun Q h => ?_, fun _ Q h => ⟨_, rfl, h⟩⟩
        refine ⟨.str e, rfl, .str x, rfl, rfl, _, rfl, ?_⟩
        rw [dec_str]
        exact h
      have eacc := dpAll_str hacc
      subst eacc
      have fD : Fr T [] (upd H l (.lst [.str x])) (upd (upd H l (.lst [.str x])) D (.lst ((g.1.1.filter fun z => !decide (z = x)).map V.str))) := Fr.refl.nw hD
      obtain ⟨ea, es, rfl, hea, hes⟩ := dp_ps (fD.dps hev)
      have B2 := B1.fr fD
      refine ⟨.ref a, rfl, a, dx, _, rfl, fD.ins (f1.ins h1), rfl, .ref D, rfl, .ref ea, rfl, ea, rfl, ⟨_, hea⟩, fun D2 hD2 => ?_⟩
      have ln := dpAll_len hes
      rw [List.length_map] at ln
      refine lc_filtT (as := g.1.2) (c := prD) (q := fun p => !decide (x ∈ [p.1, p.2])) hD2 hea (by have := sz.ps; omega) hes (fun z e acc he hz => ?_) (fun acc hacc => ?_)
      · obtain ⟨pa, rfl, hpa⟩ := dp_prI hz
        refine ⟨[some (.ref a), some (.str x), some (.ref sa), some (.ref ea), some (.ref D), none, some (.ref pa)], rfl, fun Q h => h, fun Q h => ?_, fun _ Q h => ⟨_, rfl, h⟩⟩
        refine ⟨.str x, rfl, .ref pa, rfl, pa, [e.1, e.2].map V.str, rfl, .inr (((Fr.refl (T := T) (S := [])).nw hD2).sqT hpa), rfl, flat_strs [e.1, e.2], _, rfl, ?_⟩
        show Q (!inV (V.str x) ([e.1, e.2].map V.str)) _
        rw [inV_strs]
        exact h
      refine ⟨Ob.small' 2 (by decide), fun m hm => ?_⟩
      let HA : Hp := upd (upd H l (.lst [.str x])) D (.lst ((g.1.1.filter fun z => !decide (z = x)).map V.str))
      have f6 : Fr T [] HA (upd (upd HA D2 (.lst acc)) m (.tup [.ref D, .ref D2])) := (Fr.refl.nw hD2).nw hm
      have B6 := B2.fr f6
      have i6 := f6.ins (fD.ins (f1.ins h1))
      refine ⟨.ref a, rfl, a, dx, _, rfl, i6, rfl, a, pl, wl, ms, g, n, rfl, B6, fun st hst => ?_⟩
      refine ⟨.str x, rfl, Ob.small' 1 (by decide), fun u hu => ?_⟩
      have f7 : Fr T [] (upd (upd HA D2 (.lst acc)) m (.tup [.ref D, .ref D2])) (upd (upd (upd HA D2 (.lst acc)) m (.tup [.ref D, .ref D2])) u (.tup [.str x])) := Fr.refl.nw hu
      refine ⟨st, .ref u, g.2, [x], rfl, f7.dst hst, dp_st_of (sqT upd_same), by have := sz.st; omega, fun L H8 _ f8 hL => ?_⟩
      have F8 := (f6.trans f7).trans f8
      have e2 : (g.2.filter fun z => !decide (z ∈ [x])) = g.2.filter fun z => !decide (z = x) := List.filter_congr fun z _ => by
        by_cases c : z = x
        · subst c; simp
        · simp [c]
      rw [e2] at hL
      have hDD : H8 D = some (.lst ((g.1.1.filter fun z => !decide (z = x)).map V.str)) := F8.lst upd_same
      have f78 := f7.trans f8
      have hD2' : H8 D2 = some (.lst acc) := f78.lst (upd_old hm _ _ upd_same)
      refine ⟨a, pl, wl, ms ++ [g], n, .ref m, .ref L, (g.1.1.filter fun z => !decide (z = x), g.1.2.filter fun p => !decide (x ∈ [p.1, p.2])), g.2.filter fun z => !decide (z = x), rfl, B2.fr F8, ⟨m, .ref D, .ref D2, rfl, .inr (f78.sqT (sqT upd_same)), ⟨D, rfl, .inl (sqL hDD)⟩, ⟨D2, acc, rfl, .inl (sqL hD2'), prs_of (F8.prs hacc)⟩⟩, ⟨L, rfl, .inl (sqL hL)⟩, ?_, ?_, fun H9 f9 b9 => ?_⟩
      · have := sz.ps
        exact Nat.le_trans (List.length_filter_le ..) (by omega)
      · rw [List.length_append]
        simp
        omega
      · refine q1 _ ?_ H9 (((f1.trans fD).trans F8).zero.trans f9) b9
        exact if_pos ⟨hx, hlen⟩
end
end Ob

/-! OR: gone, taken_back -/
namespace Ob
open PySem PySem.Spec PyProof.Rows L2 LamX

/-- what a run of presses turns off, press by press -/
def losts (ps : List Pr) (S : List Str) : List Str → List (List Str)
  | [] => []
  | x :: r => (S.filter fun z => !decide (z ∈ press ps S x)) :: losts ps (press ps S x) r
theorem losts_len (ps : List Pr) : ∀ (l : List Str) (S : List Str), (losts ps S l).length = l.length
  | [], _ => rfl
  | y :: l, S => by
    show (losts ps (press ps S y) l).length + 1 = _
    rw [losts_len ps l]
    rfl
theorem losts_at (ps : List Pr) : ∀ (l : List Str) (S : List Str) (i : Nat) (A B : List Str), (sts ps S l)[i]? = some A → (sts ps S l)[i + 1]? = some B → (losts ps S l)[i]? = some (A.filter fun z => !decide (z ∈ B))
  | [], S, i, A, B, h1, h2 => by simp [sts] at h2
  | y :: l, S, 0, A, B, h1, h2 => by
    have e1 : S = A := Option.some.inj h1
    have h2' : (sts ps (press ps S y) l)[0]? = some B := h2
    have e2 : press ps S y = B := by
      cases l with
      | nil => exact Option.some.inj h2'
      | cons z l => exact Option.some.inj h2'
    rw [← e1, ← e2]
    rfl
  | y :: l, S, i + 1, A, B, h1, h2 => losts_at ps l (press ps S y) i A B h1 h2
/-- at l, new since H0: a list of lists of texts -/
def LLs (H0 H : Hp) (l : Addr) (As : List (List Str)) : Prop := ∃ vs, H l = some (.lst vs) ∧ H0 l = none ∧ Paired (fun v A => ∃ b, v = .ref b ∧ H b = some (.lst (A.map V.str)) ∧ H0 b = none) vs As
theorem LLs.fr {T : List (Addr × Str)} {S : List Addr} {H0 H H' : Hp} {l : Addr} {As : List (List Str)} (h : LLs H0 H l As) (f : Fr T S H H') (hS : ∀ b ∈ S, H0 b ≠ none) : LLs H0 H' l As := by
  obtain ⟨vs, h1, h2, h3⟩ := h
  exact ⟨vs, f.lst h1 (fun m => hS l m h2), h2, L2.Paired.mapP h3 fun v A ⟨b, e, x, y⟩ => ⟨b, e, f.lst x (fun m => hS b m y), y⟩⟩
/-- over zip(a, b), two lists that stay -/
theorem lc_zip {K : PySem.W.Frag} {a b : Addr} {xs ys : List V} {n : Nat} {g : TG} {tt : TT} {te : TE} {vs : List Nat} {σ : L2.St} {H1 : Hp} {D : Addr} {Qd : Hp → Prop} (hn : n = min xs.length ys.length) (Pv : Nat → Hp → Prop) (h0 : Pv 0 (upd H1 D (.lst []))) (hl : ∀ i H, i ≤ n → Pv i H → SqL K H a xs ∧ SqL K H b ys)
    (hs : ∀ i x y t H, xs[i]? = some x → ys[i]? = some y → Pv i H → H t = none → g (.ref t) (wipe σ vs) (upd H t (.tup [x, y])) fun σ2 H2 => wipe σ2 vs = wipe σ vs ∧ tt σ2 H2 fun b H3 =>
      if b = true then te σ2 H3 fun y H4 => ∃ acc, H4 D = some (.lst acc) ∧ acc.length < sizeLine ∧ Pv (i + 1) (upd H4 D (.lst (acc ++ [y]))) else Pv (i + 1) H3) (hd : ∀ H, Pv n H → Qd H) :
    ∃ W : Nat → Nat → Hp → Prop, (∃ m, W 0 m (upd H1 D (.lst []))) ∧ ∀ i m H, W i m H →
      ((Itz K a b).stop i H ∧ Qd H) ∨ ((Itz K a b).go i H ∧ ∃ Nx : Hp → Prop, (∀ H', Nx H' → ∃ m', m' < m ∧ W (i + 1) m' H') ∧ ∀ x H', (Itz K a b).yld i H x H' → g x (wipe σ vs) H' fun σ2 H2 => wipe σ2 vs = wipe σ vs ∧ tt σ2 H2 fun b H3 =>
        if b = true then te σ2 H3 fun y H4 => ∃ acc, H4 D = some (.lst acc) ∧ acc.length < sizeLine ∧ Nx (upd H4 D (.lst (acc ++ [y]))) else Nx H3) := by
  refine ⟨fun i m H => m = n - i ∧ i ≤ n ∧ Pv i H, ⟨n, by simp, Nat.zero_le _, h0⟩, ?_⟩
  rintro i m H ⟨rfl, hi, p⟩
  obtain ⟨q1, q2⟩ := hl i H hi p
  by_cases hlt : i < n
  · have l1 : i < xs.length := by omega
    have l2 : i < ys.length := by omega
    refine .inr ⟨⟨xs, ys, xs[i], ys[i], q1, q2, by simp [l1], by simp [l2]⟩, Pv (i + 1), fun H' p' => ⟨n - (i + 1), by omega, rfl, hlt, p'⟩, fun z H' e => ?_⟩
    obtain ⟨t, x, y, rfl, nt, rfl, f1, f2⟩ := e
    exact hs i x y t H (f1 _ q1) (f2 _ q2) p nt
  · have e : i = n := by omega
    subst e
    exact .inl ⟨⟨xs, ys, q1, q2, by omega⟩, hd _ p⟩

section
variable {P : Program} {w : World} {K : PySem.W.Frag} {mg : Str → Option Value} {base : Heap} {BC PC : Addr} {T : List (Addr × Str)} {XL : Addr → Prop}
def sp_gone (K : PySem.W.Frag) (T : List (Addr × Str)) (BC PC : Addr) (XL : Addr → Prop) : Sp := fun vs H Q E => ∃ (a pl wl : Addr) (ms : List Pg) (g : Pg) (n : Nat) (h : Addr) (xs : List Str), vs = [.ref a, .ref h] ∧ SqL K H h (xs.map V.str) ∧ xs.length ≤ 1000 ∧ BoardAt K BC PC H a pl wl (ms ++ [g]) n ∧ Ok g ∧ Sz g 50000 ∧ ms.length ≤ 50000 ∧
  ((∀ x ∈ xs, x ∈ g.1.1) → ∀ l H', Fr T [pl] H H' → BoardAt K BC PC H' a pl wl (ms ++ [g] ++ [(g.1, xs.foldl (press g.1.2) g.2)]) n → LLs H H' l (losts g.1.2 g.2 xs) → Q (.ref l) H') ∧
  (¬ (∀ x ∈ xs, x ∈ g.1.1) → ∀ C d H', XL C → Fr T [] H H' → E (.ref C) d H')
theorem ok_gone (TX : Txt mg) (D : Dm K BC "gone" "Board.gone" s_Board_gone ["self", "history"])
    (G_states_after : ∃ CN, XL CN ∧ Gd P w K mg base (L2.CX P w) 4 "states_after" ["panel", "state", "history"] (sp_states K T CN)) (G_lost : Gd P w K mg base CX0 1 "lost" ["before", "after"] (sp_lost K T))
    (G_Board_panel : Gm P w K mg base CX0 2 BC "panel" ["self"] (sp_panel K BC PC)) (G_Board_state : Gm P w K mg base CX0 2 BC "state" ["self"] (sp_state K BC PC)) (G_Board_turn : Gm P w K mg base CX0 3 BC "turn" ["self", "panel", "state"] (sp_turn K T BC PC)) :
    Gm P w K mg base (L2.CX P w) 5 BC "gone" ["self", "history"] (sp_gone K T BC PC XL) := by
  obtain ⟨CN, X0, G_states_after⟩ := G_states_after
  refine D.okX (k := 4) S_Board_gone (fun vs H Q E h => ?_) (fun f cdv A outer s H vs Q E hr h => ?_)
  · obtain ⟨a, pl, wl, ms, g, n, h, xs, rfl, _⟩ := h
    rfl
  · obtain ⟨a, pl, wl, ms, g, n, h, xs, rfl, hh, hlx, hB, og, sz, hms, q1, q2⟩ := h
    obtain ⟨⟨dx, vs, ws, h1, h2, h3, h4, h5⟩, ne⟩ := id hB
    -- slots: 0:self 1:history 2:found 3:before 4:after
    refine ⟨_, (pss_cons (ps_set (i := 2) S_Board_gone.nd rfl (Or.inl rfl) (pcl G_states_after rfl (hr.mono (by decide)) (pT tkE) (pa_cons (pmt0 G_Board_panel (hr.mono (by decide)) p0 (pv 0)) (pa_cons (pmt0 G_Board_state (hr.mono (by decide)) p0 (pv 0)) (pa_cons (pv 1) pa_nil)))))
    (pss_cons (ps_expr (pmt G_Board_turn (hr.mono (by decide)) p0 (pv 0) (pa_cons (pmt0 G_Board_panel (hr.mono (by decide)) p0 (pv 0)) (pa_cons (pe_ix (ix_listK K) (pv 2) (pe_un un_neg pe_int) (fun _ _ => rfl)) pa_nil))))
    (pss_one (ps_ret (pe_lc (own := [("before", 3), ("after", 4)]) rfl S_Board_gone.nd (pi_zip rfl TX.n_zip (pa_cons (pv 2) (pa_cons (pe_slice sl_list (pv 2) (po_some pe_int) po_none) pa_nil))) (blkOk_by (N := ["self", "history", "found", "before", "after"]) (sc := defScope s_Board_gone) (by decide +kernel)) (fun _ _ _ _ _ => (pg_tupK K 2 rfl (pgs_cons (pg_name (i := 3) S_Board_gone.nd rfl (Or.inl rfl)) (pgs_cons (pg_name (i := 4) S_Board_gone.nd rfl (Or.inl rfl)) pgs_nil)))) (fun _ _ _ _ _ => pts_nil) (fun _ _ _ _ _ => (pcl G_lost rfl (hr.mono (by decide)) p0 (pa_cons (pv 3) (pa_cons (pv 4) pa_nil))))))))), ?_⟩
    refine ⟨.ref a, rfl, a, dx, _, rfl, h1, rfl, a, pl, wl, ms, g, n, rfl, hB, fun pv hpv => ?_⟩
    refine ⟨.ref a, rfl, a, dx, _, rfl, h1, rfl, a, pl, wl, ms, g, n, rfl, hB, fun sv hsv => ?_⟩
    refine ⟨.ref h, rfl, pv, sv, g.1, g.2, h, xs, rfl, hpv, hsv, hh, og.mem, ?_, ?_, ?_, fun hall l us H1 nl f1 hl1 hd1 => ?_, fun hex d H' f => q2 (fun c => ?_) CN d H' X0 f⟩
    · have := sz.sw; omega
    · have := sz.ps; omega
    · have := sz.st; omega
    rotate_left
    · obtain ⟨z, hz, hz2⟩ := hex
      exact hz2 (c z hz)
    have B1 := hB.fr f1
    -- self.turn(self.panel(), found[-1])
    obtain ⟨m, em⟩ := sts_last g.1.2 xs g.2
    have hd1' := hd1
    rw [em, List.map_append] at hd1'
    obtain ⟨ys, v, rfl, d4, d5⟩ := dpAll_snoc hd1'
    refine ⟨.ref a, rfl, a, dx, _, rfl, f1.ins h1, rfl, .ref a, rfl, a, dx, _, rfl, f1.ins h1, rfl, a, pl, wl, ms, g, n, rfl, B1, fun pn hpn => ?_⟩
    refine ⟨.ref l, rfl, 1, rfl, l, _, -1, v, rfl, rfl, sqL hl1, atI_last ys v, ?_⟩
    refine ⟨a, pl, wl, ms ++ [g], n, pn, v, g.1, xs.foldl (press g.1.2) g.2, rfl, B1, panL_of hpn, stL_of d5, ?_, ?_, fun H2 f2 b2 => ?_⟩
    · have := sz.ps; omega
    · rw [List.length_append]
      simp
      omega
    have npl : H pl ≠ none := by rw [h2]; intro z; cases z
    have lpl : l ∉ [pl] := fun z => npl (List.mem_singleton.mp z ▸ nl)
    have hl2 := f2.lst hl1 lpl
    have hd2 : DpAll K H2 (ys ++ [v]) ((sts g.1.2 g.2 xs).map stD) := dpAll_fr (imm_sts _) f2 hd1
    have F2 : Fr T [pl] H H2 := f1.zero.trans f2
    -- [lost(before, after) for before, after in zip(found, found[1:])]
    refine ⟨.ref l, rfl, .ref l, rfl, 1, rfl, l, _, rfl, sqL hl2, fun c hc => ?_⟩
    have lnl : (ys ++ [v]).length = xs.length + 1 := by
      rw [dpAll_len hd2, List.length_map, sts_len]
    have f3 : Fr T [] H2 (upd H2 c (.lst (cutV (ys ++ [v]) (some 1) none))) := Fr.refl.nw hc
    refine ⟨l, c, ys ++ [v], (ys ++ [v]).drop 1, rfl, f3.sqL (sqL hl2), ?_, fun D hD => ?_⟩
    · refine sqL ?_
      rw [upd_same, cut_drop1]
    let H3 : Hp := upd H2 c (.lst (cutV (ys ++ [v]) (some 1) none))
    refine lc_zip (xs := ys ++ [v]) (ys := (ys ++ [v]).drop 1) (n := xs.length) (by rw [List.length_drop, lnl]; omega) (fun i H' => Fr T [] H3 H' ∧ ∃ acc, H' D = some (.lst acc) ∧ Paired (fun v A => ∃ b, v = .ref b ∧ H' b = some (.lst (A.map V.str)) ∧ H b = none ∧ b ≠ D) acc ((losts g.1.2 g.2 xs).take i))
      ⟨Fr.refl.nw hD, [], upd_same, .nil⟩ (fun i H' _ h => ⟨h.1.sqL (f3.sqL (sqL hl2)), h.1.sqL (sqL (by show H3 c = _; rw [show H3 c = _ from upd_same, cut_drop1]))⟩) (fun i x y t H' hx hy h ht => ?_) (fun H' h => ?_)
    · obtain ⟨f4, acc, k1, k2⟩ := h
      rw [List.getElem?_drop, Nat.add_comm] at hy
      obtain ⟨dA, ea, hA⟩ := dpAll_at hd2 hx
      obtain ⟨dB, eb, hB2⟩ := dpAll_at hd2 hy
      rw [List.getElem?_map] at ea eb
      cases e1 : (sts g.1.2 g.2 xs)[i]? with
      | none => rw [e1] at ea; cases ea
      | some A0 =>
        cases e2 : (sts g.1.2 g.2 xs)[i + 1]? with
        | none => rw [e2] at eb; cases eb
        | some B0 =>
          rw [e1] at ea
          rw [e2] at eb
          cases ea
          cases eb
          have f5 : Fr T [] H' (upd H' t (.tup [x, y])) := Fr.refl.nw ht
          refine ⟨t, _, rfl, sqT upd_same, rfl, _, _, rfl, _, _, rfl, rfl, rfl, ?_⟩
          simp only [tYes, if_true]
          have lst := losts_at g.1.2 xs g.2 i A0 B0 e1 e2
          have li : i < xs.length := by
            have := (List.getElem?_eq_some_iff.mp lst).1
            rwa [losts_len] at this
          refine ⟨x, rfl, y, rfl, x, y, A0, B0, rfl, f5.dst (f4.dst (f3.dst hA)), f5.dst (f4.dst (f3.dst hB2)), ?_, fun q H6 nq f6 hq => ?_⟩
          · have hs1 : ∀ (l : List Str) (S : List Str) (i : Nat) (A : List Str), (sts g.1.2 S l)[i]? = some A → A.length ≤ S.length + l.length := by
              intro l
              induction l with
              | nil =>
                intro S i A e
                cases i with
                | zero => rw [← Option.some.inj e]; exact Nat.le_add_right ..
                | succ i => simp [sts] at e
              | cons z l ih =>
                intro S i A e
                cases i with
                | zero => rw [← Option.some.inj e]; exact Nat.le_add_right ..
                | succ i =>
                  have h1 := ih (press g.1.2 S z) i A e
                  have h2 := press_len g.1.2 S z
                  rw [List.length_cons]
                  omega
            have := hs1 xs g.2 i A0 e1
            have := sz.st
            omega
          · have k6 := f6.lst (f5.lst k1)
            have la := paired_len k2
            rw [List.length_take] at la
            have nqD : q ≠ D := fun z => by rw [z, f5.lst k1] at nq; cases nq
            have hq0 : H q = none := F2.free (f3.free (f4.free (f5.free nq)))
            refine ⟨acc, k6, Ob.small _ (by omega), (f4.trans (f5.trans f6)).put (by rw [k6]; exact True.intro) (.inl hD), _, upd_same, ?_⟩
            rw [List.take_add_one, lst]
            refine paired_snoc (L2.Paired.mapP k2 fun v A ⟨b, e, x, y, z⟩ => ⟨b, e, ?_, y, z⟩) ⟨q, rfl, ?_, hq0, nqD⟩
            · rw [upd_ne z]
              exact f6.lst (f5.lst x)
            · rw [upd_ne nqD]
              exact hq
    · obtain ⟨f4, acc, k1, k2⟩ := h
      rw [List.take_of_length_le (by rw [losts_len]; exact Nat.le_refl _)] at k2
      refine q1 hall D _ ((F2.trans f3.zero).trans f4.zero) ((b2.fr f3).fr f4) ⟨acc, k1, F2.free (f3.free hD), L2.Paired.mapP k2 fun v A ⟨b, e, x, y, z⟩ => ⟨b, e, x, y⟩⟩

def sp_back (K : PySem.W.Frag) (T : List (Addr × Str)) (BC PC : Addr) : Sp := fun vs H Q _ => ∃ (a pl wl : Addr) (ms : List Pg) (g : Pg) (n : Nat), vs = [.ref a] ∧ BoardAt K BC PC H a pl wl (ms ++ [g]) n ∧ ∀ H', Fr T [pl] H H' → BoardAt K BC PC H' a pl wl (if ms = [] then [g] else ms) n → Q (.bl (!decide (ms = []))) H'
theorem ok_back (TX : Txt mg) (CF : Cf K BC PC) (D : Dm K BC "taken_back" "Board.taken_back" s_Board_taken_back ["self"]) (G_Board_deeds : Gm P w K mg base CX0 1 BC "deeds" ["self"] (sp_deeds K BC PC)) :
    Gm P w K mg base CX0 2 BC "taken_back" ["self"] (sp_back K T BC PC) := by
  refine D.ok (k := 1) S_Board_taken_back (fun vs H Q E h => ?_) (fun f cdv A outer s H vs Q E hr h => ?_)
  · obtain ⟨a, pl, wl, ms, g, n, rfl, _⟩ := h
    rfl
  · obtain ⟨a, pl, wl, ms, g, n, rfl, hB, q⟩ := h
    obtain ⟨⟨dx, vs, ws, h1, h2, h3, h4, h5⟩, ne⟩ := id hB
    -- slots: 0:self
    refine ⟨_, (pss_cons (ps_if (pt_cmpR op_eq (pmt0 G_Board_deeds (hr.mono (by decide)) p0 (pv 0)) pe_int (nomark _)) (pss_one (ps_ret pe_bl)) pss_nil)
    (pss_cons (ps_expr (pe_bm0 PySem.F.plainAttrs_list PySem.F.slot_list_pop PySem.F.type_list_pop mt_pop (pe_fld (pv 0) rfl)))
    (pss_one (ps_ret pe_bl)))), ?_⟩
    refine ⟨.ref a, rfl, a, dx, _, rfl, h1, rfl, a, pl, wl, _, n, rfl, hB, rfl, _, rfl, ?_⟩
    by_cases hm : ms = []
    · subst hm
      have e1 : decide (V.int (((([] : List Pg) ++ [g]).length : Nat) - 1) = V.int 0) = true := decide_eq_true rfl
      rw [e1]
      exact iteT (q H .refl hB)
    · have e1 : decide (V.int ((((ms ++ [g]).length : Nat) : Int) - 1) = V.int 0) = false := by
        refine decide_eq_false fun z => hm ?_
        have z := V.int.inj z
        rw [List.length_append] at z
        have e9 : ([g] : List Pg).length = 1 := rfl
        rw [e9] at z
        have : ms.length = 0 := by omega
        exact List.length_eq_zero_iff.mp this
      rw [e1]
      refine iteF ?_
      obtain ⟨ys, v, rfl, k1, k2⟩ := paired_last h3
      refine ⟨.ref a, rfl, a, BC, dx, _, _, rfl, h1, CF.clB, CF.nPages, rfl, .inl ⟨rfl, _, sqL h2⟩, pl, ys ++ [v], v, rfl, rfl, h2, by simp, ?_⟩
      have f2 : Fr T [pl] H (upd H pl (.lst (ys ++ [v]).dropLast)) := Fr.refl.put (by rw [h2]; exact True.intro) (.inr ⟨by simp, _, h2⟩)
      have q' := q _ f2 ⟨⟨dx, ys, ws, f2.ins h1, by rw [upd_same, List.dropLast_concat], by rw [if_neg hm]; exact pages_fr k1 f2, f2.lst h4 (by simpa using ne.symm), h5⟩, ne⟩
      rw [decide_eq_false hm] at q'
      exact q'
end
end Ob

/-! OS: logged, and the deeds that call it -/
namespace Ob
open PySem PySem.Spec PyProof.Rows L2 LamX

abbrev s_Board_logged : Stmt := inClass (top 25) 5
theorem S_Board_logged : FnScope ["self", "word", "work"] ["self", "word", "work"] (defScope s_Board_logged) := ⟨rfl, rfl, rfl, by decide +kernel, rfl, by decide +kernel, by decide +kernel⟩
abbrev s_Board_press : Stmt := inClass (top 25) 7
theorem S_Board_press : FnScope ["self", "switch"] ["self", "switch"] (defScope s_Board_press) := ⟨rfl, rfl, rfl, by decide +kernel, rfl, by decide +kernel, by decide +kernel⟩
abbrev s_Board_run : Stmt := inClass (top 25) 8
theorem S_Board_run : FnScope ["self", "history"] ["self", "history"] (defScope s_Board_run) := ⟨rfl, rfl, rfl, by decide +kernel, rfl, by decide +kernel, by decide +kernel⟩
abbrev s_Board_exclude : Stmt := inClass (top 25) 10
theorem S_Board_exclude : FnScope ["self", "one", "other"] ["self", "one", "other"] (defScope s_Board_exclude) := ⟨rfl, rfl, rfl, by decide +kernel, rfl, by decide +kernel, by decide +kernel⟩
abbrev s_Board_allow : Stmt := inClass (top 25) 12
theorem S_Board_allow : FnScope ["self", "one", "other"] ["self", "one", "other"] (defScope s_Board_allow) := ⟨rfl, rfl, rfl, by decide +kernel, rfl, by decide +kernel, by decide +kernel⟩
abbrev s_Board_add : Stmt := inClass (top 25) 14
theorem S_Board_add : FnScope ["self", "switch"] ["self", "switch"] (defScope s_Board_add) := ⟨rfl, rfl, rfl, by decide +kernel, rfl, by decide +kernel, by decide +kernel⟩
abbrev s_Board_remove : Stmt := inClass (top 25) 16
theorem S_Board_remove : FnScope ["self", "switch"] ["self", "switch"] (defScope s_Board_remove) := ⟨rfl, rfl, rfl, by decide +kernel, rfl, by decide +kernel, by decide +kernel⟩
abbrev s_Board_undo : Stmt := inClass (top 25) 17
theorem S_Board_undo : FnScope ["self"] ["self"] (defScope s_Board_undo) := ⟨rfl, rfl, rfl, by decide +kernel, rfl, by decide +kernel, by decide +kernel⟩
/-- a method that makes a lambda: its code object stands at c -/
structure Dl (K : PySem.W.Frag) (C : Addr) (m q : Str) (st : Stmt) (ps : List Str) (c : Addr) : Prop where
  cl : Cls K C
  ex : ∃ (f : Addr) (fd : FuncData) (oc : Value) (od : Option Addr) (kV doc pm : Value) (an : Option Addr) (ct : Value) (osl : Array (Option Value)), Meth K C m f ∧ Binds K fd ps [] ∧
    fd = PySem.W.fnOf m q (defArgs st) (defBody st) (defScope st) .none kV doc pm an (.ref c) ct ∧ K.lookup f = some ⟨oc, od, .func fd, osl⟩ ∧ PySem.W.codeIn K (.ref c) q = true
/-- the lambda's full name -/
def lq (q : Str) : Str := (envOfC q (defScope s_Board_logged) 0 0 .none).qual ++ "<lambda>"
/-- the maker's table -/
structure Lt (T : List (Addr × Str)) (base : Heap) (mg : Str → Option Value) (q : Str) (c P : Addr) : Prop where
  tb : TabB base mg c P
  mem : (P, lq q) ∈ T
  un : ∀ p ∈ T, p.1 = P → p.2 = lq q
section
variable {P : Program} {w : World} {K : PySem.W.Frag} {mg : Str → Option Value} {base : Heap}
theorem Dl.okX {C c : Addr} {m q : Str} {st : Stmt} {N ps : List Str} {k : Nat} {sp : Sp} (D : Dl K C m q st ps c) (S : FnScope N ps (defScope st)) (len : ∀ vs H Q E, sp vs H Q E → vs.length = ps.length)
    (hbody : ∀ (f : Addr) (A : Around) (outer : List Env) (s : Shared) (H : Hp) (vs : List V) (Q : VK) (E : XK), Room k (A.deeper (envOfC q (defScope st) s.heap.objs.size f (.ref c))) → sp vs H Q E →
      ∃ t, PSs (cxOf (L2.CX P w) P w K mg base N q (defScope st) f (.ref c) A outer s H E) (defBody st) t ∧ t { nx := fun _ H' => Q .non H', rt := Q } (start N vs) H) : Gm P w K mg base (L2.CX P w) (k + 1) C m ps sp := by
  obtain ⟨f, fd, oc, od, kV, doc, pm, an, ct, osl, h1, h2, rfl, lk, hcd⟩ := D.ex
  exact ⟨D.cl, f, _, h1, h2, fn_of lk hcd S len fun A outer s H vs Q E hr hsp => hbody f A outer s H vs Q E hr hsp⟩
end

def appT (K : PySem.W.Frag) (c : Str) : TS := tDrop (tBM K "list" rAppend (tFld K (tVar 0) "words") (tCons (tTup (tCons (tC (.str c)) (tCons (tVar 1) tNil))) tNil))
def tbLog (K : PySem.W.Frag) (q : Str) : Addr → Addr → (XK → Hp → VK → Prop) → XK → TS := fun f c' tl E => tSeq (appT K "in") (tRetFinX (fun W => tWork 2 f c' q W tl) (appT K "out") (appT K "out") (fun cls d _ H => E cls d H))
theorem works_logged {X : Cx} {g : Addr} {cdg : Value} {q : Str} {k : Nat} (h1 : ∃ t, X.mg "IN" = some (.str "in" t)) (h2 : ∃ t, X.mg "OUT" = some (.str "out" t)) :
    Works X ["self", "word", "work"] "Board.logged" (defScope s_Board_logged) g cdg (defBody s_Board_logged) "work" 2 q k (tbLog X.K q) := by
  intro f c' s H E tl hr act
  obtain ⟨t1, g1⟩ := h1
  obtain ⟨t2, g2⟩ := h2
  have ap : ∀ {Y : Cx} {p1 p2 p3 p4 p5 p6 p7 p8 : Pos} {kk : Nat}, True := trivial
  refine pss_cons (ps_expr (pe_bm PySem.F.plainAttrs_list PySem.F.slot_list_append PySem.F.type_list_append mt_append (pe_fld (pv 0) rfl) (pa_cons (pe_tup (pa_cons (pe_glob (v := .str "in") rfl g1 ⟨_, rfl⟩) (pa_cons (pv 1) pa_nil))) pa_nil))) (pss_one (ps_retFinX rfl rfl rfl tkE (fun W pn xe tk _ => act W pn xe _ _ tk) ?_ fun a pn => ?_))
  · exact pss_one (ps_expr (pe_bm PySem.F.plainAttrs_list PySem.F.slot_list_append PySem.F.type_list_append mt_append (pe_fld (pv 0) rfl) (pa_cons (pe_tup (pa_cons (pe_glob (v := .str "out") rfl g2 ⟨_, rfl⟩) (pa_cons (pv 1) pa_nil))) pa_nil)))
  · exact pss_one (ps_expr (pe_bm PySem.F.plainAttrs_list PySem.F.slot_list_append PySem.F.type_list_append mt_append (pe_fld (pv 0) rfl) (pa_cons (pe_tup (pa_cons (pe_glob (v := .str "out") rfl g2 ⟨_, rfl⟩) (pa_cons (pv 1) pa_nil))) pa_nil)))
section
variable {K : PySem.W.Frag} {BC PC : Addr} {T : List (Addr × Str)}
theorem app_run (CF : Cf K BC PC) {c : Str} {D : Ends} {H : Hp} {a pl wl : Addr} {y : V} {z : Option V} {pgs : List Pg} {n : Nat} (hB : BoardAt K BC PC H a pl wl pgs n) (hn : n ≤ 100000) (q : ∀ H', Fr T [wl] H H' → BoardAt K BC PC H' a pl wl pgs (n + 1) → D.nx [some (.ref a), some y, z] H') :
    appT K c D [some (.ref a), some y, z] H := by
  obtain ⟨⟨dx, vs, ws, h1, h2, h3, h4, h5⟩, ne⟩ := id hB
  refine ⟨.ref a, rfl, a, BC, dx, _, _, rfl, h1, CF.clB, CF.nWords, rfl, .inl ⟨rfl, _, sqL h4⟩, y, rfl, Ob.small' 2 (by decide), fun t ht => ?_⟩
  have e4 := upd_old (o := .tup [.str c, y]) ht _ _ h4
  have f1 : Fr T [wl] H (upd H t (.tup [.str c, y])) := Fr.refl.nw ht
  refine ⟨wl, ws, _, rfl, rfl, e4, Ob.small _ (by omega), ?_⟩
  have f2 : Fr T [wl] H (upd (upd H t (.tup [.str c, y])) wl (.lst (ws ++ [.ref t]))) := f1.put (by rw [e4]; exact True.intro) (.inr ⟨by simp, _, h4⟩)
  refine q _ f2 ⟨⟨dx, vs, _, f2.ins h1, f2.lst h2 (by simpa using ne), pages_fr h3 f2, upd_same, ?_⟩, ne⟩
  rw [List.length_append]
  simp
  omega
theorem logged_run (CF : Cf K BC PC) {q : Str} {f c' : Addr} {tl : XK → Hp → VK → Prop} {E : XK} {Q : VK} {H : Hp} {a pl wl : Addr} {y : V} {pgs : List Pg} {n : Nat} (hB : BoardAt K BC PC H a pl wl pgs n) (hn : n ≤ 99999) (hc : H c' = some (CodeO c' q))
    (htl : ∀ (H4 : Hp) (Q' : VK) (E' : XK), Fr T [wl] H H4 → BoardAt K BC PC H4 a pl wl pgs (n + 1) →
      (∀ v H5 pgs', BoardAt K BC PC H5 a pl wl pgs' (n + 1) → (∀ H6, Fr T [wl] H5 H6 → BoardAt K BC PC H6 a pl wl pgs' (n + 2) → Q v H6) → Q' v H5) →
      (∀ cls d H5 pgs', BoardAt K BC PC H5 a pl wl pgs' (n + 1) → (∀ H6, Fr T [wl] H5 H6 → BoardAt K BC PC H6 a pl wl pgs' (n + 2) → E cls d H6) → E' cls d H5) → tl E' H4 Q') :
    tbLog K q f c' tl E { nx := fun _ H' => Q .non H', rt := Q } (L2.start ["self", "word", "work"] [.ref a, y, .ref f]) H := by
  refine app_run (T := T) CF hB (by omega) fun H4 f4 b4 => ?_
  have hc4 : H4 c' = some (CodeO c' q) := f4.keep c' _ hc (fun ⟨_, z⟩ => by unfold CodeO at z; cases z) fun ps z => codeO_ne ps z
  dsimp only
  refine ⟨rfl, hc4, fun cls d H5 => ∃ pgs', BoardAt K BC PC H5 a pl wl pgs' (n + 1) ∧ ∀ H6, Fr T [wl] H5 H6 → BoardAt K BC PC H6 a pl wl pgs' (n + 2) → E cls d H6, fun cls d H5 h5 => ?_, ?_⟩
  · obtain ⟨pgs', b5, k5⟩ := h5
    exact app_run (T := T) CF b5 (by omega) fun H6 f6 b6 => k5 H6 f6 b6
  · refine htl H4 _ _ f4 b4 (fun v H5 pgs' b5 k5 => ?_) fun cls d H5 pgs' b5 k5 => ⟨pgs', b5, k5⟩
    exact app_run (T := T) CF b5 (by omega) fun H6 f6 b6 => k5 H6 f6 b6
end
end Ob

/-! OT: the deeds -/
namespace Ob
open PySem PySem.Spec PyProof.Rows L2 LamX
theorem tkL {X : Cx} {A : Around} {outer : List Env} {s : Shared} {H : Hp} {E : XK} {scope : Scope} {f c' : Addr} : Takes (lamCx X A outer s H E scope f c') (fun cls d _ H => E cls d H) := takes_of rfl rfl rfl rfl
section
variable {P : Program} {w : World} {K : PySem.W.Frag} {mg : Str → Option Value} {base : Heap} {BC PC : Addr} {T : List (Addr × Str)} {XL : Addr → Prop} {c Pt : Addr}
/-- the lambda's making in a frame's eyes -/
theorem Fr.lam {S : List Addr} {H H3 : Hp} (e : ExtN H H3) (t : Tabs T H3) (b : ∀ b ps, H b = some (.tbl ps) → ∃ o, H3 b = some o) : Fr T S H H3 := by
  refine Fr.refl.ext e (fun a o h => ?_) t
  by_cases c : ∃ ps, o = .tbl ps
  · obtain ⟨ps, rfl⟩ := c
    exact b a ps h
  · exact ⟨o, e a o h fun ps z => c ⟨ps, z⟩⟩
def sp_deed {α : Type} (K : PySem.W.Frag) (T : List (Addr × Str)) (BC PC : Addr) (XL : Addr → Prop) (ar : α → List V) (pre : α → Prop) (st : Pg → α → Option Pg) : Sp := fun vs H Q E => ∃ (a pl wl : Addr) (ms : List Pg) (g : Pg) (n : Nat) (x : α), vs = .ref a :: ar x ∧ pre x ∧ Tabs T H ∧ BoardAt K BC PC H a pl wl (ms ++ [g]) n ∧ Ok g ∧ Sz g 50000 ∧ ms.length ≤ 50000 ∧ n ≤ 50000 ∧
  (∀ g', st g x = some g' → ∀ H', Fr T [pl, wl] H H' → BoardAt K BC PC H' a pl wl (ms ++ [g] ++ [g']) (n + 2) → Q .non H') ∧ (st g x = none → ∀ C d H', XL C → Fr T [pl, wl] H H' → BoardAt K BC PC H' a pl wl (ms ++ [g]) (n + 2) → E (.ref C) d H')
/-- a deed by its inner method -/
theorem deed_of {α : Type} {ar : α → List V} {pre : α → Prop} {st : Pg → α → Option Pg} (CF : Cf K BC PC) {q : Str} {f c' : Addr} {tl : XK → Hp → VK → Prop} {E : XK} {Q : VK} {H H3 : Hp} {a pl wl : Addr} {y : V} {ms : List Pg} {g : Pg} {n : Nat} {x : α}
    (hp : pre x) (hB : BoardAt K BC PC H a pl wl (ms ++ [g]) n) (og : Ok g) (sz : Sz g 50000) (hms : ms.length ≤ 50000) (hn : n ≤ 50000) (F3 : Fr T [pl, wl] H H3) (b3 : BoardAt K BC PC H3 a pl wl (ms ++ [g]) n) (hc : H3 c' = some (CodeO c' q))
    (q1 : ∀ g', st g x = some g' → ∀ H', Fr T [pl, wl] H H' → BoardAt K BC PC H' a pl wl (ms ++ [g] ++ [g']) (n + 2) → Q .non H') (q2 : st g x = none → ∀ C d H', XL C → Fr T [pl, wl] H H' → BoardAt K BC PC H' a pl wl (ms ++ [g]) (n + 2) → E (.ref C) d H')
    (htl : ∀ (E' : XK) (H4 : Hp) (Q' : VK) (dx : Addr), H4 a = some (.ins BC dx [("pages", .ref pl), ("words", .ref wl)]) → sp_step K T BC PC XL ar pre st (.ref a :: ar x) H4 Q' E' → tl E' H4 Q') :
    tbLog K q f c' tl E { nx := fun _ H' => Q .non H', rt := fun v H' => Q .non H' } (L2.start ["self", "word", "work"] [.ref a, y, .ref f]) H3 := by
  refine logged_run (Q := fun v H' => Q .non H') (T := T) CF b3 (by omega) hc fun H4 Q' E' f4 b4 k1 k2 => ?_
  obtain ⟨⟨dx, vs, ws, h1, _⟩, _⟩ := id b4
  refine htl E' H4 Q' dx h1 ⟨a, pl, wl, ms, g, n + 1, x, rfl, hp, b4, og, sz, hms, fun g' hg' H5 f5 b5 => ?_, fun hg C d H5 hC f5 => ?_⟩
  · exact k1 _ H5 _ b5 fun H6 f6 b6 => q1 g' hg' H6 (((F3.trans (f4.more (by simp))).trans (f5.more (by simp))).trans (f6.more (by simp))) b6
  · exact k2 _ _ H5 _ (b4.fr f5) fun H6 f6 b6 => q2 hg C d H6 hC (((F3.trans (f4.more (by simp))).trans f5.zero).trans (f6.more (by simp))) b6
theorem ok_exclude (TX : Txt mg) (CF : Cf K BC PC) (D : Dl K BC "exclude" "Board.exclude" s_Board_exclude ["self", "one", "other"] c) (LT : Lt T base mg "Board.exclude" c Pt) (DL : Dm K BC "logged" "Board.logged" s_Board_logged ["self", "word", "work"])
    (G_Board_excluded : Gm P w K mg base (L2.CX P w) 4 BC "excluded" ["self", "one", "other"] (sp_step K T BC PC XL ar2 (fun _ => True) pEx)) :
    Gm P w K mg base (L2.CX P w) 8 BC "exclude" ["self", "one", "other"] (sp_deed K T BC PC XL ar2 (fun _ => True) pEx) := by
  obtain ⟨gl, fdl, m1, m2, m3⟩ := DL.ex
  refine D.okX (k := 7) S_Board_exclude (fun vs H Q E h => ?_) (fun f A outer s H vs Q E hr h => ?_)
  · obtain ⟨a, pl, wl, ms, g, n, x, rfl, _⟩ := h
    rfl
  · obtain ⟨a, pl, wl, ms, g, n, ⟨x, y⟩, rfl, hp, hT, hB, og, sz, hms, hn, q1, q2⟩ := h
    obtain ⟨⟨dx, vs, ws, h1, _⟩, _⟩ := id hB
    refine ⟨_, pss_one (ps_expr (pe_lamM (T := T) (k := 5) (pv 0) CF.clB m1 pe_str m3 m2 S_Board_logged rfl (Or.inl rfl) (fun cdg => works_logged TX.g_IN TX.g_OUT) LT.tb rfl LT.mem LT.un (hr.mono (by decide)) (lamS_by (sc := defScope s_Board_exclude) (by decide +kernel)) rfl (fun _ _ _ _ _ => rfl) (pT tkE)
      (fun A outer s H E f c' hr2 => pmt G_Board_excluded (hr2.mono (by decide)) (pT tkL) (pv 0) (pa_cons (pv 1) (pa_cons (pv 2) pa_nil))))), ?_⟩
    refine ⟨.ref a, rfl, a, dx, _, rfl, h1, rfl, hT, fun f' c' H3 e3 t3 b3 nf hc => ?_⟩
    have F3 : Fr T [pl, wl] H H3 := Fr.lam e3 t3 b3
    have F3' : Fr T [] H H3 := Fr.lam e3 t3 b3
    refine deed_of (pre := fun _ => True) (st := pEx) (ar := ar2) (x := (x, y)) (XL := XL) CF trivial hB og sz hms hn F3 (hB.fr F3') hc q1 q2 fun E' H4 Q' dx i4 hs => ?_
    exact ⟨.ref a, rfl, a, dx, _, rfl, i4, rfl, .str x, rfl, .str y, rfl, hs⟩
theorem ok_allow (TX : Txt mg) (CF : Cf K BC PC) (D : Dl K BC "allow" "Board.allow" s_Board_allow ["self", "one", "other"] c) (LT : Lt T base mg "Board.allow" c Pt) (DL : Dm K BC "logged" "Board.logged" s_Board_logged ["self", "word", "work"])
    (G_Board_let : Gm P w K mg base (L2.CX P w) 4 BC "let" ["self", "one", "other"] (sp_step K T BC PC XL ar2 (fun _ => True) pLet)) :
    Gm P w K mg base (L2.CX P w) 8 BC "allow" ["self", "one", "other"] (sp_deed K T BC PC XL ar2 (fun _ => True) pLet) := by
  obtain ⟨gl, fdl, m1, m2, m3⟩ := DL.ex
  refine D.okX (k := 7) S_Board_allow (fun vs H Q E h => ?_) (fun f A outer s H vs Q E hr h => ?_)
  · obtain ⟨a, pl, wl, ms, g, n, x, rfl, _⟩ := h
    rfl
  · obtain ⟨a, pl, wl, ms, g, n, ⟨x, y⟩, rfl, hp, hT, hB, og, sz, hms, hn, q1, q2⟩ := h
    obtain ⟨⟨dx, vs, ws, h1, _⟩, _⟩ := id hB
    refine ⟨_, pss_one (ps_expr (pe_lamM (T := T) (k := 5) (pv 0) CF.clB m1 pe_str m3 m2 S_Board_logged rfl (Or.inl rfl) (fun cdg => works_logged TX.g_IN TX.g_OUT) LT.tb rfl LT.mem LT.un (hr.mono (by decide)) (lamS_by (sc := defScope s_Board_allow) (by decide +kernel)) rfl (fun _ _ _ _ _ => rfl) (pT tkE)
      (fun A outer s H E f c' hr2 => pmt G_Board_let (hr2.mono (by decide)) (pT tkL) (pv 0) (pa_cons (pv 1) (pa_cons (pv 2) pa_nil))))), ?_⟩
    refine ⟨.ref a, rfl, a, dx, _, rfl, h1, rfl, hT, fun f' c' H3 e3 t3 b3 nf hc => ?_⟩
    have F3 : Fr T [pl, wl] H H3 := Fr.lam e3 t3 b3
    have F3' : Fr T [] H H3 := Fr.lam e3 t3 b3
    refine deed_of (pre := fun _ => True) (st := pLet) (ar := ar2) (x := (x, y)) (XL := XL) CF trivial hB og sz hms hn F3 (hB.fr F3') hc q1 q2 fun E' H4 Q' dx i4 hs => ?_
    exact ⟨.ref a, rfl, a, dx, _, rfl, i4, rfl, .str x, rfl, .str y, rfl, hs⟩
theorem ok_add (TX : Txt mg) (CF : Cf K BC PC) (D : Dl K BC "add" "Board.add" s_Board_add ["self", "switch"] c) (LT : Lt T base mg "Board.add" c Pt) (DL : Dm K BC "logged" "Board.logged" s_Board_logged ["self", "word", "work"])
    (G_Board_added : Gm P w K mg base (L2.CX P w) 4 BC "added" ["self", "switch"] (sp_step K T BC PC XL ar1 (fun x => x.length ≤ 1000) pAdd)) :
    Gm P w K mg base (L2.CX P w) 8 BC "add" ["self", "switch"] (sp_deed K T BC PC XL ar1 (fun x => x.length ≤ 1000) pAdd) := by
  obtain ⟨gl, fdl, m1, m2, m3⟩ := DL.ex
  refine D.okX (k := 7) S_Board_add (fun vs H Q E h => ?_) (fun f A outer s H vs Q E hr h => ?_)
  · obtain ⟨a, pl, wl, ms, g, n, x, rfl, _⟩ := h
    rfl
  · obtain ⟨a, pl, wl, ms, g, n, x, rfl, hp, hT, hB, og, sz, hms, hn, q1, q2⟩ := h
    obtain ⟨⟨dx, vs, ws, h1, _⟩, _⟩ := id hB
    refine ⟨_, pss_one (ps_expr (pe_lamM (T := T) (k := 5) (pv 0) CF.clB m1 pe_str m3 m2 S_Board_logged rfl (Or.inl rfl) (fun cdg => works_logged TX.g_IN TX.g_OUT) LT.tb rfl LT.mem LT.un (hr.mono (by decide)) (lamS_by (sc := defScope s_Board_add) (by decide +kernel)) rfl (fun _ _ _ _ _ => rfl) (pT tkE)
      (fun A outer s H E f c' hr2 => pmt G_Board_added (hr2.mono (by decide)) (pT tkL) (pv 0) (pa_cons (pv 1) pa_nil)))), ?_⟩
    refine ⟨.ref a, rfl, a, dx, _, rfl, h1, rfl, hT, fun f' c' H3 e3 t3 b3 nf hc => ?_⟩
    have F3 : Fr T [pl, wl] H H3 := Fr.lam e3 t3 b3
    have F3' : Fr T [] H H3 := Fr.lam e3 t3 b3
    refine deed_of (pre := fun x => x.length ≤ 1000) (st := pAdd) (ar := ar1) (x := x) (XL := XL) CF hp hB og sz hms hn F3 (hB.fr F3') hc q1 q2 fun E' H4 Q' dx i4 hs => ?_
    exact ⟨.ref a, rfl, a, dx, _, rfl, i4, rfl, .str x, rfl, hs⟩
theorem ok_remove (TX : Txt mg) (CF : Cf K BC PC) (D : Dl K BC "remove" "Board.remove" s_Board_remove ["self", "switch"] c) (LT : Lt T base mg "Board.remove" c Pt) (DL : Dm K BC "logged" "Board.logged" s_Board_logged ["self", "word", "work"])
    (G_Board_removed : Gm P w K mg base (L2.CX P w) 4 BC "removed" ["self", "switch"] (sp_step K T BC PC XL ar1 (fun _ => True) pRem)) :
    Gm P w K mg base (L2.CX P w) 8 BC "remove" ["self", "switch"] (sp_deed K T BC PC XL ar1 (fun _ => True) pRem) := by
  obtain ⟨gl, fdl, m1, m2, m3⟩ := DL.ex
  refine D.okX (k := 7) S_Board_remove (fun vs H Q E h => ?_) (fun f A outer s H vs Q E hr h => ?_)
  · obtain ⟨a, pl, wl, ms, g, n, x, rfl, _⟩ := h
    rfl
  · obtain ⟨a, pl, wl, ms, g, n, x, rfl, hp, hT, hB, og, sz, hms, hn, q1, q2⟩ := h
    obtain ⟨⟨dx, vs, ws, h1, _⟩, _⟩ := id hB
    refine ⟨_, pss_one (ps_expr (pe_lamM (T := T) (k := 5) (pv 0) CF.clB m1 pe_str m3 m2 S_Board_logged rfl (Or.inl rfl) (fun cdg => works_logged TX.g_IN TX.g_OUT) LT.tb rfl LT.mem LT.un (hr.mono (by decide)) (lamS_by (sc := defScope s_Board_remove) (by decide +kernel)) rfl (fun _ _ _ _ _ => rfl) (pT tkE)
      (fun A outer s H E f c' hr2 => pmt G_Board_removed (hr2.mono (by decide)) (pT tkL) (pv 0) (pa_cons (pv 1) pa_nil)))), ?_⟩
    refine ⟨.ref a, rfl, a, dx, _, rfl, h1, rfl, hT, fun f' c' H3 e3 t3 b3 nf hc => ?_⟩
    have F3 : Fr T [pl, wl] H H3 := Fr.lam e3 t3 b3
    have F3' : Fr T [] H H3 := Fr.lam e3 t3 b3
    refine deed_of (pre := fun _ => True) (st := pRem) (ar := ar1) (x := x) (XL := XL) CF hp hB og sz hms hn F3 (hB.fr F3') hc q1 q2 fun E' H4 Q' dx i4 hs => ?_
    exact ⟨.ref a, rfl, a, dx, _, rfl, i4, rfl, .str x, rfl, hs⟩

def sp_press (K : PySem.W.Frag) (T : List (Addr × Str)) (BC PC : Addr) (XL : Addr → Prop) : Sp := fun vs H Q E => ∃ (a pl wl : Addr) (ms : List Pg) (g : Pg) (n : Nat) (x : Str), vs = [.ref a, .str x] ∧ Tabs T H ∧ BoardAt K BC PC H a pl wl (ms ++ [g]) n ∧ Ok g ∧ Sz g 50000 ∧ ms.length ≤ 50000 ∧ n ≤ 50000 ∧
  (x ∈ g.1.1 → ∀ b H', Fr T [pl, wl] H H' → BoardAt K BC PC H' a pl wl (ms ++ [g] ++ [(g.1, press g.1.2 g.2 x)]) (n + 2) → H' b = some (.lst ((g.2.filter fun z => !decide (z ∈ press g.1.2 g.2 x)).map V.str)) → H b = none → Q (.ref b) H') ∧ (x ∉ g.1.1 → ∀ C d H', XL C → Fr T [pl, wl] H H' → BoardAt K BC PC H' a pl wl (ms ++ [g]) (n + 2) → E (.ref C) d H')
theorem ok_press (TX : Txt mg) (CF : Cf K BC PC) (D : Dl K BC "press" "Board.press" s_Board_press ["self", "switch"] c) (LT : Lt T base mg "Board.press" c Pt) (DL : Dm K BC "logged" "Board.logged" s_Board_logged ["self", "word", "work"])
    (G_Board_gone : Gm P w K mg base (L2.CX P w) 5 BC "gone" ["self", "history"] (sp_gone K T BC PC XL)) :
    Gm P w K mg base (L2.CX P w) 8 BC "press" ["self", "switch"] (sp_press K T BC PC XL) := by
  obtain ⟨gl, fdl, m1, m2, m3⟩ := DL.ex
  refine D.okX (k := 7) S_Board_press (fun vs H Q E h => ?_) (fun f A outer s H vs Q E hr h => ?_)
  · obtain ⟨a, pl, wl, ms, g, n, x, rfl, _⟩ := h
    rfl
  · obtain ⟨a, pl, wl, ms, g, n, x, rfl, hT, hB, og, sz, hms, hn, q1, q2⟩ := h
    obtain ⟨⟨dx, vs, ws, h1, h2, h3, h4, h5⟩, ne⟩ := id hB
    refine ⟨_, pss_one (ps_ret (pe_lamM (T := T) (k := 5) (pv 0) CF.clB m1 pe_str m3 m2 S_Board_logged rfl (Or.inl rfl) (fun cdg => works_logged TX.g_IN TX.g_OUT) LT.tb rfl LT.mem LT.un (hr.mono (by decide)) (lamS_by (sc := defScope s_Board_press) (by decide +kernel)) rfl (fun _ _ _ _ _ => rfl) (pT tkE)
      (fun A outer s H E f c' hr2 => pe_ix (ix_listK K) (pmt G_Board_gone (hr2.mono (by decide)) (pT tkL) (pv 0) (pa_cons (pe_lst (pa_cons (pv 1) pa_nil)) pa_nil)) pe_int (fun _ _ => rfl)))), ?_⟩
    refine ⟨.ref a, rfl, a, dx, _, rfl, h1, rfl, hT, fun f' c' H3 e3 t3 b3 nf hc => ?_⟩
    have F3 : Fr T [pl, wl] H H3 := Fr.lam e3 t3 b3
    have F3' : Fr T [] H H3 := Fr.lam e3 t3 b3
    refine logged_run (T := T) CF (hB.fr F3') (by omega) hc fun H4 Q' E' f4 b4 k1 k2 => ?_
    have i4 := f4.ins (F3.ins h1)
    refine ⟨.ref a, rfl, a, dx, _, rfl, i4, rfl, .str x, rfl, Ob.small' 1 (by decide), fun l hl => ?_⟩
    have fl : Fr T [] H4 (upd H4 l (.lst [.str x])) := Fr.refl.nw hl
    have F4 : Fr T [pl, wl] H (upd H4 l (.lst [.str x])) := (F3.trans (f4.more (by simp))).trans fl.zero
    refine ⟨a, pl, wl, ms, g, n + 1, l, [x], rfl, sqL upd_same, by show 1 ≤ 1000; decide, b4.fr fl, og, sz, hms, fun hall L H5 f5 b5 LL => ?_, fun hno C d H5 hC f5 => ?_⟩
    · obtain ⟨us, l1, l2, l3⟩ := LL
      cases l3 with
      | cons z1 z2 =>
        cases z2
        obtain ⟨b, rfl, hb1, hb2⟩ := z1
        refine ⟨L, _, 0, .ref b, rfl, rfl, sqL l1, rfl, k1 _ H5 _ b5 fun H6 f6 b6 => q1 (hall x (by simp)) b H6 ((F4.trans (f5.more (by simp))).trans (f6.more (by simp))) b6 (f6.lst hb1 ?_) (F4.free hb2)⟩
        intro m
        have e := List.mem_singleton.mp m
        have hw : (upd H4 l (.lst [.str x])) wl ≠ none := by
          obtain ⟨⟨_, _, ws4, _, _, _, w4, _⟩, _⟩ := b4
          rw [upd_old hl _ _ w4]
          intro z; cases z
        exact hw (e ▸ hb2)
    · refine k2 _ _ H5 _ ((b4.fr fl).fr f5) fun H6 f6 b6 => q2 (fun hx => hno fun y hy => ?_) C d H6 hC ((F4.trans f5.zero).trans (f6.more (by simp))) b6
      rw [List.mem_singleton.mp hy]
      exact hx
def sp_run (K : PySem.W.Frag) (T : List (Addr × Str)) (BC PC : Addr) (XL : Addr → Prop) : Sp := fun vs H Q E => ∃ (a pl wl : Addr) (ms : List Pg) (g : Pg) (n : Nat) (h : Addr) (xs : List Str), vs = [.ref a, .ref h] ∧ SqL K H h (xs.map V.str) ∧ h ≠ wl ∧ xs.length ≤ 1000 ∧ Tabs T H ∧ BoardAt K BC PC H a pl wl (ms ++ [g]) n ∧ Ok g ∧ Sz g 50000 ∧ ms.length ≤ 50000 ∧ n ≤ 50000 ∧
  ((∀ x ∈ xs, x ∈ g.1.1) → ∀ l H', Fr T [pl, wl] H H' → BoardAt K BC PC H' a pl wl (ms ++ [g] ++ [(g.1, xs.foldl (press g.1.2) g.2)]) (n + 2) → LLs H H' l (losts g.1.2 g.2 xs) → Q (.ref l) H') ∧ (¬ (∀ x ∈ xs, x ∈ g.1.1) → ∀ C d H', XL C → Fr T [pl, wl] H H' → BoardAt K BC PC H' a pl wl (ms ++ [g]) (n + 2) → E (.ref C) d H')
theorem ok_run (TX : Txt mg) (CF : Cf K BC PC) (D : Dl K BC "run" "Board.run" s_Board_run ["self", "history"] c) (LT : Lt T base mg "Board.run" c Pt) (DL : Dm K BC "logged" "Board.logged" s_Board_logged ["self", "word", "work"])
    (G_Board_gone : Gm P w K mg base (L2.CX P w) 5 BC "gone" ["self", "history"] (sp_gone K T BC PC XL)) :
    Gm P w K mg base (L2.CX P w) 8 BC "run" ["self", "history"] (sp_run K T BC PC XL) := by
  obtain ⟨gl, fdl, m1, m2, m3⟩ := DL.ex
  refine D.okX (k := 7) S_Board_run (fun vs H Q E h => ?_) (fun f A outer s H vs Q E hr h => ?_)
  · obtain ⟨a, pl, wl, ms, g, n, h, xs, rfl, _⟩ := h
    rfl
  · obtain ⟨a, pl, wl, ms, g, n, hh, xs, rfl, hS, hne, hlx, hT, hB, og, sz, hms, hn, q1, q2⟩ := h
    obtain ⟨⟨dx, vs, ws, h1, h2, h3, h4, h5⟩, ne⟩ := id hB
    refine ⟨_, pss_one (ps_ret (pe_lamM (T := T) (k := 5) (pv 0) CF.clB m1 pe_str m3 m2 S_Board_logged rfl (Or.inl rfl) (fun cdg => works_logged TX.g_IN TX.g_OUT) LT.tb rfl LT.mem LT.un (hr.mono (by decide)) (lamS_by (sc := defScope s_Board_run) (by decide +kernel)) rfl (fun _ _ _ _ _ => rfl) (pT tkE)
      (fun A outer s H E f c' hr2 => pmt G_Board_gone (hr2.mono (by decide)) (pT tkL) (pv 0) (pa_cons (pe_callTy (call_list_ofK K) rfl TX.n_list (by decide +kernel) (pa_cons (pv 1) pa_nil)) pa_nil)))), ?_⟩
    refine ⟨.ref a, rfl, a, dx, _, rfl, h1, rfl, hT, fun f' c' H3 e3 t3 b3 nf hc => ?_⟩
    have F3 : Fr T [pl, wl] H H3 := Fr.lam e3 t3 b3
    have F3' : Fr T [] H H3 := Fr.lam e3 t3 b3
    refine logged_run (T := T) CF (hB.fr F3') (by omega) hc fun H4 Q' E' f4 b4 k1 k2 => ?_
    have i4 := f4.ins (F3.ins h1)
    have S4 := f4.sqL (F3'.sqL hS) (by simpa using hne)
    refine ⟨.ref a, rfl, a, dx, _, rfl, i4, rfl, .ref hh, rfl, hh, _, rfl, .inl S4, fun l hl => ?_⟩
    have fl : Fr T [] H4 (upd H4 l (.lst (xs.map V.str))) := Fr.refl.nw hl
    have F4 : Fr T [pl, wl] H (upd H4 l (.lst (xs.map V.str))) := (F3.trans (f4.more (by simp))).trans fl.zero
    refine ⟨a, pl, wl, ms, g, n + 1, l, xs, rfl, sqL upd_same, hlx, b4.fr fl, og, sz, hms, fun hall L H5 f5 b5 LL => ?_, fun hno C d H5 hC f5 => ?_⟩
    · refine k1 _ H5 _ b5 fun H6 f6 b6 => q1 hall L H6 ((F4.trans (f5.more (by simp))).trans (f6.more (by simp))) b6 ?_
      have hw : (upd H4 l (.lst (xs.map V.str))) wl ≠ none := by
        obtain ⟨⟨_, _, ws4, _, _, _, w4, _⟩, _⟩ := b4
        rw [upd_old hl _ _ w4]
        intro z; cases z
      obtain ⟨us, l1, l2, l3⟩ := LL.fr f6 fun b hb => by rw [List.mem_singleton.mp hb]; exact hw
      exact ⟨us, l1, F4.free l2, L2.Paired.mapP l3 fun v A ⟨b, x, y, z⟩ => ⟨b, x, y, F4.free z⟩⟩
    · exact k2 _ _ H5 _ ((b4.fr fl).fr f5) fun H6 f6 b6 => q2 hno C d H6 hC ((F4.trans f5.zero).trans (f6.more (by simp))) b6
def sp_undo (K : PySem.W.Frag) (T : List (Addr × Str)) (BC PC : Addr) : Sp := fun vs H Q _ => ∃ (a pl wl : Addr) (ms : List Pg) (g : Pg) (n : Nat), vs = [.ref a] ∧ Tabs T H ∧ BoardAt K BC PC H a pl wl (ms ++ [g]) n ∧ n ≤ 50000 ∧ ∀ H', Fr T [pl, wl] H H' → BoardAt K BC PC H' a pl wl (if ms = [] then [g] else ms) (n + 2) → Q (.bl (!decide (ms = []))) H'
theorem ok_undo (TX : Txt mg) (CF : Cf K BC PC) (D : Dl K BC "undo" "Board.undo" s_Board_undo ["self"] c) (LT : Lt T base mg "Board.undo" c Pt) (DL : Dm K BC "logged" "Board.logged" s_Board_logged ["self", "word", "work"])
    (G_Board_taken_back : Gm P w K mg base CX0 2 BC "taken_back" ["self"] (sp_back K T BC PC)) :
    Gm P w K mg base (L2.CX P w) 8 BC "undo" ["self"] (sp_undo K T BC PC) := by
  obtain ⟨gl, fdl, m1, m2, m3⟩ := DL.ex
  refine D.okX (k := 7) S_Board_undo (fun vs H Q E h => ?_) (fun f A outer s H vs Q E hr h => ?_)
  · obtain ⟨a, pl, wl, ms, g, n, rfl, _⟩ := h
    rfl
  · obtain ⟨a, pl, wl, ms, g, n, rfl, hT, hB, hn, q1⟩ := h
    obtain ⟨⟨dx, vs, ws, h1, h2, h3, h4, h5⟩, ne⟩ := id hB
    refine ⟨_, pss_one (ps_ret (pe_lamM (T := T) (k := 5) (pv 0) CF.clB m1 pe_str m3 m2 S_Board_logged rfl (Or.inl rfl) (fun cdg => works_logged TX.g_IN TX.g_OUT) LT.tb rfl LT.mem LT.un (hr.mono (by decide)) (lamS_by (sc := defScope s_Board_undo) (by decide +kernel)) rfl (fun _ _ _ _ _ => rfl) (pT tkE)
      (fun A outer s H E f c' hr2 => pmt0 G_Board_taken_back (hr2.mono (by decide)) p0 (pv 0)))), ?_⟩
    refine ⟨.ref a, rfl, a, dx, _, rfl, h1, rfl, hT, fun f' c' H3 e3 t3 b3 nf hc => ?_⟩
    have F3 : Fr T [pl, wl] H H3 := Fr.lam e3 t3 b3
    have F3' : Fr T [] H H3 := Fr.lam e3 t3 b3
    refine logged_run (T := T) CF (hB.fr F3') (by omega) hc fun H4 Q' E' f4 b4 k1 k2 => ?_
    have i4 := f4.ins (F3.ins h1)
    refine ⟨.ref a, rfl, a, dx, _, rfl, i4, rfl, a, pl, wl, ms, g, n + 1, rfl, b4, fun H5 f5 b5 => ?_⟩
    exact k1 _ H5 _ b5 fun H6 f6 b6 => q1 H6 (((F3.trans (f4.more (by simp))).trans (f5.more (by simp))).trans (f6.more (by simp))) b6
end
end Ob

/-! LA: the law's box, draws, names -/
namespace Ob
open PySem PySem.Spec PyProof.Rows L2 LamX

/-- the box of draws at b, n draws at most -/
def BoxAt (H : Hp) (b : Addr) (n : Nat) : Prop := ∃ x y z : Int, H b = some (.lst [.int x, .int y, .int z]) ∧ 0 ≤ x ∧ 0 ≤ z ∧ z ≤ n
section
variable {T : List (Addr × Str)} {S : List Addr} {H H' : Hp} {b : Addr} {n m : Nat}
theorem BoxAt.fr (h : BoxAt H b n) (f : Fr T S H H') (hb : b ∉ S := by simp) : BoxAt H' b n := let ⟨x, y, z, e, r⟩ := h; ⟨x, y, z, f.lst e hb, r⟩
theorem BoxAt.more (h : BoxAt H b n) (l : n ≤ m) : BoxAt H b m := let ⟨x, y, z, e, a, c, d⟩ := h; ⟨x, y, z, e, a, c, by omega⟩
theorem BoxAt.lst (h : BoxAt H b n) : ∃ xs, H b = some (.lst xs) := let ⟨x, y, z, e, _⟩ := h; ⟨_, e⟩
theorem Fr.sqAB {K : PySem.W.Frag} {a : Addr} {xs : List V} (f : Fr T [b] H H') (h : SqT K H a xs ∨ (SqL K H a xs ∧ a ≠ b)) : SqA K H' a xs := h.elim (fun h => .inr (f.sqT h)) fun h => .inl (f.sqL h.1 (by simpa using h.2))
end
theorem b01 (c : Bool) : (-(2 ^ 64) < (if c = true then 1 else 0 : Int) ∧ (if c = true then 1 else 0 : Int) < 2 ^ 64) ∧ 0 ≤ (if c = true then 1 else 0 : Int) := by
  cases c <;> decide
theorem erase_map {α β : Type} (f : α → β) : ∀ (l : List α) (i : Nat), (l.map f).eraseIdx i = (l.eraseIdx i).map f
  | [], _ => rfl
  | x :: l, 0 => rfl
  | x :: l, i + 1 => by
    show f x :: (l.map f).eraseIdx i = f x :: (l.eraseIdx i).map f
    rw [erase_map f l i]
theorem erase_perm {α : Type} : ∀ (l : List α) (i : Nat) (h : i < l.length), (l[i] :: l.eraseIdx i).Perm l
  | [], i, h => absurd h (Nat.not_lt_zero _)
  | x :: l, 0, _ => .refl _
  | x :: l, i + 1, h => (List.Perm.swap x _ _).trans ((erase_perm l i (Nat.lt_of_succ_lt_succ h)).cons x)
theorem seq_ix {j n : Nat} (h : j < n) : seqIndex? (j : Int) n = some j := (ixN_seq (n := n) (i := (j : Int)) (j := j) (by
  unfold ixN
  rw [if_pos (by omega), if_pos (by omega)]; simp)).1
section
variable {P : Program} {w : World} {K : PySem.W.Frag} {mg : Str → Option Value} {base : Heap} {T : List (Addr × Str)}
abbrev s_law_cell_at : Stmt := top 27
theorem S_law_cell_at : FnScope ["_law_script", "_law_k"] ["_law_script", "_law_k"] (defScope s_law_cell_at) := ⟨rfl, rfl, rfl, by decide +kernel, rfl, by decide +kernel, by decide +kernel⟩
abbrev s_law_box : Stmt := top 28
theorem S_law_box : FnScope ["_law_script", "_law_k", "_law_cell"] ["_law_script", "_law_k"] (defScope s_law_box) := ⟨rfl, rfl, rfl, by decide +kernel, rfl, by decide +kernel, by decide +kernel⟩
abbrev s_law_take : Stmt := top 29
theorem S_law_take : FnScope ["_law_box_here", "_law_size", "_law_told_here", "_law_once", "_law_twice"] ["_law_box_here", "_law_size"] (defScope s_law_take) := ⟨rfl, rfl, rfl, by decide +kernel, rfl, by decide +kernel, by decide +kernel⟩
abbrev s_law_of : Stmt := top 30
theorem S_law_of : FnScope ["_law_box_here", "_law_some"] ["_law_box_here", "_law_some"] (defScope s_law_of) := ⟨rfl, rfl, rfl, by decide +kernel, rfl, by decide +kernel, by decide +kernel⟩
abbrev s_law_strewn : Stmt := top 33
theorem S_law_strewn : FnScope ["_law_box_here", "_law_some", "_law_rest", "_law_found"] ["_law_box_here", "_law_some"] (defScope s_law_strewn) := ⟨rfl, rfl, rfl, by decide +kernel, rfl, by decide +kernel, by decide +kernel⟩
abbrev s_law_names : Stmt := top 34
theorem S_law_names : FnScope ["_law_box_here", "_law_size", "_law_pool"] ["_law_box_here", "_law_size"] (defScope s_law_names) := ⟨rfl, rfl, rfl, by decide +kernel, rfl, by decide +kernel, by decide +kernel⟩
def sp_cell (K : PySem.W.Frag) : Sp := fun vs H Q _ => ∃ (a : Addr) (ns : List Int) (k : Nat), vs = [.ref a, .int k] ∧ SqL K H a (ns.map V.int) ∧ ∀ z, Q (.int z) H
theorem ok_cell (TX : Txt mg) (D : Df K mg "_law_cell_at" "_law_cell_at" s_law_cell_at ["_law_script", "_law_k"]) : Gd P w K mg base CX0 1 "_law_cell_at" ["_law_script", "_law_k"] (sp_cell K) := by
  refine D.ok (k := 0) S_law_cell_at (fun vs H Q E h => ?_) (fun f cdv A outer s H vs Q E hr h => ?_)
  · obtain ⟨a, ns, k, rfl, _⟩ := h
    rfl
  · obtain ⟨a, ns, k, rfl, hS, q⟩ := h
    -- slots: 0:_law_script 1:_law_k
    refine ⟨_, (pss_cons (ps_if (pt_cmpR op_lt (pv 1) (pe_callB call_len_seq rfl TX.n_len (by decide +kernel) (pa_cons (pv 0) pa_nil)) (nomark _)) (pss_one (ps_ret (pe_ix (ix_listK K) (pv 0) (pv 1) (fun _ _ => rfl)))) pss_nil)
    (pss_one (ps_ret pe_int))), ?_⟩
    refine ⟨.int k, rfl, .ref a, rfl, a, _, rfl, .inl hS, _, _, rfl, rfl, _, rfl, ?_⟩
    refine ite2 (fun c => ?_) (fun c => q 0)
    have c := of_decide_eq_true c
    rw [List.length_map] at c
    have l : k < ns.length := by omega
    refine ⟨.ref a, rfl, .int k, rfl, a, _, k, .int ns[k], rfl, rfl, hS, atI_nat ?_, q _⟩
    rw [List.getElem?_map, List.getElem?_eq_getElem l]
    rfl
def sp_box (K : PySem.W.Frag) (T : List (Addr × Str)) : Sp := fun vs H Q _ => ∃ (a : Addr) (ns : List Int) (k : Nat), vs = [.ref a, .int k] ∧ SqL K H a (ns.map V.int) ∧ k ≤ 1000 ∧ ∀ b H', H b = none → Fr T [] H H' → BoxAt H' b 0 → Q (.ref b) H'
theorem ok_box (TX : Txt mg) (D : Df K mg "_law_box" "_law_box" s_law_box ["_law_script", "_law_k"]) (G_law_cell_at : Gd P w K mg base CX0 1 "_law_cell_at" ["_law_script", "_law_k"] (sp_cell K)) : Gd P w K mg base CX0 2 "_law_box" ["_law_script", "_law_k"] (sp_box K T) := by
  refine D.ok (k := 1) S_law_box (fun vs H Q E h => ?_) (fun f cdv A outer s H vs Q E hr h => ?_)
  · obtain ⟨a, ns, k, rfl, _⟩ := h
    rfl
  · obtain ⟨a, ns, k, rfl, hS, hk, q⟩ := h
    -- slots: 0:_law_script 1:_law_k 2:_law_cell
    refine ⟨_, (pss_cons (ps_set (i := 2) S_law_box.nd rfl (Or.inl rfl) (pcl G_law_cell_at rfl (hr.mono (by decide)) p0 (pa_cons (pv 0) (pa_cons (pv 1) pa_nil))))
    (pss_one (ps_ret (pe_lst (pa_cons (pe_op op_mul (pe_callB call_abs rfl TX.n_abs (by decide +kernel) (pa_cons (pv 2) pa_nil)) (pe_callTy call_int1 rfl TX.n_int (by decide +kernel) (pa_cons (pe_cmpR op_ge (pe_callB call_abs rfl TX.n_abs (by decide +kernel) (pa_cons (pv 2) pa_nil)) (pe_op op_pow pe_int pe_int) (nomark _)) pa_nil))) (pa_cons (pe_op op_add (pe_op op_add (pe_op op_mod (pv 2) pe_int) (pe_op op_mul pe_int (pv 1))) pe_int) (pa_cons pe_int pa_nil))))))), ?_⟩
    refine ⟨.ref a, rfl, .int k, rfl, a, ns, k, rfl, hS, fun z => ?_⟩
    refine ⟨.int z, rfl, z, rfl, .int z, rfl, z, rfl, 10, 18, rfl, rfl, ⟨by decide, by decide⟩, _, _, rfl, rfl, .inr ⟨_, rfl, _, _, rfl, rfl, .inr ?_, ?_⟩⟩
    · exact (b01 _).1
    · refine ⟨.int z, rfl, z, _, rfl, rfl, (by show (0 : Int) < _; decide), .int k, rfl, _, _, rfl, rfl, .inl ⟨by decide, by decide⟩, _, _, rfl, rfl, _, _, rfl, rfl, Ob.small' 3 (by decide), fun b hb => ?_⟩
      refine q b _ hb (Fr.refl.nw hb) ⟨_, _, _, upd_same, ?_, Int.le_refl _, Int.le_refl _⟩
      refine Int.mul_nonneg ?_ ?_
      · split <;> omega
      · exact (b01 _).2
def sp_take (T : List (Addr × Str)) : Sp := fun vs H Q _ => ∃ (b : Addr) (m n : Nat), vs = [.ref b, .int m] ∧ BoxAt H b n ∧ 0 < m ∧ m ≤ 1000 ∧ n ≤ 1000000 ∧ ∀ (r : Nat) H', r < m → Fr T [b] H H' → BoxAt H' b (n + 1) → Q (.int r) H'
theorem ok_take (D : Df K mg "_law_take" "_law_take" s_law_take ["_law_box_here", "_law_size"]) : Gd P w K mg base CX0 1 "_law_take" ["_law_box_here", "_law_size"] (sp_take T) := by
  refine D.ok (k := 0) S_law_take (fun vs H Q E h => ?_) (fun f cdv A outer s H vs Q E hr h => ?_)
  · obtain ⟨b, m, n, rfl, _⟩ := h
    rfl
  · obtain ⟨b, m, n, rfl, ⟨x, y, z, hb, hx, hz, hzn⟩, hm, hm2, hn, q⟩ := h
    have md : ∀ i : Int, ∃ r : Nat, i % (m : Int) = r ∧ r < m := fun i => by
      have h1 := Int.emod_nonneg i (b := (m : Int)) (by omega)
      have h2 := Int.emod_lt_of_pos i (b := (m : Int)) (by omega)
      exact ⟨(i % (m : Int)).toNat, by omega, by omega⟩
    -- slots: 0:_law_box_here 1:_law_size 2:_law_told_here 3:_law_once 4:_law_twice
    refine ⟨_, (pss_cons (ps_if (pt_cmpR op_gt (pe_ix (ix_listK K) (pv 0) pe_int (fun _ _ => rfl)) pe_int (nomark _)) (pss_cons (ps_set (i := 2) S_law_take.nd rfl (Or.inl rfl) (pe_op op_mod (pe_ix (ix_listK K) (pv 0) pe_int (fun _ _ => rfl)) (pv 1)))
      (pss_cons (ps_asg (pe_op op_fdiv (pe_ix (ix_listK K) (pv 0) pe_int (fun _ _ => rfl)) (pv 1)) (pg_sub (pv 0) pe_int set_list))
      (pss_one (ps_ret (pv 2))))) pss_nil)
    (pss_cons (ps_asg (pe_op op_add (pe_ix (ix_listK K) (pv 0) pe_int (fun _ _ => rfl)) pe_int) (pg_sub (pv 0) pe_int set_list))
    (pss_cons (ps_set (i := 3) S_law_take.nd rfl (Or.inl rfl) (pe_op op_mod (pe_op op_mul (pe_op op_add (pe_ix (ix_listK K) (pv 0) pe_int (fun _ _ => rfl)) (pe_op op_mul pe_int (pe_ix (ix_listK K) (pv 0) pe_int (fun _ _ => rfl)))) (pe_op op_add pe_int (pe_ix (ix_listK K) (pv 0) pe_int (fun _ _ => rfl)))) pe_int))
    (pss_cons (ps_set (i := 4) S_law_take.nd rfl (Or.inl rfl) (pe_op op_mod (pe_op op_mul (pe_op op_add (pe_op op_add (pv 3) (pe_ix (ix_listK K) (pv 0) pe_int (fun _ _ => rfl))) (pe_op op_fdiv (pe_ix (ix_listK K) (pv 0) pe_int (fun _ _ => rfl)) pe_int)) (pe_op op_add (pe_op op_mod (pv 3) pe_int) pe_int)) pe_int))
    (pss_one (ps_ret (pe_op op_mod (pe_op op_fdiv (pe_op op_mod (pe_op op_add (pe_op op_mul (pv 4) pe_int) (pv 3)) pe_int) pe_int) (pv 1)))))))), ?_⟩
    refine ⟨.ref b, rfl, b, _, 0, _, rfl, rfl, sqL hb, rfl, _, _, rfl, rfl, _, rfl, ?_⟩
    refine ite2 (fun c => ?_) (fun c => ?_)
    · refine ⟨.ref b, rfl, b, _, 0, _, rfl, rfl, sqL hb, rfl, .int m, rfl, x, m, rfl, rfl, by omega, ?_⟩
      refine ⟨.ref b, rfl, b, _, 0, _, rfl, rfl, sqL hb, rfl, .int m, rfl, x, m, rfl, rfl, ⟨by omega, by omega⟩, .ref b, rfl, b, _, 0, 0, rfl, rfl, hb, rfl, ?_⟩
      obtain ⟨r, e, lr⟩ := md x
      have z1 := q r (upd H b (.lst [.int (x / m), .int y, .int z])) lr (Fr.refl.put (by rw [hb]; exact True.intro) (.inr ⟨by simp, _, hb⟩)) ⟨x / m, y, z, upd_same, Int.ediv_nonneg hx (by omega), hz, by omega⟩
      rw [← e] at z1
      exact ⟨_, rfl, z1⟩
    · refine ⟨.ref b, rfl, b, _, 2, _, rfl, rfl, sqL hb, rfl, z, 1, rfl, rfl, .ref b, rfl, b, _, 2, 2, rfl, rfl, hb, rfl, ?_⟩
      have hb1 : (upd H b (.lst [.int x, .int y, .int (z + 1)])) b = some (.lst [.int x, .int y, .int (z + 1)]) := upd_same
      refine ⟨.ref b, rfl, b, _, 1, _, rfl, rfl, sqL hb1, rfl, .ref b, rfl, b, _, 2, _, rfl, rfl, sqL hb1, rfl, 48271, z + 1, rfl, rfl, .inl ⟨by decide, by decide⟩, y, _, rfl, rfl, .ref b, rfl, b, _, 2, _, rfl, rfl, sqL hb1, rfl, 39373, z + 1, rfl, rfl, _, _, rfl, rfl, .inr ⟨by omega, by omega⟩, _, 2147483647, rfl, rfl, (by show (0 : Int) < _; decide), ?_⟩
      refine ⟨_, rfl, .ref b, rfl, b, _, 2, _, rfl, rfl, sqL hb1, rfl, _, _, rfl, rfl, .ref b, rfl, b, _, 1, _, rfl, rfl, sqL hb1, rfl, y, 1000003, rfl, rfl, ⟨by decide, by decide⟩, _, _, rfl, rfl, _, rfl, _, 40009, rfl, rfl, (by show (0 : Int) < _; decide), _, 7, rfl, rfl, _, _, rfl, rfl, .inr ?_, _, 2147483629, rfl, rfl, (by show (0 : Int) < _; decide), ?_⟩
      · have h1 := Int.emod_nonneg ((y + 48271 * (z + 1)) * (39373 + (z + 1)) % 2147483647) (b := 40009) (by decide)
        have h2 := Int.emod_lt_of_pos ((y + 48271 * (z + 1)) * (39373 + (z + 1)) % 2147483647) (b := 40009) (by decide)
        exact ⟨by omega, by omega⟩
      refine ⟨_, rfl, _, 48271, rfl, rfl, .inr ⟨by decide, by decide⟩, _, rfl, _, _, rfl, rfl, _, 2147483587, rfl, rfl, (by show (0 : Int) < _; decide), _, 64, rfl, rfl, ⟨by decide, by decide⟩, .int m, rfl, _, m, rfl, rfl, (by show (0 : Int) < _; omega), ?_⟩
      generalize (_ : Int) / 64 = u
      obtain ⟨r, e, lr⟩ := md u
      show Q (.int (u % (m : Int))) _
      rw [e]
      exact q r _ lr (Fr.refl.put (by rw [hb]; exact True.intro) (.inr ⟨by simp, _, hb⟩)) ⟨x, y, z + 1, hb1, hx, by omega, by omega⟩

/-! ### one of some -/
def sp_of (K : PySem.W.Frag) (T : List (Addr × Str)) : Sp := fun vs H Q _ => ∃ (b a : Addr) (xs : List V) (n : Nat), vs = [.ref b, .ref a] ∧ BoxAt H b n ∧ (SqT K H a xs ∨ (SqL K H a xs ∧ a ≠ b)) ∧ xs ≠ [] ∧ xs.length ≤ 1000 ∧ n ≤ 1000000 ∧ ∀ (i : Nat) r H', xs[i]? = some r → Fr T [b] H H' → BoxAt H' b (n + 1) → Q r H'
theorem ok_of (TX : Txt mg) (D : Df K mg "_law_of" "_law_of" s_law_of ["_law_box_here", "_law_some"]) (G_law_take : Gd P w K mg base CX0 1 "_law_take" ["_law_box_here", "_law_size"] (sp_take T)) : Gd P w K mg base CX0 2 "_law_of" ["_law_box_here", "_law_some"] (sp_of K T) := by
  refine D.ok (k := 1) S_law_of (fun vs H Q E h => ?_) (fun f cdv A outer s H vs Q E hr h => ?_)
  · obtain ⟨b, a, xs, n, rfl, _⟩ := h
    rfl
  · obtain ⟨b, a, xs, n, rfl, hb, ha, h0, hl, hn, q⟩ := h
    -- slots: 0:_law_box_here 1:_law_some
    refine ⟨_, (pss_one (ps_ret (pe_ix (ix_seqK K) (pv 1) (pcl G_law_take rfl (hr.mono (by decide)) p0 (pa_cons (pv 0) (pa_cons (pe_callB call_len_seq rfl TX.n_len (by decide +kernel) (pa_cons (pv 1) pa_nil)) pa_nil))) (fun _ _ => rfl)))), ?_⟩
    have hp : 0 < xs.length := List.length_pos_iff.mpr h0
    refine ⟨.ref a, rfl, .ref b, rfl, .ref a, rfl, a, xs, rfl, ha.elim .inr (fun h => .inl h.1), b, xs.length, n, rfl, hb, hp, hl, hn, fun r H' lr f bx => ?_⟩
    exact ixSeq (f.sqAB ha) (List.getElem?_eq_getElem lr) (q r _ H' (List.getElem?_eq_getElem lr) f bx)

/-! ### strewn -/
theorem lay_list {R : List Str} (h : ∀ s ∈ R, okS s) : Lay (.list (R.map PyData.str)) 1 := by
  obtain ⟨h1, h2⟩ := lay_map PyData.str 0 R fun a ha => lay_str (h a ha).1
  exact ⟨by rw [PyData.canLay0]; exact h1, by rw [PyData.depth]; omega⟩
theorem eqv_nil (R : List Str) : PyData.eqv (.list (R.map PyData.str)) (.list []) = decide (R = []) := by
  rw [PyData.eqv]
  exact eqvAll_map PyData.str eqv_str R []
def sp_strewn (K : PySem.W.Frag) (T : List (Addr × Str)) : Sp := fun vs H Q _ => ∃ (b a : Addr) (S : List Str) (n : Nat), vs = [.ref b, .ref a] ∧ BoxAt H b n ∧ SqA K H a (S.map V.str) ∧ (∀ s ∈ S, okS s) ∧ S.length ≤ 1000 ∧ n ≤ 900000 ∧
  ∀ l (R : List Str) H', H l = none → l ≠ b → (∀ s ∈ R, s ∈ S) → R.length = S.length → (S.Nodup → R.Nodup) → Fr T [b] H H' → BoxAt H' b (n + S.length) → H' l = some (.lst (R.map V.str)) → Q (.ref l) H'
theorem ok_strewn (TX : Txt mg) (D : Df K mg "_law_strewn" "_law_strewn" s_law_strewn ["_law_box_here", "_law_some"]) (G_law_take : Gd P w K mg base CX0 1 "_law_take" ["_law_box_here", "_law_size"] (sp_take T)) : Gd P w K mg base CX0 2 "_law_strewn" ["_law_box_here", "_law_some"] (sp_strewn K T) := by
  refine D.ok (k := 1) S_law_strewn (fun vs H Q E h => ?_) (fun f cdv A outer s H vs Q E hr h => ?_)
  · obtain ⟨b, a, S, n, rfl, _⟩ := h
    rfl
  · obtain ⟨b, a, S, n, rfl, hb, ha, hok, hl, hn, q⟩ := h
    obtain ⟨bxs, hbx⟩ := hb.lst
    -- slots: 0:_law_box_here 1:_law_some 2:_law_rest 3:_law_found
    refine ⟨_, (pss_cons (ps_par (i := 2) (j := 3) rfl S_law_strewn.nd rfl rfl (by decide) rfl rfl (pa_cons (pe_callTy call_list_of rfl TX.n_list (by decide +kernel) (pa_cons (pv 1) pa_nil)) (pa_cons (pe_lst pa_nil) pa_nil)) rfl)
    (pss_cons (ps_while PassesOwn.never (pt_cmpR (op_neDK K (hu64_of hr)) (pv 2) (pe_lst pa_nil) (nomark _))
      (pss_one (ps_expr (pe_bm PySem.F.plainAttrs_list PySem.F.slot_list_append PySem.F.type_list_append mt_append (pv 3) (pa_cons (pe_bm PySem.F.plainAttrs_list PySem.F.slot_list_pop PySem.F.type_list_pop mt_popAt (pv 2) (pa_cons (pcl G_law_take rfl (hr.mono (by decide)) p0 (pa_cons (pv 0) (pa_cons (pe_callB call_len_seq rfl TX.n_len (by decide +kernel) (pa_cons (pv 2) pa_nil)) pa_nil))) pa_nil)) pa_nil)))))
    (pss_one (ps_ret (pv 3))))), ?_⟩
    refine ⟨.ref a, rfl, a, _, rfl, ha, fun r hr2 => ⟨Ob.small' 0 (by decide), fun l hl2 => ⟨_, _, rfl, ?_⟩⟩⟩
    have rl : r ≠ l := ne_of_none upd_same hl2
    have rb : r ≠ b := (ne_of_none hbx hr2).symm
    have f0 : Fr T [b] H (upd (upd H r (.lst (S.map V.str))) l (.lst [])) := (Fr.refl.nw hr2).nw hl2
    have l0 : H l = none := (Fr.refl (T := T) (S := [])).nw hr2 |>.free hl2
    have lb : l ≠ b := (ne_of_none hbx l0).symm
    refine while_by (fun σ H' => σ = [some (.ref b), some (.ref a), some (.ref r), some (.ref l)] ∧ ∃ R F : List Str, H' r = some (.lst (R.map V.str)) ∧ H' l = some (.lst (F.map V.str)) ∧ R.length + F.length = S.length ∧ (R ++ F).Perm S ∧ (∀ s ∈ R, s ∈ S) ∧ (∀ s ∈ F, s ∈ S) ∧ Fr T [b] H H' ∧ BoxAt H' b (n + F.length))
      (fun σ H' => match H' r with | some (.lst xs) => xs.length | _ => 0) ⟨rfl, S, [], upd_old hl2 _ _ upd_same, upd_same, rfl, by rw [List.append_nil], fun s h => h, fun s h => absurd h (by simp), f0, ?_⟩ (fun σ H' h => ?_) (fun σ H' Q1 Q2 hq h => ?_)
    · obtain ⟨x, y, z, e, rest⟩ := hb
      exact ⟨x, y, z, upd_old hl2 _ _ (upd_old hr2 _ _ e), rest⟩
    · obtain ⟨rfl, R, F, h1, h2, h3, hpm, h4, h5, h6, h7⟩ := h
      refine ⟨.ref r, rfl, Ob.small' 0 (by decide), fun p hp => ?_⟩
      have f1 : Fr T [b] H (upd H' p (.lst [])) := h6.nw hp
      have e1 := upd_old (o := .lst []) hp _ _ h1
      have e2 := upd_old (o := .lst []) hp _ _ h2
      refine ⟨.list (R.map PyData.str), .list [], .lst (sqL e1) (dpAll_strs R), .lst (sqL upd_same) .nil, (lay_list fun s hs => hok s (h4 s hs)).shaped (by decide), (lay_list (R := []) fun s h => absurd h (by simp)).shaped (by decide), _, rfl, ?_⟩
      rw [eqv_nil]
      by_cases hR : R = []
      · rw [decide_eq_true hR]
        refine iteF ?_
        subst hR
        refine ⟨.ref l, rfl, q l F _ l0 lb h5 (by simpa using h3) (fun hnd => (List.Perm.nodup_iff (by simpa using hpm)).mpr hnd) f1 ?_ e2⟩
        have h3 : F.length = S.length := by simpa using h3
        rw [← h3]
        exact h7.fr ((Fr.refl (T := T) (S := [])).nw hp)
      · rw [decide_eq_false hR]
        have hp0 : 0 < R.length := List.length_pos_iff.mpr hR
        refine iteT ⟨.ref l, rfl, .inl ⟨rfl, _, sqL e2⟩, .ref r, rfl, .inl ⟨rfl, _, sqL e1⟩, .ref b, rfl, .ref r, rfl, r, _, rfl, .inl (sqL e1), b, R.length, n + F.length, ?_, h7.fr ((Fr.refl (T := T) (S := [])).nw hp), hp0, by omega, by omega, fun i H2 li f2 bx => ?_⟩
        · rw [List.length_map]
        have g1 := f2.lst e1 (by simpa using rb)
        have g2 := f2.lst e2 (by simpa using lb)
        have er : (R.map V.str)[i]? = some (.str R[i]) := by rw [List.getElem?_map, List.getElem?_eq_getElem li]; rfl
        refine ⟨r, _, i, i, .str R[i], rfl, rfl, g1, by omega, by omega, seq_ix (by rw [List.length_map]; exact li), er, ?_⟩
        refine ⟨l, _, _, rfl, rfl, by rw [upd_ne rl.symm]; exact g2, Ob.small _ (by rw [List.length_map]; omega), ?_⟩
        refine ⟨⟨rfl, R.eraseIdx i, F ++ [R[i]], ?_, ?_, ?_, ?_, fun s hs => h4 s (List.mem_of_mem_eraseIdx hs), fun s hs => ?_, ?_, ?_⟩, ?_⟩
        · rw [upd_ne rl, upd_same, erase_map]
        · rw [upd_same, List.map_append]
          rfl
        · rw [List.length_eraseIdx, if_pos li, List.length_append]
          simp
          omega
        · refine List.Perm.trans ?_ hpm
          have p1 : (R.eraseIdx i ++ (F ++ [R[i]])).Perm (R[i] :: (R.eraseIdx i ++ F)) := by
            rw [← List.append_assoc]
            exact List.perm_append_singleton _ _
          exact p1.trans ((erase_perm R i li).append_right F)
        · rcases List.mem_append.mp hs with h | h
          · exact h5 s h
          · rw [List.mem_singleton.mp h]; exact h4 _ (List.getElem_mem li)
        · exact ((f1.trans f2).put (by rw [g1]; exact True.intro) (.inl hr2)).put (by rw [upd_ne rl.symm, g2]; exact True.intro) (.inl l0)
        · obtain ⟨x, y, z, e, a1, a2, a3⟩ := bx
          refine ⟨x, y, z, by rw [upd_ne lb.symm, upd_ne rb.symm]; exact e, a1, a2, ?_⟩
          rw [List.length_append]
          simp
          omega
        · rw [upd_ne rl, upd_same, h1]
          show ((R.map V.str).eraseIdx i).length < (R.map V.str).length
          rw [List.length_eraseIdx, List.length_map, if_pos li]
          omega
    · obtain ⟨v, e, h0, h⟩ := h
      refine ⟨v, e, h0, fun p hp => ?_⟩
      obtain ⟨d, d', c1, c2, c3, c4, k, ek, hk⟩ := h p hp
      exact ⟨d, d', c1, c2, c3, c4, k, ek, hq _ _ hk⟩

/-! ### names -/
def pool : List Str := ["a", "b", "c", "d", "ab", "ba", "abc", "lamp", "zz", "zzzzzz", "m", "mm", "fan", "x"]
theorem pool_nd : pool.Nodup := by decide +kernel
theorem pool_ok : ∀ s ∈ pool, okS s := by
  unfold okS
  decide +kernel
def sp_names (K : PySem.W.Frag) (T : List (Addr × Str)) : Sp := fun vs H Q _ => ∃ (b : Addr) (m n : Nat), vs = [.ref b, .int m] ∧ BoxAt H b n ∧ 0 < m ∧ n ≤ 800000 ∧
  ∀ l (R : List Str) H', H l = none → l ≠ b → (∀ s ∈ R, okS s) → R ≠ [] → R.Nodup → R.length ≤ 14 → Fr T [b] H H' → BoxAt H' b (n + 14) → H' l = some (.lst (R.map V.str)) → Q (.ref l) H'
theorem ok_names (TX : Txt mg) (D : Df K mg "_law_names" "_law_names" s_law_names ["_law_box_here", "_law_size"]) (G_law_strewn : Gd P w K mg base CX0 2 "_law_strewn" ["_law_box_here", "_law_some"] (sp_strewn K T)) : Gd P w K mg base CX0 3 "_law_names" ["_law_box_here", "_law_size"] (sp_names K T) := by
  refine D.ok (k := 2) S_law_names (fun vs H Q E h => ?_) (fun f cdv A outer s H vs Q E hr h => ?_)
  · obtain ⟨b, m, n, rfl, _⟩ := h
    rfl
  · obtain ⟨b, m, n, rfl, hb, hm, hn, q⟩ := h
    obtain ⟨bxs, hbx⟩ := hb.lst
    -- slots: 0:_law_box_here 1:_law_size 2:_law_pool
    refine ⟨_, (pss_cons (ps_set (i := 2) S_law_names.nd rfl (Or.inl rfl) (pe_lst (pa_cons pe_str (pa_cons pe_str (pa_cons pe_str (pa_cons pe_str (pa_cons pe_str (pa_cons pe_str (pa_cons pe_str (pa_cons pe_str (pa_cons pe_str (pa_cons pe_str (pa_cons pe_str (pa_cons pe_str (pa_cons pe_str (pa_cons pe_str pa_nil))))))))))))))))
    (pss_one (ps_ret (pe_callB (cr_sortedAK K) rfl TX.n_sorted (by decide +kernel) (pa_cons (pe_slice sl_list (pcl G_law_strewn rfl (hr.mono (by decide)) p0 (pa_cons (pv 0) (pa_cons (pv 2) pa_nil))) po_none (po_some (pv 1))) pa_nil))))), ?_⟩
    refine ⟨Ob.small' 14 (by decide), fun p hp => ?_⟩
    have f1 : Fr T [] H (upd H p (.lst (pool.map V.str))) := Fr.refl.nw hp
    refine ⟨.ref b, rfl, .ref p, rfl, b, p, pool, n, rfl, hb.fr f1, .inl (sqL upd_same), pool_ok, by decide, by omega, fun l R H2 nl lb hR hRl hRn f2 bx hl => ?_⟩
    refine ⟨.int m, rfl, _, rfl, l, _, rfl, sqL hl, fun c hc => ?_⟩
    have f3 : Fr T [] H2 (upd H2 c (.lst (cutV (R.map V.str) none (some (m : Int))))) := Fr.refl.nw hc
    refine ⟨c, R.take m, rfl, .inl (sqL ?_), fun t ht => ?_⟩
    · rw [upd_same, cut_take, List.map_take]
    have f4 := ((f1.zero.trans f2).trans f3.zero).nw (o := .lst ((sortS (R.take m)).map V.str)) ht
    have bt : t ≠ b := by
      obtain ⟨_, hb3⟩ := (bx.fr f3).lst
      exact (ne_of_none hb3 ht).symm
    refine q t (sortS (R.take m)) _ ((f1.zero (S := [b]) |>.trans f2).trans f3.zero |>.free ht) bt (fun s hs => pool_ok s (hR s (List.mem_of_mem_take (sortS_mem.mp hs)))) (fun e => ?_) ((List.Perm.nodup_iff (sortS_perm _)).mpr (List.Nodup.sublist (List.take_sublist _ _) (hRn pool_nd))) ?_ f4 ?_ upd_same
    · have e2 := congrArg List.length e
      rw [sortS_len, List.length_take, hRl] at e2
      have e3 : pool.length = 14 := rfl
      have e4 : ([] : List Str).length = 0 := rfl
      rw [e3, e4] at e2
      omega
    · rw [sortS_len, List.length_take, hRl]
      have : pool.length = 14 := rfl
      omega
    · exact (bx.fr f3).fr ((Fr.refl (T := T) (S := [])).nw ht)
end
end Ob

/-! LB: the law's panel -/
namespace Ob
open PySem PySem.Spec PyProof.Rows L2 LamX

theorem for_enum {K : PySem.W.Frag} {a : Addr} {xs : List V} {g : TG} {tb : TS} {D : Ends} {σ : L2.St} {H : Hp} (Pv : Nat → L2.St → Hp → Prop) (h0 : Pv 0 σ H) (hl : ∀ i σ H, i ≤ xs.length → Pv i σ H → SqL K H a xs)
    (hs : ∀ i x t σ H, xs[i]? = some x → Pv i σ H → H t = none → g (.ref t) σ (upd H t (.tup [.int (i : Nat), x])) fun σ2 H2 => tb { D with nx := Pv (i + 1), ct := Pv (i + 1), bk := D.nx } σ2 H2) (hd : ∀ σ H, Pv xs.length σ H → D.nx σ H) :
    ∃ W : Nat → Nat → L2.St → Hp → Prop, (∃ m, W 0 m σ H) ∧ ∀ i m σ H, W i m σ H →
      ((Ite K a).stop i H ∧ D.nx σ H) ∨ ((Ite K a).go i H ∧ ∃ N : L2.St → Hp → Prop, (∀ σ' H', N σ' H' → ∃ m', m' < m ∧ W (i + 1) m' σ' H') ∧ ∀ x H', (Ite K a).yld i H x H' → g x σ H' fun σ2 H2 => tb { D with nx := N, ct := N, bk := D.nx } σ2 H2) := by
  refine ⟨fun i m σ H => m = xs.length - i ∧ i ≤ xs.length ∧ Pv i σ H, ⟨xs.length, by simp, Nat.zero_le _, h0⟩, ?_⟩
  rintro i m σ H ⟨rfl, hi, p⟩
  have q := hl i σ H hi p
  by_cases hlt : i < xs.length
  · refine .inr ⟨⟨xs, xs[i], q, by simp [hlt]⟩, Pv (i + 1), fun σ' H' p' => ⟨xs.length - (i + 1), by omega, rfl, hlt, p'⟩, fun v H' y => ?_⟩
    obtain ⟨t, x, rfl, nt, rfl, e⟩ := y
    exact hs i x t σ H (e _ q) p nt
  · have e : i = xs.length := by omega
    subst e
    exact .inl ⟨⟨xs, q, Nat.le_refl _⟩, hd _ _ p⟩
theorem if_join {c : TT} {t : TS} {D : Ends} {σ : L2.St} {H : Hp} (J J2 : L2.St → Hp → Prop) (hm : ∀ σ H, J σ H → J2 σ H) (hc : ∀ R : Bool → Hp → Prop, (∀ k H1, J σ H1 → R k H1) → c σ H R) (ht : ∀ H1, J σ H1 → (∀ σ' H', J2 σ' H' → D.nx σ' H') → t D σ H1) (hn : ∀ σ' H', J2 σ' H' → D.nx σ' H') : tIfS c t tNext D σ H := by
  refine hc _ fun k H1 j => ?_
  cases k with
  | true => exact iteT (ht H1 j hn)
  | false => exact iteF (hn _ _ (hm _ _ j))
theorem cut_mem {xs : List V} {lo hi : Option Int} {v : V} (h : v ∈ cutV xs lo hi) : v ∈ xs := by
  unfold cutV at h
  exact List.mem_of_mem_drop (List.mem_of_mem_take h)
def odds : List Int := [0, 2, 3, 5, 1, 0, 0, 0]
theorem odds_ok : ∀ k < 8, ∃ v, odds[k]? = some v ∧ 0 ≤ v ∧ v ≤ 5 := by
  intro k hk
  match k, hk with
  | 0, _ => exact ⟨_, rfl, by decide, by decide⟩
  | 1, _ => exact ⟨_, rfl, by decide, by decide⟩
  | 2, _ => exact ⟨_, rfl, by decide, by decide⟩
  | 3, _ => exact ⟨_, rfl, by decide, by decide⟩
  | 4, _ => exact ⟨_, rfl, by decide, by decide⟩
  | 5, _ => exact ⟨_, rfl, by decide, by decide⟩
  | 6, _ => exact ⟨_, rfl, by decide, by decide⟩
  | 7, _ => exact ⟨_, rfl, by decide, by decide⟩
  | k + 8, h => omega
theorem mem_pick {R : List Str} {c : Bool} {i j : Str} (hi : i ∈ R) (hj : j ∈ R) : (if c = true then j else i) ∈ R := by
  split
  · exact hj
  · exact hi
/-- a panel that may be -/
structure PanOk (P : Pan) : Prop where
  sw : ∀ s ∈ P.1, okS s
  mem : Mem P
  ne : P.1 ≠ []
  nd : P.1.Nodup
  l1 : P.1.length ≤ 14
  l2 : P.2.length ≤ 400
/-- between the panel's steps: the pairs at slot 4 -/
structure JQ (K : PySem.W.Frag) (T : List (Addr × Str)) (H : Hp) (b l lo : Addr) (kd n m : Nat) (R O : List Str) (z6 z7 z8 z9 : Option V) (σ : L2.St) (H' : Hp) : Prop where
  ex : ∃ (p : Addr) (ps : List Pr) (vs : List V), σ = [some (.ref b), some (.int 7), some (.ref l), some (.int kd), some (.ref p), some (.ref lo), z6, z7, z8, z9] ∧ H' p = some (.lst vs) ∧ DpAll K H' vs (ps.map prD) ∧ (∀ q ∈ ps, q.1 ∈ R ∧ q.2 ∈ R) ∧ ps.length ≤ m ∧ H p = none ∧ p ≠ l ∧ p ≠ lo
  bx : BoxAt H' b (n + m)
  fr : Fr T [b] H H'
  nm : H' l = some (.lst (R.map V.str))
  od : H' lo = some (.lst (O.map V.str))
def JP (K : PySem.W.Frag) (T : List (Addr × Str)) (H : Hp) (b l lo : Addr) (kd n m : Nat) (R O : List Str) (σ : L2.St) (H' : Hp) : Prop := ∃ z6 z7 z8 z9, JQ K T H b l lo kd n m R O z6 z7 z8 z9 σ H'
section
variable {K : PySem.W.Frag} {T : List (Addr × Str)} {H H' H2 : Hp} {b l lo : Addr} {kd n m m' : Nat} {R O : List Str} {z6 z7 z8 z9 : Option V} {σ : L2.St}
theorem JQ.fr0 (h : JQ K T H b l lo kd n m R O z6 z7 z8 z9 σ H') (f : Fr T [] H' H2) : JQ K T H b l lo kd n m R O z6 z7 z8 z9 σ H2 := by
  obtain ⟨⟨p, ps, vs, e, h1, h2, h3⟩, h4, h5, h6, h7⟩ := h
  exact ⟨⟨p, ps, vs, e, f.lst h1, f.prs h2, h3⟩, h4.fr f, h5.trans f.zero, f.lst h6, f.lst h7⟩
theorem JQ.more (h : JQ K T H b l lo kd n m R O z6 z7 z8 z9 σ H') (hle : m ≤ m') : JQ K T H b l lo kd n m' R O z6 z7 z8 z9 σ H' := by
  obtain ⟨⟨p, ps, vs, e, h1, h2, h3, h4, h5⟩, h6, h7, h8, h9⟩ := h
  exact ⟨⟨p, ps, vs, e, h1, h2, h3, by omega, h5⟩, h6.more (by omega), h7, h8, h9⟩
theorem JP.more (h : JP K T H b l lo kd n m R O σ H') (hle : m ≤ m') : JP K T H b l lo kd n m' R O σ H' := let ⟨a, b, c, d, e⟩ := h; ⟨a, b, c, d, e.more hle⟩
end
theorem JP.fr0 {K : PySem.W.Frag} {T : List (Addr × Str)} {H H' H2 : Hp} {b l lo : Addr} {kd n m : Nat} {R O : List Str} {σ : L2.St} (h : JP K T H b l lo kd n m R O σ H') (f : Fr T [] H' H2) : JP K T H b l lo kd n m R O σ H2 := let ⟨a, b, c, d, e⟩ := h; ⟨a, b, c, d, e.fr0 f⟩
theorem andV_join {ta tb : TE} {σ : L2.St} {H : Hp} {Q : VK} (J : Hp → Prop) (ha : ∀ R : VK, (∀ k, R (.bl k) H) → ta σ H R) (hb : ∀ R : VK, (∀ k H1, J H1 → R (.bl k) H1) → tb σ H R) (hJ : J H) (h : ∀ k H1, J H1 → Q (.bl k) H1) : tAndV ta tb σ H Q := by
  refine ha _ fun k => ⟨k, rfl, ?_⟩
  cases k with
  | true => exact iteT (hb _ h)
  | false => exact iteF (h _ _ hJ)

section
variable {P : Program} {w : World} {K : PySem.W.Frag} {mg : Str → Option Value} {base : Heap} {T : List (Addr × Str)}
abbrev s_law_panel : Stmt := top 35
theorem S_law_panel : FnScope ["_law_box_here", "_law_most", "_law_names_here", "_law_kind", "_law_pairs", "_law_order", "_law_at", "_law_one", "_law_two", "_law_odds"] ["_law_box_here", "_law_most"] (defScope s_law_panel) := ⟨rfl, rfl, rfl, by decide +kernel, rfl, by decide +kernel, by decide +kernel⟩
def sp_lpanel (K : PySem.W.Frag) (T : List (Addr × Str)) : Sp := fun vs H Q _ => ∃ (b : Addr) (n : Nat), vs = [.ref b, .int 7] ∧ BoxAt H b n ∧ n ≤ 700000 ∧
  ∀ v P H', Fr T [b] H H' → BoxAt H' b (n + 300) → Dp K H' v (panD P) → PanOk P → Q v H'
theorem ok_lpanel (TX : Txt mg) (D : Df K mg "_law_panel" "_law_panel" s_law_panel ["_law_box_here", "_law_most"]) (G_law_take : Gd P w K mg base CX0 1 "_law_take" ["_law_box_here", "_law_size"] (sp_take T)) (G_law_strewn : Gd P w K mg base CX0 2 "_law_strewn" ["_law_box_here", "_law_some"] (sp_strewn K T)) (G_law_names : Gd P w K mg base CX0 3 "_law_names" ["_law_box_here", "_law_size"] (sp_names K T)) :
    Gd P w K mg base CX0 4 "_law_panel" ["_law_box_here", "_law_most"] (sp_lpanel K T) := by
  refine D.ok (k := 3) S_law_panel (fun vs H Q E h => ?_) (fun f cdv A outer s H vs Q E hr h => ?_)
  · obtain ⟨b, n, rfl, _⟩ := h
    rfl
  · obtain ⟨b, n, rfl, hb, hn, q⟩ := h
    obtain ⟨bxs, hbx⟩ := hb.lst
    -- slots: 0:_law_box_here 1:_law_most 2:_law_names_here 3:_law_kind 4:_law_pairs 5:_law_order* 6:_law_at 7:_law_one 8:_law_two 9:_law_odds
    refine ⟨_, (pss_cons (ps_par3 (i := 2) (j := 3) (l := 4) rfl S_law_panel.nd rfl rfl rfl (by decide) (by decide) (by decide) rfl rfl rfl (pa_cons (pcl G_law_names rfl (hr.mono (by decide)) p0 (pa_cons (pv 0) (pa_cons (pe_op op_add pe_int (pcl G_law_take rfl (hr.mono (by decide)) p0 (pa_cons (pv 0) (pa_cons (pv 1) pa_nil)))) pa_nil))) (pa_cons (pcl G_law_take rfl (hr.mono (by decide)) p0 (pa_cons (pv 0) (pa_cons pe_int pa_nil))) (pa_cons (pe_lst pa_nil) pa_nil))) rfl)
    (pss_cons (ps_set (i := 5) S_law_panel.nd rfl (Or.inr rfl) (pcl G_law_strewn rfl (hr.mono (by decide)) p0 (pa_cons (pv 0) (pa_cons (pv 2) pa_nil))))
    (pss_cons (ps_for PassesOwn.never rfl (pi_enum rfl TX.n_enumerate (pa_cons (pv 2) pa_nil)) (pg_tup rfl (pgs_cons (pg_name (i := 6) S_law_panel.nd rfl (Or.inl rfl)) (pgs_cons (pg_name (i := 7) S_law_panel.nd rfl (Or.inl rfl)) pgs_nil)))
      (pss_one (ps_for PassesOwn.never rfl (pi_list (pe_slice sl_list (pv 2) (po_some (pe_op op_add (pv 6) pe_int)) po_none)) (pg_name (i := 8) S_law_panel.nd rfl (Or.inl rfl))
        (pss_cons (ps_set (i := 9) S_law_panel.nd rfl (Or.inl rfl) (pe_ix (ix_listK K) (pe_lst (pa_cons pe_int (pa_cons pe_int (pa_cons pe_int (pa_cons pe_int (pa_cons pe_int (pa_cons pe_int (pa_cons pe_int (pa_cons pe_int pa_nil))))))))) (pv 3) (fun _ _ => rfl)))
        (pss_one (ps_set (i := 4) S_law_panel.nd rfl (Or.inl rfl) (pe_op op_cat (pv 4) (pe_op op_rep (pe_lst (pa_cons (pe_tup (pa_cons (pv 7) (pa_cons (pv 8) pa_nil))) pa_nil)) (pe_callTy call_int1 rfl TX.n_int (by decide +kernel) (pa_cons (pe_and (pe_cmpR op_gt (pv 9) pe_int (nomark _)) (pe_one (pe_cmpR op_eq (pcl G_law_take rfl (hr.mono (by decide)) p0 (pa_cons (pv 0) (pa_cons (pe_callB (call_max2 rfl) rfl TX.n_max (by decide +kernel) (pa_cons pe_int (pa_cons (pv 9) pa_nil))) pa_nil))) pe_int (nomark _)))) pa_nil))))))))))
    (pss_cons (ps_if (pt_cmpR (op_in_seqK K) (pv 3) (pe_tup (pa_cons pe_int (pa_cons pe_int pa_nil))) rfl) (pss_one (ps_setLc (i := 4) (own := [("_law_one", 7), ("_law_two", 8)]) rfl S_law_panel.nd rfl rfl (sw_true rfl rfl rfl (by decide +kernel)) (pi_zip rfl TX.n_zip (pa_cons (pv 5) (pa_cons (pe_slice sl_list (pv 5) (po_some pe_int) po_none) pa_nil))) (blkOk_by (N := ["_law_box_here", "_law_most", "_law_names_here", "_law_kind", "_law_pairs", "_law_order", "_law_at", "_law_one", "_law_two", "_law_odds"]) (sc := defScope s_law_panel) (by decide +kernel)) (fun _ _ _ _ _ => (pg_tupK K 2 rfl (pgs_cons (pg_name (i := 7) S_law_panel.nd rfl (Or.inl rfl)) (pgs_cons (pg_name (i := 8) S_law_panel.nd rfl (Or.inl rfl)) pgs_nil)))) (fun _ _ _ _ _ => pts_nil) (fun _ _ _ _ _ => (pe_tup (pa_cons (pe_callB (call_min2S rfl) rfl TX.n_min (by decide +kernel) (pa_cons (pv 7) (pa_cons (pv 8) pa_nil))) (pa_cons (pe_callB (call_max2S rfl) rfl TX.n_max (by decide +kernel) (pa_cons (pv 7) (pa_cons (pv 8) pa_nil))) pa_nil)))))) pss_nil)
    (pss_cons (ps_if (PW.pt (pw_and (pt_cmpR op_eq (pv 3) pe_int (nomark _)) (pw_and1 (pt_cmpR op_gt (pe_callB call_len_seq rfl TX.n_len (by decide +kernel) (pa_cons (pv 2) pa_nil)) pe_int (nomark _))))) (pss_one (ps_expr (pe_bm PySem.F.plainAttrs_list PySem.F.slot_list_append PySem.F.type_list_append mt_append (pv 4) (pa_cons (pe_tup (pa_cons (pe_callB (call_min2S rfl) rfl TX.n_min (by decide +kernel) (pa_cons (pe_ix (ix_listK K) (pv 5) pe_int (fun _ _ => rfl)) (pa_cons (pe_ix (ix_listK K) (pv 5) (pe_un un_neg pe_int) (fun _ _ => rfl)) pa_nil))) (pa_cons (pe_callB (call_max2S rfl) rfl TX.n_max (by decide +kernel) (pa_cons (pe_ix (ix_listK K) (pv 5) pe_int (fun _ _ => rfl)) (pa_cons (pe_ix (ix_listK K) (pv 5) (pe_un un_neg pe_int) (fun _ _ => rfl)) pa_nil))) pa_nil))) pa_nil)))) pss_nil)
    (pss_cons (ps_if (pt_cmpR op_eq (pv 3) pe_int (nomark _)) (pss_one (ps_setLc (i := 4) (own := [("_law_two", 8)]) rfl S_law_panel.nd rfl rfl (sw_true rfl rfl rfl (by decide +kernel)) (pi_list (pe_slice sl_list (pv 5) (po_some pe_int) po_none)) (blkOk_by (N := ["_law_box_here", "_law_most", "_law_names_here", "_law_kind", "_law_pairs", "_law_order", "_law_at", "_law_one", "_law_two", "_law_odds"]) (sc := defScope s_law_panel) (by decide +kernel)) (fun _ _ _ _ _ => (pg_name (i := 8) S_law_panel.nd rfl (Or.inl rfl))) (fun _ _ _ _ _ => pts_nil) (fun _ _ _ _ _ => (pe_tup (pa_cons (pe_callB (call_min2S rfl) rfl TX.n_min (by decide +kernel) (pa_cons (pe_ix (ix_listK K) (pv 5) pe_int (fun _ _ => rfl)) (pa_cons (pv 8) pa_nil))) (pa_cons (pe_callB (call_max2S rfl) rfl TX.n_max (by decide +kernel) (pa_cons (pe_ix (ix_listK K) (pv 5) pe_int (fun _ _ => rfl)) (pa_cons (pv 8) pa_nil))) pa_nil)))))) pss_nil)
    (pss_one (ps_ret (pe_tup (pa_cons (pe_callTy (call_tuple_ofK K) rfl TX.n_tuple (by decide +kernel) (pa_cons (pv 2) pa_nil)) (pa_cons (pe_callTy (call_tuple_ofK K) rfl TX.n_tuple (by decide +kernel) (pa_cons (pe_callB (cr_sortedPAK K) rfl TX.n_sorted (by decide +kernel) (pa_cons (pv 4) pa_nil)) pa_nil)) pa_nil))))))))))), ?_⟩
    refine ⟨.ref b, rfl, .ref b, rfl, .int 7, rfl, b, 7, n, rfl, hb, by decide, by decide, by omega, fun r0 H1 l0 f1 bx1 => ⟨1, r0, rfl, rfl, b, 1 + r0, n + 1, rfl, bx1, by omega, by omega, fun l R H2 nl lb hR hR0 hRn hRl f2 bx2 hl => ?_⟩⟩
    refine ⟨.ref b, rfl, b, 8, n + 1 + 14, rfl, bx2, by decide, by decide, by omega, fun kd H3 lk f3 bx3 => ⟨Ob.small' 0 (by decide), fun p hp => ⟨_, _, _, rfl, ?_⟩⟩⟩
    have hl3 := f3.lst hl (by simpa using lb)
    have F3 := (f1.trans f2).trans f3
    have f4 : Fr T [] H3 (upd H3 p (.lst [])) := Fr.refl.nw hp
    have pl : p ≠ l := (ne_of_none hl3 hp).symm
    refine ⟨.ref b, rfl, .ref l, rfl, b, l, R, n + 1 + 14 + 1, rfl, bx3.fr f4, .inl (sqL (f4.lst hl3)), hR, by omega, by omega, fun lo O H5 nlo lob hO hOl _ f5 bx5 hlo => ?_⟩
    have hlp : (upd H3 p (.lst [])) p = some (.lst []) := upd_same
    have pb : p ≠ b := by
      obtain ⟨_, hb3⟩ := bx3.lst
      exact (ne_of_none hb3 hp).symm
    have plo : p ≠ lo := ne_of_none hlp nlo
    have F5 := (F3.trans f4.zero).trans f5
    have hO2 : ∀ s ∈ O, s ∈ R := hO
    have hO0 : O ≠ [] := fun e => hR0 (List.length_eq_zero_iff.mp (by rw [← hOl, e]; rfl))
    have J5 : JP K T H b l lo kd (n + 40) 0 R O [some (.ref b), some (.int 7), some (.ref l), some (.int kd), some (.ref p), some (.ref lo), none, none, none, none] H5 :=
      ⟨none, none, none, none, ⟨p, [], [], rfl, f5.lst hlp (by simpa using pb), .nil, fun q h => absurd h (by simp), by decide, F3.free hp, pl, plo⟩, bx5.more (by omega), F5, f5.lst (f4.lst hl3) (by simpa using lb), hlo⟩
    dsimp only [gName]
    refine tSeqI ⟨.ref l, rfl, l, _, rfl, sqL (f5.lst (f4.lst hl3) (by simpa using lb)), ?_⟩
    refine for_enum (xs := R.map V.str) (fun i σ H' => JP K T H b l lo kd (n + 40) (14 * i) R O σ H') J5 (fun i σ H' _ h => ?_) (fun i x t σ H' hx h ht => ?_) (fun σ H' h => ?_)
    · obtain ⟨_, _, _, _, h⟩ := h
      exact sqL h.nm
    · rw [List.getElem?_map] at hx
      cases he : R[i]? with
      | none => rw [he] at hx; cases hx
      | some one =>
        rw [he] at hx
        cases hx
        have h1R : one ∈ R := List.mem_of_getElem? he
        have li := (List.getElem?_eq_some_iff.mp he).1
        obtain ⟨z6, z7, z8, z9, h⟩ := h
        have h' := h.fr0 (Fr.refl.nw (o := .tup [.int (i : Nat), .str one]) ht)
        obtain ⟨⟨p, ps, vs, rfl, k1, k2, k3, k4, k5, k6, k7⟩, bx, fr, nm, od⟩ := h'
        refine ⟨t, _, rfl, sqT upd_same, rfl, _, _, rfl, _, _, rfl, rfl, ?_⟩
        let xs2 := cutV (R.map V.str) (some ((i : Int) + 1)) none
        have lx2 : xs2.length ≤ 14 := Nat.le_trans (cutV_length _ _ _) (by rw [List.length_map]; exact hRl)
        refine ⟨.ref l, rfl, .int i, rfl, i, 1, rfl, rfl, (i : Int) + 1, rfl, l, _, rfl, sqL nm, fun c hc => ⟨c, rfl, ⟨_, sqL upd_same⟩, ?_⟩⟩
        refine for_list (xs := xs2) (fun j σ H' => ∃ z8 z9, JQ K T H b l lo kd (n + 40) (14 * i + j) R O (some (.int i)) (some (.str one)) z8 z9 σ H' ∧ H' c = some (.lst xs2)) ⟨z8, z9, JQ.fr0 (T := T) ⟨⟨p, ps, vs, rfl, k1, k2, k3, k4, k5, k6, k7⟩, bx, fr, nm, od⟩ (Fr.refl.nw hc), upd_same⟩ (fun j σ H' _ h => ?_) (fun j x σ H' hx h => ?_) (fun σ H' h => ?_)
        · obtain ⟨_, _, _, h⟩ := h
          exact sqL h
        · obtain ⟨z8, z9, h, hcc⟩ := h
          obtain ⟨two, h2R, rfl⟩ : ∃ two ∈ R, x = .str two := by
            obtain ⟨y, hy, e⟩ := List.mem_map.mp (cut_mem (List.mem_of_getElem? hx))
            exact ⟨y, hy, e.symm⟩
          have lj := (List.getElem?_eq_some_iff.mp hx).1
          obtain ⟨⟨p, ps, vs, rfl, k1, k2, k3, k4, k5, k6, k7⟩, bx, fr, nm, od⟩ := h
          obtain ⟨v, ev, v0, v5⟩ := odds_ok kd lk
          refine ⟨Ob.small' 8 (by decide), fun o ho => ⟨.int kd, rfl, o, _, kd, .int v, rfl, rfl, sqL upd_same, atI_nat (xs := odds.map V.int) (by rw [List.getElem?_map, ev]; rfl), ?_⟩⟩
          have g1 : Fr T [] H' (upd H' o (.lst (odds.map V.int))) := Fr.refl.nw ho
          refine ⟨.ref p, rfl, .str one, rfl, .str two, rfl, Ob.small' 2 (by decide), fun t2 ht2 => ⟨Ob.small' 1 (by decide), fun l2 hl2 => ?_⟩⟩
          have g2 : Fr T [] (upd H' o (.lst (odds.map V.int))) (upd (upd (upd H' o (.lst (odds.map V.int))) t2 (.tup [.str one, .str two])) l2 (.lst [.ref t2])) := (Fr.refl.nw ht2).nw hl2
          have ct2 : (upd (upd (upd H' o (.lst (odds.map V.int))) t2 (.tup [.str one, .str two])) l2 (.lst [.ref t2])) t2 = some (.tup [.str one, .str two]) := upd_old hl2 _ _ upd_same
          have bl2 : l2 ≠ b := by
            obtain ⟨_, hb3⟩ := ((bx.fr g1).fr ((Fr.refl (T := T) (S := [])).nw ht2 (o := .tup [.str one, .str two]))).lst
            exact (ne_of_none hb3 hl2).symm
          refine tCBI (tConsI (andV_join (fun H1 => Fr T [b] (upd (upd (upd H' o (.lst (odds.map V.int))) t2 (.tup [.str one, .str two])) l2 (.lst [.ref t2])) H1 ∧ BoxAt H1 b (n + 40 + (14 * i + j) + 1)) (fun R h => ⟨.int v, rfl, v, 0, rfl, rfl, h _⟩) (fun R h => ?_) ⟨.refl, ((bx.fr g1).fr g2).more (by omega)⟩ fun k H6 hJ => ?_))
          · have em : (if v > 1 then v else (1 : Int)) = ((if v > 1 then v else (1 : Int)).toNat : Int) := by split <;> omega
            refine ⟨.ref b, rfl, .int v, rfl, 1, v, rfl, b, (if v > 1 then v else (1 : Int)).toNat, n + 40 + (14 * i + j), ?_, (bx.fr g1).fr g2, ?_, ?_, ?_, fun r H6 lr f6 bx6 => ⟨rfl, h _ _ ⟨f6, bx6⟩⟩⟩
            · rw [← em]
            · split <;> omega
            · split <;> omega
            · omega
          · obtain ⟨f6, bx6⟩ := hJ
            have l26 := f6.lst (upd_same (H := upd (upd H' o (.lst (odds.map V.int))) t2 (.tup [.str one, .str two])) (a := l2) (o := .lst [.ref t2])) (by simpa using bl2)
            have G : Fr T [b] H' H6 := (g1.zero.trans g2.zero).trans f6
            have pnb : p ∉ [b] := by
              intro z
              rw [List.mem_singleton.mp z, hbx] at k5
              cases k5
            have lnb : l ∉ [b] := by simpa using lb
            have lonb : lo ∉ [b] := by simpa using lob
            have p6 := G.lst k1 pnb
            have cnb : c ∉ [b] := by
              intro z
              rw [List.mem_singleton.mp z] at hcc
              obtain ⟨x0, y0, z0, e0, _⟩ := bx
              rw [hcc] at e0
              have e1 := Option.some.inj e0
              injection e1 with e1
              have m0 : V.int x0 ∈ R.map V.str := cut_mem (show V.int x0 ∈ xs2 by rw [e1]; simp)
              obtain ⟨_, _, e2⟩ := List.mem_map.mp m0
              cases e2
            refine tNilI (.inr ⟨k, rfl, l2, (if k = true then 1 else 0), [.ref t2], rfl, rfl, l26, ?_, ?_, ?_, fun q hq => ?_⟩)
            · cases k <;> decide
            · cases k <;> decide
            · cases k
              · exact Ob.small' 0 (by decide)
              · exact Ob.small' 1 (by decide)
            have fq : Fr T [] H6 (upd H6 q (.lst (List.replicate (if k = true then 1 else 0 : Int).toNat [V.ref t2]).flatten)) := Fr.refl.nw hq
            have lv := dpAll_len k2
            rw [List.length_map] at lv
            refine ⟨p, q, vs, _, rfl, rfl, fq.lst p6, upd_same, Ob.small' _ ?_, fun r hr2 => ?_⟩
            · cases k <;> (simp; omega)
            have fr2 : Fr T [] (upd H6 q (.lst (List.replicate (if k = true then 1 else 0 : Int).toNat [V.ref t2]).flatten)) (upd (upd H6 q (.lst (List.replicate (if k = true then 1 else 0 : Int).toNat [V.ref t2]).flatten)) r (.lst (vs ++ (List.replicate (if k = true then 1 else 0 : Int).toNat [V.ref t2]).flatten))) := Fr.refl.nw hr2
            have GG := (G.trans fq.zero).trans fr2.zero
            have FF := fr.trans GG
            have hrl : r ≠ l := (ne_of_none (fq.lst (G.lst nm lnb)) hr2).symm
            have hrlo : r ≠ lo := (ne_of_none (fq.lst (G.lst od lonb)) hr2).symm
            refine ⟨some (.str two), some (.int v), ⟨⟨r, if k = true then ps ++ [(one, two)] else ps, _, rfl, upd_same, ?_, fun z hz => ?_, ?_, (fr.trans (G.trans fq.zero)).free hr2, hrl, hrlo⟩, ?_, FF, fr2.lst (fq.lst (G.lst nm lnb)), fr2.lst (fq.lst (G.lst od lonb))⟩, fr2.lst (fq.lst (G.lst hcc cnb))⟩
            · have base := fr2.prs (fq.prs (G.prs k2))
              cases k with
              | false =>
                show DpAll K _ (vs ++ []) (ps.map prD)
                rw [List.append_nil]
                exact base
              | true =>
                show DpAll K _ (vs ++ [V.ref t2]) ((ps ++ [(one, two)]).map prD)
                rw [List.map_append]
                exact dpAll_app base (.cons (dp_pr_of (fr2.sqT (fq.sqT (f6.sqT (sqT ct2))))) .nil)
            · cases k with
              | false => exact k3 z hz
              | true =>
                rcases List.mem_append.mp hz with h | h
                · exact k3 z h
                · rw [List.mem_singleton.mp h]
                  exact ⟨h1R, h2R⟩
            · cases k with
              | false => show ps.length ≤ _; omega
              | true =>
                show (ps ++ [(one, two)]).length ≤ _
                rw [List.length_append]
                simp
                omega
            · exact ((bx6.fr fq).fr fr2).more (by omega)
        · obtain ⟨z8, z9, h, _⟩ := h
          exact ⟨_, _, _, _, h.more (by omega)⟩
    · rw [List.length_map] at h
      have J6 : JP K T H b l lo kd (n + 40) 196 R O σ H' := h.more (by omega)
      dsimp only
      obtain ⟨s1, O1, eO1⟩ : ∃ s1 O1, O = s1 :: O1 := by
        cases O with
        | nil => exact absurd rfl hO0
        | cons x r => exact ⟨x, r, rfl⟩
      obtain ⟨O2, s2, eO2⟩ : ∃ O2 s2, O = O2 ++ [s2] := ⟨_, _, (List.dropLast_concat_getLast hO0).symm⟩
      have m1 : s1 ∈ R := hO2 s1 (by rw [eO1]; simp)
      have m2 : s2 ∈ R := hO2 s2 (by rw [eO2]; simp)
      have a0 : atI (O.map V.str) 0 = some (.str s1) := atI_nat (j := 0) (by rw [eO1]; rfl)
      have a1 : atI (O.map V.str) (-1) = some (.str s2) := by
        rw [eO2, List.map_append]
        exact atI_last _ _
      have lO : O.length ≤ 14 := by rw [hOl]; exact hRl
      -- kind in (5, 6)
      refine tSeqI (if_join (JP K T H b l lo kd (n + 40) 196 R O) (JP K T H b l lo kd (n + 40) 196 R O) (fun _ _ h => h) (fun R1 hR1 => ?_) (fun H1 hJ hn => ?_) fun σ H' J7 => ?_)
      · obtain ⟨z6, z7, z8, z9, ⟨p, ps, vs, rfl, _⟩, _⟩ := id J6
        exact ⟨.int kd, rfl, Ob.small' 2 (by decide), fun t ht => ⟨t, _, rfl, .inr (sqT upd_same), rfl, rfl, _, rfl, hR1 _ _ (J6.fr0 (Fr.refl.nw ht))⟩⟩
      · obtain ⟨z6, z7, z8, z9, ⟨⟨p, ps, vs, rfl, k1, k2, k3, k4, k5, k6, k7⟩, bx, fr, nm, od⟩⟩ := id hJ
        refine ⟨.ref lo, rfl, .ref lo, rfl, 1, rfl, lo, _, rfl, sqL od, fun c hc => ?_⟩
        have fc : Fr T [] H1 (upd H1 c (.lst (cutV (O.map V.str) (some 1) none))) := Fr.refl.nw hc
        refine ⟨lo, c, O.map V.str, (O.map V.str).drop 1, rfl, sqL (fc.lst od), ?_, fun D hD => ?_⟩
        · refine sqL ?_
          rw [upd_same, cut_drop1]
        let H3 : Hp := upd H1 c (.lst (cutV (O.map V.str) (some 1) none))
        have bx3 := bx.fr fc
        refine lc_zip (xs := O.map V.str) (ys := (O.map V.str).drop 1) (n := O.length - 1) (by rw [List.length_drop, List.length_map]; omega) (fun i H' => Fr T [] H3 H' ∧ ∃ acc ps, H' D = some (.lst acc) ∧ DpAll K H' acc (ps.map prD) ∧ (∀ q ∈ ps, q.1 ∈ R ∧ q.2 ∈ R) ∧ ps.length ≤ i)
          ⟨Fr.refl.nw hD, [], [], upd_same, .nil, fun q h => absurd h (by simp), Nat.le_refl _⟩ (fun i H' _ h => ⟨h.1.sqL (sqL (fc.lst od)), h.1.sqL (sqL (by show H3 c = _; rw [show H3 c = _ from upd_same, cut_drop1]))⟩) (fun i x y t H' hx hy h ht => ?_) (fun H' h => ?_)
        · obtain ⟨f4, acc, ps2, c1, c2, c3, c4⟩ := h
          obtain ⟨u1, hu1, rfl⟩ := List.mem_map.mp (List.mem_of_getElem? hx)
          obtain ⟨u2, hu2, rfl⟩ := List.mem_map.mp (List.mem_of_mem_drop (List.mem_of_getElem? hy))
          have li : i < O.length := by
            have := (List.getElem?_eq_some_iff.mp hx).1
            rwa [List.length_map] at this
          refine ⟨t, _, rfl, sqT upd_same, rfl, _, _, rfl, _, _, rfl, rfl, rfl, ?_⟩
          simp only [tYes, if_true]
          refine ⟨.str u1, rfl, .str u2, rfl, u1, u2, rfl, .str u1, rfl, .str u2, rfl, u1, u2, rfl, Ob.small' 2 (by decide), fun u hu => ?_⟩
          have f5 : Fr T [] H' (upd (upd H' t (.tup [.str u1, .str u2])) u (.tup [.str (if sltB u2 u1 = true then u2 else u1), .str (if sltB u1 u2 = true then u2 else u1)])) := (Fr.refl.nw ht).nw hu
          have c5 := f5.lst c1
          have la := dpAll_len c2
          rw [List.length_map] at la
          have f6 : Fr T [D] (upd (upd H' t (.tup [.str u1, .str u2])) u (.tup [.str (if sltB u2 u1 = true then u2 else u1), .str (if sltB u1 u2 = true then u2 else u1)])) (upd (upd (upd H' t (.tup [.str u1, .str u2])) u (.tup [.str (if sltB u2 u1 = true then u2 else u1), .str (if sltB u1 u2 = true then u2 else u1)])) D (.lst (acc ++ [.ref u]))) := Fr.refl.put (by rw [c5]; exact True.intro) (.inr ⟨by simp, _, c5⟩)
          refine ⟨acc, c5, Ob.small _ (by omega), (f4.trans f5).put (by rw [c5]; exact True.intro) (.inl hD), _, ps2 ++ [(if sltB u2 u1 = true then u2 else u1, if sltB u1 u2 = true then u2 else u1)], upd_same, ?_, fun z hz => ?_, ?_⟩
          · rw [List.map_append]
            exact dpAll_app (f6.prs (f5.prs c2)) (.cons (f6.dpr (dp_pr_of (sqT upd_same))) .nil)
          · rcases List.mem_append.mp hz with h | h
            · exact c3 z h
            · rw [List.mem_singleton.mp h]
              exact ⟨mem_pick (hO2 _ hu1) (hO2 _ hu2), mem_pick (hO2 _ hu1) (hO2 _ hu2)⟩
          · rw [List.length_append]
            simp
            omega
        · obtain ⟨f4, acc, ps2, c1, c2, c3, c4⟩ := h
          have F4 := (fc.trans f4)
          refine hn _ _ ⟨z6, z7, z8, z9, ⟨D, ps2, acc, rfl, c1, c2, c3, by omega, (fr.trans fc.zero).free hD, (ne_of_none (fc.lst nm) hD).symm, (ne_of_none (fc.lst od) hD).symm⟩, bx.fr F4, fr.trans F4.zero, F4.lst nm, F4.lst od⟩
      dsimp only
      -- kind == 6 and len(names) > 2
      refine tSeqI (if_join (JP K T H b l lo kd (n + 40) 196 R O) (JP K T H b l lo kd (n + 40) 197 R O) (fun _ _ h => h.more (by decide)) (fun R1 hR1 => ?_) (fun H1 hJ hn => ?_) fun σ H' J8 => ?_)
      · obtain ⟨z6, z7, z8, z9, ⟨p, ps, vs, rfl, _⟩, _, _, nm, _⟩ := id J7
        exact ⟨.int kd, rfl, rfl, _, rfl, ite2 (fun _ => ⟨.ref l, rfl, l, _, rfl, .inl (sqL nm), _, 2, rfl, rfl, _, rfl, hR1 _ _ J7⟩) fun _ => hR1 _ _ J7⟩
      · obtain ⟨z6, z7, z8, z9, ⟨⟨p, ps, vs, rfl, k1, k2, k3, k4, k5, k6, k7⟩, bx, fr, nm, od⟩⟩ := id hJ
        refine ⟨.ref p, rfl, .inl ⟨rfl, _, sqL k1⟩, .ref lo, rfl, lo, _, 0, .str s1, rfl, rfl, sqL od, a0, .ref lo, rfl, 1, rfl, lo, _, -1, .str s2, rfl, rfl, sqL od, a1, s1, s2, rfl, .ref lo, rfl, lo, _, 0, .str s1, rfl, rfl, sqL od, a0, .ref lo, rfl, 1, rfl, lo, _, -1, .str s2, rfl, rfl, sqL od, a1, s1, s2, rfl, Ob.small' 2 (by decide), fun u hu => ?_⟩
        have f5 : Fr T [] H1 (upd H1 u (.tup [.str (if sltB s2 s1 = true then s2 else s1), .str (if sltB s1 s2 = true then s2 else s1)])) := Fr.refl.nw hu
        have c5 := f5.lst k1
        have la := dpAll_len k2
        rw [List.length_map] at la
        refine ⟨p, vs, _, rfl, rfl, c5, Ob.small _ (by omega), ?_⟩
        have f6 : Fr T [p] (upd H1 u (.tup [.str (if sltB s2 s1 = true then s2 else s1), .str (if sltB s1 s2 = true then s2 else s1)])) (upd (upd H1 u (.tup [.str (if sltB s2 s1 = true then s2 else s1), .str (if sltB s1 s2 = true then s2 else s1)])) p (.lst (vs ++ [.ref u]))) := Fr.refl.put (by rw [c5]; exact True.intro) (.inr ⟨by simp, _, c5⟩)
        have bp : b ≠ p := fun z => by rw [← z, hbx] at k5; cases k5
        refine hn _ _ ⟨z6, z7, z8, z9, ⟨p, ps ++ [(if sltB s2 s1 = true then s2 else s1, if sltB s1 s2 = true then s2 else s1)], vs ++ [.ref u], rfl, upd_same, ?_, fun z hz => ?_, ?_, k5, k6, k7⟩, ((bx.fr f5).fr f6 (by simpa using bp)).more (by omega), (fr.trans f5.zero).put (by rw [c5]; exact True.intro) (.inl k5), f6.lst (f5.lst nm) (by simpa using k6.symm), f6.lst (f5.lst od) (by simpa using k7.symm)⟩
        · rw [List.map_append]
          exact dpAll_app (f6.prs (f5.prs k2)) (.cons (f6.dpr (dp_pr_of (sqT upd_same))) .nil)
        · rcases List.mem_append.mp hz with h | h
          · exact k3 z h
          · rw [List.mem_singleton.mp h]
            exact ⟨mem_pick m1 m2, mem_pick m1 m2⟩
        · rw [List.length_append]
          simp
          omega
      dsimp only
      -- kind == 7
      refine tSeqI (if_join (JP K T H b l lo kd (n + 40) 197 R O) (JP K T H b l lo kd (n + 40) 197 R O) (fun _ _ h => h) (fun R1 hR1 => ?_) (fun H1 hJ hn => ?_) fun σ H' J9 => ?_)
      · obtain ⟨z6, z7, z8, z9, ⟨p, ps, vs, rfl, _⟩, _⟩ := id J8
        exact ⟨.int kd, rfl, rfl, _, rfl, hR1 _ _ J8⟩
      · obtain ⟨z6, z7, z8, z9, ⟨⟨p, ps, vs, rfl, k1, k2, k3, k4, k5, k6, k7⟩, bx, fr, nm, od⟩⟩ := id hJ
        refine ⟨.ref lo, rfl, 1, rfl, lo, _, rfl, sqL od, fun c hc => ?_⟩
        have fc : Fr T [] H1 (upd H1 c (.lst (cutV (O.map V.str) (some 1) none))) := Fr.refl.nw hc
        refine ⟨c, rfl, ⟨_, sqL upd_same⟩, fun D hD => ?_⟩
        let H3 : Hp := upd H1 c (.lst (cutV (O.map V.str) (some 1) none))
        have lc : (cutV (O.map V.str) (some 1) none).length ≤ O.length := Nat.le_trans (cutV_length _ _ _) (by rw [List.length_map]; exact Nat.le_refl _)
        refine lc_list (xs := cutV (O.map V.str) (some 1) none) (fun i H' => Fr T [] H3 H' ∧ ∃ acc ps, H' D = some (.lst acc) ∧ DpAll K H' acc (ps.map prD) ∧ (∀ q ∈ ps, q.1 ∈ R ∧ q.2 ∈ R) ∧ ps.length ≤ i)
          ⟨Fr.refl.nw hD, [], [], upd_same, .nil, fun q h => absurd h (by simp), Nat.le_refl _⟩ (fun i H' _ h => h.1.sqL (sqL upd_same)) (fun i x H' hx h => ?_) (fun H' h => ?_)
        · obtain ⟨f4, acc, ps2, c1, c2, c3, c4⟩ := h
          obtain ⟨u2, hu2, rfl⟩ := List.mem_map.mp (cut_mem (List.mem_of_getElem? hx))
          have li := (List.getElem?_eq_some_iff.mp hx).1
          have od4 := f4.lst (fc.lst od)
          refine ⟨rfl, ?_⟩
          simp only [tYes, if_true]
          refine ⟨.ref lo, rfl, lo, _, 0, .str s1, rfl, rfl, sqL od4, a0, .str u2, rfl, s1, u2, rfl, .ref lo, rfl, lo, _, 0, .str s1, rfl, rfl, sqL od4, a0, .str u2, rfl, s1, u2, rfl, Ob.small' 2 (by decide), fun u hu => ?_⟩
          have f5 : Fr T [] H' (upd H' u (.tup [.str (if sltB u2 s1 = true then u2 else s1), .str (if sltB s1 u2 = true then u2 else s1)])) := Fr.refl.nw hu
          have c5 := f5.lst c1
          have la := dpAll_len c2
          rw [List.length_map] at la
          have f6 : Fr T [D] (upd H' u (.tup [.str (if sltB u2 s1 = true then u2 else s1), .str (if sltB s1 u2 = true then u2 else s1)])) (upd (upd H' u (.tup [.str (if sltB u2 s1 = true then u2 else s1), .str (if sltB s1 u2 = true then u2 else s1)])) D (.lst (acc ++ [.ref u]))) := Fr.refl.put (by rw [c5]; exact True.intro) (.inr ⟨by simp, _, c5⟩)
          refine ⟨acc, c5, Ob.small _ (by omega), (f4.trans f5).put (by rw [c5]; exact True.intro) (.inl hD), _, ps2 ++ [(if sltB u2 s1 = true then u2 else s1, if sltB s1 u2 = true then u2 else s1)], upd_same, ?_, fun z hz => ?_, ?_⟩
          · rw [List.map_append]
            exact dpAll_app (f6.prs (f5.prs c2)) (.cons (f6.dpr (dp_pr_of (sqT upd_same))) .nil)
          · rcases List.mem_append.mp hz with h | h
            · exact c3 z h
            · rw [List.mem_singleton.mp h]
              exact ⟨mem_pick m1 (hO2 _ hu2), mem_pick m1 (hO2 _ hu2)⟩
          · rw [List.length_append]
            simp
            omega
        · obtain ⟨f4, acc, ps2, c1, c2, c3, c4⟩ := h
          have F4 := (fc.trans f4)
          refine hn _ _ ⟨z6, z7, z8, z9, ⟨D, ps2, acc, rfl, c1, c2, c3, by omega, (fr.trans fc.zero).free hD, (ne_of_none (fc.lst nm) hD).symm, (ne_of_none (fc.lst od) hD).symm⟩, bx.fr F4, fr.trans F4.zero, F4.lst nm, F4.lst od⟩
      dsimp only
      obtain ⟨z6, z7, z8, z9, ⟨⟨p, ps, vs, rfl, k1, k2, k3, k4, k5, k6, k7⟩, bx, fr, nm, od⟩⟩ := J9
      refine tRetI ?_
      refine ⟨.ref l, rfl, l, _, rfl, .inl ⟨sqL nm, fun l' hl' => ?_⟩⟩
      have f1 : Fr T [] H' (upd H' l' (.tup (R.map V.str))) := Fr.refl.nw hl'
      refine ⟨.ref p, rfl, p, vs, ps, rfl, .inl (sqL (f1.lst k1)), f1.prs k2, fun ys q' hq' hys hyl => ?_⟩
      refine ⟨q', ys, rfl, .inl ⟨sqL upd_same, fun u hu => ⟨Ob.small' 2 (by decide), fun v hv => ?_⟩⟩⟩
      have f2 : Fr T [] (upd H' l' (.tup (R.map V.str))) (upd (upd (upd (upd H' l' (.tup (R.map V.str))) q' (.lst ys)) u (.tup ys)) v (.tup [.ref l', .ref u])) := ((Fr.refl.nw hq').nw hu).nw hv
      have F2 := f1.trans f2
      refine q _ (R, sortP ps) _ (fr.trans F2.zero) ((bx.fr F2).more (by omega)) ?_ ⟨hR, fun z hz => k3 z (sortP_mem.mp hz), hR0, hRn, hRl, by rw [sortP_len]; omega⟩
      refine dp_two_of (sqT upd_same) (dp_st_of (f2.sqT (sqT upd_same))) (.tup (sqT (upd_old hv _ _ upd_same)) ?_)
      exact f2.prs hys
end
end Ob

/-! LC: what is due -/
namespace Ob
open PySem PySem.Spec PyProof.Rows L2 LamX

/-- .. whose lists are none of these -/
def TabX (X : List Addr) (H : Hp) (d : Addr) (P : Pan) : Prop := ∃ kvs : List (Key × V), H d = some (.dK kvs) ∧ ∀ s ∈ P.1, ∃ (l : Addr) (xs : List Str), valV kvs (.inr s) = some (.ref l) ∧ H l = some (.lst (xs.map V.str)) ∧ (∀ x, decide (x ∈ xs) = rivB P.2 x s) ∧ xs.length ≤ 200000 ∧ l ∉ X
theorem TabX.fr {X S : List Addr} {T : List (Addr × Str)} {H H' : Hp} {d : Addr} {P : Pan} (h : TabX X H d P) (f : Fr T S H H') (hS : ∀ b ∈ S, b ∈ X ∨ ∀ xs : List Str, H b ≠ some (.lst (xs.map V.str))) : TabX X H' d P := by
  obtain ⟨kvs, h1, h2⟩ := h
  refine ⟨kvs, f.dK h1, fun s hs => ?_⟩
  obtain ⟨l, xs, a, b, c, n, e⟩ := h2 s hs
  exact ⟨l, xs, a, f.lst b (fun m => (hS l m).elim e fun z => z xs b), c, n, e⟩
theorem TabX.fr0 {X : List Addr} {T : List (Addr × Str)} {H H' : Hp} {d : Addr} {P : Pan} (h : TabX X H d P) (f : Fr T [] H H') : TabX X H' d P := h.fr f fun b m => absurd m (by simp)
theorem TabX.tab {X : List Addr} {H : Hp} {d : Addr} {P : Pan} (h : TabX X H d P) : TabAt H d P := by
  obtain ⟨kvs, h1, h2⟩ := h
  exact ⟨kvs, h1, fun s hs => let ⟨l, xs, a, b, c, n, _⟩ := h2 s hs; ⟨l, xs, a, b, c, n⟩⟩
theorem TabAt.x {H : Hp} {d l : Addr} {P : Pan} (h : TabAt H d P) (n : H l = none) : TabX [l] H d P := by
  obtain ⟨kvs, h1, h2⟩ := h
  refine ⟨kvs, h1, fun s hs => ?_⟩
  obtain ⟨a, xs, e1, e2, e3, n3⟩ := h2 s hs
  exact ⟨a, xs, e1, e2, e3, n3, fun m => by rw [List.mem_singleton.mp m, n] at e2; cases e2⟩
theorem riv_mem {P : Pan} (hm : Mem P) {x s : Str} (h : rivB P.2 x s = true) : x ∈ P.1 := by
  obtain ⟨p, hp, e⟩ := List.any_eq_true.mp h
  rw [Bool.or_eq_true] at e
  rcases e with e | e
  · have e := of_decide_eq_true e
    rw [e] at hp
    exact (hm _ hp).1
  · have e := of_decide_eq_true e
    rw [e] at hp
    exact (hm _ hp).2
theorem pair_ord (x y : Str) : ((if sltB y x = true then y else x), (if sltB x y = true then y else x)) = ordB x y := by
  unfold ordB
  by_cases h : sltB x y = true
  · rw [if_pos h, if_pos h]
    rw [if_neg (by rw [slt_asym h]; exact Bool.false_ne_true)]
  · rw [if_neg h, if_neg h]
    by_cases g : sltB y x = true
    · rw [if_pos g]
    · rw [if_neg g]
      have e : x = y := slt_eq (by cases z : sltB x y with | false => rfl | true => exact absurd z h) (by cases z : sltB y x with | false => rfl | true => exact absurd z g)
      rw [e]
section
variable {P : Program} {w : World} {K : PySem.W.Frag} {mg : Str → Option Value} {base : Heap} {T : List (Addr × Str)}
abbrev s_law_pair : Stmt := top 40
theorem S_law_pair : FnScope ["_law_one", "_law_two"] ["_law_one", "_law_two"] (defScope s_law_pair) := ⟨rfl, rfl, rfl, by decide +kernel, rfl, by decide +kernel, by decide +kernel⟩
abbrev s_law_missing : Stmt := top 41
theorem S_law_missing : FnScope ["_law_panel_here", "_law_some", "_law_name"] ["_law_panel_here", "_law_some"] (defScope s_law_missing) := ⟨rfl, rfl, rfl, by decide +kernel, rfl, by decide +kernel, by decide +kernel⟩
abbrev s_law_run_due : Stmt := top 42
theorem S_law_run_due : FnScope ["_law_panel_here", "_law_state_here", "_law_presses_here", "_law_table", "_law_found", "_law_name", "_law_after_here", "_law_near"] ["_law_panel_here", "_law_state_here", "_law_presses_here"] (defScope s_law_run_due) := ⟨rfl, rfl, rfl, by decide +kernel, rfl, by decide +kernel, by decide +kernel⟩
abbrev s_law_is_name : Stmt := top 43
theorem S_law_is_name : FnScope ["_law_thing", "_law_letter"] ["_law_thing"] (defScope s_law_is_name) := ⟨rfl, rfl, rfl, by decide +kernel, rfl, by decide +kernel, by decide +kernel⟩
abbrev s_law_state : Stmt := top 37
theorem S_law_state : FnScope ["_law_box_here", "_law_panel_here", "_law_table", "_law_found", "_law_name", "_law_near"] ["_law_box_here", "_law_panel_here"] (defScope s_law_state) := ⟨rfl, rfl, rfl, by decide +kernel, rfl, by decide +kernel, by decide +kernel⟩
abbrev s_law_presses : Stmt := top 38
theorem S_law_presses : FnScope ["_law_box_here", "_law_panel_here", "_law_most", "_law_turn"] ["_law_box_here", "_law_panel_here", "_law_most"] (defScope s_law_presses) := ⟨rfl, rfl, rfl, by decide +kernel, rfl, by decide +kernel, by decide +kernel⟩
theorem ok_lpair (TX : Txt mg) (D : Df K mg "_law_pair" "_law_pair" s_law_pair ["_law_one", "_law_two"]) : Gd P w K mg base CX0 1 "_law_pair" ["_law_one", "_law_two"] (sp_order K T) := by
  refine D.ok (k := 0) S_law_pair (fun vs H Q E h => ?_) (fun f cdv A outer s H vs Q E hr h => ?_)
  · obtain ⟨x, y, rfl, _⟩ := h
    rfl
  · obtain ⟨x, y, rfl, q⟩ := h
    -- slots: 0:_law_one 1:_law_two
    refine ⟨_, (pss_one (ps_ret (pe_tup (pa_cons (pe_callB (call_min2S rfl) rfl TX.n_min (by decide +kernel) (pa_cons (pv 0) (pa_cons (pv 1) pa_nil))) (pa_cons (pe_callB (call_max2S rfl) rfl TX.n_max (by decide +kernel) (pa_cons (pv 0) (pa_cons (pv 1) pa_nil))) pa_nil))))), ?_⟩
    refine ⟨.str x, rfl, .str y, rfl, x, y, rfl, .str x, rfl, .str y, rfl, x, y, rfl, small' 2 (by decide), fun p hp => ?_⟩
    refine q _ _ (Fr.refl.nw hp) ?_
    rw [← pair_ord]
    exact dp_pr_of (sqT upd_same)
def sp_missing (K : PySem.W.Frag) (T : List (Addr × Str)) : Sp := fun vs H Q _ => ∃ (pv : V) (P : Pan) (a : Addr) (xs : List Str), vs = [pv, .ref a] ∧ Dp K H pv (panD P) ∧ SqL K H a (xs.map V.str) ∧ xs.length ≤ 1000 ∧
  ∀ l H', H l = none → Fr T [] H H' → H' l = some (.lst (((xs.filter fun x => !decide (x ∈ P.1)).take 1).map V.str)) → Q (.ref l) H'
theorem ok_missing (TX : Txt mg) (D : Df K mg "_law_missing" "_law_missing" s_law_missing ["_law_panel_here", "_law_some"]) : Gd P w K mg base CX0 1 "_law_missing" ["_law_panel_here", "_law_some"] (sp_missing K T) := by
  refine D.ok (k := 0) S_law_missing (fun vs H Q E h => ?_) (fun f cdv A outer s H vs Q E hr h => ?_)
  · obtain ⟨pv, P, a, xs, rfl, _⟩ := h
    rfl
  · obtain ⟨pv, P, a, xs, rfl, hP, ha, hl, q⟩ := h
    obtain ⟨b, x, y, rfl, hb, hx, hy⟩ := dp_two hP
    obtain ⟨c, rfl, hc⟩ := dp_st hx
    -- slots: 0:_law_panel_here* 1:_law_some 2:_law_name
    refine ⟨_, (pss_one (ps_ret (pe_slice sl_list (pe_lc (own := [("_law_name", 2)]) rfl S_law_missing.nd (pi_list (pv 1)) (blkOk_by (N := ["_law_panel_here", "_law_some", "_law_name"]) (sc := defScope s_law_missing) (by decide +kernel)) (fun _ _ _ _ _ => (pg_name (i := 2) S_law_missing.nd rfl (Or.inl rfl))) (fun _ _ _ _ _ => (pts_one (pt_cmpR (op_notIn_seqK K) (pv 2) (pe_ix (ix_tupK K) (pv 0) pe_int (fun _ _ => rfl)) rfl))) (fun _ _ _ _ _ => (pv 2))) po_none (po_some pe_int)))), ?_⟩
    refine ⟨.ref a, rfl, a, rfl, ⟨_, ha⟩, fun D hD => ?_⟩
    refine lc_filtL (as := xs) (c := PyData.str) (q := fun x => !decide (x ∈ P.1)) hD ha (by rw [List.length_map]; omega) (dpAll_strs _) (fun x e acc he hx => ?_) (fun acc hacc => ?_)
    · obtain rfl := dp_str hx
      have fD : Fr T [] H (upd H D (.lst acc)) := Fr.refl.nw hD
      refine ⟨[some (.ref b), some (.ref a), some (.str e)], rfl, fun Q h => h, fun Q h => ?_, fun _ Q h => ⟨_, rfl, h⟩⟩
      refine ⟨.str e, rfl, .ref b, rfl, b, _, 0, .ref c, rfl, rfl, fD.sqT hb, rfl, c, _, rfl, .inr (fD.sqT hc), rfl, flat_strs _, _, rfl, ?_⟩
      show Q (!inV (V.str e) (P.1.map V.str)) _
      rw [inV_strs]
      exact h
    · have ea := dpAll_str hacc
      subst ea
      refine ⟨1, rfl, D, _, rfl, sqL upd_same, fun m hm => ?_⟩
      refine q m _ ((Fr.refl (T := T) (S := [])).nw hD |>.free hm) ((Fr.refl.nw hD).nw hm) ?_
      have e : ∀ l : List V, cutV l none (some 1) = l.take 1 := fun l => cut_take l 1
      rw [upd_same, e, List.map_take]
theorem isName_lt (x : Str) (h : isName x = true) : x.length ≤ 6 := by
  unfold isName at h
  rw [Bool.and_eq_true] at h
  exact (of_decide_eq_true h.1).2
theorem ok_lis_name (TX : Txt mg) (D : Df K mg "_law_is_name" "_law_is_name" s_law_is_name ["_law_thing"]) : Gd P w K mg base CX0 1 "_law_is_name" ["_law_thing"] (sp_isName T) := by
  refine D.ok (k := 0) S_law_is_name (fun vs H Q E h => ?_) (fun f cdv A outer s H vs Q E hr h => ?_)
  · obtain ⟨x, rfl, _⟩ := h
    rfl
  · obtain ⟨x, rfl, hl, q⟩ := h
    -- slots: 0:_law_thing 1:_law_letter
    refine ⟨_, (pss_cons (ps_if (PW.pt (pw_or (pt_not (pt_val (pe_callB call_isi rfl TX.n_isinstance (by decide +kernel) (pa_cons (pv 0) (pa_cons (pe_bltn (v := .ty "str") (u := .type "str") rfl TX.n_str (by decide +kernel) rfl) pa_nil))))) (pw_or1 (pt_not (pt_chain op_lt op_lt pe_int (pe_callB call_len_str rfl TX.n_len (by decide +kernel) (pa_cons (pv 0) pa_nil)) pe_int))))) (pss_one (ps_ret pe_bl)) pss_nil)
    (pss_one (ps_ret (pe_callB (cr_all rfl) rfl TX.n_all (by decide +kernel) (pa_cons (pe_lc (own := [("_law_letter", 1)]) rfl S_law_is_name.nd (pi_str (pv 0)) (blkOk_by (N := ["_law_thing", "_law_letter"]) (sc := defScope s_law_is_name) (by decide +kernel)) (fun _ _ _ _ _ => (pg_name (i := 1) S_law_is_name.nd rfl (Or.inl rfl))) (fun _ _ _ _ _ => pts_nil) (fun _ _ _ _ _ => (pe_cmpR op_in_sign (pv 1) pe_str rfl))) pa_nil))))), ?_⟩
    refine ⟨.str x, rfl, .str x, .ty "str", .type "str", .type "str", true, rfl, .ty _, .base (.str _), kit_ty (by decide +kernel), true, rfl, iteF ?_⟩
    refine ⟨.str x, rfl, x, rfl, small' _ (by omega), 0, x.length, rfl, rfl, _, rfl, ?_⟩
    by_cases h1 : (0 : Int) < x.length
    · rw [decide_eq_true h1]
      refine iteT ⟨x.length, 7, rfl, rfl, _, rfl, ?_⟩
      by_cases h2 : (x.length : Int) < 7
      · rw [decide_eq_true h2]
        refine iteF ⟨.str x, rfl, x, rfl, fun D hD => ?_⟩
        refine lc_chars (x := x) (f := fun c => decide (c ∈ LET.cps.toList)) (by omega) (fun c H => ⟨[some (.str x), some (.str ⟨#[c]⟩)], rfl, fun Q h => h, fun Q h => ⟨_, rfl, c, LET, rfl, rfl, h⟩⟩) ⟨D, _, rfl, sqL upd_same, ?_⟩
        rw [List.all_map]
        have e : isName x = x.cps.toList.all (id ∘ fun c => decide (c ∈ LET.cps.toList)) := by
          unfold isName
          rw [decide_eq_true ⟨by omega, by omega⟩]
          rfl
        rw [← e]
        exact q _ (Fr.refl.nw hD)
      · rw [decide_eq_false h2]
        refine iteT ?_
        have e : isName x = false := by
          unfold isName
          rw [decide_eq_false (fun h => h2 (by omega))]
          rfl
        exact e ▸ q _ .refl
    · rw [decide_eq_false h1]
      refine iteF ⟨false, rfl, iteT ?_⟩
      have e : isName x = false := by
        unfold isName
        rw [decide_eq_false (fun h => h1 (by omega))]
        rfl
      exact e ▸ q _ .refl

/-! ### run_due -/
def sp_runDue (K : PySem.W.Frag) (T : List (Addr × Str)) : Sp := fun vs H Q _ => ∃ (pv sv : V) (P : Pan) (S : List Str) (a : Addr) (xs : List Str), vs = [pv, sv, .ref a] ∧ Dp K H pv (panD P) ∧ Dp K H sv (stD S) ∧ SqL K H a (xs.map V.str) ∧ Mem P ∧ P.1.length ≤ 50000 ∧ P.2.length ≤ 50000 ∧ S.length + xs.length ≤ 50000 ∧ (∀ x ∈ xs, x ∈ P.1) ∧
  ∀ t l v H', Fr T [] H H' → H' t = some (.tup [.ref l, v]) → LLs H H' l (losts P.2 S xs) → Dp K H' v (stD (xs.foldl (press P.2) S)) → Q (.ref t) H'
theorem losts_snoc (ps : List Pr) : ∀ (l : List Str) (S : List Str) (x : Str), losts ps S (l ++ [x]) = losts ps S l ++ [(l.foldl (press ps) S).filter fun z => !decide (z ∈ press ps (l.foldl (press ps) S) x)]
  | [], S, x => rfl
  | y :: l, S, x => by
    show _ :: losts ps (press ps S y) (l ++ [x]) = _
    rw [losts_snoc ps l]
    rfl
theorem ok_runDue (TX : Txt mg) (D : Df K mg "_law_run_due" "_law_run_due" s_law_run_due ["_law_panel_here", "_law_state_here", "_law_presses_here"]) (G_law_rivals : Gd P w K mg base CX0 1 "_law_rivals" ["_law_panel_here"] (sp_table K T))
    (G_law_after : Gd P w K mg base CX0 1 "_law_after" ["_law_table", "_law_state_here", "_law_presses_here"] (sp_lafter K T)) : Gd P w K mg base CX0 2 "_law_run_due" ["_law_panel_here", "_law_state_here", "_law_presses_here"] (sp_runDue K T) := by
  refine D.ok (k := 1) S_law_run_due (fun vs H Q E h => ?_) (fun f cdv A outer s H vs Q E hr h => ?_)
  · obtain ⟨pv, sv, P, S, a, xs, rfl, _⟩ := h
    rfl
  · obtain ⟨pa, sa, P, S, a, xs, rfl, hP, hS, ha, hm, hl1, hl2, hl3, hall, q⟩ := h
    -- slots: 0:_law_panel_here 1:_law_state_here 2:_law_presses_here 3:_law_table 4:_law_found 5:_law_name 6:_law_after_here* 7:_law_near
    refine ⟨_, (pss_cons (ps_par (i := 3) (j := 4) rfl S_law_run_due.nd rfl rfl (by decide) rfl rfl (pa_cons (pcl G_law_rivals rfl (hr.mono (by decide)) p0 (pa_cons (pv 0) pa_nil)) (pa_cons (pe_lst pa_nil) pa_nil)) rfl)
    (pss_cons (ps_for PassesOwn.never rfl (pi_list (pv 2)) (pg_name (i := 5) S_law_run_due.nd rfl (Or.inl rfl))
      (pss_cons (ps_set (i := 6) S_law_run_due.nd rfl (Or.inr rfl) (pcl G_law_after rfl (hr.mono (by decide)) p0 (pa_cons (pv 3) (pa_cons (pv 1) (pa_cons (pe_lst (pa_cons (pv 5) pa_nil)) pa_nil)))))
      (pss_cons (ps_expr (pe_bm PySem.F.plainAttrs_list PySem.F.slot_list_append PySem.F.type_list_append mt_append (pv 4) (pa_cons (pe_lc (own := [("_law_near", 7)]) rfl S_law_run_due.nd (pi_tup (pv 1)) (blkOk_by (N := ["_law_panel_here", "_law_state_here", "_law_presses_here", "_law_table", "_law_found", "_law_name", "_law_after_here", "_law_near"]) (sc := defScope s_law_run_due) (by decide +kernel)) (fun _ _ _ _ _ => (pg_name (i := 7) S_law_run_due.nd rfl (Or.inl rfl))) (fun _ _ _ _ _ => (pts_one (pt_cmpR (op_notIn_seqK K) (pv 7) (pv 6) rfl))) (fun _ _ _ _ _ => (pv 7))) pa_nil)))
      (pss_one (ps_set (i := 1) S_law_run_due.nd rfl (Or.inl rfl) (pv 6))))))
    (pss_one (ps_ret (pe_tup (pa_cons (pv 4) (pa_cons (pv 1) pa_nil))))))), ?_⟩
    refine ⟨pa, rfl, pa, P, rfl, hP, hm, by omega, by omega, fun d H1 d0 f1 ht => ⟨small' 0 (by decide), fun l hl => ⟨_, _, rfl, ?_⟩⟩⟩
    have f2 : Fr T [] H (upd H1 l (.lst [])) := f1.nw hl
    have l0 : H l = none := f1.free hl
    refine ⟨.ref a, rfl, a, rfl, ⟨_, f2.sqL ha⟩, ?_⟩
    refine for_list (xs := xs.map V.str) (fun i σ H' => ∃ v z5 z6 vs, σ = [some pa, some v, some (.ref a), some (.ref d), some (.ref l), z5, z6, none] ∧ Fr T [] H H' ∧ TabX [l] H' d P ∧ H' l = some (.lst vs) ∧ Dp K H' v (stD ((xs.take i).foldl (press P.2) S)) ∧ vs.length = min i xs.length ∧
        Paired (fun v A => ∃ b, v = .ref b ∧ H' b = some (.lst (A.map V.str)) ∧ H b = none ∧ b ≠ l) vs (losts P.2 S (xs.take i)))
      ⟨sa, none, none, [], rfl, f2, (ht.x hl).fr0 (T := T) (Fr.refl.nw hl), upd_same, f2.dst hS, by simp, .nil⟩ (fun i σ H' _ h => ?_) (fun i x σ H' hi h => ?_) (fun σ H' h => ?_)
    · obtain ⟨v, z5, z6, vs, _, f3, _⟩ := h
      exact f3.sqL ha
    · obtain ⟨v, z5, z6, vs, rfl, f3, t3, l3, d3, n3, p3⟩ := h
      rw [List.getElem?_map] at hi
      cases he : xs[i]? with
      | none => rw [he] at hi; cases hi
      | some e =>
        rw [he] at hi
        cases hi
        have li := (List.getElem?_eq_some_iff.mp he).1
        have ln := fold_len P.2 (xs.take i) S
        rw [List.length_take] at ln
        refine ⟨.ref d, rfl, v, rfl, .str e, rfl, small' 1 (by decide), fun u hu => ?_⟩
        have f4 : Fr T [] H' (upd H' u (.lst [.str e])) := Fr.refl.nw hu
        refine ⟨d, P, v, _, u, e, rfl, (t3.fr0 f4).tab, f4.dst d3, sqL upd_same, hall e (List.mem_of_getElem? he), by omega, fun w' H5 f5 d5 => ?_⟩
        have F5 := f4.trans f5
        obtain ⟨va, rfl, hva⟩ := dp_st d3
        obtain ⟨wa, rfl, hwa⟩ := dp_st d5
        have l5 := F5.lst l3
        refine ⟨.ref l, rfl, .inl ⟨rfl, _, sqL l5⟩, .ref va, rfl, va, rfl, ⟨_, F5.sqT hva⟩, fun D hD => ?_⟩
        refine lc_filtT (as := (xs.take i).foldl (press P.2) S) (c := PyData.str) (q := fun z => !decide (z ∈ press P.2 ((xs.take i).foldl (press P.2) S) e)) hD (F5.sqT hva) (by rw [List.length_map]; omega) (dpAll_strs _) (fun x y acc hy hx => ?_) (fun acc hacc => ?_)
        · obtain rfl := dp_str hx
          refine ⟨[some pa, some (.ref va), some (.ref a), some (.ref d), some (.ref l), some (.str e), some (.ref wa), some (.str y)], rfl, fun Q h => h, fun Q h => ?_, fun _ Q h => ⟨_, rfl, h⟩⟩
          refine ⟨.str y, rfl, .ref wa, rfl, wa, _, rfl, .inr (((Fr.refl (T := T) (S := [])).nw hD).sqT hwa), rfl, flat_strs _, _, rfl, ?_⟩
          show Q (!inV (V.str y) ((press P.2 ((xs.take i).foldl (press P.2) S) e).map V.str)) _
          rw [inV_strs]
          exact h
        · have ea := dpAll_str hacc
          subst ea
          let lstD := ((xs.take i).foldl (press P.2) S).filter fun z => !decide (z ∈ press P.2 ((xs.take i).foldl (press P.2) S) e)
          have fD : Fr T [] H5 (upd H5 D (.lst (lstD.map V.str))) := Fr.refl.nw hD
          have lD := fD.lst l5
          have Dl : D ≠ l := (ne_of_none l5 hD).symm
          have f7 : Fr T [l] (upd H5 D (.lst (lstD.map V.str))) (upd (upd H5 D (.lst (lstD.map V.str))) l (.lst (vs ++ [.ref D]))) := Fr.refl.put (by rw [lD]; exact True.intro) (.inr ⟨by simp, _, lD⟩)
          have F7 := (f3.trans F5).trans fD
          refine ⟨l, vs, _, rfl, rfl, lD, small _ (by omega), ?_⟩
          refine ⟨_, rfl, .ref wa, some (.str e), some (.ref wa), vs ++ [.ref D], rfl, F7.put (by rw [lD]; exact True.intro) (.inl l0), ?_, upd_same, ?_, ?_, ?_⟩
          · exact ((t3.fr0 F5).fr0 fD).fr f7 fun b hb => .inl hb
          · rw [List.take_add_one, he]
            show Dp K _ _ (stD ((xs.take i ++ [e]).foldl (press P.2) S))
            rw [List.foldl_append]
            exact f7.dst (fD.dst d5)
          · rw [List.length_append]
            simp
            omega
          · rw [List.take_add_one, he]
            show Paired _ _ (losts P.2 S (xs.take i ++ [e]))
            rw [losts_snoc]
            refine paired_snoc (L2.Paired.mapP p3 fun v A ⟨b, e1, e2, e3, e4⟩ => ⟨b, e1, ?_, e3, e4⟩) ⟨D, rfl, ?_, (f3.trans F5).free hD, Dl⟩
            · rw [upd_ne e4]
              exact fD.lst (F5.lst e2)
            · rw [upd_ne Dl]
              exact upd_same
    · obtain ⟨v, z5, z6, vs, rfl, f3, t3, l3, d3, n3, p3⟩ := h
      rw [List.length_map, List.take_length] at d3 p3
      refine ⟨.ref l, rfl, v, rfl, small' 2 (by decide), fun t ht => ?_⟩
      have f4 : Fr T [] H' (upd H' t (.tup [.ref l, v])) := Fr.refl.nw ht
      exact q t l v _ (f3.trans f4) upd_same ⟨vs, f4.lst l3, l0, L2.Paired.mapP p3 fun v A ⟨b, e1, e2, e3, e4⟩ => ⟨b, e1, f4.lst e2, e3⟩⟩ (f4.dst d3)

/-! ### _law_state, _law_presses -/
def sp_lstate (K : PySem.W.Frag) (T : List (Addr × Str)) : Sp := fun vs H Q _ => ∃ (b : Addr) (pv : V) (P : Pan) (n : Nat), vs = [.ref b, pv] ∧ BoxAt H b n ∧ Dp K H pv (panD P) ∧ PanOk P ∧ n ≤ 700000 ∧
  ∀ v S H', Fr T [b] H H' → BoxAt H' b (n + 40) → Dp K H' v (stD S) → (∀ s ∈ S, s ∈ P.1) → S.length ≤ 14 → Q v H'
theorem ok_lstate (TX : Txt mg) (D : Df K mg "_law_state" "_law_state" s_law_state ["_law_box_here", "_law_panel_here"]) (G_law_rivals : Gd P w K mg base CX0 1 "_law_rivals" ["_law_panel_here"] (sp_table K T))
    (G_law_strewn : Gd P w K mg base CX0 2 "_law_strewn" ["_law_box_here", "_law_some"] (sp_strewn K T)) (G_law_take : Gd P w K mg base CX0 1 "_law_take" ["_law_box_here", "_law_size"] (sp_take T)) :
    Gd P w K mg base CX0 3 "_law_state" ["_law_box_here", "_law_panel_here"] (sp_lstate K T) := by
  refine D.ok (k := 2) S_law_state (fun vs H Q E h => ?_) (fun f cdv A outer s H vs Q E hr h => ?_)
  · obtain ⟨b, pv, P, n, rfl, _⟩ := h
    rfl
  · obtain ⟨b, pv, P, n, rfl, hb, hP, po, hn, q⟩ := h
    obtain ⟨bxs, hbx⟩ := hb.lst
    obtain ⟨pb, x, y, rfl, hpb, hx, hy⟩ := dp_two hP
    obtain ⟨c, rfl, hc⟩ := dp_st hx
    have l1 := po.l1
    have l2 := po.l2
    -- slots: 0:_law_box_here 1:_law_panel_here 2:_law_table 3:_law_found* 4:_law_name 5:_law_near
    refine ⟨_, (pss_cons (ps_asg (pe_tup (pa_cons (pcl G_law_rivals rfl (hr.mono (by decide)) p0 (pa_cons (pv 1) pa_nil)) (pa_cons (pe_lst pa_nil) pa_nil))) (pg_tup rfl (pgs_cons (pg_name (i := 2) S_law_state.nd rfl (Or.inl rfl)) (pgs_cons (pg_name (i := 3) S_law_state.nd rfl (Or.inr rfl)) pgs_nil))))
    (pss_cons (ps_for PassesOwn.never rfl (pi_list (pcl G_law_strewn rfl (hr.mono (by decide)) p0 (pa_cons (pv 0) (pa_cons (pe_ix (ix_tupK K) (pv 1) pe_int (fun _ _ => rfl)) pa_nil)))) (pg_name (i := 4) S_law_state.nd rfl (Or.inl rfl))
      (pss_one (ps_if (PW.pt (pw_and (pt_cmpR op_eq (pcl G_law_take rfl (hr.mono (by decide)) p0 (pa_cons (pv 0) (pa_cons pe_int pa_nil))) pe_int (nomark _)) (pw_and1 (pt_cmpR (op_eqDK K (hu64_of hr)) (pe_lc (own := [("_law_near", 5)]) rfl S_law_state.nd (pi_list (pe_dget (hu_of hr) (pv 2) (pv 4) (fun _ _ => rfl))) (blkOk_by (N := ["_law_box_here", "_law_panel_here", "_law_table", "_law_found", "_law_name", "_law_near"]) (sc := defScope s_law_state) (by decide +kernel)) (fun _ _ _ _ _ => (pg_name (i := 5) S_law_state.nd rfl (Or.inl rfl))) (fun _ _ _ _ _ => (pts_one (pt_cmpR (op_in_seqK K) (pv 5) (pv 3) rfl))) (fun _ _ _ _ _ => (pv 5))) (pe_lst pa_nil) (nomark _))))) (pss_one (ps_expr (pe_bm PySem.F.plainAttrs_list PySem.F.slot_list_append PySem.F.type_list_append mt_append (pv 3) (pa_cons (pv 4) pa_nil)))) pss_nil)))
    (pss_one (ps_ret (pe_callTy (call_tuple_ofK K) rfl TX.n_tuple (by decide +kernel) (pa_cons (pe_callB (cr_sortedAK K) rfl TX.n_sorted (by decide +kernel) (pa_cons (pv 3) pa_nil)) pa_nil)))))), ?_⟩
    refine ⟨.ref pb, rfl, .ref pb, P, rfl, hP, po.mem, by omega, by omega, fun d H1 d0 f1 ht => ⟨small' 0 (by decide), fun l hl => ⟨small' 2 (by decide), fun t htt => ?_⟩⟩⟩
    have f2 : Fr T [] H1 (upd (upd H1 l (.lst [])) t (.tup [.ref d, .ref l])) := (Fr.refl.nw hl).nw htt
    have F2 := f1.trans f2
    have ht2 := (ht.x hl).fr0 f2
    have l0 : H l = none := f1.free hl
    have lb : l ≠ b := (ne_of_none hbx l0).symm
    have hl2 : (upd (upd H1 l (.lst [])) t (.tup [.ref d, .ref l])) l = some (.lst []) := upd_old htt _ _ upd_same
    refine ⟨t, _, rfl, sqT upd_same, rfl, _, _, rfl, _, _, rfl, rfl, ?_⟩
    refine ⟨.ref b, rfl, .ref pb, rfl, pb, _, 0, .ref c, rfl, rfl, F2.sqT hpb, rfl, b, c, P.1, n, rfl, hb.fr F2, .inr (F2.sqT hc), po.sw, by omega, by omega, fun lo O H3 nlo lob hO hOl _ f3 bx3 hlo => ⟨lo, rfl, ⟨_, sqL hlo⟩, ?_⟩⟩
    have lnb : l ∉ [b] := by simpa using lb
    have lonb : lo ∉ [b] := by simpa using lob
    have lol : l ≠ lo := ne_of_none hl2 nlo
    have bxTab : ∀ {H : Hp} {m : Nat}, BoxAt H b m → ∀ z ∈ [b], z ∈ [l] ∨ ∀ xs : List Str, H z ≠ some (.lst (xs.map V.str)) := fun bx z hz => .inr fun xs e => by
      obtain ⟨x, y, z', e2, _⟩ := bx
      rw [List.mem_singleton.mp hz, e2] at e
      have e := Option.some.inj e
      injection e with e
      cases xs with
      | nil => cases e
      | cons a r => cases e
    refine for_list (xs := O.map V.str) (fun i σ H' => ∃ z4 F, σ = [some (.ref b), some (.ref pb), some (.ref d), some (.ref l), z4, none] ∧ Fr T [b] H H' ∧ TabX [l] H' d P ∧ H' l = some (.lst (F.map V.str)) ∧ H' lo = some (.lst (O.map V.str)) ∧ BoxAt H' b (n + 14 + i) ∧ (∀ s ∈ F, s ∈ P.1) ∧ F.length ≤ i)
      ⟨none, [], rfl, F2.zero.trans f3, ht2.fr f3 (bxTab (hb.fr F2)), f3.lst hl2 lnb, hlo, bx3.more (by omega), fun s h => absurd h (by simp), Nat.le_refl _⟩ (fun i σ H' _ h => ?_) (fun i x σ H' hi h => ?_) (fun σ H' h => ?_)
    · obtain ⟨z4, F, _, _, _, _, h, _⟩ := h
      exact sqL h
    · obtain ⟨z4, F, rfl, g1, g2, g3, g4, g5, g6, g7⟩ := h
      rw [List.getElem?_map] at hi
      cases he : O[i]? with
      | none => rw [he] at hi; cases hi
      | some e =>
        rw [he] at hi
        cases hi
        have li := (List.getElem?_eq_some_iff.mp he).1
        have heP : e ∈ P.1 := hO e (List.mem_of_getElem? he)
        refine ⟨.ref b, rfl, b, 2, n + 14 + i, rfl, g5, by decide, by decide, by omega, fun r H4 lr f4 bx4 => ⟨rfl, _, rfl, ?_⟩⟩
        have t4 := g2.fr f4 (bxTab g5)
        have l4 := f4.lst g3 lnb
        have o4 := f4.lst g4 lonb
        refine ite2 (fun cc => ?_) (fun cc => ?_)
        · obtain ⟨kvs, kd, hk⟩ := id t4
          obtain ⟨la, xs, v1, v2, v3, v4, v5⟩ := hk e heP
          refine ⟨.ref d, rfl, .str e, rfl, d, .ref la, rfl, v1 ▸ DGet.k (k := .inr e) kd, la, rfl, ⟨_, sqL v2⟩, fun D hD => ?_⟩
          refine lc_filtL (as := xs) (c := PyData.str) (q := fun z => decide (z ∈ F)) hD (sqL v2) (by rw [List.length_map]; omega) (dpAll_strs _) (fun x y acc hy hx => ?_) (fun acc hacc => ?_)
          · obtain rfl := dp_str hx
            refine ⟨[some (.ref b), some (.ref pb), some (.ref d), some (.ref l), some (.str e), some (.str y)], rfl, fun Q h => h, fun Q h => ?_, fun _ Q h => ⟨_, rfl, h⟩⟩
            refine ⟨.str y, rfl, .ref l, rfl, l, _, rfl, .inl (sqL (upd_old hD _ _ l4)), rfl, flat_strs _, _, rfl, ?_⟩
            show Q (inV (V.str y) (F.map V.str)) _
            rw [inV_strs]
            exact h
          · have ea := dpAll_str hacc
            subst ea
            refine ⟨small' 0 (by decide), fun u hu => ?_⟩
            have fD : Fr T [] H4 (upd (upd H4 D (.lst ((xs.filter fun z => decide (z ∈ F)).map V.str))) u (.lst [])) := (Fr.refl.nw hD).nw hu
            have okx : ∀ s ∈ xs.filter fun z => decide (z ∈ F), okS s := fun s hs => po.sw s (riv_mem po.mem (by rw [← v3]; exact decide_eq_true (List.mem_filter.mp hs).1))
            refine ⟨.list ((xs.filter fun z => decide (z ∈ F)).map PyData.str), .list [], .lst (sqL (upd_old hu _ _ upd_same)) (dpAll_strs _), .lst (sqL upd_same) .nil, (lay_list okx).shaped (by decide), (lay_list (R := []) fun s h => absurd h (by simp)).shaped (by decide), _, rfl, ?_⟩
            have tD := t4.fr0 fD
            have lD := fD.lst l4
            have oD := fD.lst o4
            have GD := (g1.trans f4).trans fD.zero
            refine ite2 (fun c2 => ?_) (fun c2 => ?_)
            · refine ⟨.ref l, rfl, .inl ⟨rfl, _, sqL lD⟩, .str e, rfl, l, _, _, rfl, rfl, lD, small _ (by rw [List.length_map]; omega), ?_⟩
              have fw : Fr T [l] (upd (upd H4 D (.lst ((xs.filter fun z => decide (z ∈ F)).map V.str))) u (.lst [])) (upd (upd (upd H4 D (.lst ((xs.filter fun z => decide (z ∈ F)).map V.str))) u (.lst [])) l (.lst (F.map V.str ++ [.str e]))) := Fr.refl.put (by rw [lD]; exact True.intro) (.inr ⟨by simp, _, lD⟩)
              refine ⟨some (.str e), F ++ [e], rfl, GD.put (by rw [lD]; exact True.intro) (.inl l0), tD.fr fw fun z hz => .inl hz, ?_, fw.lst oD (by simpa using lol.symm), ((bx4.fr fD).fr fw (by simpa using lb.symm)).more (by omega), fun s hs => ?_, ?_⟩
              · rw [upd_same, List.map_append]
                rfl
              · rcases List.mem_append.mp hs with h | h
                · exact g6 s h
                · rw [List.mem_singleton.mp h]
                  exact heP
              · rw [List.length_append]
                simp
                omega
            · exact ⟨some (.str e), F, rfl, GD, tD, lD, oD, (bx4.fr fD).more (by omega), g6, by omega⟩
        · exact ⟨some (.str e), F, rfl, g1.trans f4, t4, l4, o4, bx4.more (by omega), g6, by omega⟩
    · obtain ⟨z4, F, rfl, g1, g2, g3, g4, g5, g6, g7⟩ := h
      rw [List.length_map] at g5 g7
      refine ⟨.ref l, rfl, l, F, rfl, .inl (sqL g3), fun p hp => ⟨p, _, rfl, .inl ⟨sqL upd_same, fun r hr2 => ?_⟩⟩⟩
      have fw : Fr T [] H' (upd (upd H' p (.lst ((sortS F).map V.str))) r (.tup ((sortS F).map V.str))) := (Fr.refl.nw hp).nw hr2
      refine q _ (sortS F) _ (g1.trans fw.zero) ((g5.fr fw).more (by omega)) (dp_st_of (sqT upd_same)) (fun s hs => g6 s (sortS_mem.mp hs)) ?_
      rw [sortS_len]
      omega
def sp_lpresses (K : PySem.W.Frag) (T : List (Addr × Str)) : Sp := fun vs H Q _ => ∃ (b : Addr) (pv : V) (P : Pan) (n : Nat), vs = [.ref b, pv, .int 5] ∧ BoxAt H b n ∧ Dp K H pv (panD P) ∧ P.1 ≠ [] ∧ P.1.length ≤ 1000 ∧ n ≤ 700000 ∧
  ∀ l (xs : List Str) H', H l = none → l ≠ b → Fr T [b] H H' → BoxAt H' b (n + 10) → H' l = some (.lst (xs.map V.str)) → (∀ s ∈ xs, s ∈ P.1) → xs.length ≤ 5 → Q (.ref l) H'
theorem ok_lpresses (TX : Txt mg) (D : Df K mg "_law_presses" "_law_presses" s_law_presses ["_law_box_here", "_law_panel_here", "_law_most"])
    (G_law_of : Gd P w K mg base CX0 2 "_law_of" ["_law_box_here", "_law_some"] (sp_of K T)) (G_law_take : Gd P w K mg base CX0 1 "_law_take" ["_law_box_here", "_law_size"] (sp_take T)) :
    Gd P w K mg base CX0 3 "_law_presses" ["_law_box_here", "_law_panel_here", "_law_most"] (sp_lpresses K T) := by
  refine D.ok (k := 2) S_law_presses (fun vs H Q E h => ?_) (fun f cdv A outer s H vs Q E hr h => ?_)
  · obtain ⟨b, pv, P, n, rfl, _⟩ := h
    rfl
  · obtain ⟨b, pa, P, n, rfl, hb, hP, h0, hl, hn, q⟩ := h
    obtain ⟨bxs, hbx⟩ := hb.lst
    obtain ⟨pb, x, y, rfl, hpb, hx, hy⟩ := dp_two hP
    obtain ⟨c, rfl, hc⟩ := dp_st hx
    have cb : ∀ {H' : Hp}, Fr T [b] H H' → BoxAt H' b (n + 10) → True := fun _ _ => trivial
    -- slots: 0:_law_box_here* 1:_law_panel_here* 2:_law_most 3:_law_turn
    refine ⟨_, (pss_one (ps_ret (pe_lc (own := [("_law_turn", 3)]) rfl S_law_presses.nd (pi_range1 rfl TX.n_range (pa_cons (pcl G_law_take rfl (hr.mono (by decide)) p0 (pa_cons (pv 0) (pa_cons (pe_op op_add (pv 2) pe_int) pa_nil))) pa_nil)) (blkOk_by (N := ["_law_box_here", "_law_panel_here", "_law_most", "_law_turn"]) (sc := defScope s_law_presses) (by decide +kernel)) (fun _ _ _ _ _ => (pg_name (i := 3) S_law_presses.nd rfl (Or.inl rfl))) (fun _ _ _ _ _ => pts_nil) (fun _ _ _ _ _ => (pcl G_law_of rfl (hr.mono (by decide)) p0 (pa_cons (pv 0) (pa_cons (pe_ix (ix_tupK K) (pv 1) pe_int (fun _ _ => rfl)) pa_nil))))))), ?_⟩
    refine ⟨.ref b, rfl, .int 5, rfl, 5, 1, rfl, rfl, b, 6, n, rfl, hb, by decide, by decide, by omega, fun r H1 lr f1 bx1 => ?_⟩
    refine ⟨r, rfl, by omega, by omega, fun D hD => ?_⟩
    have Db : D ≠ b := by
      obtain ⟨_, hb3⟩ := bx1.lst
      exact (ne_of_none hb3 hD).symm
    refine lc_range (Qd := fun H' => Q (.ref D) H') (fun i H' => Fr T [b] H1 H' ∧ ∃ xs : List Str, H' D = some (.lst (xs.map V.str)) ∧ (∀ s ∈ xs, s ∈ P.1) ∧ xs.length ≤ i ∧ BoxAt H' b (n + 1 + i)) ⟨Fr.refl.nw hD, [], upd_same, fun s h => absurd h (by simp), Nat.le_refl _, bx1.fr ((Fr.refl (T := T) (S := [])).nw hD)⟩ (fun i H' hi h => ?_) (fun H' h => ?_)
    · obtain ⟨f2, xs, g1, g2, g3, g4⟩ := h
      refine ⟨rfl, ?_⟩
      simp only [tYes, if_true]
      have F := f1.trans f2
      have hc' := F.sqT hc
      refine ⟨.ref b, rfl, .ref pb, rfl, pb, _, 0, .ref c, rfl, rfl, F.sqT hpb, rfl, b, c, P.1.map V.str, n + 1 + i, rfl, g4, .inl hc', ?_, by rw [List.length_map]; exact hl, by omega, fun j r H3 hj f3 bx3 => ?_⟩
      · intro z
        exact h0 (List.map_eq_nil_iff.mp z)
      · obtain ⟨s, hs, rfl⟩ := List.mem_map.mp (List.mem_of_getElem? hj)
        have d3 := f3.lst g1 (by simpa using Db)
        refine ⟨_, d3, small _ (by rw [List.length_map]; omega), (f2.trans f3).put (by rw [d3]; exact True.intro) (.inl hD), xs ++ [s], ?_, fun z hz => ?_, ?_, ?_⟩
        · rw [upd_same, List.map_append]
          rfl
        · rcases List.mem_append.mp hz with h | h
          · exact g2 z h
          · rw [List.mem_singleton.mp h]
            exact hs
        · rw [List.length_append]
          simp
          omega
        · obtain ⟨x0, y0, z0, e0, k1, k2, k3⟩ := bx3
          exact ⟨x0, y0, z0, by rw [upd_ne Db.symm]; exact e0, k1, k2, by omega⟩
    · obtain ⟨f2, xs, g1, g2, g3, g4⟩ := h
      exact q D xs H' (f1.free hD) Db (f1.trans f2) (g4.more (by omega)) g1 g2 (by omega)
end
end Ob

/-! LD: deeds; what is due of a pair -/
namespace Ob
open PySem PySem.Spec PyProof.Rows L2 LamX

inductive Deed where
  | press (x : Str)
  | run (xs : List Str)
  | exclude (x y : Str)
  | allow (x y : Str)
  | add (x : Str)
  | remove (x : Str)
def dstep (g : Pg) : Deed → Option Pg
  | .press x => if x ∈ g.1.1 then some (g.1, press g.1.2 g.2 x) else none
  | .run xs => if ∀ x ∈ xs, x ∈ g.1.1 then some (g.1, xs.foldl (press g.1.2) g.2) else none
  | .exclude x y => pEx g (x, y)
  | .allow x y => pLet g (x, y)
  | .add x => pAdd g x
  | .remove x => pRem g x
def dword : Deed → Str
  | .press _ => "press"
  | .run _ => "run"
  | .exclude _ _ => "exclude"
  | .allow _ _ => "allow"
  | .add _ => "add"
  | .remove _ => "remove"
def dargs (h : Addr) : Deed → List V
  | .press x => [.str x]
  | .run _ => [.ref h]
  | .exclude x y => [.str x, .str y]
  | .allow x y => [.str x, .str y]
  | .add x => [.str x]
  | .remove x => [.str x]
/-- the deed at t, the list of a run at h -/
def DeedAt (H : Hp) (t h : Addr) (d : Deed) : Prop := H t = some (.tup (.str (dword d) :: dargs h d)) ∧ ∀ xs, d = .run xs → H h = some (.lst (xs.map V.str))
/-- its texts may be names -/
def DOk : Deed → Prop
  | .press x => okS x
  | .run xs => (∀ x ∈ xs, okS x) ∧ xs.length ≤ 5
  | .exclude x y => okS x ∧ okS y
  | .allow x y => okS x ∧ okS y
  | .add x => okS x
  | .remove x => okS x
/-- what comes back -/
def ResAt (H0 H : Hp) (r : V) (g : Pg) : Deed → Prop
  | .press x => ∃ b, r = .ref b ∧ H b = some (.lst ((g.2.filter fun z => !decide (z ∈ press g.1.2 g.2 x)).map V.str)) ∧ H0 b = none
  | .run xs => ∃ l, r = .ref l ∧ LLs H0 H l (losts g.1.2 g.2 xs)
  | _ => r = .non
theorem ResAt.fr {T : List (Addr × Str)} {S : List Addr} {H0 H H' : Hp} {r : V} {g : Pg} {d : Deed} (h : ResAt H0 H r g d) (f : Fr T S H H') (hS : ∀ b ∈ S, H0 b ≠ none) : ResAt H0 H' r g d := by
  cases d with
  | press x =>
    obtain ⟨b, e, h1, h2⟩ := h
    exact ⟨b, e, f.lst h1 (fun m => hS b m h2), h2⟩
  | run xs =>
    obtain ⟨l, e, h1⟩ := h
    exact ⟨l, e, h1.fr f hS⟩
  | _ => exact h
/-- what is due -/
def DueAt (K : PySem.W.Frag) (H0 H : Hp) (v : V) (g : Pg) (d : Deed) : Prop :=
  (∃ g', dstep g d = some g' ∧ ∃ t r pg, v = .ref t ∧ H t = some (.tup [r, pg]) ∧ ResAt H0 H r g d ∧ Dp K H pg (pgD g')) ∨ (dstep g d = none ∧ ∃ t s r, v = .ref t ∧ H t = some (.tup [.str s, r]))
theorem slA {K : PySem.W.Frag} {T : List (Addr × Str)} {H : Hp} {a : Addr} {xs : List V} {Q : VK} (h0 : xs ≠ []) (hT : SqT K H a xs) (q : ∀ p H', Fr T [] H H' → SqT K H' p (xs.drop 1) → Q (.ref p) H') : rSlA K (.ref a) (some 1) none H Q := by
  refine ⟨a, xs, rfl, hT, fun h => ?_, fun _ p hp => q p _ (Fr.refl.nw hp) (sqT ?_)⟩
  · exfalso
    have e : HT.sIx xs.length 0 (some 1) = min 1 xs.length := HT.sIx_nat xs.length 0 1
    rw [e] at h
    have := List.length_pos_iff.mpr h0
    omega
  · rw [upd_same, cut_drop1]
theorem scal_str (x y : Str) : scal (.str x) (.str y) = true := rfl
section
variable {P : Program} {w : World} {K : PySem.W.Frag} {mg : Str → Option Value} {base : Heap} {T : List (Addr × Str)}
abbrev s_law_pair_due : Stmt := top 45
theorem S_law_pair_due : FnScope ["_law_page", "_law_word", "_law_some", "_law_panel_here", "_law_state_here", "_law_pair_here", "_law_near"] ["_law_page", "_law_word", "_law_some"] (defScope s_law_pair_due) := ⟨rfl, rfl, rfl, by decide +kernel, rfl, by decide +kernel, by decide +kernel⟩
abbrev s_law_due : Stmt := top 44
theorem S_law_due : FnScope ["_law_page", "_law_deed_here", "_law_panel_here", "_law_state_here", "_law_word", "_law_things", "_law_some", "_law_found", "_law_left", "_law_pairs", "_law_name", "_law_pair_here"] ["_law_page", "_law_deed_here"] (defScope s_law_due) := ⟨rfl, rfl, rfl, by decide +kernel, rfl, by decide +kernel, by decide +kernel⟩
def sp_pairDue (K : PySem.W.Frag) (T : List (Addr × Str)) : Sp := fun vs H Q _ => ∃ (pv : V) (g : Pg) (wd : Str) (sa : Addr) (x y : Str) (d : Deed), vs = [pv, .str wd, .ref sa] ∧ Dp K H pv (pgD g) ∧ Ok g ∧ Sz g 50000 ∧ SqL K H sa [.str x, .str y] ∧ x ∈ g.1.1 ∧ y ∈ g.1.1 ∧ ((wd = "allow" ∧ d = .allow x y) ∨ (wd = "exclude" ∧ d = .exclude x y)) ∧
  ∀ v H', Fr T [] H H' → DueAt K H H' v g d → Q v H'
theorem ok_pairDue (TX : Txt mg) (D : Df K mg "_law_pair_due" "_law_pair_due" s_law_pair_due ["_law_page", "_law_word", "_law_some"]) (G_law_pair : Gd P w K mg base CX0 1 "_law_pair" ["_law_one", "_law_two"] (sp_order K T)) :
    Gd P w K mg base CX0 2 "_law_pair_due" ["_law_page", "_law_word", "_law_some"] (sp_pairDue K T) := by
  refine D.ok (k := 1) S_law_pair_due (fun vs H Q E h => ?_) (fun f cdv A outer s H vs Q E hr h => ?_)
  · obtain ⟨pv, g, wd, sa, x, y, d, rfl, _⟩ := h
    rfl
  · obtain ⟨pv, g, wd, sa, x, y, d, rfl, hP, og, sz, hsa, hx, hy, hd, q⟩ := h
    obtain ⟨pa, pn, st, rfl, hpa, hpn, hst⟩ := dp_two hP
    obtain ⟨pb, sv, ev, rfl, hpb, hsv, hev⟩ := dp_two hpn
    -- slots: 0:_law_page 1:_law_word 2:_law_some 3:_law_panel_here 4:_law_state_here 5:_law_pair_here* 6:_law_near
    refine ⟨_, (pss_cons (ps_asg (pe_tup (pa_cons (pv 0) (pa_cons (pcl G_law_pair rfl (hr.mono (by decide)) p0 (pa_cons (pe_ix (ix_listK K) (pv 2) pe_int (fun _ _ => rfl)) (pa_cons (pe_ix (ix_listK K) (pv 2) pe_int (fun _ _ => rfl)) pa_nil))) pa_nil))) (pg_tup rfl (pgs_cons (pg_tup rfl (pgs_cons (pg_name (i := 3) S_law_pair_due.nd rfl (Or.inl rfl)) (pgs_cons (pg_name (i := 4) S_law_pair_due.nd rfl (Or.inl rfl)) pgs_nil))) (pgs_cons (pg_name (i := 5) S_law_pair_due.nd rfl (Or.inr rfl)) pgs_nil))))
    (pss_cons (ps_if (pt_cmpR op_eq (pv 1) pe_str (nomark _)) (pss_cons (ps_if (pt_cmpR (op_notInP K (hu65_of hr)) (pv 5) (pe_ix (ix_tupK K) (pv 3) pe_int (fun _ _ => rfl)) rfl) (pss_one (ps_ret (pe_tup (pa_cons pe_str (pa_cons (pv 5) pa_nil))))) pss_nil)
      (pss_one (ps_ret (pe_tup (pa_cons pe_non (pa_cons (pe_tup (pa_cons (pe_tup (pa_cons (pe_ix (ix_tupK K) (pv 3) pe_int (fun _ _ => rfl)) (pa_cons (pe_callTy (call_tuple_ofK K) rfl TX.n_tuple (by decide +kernel) (pa_cons (pe_lc (own := [("_law_near", 6)]) rfl S_law_pair_due.nd (pi_tup (pe_ix (ix_tupK K) (pv 3) pe_int (fun _ _ => rfl))) (blkOk_by (N := ["_law_page", "_law_word", "_law_some", "_law_panel_here", "_law_state_here", "_law_pair_here", "_law_near"]) (sc := defScope s_law_pair_due) (by decide +kernel)) (fun _ _ _ _ _ => (pg_name (i := 6) S_law_pair_due.nd rfl (Or.inl rfl))) (fun _ _ _ _ _ => (pts_one (pt_cmpR (op_neDK K (hu64_of hr)) (pv 6) (pv 5) (nomark _)))) (fun _ _ _ _ _ => (pv 6))) pa_nil)) pa_nil))) (pa_cons (pv 4) pa_nil))) pa_nil)))))) pss_nil)
    (pss_cons (ps_if (pt_cmpR op_eq (pe_ix (ix_listK K) (pv 2) pe_int (fun _ _ => rfl)) (pe_ix (ix_listK K) (pv 2) pe_int (fun _ _ => rfl)) (nomark _)) (pss_one (ps_ret (pe_tup (pa_cons pe_str (pa_cons (pe_ix (ix_listK K) (pv 2) pe_int (fun _ _ => rfl)) pa_nil))))) pss_nil)
    (pss_cons (ps_if (pt_cmpR (op_inP K (hu65_of hr)) (pv 5) (pe_ix (ix_tupK K) (pv 3) pe_int (fun _ _ => rfl)) rfl) (pss_one (ps_ret (pe_tup (pa_cons pe_str (pa_cons (pv 5) pa_nil))))) pss_nil)
    (pss_cons (ps_if (PW.pt (pw_and (pt_cmpR (op_in_seqK K) (pe_ix (ix_listK K) (pv 2) pe_int (fun _ _ => rfl)) (pv 4) rfl) (pw_and1 (pt_cmpR (op_in_seqK K) (pe_ix (ix_listK K) (pv 2) pe_int (fun _ _ => rfl)) (pv 4) rfl)))) (pss_one (ps_ret (pe_tup (pa_cons pe_str (pa_cons (pv 5) pa_nil))))) pss_nil)
    (pss_one (ps_ret (pe_tup (pa_cons pe_non (pa_cons (pe_tup (pa_cons (pe_tup (pa_cons (pe_ix (ix_tupK K) (pv 3) pe_int (fun _ _ => rfl)) (pa_cons (pe_callTy (call_tuple_ofK K) rfl TX.n_tuple (by decide +kernel) (pa_cons (pe_callB (cr_sortedPAK K) rfl TX.n_sorted (by decide +kernel) (pa_cons (pe_op op_catA (pe_ix (ix_tupK K) (pv 3) pe_int (fun _ _ => rfl)) (pe_tup (pa_cons (pv 5) pa_nil))) pa_nil)) pa_nil)) pa_nil))) (pa_cons (pv 4) pa_nil))) pa_nil)))))))))), ?_⟩
    refine ⟨.ref pa, rfl, .ref sa, rfl, sa, _, 0, .str x, rfl, rfl, hsa, rfl, .ref sa, rfl, sa, _, 1, .str y, rfl, rfl, hsa, rfl, x, y, rfl, fun pv2 H1 f1 hp2 => ⟨small' 2 (by decide), fun t ht => ?_⟩⟩
    have f2 : Fr T [] H1 (upd H1 t (.tup [.ref pa, pv2])) := Fr.refl.nw ht
    have F2 := f1.trans f2
    refine ⟨t, _, rfl, sqT upd_same, rfl, _, _, rfl, pa, _, rfl, F2.sqT hpa, rfl, _, _, rfl, _, _, rfl, rfl, _, _, rfl, rfl, ?_⟩
    have hp3 := f2.dpr hp2
    have hpb3 := F2.sqT hpb
    have hev3 := F2.dps hev
    have hsv3 := F2.dst hsv
    have hst3 := F2.dst hst
    have hsa3 := F2.sqL hsa
    obtain ⟨ea, es, rfl, hea, hes⟩ := dp_ps hev3
    obtain ⟨ss, rfl, hss⟩ := dp_st hst3
    have ho := ord_ok (og.sw x hx) (og.sw y hy)
    have ln := dpAll_len hes
    rw [List.length_map] at ln
    have lps := sz.ps
    have fail : ∀ (s : Str) (r : V), dstep g d = none → ∀ u, (upd H1 t (.tup [.ref pa, pv2])) u = none → Q (.ref u) (upd (upd H1 t (.tup [.ref pa, pv2])) u (.tup [.str s, r])) := fun s r e u hu => q _ _ (F2.nw hu) (.inr ⟨e, u, s, r, rfl, upd_same⟩)
    rcases hd with ⟨rfl, rfl⟩ | ⟨rfl, rfl⟩
    · -- allow
      refine ⟨_, rfl, rfl, true, rfl, iteT ?_⟩
      refine ⟨pv2, rfl, .ref pb, rfl, pb, _, 1, .ref ea, rfl, rfl, hpb3, rfl, ordB x y, g.1.2, hp3, hev3, ho.1, ho.2, og.ps, _, rfl, ?_⟩
      show if (!decide (ordB x y ∈ g.1.2)) = true then _ else _
      by_cases hin : ordB x y ∈ g.1.2
      · rw [decide_eq_true hin]
        refine iteF ?_
        refine ⟨.ref pb, rfl, pb, _, 0, sv, rfl, rfl, hpb3, rfl, .ref pb, rfl, pb, _, 1, .ref ea, rfl, rfl, hpb3, rfl, ea, rfl, ⟨_, hea⟩, fun D hD => ?_⟩
        refine lc_filtT (as := g.1.2) (c := prD) (q := fun p => !decide (p = ordB x y)) hD hea (by omega) hes (fun z e acc he hz => ?_) (fun acc hacc => ?_)
        · have fD : Fr T [] (upd H1 t (.tup [.ref pa, pv2])) (upd (upd H1 t (.tup [.ref pa, pv2])) D (.lst acc)) := Fr.refl.nw hD
          refine ⟨[some (.ref pa), some (.str "allow"), some (.ref sa), some (.ref pb), some (.ref ss), some pv2, some z], rfl, fun Q h => h, fun Q h => ?_, fun _ Q h => ⟨_, rfl, h⟩⟩
          refine ⟨z, rfl, pv2, rfl, prD e, prD (ordB x y), fD.dpr hz, fD.dpr hp3, (lay_pr (og.ps e he).1 (og.ps e he).2).shaped (by decide), (lay_pr ho.1 ho.2).shaped (by decide), _, rfl, ?_⟩
          rw [eqv_pr]
          exact h
        · refine ⟨D, acc, rfl, .inl ⟨sqL upd_same, fun u hu => ⟨small' 2 (by decide), fun m hm => ⟨.ref ss, rfl, small' 2 (by decide), fun m2 hm2 => ⟨small' 2 (by decide), fun m3 hm3 => ?_⟩⟩⟩⟩⟩
          have f5 : Fr T [] (upd H1 t (.tup [.ref pa, pv2])) (upd (upd (upd H1 t (.tup [.ref pa, pv2])) D (.lst acc)) u (.tup acc)) := (Fr.refl.nw hD).nw hu
          have f6 : Fr T [] (upd (upd (upd H1 t (.tup [.ref pa, pv2])) D (.lst acc)) u (.tup acc)) (upd (upd (upd (upd (upd (upd H1 t (.tup [.ref pa, pv2])) D (.lst acc)) u (.tup acc)) m (.tup [sv, .ref u])) m2 (.tup [.ref m, .ref ss])) m3 (.tup [.non, .ref m2])) := ((Fr.refl.nw hm).nw hm2).nw hm3
          have F6 := f5.trans f6
          have hacc6 := f6.prs ((Fr.refl (T := T) (S := [])).nw hu |>.prs ((Fr.refl (T := T) (S := [])).nw hD |>.prs hacc))
          refine q _ _ (F2.trans F6) (.inl ⟨((g.1.1, g.1.2.filter fun p => !decide (p = ordB x y)), g.2), if_pos ⟨hx, hy, hin⟩, m3, .non, .ref m2, rfl, upd_same, rfl, ?_⟩)
          refine dp_two_of (sqT (upd_old hm3 _ _ upd_same)) (dp_two_of (sqT (upd_old hm3 _ _ (upd_old hm2 _ _ upd_same))) (F6.dst hsv3) (.tup (f6.sqT (sqT upd_same)) hacc6)) (dp_st_of (F6.sqT hss))
      · rw [decide_eq_false hin]
        exact iteT ⟨pv2, rfl, small' 2 (by decide), fun u hu => fail _ _ (if_neg fun c => hin c.2.2) u hu⟩
    · -- exclude
      refine ⟨_, rfl, rfl, false, rfl, iteF ?_⟩
      refine ⟨.ref sa, rfl, sa, _, 0, .str x, rfl, rfl, hsa3, rfl, .ref sa, rfl, sa, _, 1, .str y, rfl, rfl, hsa3, rfl, rfl, _, rfl, ?_⟩
      rw [dec_str]
      by_cases exy : x = y
      · rw [decide_eq_true exy]
        exact iteT ⟨.ref sa, rfl, sa, _, 0, .str x, rfl, rfl, hsa3, rfl, small' 2 (by decide), fun u hu => fail _ _ (if_neg fun c => c.2.2.1 exy) u hu⟩
      rw [decide_eq_false exy]
      refine iteF ⟨pv2, rfl, .ref pb, rfl, pb, _, 1, .ref ea, rfl, rfl, hpb3, rfl, ordB x y, g.1.2, hp3, hev3, ho.1, ho.2, og.ps, _, rfl, ?_⟩
      show if decide (ordB x y ∈ g.1.2) = true then _ else _
      by_cases hin : ordB x y ∈ g.1.2
      · rw [decide_eq_true hin]
        exact iteT ⟨pv2, rfl, small' 2 (by decide), fun u hu => fail _ _ (if_neg fun c => c.2.2.2.1 hin) u hu⟩
      rw [decide_eq_false hin]
      refine iteF ?_
      refine tNextI ?_
      dsimp only
      have tst : ∀ (i : Nat) (z : Str), ([V.str x, V.str y])[i]? = some (.str z) → ∀ (Q : V → Hp → Prop), Q (.bl (decide (z ∈ g.2))) (upd H1 t (.tup [.ref pa, pv2])) → rIn K false (.str z) (.ref ss) (upd H1 t (.tup [.ref pa, pv2])) Q := fun i z hz Q hQ => by
        refine ⟨ss, _, rfl, .inr hss, rfl, flat_strs _, ?_⟩
        show Q (.bl (inV (V.str z) (g.2.map V.str))) _
        rw [inV_strs]
        exact hQ
      refine tSeqI (tIfSI (and_test (x ∈ g.2) (y ∈ g.2) (fun R h => ⟨.ref sa, rfl, sa, _, 0, .str x, rfl, rfl, hsa3, rfl, .ref ss, rfl, tst 0 x rfl _ ⟨_, rfl, h⟩⟩) (fun _ R h => ⟨.ref sa, rfl, sa, _, 1, .str y, rfl, rfl, hsa3, rfl, .ref ss, rfl, tst 1 y rfl _ ⟨_, rfl, h⟩⟩) ?_))
      by_cases hboth : x ∈ g.2 ∧ y ∈ g.2
      · rw [decide_eq_true hboth]
        exact iteT ⟨pv2, rfl, small' 2 (by decide), fun u hu => fail _ _ (if_neg fun c => c.2.2.2.2 hboth) u hu⟩
      rw [decide_eq_false hboth]
      refine iteF ?_
      refine ⟨.ref pb, rfl, pb, _, 0, sv, rfl, rfl, hpb3, rfl, .ref pb, rfl, pb, _, 1, .ref ea, rfl, rfl, hpb3, rfl, pv2, rfl, small' 1 (by decide), fun u hu => ?_⟩
      have fu : Fr T [] (upd H1 t (.tup [.ref pa, pv2])) (upd (upd H1 t (.tup [.ref pa, pv2])) u (.tup [pv2])) := Fr.refl.nw hu
      refine catA (T := T) (fu.sqT hea) (sqT upd_same) (by simp; omega) fun c H5 f5 hc => ?_
      refine ⟨c, es ++ [pv2], g.1.2 ++ [ordB x y], rfl, .inr hc, ?_, fun ys p hp hys hyl => ?_⟩
      · rw [List.map_append]
        exact dpAll_app (f5.prs (fu.prs hes)) (.cons (f5.dpr (fu.dpr hp3)) .nil)
      refine ⟨p, ys, rfl, .inl ⟨sqL upd_same, fun m0 hm0 => ⟨small' 2 (by decide), fun m hm => ⟨.ref ss, rfl, small' 2 (by decide), fun m2 hm2 => ⟨small' 2 (by decide), fun m3 hm3 => ?_⟩⟩⟩⟩⟩
      have f6 : Fr T [] (upd (upd H5 p (.lst ys)) m0 (.tup ys)) (upd (upd (upd (upd (upd H5 p (.lst ys)) m0 (.tup ys)) m (.tup [sv, .ref m0])) m2 (.tup [.ref m, .ref ss])) m3 (.tup [.non, .ref m2])) := ((Fr.refl.nw hm).nw hm2).nw hm3
      have f5' : Fr T [] H5 (upd (upd H5 p (.lst ys)) m0 (.tup ys)) := (Fr.refl.nw hp).nw hm0
      have F6 := ((fu.trans f5).trans f5').trans f6
      refine q _ _ (F2.trans F6) (.inl ⟨((g.1.1, sortP (g.1.2 ++ [ordB x y])), g.2), if_pos ⟨hx, hy, exy, hin, hboth⟩, m3, .non, .ref m2, rfl, upd_same, rfl, ?_⟩)
      refine dp_two_of (sqT (upd_old hm3 _ _ upd_same)) (dp_two_of (sqT (upd_old hm3 _ _ (upd_old hm2 _ _ upd_same))) (F6.dst hsv3) (.tup (f6.sqT (sqT upd_same)) (f6.prs (f5'.prs hys)))) (dp_st_of (F6.sqT hss))
end
end Ob

/-! LE: what is due of a deed -/
namespace Ob
open PySem PySem.Spec PyProof.Rows L2 LamX
theorem miss_nil {xs sw : List Str} : ((xs.filter fun x => !decide (x ∈ sw)).take 1 = []) ↔ ∀ x ∈ xs, x ∈ sw := by
  constructor
  · intro h x hx
    have e : xs.filter (fun x => !decide (x ∈ sw)) = [] := by
      cases z : xs.filter (fun x => !decide (x ∈ sw)) with
      | nil => rfl
      | cons a r => rw [z] at h; cases h
    have := List.filter_eq_nil_iff.mp e x hx
    by_cases c : x ∈ sw
    · exact c
    · rw [decide_eq_false c] at this
      exact absurd rfl this
  · intro h
    have e : xs.filter (fun x => !decide (x ∈ sw)) = [] := List.filter_eq_nil_iff.mpr fun x hx => by
      rw [decide_eq_true (h x hx)]
      exact Bool.false_ne_true
    rw [e]
    rfl
section
variable {P : Program} {w : World} {K : PySem.W.Frag} {mg : Str → Option Value} {base : Heap} {T : List (Addr × Str)}
def sp_due (K : PySem.W.Frag) (T : List (Addr × Str)) : Sp := fun vs H Q _ => ∃ (pv : V) (g : Pg) (t h : Addr) (d : Deed), vs = [pv, .ref t] ∧ Dp K H pv (pgD g) ∧ Ok g ∧ Sz g 40000 ∧ DeedAt H t h d ∧ DOk d ∧
  ∀ v H', Fr T [] H H' → DueAt K H H' v g d → Q v H'
theorem miss_step {D : Ends} {σ : L2.St} {H : Hp} {E1 E2 : L2.St → XK} {pb so : Addr} {P : Pan} {xs : List Str} (h2 : σ[2]? = some (some (.ref pb))) (h6 : σ[6]? = some (some (.ref so))) (hP : Dp K H (.ref pb) (panD P)) (hx : SqL K H so (xs.map V.str)) (ok : ∀ x ∈ xs, okS x) (hl : xs.length ≤ 1000)
    (hfail : ¬ (∀ x ∈ xs, x ∈ P.1) → ∀ u r H', Fr T [] H H' → H' u = none → D.rt (.ref u) (upd H' u (.tup [.str "NoSwitch", r]))) (hok : (∀ x ∈ xs, x ∈ P.1) → ∀ H', Fr T [] H H' → D.nx σ H') :
    tIfS (tTest (tOp (rNeD K) (tCallS (sp_missing K T) E1 (tCons (tVar 2) (tCons (tVar 6) tNil))) (tLst tNil))) (tRet (tTup (tCons (tC (.str "NoSwitch")) (tCons (tOp (rIxL K) (tCallS (sp_missing K T) E2 (tCons (tVar 2) (tCons (tVar 6) tNil))) (tC (.int 0))) tNil)))) tNext D σ H := by
  refine ⟨.ref pb, h2, .ref so, h6, .ref pb, P, so, xs, rfl, hP, hx, hl, fun l3 H3 nl3 f3 hl3 => ⟨small' 0 (by decide), fun u hu => ?_⟩⟩
  have fu : Fr T [] H3 (upd H3 u (.lst [])) := Fr.refl.nw hu
  have okx : ∀ s ∈ (xs.filter fun x => !decide (x ∈ P.1)).take 1, okS s := fun s hs => ok s (List.mem_filter.mp (List.mem_of_mem_take hs)).1
  refine ⟨.list (((xs.filter fun x => !decide (x ∈ P.1)).take 1).map PyData.str), .list [], .lst (sqL (fu.lst hl3)) (dpAll_strs _), .lst (sqL upd_same) .nil, (lay_list okx).shaped (by decide), (lay_list (R := []) fun s h => absurd h (by simp)).shaped (by decide), _, rfl, ?_⟩
  rw [eqv_nil]
  by_cases hall : ∀ x ∈ xs, x ∈ P.1
  · rw [decide_eq_true (miss_nil.mpr hall)]
    exact iteF (hok hall _ (f3.trans fu))
  · have hne : ¬ (xs.filter fun x => !decide (x ∈ P.1)).take 1 = [] := fun z => hall (miss_nil.mp z)
    rw [decide_eq_false hne]
    have F := f3.trans fu
    refine iteT ⟨.ref pb, h2, .ref so, h6, .ref pb, P, so, xs, rfl, F.dpan hP, F.sqL hx, hl, fun l4 H4 nl4 f4 hl4 => ?_⟩
    cases e : (xs.filter fun x => !decide (x ∈ P.1)).take 1 with
    | nil => exact absurd e hne
    | cons z r =>
      rw [e] at hl4
      exact ⟨l4, _, 0, .str z, rfl, rfl, sqL hl4, atI_nat (j := 0) rfl, small' 2 (by decide), fun v hv => hfail hall v _ _ (F.trans f4) hv⟩
theorem ok_due (TX : Txt mg) (D : Df K mg "_law_due" "_law_due" s_law_due ["_law_page", "_law_deed_here"]) (G_law_is_name : Gd P w K mg base CX0 1 "_law_is_name" ["_law_thing"] (sp_isName T)) (G_law_missing : Gd P w K mg base CX0 1 "_law_missing" ["_law_panel_here", "_law_some"] (sp_missing K T))
    (G_law_run_due : Gd P w K mg base CX0 2 "_law_run_due" ["_law_panel_here", "_law_state_here", "_law_presses_here"] (sp_runDue K T)) (G_law_pair_due : Gd P w K mg base CX0 2 "_law_pair_due" ["_law_page", "_law_word", "_law_some"] (sp_pairDue K T)) :
    Gd P w K mg base CX0 3 "_law_due" ["_law_page", "_law_deed_here"] (sp_due K T) := by
  refine D.ok (k := 2) S_law_due (fun vs H Q E h => ?_) (fun f cdv A outer s H vs Q E hr h => ?_)
  · obtain ⟨pv, g, t, h, d, rfl, _⟩ := h
    rfl
  · obtain ⟨pv, g, t, h0, d, rfl, hP, og, sz, ⟨hT, hR⟩, dok, q⟩ := h
    obtain ⟨pa, pn, st, rfl, hpa, hpn, hst⟩ := dp_two hP
    obtain ⟨pb, sv, ev, rfl, hpb, hsv, hev⟩ := dp_two hpn
    obtain ⟨sa, rfl, hsa⟩ := dp_st hsv
    obtain ⟨ea, es, rfl, hea, hes⟩ := dp_ps hev
    obtain ⟨ss, rfl, hss⟩ := dp_st hst
    have lsw := sz.sw
    have lps := sz.ps
    have lst := sz.st
    -- slots: 0:_law_page 1:_law_deed_here 2:_law_panel_here 3:_law_state_here 4:_law_word 5:_law_things 6:_law_some* 7:_law_found 8:_law_left 9:_law_pairs 10:_law_name 11:_law_pair_here
    refine ⟨_, (pss_cons (ps_asg (pe_tup (pa_cons (pv 0) (pa_cons (pe_ix (ix_tupK K) (pv 1) pe_int (fun _ _ => rfl)) (pa_cons (pe_callTy call_list_of rfl TX.n_list (by decide +kernel) (pa_cons (pe_slice sl_tupA (pv 1) (po_some pe_int) po_none) pa_nil)) pa_nil)))) (pg_tup rfl (pgs_cons (pg_tup rfl (pgs_cons (pg_name (i := 2) S_law_due.nd rfl (Or.inl rfl)) (pgs_cons (pg_name (i := 3) S_law_due.nd rfl (Or.inl rfl)) pgs_nil))) (pgs_cons (pg_name (i := 4) S_law_due.nd rfl (Or.inl rfl)) (pgs_cons (pg_name (i := 5) S_law_due.nd rfl (Or.inl rfl)) pgs_nil)))))
    (pss_cons (ps_if (pt_cmpR op_eq (pv 4) pe_str (nomark _)) (pss_cons (ps_if (pt_not (pt_val (pcl G_law_is_name rfl (hr.mono (by decide)) p0 (pa_cons (pe_ix (ix_listK K) (pv 5) pe_int (fun _ _ => rfl)) pa_nil)))) (pss_one (ps_ret (pe_tup (pa_cons pe_str (pa_cons (pe_ix (ix_listK K) (pv 5) pe_int (fun _ _ => rfl)) pa_nil))))) pss_nil)
      (pss_cons (ps_if (pt_cmpR (op_in_seqK K) (pe_ix (ix_listK K) (pv 5) pe_int (fun _ _ => rfl)) (pe_ix (ix_tupK K) (pv 2) pe_int (fun _ _ => rfl)) rfl) (pss_one (ps_ret (pe_tup (pa_cons pe_str (pa_cons (pe_ix (ix_listK K) (pv 5) pe_int (fun _ _ => rfl)) pa_nil))))) pss_nil)
      (pss_one (ps_ret (pe_tup (pa_cons pe_non (pa_cons (pe_tup (pa_cons (pe_tup (pa_cons (pe_callTy (call_tuple_ofK K) rfl TX.n_tuple (by decide +kernel) (pa_cons (pe_callB (cr_sortedAK K) rfl TX.n_sorted (by decide +kernel) (pa_cons (pe_op op_catA (pe_ix (ix_tupK K) (pv 2) pe_int (fun _ _ => rfl)) (pe_tup (pa_cons (pe_ix (ix_listK K) (pv 5) pe_int (fun _ _ => rfl)) pa_nil))) pa_nil)) pa_nil)) (pa_cons (pe_ix (ix_tupK K) (pv 2) pe_int (fun _ _ => rfl)) pa_nil))) (pa_cons (pv 3) pa_nil))) pa_nil))))))) pss_nil)
    (pss_cons (ps_set (i := 6) S_law_due.nd rfl (Or.inr rfl) (pe_ifExp (pt_cmpR op_eq (pv 4) pe_str (nomark _)) (pe_ix (ix_listK K) (pv 5) pe_int (fun _ _ => rfl)) (pv 5)))
    (pss_cons (ps_if (pt_cmpR (op_neDK K (hu64_of hr)) (pcl G_law_missing rfl (hr.mono (by decide)) p0 (pa_cons (pv 2) (pa_cons (pv 6) pa_nil))) (pe_lst pa_nil) (nomark _)) (pss_one (ps_ret (pe_tup (pa_cons pe_str (pa_cons (pe_ix (ix_listK K) (pcl G_law_missing rfl (hr.mono (by decide)) p0 (pa_cons (pv 2) (pa_cons (pv 6) pa_nil))) pe_int (fun _ _ => rfl)) pa_nil))))) pss_nil)
    (pss_cons (ps_if (pt_cmpR (op_in_seqK K) (pv 4) (pe_tup (pa_cons pe_str (pa_cons pe_str pa_nil))) rfl) (pss_cons (ps_asg (pcl G_law_run_due rfl (hr.mono (by decide)) p0 (pa_cons (pv 2) (pa_cons (pv 3) (pa_cons (pv 6) pa_nil)))) (pg_tup rfl (pgs_cons (pg_name (i := 7) S_law_due.nd rfl (Or.inl rfl)) (pgs_cons (pg_name (i := 3) S_law_due.nd rfl (Or.inl rfl)) pgs_nil))))
      (pss_one (ps_ret (pe_tup (pa_cons (pe_ifExp (pt_cmpR op_eq (pv 4) pe_str (nomark _)) (pe_ix (ix_listK K) (pv 7) pe_int (fun _ _ => rfl)) (pv 7)) (pa_cons (pe_tup (pa_cons (pv 2) (pa_cons (pv 3) pa_nil))) pa_nil)))))) pss_nil)
    (pss_cons (ps_if (pt_cmpR op_eq (pv 4) pe_str (nomark _)) (pss_cons (ps_if (pt_cmpR op_eq (pe_callB call_len_seq rfl TX.n_len (by decide +kernel) (pa_cons (pe_ix (ix_tupK K) (pv 2) pe_int (fun _ _ => rfl)) pa_nil)) pe_int (nomark _)) (pss_one (ps_ret (pe_tup (pa_cons pe_str (pa_cons pe_non pa_nil))))) pss_nil)
      (pss_cons (ps_set (i := 8) S_law_due.nd rfl (Or.inl rfl) (pe_callTy (call_tuple_ofK K) rfl TX.n_tuple (by decide +kernel) (pa_cons (pe_lc (own := [("_law_name", 10)]) rfl S_law_due.nd (pi_tup (pe_ix (ix_tupK K) (pv 2) pe_int (fun _ _ => rfl))) (blkOk_by (N := ["_law_page", "_law_deed_here", "_law_panel_here", "_law_state_here", "_law_word", "_law_things", "_law_some", "_law_found", "_law_left", "_law_pairs", "_law_name", "_law_pair_here"]) (sc := defScope s_law_due) (by decide +kernel)) (fun _ _ _ _ _ => (pg_name (i := 10) S_law_due.nd rfl (Or.inl rfl))) (fun _ _ _ _ _ => (pts_one (pt_cmpR op_ne (pv 10) (pe_ix (ix_listK K) (pv 6) pe_int (fun _ _ => rfl)) (nomark _)))) (fun _ _ _ _ _ => (pv 10))) pa_nil)))
      (pss_cons (ps_set (i := 9) S_law_due.nd rfl (Or.inl rfl) (pe_callTy (call_tuple_ofK K) rfl TX.n_tuple (by decide +kernel) (pa_cons (pe_lc (own := [("_law_pair_here", 11)]) rfl S_law_due.nd (pi_tup (pe_ix (ix_tupK K) (pv 2) pe_int (fun _ _ => rfl))) (blkOk_by (N := ["_law_page", "_law_deed_here", "_law_panel_here", "_law_state_here", "_law_word", "_law_things", "_law_some", "_law_found", "_law_left", "_law_pairs", "_law_name", "_law_pair_here"]) (sc := defScope s_law_due) (by decide +kernel)) (fun _ _ _ _ _ => (pg_name (i := 11) S_law_due.nd rfl (Or.inl rfl))) (fun _ _ _ _ _ => (pts_one (pt_cmpR (op_notIn_seqK K) (pe_ix (ix_listK K) (pv 6) pe_int (fun _ _ => rfl)) (pv 11) rfl))) (fun _ _ _ _ _ => (pv 11))) pa_nil)))
      (pss_one (ps_ret (pe_tup (pa_cons pe_non (pa_cons (pe_tup (pa_cons (pe_tup (pa_cons (pv 8) (pa_cons (pv 9) pa_nil))) (pa_cons (pe_callTy (call_tuple_ofK K) rfl TX.n_tuple (by decide +kernel) (pa_cons (pe_lc (own := [("_law_name", 10)]) rfl S_law_due.nd (pi_tup (pv 3)) (blkOk_by (N := ["_law_page", "_law_deed_here", "_law_panel_here", "_law_state_here", "_law_word", "_law_things", "_law_some", "_law_found", "_law_left", "_law_pairs", "_law_name", "_law_pair_here"]) (sc := defScope s_law_due) (by decide +kernel)) (fun _ _ _ _ _ => (pg_name (i := 10) S_law_due.nd rfl (Or.inl rfl))) (fun _ _ _ _ _ => (pts_one (pt_cmpR op_ne (pv 10) (pe_ix (ix_listK K) (pv 6) pe_int (fun _ _ => rfl)) (nomark _)))) (fun _ _ _ _ _ => (pv 10))) pa_nil)) pa_nil))) pa_nil)))))))) pss_nil)
    (pss_one (ps_ret (pcl G_law_pair_due rfl (hr.mono (by decide)) p0 (pa_cons (pv 0) (pa_cons (pv 4) (pa_cons (pv 6) pa_nil)))))))))))), ?_⟩
    refine ⟨.ref pa, rfl, .ref t, rfl, t, _, 0, .str (dword d), rfl, rfl, sqT hT, atI_nat (j := 0) rfl, .ref t, rfl, 1, rfl, ?_⟩
    simp only [tNoPart]
    refine slA (T := T) (by intro z; cases z) (sqT hT) fun p H1 f1 hp => ⟨p, _, rfl, .inr hp, fun l hl => ⟨small' 3 (by decide), fun m hm => ?_⟩⟩
    have hT1 : (V.str (dword d) :: dargs h0 d).drop 1 = dargs h0 d := rfl
    rw [hT1] at hm ⊢
    let H2 : Hp := upd (upd H1 l (.lst (dargs h0 d))) m (.tup [.ref pa, .str (dword d), .ref l])
    have f2 : Fr T [] H1 H2 := (Fr.refl.nw hl).nw hm
    have F2 := f1.trans f2
    have hll : H2 l = some (.lst (dargs h0 d)) := upd_old hm _ _ upd_same
    refine ⟨m, _, rfl, sqT upd_same, rfl, _, _, rfl, pa, _, rfl, F2.sqT hpa, rfl, _, _, rfl, _, _, rfl, rfl, _, _, rfl, _, _, rfl, rfl, ?_⟩
    have hpb2 := F2.sqT hpb
    have hpn2 := F2.dpan hpn
    have hst2 := F2.dst hst
    have fail : ∀ {H3 : Hp} (s : Str) (r : V), Fr T [] H2 H3 → dstep g d = none → ∀ u, H3 u = none → Q (.ref u) (upd H3 u (.tup [.str s, r])) := fun s r f3 e u hu => q _ _ ((F2.trans f3).nw hu) (.inr ⟨e, u, s, r, rfl, upd_same⟩)
    cases d with
    | add x =>
      refine ⟨_, rfl, rfl, true, rfl, iteT ?_⟩
      refine ⟨.ref l, rfl, l, _, 0, .str x, rfl, rfl, sqL hll, rfl, x, rfl, Nat.le_trans dok.2 (by decide), fun H3 f3 => ⟨_, rfl, ?_⟩⟩
      have hl3 := f3.lst hll
      by_cases hn : isName x = true
      · rw [hn]
        refine iteF ?_
        refine ⟨.ref l, rfl, l, _, 0, .str x, rfl, rfl, sqL hl3, rfl, .ref pb, rfl, pb, _, 0, .ref sa, rfl, rfl, f3.sqT hpb2, rfl, sa, _, rfl, .inr (f3.sqT (F2.sqT hsa)), rfl, flat_strs _, _, rfl, ?_⟩
        show if inV (V.str x) (g.1.1.map V.str) = true then _ else _
        rw [inV_strs]
        by_cases hm2 : x ∈ g.1.1
        · rw [decide_eq_true hm2]
          exact iteT ⟨.ref l, rfl, l, _, 0, .str x, rfl, rfl, sqL hl3, rfl, small' 2 (by decide), fun u hu => fail _ _ f3 (if_neg fun c => c.2 hm2) u hu⟩
        · rw [decide_eq_false hm2]
          refine iteF ?_
          refine ⟨.ref pb, rfl, pb, _, 0, .ref sa, rfl, rfl, f3.sqT hpb2, rfl, .ref l, rfl, l, _, 0, .str x, rfl, rfl, sqL hl3, rfl, small' 1 (by decide), fun u hu => ?_⟩
          have fu : Fr T [] H3 (upd H3 u (.tup [.str x])) := Fr.refl.nw hu
          refine catA (T := T) (fu.sqT (f3.sqT (F2.sqT hsa))) (sqT upd_same) (by rw [List.length_map]; simp; omega) fun c H5 f5 hc => ?_
          refine ⟨c, g.1.1 ++ [x], rfl, .inr ?_, fun p2 hp2 => ⟨p2, _, rfl, .inl ⟨sqL upd_same, fun m0 hm0 => ⟨.ref pb, rfl, pb, [.ref sa, .ref ea], 1, .ref ea, rfl, rfl, ?_, rfl, small' 2 (by decide), fun m1 hm1 => ⟨.ref ss, rfl, small' 2 (by decide), fun m2 hm2 => ⟨small' 2 (by decide), fun m3 hm3 => ?_⟩⟩⟩⟩⟩⟩
          · rw [List.map_append]
            exact hc
          · exact ((Fr.refl (T := T) (S := [])).nw hp2 |>.nw hm0).sqT (f5.sqT (fu.sqT (f3.sqT hpb2)))
          · have f5' : Fr T [] H5 (upd (upd H5 p2 (.lst ((sortS (g.1.1 ++ [x])).map V.str))) m0 (.tup ((sortS (g.1.1 ++ [x])).map V.str))) := (Fr.refl.nw hp2).nw hm0
            have f6 : Fr T [] (upd (upd H5 p2 (.lst ((sortS (g.1.1 ++ [x])).map V.str))) m0 (.tup ((sortS (g.1.1 ++ [x])).map V.str))) (upd (upd (upd (upd (upd H5 p2 (.lst ((sortS (g.1.1 ++ [x])).map V.str))) m0 (.tup ((sortS (g.1.1 ++ [x])).map V.str))) m1 (.tup [.ref m0, .ref ea])) m2 (.tup [.ref m1, .ref ss])) m3 (.tup [.non, .ref m2])) := ((Fr.refl.nw hm1).nw hm2).nw hm3
            have F6 := (((F2.trans f3).trans fu).trans f5).trans f5' |>.trans f6
            refine q _ _ F6 (.inl ⟨((sortS (g.1.1 ++ [x]), g.1.2), g.2), if_pos ⟨hn, by assumption⟩, m3, .non, .ref m2, rfl, upd_same, rfl, ?_⟩)
            exact dp_two_of (sqT (upd_old hm3 _ _ upd_same)) (dp_two_of (sqT (upd_old hm3 _ _ (upd_old hm2 _ _ upd_same))) (dp_st_of (f6.sqT (sqT upd_same))) (F6.dps hev)) (F6.dst hst)
      · have hn' : isName x = false := by
          cases e : isName x with
          | false => rfl
          | true => exact absurd e hn
        rw [hn']
        exact iteT ⟨.ref l, rfl, l, _, 0, .str x, rfl, rfl, sqL hl3, rfl, small' 2 (by decide), fun u hu => fail _ _ f3 (if_neg fun c => hn c.1) u hu⟩
    | press x =>
      have sl : SqL K H2 l (([x] : List Str).map V.str) := sqL hll
      refine ⟨_, rfl, rfl, false, rfl, iteF ⟨_, rfl, rfl, false, rfl, iteF ⟨.ref l, rfl, ?_⟩⟩⟩
      dsimp only [gName]
      refine tSeqI (miss_step (K := K) (T := T) (pb := pb) (so := l) (P := g.1) (xs := [x]) rfl rfl hpn2 sl (fun z hz => List.mem_singleton.mp hz ▸ dok) (by show 1 ≤ 1000; decide) (fun hno u r H3 f3 hu => fail _ _ f3 (if_neg fun c => hno fun z hz => List.mem_singleton.mp hz ▸ c) u hu) fun hall H3 f3 => ?_)
      have hx : x ∈ g.1.1 := hall x (by simp)
      dsimp only
      refine ⟨_, rfl, small' 2 (by decide), fun u hu => ⟨u, _, rfl, .inr (sqT upd_same), rfl, rfl, true, rfl, iteT ?_⟩⟩
      have fu := f3.nw (o := .tup [V.str "press", V.str "run"]) hu
      refine ⟨.ref pb, rfl, .ref ss, rfl, .ref l, rfl, .ref pb, .ref ss, g.1, g.2, l, [x], rfl, fu.dpan hpn2, fu.dst hst2, fu.sqL sl, og.mem, by omega, by omega, by show g.2.length + 1 ≤ _; omega, hall, fun t7 l7 v7 H7 f7 ht7 LL7 dv7 => ?_⟩
      obtain ⟨us, k1, k2, k3⟩ := LL7
      cases k3 with
      | cons z1 z2 =>
        cases z2
        obtain ⟨b, rfl, hb1, hb2⟩ := z1
        refine ⟨t7, _, rfl, sqT ht7, rfl, _, _, rfl, _, _, rfl, rfl, ?_⟩
        refine ⟨_, rfl, rfl, true, rfl, iteT ⟨.ref l7, rfl, l7, _, 0, .ref b, rfl, rfl, sqL k1, rfl, .ref pb, rfl, v7, rfl, small' 2 (by decide), fun m1 hm1 => ⟨small' 2 (by decide), fun m2 hm2 => ?_⟩⟩⟩
        have f8 : Fr T [] H7 (upd (upd H7 m1 (.tup [.ref pb, v7])) m2 (.tup [.ref b, .ref m1])) := (Fr.refl.nw hm1).nw hm2
        have F7 := (F2.trans fu).trans f7
        refine q _ _ (F7.trans f8) (.inl ⟨(g.1, press g.1.2 g.2 x), if_pos hx, m2, .ref b, .ref m1, rfl, upd_same, ⟨b, rfl, f8.lst hb1, (F2.trans fu).free hb2⟩, ?_⟩)
        exact dp_two_of (sqT (upd_old hm2 _ _ upd_same)) ((F7.trans f8).dpan hpn) (f8.dst dv7)
    | run xs =>
      have hh2 : H2 h0 = some (.lst (xs.map V.str)) := F2.lst (hR xs rfl)
      refine ⟨_, rfl, rfl, false, rfl, iteF ⟨_, rfl, rfl, true, rfl, iteT ⟨.ref l, rfl, l, _, 0, .ref h0, rfl, rfl, sqL hll, rfl, ?_⟩⟩⟩
      have ldo := dok.2
      dsimp only [gName]
      refine tSeqI (miss_step (K := K) (T := T) (pb := pb) (so := h0) (P := g.1) (xs := xs) rfl rfl hpn2 (sqL hh2) dok.1 (by omega) (fun hno u r H3 f3 hu => fail _ _ f3 (if_neg hno) u hu) fun hall H3 f3 => ?_)
      dsimp only
      refine ⟨_, rfl, small' 2 (by decide), fun u hu => ⟨u, _, rfl, .inr (sqT upd_same), rfl, rfl, true, rfl, iteT ?_⟩⟩
      have fu := f3.nw (o := .tup [V.str "press", V.str "run"]) hu
      refine ⟨.ref pb, rfl, .ref ss, rfl, .ref h0, rfl, .ref pb, .ref ss, g.1, g.2, h0, xs, rfl, fu.dpan hpn2, fu.dst hst2, fu.sqL (sqL hh2), og.mem, by omega, by omega, by omega, hall, fun t7 l7 v7 H7 f7 ht7 LL7 dv7 => ?_⟩
      refine ⟨t7, _, rfl, sqT ht7, rfl, _, _, rfl, _, _, rfl, rfl, ?_⟩
      refine ⟨_, rfl, rfl, false, rfl, iteF ⟨.ref l7, rfl, .ref pb, rfl, v7, rfl, small' 2 (by decide), fun m1 hm1 => ⟨small' 2 (by decide), fun m2 hm2 => ?_⟩⟩⟩
      have f8 : Fr T [] H7 (upd (upd H7 m1 (.tup [.ref pb, v7])) m2 (.tup [.ref l7, .ref m1])) := (Fr.refl.nw hm1).nw hm2
      have F6 := F2.trans fu
      have F7 := F6.trans f7
      obtain ⟨us, k1, k2, k3⟩ := LL7
      refine q _ _ (F7.trans f8) (.inl ⟨(g.1, xs.foldl (press g.1.2) g.2), if_pos hall, m2, .ref l7, .ref m1, rfl, upd_same, ⟨l7, rfl, us, f8.lst k1, F6.free k2, L2.Paired.mapP k3 fun v A ⟨b, e1, e2, e3⟩ => ⟨b, e1, f8.lst e2, F6.free e3⟩⟩, ?_⟩)
      exact dp_two_of (sqT (upd_old hm2 _ _ upd_same)) ((F7.trans f8).dpan hpn) (f8.dst dv7)
    | exclude x y =>
      have sl : SqL K H2 l (([x, y] : List Str).map V.str) := sqL hll
      refine ⟨_, rfl, rfl, false, rfl, iteF ⟨_, rfl, rfl, false, rfl, iteF ⟨.ref l, rfl, ?_⟩⟩⟩
      dsimp only [gName]
      refine tSeqI (miss_step (K := K) (T := T) (pb := pb) (so := l) (P := g.1) (xs := [x, y]) rfl rfl hpn2 sl (fun z hz => (List.mem_cons.mp hz).elim (fun e => e ▸ dok.1) fun e => List.mem_singleton.mp e ▸ dok.2) (by show 2 ≤ 1000; decide) (fun hno u r H3 f3 hu => fail _ _ f3 (if_neg fun c => hno fun z hz => (List.mem_cons.mp hz).elim (fun e => e ▸ c.1) fun e => List.mem_singleton.mp e ▸ c.2.1) u hu) fun hall H3 f3 => ?_)
      dsimp only
      refine ⟨_, rfl, small' 2 (by decide), fun u hu => ⟨u, _, rfl, .inr (sqT upd_same), rfl, rfl, false, rfl, iteF ⟨_, rfl, rfl, false, rfl, iteF ?_⟩⟩⟩
      have fu := f3.nw (o := .tup [V.str "press", V.str "run"]) hu
      refine ⟨.ref pa, rfl, .str "exclude", rfl, .ref l, rfl, .ref pa, g, "exclude", l, x, y, .exclude x y, rfl, (F2.trans fu).dpg hP, og, ⟨by omega, by omega, by omega⟩, fu.sqL sl, hall x (by simp), hall y (by simp), .inr ⟨rfl, rfl⟩, fun v H4 f4 hv => q v H4 ((F2.trans fu).trans f4) ?_⟩
      rcases hv with ⟨g', e1, t', r, pg, e2, e3, e4, e5⟩ | ⟨e1, t', s', r, e2, e3⟩
      · exact .inl ⟨g', e1, t', r, pg, e2, e3, e4, e5⟩
      · exact .inr ⟨e1, t', s', r, e2, e3⟩
    | allow x y =>
      have sl : SqL K H2 l (([x, y] : List Str).map V.str) := sqL hll
      refine ⟨_, rfl, rfl, false, rfl, iteF ⟨_, rfl, rfl, false, rfl, iteF ⟨.ref l, rfl, ?_⟩⟩⟩
      dsimp only [gName]
      refine tSeqI (miss_step (K := K) (T := T) (pb := pb) (so := l) (P := g.1) (xs := [x, y]) rfl rfl hpn2 sl (fun z hz => (List.mem_cons.mp hz).elim (fun e => e ▸ dok.1) fun e => List.mem_singleton.mp e ▸ dok.2) (by show 2 ≤ 1000; decide) (fun hno u r H3 f3 hu => fail _ _ f3 (if_neg fun c => hno fun z hz => (List.mem_cons.mp hz).elim (fun e => e ▸ c.1) fun e => List.mem_singleton.mp e ▸ c.2.1) u hu) fun hall H3 f3 => ?_)
      dsimp only
      refine ⟨_, rfl, small' 2 (by decide), fun u hu => ⟨u, _, rfl, .inr (sqT upd_same), rfl, rfl, false, rfl, iteF ⟨_, rfl, rfl, false, rfl, iteF ?_⟩⟩⟩
      have fu := f3.nw (o := .tup [V.str "press", V.str "run"]) hu
      refine ⟨.ref pa, rfl, .str "allow", rfl, .ref l, rfl, .ref pa, g, "allow", l, x, y, .allow x y, rfl, (F2.trans fu).dpg hP, og, ⟨by omega, by omega, by omega⟩, fu.sqL sl, hall x (by simp), hall y (by simp), .inl ⟨rfl, rfl⟩, fun v H4 f4 hv => q v H4 ((F2.trans fu).trans f4) ?_⟩
      rcases hv with ⟨g', e1, t', r, pg, e2, e3, e4, e5⟩ | ⟨e1, t', s', r, e2, e3⟩
      · exact .inl ⟨g', e1, t', r, pg, e2, e3, e4, e5⟩
      · exact .inr ⟨e1, t', s', r, e2, e3⟩
    | remove x =>
      have sl : SqL K H2 l (([x] : List Str).map V.str) := sqL hll
      refine ⟨_, rfl, rfl, false, rfl, iteF ⟨_, rfl, rfl, false, rfl, iteF ⟨.ref l, rfl, ?_⟩⟩⟩
      dsimp only [gName]
      refine tSeqI (miss_step (K := K) (T := T) (pb := pb) (so := l) (P := g.1) (xs := [x]) rfl rfl hpn2 sl (fun z hz => List.mem_singleton.mp hz ▸ dok) (by show 1 ≤ 1000; decide) (fun hno u r H3 f3 hu => fail _ _ f3 (if_neg fun c => hno fun z hz => List.mem_singleton.mp hz ▸ c.1) u hu) fun hall H3 f3 => ?_)
      have hx : x ∈ g.1.1 := hall x (by simp)
      dsimp only
      refine ⟨_, rfl, small' 2 (by decide), fun u hu => ⟨u, _, rfl, .inr (sqT upd_same), rfl, rfl, false, rfl, iteF ⟨_, rfl, rfl, true, rfl, iteT ?_⟩⟩⟩
      have fu := f3.nw (o := .tup [V.str "press", V.str "run"]) hu
      have Fu := F2.trans fu
      have llu := fu.lst hll
      refine ⟨.ref pb, rfl, pb, _, 0, .ref sa, rfl, rfl, Fu.sqT hpb, rfl, sa, _, rfl, .inr (Fu.sqT hsa), rfl, _, rfl, ?_⟩
      by_cases hlen : g.1.1.length = 1
      · have e1 : decide (V.int ((g.1.1.map V.str).length : Nat) = V.int 1) = true := by
          rw [List.length_map, hlen]
          exact decide_eq_true rfl
        rw [e1]
        exact iteT ⟨small' 2 (by decide), fun v hv => fail _ _ fu (if_neg fun c => c.2 hlen) v hv⟩
      · have e1 : decide (V.int ((g.1.1.map V.str).length : Nat) = V.int 1) = false := by
          rw [List.length_map]
          refine decide_eq_false fun z => hlen ?_
          have z := V.int.inj z
          omega
        rw [e1]
        refine iteF ?_
        refine ⟨.ref pb, rfl, pb, _, 0, .ref sa, rfl, rfl, Fu.sqT hpb, rfl, sa, rfl, ⟨_, Fu.sqT hsa⟩, fun D hD => ?_⟩
        refine lc_filtT (as := g.1.1) (c := PyData.str) (q := fun z => !decide (z = x)) hD (Fu.sqT hsa) (by rw [List.length_map]; omega) (dpAll_strs _) (fun z e acc he hz => ?_) (fun acc hacc => ?_)
        · obtain rfl := dp_str hz
          refine ⟨[some (.ref pa), some (.ref t), some (.ref pb), some (.ref ss), some (.str "remove"), some (.ref l), some (.ref l), none, none, none, some (.str e), none], rfl, fun Q h => h, fun Q h => ?_, fun _ Q h => ⟨_, rfl, h⟩⟩
          refine ⟨.str e, rfl, .ref l, rfl, l, _, 0, .str x, rfl, rfl, sqL (upd_old hD _ _ llu), rfl, rfl, _, rfl, ?_⟩
          rw [dec_str]
          exact h
        have eacc := dpAll_str hacc
        subst eacc
        refine ⟨D, _, rfl, .inl ⟨sqL upd_same, fun t8 ht8 => ?_⟩⟩
        let L1 := g.1.1.filter fun z => !decide (z = x)
        let HA : Hp := upd (upd (upd H3 u (.tup [V.str "press", V.str "run"])) D (.lst (L1.map V.str))) t8 (.tup (L1.map V.str))
        have fA : Fr T [] (upd H3 u (.tup [V.str "press", V.str "run"])) HA := (Fr.refl.nw hD).nw ht8
        have FA := Fu.trans fA
        have llA := fA.lst llu
        have t8A : HA t8 = some (.tup (L1.map V.str)) := upd_same
        refine ⟨.ref pb, rfl, pb, _, 1, .ref ea, rfl, rfl, FA.sqT hpb, rfl, ea, rfl, ⟨_, FA.sqT hea⟩, fun D2 hD2 => ?_⟩
        have hesA := FA.prs hes
        have ln := dpAll_len hes
        rw [List.length_map] at ln
        refine lc_filtT (as := g.1.2) (c := prD) (q := fun p => !decide (x ∈ [p.1, p.2])) hD2 (FA.sqT hea) (by omega) hesA (fun z e acc he hz => ?_) (fun acc hacc => ?_)
        · obtain ⟨pz, rfl, hpz⟩ := dp_prI hz
          refine ⟨[some (.ref pa), some (.ref t), some (.ref pb), some (.ref ss), some (.str "remove"), some (.ref l), some (.ref l), none, some (.ref t8), none, none, some (.ref pz)], rfl, fun Q h => h, fun Q h => ?_, fun _ Q h => ⟨_, rfl, h⟩⟩
          refine ⟨.ref l, rfl, l, _, 0, .str x, rfl, rfl, sqL (upd_old hD2 _ _ llA), rfl, .ref pz, rfl, pz, [e.1, e.2].map V.str, rfl, .inr (((Fr.refl (T := T) (S := [])).nw hD2).sqT hpz), rfl, flat_strs [e.1, e.2], _, rfl, ?_⟩
          show Q (!inV (V.str x) ([e.1, e.2].map V.str)) _
          rw [inV_strs]
          exact h
        refine ⟨D2, acc, rfl, .inl ⟨sqL upd_same, fun t9 ht9 => ?_⟩⟩
        let HB : Hp := upd (upd HA D2 (.lst acc)) t9 (.tup acc)
        have fB : Fr T [] HA HB := (Fr.refl.nw hD2).nw ht9
        have FB := FA.trans fB
        have llB := fB.lst llA
        have haccB : DpAll K HB acc ((g.1.2.filter fun p => !decide (x ∈ [p.1, p.2])).map prD) := fB.prs hacc
        have t9B : HB t9 = some (.tup acc) := upd_same
        refine ⟨.ref t8, rfl, .ref t9, rfl, small' 2 (by decide), fun m1 hm1 => ⟨.ref ss, rfl, ss, rfl, ⟨_, ((Fr.refl (T := T) (S := [])).nw hm1).sqT (FB.sqT hss)⟩, fun D3 hD3 => ?_⟩⟩
        let HC : Hp := upd HB m1 (.tup [.ref t8, .ref t9])
        have fC : Fr T [] HB HC := Fr.refl.nw hm1
        have FC := FB.trans fC
        have llC := fC.lst llB
        have m1C : HC m1 = some (.tup [.ref t8, .ref t9]) := upd_same
        refine lc_filtT (as := g.2) (c := PyData.str) (q := fun z => !decide (z = x)) hD3 (FC.sqT hss) (by rw [List.length_map]; omega) (dpAll_strs _) (fun z e acc2 he hz => ?_) (fun acc2 hacc2 => ?_)
        · obtain rfl := dp_str hz
          refine ⟨[some (.ref pa), some (.ref t), some (.ref pb), some (.ref ss), some (.str "remove"), some (.ref l), some (.ref l), none, some (.ref t8), some (.ref t9), some (.str e), none], rfl, fun Q h => h, fun Q h => ?_, fun _ Q h => ⟨_, rfl, h⟩⟩
          refine ⟨.str e, rfl, .ref l, rfl, l, _, 0, .str x, rfl, rfl, sqL (upd_old hD3 _ _ llC), rfl, rfl, _, rfl, ?_⟩
          rw [dec_str]
          exact h
        have eacc2 := dpAll_str hacc2
        subst eacc2
        refine ⟨D3, _, rfl, .inl ⟨sqL upd_same, fun t10 ht10 => ⟨small' 2 (by decide), fun m2 hm2 => ⟨small' 2 (by decide), fun m3 hm3 => ?_⟩⟩⟩⟩
        let L3 := g.2.filter fun z => !decide (z = x)
        let HD : Hp := upd (upd HC D3 (.lst (L3.map V.str))) t10 (.tup (L3.map V.str))
        have fD : Fr T [] HC HD := (Fr.refl.nw hD3).nw ht10
        have fE : Fr T [] HD (upd (upd HD m2 (.tup [.ref m1, .ref t10])) m3 (.tup [.non, .ref m2])) := (Fr.refl.nw hm2).nw hm3
        have FE := (FC.trans fD).trans fE
        have gA := ((fB.trans fC).trans fD).trans fE
        have gB := (fC.trans fD).trans fE
        have gC := fD.trans fE
        refine q _ _ FE (.inl ⟨((L1, g.1.2.filter fun p => !decide (x ∈ [p.1, p.2])), L3), if_pos ⟨hx, hlen⟩, m3, .non, .ref m2, rfl, upd_same, rfl, ?_⟩)
        exact dp_two_of (sqT (upd_old hm3 _ _ upd_same)) (dp_two_of (gC.sqT (sqT m1C)) (dp_st_of (gA.sqT (sqT t8A))) (.tup (gB.sqT (sqT t9B)) (gB.prs haccB))) (dp_st_of (fE.sqT (sqT upd_same)))
end
end Ob

/-! LF: a deed done, told -/
namespace Ob
open PySem PySem.Spec PyProof.Rows L2 LamX
theorem Deed.run_inj {xs ys : List Str} (h : Deed.run xs = .run ys) : xs = ys := by cases h; rfl
/-- the classes that the law catches -/
structure Caught (K : PySem.W.Frag) (mg : Str → Option Value) (XL : Addr → Prop) : Prop where
  ex : ∃ c1 c2 c3 c4 c5 c6 c7 c8 : Addr, mg "BadName" = some (.ref c1) ∧ mg "BothOn" = some (.ref c2) ∧ mg "Known" = some (.ref c3) ∧ mg "LastSwitch" = some (.ref c4) ∧ mg "NoPair" = some (.ref c5) ∧ mg "NoSwitch" = some (.ref c6) ∧ mg "SameSwitch" = some (.ref c7) ∧ mg "Taken" = some (.ref c8) ∧
    ∀ C, XL C → PySem.W.exmAny K (.ref C) (([c1, c2, c3, c4, c5, c6, c7, c8] : List Addr).map Value.ref) = some true
section
variable {P : Program} {w : World} {K : PySem.W.Frag} {mg : Str → Option Value} {base : Heap} {BC PC : Addr} {T : List (Addr × Str)} {XL : Addr → Prop}
abbrev s_law_done : Stmt := top 46
theorem S_law_done : FnScope ["_law_board", "_law_deed_here"] ["_law_board", "_law_deed_here"] (defScope s_law_done) := ⟨rfl, rfl, rfl, by decide +kernel, rfl, by decide +kernel, by decide +kernel⟩
abbrev s_law_told : Stmt := top 47
theorem S_law_told : FnScope ["_law_board", "_law_deed_here", "_law_found", "_law_caught", "error"] ["_law_board", "_law_deed_here"] (defScope s_law_told) := ⟨rfl, rfl, rfl, by decide +kernel, rfl, by decide +kernel, by decide +kernel⟩
def DonePre (K : PySem.W.Frag) (T : List (Addr × Str)) (BC PC : Addr) (H : Hp) (a pl wl t h : Addr) (ms : List Pg) (g : Pg) (n : Nat) (d : Deed) : Prop :=
  Tabs T H ∧ BoardAt K BC PC H a pl wl (ms ++ [g]) n ∧ Ok g ∧ Sz g 40000 ∧ ms.length ≤ 40000 ∧ n ≤ 40000 ∧ DeedAt H t h d ∧ DOk d ∧ (∀ xs, d = .run xs → h ≠ wl)
def sp_done (K : PySem.W.Frag) (T : List (Addr × Str)) (BC PC : Addr) (XL : Addr → Prop) : Sp := fun vs H Q E => ∃ (a pl wl t h : Addr) (ms : List Pg) (g : Pg) (n : Nat) (d : Deed), vs = [.ref a, .ref t] ∧ DonePre K T BC PC H a pl wl t h ms g n d ∧
  (∀ g', dstep g d = some g' → ∀ r H', Fr T [pl, wl] H H' → BoardAt K BC PC H' a pl wl (ms ++ [g] ++ [g']) (n + 2) → ResAt H H' r g d → Q r H') ∧ (dstep g d = none → ∀ C dd H', XL C → Fr T [pl, wl] H H' → BoardAt K BC PC H' a pl wl (ms ++ [g]) (n + 2) → E (.ref C) dd H')
theorem ok_done (D : Df K mg "_law_done" "_law_done" s_law_done ["_law_board", "_law_deed_here"])
    (G_Board_press : Gm P w K mg base (L2.CX P w) 8 BC "press" ["self", "switch"] (sp_press K T BC PC XL)) (G_Board_run : Gm P w K mg base (L2.CX P w) 8 BC "run" ["self", "history"] (sp_run K T BC PC XL))
    (G_Board_exclude : Gm P w K mg base (L2.CX P w) 8 BC "exclude" ["self", "one", "other"] (sp_deed K T BC PC XL ar2 (fun _ => True) pEx)) (G_Board_allow : Gm P w K mg base (L2.CX P w) 8 BC "allow" ["self", "one", "other"] (sp_deed K T BC PC XL ar2 (fun _ => True) pLet))
    (G_Board_add : Gm P w K mg base (L2.CX P w) 8 BC "add" ["self", "switch"] (sp_deed K T BC PC XL ar1 (fun x => x.length ≤ 1000) pAdd)) (G_Board_remove : Gm P w K mg base (L2.CX P w) 8 BC "remove" ["self", "switch"] (sp_deed K T BC PC XL ar1 (fun _ => True) pRem)) :
    Gd P w K mg base (L2.CX P w) 9 "_law_done" ["_law_board", "_law_deed_here"] (sp_done K T BC PC XL) := by
  refine D.okX (k := 8) S_law_done (fun vs H Q E h => ?_) (fun f cdv A outer s H vs Q E hr h => ?_)
  · obtain ⟨a, pl, wl, t, h, ms, g, n, d, rfl, _⟩ := h
    rfl
  · obtain ⟨a, pl, wl, t, h, ms, g, n, d, rfl, ⟨hTb, hB, og, sz, hms, hn, ⟨hT, hR⟩, dok, hw⟩, q1, q2⟩ := h
    obtain ⟨⟨dx, vs, ws, h1, h2, h3, h4, h5⟩, ne⟩ := id hB
    have sz' : Sz g 50000 := ⟨Nat.le_trans sz.sw (by decide), Nat.le_trans sz.ps (by decide), Nat.le_trans sz.st (by decide)⟩
    -- slots: 0:_law_board 1:_law_deed_here
    refine ⟨_, (pss_cons (ps_if (pt_cmpR op_eq (pe_ix (ix_tupK K) (pv 1) pe_int (fun _ _ => rfl)) pe_str (nomark _)) (pss_one (ps_ret (pmt G_Board_press (hr.mono (by decide)) (pT tkE) (pv 0) (pa_cons (pe_ix (ix_tupK K) (pv 1) pe_int (fun _ _ => rfl)) pa_nil)))) pss_nil)
    (pss_cons (ps_if (pt_cmpR op_eq (pe_ix (ix_tupK K) (pv 1) pe_int (fun _ _ => rfl)) pe_str (nomark _)) (pss_one (ps_ret (pmt G_Board_run (hr.mono (by decide)) (pT tkE) (pv 0) (pa_cons (pe_ix (ix_tupK K) (pv 1) pe_int (fun _ _ => rfl)) pa_nil)))) pss_nil)
    (pss_cons (ps_if (pt_cmpR op_eq (pe_ix (ix_tupK K) (pv 1) pe_int (fun _ _ => rfl)) pe_str (nomark _)) (pss_one (ps_ret (pmt G_Board_exclude (hr.mono (by decide)) (pT tkE) (pv 0) (pa_cons (pe_ix (ix_tupK K) (pv 1) pe_int (fun _ _ => rfl)) (pa_cons (pe_ix (ix_tupK K) (pv 1) pe_int (fun _ _ => rfl)) pa_nil))))) pss_nil)
    (pss_cons (ps_if (pt_cmpR op_eq (pe_ix (ix_tupK K) (pv 1) pe_int (fun _ _ => rfl)) pe_str (nomark _)) (pss_one (ps_ret (pmt G_Board_allow (hr.mono (by decide)) (pT tkE) (pv 0) (pa_cons (pe_ix (ix_tupK K) (pv 1) pe_int (fun _ _ => rfl)) (pa_cons (pe_ix (ix_tupK K) (pv 1) pe_int (fun _ _ => rfl)) pa_nil))))) pss_nil)
    (pss_one (ps_ret (pe_ifExp (pt_cmpR op_eq (pe_ix (ix_tupK K) (pv 1) pe_int (fun _ _ => rfl)) pe_str (nomark _)) (pmt G_Board_add (hr.mono (by decide)) (pT tkE) (pv 0) (pa_cons (pe_ix (ix_tupK K) (pv 1) pe_int (fun _ _ => rfl)) pa_nil)) (pmt G_Board_remove (hr.mono (by decide)) (pT tkE) (pv 0) (pa_cons (pe_ix (ix_tupK K) (pv 1) pe_int (fun _ _ => rfl)) pa_nil))))))))), ?_⟩
    cases d with
    | press x =>
      refine ⟨.ref t, rfl, t, _, 0, _, rfl, rfl, sqT hT, rfl, rfl, true, rfl, iteT ?_⟩
      refine ⟨.ref a, rfl, a, dx, _, rfl, h1, rfl, .ref t, rfl, t, _, 1, .str x, rfl, rfl, sqT hT, rfl, a, pl, wl, ms, g, n, x, rfl, hTb, hB, og, sz', by omega, by omega, fun hx b H' f b' hb nb => ?_, fun hx C dd H' hC f b' => ?_⟩
      · exact q1 _ (if_pos hx) _ H' f b' ⟨b, rfl, hb, nb⟩
      · exact q2 (if_neg hx) C dd H' hC f b'
    | run xs =>
      refine ⟨.ref t, rfl, t, _, 0, _, rfl, rfl, sqT hT, rfl, rfl, false, rfl, iteF ⟨.ref t, rfl, t, _, 0, _, rfl, rfl, sqT hT, rfl, rfl, true, rfl, iteT ?_⟩⟩
      have lx := dok.2
      refine ⟨.ref a, rfl, a, dx, _, rfl, h1, rfl, .ref t, rfl, t, _, 1, .ref h, rfl, rfl, sqT hT, rfl, a, pl, wl, ms, g, n, h, xs, rfl, sqL (hR xs rfl), hw xs rfl, by omega, hTb, hB, og, sz', by omega, by omega, fun hx l H' f b' LL => ?_, fun hx C dd H' hC f b' => ?_⟩
      · exact q1 _ (if_pos hx) _ H' f b' ⟨l, rfl, LL⟩
      · exact q2 (if_neg hx) C dd H' hC f b'
    | exclude x y =>
      refine ⟨.ref t, rfl, t, _, 0, _, rfl, rfl, sqT hT, rfl, rfl, false, rfl, iteF ⟨.ref t, rfl, t, _, 0, _, rfl, rfl, sqT hT, rfl, rfl, false, rfl, iteF ⟨.ref t, rfl, t, _, 0, _, rfl, rfl, sqT hT, rfl, rfl, true, rfl, iteT ?_⟩⟩⟩
      refine ⟨.ref a, rfl, a, dx, _, rfl, h1, rfl, .ref t, rfl, t, _, 1, .str x, rfl, rfl, sqT hT, rfl, .ref t, rfl, t, _, 2, .str y, rfl, rfl, sqT hT, rfl, a, pl, wl, ms, g, n, (x, y), rfl, trivial, hTb, hB, og, sz', by omega, by omega, fun g' hg H' f b' => ?_, fun hg C dd H' hC f b' => ?_⟩
      · exact q1 g' hg _ H' f b' rfl
      · exact q2 hg C dd H' hC f b'
    | allow x y =>
      refine ⟨.ref t, rfl, t, _, 0, _, rfl, rfl, sqT hT, rfl, rfl, false, rfl, iteF ⟨.ref t, rfl, t, _, 0, _, rfl, rfl, sqT hT, rfl, rfl, false, rfl, iteF ⟨.ref t, rfl, t, _, 0, _, rfl, rfl, sqT hT, rfl, rfl, false, rfl, iteF ⟨.ref t, rfl, t, _, 0, _, rfl, rfl, sqT hT, rfl, rfl, true, rfl, iteT ?_⟩⟩⟩⟩
      refine ⟨.ref a, rfl, a, dx, _, rfl, h1, rfl, .ref t, rfl, t, _, 1, .str x, rfl, rfl, sqT hT, rfl, .ref t, rfl, t, _, 2, .str y, rfl, rfl, sqT hT, rfl, a, pl, wl, ms, g, n, (x, y), rfl, trivial, hTb, hB, og, sz', by omega, by omega, fun g' hg H' f b' => ?_, fun hg C dd H' hC f b' => ?_⟩
      · exact q1 g' hg _ H' f b' rfl
      · exact q2 hg C dd H' hC f b'
    | add x =>
      refine ⟨.ref t, rfl, t, _, 0, _, rfl, rfl, sqT hT, rfl, rfl, false, rfl, iteF ⟨.ref t, rfl, t, _, 0, _, rfl, rfl, sqT hT, rfl, rfl, false, rfl, iteF ⟨.ref t, rfl, t, _, 0, _, rfl, rfl, sqT hT, rfl, rfl, false, rfl, iteF ⟨.ref t, rfl, t, _, 0, _, rfl, rfl, sqT hT, rfl, rfl, false, rfl, iteF ⟨.ref t, rfl, t, _, 0, _, rfl, rfl, sqT hT, rfl, rfl, true, rfl, iteT ?_⟩⟩⟩⟩⟩
      refine ⟨.ref a, rfl, a, dx, _, rfl, h1, rfl, .ref t, rfl, t, _, 1, .str x, rfl, rfl, sqT hT, rfl, a, pl, wl, ms, g, n, x, rfl, Nat.le_trans dok.2 (by decide), hTb, hB, og, sz', by omega, by omega, fun g' hg H' f b' => ?_, fun hg C dd H' hC f b' => ?_⟩
      · exact q1 g' hg _ H' f b' rfl
      · exact q2 hg C dd H' hC f b'
    | remove x =>
      refine ⟨.ref t, rfl, t, _, 0, _, rfl, rfl, sqT hT, rfl, rfl, false, rfl, iteF ⟨.ref t, rfl, t, _, 0, _, rfl, rfl, sqT hT, rfl, rfl, false, rfl, iteF ⟨.ref t, rfl, t, _, 0, _, rfl, rfl, sqT hT, rfl, rfl, false, rfl, iteF ⟨.ref t, rfl, t, _, 0, _, rfl, rfl, sqT hT, rfl, rfl, false, rfl, iteF ⟨.ref t, rfl, t, _, 0, _, rfl, rfl, sqT hT, rfl, rfl, false, rfl, iteF ?_⟩⟩⟩⟩⟩
      refine ⟨.ref a, rfl, a, dx, _, rfl, h1, rfl, .ref t, rfl, t, _, 1, .str x, rfl, rfl, sqT hT, rfl, a, pl, wl, ms, g, n, x, rfl, trivial, hTb, hB, og, sz', by omega, by omega, fun g' hg H' f b' => ?_, fun hg C dd H' hC f b' => ?_⟩
      · exact q1 g' hg _ H' f b' rfl
      · exact q2 hg C dd H' hC f b'
def sp_told (K : PySem.W.Frag) (T : List (Addr × Str)) (BC PC : Addr) : Sp := fun vs H Q _ => ∃ (a pl wl t h : Addr) (ms : List Pg) (g : Pg) (n : Nat) (d : Deed), vs = [.ref a, .ref t] ∧ DonePre K T BC PC H a pl wl t h ms g n d ∧
  (∀ g', dstep g d = some g' → ∀ u r H', Fr T [pl, wl] H H' → BoardAt K BC PC H' a pl wl (ms ++ [g] ++ [g']) (n + 2) → H' u = some (.tup [.str "told", r]) → ResAt H H' r g d → Q (.ref u) H') ∧ (dstep g d = none → ∀ H', Fr T [pl, wl] H H' → BoardAt K BC PC H' a pl wl (ms ++ [g]) (n + 2) → Q .non H')
theorem ok_told (XC : Caught K mg XL) (D : Df K mg "_law_told" "_law_told" s_law_told ["_law_board", "_law_deed_here"]) (G_law_done : Gd P w K mg base (L2.CX P w) 9 "_law_done" ["_law_board", "_law_deed_here"] (sp_done K T BC PC XL)) :
    Gd P w K mg base CX0 10 "_law_told" ["_law_board", "_law_deed_here"] (sp_told K T BC PC) := by
  obtain ⟨c1, c2, c3, c4, c5, c6, c7, c8, m1, m2, m3, m4, m5, m6, m7, m8, hex⟩ := XC.ex
  refine D.ok (k := 9) S_law_told (fun vs H Q E h => ?_) (fun f cdv A outer s H vs Q E hr h => ?_)
  · obtain ⟨a, pl, wl, t, h, ms, g, n, d, rfl, _⟩ := h
    rfl
  · obtain ⟨a, pl, wl, t, h, ms, g, n, d, rfl, ⟨hTb, hB, og, sz, hms, hn, ⟨hT, hR⟩, dok, hw⟩, q1, q2⟩ := h
    refine ⟨_, pss_cons (ps_asg (pe_tup (pa_cons pe_non (pa_cons pe_non pa_nil))) (pg_tup rfl (pgs_cons (pg_name (i := 2) S_law_told.nd rfl (Or.inl rfl)) (pgs_cons (pg_name (i := 3) S_law_told.nd rfl (Or.inl rfl)) pgs_nil))))
      (pss_cons (ps_try_tup (i := 4) (cs := [c1, c2, c3, c4, c5, c6, c7, c8]) rfl rfl S_law_told.nd rfl rfl (.cons rfl m1 (.cons rfl m2 (.cons rfl m3 (.cons rfl m4 (.cons rfl m5 (.cons rfl m6 (.cons rfl m7 (.cons rfl m8 .nil)))))))) (by show 8 ≤ sizeLine; decide)
        (fun W pn xe tk _ => pss_one (ps_set (i := 2) S_law_told.nd rfl (Or.inl rfl) (pcl G_law_done rfl (hr.mono (by decide)) (pT tk) (pa_cons (pv 0) (pa_cons (pv 1) pa_nil)))))
        (fun a oe cls d pn hz hf => pss_one (ps_set (i := 3) S_law_told.nd rfl (Or.inl rfl) (pv 4))))
      (pss_one (ps_ret (pe_ifExp (pt_cmpR op_isN (pv 3) pe_non (nomark _)) (pe_tup (pa_cons pe_str (pa_cons (pv 2) pa_nil))) pe_non)))), ?_⟩
    refine ⟨small' 2 (by decide), fun t2 ht2 => ⟨t2, _, rfl, sqT upd_same, rfl, _, _, rfl, _, _, rfl, rfl, ?_⟩⟩
    have f1 : Fr T [] H (upd H t2 (.tup [.non, .non])) := Fr.refl.nw ht2
    refine ⟨.ref a, rfl, .ref t, rfl, a, pl, wl, t, h, ms, g, n, d, rfl, ⟨f1.tabs hTb, hB.fr f1, og, sz, hms, hn, ⟨f1.tup hT, fun xs e => f1.lst (hR xs e)⟩, dok, hw⟩, fun g' hg r H' f b' hr2 => ?_, fun hg C dd H' hC f b' => ⟨hex C hC, fun ea hea => ⟨.ref ea, rfl, ?_⟩⟩⟩
    · refine ⟨.non, rfl, rfl, true, rfl, iteT ⟨r, rfl, small' 2 (by decide), fun m hm => ?_⟩⟩
      have fm : Fr T [] H' (upd H' m (.tup [.str "told", r])) := Fr.refl.nw hm
      have hr3 : ResAt (upd H t2 (.tup [.non, .non])) (upd H' m (.tup [.str "told", r])) r g d := hr2.fr fm fun b hb => absurd hb (by simp)
      refine q1 g' hg m r _ ((f1.zero.trans f).trans fm.zero) (b'.fr fm) upd_same ?_
      cases d with
      | press x =>
        obtain ⟨b, e1, e2, e3⟩ := hr3
        exact ⟨b, e1, e2, f1.free e3⟩
      | run xs =>
        obtain ⟨l, e1, us, e2, e3, e4⟩ := hr3
        exact ⟨l, e1, us, e2, f1.free e3, L2.Paired.mapP e4 fun v A ⟨b, z1, z2, z3⟩ => ⟨b, z1, z2, f1.free z3⟩⟩
      | _ => exact hr3
    · exact ⟨.ref ea, rfl, rfl, false, rfl, iteF (q2 hg H' (f1.zero.trans f) b')⟩
end
end Ob

/-! LG: a deed drawn -/
namespace Ob
open PySem PySem.Spec PyProof.Rows L2 LamX
theorem ok_w : okS "w" := ⟨by decide +kernel, by decide +kernel⟩
theorem ok_q : okS "q" := ⟨by decide +kernel, by decide +kernel⟩
theorem ok_e : okS "e" := ⟨by decide +kernel, by decide +kernel⟩
theorem dpAll_snoc' {K : PySem.W.Frag} {H : Hp} {xs : List V} {ps : List Pr} {v : V} {p : Pr} (h : DpAll K H xs (ps.map prD)) (hv : Dp K H v (prD p)) : DpAll K H (xs ++ [v]) ((ps ++ [p]).map prD) := by
  rw [List.map_append]
  exact dpAll_app h (.cons hv .nil)
theorem no_run {d : Deed} {A : Prop} (hd : ∀ xs, d ≠ .run xs) : ∀ xs, d = .run xs → A := fun xs e => absurd e (hd xs)
section
variable {P : Program} {w : World} {K : PySem.W.Frag} {mg : Str → Option Value} {base : Heap} {T : List (Addr × Str)}
abbrev s_law_deed : Stmt := top 48
theorem S_law_deed : FnScope ["_law_box_here", "_law_page", "_law_panel_here", "_law_state_here", "_law_kind", "_law_one", "_law_two", "_law_pair_here"] ["_law_box_here", "_law_page"] (defScope s_law_deed) := ⟨rfl, rfl, rfl, by decide +kernel, rfl, by decide +kernel, by decide +kernel⟩
def sp_ldeed (K : PySem.W.Frag) (T : List (Addr × Str)) : Sp := fun vs H Q _ => ∃ (b : Addr) (pv : V) (g : Pg) (n : Nat), vs = [.ref b, pv] ∧ BoxAt H b n ∧ Dp K H pv (pgD g) ∧ Ok g ∧ Sz g 900 ∧ n ≤ 600000 ∧
  ∀ t h d H', Fr T [b] H H' → BoxAt H' b (n + 30) → DeedAt H' t h d → DOk d → (H h = none ∧ h ≠ b) → Q (.ref t) H'
theorem ok_ldeed (TX : Txt mg) (D : Df K mg "_law_deed" "_law_deed" s_law_deed ["_law_box_here", "_law_page"]) (G_law_take : Gd P w K mg base CX0 1 "_law_take" ["_law_box_here", "_law_size"] (sp_take T))
    (G_law_of : Gd P w K mg base CX0 2 "_law_of" ["_law_box_here", "_law_some"] (sp_of K T)) (G_law_presses : Gd P w K mg base CX0 3 "_law_presses" ["_law_box_here", "_law_panel_here", "_law_most"] (sp_lpresses K T)) :
    Gd P w K mg base CX0 4 "_law_deed" ["_law_box_here", "_law_page"] (sp_ldeed K T) := by
  refine D.ok (k := 3) S_law_deed (fun vs H Q E h => ?_) (fun f cdv A outer s H vs Q E hr h => ?_)
  · obtain ⟨b, pv, g, n, rfl, _⟩ := h
    rfl
  · obtain ⟨b, pv, g, n, rfl, hb, hP, og, sz, hn, q⟩ := h
    obtain ⟨bxs, hbx⟩ := hb.lst
    obtain ⟨pa, pn, st, rfl, hpa, hpn, hst⟩ := dp_two hP
    obtain ⟨pb, sv, ev, rfl, hpb, hsv, hev⟩ := dp_two hpn
    obtain ⟨sa, rfl, hsa⟩ := dp_st hsv
    obtain ⟨ea, es, rfl, hea, hes⟩ := dp_ps hev
    have lsw := sz.sw
    have lps := sz.ps
    have ln := dpAll_len hes
    rw [List.length_map] at ln
    have sne : g.1.1.map V.str ≠ [] := fun z => og.ne (List.map_eq_nil_iff.mp z)
    -- slots: 0:_law_box_here 1:_law_page 2:_law_panel_here 3:_law_state_here 4:_law_kind 5:_law_one 6:_law_two 7:_law_pair_here
    refine ⟨_, (pss_cons (ps_asg (pv 1) (pg_tup rfl (pgs_cons (pg_name (i := 2) S_law_deed.nd rfl (Or.inl rfl)) (pgs_cons (pg_name (i := 3) S_law_deed.nd rfl (Or.inl rfl)) pgs_nil))))
    (pss_cons (ps_par3 (i := 4) (j := 5) (l := 6) rfl S_law_deed.nd rfl rfl rfl (by decide) (by decide) (by decide) rfl rfl rfl (pa_cons (pcl G_law_take rfl (hr.mono (by decide)) p0 (pa_cons (pv 0) (pa_cons pe_int pa_nil))) (pa_cons (pcl G_law_of rfl (hr.mono (by decide)) p0 (pa_cons (pv 0) (pa_cons (pe_ix (ix_tupK K) (pv 2) pe_int (fun _ _ => rfl)) pa_nil))) (pa_cons (pcl G_law_of rfl (hr.mono (by decide)) p0 (pa_cons (pv 0) (pa_cons (pe_ix (ix_tupK K) (pv 2) pe_int (fun _ _ => rfl)) pa_nil))) pa_nil))) rfl)
    (pss_cons (ps_if (pt_cmpR op_lt (pv 4) pe_int (nomark _)) (pss_one (ps_ret (pe_tup (pa_cons pe_str (pa_cons (pe_ix (ix_listK K) (pe_lst (pa_cons (pv 5) (pa_cons (pv 6) (pa_cons pe_str pa_nil)))) (pcl G_law_take rfl (hr.mono (by decide)) p0 (pa_cons (pv 0) (pa_cons pe_int pa_nil))) (fun _ _ => rfl)) pa_nil))))) pss_nil)
    (pss_cons (ps_if (pt_cmpR op_lt (pv 4) pe_int (nomark _)) (pss_one (ps_ret (pe_tup (pa_cons pe_str (pa_cons (pcl G_law_presses rfl (hr.mono (by decide)) p0 (pa_cons (pv 0) (pa_cons (pv 2) (pa_cons pe_int pa_nil)))) pa_nil))))) pss_nil)
    (pss_cons (ps_if (pt_cmpR op_eq (pv 4) pe_int (nomark _)) (pss_one (ps_ret (pe_tup (pa_cons pe_str (pa_cons (pv 5) (pa_cons (pv 6) pa_nil)))))) pss_nil)
    (pss_cons (ps_if (pt_cmpR op_eq (pv 4) pe_int (nomark _)) (pss_cons (ps_set (i := 7) S_law_deed.nd rfl (Or.inl rfl) (pcl G_law_of rfl (hr.mono (by decide)) p0 (pa_cons (pv 0) (pa_cons (pe_op op_cat (pe_callTy call_list_of rfl TX.n_list (by decide +kernel) (pa_cons (pe_ix (ix_tupK K) (pv 2) pe_int (fun _ _ => rfl)) pa_nil)) (pe_lst (pa_cons (pe_tup (pa_cons (pv 5) (pa_cons (pv 6) pa_nil))) pa_nil))) pa_nil))))
      (pss_one (ps_ret (pe_tup (pa_cons pe_str (pa_cons (pe_ix (ix_tupK K) (pv 7) pe_int (fun _ _ => rfl)) (pa_cons (pe_ix (ix_tupK K) (pv 7) pe_int (fun _ _ => rfl)) pa_nil))))))) pss_nil)
    (pss_one (ps_ret (pe_ifExp (PW.pt (pw_and (pt_cmpR op_eq (pv 4) pe_int (nomark _)) (pw_and1 (pt_cmpR op_lt (pe_callB call_len_seq rfl TX.n_len (by decide +kernel) (pa_cons (pe_ix (ix_tupK K) (pv 2) pe_int (fun _ _ => rfl)) pa_nil)) pe_int (nomark _))))) (pe_tup (pa_cons pe_str (pa_cons (pcl G_law_of rfl (hr.mono (by decide)) p0 (pa_cons (pv 0) (pa_cons (pe_lst (pa_cons pe_str (pa_cons pe_str (pa_cons (pv 5) pa_nil)))) pa_nil))) pa_nil))) (pe_tup (pa_cons pe_str (pa_cons (pv 5) pa_nil)))))))))))), ?_⟩
    refine ⟨.ref pa, rfl, pa, _, rfl, hpa, rfl, _, _, rfl, _, _, rfl, rfl, ?_⟩
    refine ⟨.ref b, rfl, b, 10, n, rfl, hb, by decide, by decide, by omega, fun kd H1 lk f1 bx1 => ?_⟩
    refine ⟨.ref b, rfl, .ref pb, rfl, pb, _, 0, .ref sa, rfl, rfl, f1.sqT hpb, rfl, b, sa, _, n + 1, rfl, bx1, .inl (f1.sqT hsa), sne, by rw [List.length_map]; omega, by omega, fun i1 r1 H2 hi1 f2 bx2 => ?_⟩
    have F2 := f1.trans f2
    refine ⟨.ref b, rfl, .ref pb, rfl, pb, _, 0, .ref sa, rfl, rfl, F2.sqT hpb, rfl, b, sa, _, n + 1 + 1, rfl, bx2, .inl (F2.sqT hsa), sne, by rw [List.length_map]; omega, by omega, fun i2 r2 H3 hi2 f3 bx3 => ⟨_, _, _, rfl, ?_⟩⟩
    obtain ⟨one, h1, rfl⟩ := List.mem_map.mp (List.mem_of_getElem? hi1)
    obtain ⟨two, h2, rfl⟩ := List.mem_map.mp (List.mem_of_getElem? hi2)
    have F3 := F2.trans f3
    have o1 := og.sw one h1
    have o2 := og.sw two h2
    -- press
    refine ⟨.int kd, rfl, kd, 4, rfl, rfl, _, rfl, ite2 (fun _ => ?_) fun _ => ?_⟩
    · refine ⟨.str one, rfl, .str two, rfl, small' 3 (by decide), fun lw hlw => ?_⟩
      have fw : Fr T [] H3 (upd H3 lw (.lst [.str one, .str two, .str "w"])) := Fr.refl.nw hlw
      have lwb : lw ∉ [b] := by
        obtain ⟨_, hb3⟩ := bx3.lst
        simpa using (ne_of_none hb3 hlw).symm
      refine ⟨.ref b, rfl, b, 3, n + 1 + 1 + 1, rfl, bx3.fr fw, by decide, by decide, by omega, fun j H5 lj f5 bx5 => ?_⟩
      obtain ⟨z, hz, oz⟩ : ∃ z, ([.str one, .str two, .str "w"] : List V)[j]? = some (.str z) ∧ okS z := by
        match j, lj with
        | 0, _ => exact ⟨one, rfl, o1⟩
        | 1, _ => exact ⟨two, rfl, o2⟩
        | 2, _ => exact ⟨"w", rfl, ok_w⟩
        | j + 3, h => omega
      refine ⟨lw, _, j, .str z, rfl, rfl, sqL (f5.lst upd_same lwb), atI_nat hz, small' 2 (by decide), fun t ht => ?_⟩
      have ft : Fr T [] H5 (upd H5 t (.tup [.str "press", .str z])) := Fr.refl.nw ht
      exact q t t (.press z) _ (((F3.trans fw.zero).trans f5).trans ft.zero) ((bx5.fr ft).more (by omega)) ⟨upd_same, fun xs e => by cases e⟩ oz ⟨(((F3.trans fw.zero).trans f5)).free ht, (ne_of_none hbx ((((F3.trans fw.zero).trans f5)).free ht)).symm⟩
    -- run
    refine ⟨.int kd, rfl, kd, 6, rfl, rfl, _, rfl, ite2 (fun _ => ?_) fun _ => ?_⟩
    · refine ⟨.ref b, rfl, .ref pb, rfl, b, .ref pb, g.1, n + 1 + 1 + 1, rfl, bx3, F3.dpan hpn, og.ne, by omega, by omega, fun l xs H5 nl lb f5 bx5 hl hxs lx => ⟨small' 2 (by decide), fun t ht => ?_⟩⟩
      have ft : Fr T [] H5 (upd H5 t (.tup [.str "run", .ref l])) := Fr.refl.nw ht
      exact q t l (.run xs) _ ((F3.trans f5).trans ft.zero) ((bx5.fr ft).more (by omega)) ⟨upd_same, fun ys e => by rw [← Deed.run_inj e]; exact ft.lst hl⟩ ⟨fun x hx => og.sw x (hxs x hx), lx⟩ ⟨F3.free nl, lb⟩
    -- exclude
    refine ⟨.int kd, rfl, rfl, _, rfl, ite2 (fun _ => ?_) fun _ => ?_⟩
    · refine ⟨.str one, rfl, .str two, rfl, small' 3 (by decide), fun t ht => ?_⟩
      have ft : Fr T [] H3 (upd H3 t (.tup [.str "exclude", .str one, .str two])) := Fr.refl.nw ht
      exact q t t (.exclude one two) _ (F3.trans ft.zero) ((bx3.fr ft).more (by omega)) ⟨upd_same, fun xs e => by cases e⟩ ⟨o1, o2⟩ ⟨(F3).free ht, (ne_of_none hbx ((F3).free ht)).symm⟩
    -- allow
    refine ⟨.int kd, rfl, rfl, _, rfl, ite2 (fun _ => ?_) fun _ => ?_⟩
    · refine ⟨.ref b, rfl, .ref pb, rfl, pb, _, 1, .ref ea, rfl, rfl, F3.sqT hpb, rfl, ea, _, rfl, .inr (F3.sqT hea), fun l1 hl1 => ⟨.str one, rfl, .str two, rfl, small' 2 (by decide), fun t1 ht1 => ⟨small' 1 (by decide), fun l2 hl2 => ?_⟩⟩⟩
      have g1 : Fr T [] H3 (upd (upd (upd H3 l1 (.lst es)) t1 (.tup [.str one, .str two])) l2 (.lst [.ref t1])) := ((Fr.refl.nw hl1).nw ht1).nw hl2
      refine ⟨l1, l2, es, _, rfl, rfl, upd_old hl2 _ _ (upd_old ht1 _ _ upd_same), upd_same, small' _ (by simp; omega), fun l3 hl3 => ?_⟩
      have g2 : Fr T [] H3 (upd (upd (upd (upd H3 l1 (.lst es)) t1 (.tup [.str one, .str two])) l2 (.lst [.ref t1])) l3 (.lst (es ++ [.ref t1]))) := g1.nw hl3
      have l3b : l3 ≠ b := by
        obtain ⟨_, hb3⟩ := (bx3.fr g1).lst
        exact (ne_of_none hb3 hl3).symm
      have dps : DpAll K (upd (upd (upd (upd H3 l1 (.lst es)) t1 (.tup [.str one, .str two])) l2 (.lst [.ref t1])) l3 (.lst (es ++ [.ref t1]))) (es ++ [.ref t1]) ((g.1.2 ++ [(one, two)]).map prD) := dpAll_snoc' (g2.prs (F3.prs hes)) (dp_pr_of (sqT (upd_old hl3 _ _ (upd_old hl2 _ _ upd_same))))
      refine ⟨b, l3, _, n + 1 + 1 + 1, rfl, bx3.fr g2, .inr ⟨sqL upd_same, l3b⟩, by simp, by simp; omega, by omega, fun i r H5 hi f5 bx5 => ?_⟩
      obtain ⟨dd, e1, e2⟩ := dpAll_at dps hi
      rw [List.getElem?_map] at e1
      cases e3 : (g.1.2 ++ [(one, two)])[i]? with
      | none => rw [e3] at e1; cases e1
      | some p =>
        rw [e3] at e1
        cases e1
        obtain ⟨ra, rfl, hra⟩ := dp_prI (f5.dpr e2)
        have op : okS p.1 ∧ okS p.2 := by
          rcases List.mem_append.mp (List.mem_of_getElem? e3) with h | h
          · exact og.ps p h
          · rw [List.mem_singleton.mp h]; exact ⟨o1, o2⟩
        refine ⟨.ref ra, rfl, ra, _, 0, .str p.1, rfl, rfl, hra, rfl, .ref ra, rfl, ra, _, 1, .str p.2, rfl, rfl, hra, rfl, small' 3 (by decide), fun t ht => ?_⟩
        have ft : Fr T [] H5 (upd H5 t (.tup [.str "allow", .str p.1, .str p.2])) := Fr.refl.nw ht
        exact q t t (.allow p.1 p.2) _ (((F3.trans g2.zero).trans f5).trans ft.zero) ((bx5.fr ft).more (by omega)) ⟨upd_same, fun xs e => by cases e⟩ op ⟨(((F3.trans g2.zero).trans f5)).free ht, (ne_of_none hbx ((((F3.trans g2.zero).trans f5)).free ht)).symm⟩
    -- add or remove
    have tst : ∀ R : Bool → Hp → Prop, (∀ k, R k H3) → (tAnd (tTest (tOp rEq (tVar 4) (tC (.int 8)))) (tTest (tOp (rI0 fun i j => V.bl (decide (i < j))) (tCB (fun xs H Q => ∃ p ys, xs = [V.ref p] ∧ (SqL K H p ys ∨ SqT K H p ys) ∧ Q (V.int ↑ys.length) H) (tCons (tOp (rIxT K) (tVar 2) (tC (.int 0))) tNil)) (tC (.int 10))))) [some (.ref b), some (.ref pa), some (.ref pb), some st, some (.int kd), some (.str one), some (.str two), none] H3 R := fun R hR =>
      ⟨.int kd, rfl, rfl, _, rfl, ite2 (fun _ => ⟨.ref pb, rfl, pb, _, 0, .ref sa, rfl, rfl, F3.sqT hpb, rfl, sa, _, rfl, .inr (F3.sqT hsa), _, 10, rfl, rfl, _, rfl, hR _⟩) fun _ => hR _⟩
    refine tst _ fun k => ?_
    refine ite2 (fun _ => ?_) fun _ => ?_
    · refine ⟨.ref b, rfl, .str one, rfl, small' 3 (by decide), fun lw hlw => ?_⟩
      have fw : Fr T [] H3 (upd H3 lw (.lst [.str "q", .str "e", .str one])) := Fr.refl.nw hlw
      have lwb : lw ≠ b := by
        obtain ⟨_, hb3⟩ := bx3.lst
        exact (ne_of_none hb3 hlw).symm
      refine ⟨b, lw, [.str "q", .str "e", .str one], n + 1 + 1 + 1, rfl, bx3.fr fw, .inr ⟨sqL upd_same, lwb⟩, by simp, by show 3 ≤ 1000; decide, by omega, fun i r H5 hi f5 bx5 => ?_⟩
      obtain ⟨z, rfl, oz⟩ : ∃ z, r = .str z ∧ okS z := by
        match i, hi with
        | 0, hi => exact ⟨"q", (Option.some.inj hi).symm, ok_q⟩
        | 1, hi => exact ⟨"e", (Option.some.inj hi).symm, ok_e⟩
        | 2, hi => exact ⟨one, (Option.some.inj hi).symm, o1⟩
        | i + 3, hi => simp at hi
      refine ⟨small' 2 (by decide), fun t ht => ?_⟩
      have ft : Fr T [] H5 (upd H5 t (.tup [.str "add", .str z])) := Fr.refl.nw ht
      exact q t t (.add z) _ (((F3.trans fw.zero).trans f5).trans ft.zero) ((bx5.fr ft).more (by omega)) ⟨upd_same, fun xs e => by cases e⟩ oz ⟨(((F3.trans fw.zero).trans f5)).free ht, (ne_of_none hbx ((((F3.trans fw.zero).trans f5)).free ht)).symm⟩
    · refine ⟨.str one, rfl, small' 2 (by decide), fun t ht => ?_⟩
      have ft : Fr T [] H3 (upd H3 t (.tup [.str "remove", .str one])) := Fr.refl.nw ht
      exact q t t (.remove one) _ (F3.trans ft.zero) ((bx3.fr ft).more (by omega)) ⟨upd_same, fun xs e => by cases e⟩ o1 ⟨(F3).free ht, (ne_of_none hbx ((F3).free ht)).symm⟩
end
end Ob

/-! LH: _law_lists, _law_same -/
namespace Ob
open PySem PySem.Spec PyProof.Rows L2 LamX
theorem tyx_sqT {K : PySem.W.Frag} {H : Hp} {a : Addr} {xs : List V} (h : SqT K H a xs) : TyX K H (.ref a) (.type "tuple") := by
  rcases h with (h | ⟨o, h⟩) | ⟨o, its, n, h1, h2, _⟩
  · exact .base (.tup h)
  · exact .fTuple h
  · exact .kTuple h1 h2
theorem tyx_sqL {K : PySem.W.Frag} {H : Hp} {a : Addr} {xs : List V} (h : SqL K H a xs) : TyX K H (.ref a) (.type "list") := by
  rcases h with (h | ⟨o, h⟩) | ⟨o, its, n, h1, h2, _⟩
  · exact .base (.lst h)
  · exact .base (.frz h)
  · exact .kList h1 h2
mutual
theorem dp_fr0 {T : List (Addr × Str)} {K : PySem.W.Frag} {H H' : Hp} (f : Fr T [] H H') : ∀ {v : V} {d : PyData}, Dp K H v d → Dp K H' v d
  | _, _, .non => .non
  | _, _, .bl b => .bl b
  | _, _, .int i => .int i
  | _, _, .str x => .str x
  | _, _, .lst h1 h2 => .lst (f.sqL h1) (dpAll_fr0 f h2)
  | _, _, .tup h1 h2 => .tup (f.sqT h1) (dpAll_fr0 f h2)
theorem dpAll_fr0 {T : List (Addr × Str)} {K : PySem.W.Frag} {H H' : Hp} (f : Fr T [] H H') : ∀ {vs : List V} {ds : List PyData}, DpAll K H vs ds → DpAll K H' vs ds
  | _, _, .nil => .nil
  | _, _, .cons h1 h2 => .cons (dp_fr0 f h1) (dpAll_fr0 f h2)
end
/-- new lists all the way down, at the leaves texts -/
inductive DL (H0 H : Hp) : V → PyData → Prop
  | str (x : Str) : DL H0 H (.str x) (.str x)
  | lst {a : Addr} {xs : List V} {ds : List PyData} : H a = some (.lst xs) → H0 a = none → xs.length = ds.length → (∀ (i : Nat) x d, xs[i]? = some x → ds[i]? = some d → DL H0 H x d) → DL H0 H (.ref a) (.tuple ds)
theorem DL.fr {T : List (Addr × Str)} {S : List Addr} {H0 H H' : Hp} {v : V} {d : PyData} (h : DL H0 H v d) (f : Fr T S H H') (hS : ∀ b ∈ S, H0 b ≠ none) : DL H0 H' v d := by
  induction h with
  | str x => exact .str x
  | lst h1 h2 h3 h4 ih => exact .lst (f.lst h1 (fun m => hS _ m h2)) h2 h3 ih
theorem DL.back {T : List (Addr × Str)} {S : List Addr} {H0 H1 H : Hp} {v : V} {d : PyData} (h : DL H1 H v d) (f : Fr T S H0 H1) : DL H0 H v d := by
  induction h with
  | str x => exact .str x
  | lst h1 h2 h3 h4 ih => exact .lst h1 (f.free h2) h3 ih
theorem kit2 {K : PySem.W.Frag} {a b c : String} {x y : Bool} (h1 : kitB a b = some x) (h2 : kitB a c = some y) : PySem.W.kitAny K (.type a) [.type b, .type c] = some (x || y) :=
  kitAny_cons (kit_ty h1) (fun e => by subst e; exact kitAny_cons (kit_ty h2) (fun e => by subst e; rfl) (fun e => by subst e; rfl)) (fun e => by subst e; rfl)
def TSd : Nat → PyData → Prop
  | 0, _ => False
  | n + 1, d => (∃ s, d = .str s) ∨ ∃ ds, d = .tuple ds ∧ ds.length ≤ 100000 ∧ ∀ e ∈ ds, TSd n e
section
variable {P : Program} {w : World} {K : PySem.W.Frag} {mg : Str → Option Value} {base : Heap} {T : List (Addr × Str)}
abbrev s_law_lists : Stmt := top 32
theorem S_law_lists : FnScope ["_law_thing", "_law_part"] ["_law_thing"] (defScope s_law_lists) := ⟨rfl, rfl, rfl, by decide +kernel, rfl, by decide +kernel, by decide +kernel⟩
abbrev s_law_same : Stmt := top 31
theorem S_law_same : FnScope ["_law_told_here", "_law_due_here", "_law_one", "_law_two"] ["_law_told_here", "_law_due_here"] (defScope s_law_same) := ⟨rfl, rfl, rfl, by decide +kernel, rfl, by decide +kernel, by decide +kernel⟩
def sp_lists (K : PySem.W.Frag) (T : List (Addr × Str)) (n : Nat) : Sp := fun vs H Q _ => ∃ (v : V) (d : PyData), vs = [v] ∧ Dp K H v d ∧ TSd n d ∧ ∀ u H', Fr T [] H H' → DL H H' u d → Q u H'
theorem Df.never {x q : Str} {st : Stmt} {ps : List Str} {k : Nat} {sp : Sp} (D : Df K mg x q st ps) (h : ∀ vs H Q E, ¬ sp vs H Q E) : Gd P w K mg base CX0 k x ps sp := by
  obtain ⟨f, fd, h1, h2, h3, h4⟩ := D.ex
  exact ⟨f, fd, h1, h2, h3, ⟨fun vs H Q E hs => absurd hs (h vs H Q E), fun A outer s H args us vs Q E _ _ _ _ hs => absurd hs (h vs H Q E)⟩⟩
theorem ok_lists0 (D : Df K mg "_law_lists" "_law_lists" s_law_lists ["_law_thing"]) : Gd P w K mg base CX0 0 "_law_lists" ["_law_thing"] (sp_lists K T 0) := D.never fun vs H Q E ⟨_, _, _, _, h, _⟩ => h
theorem ok_lists1 (TX : Txt mg) (D : Df K mg "_law_lists" "_law_lists" s_law_lists ["_law_thing"]) {n k : Nat} (G_law_lists : Gd P w K mg base CX0 k "_law_lists" ["_law_thing"] (sp_lists K T n)) : Gd P w K mg base CX0 (k + 1) "_law_lists" ["_law_thing"] (sp_lists K T (n + 1)) := by
  refine D.ok (k := k) S_law_lists (fun vs H Q E h => ?_) (fun f cdv A outer s H vs Q E hr h => ?_)
  · obtain ⟨v, d, rfl, _⟩ := h
    rfl
  · obtain ⟨v, d, rfl, hd, ht, q⟩ := h
    -- slots: 0:_law_thing 1:_law_part
    refine ⟨_, (pss_one (ps_ret (pe_ifExp (pt_val (pe_callB call_isiT rfl TX.n_isinstance (by decide +kernel) (pa_cons (pv 0) (pa_cons (pe_tup (pa_cons (pe_bltn (v := .ty "list") (u := .type "list") rfl TX.n_list (by decide +kernel) rfl) (pa_cons (pe_bltn (v := .ty "tuple") (u := .type "tuple") rfl TX.n_tuple (by decide +kernel) rfl) pa_nil))) pa_nil)))) (pe_lc (own := [("_law_part", 1)]) rfl S_law_lists.nd (pi_tup (pv 0)) (blkOk_by (N := ["_law_thing", "_law_part"]) (sc := defScope s_law_lists) (by decide +kernel)) (fun _ _ _ _ _ => (pg_name (i := 1) S_law_lists.nd rfl (Or.inl rfl))) (fun _ _ _ _ _ => pts_nil) (fun _ _ _ _ _ => (pcl G_law_lists rfl hr p0 (pa_cons (pv 1) pa_nil)))) (pv 0)))), ?_⟩
    refine ⟨v, rfl, small' 2 (by decide), fun tp htp => ?_⟩
    have f1 : Fr T [] H (upd H tp (.tup [.ty "list", .ty "tuple"])) := Fr.refl.nw htp
    rcases ht with ⟨s, rfl⟩ | ⟨ds, rfl, hl, hds⟩
    · obtain rfl := dp_str hd
      exact ⟨.str s, tp, _, .type "str", [.type "list", .type "tuple"], false, rfl, upd_same, .cons (.ty _) (.cons (.ty _) .nil), .base (.str s), kit2 (x := false) (y := false) (by decide +kernel) (by decide +kernel), false, rfl, iteF ⟨.str s, rfl, q _ _ f1 (.str s)⟩⟩
    · obtain ⟨a, xs, rfl, ha, hx⟩ := dp_tup hd
      have ha1 := f1.sqT ha
      have hx1 := dpAll_fr0 f1 hx
      have ln := dpAll_len hx
      refine ⟨.ref a, tp, _, .type "tuple", [.type "list", .type "tuple"], true, rfl, upd_same, .cons (.ty _) (.cons (.ty _) .nil), tyx_sqT ha1, kit2 (x := false) (y := true) (by decide +kernel) (by decide +kernel), true, rfl, iteT ⟨.ref a, rfl, a, rfl, ⟨_, ha1⟩, fun D hD => ?_⟩⟩
      let HD : Hp := upd (upd H tp (.tup [.ty "list", .ty "tuple"])) D (.lst [])
      have nD : ∀ b ∈ [D], HD b ≠ none := fun b hb => by
        rw [List.mem_singleton.mp hb, show HD D = some (.lst []) from upd_same]
        intro z; cases z
      have fHD : Fr T [] (upd H tp (.tup [.ty "list", .ty "tuple"])) HD := Fr.refl.nw hD
      refine lc_tup (Qd := fun H' => Q (.ref D) H') (xs := xs) (fun i H' => Fr T [D] HD H' ∧ ∃ acc, H' D = some (.lst acc) ∧ acc.length = i ∧ ∀ (j : Nat) x d, acc[j]? = some x → ds[j]? = some d → DL HD H' x d)
        ⟨Fr.refl, [], upd_same, rfl, fun j x d h => by simp at h⟩ (fun i H' _ h => h.1.sqT (fHD.sqT ha1)) (fun i x H' hi h => ?_) (fun H' h => ?_)
      · obtain ⟨f2, acc, g1, g2, g3⟩ := h
        obtain ⟨dd, e1, e2⟩ := dpAll_at hx1 hi
        have li := (List.getElem?_eq_some_iff.mp hi).1
        have F2 : Fr T [] (upd H tp (.tup [.ty "list", .ty "tuple"])) H' := (fHD.zero.trans f2).drop fun b hb => .inl (by rw [List.mem_singleton.mp hb]; exact hD)
        refine ⟨rfl, ?_⟩
        simp only [tYes, if_true]
        refine ⟨x, rfl, x, dd, rfl, dp_fr0 F2 e2, hds dd (List.mem_of_getElem? e1), fun u H3 f3 hu => ?_⟩
        have d3 := f3.lst g1
        have fw : Fr T [D] H3 (upd H3 D (.lst (acc ++ [u]))) := Fr.refl.put (by rw [d3]; exact True.intro) (.inr ⟨by simp, _, d3⟩)
        refine ⟨acc, d3, small _ (by omega), (f2.trans f3.zero).trans fw, _, upd_same, by rw [List.length_append, g2]; rfl, fun j y d hj hd2 => ?_⟩
        by_cases hlt : j < acc.length
        · rw [List.getElem?_append_left hlt] at hj
          exact ((g3 j y d hj hd2).fr f3 fun b hb => absurd hb (by simp)).fr fw nD
        · have ej : j = acc.length := by
            have := (List.getElem?_eq_some_iff.mp hj).1
            rw [List.length_append] at this
            simp at this
            omega
          subst ej
          rw [List.getElem?_append_right (Nat.le_refl _), Nat.sub_self] at hj
          have ey : u = y := Option.some.inj hj
          rw [g2, e1] at hd2
          have ed : dd = d := Option.some.inj hd2
          rw [← ey, ← ed]
          exact (hu.back f2).fr fw nD
      · obtain ⟨f2, acc, g1, g2, g3⟩ := h
        have F2 : Fr T [] (upd H tp (.tup [.ty "list", .ty "tuple"])) H' := (fHD.zero.trans f2).drop fun b hb => .inl (by rw [List.mem_singleton.mp hb]; exact hD)
        exact q _ _ (f1.trans F2) (.lst g1 (f1.free hD) (by rw [g2]; exact ln) fun j x d hj hd2 => (g3 j x d hj hd2).back (f1.trans fHD))
/-! ### _law_same -/
def SD : Nat → PyData → Prop
  | 0, _ => False
  | n + 1, d => d = .none ∨ (∃ s, d = .str s ∧ PyData.strOk s = true) ∨ (∃ i, d = .int i) ∨ ∃ ds, (d = .list ds ∨ d = .tuple ds) ∧ ds.length ≤ 100000 ∧ ∀ e ∈ ds, SD n e
def sp_same (K : PySem.W.Frag) (T : List (Addr × Str)) (n : Nat) : Sp := fun vs H Q _ => ∃ (u v : V) (d : PyData), vs = [u, v] ∧ Dp K H u d ∧ Dp K H v d ∧ SD n d ∧ ∀ H', Fr T [] H H' → Q (.bl true) H'
theorem ok_same0 (D : Df K mg "_law_same" "_law_same" s_law_same ["_law_told_here", "_law_due_here"]) : Gd P w K mg base CX0 0 "_law_same" ["_law_told_here", "_law_due_here"] (sp_same K T 0) := D.never fun vs H Q E ⟨_, _, _, _, _, _, h, _⟩ => h
theorem lc_zipT {K : PySem.W.Frag} {a b : Addr} {xs ys : List V} {n : Nat} {g : TG} {tt : TT} {te : TE} {vs : List Nat} {σ : L2.St} {H1 : Hp} {D : Addr} {Qd : Hp → Prop} (hn : n = min xs.length ys.length) (Pv : Nat → Hp → Prop) (h0 : Pv 0 (upd H1 D (.lst []))) (hl : ∀ i H, i ≤ n → Pv i H → SqT K H a xs ∧ SqT K H b ys)
    (hs : ∀ i x y t H, xs[i]? = some x → ys[i]? = some y → Pv i H → H t = none → g (.ref t) (wipe σ vs) (upd H t (.tup [x, y])) fun σ2 H2 => wipe σ2 vs = wipe σ vs ∧ tt σ2 H2 fun b H3 =>
      if b = true then te σ2 H3 fun y H4 => ∃ acc, H4 D = some (.lst acc) ∧ acc.length < sizeLine ∧ Pv (i + 1) (upd H4 D (.lst (acc ++ [y]))) else Pv (i + 1) H3) (hd : ∀ H, Pv n H → Qd H) :
    ∃ W : Nat → Nat → Hp → Prop, (∃ m, W 0 m (upd H1 D (.lst []))) ∧ ∀ i m H, W i m H →
      ((RZ.ItzT K a b).stop i H ∧ Qd H) ∨ ((RZ.ItzT K a b).go i H ∧ ∃ Nx : Hp → Prop, (∀ H', Nx H' → ∃ m', m' < m ∧ W (i + 1) m' H') ∧ ∀ x H', (RZ.ItzT K a b).yld i H x H' → g x (wipe σ vs) H' fun σ2 H2 => wipe σ2 vs = wipe σ vs ∧ tt σ2 H2 fun b H3 =>
        if b = true then te σ2 H3 fun y H4 => ∃ acc, H4 D = some (.lst acc) ∧ acc.length < sizeLine ∧ Nx (upd H4 D (.lst (acc ++ [y]))) else Nx H3) := by
  refine ⟨fun i m H => m = n - i ∧ i ≤ n ∧ Pv i H, ⟨n, by simp, Nat.zero_le _, h0⟩, ?_⟩
  rintro i m H ⟨rfl, hi, p⟩
  obtain ⟨q1, q2⟩ := hl i H hi p
  by_cases hlt : i < n
  · have l1 : i < xs.length := by omega
    have l2 : i < ys.length := by omega
    refine .inr ⟨⟨xs, ys, xs[i], ys[i], q1, q2, by simp [l1], by simp [l2]⟩, Pv (i + 1), fun H' p' => ⟨n - (i + 1), by omega, rfl, hlt, p'⟩, fun z H' e => ?_⟩
    obtain ⟨t, x, y, rfl, nt, rfl, f1, f2⟩ := e
    exact hs i x y t H (f1 _ q1) (f2 _ q2) p nt
  · have e : i = n := by omega
    subst e
    exact .inl ⟨⟨xs, ys, q1, q2, by omega⟩, hd _ p⟩
theorem ok_same1 (TX : Txt mg) (D : Df K mg "_law_same" "_law_same" s_law_same ["_law_told_here", "_law_due_here"]) {n k : Nat} (G_law_same : Gd P w K mg base CX0 k "_law_same" ["_law_told_here", "_law_due_here"] (sp_same K T n)) : Gd P w K mg base CX0 (k + 1) "_law_same" ["_law_told_here", "_law_due_here"] (sp_same K T (n + 1)) := by
  refine D.ok (k := k) S_law_same (fun vs H Q E h => ?_) (fun f cdv A outer s H vs Q E hr h => ?_)
  · obtain ⟨u, v, d, rfl, _⟩ := h
    rfl
  · obtain ⟨u, v, d, rfl, hu, hv, ht, q⟩ := h
    -- slots: 0:_law_told_here 1:_law_due_here 2:_law_one 3:_law_two
    refine ⟨_, (pss_cons (ps_if (pt_val (pe_callB call_isiT rfl TX.n_isinstance (by decide +kernel) (pa_cons (pv 1) (pa_cons (pe_tup (pa_cons (pe_bltn (v := .ty "list") (u := .type "list") rfl TX.n_list (by decide +kernel) rfl) (pa_cons (pe_bltn (v := .ty "tuple") (u := .type "tuple") rfl TX.n_tuple (by decide +kernel) rfl) pa_nil))) pa_nil)))) (pss_cons (ps_if (PW.pt (pw_or (pt_cmpR op_ne (pe_callB call_isi rfl TX.n_isinstance (by decide +kernel) (pa_cons (pv 0) (pa_cons (pe_bltn (v := .ty "list") (u := .type "list") rfl TX.n_list (by decide +kernel) rfl) pa_nil))) (pe_callB call_isi rfl TX.n_isinstance (by decide +kernel) (pa_cons (pv 1) (pa_cons (pe_bltn (v := .ty "list") (u := .type "list") rfl TX.n_list (by decide +kernel) rfl) pa_nil))) (nomark _)) (pw_or1 (pt_cmpR op_ne (pe_callB call_isi rfl TX.n_isinstance (by decide +kernel) (pa_cons (pv 0) (pa_cons (pe_bltn (v := .ty "tuple") (u := .type "tuple") rfl TX.n_tuple (by decide +kernel) rfl) pa_nil))) (pe_callB call_isi rfl TX.n_isinstance (by decide +kernel) (pa_cons (pv 1) (pa_cons (pe_bltn (v := .ty "tuple") (u := .type "tuple") rfl TX.n_tuple (by decide +kernel) rfl) pa_nil))) (nomark _))))) (pss_one (ps_ret pe_bl)) pss_nil)
      (pss_one (ps_ret (pe_and (pe_cmpR op_eq (pe_callB call_len_seq rfl TX.n_len (by decide +kernel) (pa_cons (pv 0) pa_nil)) (pe_callB call_len_seq rfl TX.n_len (by decide +kernel) (pa_cons (pv 1) pa_nil)) (nomark _)) (pe_one (pe_callB (cr_all rfl) rfl TX.n_all (by decide +kernel) (pa_cons (pe_lc (own := [("_law_one", 2), ("_law_two", 3)]) rfl S_law_same.nd (RZ.pi_zipA rfl TX.n_zip (pa_cons (pv 0) (pa_cons (pv 1) pa_nil))) (blkOk_by (N := ["_law_told_here", "_law_due_here", "_law_one", "_law_two"]) (sc := defScope s_law_same) (by decide +kernel)) (fun _ _ _ _ _ => (pg_tupK K 2 rfl (pgs_cons (pg_name (i := 2) S_law_same.nd rfl (Or.inl rfl)) (pgs_cons (pg_name (i := 3) S_law_same.nd rfl (Or.inl rfl)) pgs_nil)))) (fun _ _ _ _ _ => pts_nil) (fun _ _ _ _ _ => (pcl G_law_same rfl hr p0 (pa_cons (pv 2) (pa_cons (pv 3) pa_nil))))) pa_nil))))))) pss_nil)
    (pss_cons (ps_if (PW.pt (pw_or (pt_cmpR op_isN (pv 1) pe_non (nomark _)) (pw_or1 (pt_val (pe_callB call_isiT rfl TX.n_isinstance (by decide +kernel) (pa_cons (pv 1) (pa_cons (pe_tup (pa_cons (pe_bltn (v := .ty "bool") (u := .type "bool") rfl TX.n_bool (by decide +kernel) rfl) (pa_cons (pe_bltn (v := .ty "str") (u := .type "str") rfl TX.n_str (by decide +kernel) rfl) pa_nil))) pa_nil))))))) (pss_one (ps_ret (pe_and (pe_cmpR (op_eqDK K (hu64_of hr)) (pv 0) (pv 1) (nomark _)) (pe_and (pe_cmpR op_eq (pe_callB call_isi rfl TX.n_isinstance (by decide +kernel) (pa_cons (pv 0) (pa_cons (pe_bltn (v := .ty "bool") (u := .type "bool") rfl TX.n_bool (by decide +kernel) rfl) pa_nil))) (pe_callB call_isi rfl TX.n_isinstance (by decide +kernel) (pa_cons (pv 1) (pa_cons (pe_bltn (v := .ty "bool") (u := .type "bool") rfl TX.n_bool (by decide +kernel) rfl) pa_nil))) (nomark _)) (pe_one (pe_cmpR op_eq (pe_cmpR op_isN (pv 0) pe_non (nomark _)) (pe_cmpR op_isN (pv 1) pe_non (nomark _)) (nomark _))))))) pss_nil)
    (pss_one (ps_ret (pe_and (pe_callB call_isi rfl TX.n_isinstance (by decide +kernel) (pa_cons (pv 0) (pa_cons (pe_bltn (v := .ty "int") (u := .type "int") rfl TX.n_int (by decide +kernel) rfl) pa_nil))) (pe_and (pe_not (pe_callB call_isi rfl TX.n_isinstance (by decide +kernel) (pa_cons (pv 0) (pa_cons (pe_bltn (v := .ty "bool") (u := .type "bool") rfl TX.n_bool (by decide +kernel) rfl) pa_nil)))) (pe_one (pe_cmpR (op_eqDK K (hu64_of hr)) (pv 0) (pv 1) (nomark _))))))))), ?_⟩
    have allT : ∀ m : Nat, (List.replicate m true).all id = true := fun m => by
      rw [List.all_eq_true]
      intro x hx
      rw [(List.mem_replicate.mp hx).2]
      rfl
    have repl : ∀ i : Nat, (List.replicate i true).map V.bl ++ [V.bl true] = (List.replicate (i + 1) true).map V.bl := fun i => by
      rw [List.replicate_succ', List.map_append]
      rfl
    have e0 : PyData.eqv .none .none = true := by simp [PyData.eqv]
    rcases ht with rfl | ⟨s, rfl, ok⟩ | ⟨i, rfl⟩ | ⟨ds, rfl | rfl, hl, hds⟩
    · -- None
      cases hu
      cases hv
      refine ⟨.non, rfl, small' 2 (by decide), fun tp htp => ⟨.non, tp, _, .type "NoneType", [.type "list", .type "tuple"], false, rfl, upd_same, .cons (.ty _) (.cons (.ty _) .nil), .base .non, kit2 (x := false) (y := false) (by decide +kernel) (by decide +kernel), false, rfl, iteF ?_⟩⟩
      have f1 : Fr T [] H (upd H tp (.tup [.ty "list", .ty "tuple"])) := Fr.refl.nw htp
      refine ⟨.non, rfl, rfl, true, rfl, ?_⟩
      refine iteT (iteT ?_)
      refine ⟨.non, rfl, .non, rfl, .none, .none, .non, .non, by decide +kernel, by decide +kernel, _, rfl, ?_⟩
      rw [e0]
      refine iteT ⟨.non, rfl, .non, .ty "bool", .type "NoneType", .type "bool", false, rfl, .ty _, .base .non, kit_ty (by decide +kernel), .non, rfl, .non, .ty "bool", .type "NoneType", .type "bool", false, rfl, .ty _, .base .non, kit_ty (by decide +kernel), rfl, true, rfl, iteT ⟨.non, rfl, rfl, .non, rfl, rfl, rfl, ?_⟩⟩
      exact q _ f1
    · -- a text
      obtain rfl := dp_str hu
      obtain rfl := dp_str hv
      refine ⟨.str s, rfl, small' 2 (by decide), fun tp htp => ⟨.str s, tp, _, .type "str", [.type "list", .type "tuple"], false, rfl, upd_same, .cons (.ty _) (.cons (.ty _) .nil), .base (.str _), kit2 (x := false) (y := false) (by decide +kernel) (by decide +kernel), false, rfl, iteF ?_⟩⟩
      have f1 : Fr T [] H (upd H tp (.tup [.ty "list", .ty "tuple"])) := Fr.refl.nw htp
      refine ⟨.str s, rfl, rfl, false, rfl, iteF ⟨.str s, rfl, small' 2 (by decide), fun tq htq => ⟨.str s, tq, _, .type "str", [.type "bool", .type "str"], true, rfl, upd_same, .cons (.ty _) (.cons (.ty _) .nil), .base (.str _), kit2 (x := false) (y := true) (by decide +kernel) (by decide +kernel), true, rfl, iteT ?_⟩⟩⟩
      have f2 := f1.nw (o := .tup [V.ty "bool", V.ty "str"]) htq
      refine ⟨.str s, rfl, .str s, rfl, .str s, .str s, .str s, .str s, (lay_str ok).shaped (by decide), (lay_str ok).shaped (by decide), _, rfl, ?_⟩
      rw [eqv_str, decide_eq_true rfl]
      refine iteT ⟨.str s, rfl, .str s, .ty "bool", .type "str", .type "bool", false, rfl, .ty _, .base (.str _), kit_ty (by decide +kernel), .str s, rfl, .str s, .ty "bool", .type "str", .type "bool", false, rfl, .ty _, .base (.str _), kit_ty (by decide +kernel), rfl, true, rfl, iteT ⟨.str s, rfl, rfl, .str s, rfl, rfl, rfl, ?_⟩⟩
      exact q _ f2
    · -- an int
      cases hu
      cases hv
      refine ⟨.int i, rfl, small' 2 (by decide), fun tp htp => ⟨.int i, tp, _, .type "int", [.type "list", .type "tuple"], false, rfl, upd_same, .cons (.ty _) (.cons (.ty _) .nil), .base (.int _), kit2 (x := false) (y := false) (by decide +kernel) (by decide +kernel), false, rfl, iteF ?_⟩⟩
      have f1 : Fr T [] H (upd H tp (.tup [.ty "list", .ty "tuple"])) := Fr.refl.nw htp
      refine ⟨.int i, rfl, rfl, false, rfl, iteF ⟨.int i, rfl, small' 2 (by decide), fun tq htq => ⟨.int i, tq, _, .type "int", [.type "bool", .type "str"], false, rfl, upd_same, .cons (.ty _) (.cons (.ty _) .nil), .base (.int _), kit2 (x := false) (y := false) (by decide +kernel) (by decide +kernel), false, rfl, iteF ?_⟩⟩⟩
      have f2 := f1.nw (o := .tup [V.ty "bool", V.ty "str"]) htq
      have li : Lay (.int i) 0 := ⟨by rw [PyData.canLay0], by simp [PyData.depth]⟩
      have ei : PyData.eqv (.int i) (.int i) = true := by simp [PyData.eqv]
      refine ⟨.int i, rfl, .int i, .ty "int", .type "int", .type "int", true, rfl, .ty _, .base (.int _), kit_ty (by decide +kernel), true, rfl, iteT ⟨.int i, rfl, .int i, .ty "bool", .type "int", .type "bool", false, rfl, .ty _, .base (.int _), kit_ty (by decide +kernel), false, rfl, true, rfl, iteT ⟨.int i, rfl, .int i, rfl, .int i, .int i, .int i, .int i, li.shaped (by decide), li.shaped (by decide), ?_⟩⟩⟩
      rw [ei]
      exact q _ f2
    · -- a list
      obtain ⟨a, xs, rfl, ha, hxs⟩ := dp_lst hu
      obtain ⟨b, ys, rfl, hb, hys⟩ := dp_lst hv
      refine ⟨.ref b, rfl, small' 2 (by decide), fun tp htp => ?_⟩
      have f1 : Fr T [] H (upd H tp (.tup [.ty "list", .ty "tuple"])) := Fr.refl.nw htp
      have ha1 := f1.sqL ha
      have hb1 := f1.sqL hb
      have lx := dpAll_len hxs
      have ly := dpAll_len hys
      refine ⟨.ref b, tp, _, .type "list", [.type "list", .type "tuple"], true, rfl, upd_same, .cons (.ty _) (.cons (.ty _) .nil), tyx_sqL hb1, kit2 (x := true) (y := false) (by decide +kernel) (by decide +kernel), true, rfl, iteT ?_⟩
      refine ⟨.ref a, rfl, .ref a, .ty "list", .type "list", .type "list", true, rfl, .ty _, tyx_sqL ha1, kit_ty (by decide +kernel), .ref b, rfl, .ref b, .ty "list", .type "list", .type "list", true, rfl, .ty _, tyx_sqL hb1, kit_ty (by decide +kernel), rfl, false, rfl, iteF ?_⟩
      refine ⟨.ref a, rfl, .ref a, .ty "tuple", .type "list", .type "tuple", false, rfl, .ty _, tyx_sqL ha1, kit_ty (by decide +kernel), .ref b, rfl, .ref b, .ty "tuple", .type "list", .type "tuple", false, rfl, .ty _, tyx_sqL hb1, kit_ty (by decide +kernel), rfl, false, rfl, iteF ?_⟩
      refine ⟨.ref a, rfl, a, xs, rfl, .inl ha1, .ref b, rfl, b, ys, rfl, .inl hb1, rfl, _, rfl, ?_⟩
      rw [show decide (V.int (xs.length : Nat) = V.int (ys.length : Nat)) = true from decide_eq_true (by rw [lx, ly])]
      refine iteT ⟨.ref a, rfl, .ref b, rfl, a, b, xs, ys, rfl, .inl ⟨ha1, hb1, fun D hD => ?_⟩⟩
      refine lc_zip (xs := xs) (ys := ys) (n := ds.length) (by omega) (fun i H' => Fr T [] (upd H tp (.tup [.ty "list", .ty "tuple"])) H' ∧ H' D = some (.lst ((List.replicate i true).map V.bl))) ⟨Fr.refl.nw hD, upd_same⟩ (fun i H' _ h => ⟨h.1.sqL ha1, h.1.sqL hb1⟩) (fun i x y t H' hx hy h ht => ?_) (fun H' h => ?_)
      · obtain ⟨f2, g1⟩ := h
        obtain ⟨d1, e1, e2⟩ := dpAll_at hxs hx
        obtain ⟨d2, e3, e4⟩ := dpAll_at hys hy
        rw [e1] at e3
        cases e3
        have f3 := (f1.trans f2).trans ((Fr.refl (T := T) (S := [])).nw (o := .tup [x, y]) ht)
        have li := (List.getElem?_eq_some_iff.mp hx).1
        refine ⟨t, _, rfl, sqT upd_same, rfl, _, _, rfl, _, _, rfl, rfl, rfl, ?_⟩
        simp only [tYes, if_true]
        refine ⟨x, rfl, y, rfl, x, y, d1, rfl, dp_fr0 f3 e2, dp_fr0 f3 e4, hds d1 (List.mem_of_getElem? e1), fun H4 f4 => ?_⟩
        have g4 := f4.lst (((Fr.refl (T := T) (S := [])).nw (o := .tup [x, y]) ht).lst g1)
        refine ⟨_, g4, small _ (by rw [List.length_map, List.length_replicate]; omega), ((f2.trans ((Fr.refl (T := T) (S := [])).nw (o := .tup [x, y]) ht)).trans f4).put (by rw [g4]; exact True.intro) (.inl hD), ?_⟩
        rw [upd_same, repl]
      · obtain ⟨f2, g1⟩ := h
        refine ⟨D, _, rfl, sqL g1, ?_⟩
        rw [allT]
        exact q _ (f1.trans f2)
    · -- a tuple
      obtain ⟨a, xs, rfl, ha, hxs⟩ := dp_tup hu
      obtain ⟨b, ys, rfl, hb, hys⟩ := dp_tup hv
      refine ⟨.ref b, rfl, small' 2 (by decide), fun tp htp => ?_⟩
      have f1 : Fr T [] H (upd H tp (.tup [.ty "list", .ty "tuple"])) := Fr.refl.nw htp
      have ha1 := f1.sqT ha
      have hb1 := f1.sqT hb
      have lx := dpAll_len hxs
      have ly := dpAll_len hys
      refine ⟨.ref b, tp, _, .type "tuple", [.type "list", .type "tuple"], true, rfl, upd_same, .cons (.ty _) (.cons (.ty _) .nil), tyx_sqT hb1, kit2 (x := false) (y := true) (by decide +kernel) (by decide +kernel), true, rfl, iteT ?_⟩
      refine ⟨.ref a, rfl, .ref a, .ty "list", .type "tuple", .type "list", false, rfl, .ty _, tyx_sqT ha1, kit_ty (by decide +kernel), .ref b, rfl, .ref b, .ty "list", .type "tuple", .type "list", false, rfl, .ty _, tyx_sqT hb1, kit_ty (by decide +kernel), rfl, false, rfl, iteF ?_⟩
      refine ⟨.ref a, rfl, .ref a, .ty "tuple", .type "tuple", .type "tuple", true, rfl, .ty _, tyx_sqT ha1, kit_ty (by decide +kernel), .ref b, rfl, .ref b, .ty "tuple", .type "tuple", .type "tuple", true, rfl, .ty _, tyx_sqT hb1, kit_ty (by decide +kernel), rfl, false, rfl, iteF ?_⟩
      refine ⟨.ref a, rfl, a, xs, rfl, .inr ha1, .ref b, rfl, b, ys, rfl, .inr hb1, rfl, _, rfl, ?_⟩
      rw [show decide (V.int (xs.length : Nat) = V.int (ys.length : Nat)) = true from decide_eq_true (by rw [lx, ly])]
      refine iteT ⟨.ref a, rfl, .ref b, rfl, a, b, xs, ys, rfl, .inr ⟨ha1, hb1, fun D hD => ?_⟩⟩
      refine lc_zipT (xs := xs) (ys := ys) (n := ds.length) (by omega) (fun i H' => Fr T [] (upd H tp (.tup [.ty "list", .ty "tuple"])) H' ∧ H' D = some (.lst ((List.replicate i true).map V.bl))) ⟨Fr.refl.nw hD, upd_same⟩ (fun i H' _ h => ⟨h.1.sqT ha1, h.1.sqT hb1⟩) (fun i x y t H' hx hy h ht => ?_) (fun H' h => ?_)
      · obtain ⟨f2, g1⟩ := h
        obtain ⟨d1, e1, e2⟩ := dpAll_at hxs hx
        obtain ⟨d2, e3, e4⟩ := dpAll_at hys hy
        rw [e1] at e3
        cases e3
        have f3 := (f1.trans f2).trans ((Fr.refl (T := T) (S := [])).nw (o := .tup [x, y]) ht)
        have li := (List.getElem?_eq_some_iff.mp hx).1
        refine ⟨t, _, rfl, sqT upd_same, rfl, _, _, rfl, _, _, rfl, rfl, rfl, ?_⟩
        simp only [tYes, if_true]
        refine ⟨x, rfl, y, rfl, x, y, d1, rfl, dp_fr0 f3 e2, dp_fr0 f3 e4, hds d1 (List.mem_of_getElem? e1), fun H4 f4 => ?_⟩
        have g4 := f4.lst (((Fr.refl (T := T) (S := [])).nw (o := .tup [x, y]) ht).lst g1)
        refine ⟨_, g4, small _ (by rw [List.length_map, List.length_replicate]; omega), ((f2.trans ((Fr.refl (T := T) (S := [])).nw (o := .tup [x, y]) ht)).trans f4).put (by rw [g4]; exact True.intro) (.inl hD), ?_⟩
        rw [upd_same, repl]
      · obtain ⟨f2, g1⟩ := h
        refine ⟨D, _, rfl, sqL g1, ?_⟩
        rw [allT]
        exact q _ (f1.trans f2)
end
end Ob

/-! LI: equal_right, moved_right -/
namespace Ob
open PySem PySem.Spec PyProof.Rows L2 LamX
theorem ifD {c : TT} {t : TS} {D : Ends} {σ : L2.St} {H : Hp} (b : Prop) [Decidable b] (J J2 : Hp → Prop) (hc : ∀ R : Bool → Hp → Prop, (∀ H1, J H1 → R (decide b) H1) → c σ H R) (ht : b → ∀ H1, J H1 → (∀ H', J2 H' → D.nx σ H') → t D σ H1) (hm : ¬ b → ∀ H1, J H1 → J2 H1) (hn : ∀ H', J2 H' → D.nx σ H') : tIfS c t tNext D σ H := by
  refine hc _ fun H1 j => ?_
  by_cases h : b
  · rw [decide_eq_true h]
    exact iteT (ht h H1 j hn)
  · rw [decide_eq_false h]
    exact iteF (hn _ (hm h _ j))
theorem drop_ne {α : Type} {l : List α} (h : l ≠ []) : l.drop 1 ≠ l := fun e => by
  have := congrArg List.length e
  rw [List.length_drop] at this
  have := List.length_pos_iff.mpr h
  omega
theorem eqv_strs (A B : List Str) : PyData.eqv (.list (A.map PyData.str)) (.list (B.map PyData.str)) = decide (A = B) := by
  rw [PyData.eqv]
  exact eqvAll_map PyData.str eqv_str A B
section
variable {P : Program} {w : World} {K : PySem.W.Frag} {mg : Str → Option Value} {base : Heap} {BC PC : Addr} {T : List (Addr × Str)} {XL : Addr → Prop}
abbrev s_law_equal_right : Stmt := top 49
theorem S_law_equal_right : FnScope ["_law_board", "_law_page", "_law_switches", "_law_pairs", "_law_state_here", "_law_mate", "_law_found", "_law_it"] ["_law_board", "_law_page"] (defScope s_law_equal_right) := ⟨rfl, rfl, rfl, by decide +kernel, rfl, by decide +kernel, by decide +kernel⟩
abbrev s_law_moved_right : Stmt := top 50
theorem S_law_moved_right : FnScope ["_law_board", "_law_page", "_law_name", "_law_mate", "_law_after_here", "_law_gone", "_law_near"] ["_law_board", "_law_page"] (defScope s_law_moved_right) := ⟨rfl, rfl, rfl, by decide +kernel, rfl, by decide +kernel, by decide +kernel⟩
def sp_equal (K : PySem.W.Frag) (T : List (Addr × Str)) (BC PC : Addr) : Sp := fun vs H Q _ => ∃ (a pl wl : Addr) (pv : V) (ms : List Pg) (g : Pg) (n : Nat), vs = [.ref a, pv] ∧ BoardAt K BC PC H a pl wl (ms ++ [g]) n ∧ Dp K H pv (pgD g) ∧ Ok g ∧ Sz g 40000 ∧ ∀ H', Fr T [] H H' → Q (.bl true) H'
/-- the boards that differ, at fo -/
def JE (K : PySem.W.Frag) (T : List (Addr × Str)) (BC PC : Addr) (H : Hp) (fo : Addr) (g : Pg) (k : Nat) (H' : Hp) : Prop := Fr T [] H H' ∧ ∃ L : List V, H' fo = some (.lst L) ∧ L.length ≤ k ∧ ∀ v ∈ L, ∃ o plo wlo g', v = .ref o ∧ BoardAt K BC PC H' o plo wlo ([] ++ [g']) 0 ∧ Ok g' ∧ g' ≠ g ∧ plo ≠ fo ∧ wlo ≠ fo
theorem JE.fr0 {H H' H2 : Hp} {fo : Addr} {g : Pg} {k : Nat} (h : JE K T BC PC H fo g k H') (f : Fr T [] H' H2) : JE K T BC PC H fo g k H2 := by
  obtain ⟨f1, L, h1, h2, h3⟩ := h
  refine ⟨f1.trans f, L, f.lst h1, h2, fun v hv => ?_⟩
  obtain ⟨o, plo, wlo, g', e, b, r⟩ := h3 v hv
  exact ⟨o, plo, wlo, g', e, b.fr f, r⟩
/-- one more -/
theorem JE.add {H H' : Hp} {fo o plo wlo : Addr} {g g' : Pg} {k : Nat} {L : List V} (h0 : H fo = none) (h : JE K T BC PC H fo g k H') (hL : H' fo = some (.lst L)) (b : BoardAt K BC PC H' o plo wlo [g'] 0) (og : Ok g') (ne : g' ≠ g) (n1 : plo ≠ fo) (n2 : wlo ≠ fo) :
    JE K T BC PC H fo g (k + 1) (upd H' fo (.lst (L ++ [.ref o]))) := by
  obtain ⟨f1, L', h1, h2, h3⟩ := h
  rw [hL] at h1
  have e := Option.some.inj h1
  injection e with e
  subst e
  have fw : Fr T [fo] H' (upd H' fo (.lst (L ++ [.ref o]))) := Fr.refl.put (by rw [hL]; exact True.intro) (.inr ⟨by simp, _, hL⟩)
  refine ⟨f1.put (by rw [hL]; exact True.intro) (.inl h0), L ++ [.ref o], upd_same, by rw [List.length_append]; simp; omega, fun v hv => ?_⟩
  rcases List.mem_append.mp hv with h | h
  · obtain ⟨o', plo', wlo', g'', e, b', r1, r2, r3, r4⟩ := h3 v h
    exact ⟨o', plo', wlo', g'', e, b'.fr fw (by simpa using r3) (by simpa using r4), r1, r2, r3, r4⟩
  · exact ⟨o, plo, wlo, g', List.mem_singleton.mp h, b.fr fw (by simpa using n1) (by simpa using n2), og, ne, n1, n2⟩
theorem ok_equal (TX : Txt mg) (D : Df K mg "_law_equal_right" "_law_equal_right" s_law_equal_right ["_law_board", "_law_page"]) (G_Board : Gk P w K mg base CX0 3 "Board" BC ["self", "panel", "state"] (sp_board K T BC PC)) (G_Board_eq : Gm P w K mg base CX0 3 BC "__eq__" ["self", "other"] (sp_eq K T BC PC)) :
    Gd P w K mg base CX0 5 "_law_equal_right" ["_law_board", "_law_page"] (sp_equal K T BC PC) := by
  refine D.ok (k := 4) S_law_equal_right (fun vs H Q E h => ?_) (fun f cdv A outer s H vs Q E hr h => ?_)
  · obtain ⟨a, pl, wl, pv, ms, g, n, rfl, _⟩ := h
    rfl
  · obtain ⟨a, pl, wl, pv, ms, g, n, rfl, hB, hP, og, sz, q⟩ := h
    obtain ⟨⟨dx, vs, ws, h1, _⟩, _⟩ := id hB
    obtain ⟨pa, pn, st, rfl, hpa, hpn, hst⟩ := dp_two hP
    obtain ⟨pb, sv, ev, rfl, hpb, hsv, hev⟩ := dp_two hpn
    obtain ⟨ea, es, rfl, hea, hes⟩ := dp_ps hev
    obtain ⟨ss, rfl, hss⟩ := dp_st hst
    have lps := sz.ps
    -- slots: 0:_law_board* 1:_law_page 2:_law_switches 3:_law_pairs 4:_law_state_here 5:_law_mate 6:_law_found 7:_law_it
    refine ⟨_, (pss_cons (ps_asg (pv 1) (pg_tup rfl (pgs_cons (pg_tup rfl (pgs_cons (pg_name (i := 2) S_law_equal_right.nd rfl (Or.inl rfl)) (pgs_cons (pg_name (i := 3) S_law_equal_right.nd rfl (Or.inl rfl)) pgs_nil))) (pgs_cons (pg_name (i := 4) S_law_equal_right.nd rfl (Or.inl rfl)) pgs_nil))))
    (pss_cons (ps_par (i := 5) (j := 6) rfl S_law_equal_right.nd rfl rfl (by decide) rfl rfl (pa_cons (pmk G_Board rfl (hr.mono (by decide)) (pa_cons (pe_ix (ix_tupK K) (pv 1) pe_int (fun _ _ => rfl)) (pa_cons (pe_ix (ix_tupK K) (pv 1) pe_int (fun _ _ => rfl)) pa_nil))) (pa_cons (pe_lst pa_nil) pa_nil)) rfl)
    (pss_cons (ps_if (PW.pt (pw_or (pt_not (pt_cmpR (op_own G_Board_eq (hr.mono (by decide))) (pv 5) (pv 0) (nomark _))) (pw_or1 (pt_not (pt_cmpR (op_own G_Board_eq (hr.mono (by decide))) (pv 0) (pv 5) (nomark _)))))) (pss_one (ps_ret pe_bl)) pss_nil)
    (pss_cons (ps_if (pt_cmpR (op_neDK K (hu64_of hr)) (pv 3) (pe_tup pa_nil) (nomark _)) (pss_one (ps_expr (pe_bm PySem.F.plainAttrs_list PySem.F.slot_list_append PySem.F.type_list_append mt_append (pv 6) (pa_cons (pmk G_Board rfl (hr.mono (by decide)) (pa_cons (pe_tup (pa_cons (pv 2) (pa_cons (pe_slice sl_tupA (pv 3) (po_some pe_int) po_none) pa_nil))) (pa_cons (pv 4) pa_nil))) pa_nil)))) pss_nil)
    (pss_cons (ps_if (pt_cmpR (op_neDK K (hu64_of hr)) (pv 4) (pe_tup pa_nil) (nomark _)) (pss_one (ps_expr (pe_bm PySem.F.plainAttrs_list PySem.F.slot_list_append PySem.F.type_list_append mt_append (pv 6) (pa_cons (pmk G_Board rfl (hr.mono (by decide)) (pa_cons (pe_ix (ix_tupK K) (pv 1) pe_int (fun _ _ => rfl)) (pa_cons (pe_slice sl_tupA (pv 4) (po_some pe_int) po_none) pa_nil))) pa_nil)))) pss_nil)
    (pss_one (ps_ret (pe_not (pe_callB (cr_any rfl) rfl TX.n_any (by decide +kernel) (pa_cons (pe_lc (own := [("_law_it", 7)]) rfl S_law_equal_right.nd (pi_list (pv 6)) (blkOk_by (N := ["_law_board", "_law_page", "_law_switches", "_law_pairs", "_law_state_here", "_law_mate", "_law_found", "_law_it"]) (sc := defScope s_law_equal_right) (by decide +kernel)) (fun _ _ _ _ _ => (pg_name (i := 7) S_law_equal_right.nd rfl (Or.inl rfl))) (fun _ _ _ _ _ => pts_nil) (fun _ _ _ _ _ => (pe_or (pe_cmpR (op_own G_Board_eq (hr.mono (by decide))) (pv 0) (pv 7) (nomark _)) (pe_one (pe_cmpR (op_own G_Board_eq (hr.mono (by decide))) (pv 7) (pv 0) (nomark _)))))) pa_nil)))))))))), ?_⟩
    refine ⟨.ref pa, rfl, pa, _, rfl, hpa, rfl, _, _, rfl, pb, _, rfl, hpb, rfl, _, _, rfl, _, _, rfl, rfl, _, _, rfl, rfl, ?_⟩
    refine ⟨.ref pa, rfl, pa, _, 0, .ref pb, rfl, rfl, hpa, rfl, .ref pa, rfl, pa, _, 1, .ref ss, rfl, rfl, hpa, rfl, fun x xd nx nxd nex => ⟨x, xd, H, .ref pb, .ref ss, g.1, g.2, rfl, rfl, nx, nxd, nex, panL_of hpn, stL_of hst, by omega, fun plx wlx H1 np nw f1 b1 => ⟨rfl, small' 0 (by decide), fun fo hfo => ⟨_, _, rfl, ?_⟩⟩⟩⟩
    have f2 : Fr T [] H1 (upd H1 fo (.lst [])) := Fr.refl.nw hfo
    have F2 := f1.trans f2
    have hB2 := hB.fr F2
    have b2 := b1.fr f2
    obtain ⟨⟨dxx, _, _, i1, _⟩, _⟩ := id b2
    have fo0 : H fo = none := f1.free hfo
    -- not mate == board or not board == mate
    refine ⟨.ref x, rfl, .ref a, rfl, x, a, dxx, dx, _, _, rfl, rfl, i1, F2.ins h1, x, a, plx, wlx, pl, wl, [], ms, g, g, 0, n, rfl, b2, hB2, og, og, fun H3 f3 => ⟨_, rfl, _, rfl, ?_⟩⟩
    rw [decide_eq_true rfl]
    refine iteF ⟨.ref a, rfl, .ref x, rfl, a, x, dx, dxx, _, _, rfl, rfl, f3.ins (F2.ins h1), f3.ins i1, a, x, pl, wl, plx, wlx, ms, [], g, g, n, 0, rfl, hB2.fr f3, b2.fr f3, og, og, fun H4 f4 => ⟨_, rfl, _, rfl, ?_⟩⟩
    rw [decide_eq_true rfl]
    refine iteF (tNextI ?_)
    dsimp only
    have J0 : JE K T BC PC H fo g 0 H4 := ⟨(F2.trans f3).trans f4, [], f4.lst (f3.lst upd_same), Nat.le_refl _, fun v hv => absurd hv (by simp)⟩
    let σ0 : L2.St := [some (.ref a), some (.ref pa), some sv, some (.ref ea), some (.ref ss), some (.ref x), some (.ref fo), none]
    have mono : ∀ {k : Nat} {H' : Hp}, JE K T BC PC H fo g k H' → JE K T BC PC H fo g (k + 1) H' := fun h => ⟨h.1, let ⟨L, a, b, c⟩ := h.2; ⟨L, a, by omega, c⟩⟩
    have not_ne : ∀ (p : Prop) [Decidable p], (!decide p) = decide (¬ p) := fun p _ => by
      by_cases h : p
      · simp [h]
      · simp [h]
    -- if pairs != ()
    refine tSeqI (ifD (¬ g.1.2 = []) (JE K T BC PC H fo g 0) (JE K T BC PC H fo g 1) (fun R hR => ?_) (fun hne H5 hJ hn => ?_) (fun _ H5 hJ => mono hJ) fun H5 hJ => ?_)
    · refine ⟨.ref ea, rfl, small' 0 (by decide), fun u hu => ?_⟩
      have fu : Fr T [] H4 (upd H4 u (.tup [])) := Fr.refl.nw hu
      refine ⟨psD g.1.2, psD [], fu.dps (((F2.trans f3).trans f4).dps hev), .tup (sqT upd_same) .nil, (lay_ps og.ps).shaped (by decide), (lay_ps (ps := []) fun p h => absurd h (by simp)).shaped (by decide), _, rfl, ?_⟩
      rw [eqv_ps, not_ne]
      exact hR _ (J0.fr0 fu)
    · obtain ⟨f5, L, hL, _⟩ := id hJ
      refine ⟨.ref fo, rfl, .inl ⟨rfl, _, sqL hL⟩, sv, rfl, .ref ea, rfl, 1, rfl, ?_⟩
      simp only [tNoPart]
      refine slA (T := T) (fun z => hne ?_) (f5.sqT hea) fun c H6 f6 hc => ⟨small' 2 (by decide), fun m hm => ⟨.ref ss, rfl, fun y yd ny nyd nye => ?_⟩⟩
      · have := dpAll_len hes
        rw [z, List.length_map] at this
        exact List.length_eq_zero_iff.mp this.symm
      have fm : Fr T [] H6 (upd H6 m (.tup [sv, .ref c])) := Fr.refl.nw hm
      have F6 := (f5.trans f6).trans fm
      have hpan : Dp K (upd H6 m (.tup [sv, .ref c])) (.ref m) (panD (g.1.1, g.1.2.drop 1)) := by
        refine dp_two_of (sqT upd_same) (F6.dst hsv) (.tup (fm.sqT hc) ?_)
        show DpAll K _ (es.drop 1) ((g.1.2.drop 1).map prD)
        rw [List.map_drop]
        exact dpAll_drop 1 (F6.prs hes)
      refine ⟨y, yd, _, .ref m, .ref ss, (g.1.1, g.1.2.drop 1), g.2, rfl, rfl, ny, nyd, nye, panL_of hpan, stL_of (F6.dst hst), by show (g.1.2.drop 1).length ≤ _; rw [List.length_drop]; omega, fun py wy H7 np7 nw7 f7 b7 => ⟨rfl, ?_⟩⟩
      have J7 := ((hJ.fr0 f6).fr0 fm).fr0 f7
      have hL7 := f7.lst (fm.lst (f6.lst hL))
      refine ⟨fo, _, _, rfl, rfl, hL7, small _ (by obtain ⟨_, L', e1, e2, _⟩ := hJ; rw [hL] at e1; have e := Option.some.inj e1; injection e with e; subst e; omega), hn _ ?_⟩
      exact J7.add fo0 hL7 b7 ⟨og.sw, fun p hp => og.mem p (List.mem_of_mem_drop hp), og.st, og.ne, og.nd⟩ (fun e => drop_ne hne (congrArg (fun z : Pg => z.1.2) e)) (ne_of_none (fm.lst (f6.lst hL)) np7).symm (ne_of_none (fm.lst (f6.lst hL)) nw7).symm
    dsimp only
    -- if state != ()
    refine tSeqI (ifD (¬ g.2 = []) (JE K T BC PC H fo g 1) (JE K T BC PC H fo g 2) (fun R hR => ?_) (fun hne H6 hJ hn => ?_) (fun _ H6 hJ => mono hJ) fun H6 hJ => ?_)
    · refine ⟨.ref ss, rfl, small' 0 (by decide), fun u hu => ?_⟩
      have fu : Fr T [] H5 (upd H5 u (.tup [])) := Fr.refl.nw hu
      refine ⟨stD g.2, stD [], fu.dst (hJ.1.dst hst), .tup (sqT upd_same) .nil, (lay_st og.st).shaped (by decide), (lay_st (S := []) fun p h => absurd h (by simp)).shaped (by decide), _, rfl, ?_⟩
      rw [eqv_st, not_ne]
      exact hR _ (hJ.fr0 fu)
    · obtain ⟨f5, L, hL, _⟩ := id hJ
      refine ⟨.ref fo, rfl, .inl ⟨rfl, _, sqL hL⟩, .ref pa, rfl, pa, _, 0, .ref pb, rfl, rfl, f5.sqT hpa, rfl, .ref ss, rfl, 1, rfl, ?_⟩
      simp only [tNoPart]
      refine slA (T := T) (fun z => hne (List.map_eq_nil_iff.mp z)) (f5.sqT hss) fun c H7 f6 hc => fun y yd ny nyd nye => ?_
      have F6 := f5.trans f6
      have hstd : Dp K H7 (.ref c) (stD (g.2.drop 1)) := dp_st_of (by rw [List.map_drop]; exact hc)
      refine ⟨y, yd, _, .ref pb, .ref c, g.1, g.2.drop 1, rfl, rfl, ny, nyd, nye, panL_of (F6.dpan hpn), stL_of hstd, by omega, fun py wy H8 np7 nw7 f7 b7 => ⟨rfl, ?_⟩⟩
      have J7 := (hJ.fr0 f6).fr0 f7
      have hL7 := f7.lst (f6.lst hL)
      refine ⟨fo, _, _, rfl, rfl, hL7, small _ (by obtain ⟨_, L', e1, e2, _⟩ := hJ; rw [hL] at e1; have e := Option.some.inj e1; injection e with e; subst e; omega), hn _ ?_⟩
      exact J7.add fo0 hL7 b7 ⟨og.sw, og.mem, fun s hs => og.st s (List.mem_of_mem_drop hs), og.ne, og.nd⟩ (fun e => drop_ne hne (congrArg (fun z : Pg => z.2) e)) (ne_of_none (f6.lst hL) np7).symm (ne_of_none (f6.lst hL) nw7).symm
    dsimp only
    -- not any(..)
    obtain ⟨f6, L, hL, hLl, hLb⟩ := hJ
    refine tRetI ⟨.ref fo, rfl, fo, rfl, ⟨_, sqL hL⟩, fun D hD => ?_⟩
    refine lc_list (xs := L) (fun i H' => Fr T [] H6 H' ∧ H' D = some (.lst ((List.replicate i false).map V.bl))) ⟨Fr.refl.nw hD, upd_same⟩ (fun i H' _ h => sqL (h.1.lst hL)) (fun i v H' hi h => ?_) (fun H' h => ?_)
    · obtain ⟨f7, g1⟩ := h
      obtain ⟨o, plo, wlo, g', rfl, bo, ogo, nego, _⟩ := hLb _ (List.mem_of_getElem? hi)
      have li := (List.getElem?_eq_some_iff.mp hi).1
      have F7 := f6.trans f7
      have bo7 := bo.fr f7
      have hB7 := hB.fr F7
      obtain ⟨⟨dxo, _, _, io, _⟩, _⟩ := id bo7
      refine ⟨rfl, ?_⟩
      simp only [tYes, if_true]
      refine ⟨.ref a, rfl, .ref o, rfl, a, o, dx, dxo, _, _, rfl, rfl, F7.ins h1, io, a, o, pl, wl, plo, wlo, ms, [], g, g', n, 0, rfl, hB7, bo7, og, ogo, fun H8 f8 => ⟨_, rfl, _, rfl, ?_⟩⟩
      rw [decide_eq_false (fun e => nego e.symm)]
      refine iteF ⟨.ref o, rfl, .ref a, rfl, o, a, dxo, dx, _, _, rfl, rfl, f8.ins io, f8.ins (F7.ins h1), o, a, plo, wlo, pl, wl, [], ms, g', g, 0, n, rfl, bo7.fr f8, hB7.fr f8, ogo, og, fun H9 f9 => ⟨_, rfl, ?_⟩⟩
      rw [decide_eq_false nego]
      have g9 := f9.lst (f8.lst g1)
      refine ⟨_, g9, small _ (by rw [List.length_map, List.length_replicate]; omega), ((f7.trans f8).trans f9).put (by rw [g9]; exact True.intro) (.inl hD), ?_⟩
      rw [upd_same, List.replicate_succ', List.map_append]
      rfl
    · obtain ⟨f7, g1⟩ := h
      refine ⟨D, _, rfl, sqL g1, false, ?_, q _ (f6.trans f7)⟩
      have e : (List.replicate L.length false).any id = false := by
        rw [List.any_eq_false]
        intro x hx
        rw [(List.mem_replicate.mp hx).2]
        exact Bool.false_ne_true
      rw [e]

def sp_moved (K : PySem.W.Frag) (T : List (Addr × Str)) (BC PC : Addr) : Sp := fun vs H Q _ => ∃ (a pl wl : Addr) (pv : V) (ms : List Pg) (g : Pg) (n : Nat), vs = [.ref a, pv] ∧ Tabs T H ∧ BoardAt K BC PC H a pl wl (ms ++ [g]) n ∧ Dp K H pv (pgD g) ∧ Ok g ∧ Sz g 40000 ∧ ms.length ≤ 40000 ∧ ∀ H', Fr T [] H H' → Q (.bl true) H'
theorem ok_moved (D : Df K mg "_law_moved_right" "_law_moved_right" s_law_moved_right ["_law_board", "_law_page"]) (G_Board_twin : Gm P w K mg base (L2.CX P w) 6 BC "twin" ["self"] (sp_twin K T BC PC)) (G_Board_press : Gm P w K mg base (L2.CX P w) 8 BC "press" ["self", "switch"] (sp_press K T BC PC XL))
    (G_Board_state : Gm P w K mg base CX0 2 BC "state" ["self"] (sp_state K BC PC)) (G_law_rivals : Gd P w K mg base CX0 1 "_law_rivals" ["_law_panel_here"] (sp_table K T)) (G_law_after : Gd P w K mg base CX0 1 "_law_after" ["_law_table", "_law_state_here", "_law_presses_here"] (sp_lafter K T)) :
    Gd P w K mg base CX0 9 "_law_moved_right" ["_law_board", "_law_page"] (sp_moved K T BC PC) := by
  refine D.ok (k := 8) S_law_moved_right (fun vs H Q E h => ?_) (fun f cdv A outer s H vs Q E hr h => ?_)
  · obtain ⟨a, pl, wl, pv, ms, g, n, rfl, _⟩ := h
    rfl
  · obtain ⟨a, pl, wl, pv, ms, g, n, rfl, hTb, hB, hP, og, sz, hms, q⟩ := h
    obtain ⟨⟨dx, vs, ws, h1, _⟩, _⟩ := id hB
    obtain ⟨pa, pn, st, rfl, hpa, hpn, hst⟩ := dp_two hP
    obtain ⟨pb, sv, ev, rfl, hpb, hsv, hev⟩ := dp_two hpn
    obtain ⟨sa, rfl, hsa⟩ := dp_st hsv
    obtain ⟨ss, rfl, hss⟩ := dp_st hst
    have lsw := sz.sw
    have lps := sz.ps
    have lst := sz.st
    -- slots: 0:_law_board 1:_law_page 2:_law_name 3:_law_mate 4:_law_after_here* 5:_law_gone 6:_law_near
    refine ⟨_, (pss_cons (ps_for PassesOwn.never rfl (pi_tup (pe_ix (ix_tupK K) (pe_ix (ix_tupK K) (pv 1) pe_int (fun _ _ => rfl)) pe_int (fun _ _ => rfl))) (pg_name (i := 2) S_law_moved_right.nd rfl (Or.inl rfl))
      (pss_cons (ps_asg (pe_tup (pa_cons (pmt0 G_Board_twin (hr.mono (by decide)) pF (pv 0)) (pa_cons (pcl G_law_after rfl (hr.mono (by decide)) p0 (pa_cons (pcl G_law_rivals rfl (hr.mono (by decide)) p0 (pa_cons (pe_ix (ix_tupK K) (pv 1) pe_int (fun _ _ => rfl)) pa_nil)) (pa_cons (pe_ix (ix_tupK K) (pv 1) pe_int (fun _ _ => rfl)) (pa_cons (pe_lst (pa_cons (pv 2) pa_nil)) pa_nil)))) pa_nil))) (pg_tup rfl (pgs_cons (pg_name (i := 3) S_law_moved_right.nd rfl (Or.inl rfl)) (pgs_cons (pg_name (i := 4) S_law_moved_right.nd rfl (Or.inr rfl)) pgs_nil))))
      (pss_cons (ps_setLc (i := 5) (own := [("_law_near", 6)]) rfl S_law_moved_right.nd rfl rfl (sw_true rfl rfl rfl (by decide +kernel)) (pi_tup (pe_ix (ix_tupK K) (pv 1) pe_int (fun _ _ => rfl))) (blkOk_by (N := ["_law_board", "_law_page", "_law_name", "_law_mate", "_law_after_here", "_law_gone", "_law_near"]) (sc := defScope s_law_moved_right) (by decide +kernel)) (fun _ _ _ _ _ => (pg_name (i := 6) S_law_moved_right.nd rfl (Or.inl rfl))) (fun _ _ _ _ _ => (pts_one (pt_cmpR (op_notIn_seqK K) (pv 6) (pv 4) rfl))) (fun _ _ _ _ _ => (pv 6)))
      (pss_one (ps_if (PW.pt (pw_or (pt_cmpR (op_neDK K (hu64_of hr)) (pmt G_Board_press (hr.mono (by decide)) pF (pv 3) (pa_cons (pv 2) pa_nil)) (pv 5) (nomark _)) (pw_or1 (pt_cmpR (op_neDK K (hu64_of hr)) (pmt0 G_Board_state (hr.mono (by decide)) p0 (pv 3)) (pv 4) (nomark _))))) (pss_one (ps_ret pe_bl)) pss_nil)))))
    (pss_one (ps_ret pe_bl))), ?_⟩
    refine ⟨.ref pa, rfl, pa, _, 0, .ref pb, rfl, rfl, hpa, rfl, pb, _, 0, .ref sa, rfl, rfl, hpb, rfl, sa, rfl, ⟨_, hsa⟩, ?_⟩
    refine for_tup (xs := g.1.1.map V.str) (fun i σ H' => Fr T [] H H' ∧ ∃ z2 z3 z4 z5, σ = [some (.ref a), some (.ref pa), z2, z3, z4, z5, none]) ⟨.refl, none, none, none, none, rfl⟩ (fun i σ H' _ h => h.1.sqT hsa) (fun i x σ H' hi h => ?_) (fun σ H' h => ?_)
    · obtain ⟨F, z2, z3, z4, z5, rfl⟩ := h
      rw [List.getElem?_map] at hi
      cases he : g.1.1[i]? with
      | none => rw [he] at hi; cases hi
      | some nm =>
        rw [he] at hi
        cases hi
        have hnm : nm ∈ g.1.1 := List.mem_of_getElem? he
        have hBF := hB.fr F
        refine ⟨.ref a, rfl, a, dx, _, rfl, F.ins h1, rfl, a, pl, wl, ms, g, n, rfl, hBF, by omega, fun o plo wlo H1 no npl nwl f1 b1 => ?_⟩
        have F1 := F.trans f1
        refine ⟨.ref pa, rfl, pa, _, 0, .ref pb, rfl, rfl, F1.sqT hpa, rfl, .ref pb, g.1, rfl, F1.dpan hpn, og.mem, by omega, by omega, fun d H2 nd f2 tab => ?_⟩
        have F2 := F1.trans f2
        refine ⟨.ref pa, rfl, pa, _, 1, .ref ss, rfl, rfl, F2.sqT hpa, rfl, .str nm, rfl, small' 1 (by decide), fun ln hln => ?_⟩
        have f3 : Fr T [] H2 (upd H2 ln (.lst [.str nm])) := Fr.refl.nw hln
        have F3 := F2.trans f3
        refine ⟨d, g.1, .ref ss, g.2, ln, nm, rfl, tab.fr0 f3, F3.dst hst, sqL upd_same, hnm, by omega, fun av H4 f4 hav => ⟨small' 2 (by decide), fun t ht => ?_⟩⟩
        have f5 : Fr T [] H4 (upd H4 t (.tup [.ref o, av])) := Fr.refl.nw ht
        have F5 := (F3.trans f4).trans f5
        obtain ⟨va, rfl, hva⟩ := dp_st (f5.dst hav)
        refine ⟨t, _, rfl, sqT upd_same, rfl, _, _, rfl, _, _, rfl, rfl, ?_⟩
        -- gone
        refine ⟨.ref pa, rfl, pa, _, 1, .ref ss, rfl, rfl, F5.sqT hpa, rfl, ss, rfl, ⟨_, F5.sqT hss⟩, fun D hD => ?_⟩
        refine lc_filtT (as := g.2) (c := PyData.str) (q := fun z => !decide (z ∈ press g.1.2 g.2 nm)) hD (F5.sqT hss) (by rw [List.length_map]; omega) (dpAll_strs _) (fun x y acc hy hx => ?_) (fun acc hacc => ?_)
        · obtain rfl := dp_str hx
          refine ⟨[some (.ref a), some (.ref pa), some (.str nm), some (.ref o), some (.ref va), z5, some (.str y)], rfl, fun Q h => h, fun Q h => ?_, fun _ Q h => ⟨_, rfl, h⟩⟩
          refine ⟨.str y, rfl, .ref va, rfl, va, _, rfl, .inr (((Fr.refl (T := T) (S := [])).nw hD).sqT hva), rfl, flat_strs _, _, rfl, ?_⟩
          show Q (!inV (V.str y) ((press g.1.2 g.2 nm).map V.str)) _
          rw [inV_strs]
          exact h
        have ea := dpAll_str hacc
        subst ea
        let GL := g.2.filter fun z => !decide (z ∈ press g.1.2 g.2 nm)
        let HD : Hp := upd (upd H4 t (.tup [.ref o, .ref va])) D (.lst (GL.map V.str))
        have fD : Fr T [] (upd H4 t (.tup [.ref o, .ref va])) HD := Fr.refl.nw hD
        have hDD : HD D = some (.lst (GL.map V.str)) := upd_same
        have G := (((f2.trans f3).trans f4).trans f5).trans fD
        have bD := b1.fr G
        have FD := F5.trans fD
        obtain ⟨⟨dxo, vso, wso, io, plh, _, wlh, _⟩, _⟩ := id (b1.fr (((f2.trans f3).trans f4).trans f5))
        have okGL : ∀ s ∈ GL, okS s := fun s hs => og.st s (List.mem_filter.mp hs).1
        have Dpl : D ∉ [plo, wlo] := by
          intro z
          rcases List.mem_cons.mp z with e | e
          · rw [e, plh] at hD; cases hD
          · rw [List.mem_singleton.mp e, wlh] at hD; cases hD
        refine ⟨.ref o, rfl, o, dxo, _, rfl, fD.ins io, rfl, .str nm, rfl, o, plo, wlo, ms, g, 0, nm, rfl, FD.tabs hTb, bD, og, ⟨by omega, by omega, by omega⟩, by omega, by decide, fun hx b' H6 f6 b6 hb' nb' => ?_, fun hx => absurd hnm hx⟩
        have D6 := f6.lst hDD Dpl
        refine ⟨.ref D, rfl, .list (GL.map PyData.str), .list (GL.map PyData.str), .lst (sqL hb') (dpAll_strs _), .lst (sqL D6) (dpAll_strs _), (lay_list okGL).shaped (by decide), (lay_list okGL).shaped (by decide), _, rfl, ?_⟩
        rw [eqv_strs, decide_eq_true rfl]
        have F6 : Fr T [] H H6 := FD.call f6 fun z hz => .inr (by
          rcases List.mem_cons.mp hz with e | e
          · rw [e]; exact F.free npl
          · rw [List.mem_singleton.mp e]; exact F.free nwl)
        have okp : ∀ s ∈ press g.1.2 g.2 nm, okS s := fun s hs => by
          have h := sortS_mem.mp hs
          rcases List.mem_append.mp h with h | h
          · exact og.st s (List.mem_filter.mp h).1
          · rw [List.mem_singleton.mp h]; exact og.sw nm hnm
        refine iteF ⟨.ref o, rfl, o, dxo, _, rfl, f6.ins (fD.ins io), rfl, o, plo, wlo, ms ++ [g], (g.1, press g.1.2 g.2 nm), _, rfl, b6, fun sv' hsv' => ⟨.ref va, rfl, stD (press g.1.2 g.2 nm), stD (press g.1.2 g.2 nm), hsv', dp_st_of (f6.sqT (fD.sqT hva)), ?_, ?_, _, rfl, ?_⟩⟩
        · exact (lay_st okp).shaped (by decide)
        · exact (lay_st okp).shaped (by decide)
        · rw [eqv_st, decide_eq_true rfl]
          exact iteF ⟨F6, _, _, _, _, rfl⟩
    · obtain ⟨F, z2, z3, z4, z5, rfl⟩ := h
      exact q _ F
end
end Ob

/-! LJ: done_right -/
namespace Ob
open PySem PySem.Spec PyProof.Rows L2 LamX
theorem press_ok {ps : List Pr} {S : List Str} {x : Str} (h : ∀ s ∈ S, okS s) (hx : okS x) : ∀ s ∈ press ps S x, okS s := fun s hs => by
  rcases List.mem_append.mp (sortS_mem.mp hs) with h1 | h1
  · exact h s (List.mem_filter.mp h1).1
  · rw [List.mem_singleton.mp h1]; exact hx
theorem fold_ok {ps : List Pr} : ∀ {xs : List Str} {S : List Str}, (∀ s ∈ S, okS s) → (∀ x ∈ xs, okS x) → ∀ s ∈ xs.foldl (press ps) S, okS s
  | [], S, h, _ => h
  | x :: xs, S, h, hx => fold_ok (xs := xs) (press_ok h (hx x (List.mem_cons_self ..))) fun y hy => hx y (List.mem_cons_of_mem _ hy)
theorem of_if {α : Type} {c : Prop} [Decidable c] {a b : α} (h : (if c then some a else none) = some b) : c ∧ a = b := by
  by_cases hc : c
  · rw [if_pos hc] at h; exact ⟨hc, Option.some.inj h⟩
  · rw [if_neg hc] at h; cases h
theorem nd_filter {l : List Str} {p : Str → Bool} (h : l.Nodup) : (l.filter p).Nodup := List.Nodup.sublist List.filter_sublist h
theorem one_left {l : List Str} {x : Str} (hx : x ∈ l) (nd : l.Nodup) (hl : l.length ≠ 1) : (l.filter fun z => !decide (z = x)) ≠ [] := fun e => by
  have h : ∀ z ∈ l, z = x := fun z hz => by
    have := List.filter_eq_nil_iff.mp e z hz
    by_cases c : z = x
    · exact c
    · rw [decide_eq_false c] at this
      exact absurd rfl this
  cases l with
  | nil => cases hx
  | cons a r =>
    cases r with
    | nil => exact hl rfl
    | cons b r =>
      have e1 := h a (by simp)
      have e2 := h b (by simp)
      have := (List.nodup_cons.mp nd).1
      exact this (by rw [e1, e2]; simp)
theorem dstep_ok {g g' : Pg} {d : Deed} (og : Ok g) (dok : DOk d) (h : dstep g d = some g') : Ok g' := by
  cases d with
  | press x =>
    obtain ⟨c, rfl⟩ := of_if h
    exact ⟨og.sw, og.mem, press_ok og.st (og.sw x c), og.ne, og.nd⟩
  | run xs =>
    obtain ⟨c, rfl⟩ := of_if h
    exact ⟨og.sw, og.mem, fold_ok og.st fun x hx => og.sw x (c x hx), og.ne, og.nd⟩
  | exclude x y =>
    obtain ⟨⟨c1, c2, _⟩, rfl⟩ := of_if h
    refine ⟨og.sw, fun p hp => ?_, og.st, og.ne, og.nd⟩
    rcases List.mem_append.mp (sortP_mem.mp hp) with h1 | h1
    · exact og.mem p h1
    · rw [List.mem_singleton.mp h1]
      show (ordB x y).1 ∈ _ ∧ (ordB x y).2 ∈ _
      unfold ordB
      split
      · exact ⟨c1, c2⟩
      · exact ⟨c2, c1⟩
  | allow x y =>
    obtain ⟨_, rfl⟩ := of_if h
    exact ⟨og.sw, fun p hp => og.mem p (List.mem_filter.mp hp).1, og.st, og.ne, og.nd⟩
  | add x =>
    obtain ⟨⟨c1, c2⟩, rfl⟩ := of_if h
    have sub : ∀ s ∈ g.1.1, s ∈ sortS (g.1.1 ++ [x]) := fun s hs => sortS_mem.mpr (List.mem_append.mpr (.inl hs))
    refine ⟨fun s hs => ?_, fun p hp => ⟨sub _ (og.mem p hp).1, sub _ (og.mem p hp).2⟩, og.st, fun e => ?_, ?_⟩
    · rcases List.mem_append.mp (sortS_mem.mp hs) with h1 | h1
      · exact og.sw s h1
      · rw [List.mem_singleton.mp h1]; exact dok
    · have := congrArg List.length e
      rw [sortS_len, List.length_append] at this
      simp at this
    · refine (List.Perm.nodup_iff (sortS_perm _)).mpr (List.nodup_append.mpr ⟨og.nd, by simp, fun a ha b hb e => ?_⟩)
      rw [List.mem_singleton.mp hb] at e
      exact c2 (e ▸ ha)
  | remove x =>
    obtain ⟨⟨c1, c2⟩, rfl⟩ := of_if h
    refine ⟨fun s hs => og.sw s (List.mem_filter.mp hs).1, fun p hp => ?_, fun s hs => og.st s (List.mem_filter.mp hs).1, one_left c1 og.nd c2, nd_filter og.nd⟩
    have h1 := List.mem_filter.mp hp
    have h2 := og.mem p h1.1
    have h3 : ¬ x ∈ [p.1, p.2] := by
      intro z
      rw [decide_eq_true z] at h1
      exact absurd h1.2 (by simp)
    have n1 : ¬ p.1 = x := fun z => h3 (by rw [← z]; simp)
    have n2 : ¬ p.2 = x := fun z => h3 (by rw [← z]; simp)
    exact ⟨List.mem_filter.mpr ⟨h2.1, by simp [n1]⟩, List.mem_filter.mpr ⟨h2.2, by simp [n2]⟩⟩
theorem dstep_sz {g g' : Pg} {d : Deed} {n : Nat} (sz : Sz g n) (dok : DOk d) (h : dstep g d = some g') : Sz g' (n + 5) := by
  obtain ⟨z1, z2, z3⟩ := sz
  cases d with
  | press x =>
    obtain ⟨c, rfl⟩ := of_if h
    have := press_len g.1.2 g.2 x
    exact ⟨by show g.1.1.length ≤ _; omega, by show g.1.2.length ≤ _; omega, by show (press g.1.2 g.2 x).length ≤ _; omega⟩
  | run xs =>
    obtain ⟨c, rfl⟩ := of_if h
    have := fold_len g.1.2 xs g.2
    have := dok.2
    exact ⟨by show g.1.1.length ≤ _; omega, by show g.1.2.length ≤ _; omega, by show (xs.foldl (press g.1.2) g.2).length ≤ _; omega⟩
  | exclude x y =>
    obtain ⟨_, rfl⟩ := of_if h
    refine ⟨by show g.1.1.length ≤ _; omega, ?_, by show g.2.length ≤ _; omega⟩
    show (sortP _).length ≤ _
    rw [sortP_len, List.length_append]
    simp
    omega
  | allow x y =>
    obtain ⟨_, rfl⟩ := of_if h
    exact ⟨by show g.1.1.length ≤ _; omega, Nat.le_trans (List.length_filter_le ..) (by omega), by show g.2.length ≤ _; omega⟩
  | add x =>
    obtain ⟨_, rfl⟩ := of_if h
    refine ⟨?_, by show g.1.2.length ≤ _; omega, by show g.2.length ≤ _; omega⟩
    show (sortS _).length ≤ _
    rw [sortS_len, List.length_append]
    simp
    omega
  | remove x =>
    obtain ⟨_, rfl⟩ := of_if h
    exact ⟨Nat.le_trans (List.length_filter_le ..) (by omega), Nat.le_trans (List.length_filter_le ..) (by omega), Nat.le_trans (List.length_filter_le ..) (by omega)⟩
/-- what comes back, as data -/
def dres (g : Pg) : Deed → PyData
  | .press x => .list ((g.2.filter fun z => !decide (z ∈ press g.1.2 g.2 x)).map PyData.str)
  | .run xs => .list ((losts g.1.2 g.2 xs).map fun A => .list (A.map PyData.str))
  | _ => .none
theorem lls_dp {K : PySem.W.Frag} {H0 H : Hp} {l : Addr} {As : List (List Str)} (h : LLs H0 H l As) : Dp K H (.ref l) (.list (As.map fun A => .list (A.map PyData.str))) := by
  obtain ⟨vs, h1, _, h3⟩ := h
  refine .lst (sqL h1) ?_
  clear h1
  induction h3 with
  | nil => exact .nil
  | cons a _ ih =>
    obtain ⟨b, rfl, e, _⟩ := a
    exact .cons (.lst (sqL e) (dpAll_strs _)) ih
theorem res_dp {K : PySem.W.Frag} {H0 H : Hp} {r : V} {g : Pg} {d : Deed} (h : ResAt H0 H r g d) : Dp K H r (dres g d) := by
  cases d with
  | press x =>
    obtain ⟨b, rfl, e, _⟩ := h
    exact .lst (sqL e) (dpAll_strs _)
  | run xs =>
    obtain ⟨l, rfl, e⟩ := h
    exact lls_dp e
  | exclude x y => cases h; exact .non
  | allow x y => cases h; exact .non
  | add x => cases h; exact .non
  | remove x => cases h; exact .non
theorem sd_strs {n : Nat} {A : List Str} (h : ∀ s ∈ A, okS s) (hl : A.length ≤ 100000) : SD (n + 2) (.list (A.map PyData.str)) := by
  refine .inr (.inr (.inr ⟨_, .inl rfl, by rw [List.length_map]; exact hl, fun e he => ?_⟩))
  obtain ⟨s, hs, rfl⟩ := List.mem_map.mp he
  exact .inr (.inl ⟨s, rfl, (h s hs).1⟩)
theorem losts_ok {ps : List Pr} : ∀ {xs : List Str} {S : List Str}, (∀ s ∈ S, okS s) → (∀ x ∈ xs, okS x) → ∀ A ∈ losts ps S xs, (∀ s ∈ A, okS s) ∧ A.length ≤ S.length + xs.length
  | [], S, _, _, A, hA => absurd hA (by simp [losts])
  | x :: xs, S, h, hx, A, hA => by
    rcases List.mem_cons.mp hA with e | hA
    · rw [e]
      refine ⟨fun s hs => h s (List.mem_filter.mp hs).1, ?_⟩
      have := List.length_filter_le (fun z => !decide (z ∈ press ps S x)) S
      omega
    · have := losts_ok (xs := xs) (press_ok (ps := ps) h (hx x (List.mem_cons_self ..))) (fun y hy => hx y (List.mem_cons_of_mem _ hy)) A hA
      refine ⟨this.1, ?_⟩
      have h2 := press_len ps S x
      have h3 := this.2
      rw [List.length_cons]
      omega
theorem res_sd {g : Pg} {d : Deed} (og : Ok g) (sz : Sz g 40000) (dok : DOk d) : SD 3 (dres g d) := by
  have z := sz.st
  cases d with
  | press x => exact sd_strs (fun s hs => og.st s (List.mem_filter.mp hs).1) (Nat.le_trans (List.length_filter_le ..) (by omega))
  | run xs =>
    have hl := dok.2
    refine .inr (.inr (.inr ⟨_, .inl rfl, by rw [List.length_map, losts_len]; omega, fun e he => ?_⟩))
    obtain ⟨A, hA, rfl⟩ := List.mem_map.mp he
    have := losts_ok og.st dok.1 A hA
    exact sd_strs this.1 (by omega)
  | exclude x y => exact .inl rfl
  | allow x y => exact .inl rfl
  | add x => exact .inl rfl
  | remove x => exact .inl rfl
end Ob

/-! LK: done_right -/
namespace Ob
open PySem PySem.Spec PyProof.Rows L2 LamX
section
variable {P : Program} {w : World} {K : PySem.W.Frag} {mg : Str → Option Value} {base : Heap} {BC PC : Addr} {T : List (Addr × Str)} {XL : Addr → Prop}
abbrev s_law_done_right : Stmt := top 51
theorem S_law_done_right : FnScope ["_law_board", "_law_pages", "_law_deed_here", "_law_due_here", "_law_told_here"] ["_law_board", "_law_pages", "_law_deed_here"] (defScope s_law_done_right) := ⟨rfl, rfl, rfl, by decide +kernel, rfl, by decide +kernel, by decide +kernel⟩
theorem imm_pgs (l : List Pg) : ∀ d ∈ l.map pgD, Imm d := fun d h => by
  obtain ⟨x, _, e⟩ := List.mem_map.mp h
  rw [← e]; exact imm_pg x
def sp_doneRight (K : PySem.W.Frag) (T : List (Addr × Str)) (BC PC : Addr) : Sp := fun vs H Q _ => ∃ (a pl wl pgl t h : Addr) (xs : List V) (ms : List Pg) (g : Pg) (n k : Nat) (d : Deed), vs = [.ref a, .ref pgl, .ref t] ∧ DonePre K T BC PC H a pl wl t h ms g n d ∧ Sz g k ∧ H pgl = some (.lst xs) ∧ DpAll K H xs ((ms ++ [g]).map pgD) ∧ pgl ≠ pl ∧ pgl ≠ wl ∧ h ≠ pgl ∧ h ≠ pl ∧ h ≠ wl ∧
  ∀ l ms' g' xs' H', Fr T [pl, wl, h] H H' → BoardAt K BC PC H' a pl wl (ms' ++ [g']) (n + 2) → H' l = some (.lst xs') → DpAll K H' xs' ((ms' ++ [g']).map pgD) → (∀ p ∈ ms', p ∈ ms ++ [g]) → Ok g' → Sz g' (k + 5) → ms'.length ≤ ms.length + 1 → (l = pgl ∨ H l = none) → Q (.ref l) H'
theorem ok_doneRight (TX : Txt mg) (D : Df K mg "_law_done_right" "_law_done_right" s_law_done_right ["_law_board", "_law_pages", "_law_deed_here"]) (G_law_due : Gd P w K mg base CX0 3 "_law_due" ["_law_page", "_law_deed_here"] (sp_due K T)) (G_law_told : Gd P w K mg base CX0 10 "_law_told" ["_law_board", "_law_deed_here"] (sp_told K T BC PC))
    (G_law_same : Gd P w K mg base CX0 6 "_law_same" ["_law_told_here", "_law_due_here"] (sp_same K T 3)) :
    Gd P w K mg base CX0 11 "_law_done_right" ["_law_board", "_law_pages", "_law_deed_here"] (sp_doneRight K T BC PC) := by
  refine D.ok (k := 10) S_law_done_right (fun vs H Q E h => ?_) (fun f cdv A outer s H vs Q E hr h => ?_)
  · obtain ⟨a, pl, wl, pgl, t, h, xs, ms, g, n, k, d, rfl, _⟩ := h
    rfl
  · obtain ⟨a, pl, wl, pgl, t, h, xs, ms, g, n, k, d, rfl, ⟨hTb, hB, og, sz, hms, hn, hD, dok, hw⟩, szk, hpg, hxs, n1, n2, n3, n4, n5, q⟩ := h
    obtain ⟨⟨dx, vs, ws, h1, h2, h3, h4, h5⟩, ne⟩ := id hB
    have hxs' := hxs
    rw [List.map_append] at hxs'
    obtain ⟨ys, v, rfl, d4, d5⟩ := dpAll_snoc hxs'
    have hS : ∀ b ∈ [pl, wl], H b ≠ none := fun b hb => by
      rcases List.mem_cons.mp hb with e | e
      · rw [e, h2]; intro z; cases z
      · rw [List.mem_singleton.mp e, h4]; intro z; cases z
    have pn : pgl ∉ [pl, wl] := by simp [n1, n2]
    -- slots: 0:_law_board 1:_law_pages 2:_law_deed_here 3:_law_due_here 4:_law_told_here
    refine ⟨_, (pss_cons (ps_par (i := 3) (j := 4) rfl S_law_done_right.nd rfl rfl (by decide) rfl rfl (pa_cons (pcl G_law_due rfl (hr.mono (by decide)) p0 (pa_cons (pe_ix (ix_listK K) (pv 1) (pe_un un_neg pe_int) (fun _ _ => rfl)) (pa_cons (pv 2) pa_nil))) (pa_cons (pcl G_law_told rfl (hr.mono (by decide)) p0 (pa_cons (pv 0) (pa_cons (pv 2) pa_nil))) pa_nil)) rfl)
    (pss_cons (ps_if (pt_cmpR op_ne (pe_cmpR op_isN (pv 4) pe_non (nomark _)) (pe_callB call_isi rfl TX.n_isinstance (by decide +kernel) (pa_cons (pe_ix (ix_tupK K) (pv 3) pe_int (fun _ _ => rfl)) (pa_cons (pe_bltn (v := .ty "str") (u := .type "str") rfl TX.n_str (by decide +kernel) rfl) pa_nil))) (nomark _)) (pss_one (ps_ret pe_non)) pss_nil)
    (pss_cons (ps_if (pt_cmpR op_isN (pv 4) pe_non (nomark _)) (pss_one (ps_ret (pv 1))) pss_nil)
    (pss_cons (ps_if (pt_not (pt_val (pcl G_law_same rfl (hr.mono (by decide)) p0 (pa_cons (pe_ix (ix_tupK K) (pv 4) pe_int (fun _ _ => rfl)) (pa_cons (pe_ix (ix_tupK K) (pv 3) pe_int (fun _ _ => rfl)) pa_nil))))) (pss_one (ps_ret pe_non)) pss_nil)
    (pss_cons (ps_if (pt_cmpR op_eq (pe_ix (ix_tupK K) (pv 2) pe_int (fun _ _ => rfl)) pe_str (nomark _)) (pss_one (ps_expr (pe_bm PySem.F.plainAttrs_list PySem.F.slot_list_append PySem.F.type_list_append mt_append (pe_ix (ix_tupK K) (pv 2) pe_int (fun _ _ => rfl)) (pa_cons pe_str pa_nil)))) pss_nil)
    (pss_one (ps_ret (pe_op op_cat (pv 1) (pe_lst (pa_cons (pe_ix (ix_tupK K) (pv 3) pe_int (fun _ _ => rfl)) pa_nil)))))))))), ?_⟩
    refine ⟨.ref pgl, rfl, 1, rfl, pgl, _, -1, v, rfl, rfl, sqL hpg, atI_last ys v, .ref t, rfl, v, g, t, h, d, rfl, d5, og, sz, hD, dok, fun dv H1 f1 hdue => ?_⟩
    refine ⟨.ref a, rfl, .ref t, rfl, a, pl, wl, t, h, ms, g, n, d, rfl, ⟨f1.tabs hTb, hB.fr f1, og, sz, hms, hn, ⟨f1.tup hD.1, fun xs e => f1.lst (hD.2 xs e)⟩, dok, hw⟩, fun g' hg u r H2 f2 b2 hu hr2 => ⟨_, _, rfl, ?_⟩, fun hno H2 f2 b2 => ⟨_, _, rfl, ?_⟩⟩
    · rcases hdue with ⟨g'', e, t1, r1, pg, rfl, ht1, hr1, hpg1⟩ | ⟨e, _⟩
      rotate_left
      · rw [hg] at e; cases e
      rw [hg] at e
      cases e
      have F2 : Fr T [pl, wl] H H2 := f1.zero.trans f2
      have ht2 := f2.tup ht1
      have hr1' := hr1.fr f2 hS
      have hpg2 := f2.dpg hpg1
      have hrB : ResAt H H2 r g d := by
        cases d with
        | press x =>
          obtain ⟨b, e1, e2, e3⟩ := hr2
          exact ⟨b, e1, e2, f1.free e3⟩
        | run xs =>
          obtain ⟨l, e1, us, e2, e3, e4⟩ := hr2
          exact ⟨l, e1, us, e2, f1.free e3, L2.Paired.mapP e4 fun v A ⟨b, z1, z2, z3⟩ => ⟨b, z1, z2, f1.free z3⟩⟩
        | _ => exact hr2
      obtain ⟨tt, hty, hkit⟩ : ∃ tt : String, TyX K H2 r1 (.type tt) ∧ kitB tt "str" = some false := by
        cases d with
        | press x =>
          obtain ⟨b, rfl, e2, e3⟩ := hr1'
          exact ⟨"list", .base (.lst e2), by decide +kernel⟩
        | run xs =>
          obtain ⟨l, rfl, us, e2, _⟩ := hr1'
          exact ⟨"list", .base (.lst e2), by decide +kernel⟩
        | exclude x y => cases hr1'; exact ⟨"NoneType", .base .non, by decide +kernel⟩
        | allow x y => cases hr1'; exact ⟨"NoneType", .base .non, by decide +kernel⟩
        | add x => cases hr1'; exact ⟨"NoneType", .base .non, by decide +kernel⟩
        | remove x => cases hr1'; exact ⟨"NoneType", .base .non, by decide +kernel⟩
      refine ⟨.ref u, rfl, rfl, .ref t1, rfl, t1, _, 0, r1, rfl, rfl, sqT ht2, rfl, r1, .ty "str", .type tt, .type "str", false, rfl, .ty _, hty, kit_ty hkit, rfl, false, rfl, iteF ?_⟩
      refine ⟨.ref u, rfl, rfl, false, rfl, iteF ?_⟩
      refine ⟨.ref u, rfl, u, _, 1, r, rfl, rfl, sqT hu, rfl, .ref t1, rfl, t1, _, 0, r1, rfl, rfl, sqT ht2, rfl, r, r1, dres g d, rfl, res_dp hrB, res_dp hr1', res_sd og sz dok, fun H3 f3 => ⟨true, rfl, iteF ?_⟩⟩
      refine tNextI ?_
      dsimp only
      have F3 := F2.trans f3.zero
      have b3 := b2.fr f3
      have tD := F3.tup hD.1
      have pg3 := F3.lst hpg pn
      refine tSeqI (ifD (V.str (dword d) = V.str "run") (fun H4 => H4 = H3) (fun H4 => Fr T [h] H3 H4) (fun R hR => ⟨.ref t, rfl, t, _, 0, .str (dword d), rfl, rfl, sqT tD, atI_nat (j := 0) rfl, rfl, _, rfl, hR _ rfl⟩) (fun hb H4 e4 hn2 => ?_) (fun _ H4 e4 => e4 ▸ Fr.refl) fun H4 f4 => ?_)
      · subst e4
        cases d with
        | run xs =>
          have hh := F3.lst (hD.2 xs rfl) (by simp [n4, n5])
          have lx := dok.2
          refine ⟨.ref t, rfl, t, _, 1, .ref h, rfl, rfl, sqT tD, rfl, .inl ⟨rfl, _, sqL hh⟩, h, _, _, rfl, rfl, hh, small _ (by rw [List.length_map]; omega), hn2 _ ?_⟩
          exact Fr.refl.put (by rw [hh]; exact True.intro) (.inr ⟨by simp, _, hh⟩)
        | press x => exact absurd (show ("press" : Str) = "run" from V.str.inj hb) (by decide +kernel)
        | exclude x y => exact absurd (show ("exclude" : Str) = "run" from V.str.inj hb) (by decide +kernel)
        | allow x y => exact absurd (show ("allow" : Str) = "run" from V.str.inj hb) (by decide +kernel)
        | add x => exact absurd (show ("add" : Str) = "run" from V.str.inj hb) (by decide +kernel)
        | remove x => exact absurd (show ("remove" : Str) = "run" from V.str.inj hb) (by decide +kernel)
      · have pg4 := f4.lst pg3 (by simpa using n3.symm)
        have t14 := f4.tup (f3.tup ht2)
        dsimp only
        refine tRetI ?_
        refine ⟨.ref pgl, rfl, .ref t1, rfl, t1, _, 1, pg, rfl, rfl, sqT t14, rfl, small' 1 (by decide), fun l1 hl1 => ?_⟩
        have f5 : Fr T [] H4 (upd H4 l1 (.lst [pg])) := Fr.refl.nw hl1
        have lys := dpAll_len hxs
        rw [List.length_map, List.length_append, List.length_append] at lys
        refine ⟨pgl, l1, _, _, rfl, rfl, f5.lst pg4, upd_same, small' _ (by rw [List.length_append]; simp at lys ⊢; omega), fun l2 hl2 => ?_⟩
        have f6 : Fr T [] (upd H4 l1 (.lst [pg])) (upd (upd H4 l1 (.lst [pg])) l2 (.lst (ys ++ [v] ++ [pg]))) := Fr.refl.nw hl2
        have F4 : Fr T [pl, wl, h] H H4 := (F3.more (by simp)).trans (f4.more (by simp))
        have F6 := (F4.trans f5.zero).trans f6.zero
        have b6 := ((b3.fr f4 (by simpa using n4.symm) (by simpa using n5.symm)).fr f5).fr f6
        refine q l2 (ms ++ [g]) g' _ _ F6 b6 upd_same ?_ (fun p hp => hp) (dstep_ok og dok hg) (dstep_sz szk dok hg) (by rw [List.length_append]; exact Nat.le_refl _) (.inr ((F4.trans f5.zero).free hl2))
        · rw [List.map_append]
          exact dpAll_app (dpAll_fr (imm_pgs _) F6 hxs) (.cons (f6.dpg (f5.dpg (f4.dpg (f3.dpg hpg2)))) .nil)
    · rcases hdue with ⟨g'', e, _⟩ | ⟨_, t1, s1, r1, rfl, ht1⟩
      · rw [hno] at e; cases e
      have F2 : Fr T [pl, wl] H H2 := f1.zero.trans f2
      have ht2 := f2.tup ht1
      refine ⟨.non, rfl, rfl, .ref t1, rfl, t1, _, 0, .str s1, rfl, rfl, sqT ht2, rfl, .str s1, .ty "str", .type "str", .type "str", true, rfl, .ty _, .base (.str _), kit_ty (by decide +kernel), rfl, false, rfl, iteF ?_⟩
      refine ⟨.non, rfl, rfl, true, rfl, iteT ⟨.ref pgl, rfl, ?_⟩⟩
      exact q pgl ms g _ H2 (F2.more (by simp)) b2 (F2.lst hpg pn) (dpAll_fr (imm_pgs _) F2 hxs) (fun p hp => List.mem_append.mpr (.inl hp)) og ⟨Nat.le_trans szk.sw (by omega), Nat.le_trans szk.ps (by omega), Nat.le_trans szk.st (by omega)⟩ (by omega) (.inl rfl)
end
end Ob

/-! LL: right -/
namespace Ob
open PySem PySem.Spec PyProof.Rows L2 LamX
section
variable {X : Cx} {k : Nat} {C : Addr} {m kw : Str} {ps : List Str} {sp : Sp} {o e : Expr} {ta te : TE} {kpos pos apos : Pos}
/-- o.m(k = e), a def that might raise, but does not -/
theorem pmtKX {pl : Sem Bool} (G : GmK X.prog X.w X.K X.mg X.base (L2.CX X.prog X.w) k C m kw ps sp) (hr : Room k X.A) (he : PE X o ta) (hv : PE X e te)
    (hall : (backToKw pos (keywordEach [⟨some kw, e, kpos⟩] X.env)).all (·.1.isSome) = true := by rfl) (hks : (backToKw pos (keywordEach [⟨some kw, e, kpos⟩] X.env)).filterMap (·.1) = [kw] := by rfl)
    (hpl : ((backTo pos (starEach [] X.env)).any (·.1) || (backToKw pos (keywordEach [⟨some kw, e, kpos⟩] X.env)).any (·.1.isNone)) = false := by rfl)
    (ht : eval (.Call (.Attribute o m apos) [] [⟨some kw, e, kpos⟩] pos) X.env = (do
      let ov ← eval o X.env
      standAt apos.atName
      let (f, first) ← holding [ov] (getMethod ov m pl)
      callWith pos f first (backTo pos (starEach [] X.env)) (backToKw pos (keywordEach [⟨some kw, e, kpos⟩] X.env))) := by rfl) :
    PE X (.Call (.Attribute o m apos) [] [⟨some kw, e, kpos⟩] pos) (tMtK C m sp ta te) := by
  obtain ⟨f, fd, hm, hb, F⟩ := G.ex
  refine ⟨fun pins s σ H Q I h => PySem.W.methodCall_KW (pl := pl) (thn (he.run pins s σ H _ I h) fun u s1 ⟨x, H1, I1, rx, a, dx, fs, ex, ea, l, q⟩ => ?_) ht⟩
  subst ex
  obtain rfl : u = Value.ref a := rx
  refine getmeth_ok I1 ea G.cl hm l (PySem.W.callWith_KW0 (first := [.ref a]) (h₀ := X.base) I.ok.mod.kin hm.kp hall (thn ((pk_cons hv pk_nil).run pos pins s1 σ H1 _ I1 q) fun ws s2 ⟨zs, H2, I2, rz, q2⟩ => ⟨I2.kIn, ?_⟩) hpl)
  obtain ⟨z, ez, q2⟩ := q2
  subst ez
  obtain ⟨u1, ew, r1⟩ := rz.one
  subst ew
  rw [hks]
  have r2 : Vals [V.ref a, z] [Value.ref a, u1] := .cons rfl (.cons r1 .nil)
  refine wpAny_call (codeAny_mono (F.run X.A X.stack s2 H2 ⟨[.ref a], [(kw, u1)]⟩ [.ref a, u1] [V.ref a, z] Q E0 hr I2.env0 (hb s2 (.ref a) u1 I2.kIn) r2 q2) fun r s' hq => ?_)
  cases r with
  | error e => exact pF σ pins H2 s2 e s' I2 hq
  | ok fl =>
    cases fl with
    | ret u => exact I2.after hq
    | next => exact False.elim hq
    | brk => exact False.elim hq
    | cont => exact False.elim hq
end
/-- some list there -/
def Lb (H : Hp) (l : Addr) (n : Nat) : Prop := ∃ ys : List V, H l = some (.lst ys) ∧ ys.length ≤ n
theorem Lb.fr {T : List (Addr × Str)} {H H' : Hp} {l : Addr} {n : Nat} (h : Lb H l n) (f : Fr T [] H H') : Lb H' l n := let ⟨ys, a, b⟩ := h; ⟨ys, f.lst a, b⟩
theorem Lb.app {H : Hp} {l k : Addr} {n : Nat} {zs : List V} {v : V} (h : Lb H l n) (hz : zs.length ≤ n) : Lb (upd H k (.lst (zs ++ [v]))) l (n + 1) := by
  obtain ⟨ys, a, b⟩ := h
  by_cases c : l = k
  · subst c
    exact ⟨_, upd_same, by rw [List.length_append]; simp; omega⟩
  · exact ⟨ys, by rw [upd_ne c]; exact a, by omega⟩
theorem seq_join {t u : TS} {D : Ends} {σ : L2.St} {H : Hp} (J : L2.St → Hp → Prop) (ht : ∀ N : L2.St → Hp → Prop, (∀ σ' H', J σ' H' → N σ' H') → t { D with nx := N } σ H) (hu : ∀ σ' H', J σ' H' → u D σ' H') : tSeq t u D σ H := ht _ hu
/-- between the turns -/
structure Core (K : PySem.W.Frag) (T : List (Addr × Str)) (BC PC : Addr) (H : Hp) (b : Addr) (i m : Nat) (a pl wl pgl : Addr) (xs : List V) (ms : List Pg) (g : Pg) (n : Nat) (H' : Hp) : Prop where
  fr : Fr T [b] H H'
  tb : Tabs T H'
  bx : BoxAt H' b m
  bo : BoardAt K BC PC H' a pl wl (ms ++ [g]) n
  hn : n ≤ 2 * i
  pg : H' pgl = some (.lst xs)
  dp : DpAll K H' xs ((ms ++ [g]).map pgD)
  ok : ∀ p ∈ ms ++ [g], Ok p ∧ Sz p (400 + 5 * i)
  ml : ms.length ≤ i
  n1 : pgl ≠ pl
  n2 : pgl ≠ wl
  e1 : H pgl = none
  e2 : H pl = none
  e3 : H wl = none
theorem sd_find {g : Pg} (o : Ok g) (z : Sz g 100000) (i : Int) : SD 6 (.list [panD g.1, stD g.2, .int i]) := by
  have st : ∀ (n : Nat) (A : List Str), (∀ s ∈ A, okS s) → A.length ≤ 100000 → SD (n + 2) (stD A) := fun n A h hl => by
    refine .inr (.inr (.inr ⟨_, .inr rfl, by rw [List.length_map]; exact hl, fun e he => ?_⟩))
    obtain ⟨s, hs, rfl⟩ := List.mem_map.mp he
    exact .inr (.inl ⟨s, rfl, (h s hs).1⟩)
  refine .inr (.inr (.inr ⟨_, .inl rfl, by show 3 ≤ 100000; decide, fun e he => ?_⟩))
  rcases List.mem_cons.mp he with e1 | he
  · subst e1
    refine .inr (.inr (.inr ⟨_, .inr rfl, by show 2 ≤ 100000; decide, fun e he => ?_⟩))
    rcases List.mem_cons.mp he with e1 | he
    · subst e1
      exact st 2 _ o.sw z.sw
    · rw [List.mem_singleton.mp he]
      refine .inr (.inr (.inr ⟨_, .inr rfl, by rw [List.length_map]; exact z.ps, fun e he => ?_⟩))
      obtain ⟨p, hp, rfl⟩ := List.mem_map.mp he
      refine .inr (.inr (.inr ⟨_, .inr rfl, by show 2 ≤ 100000; decide, fun e he => ?_⟩))
      rcases List.mem_cons.mp he with e1 | he
      · subst e1; exact .inr (.inl ⟨_, rfl, (o.ps p hp).1.1⟩)
      · rw [List.mem_singleton.mp he]; exact .inr (.inl ⟨_, rfl, (o.ps p hp).2.1⟩)
  · rcases List.mem_cons.mp he with e1 | he
    · subst e1
      exact st 3 _ o.st z.st
    · rw [List.mem_singleton.mp he]
      exact .inr (.inr (.inl ⟨_, rfl⟩))
def RI (K : PySem.W.Frag) (T : List (Addr × Str)) (BC PC : Addr) (H : Hp) (b : Addr) (i : Nat) (m : Nat) (z6 : Option V) (σ : L2.St) (H' : Hp) : Prop :=
  ∃ (a pl wl pgl : Addr) (xs : List V) (ms : List Pg) (g : Pg) (n : Nat) (z1 z3 z4 z7 z8 z9 z10 z11 : Option V), σ = [some (.ref b), z1, some (.ref pgl), z3, z4, some (.ref a), z6, z7, z8, z9, z10, z11] ∧ Core K T BC PC H b i m a pl wl pgl xs ms g n H'
section
variable {K : PySem.W.Frag} {T : List (Addr × Str)} {BC PC : Addr} {H : Hp} {b : Addr} {i m : Nat} {a pl wl pgl : Addr} {xs : List V} {ms : List Pg} {g : Pg} {n : Nat} {H' H2 : Hp}
theorem Core.fr0 (c : Core K T BC PC H b i m a pl wl pgl xs ms g n H') (f : Fr T [] H' H2) : Core K T BC PC H b i m a pl wl pgl xs ms g n H2 :=
  ⟨c.fr.trans f.zero, f.tabs c.tb, c.bx.fr f, c.bo.fr f, c.hn, f.lst c.pg, dpAll_fr (imm_pgs _) f c.dp, c.ok, c.ml, c.n1, c.n2, c.e1, c.e2, c.e3⟩
theorem Core.frb {m2 : Nat} (c : Core K T BC PC H b i m a pl wl pgl xs ms g n H') (hb : H b ≠ none) (f : Fr T [b] H' H2) (bx : BoxAt H2 b m2) : Core K T BC PC H b i m2 a pl wl pgl xs ms g n H2 :=
  ⟨c.fr.trans f, f.tabs c.tb, bx, c.bo.fr f (fun z => hb (List.mem_singleton.mp z ▸ c.e2)) (fun z => hb (List.mem_singleton.mp z ▸ c.e3)), c.hn, f.lst c.pg (fun z => hb (List.mem_singleton.mp z ▸ c.e1)), dpAll_fr (imm_pgs _) f c.dp, c.ok, c.ml, c.n1, c.n2, c.e1, c.e2, c.e3⟩
theorem Core.more {m2 : Nat} (c : Core K T BC PC H b i m a pl wl pgl xs ms g n H') (h : m ≤ m2) : Core K T BC PC H b (i + 1) m2 a pl wl pgl xs ms g n H' :=
  ⟨c.fr, c.tb, c.bx.more h, c.bo, by have := c.hn; omega, c.pg, c.dp, fun p hp => ⟨(c.ok p hp).1, Nat.le_trans (c.ok p hp).2.sw (by omega), Nat.le_trans (c.ok p hp).2.ps (by omega), Nat.le_trans (c.ok p hp).2.st (by omega)⟩, by have := c.ml; omega, c.n1, c.n2, c.e1, c.e2, c.e3⟩
theorem Core.moreM {m2 : Nat} (c : Core K T BC PC H b i m a pl wl pgl xs ms g n H') (h : m ≤ m2) : Core K T BC PC H b i m2 a pl wl pgl xs ms g n H' :=
  ⟨c.fr, c.tb, c.bx.more h, c.bo, c.hn, c.pg, c.dp, c.ok, c.ml, c.n1, c.n2, c.e1, c.e2, c.e3⟩
theorem Core.last (c : Core K T BC PC H b i m a pl wl pgl xs ms g n H') : ∃ ys v, xs = ys ++ [v] ∧ Dp K H' v (pgD g) := by
  have h := c.dp
  rw [List.map_append] at h
  obtain ⟨ys, v, e, _, h2⟩ := dpAll_snoc h
  exact ⟨ys, v, e, h2⟩
theorem sz_more {g : Pg} {m n : Nat} (h : Sz g m) (l : m ≤ n) : Sz g n := ⟨Nat.le_trans h.sw l, Nat.le_trans h.ps l, Nat.le_trans h.st l⟩
theorem Core.len (c : Core K T BC PC H b i m a pl wl pgl xs ms g n H') : xs.length = ms.length + 1 := by
  have := dpAll_len c.dp
  rw [List.length_map, List.length_append] at this
  exact this
end
section
variable {P : Program} {w : World} {K : PySem.W.Frag} {mg : Str → Option Value} {base : Heap} {BC PC : Addr} {T : List (Addr × Str)} {XL : Addr → Prop}
abbrev s_law_right : Stmt := top 52
theorem S_law_right : FnScope ["_law_box_here", "_law_panel_here", "_law_pages", "_law_lists_here", "_law_lit", "_law_board", "_law_turn", "_law_kind", "_law_size", "_law_found", "_law_plan", "_law_now"] ["_law_box_here"] (defScope s_law_right) := ⟨rfl, rfl, rfl, by decide +kernel, rfl, by decide +kernel, by decide +kernel⟩
abbrev s_law : Stmt := top 53
theorem S_law : FnScope ["_law_script", "_law_k"] ["_law_script"] (defScope s_law) := ⟨rfl, rfl, rfl, by decide +kernel, rfl, by decide +kernel, by decide +kernel⟩
def sp_right (T : List (Addr × Str)) : Sp := fun vs H Q _ => ∃ (b : Addr), vs = [.ref b] ∧ BoxAt H b 0 ∧ Tabs T H ∧ ∀ H', Fr T [b] H H' → Q (.bl true) H'
theorem ok_right (TX : Txt mg) (D : Df K mg "_law_right" "_law_right" s_law_right ["_law_box_here"]) (G_law_panel : Gd P w K mg base CX0 4 "_law_panel" ["_law_box_here", "_law_most"] (sp_lpanel K T)) (G_law_state : Gd P w K mg base CX0 3 "_law_state" ["_law_box_here", "_law_panel_here"] (sp_lstate K T)) (G_law_lists : Gd P w K mg base CX0 4 "_law_lists" ["_law_thing"] (sp_lists K T 4))
    (G_Board : Gk P w K mg base CX0 3 "Board" BC ["self", "panel", "state"] (sp_board K T BC PC)) (G_law_take : Gd P w K mg base CX0 1 "_law_take" ["_law_box_here", "_law_size"] (sp_take T)) (G_Board_undo : Gm P w K mg base (L2.CX P w) 8 BC "undo" ["self"] (sp_undo K T BC PC))
    (G_Board_as_of : GmK P w K mg base (L2.CX P w) 5 BC "as_of" "many" ["self", "many"] (sp_asOf K T BC PC)) (G_Board_twin : Gm P w K mg base (L2.CX P w) 6 BC "twin" ["self"] (sp_twin K T BC PC)) (G_law_deed : Gd P w K mg base CX0 4 "_law_deed" ["_law_box_here", "_law_page"] (sp_ldeed K T))
    (G_law_done_right : Gd P w K mg base CX0 11 "_law_done_right" ["_law_board", "_law_pages", "_law_deed_here"] (sp_doneRight K T BC PC)) (G_Board_panel : Gm P w K mg base CX0 2 BC "panel" ["self"] (sp_panel K BC PC)) (G_Board_state : Gm P w K mg base CX0 2 BC "state" ["self"] (sp_state K BC PC)) (G_Board_deeds : Gm P w K mg base CX0 1 BC "deeds" ["self"] (sp_deeds K BC PC))
    (G_law_same : Gd P w K mg base CX0 6 "_law_same" ["_law_told_here", "_law_due_here"] (sp_same K T 6)) (G_law_equal_right : Gd P w K mg base CX0 5 "_law_equal_right" ["_law_board", "_law_page"] (sp_equal K T BC PC)) (G_law_moved_right : Gd P w K mg base CX0 9 "_law_moved_right" ["_law_board", "_law_page"] (sp_moved K T BC PC)) :
    Gd P w K mg base CX0 12 "_law_right" ["_law_box_here"] (sp_right T) := by
  refine D.ok (k := 11) S_law_right (fun vs H Q E h => ?_) (fun f cdv A outer s H vs Q E hr h => ?_)
  · obtain ⟨b, rfl, _⟩ := h
    rfl
  · obtain ⟨b, rfl, hb, hTb, q⟩ := h
    obtain ⟨bxs, hbx⟩ := hb.lst
    -- slots: 0:_law_box_here 1:_law_panel_here 2:_law_pages 3:_law_lists_here 4:_law_lit 5:_law_board 6:_law_turn 7:_law_kind 8:_law_size 9:_law_found 10:_law_plan 11:_law_now
    refine ⟨_, (pss_cons (ps_set (i := 1) S_law_right.nd rfl (Or.inl rfl) (pcl G_law_panel rfl (hr.mono (by decide)) p0 (pa_cons (pv 0) (pa_cons pe_int pa_nil))))
    (pss_cons (ps_par (i := 2) (j := 3) rfl S_law_right.nd rfl rfl (by decide) rfl rfl (pa_cons (pe_lst (pa_cons (pe_tup (pa_cons (pv 1) (pa_cons (pcl G_law_state rfl (hr.mono (by decide)) p0 (pa_cons (pv 0) (pa_cons (pv 1) pa_nil))) pa_nil))) pa_nil)) (pa_cons (pcl G_law_lists rfl (hr.mono (by decide)) p0 (pa_cons (pv 1) pa_nil)) pa_nil)) rfl)
    (pss_cons (ps_set (i := 4) S_law_right.nd rfl (Or.inl rfl) (pe_callTy call_list_of rfl TX.n_list (by decide +kernel) (pa_cons (pe_ix (ix_tupK K) (pe_ix (ix_listK K) (pv 2) pe_int (fun _ _ => rfl)) pe_int (fun _ _ => rfl)) pa_nil)))
    (pss_cons (ps_set (i := 5) S_law_right.nd rfl (Or.inl rfl) (pmk G_Board rfl (hr.mono (by decide)) (pa_cons (pv 3) (pa_cons (pv 4) pa_nil))))
    (pss_cons (ps_expr (pe_bm PySem.F.plainAttrs_list PySem.F.slot_list_append PySem.F.type_list_append mt_append (pe_ix (ix_listK K) (pv 3) pe_int (fun _ _ => rfl)) (pa_cons pe_str pa_nil)))
    (pss_cons (ps_expr (pe_bm PySem.F.plainAttrs_list PySem.F.slot_list_append PySem.F.type_list_append mt_append (pe_ix (ix_listK K) (pv 3) pe_int (fun _ _ => rfl)) (pa_cons (pe_lst (pa_cons pe_str (pa_cons pe_str pa_nil))) pa_nil)))
    (pss_cons (ps_expr (pe_bm PySem.F.plainAttrs_list PySem.F.slot_list_append PySem.F.type_list_append mt_append (pv 4) (pa_cons pe_str pa_nil)))
    (pss_cons (ps_for PassesOwn.never rfl (pi_range1 rfl TX.n_range (pa_cons pe_int pa_nil)) (pg_name (i := 6) S_law_right.nd rfl (Or.inl rfl))
      (pss_cons (ps_par (i := 7) (j := 8) rfl S_law_right.nd rfl rfl (by decide) rfl rfl (pa_cons (pcl G_law_take rfl (hr.mono (by decide)) p0 (pa_cons (pv 0) (pa_cons pe_int pa_nil))) (pa_cons (pe_op op_sub (pe_callB call_len_seq rfl TX.n_len (by decide +kernel) (pa_cons (pv 2) pa_nil)) pe_int) pa_nil)) rfl)
      (pss_cons (ps_if (pt_cmpR op_lt (pv 7) pe_int (nomark _)) (pss_cons (ps_if (pt_cmpR op_ne (pmt0 G_Board_undo (hr.mono (by decide)) pF (pv 5)) (pe_cmpR op_gt (pv 8) pe_int (nomark _)) (nomark _)) (pss_one (ps_ret pe_bl)) pss_nil)
        (pss_one (ps_set (i := 2) S_law_right.nd rfl (Or.inl rfl) (pe_slice sl_list (pv 2) po_none (po_some (pe_callB (call_max2 rfl) rfl TX.n_max (by decide +kernel) (pa_cons pe_int (pa_cons (pv 8) pa_nil)))))))) (pss_one (ps_if (pt_cmpR op_eq (pv 7) pe_int (nomark _)) (pss_cons (ps_set (i := 8) S_law_right.nd rfl (Or.inl rfl) (pcl G_law_take rfl (hr.mono (by decide)) p0 (pa_cons (pv 0) (pa_cons (pe_callB call_len_seq rfl TX.n_len (by decide +kernel) (pa_cons (pv 2) pa_nil)) pa_nil))))
          (pss_one (ps_par (i := 5) (j := 2) rfl S_law_right.nd rfl rfl (by decide) rfl rfl (pa_cons (pmtKX G_Board_as_of (hr.mono (by decide)) (pv 5) (pv 8)) (pa_cons (pe_slice sl_list (pv 2) po_none (po_some (pe_op op_add (pv 8) pe_int))) pa_nil)) rfl))) (pss_one (ps_if (pt_cmpR op_eq (pv 7) pe_int (nomark _)) (pss_one (ps_set (i := 5) S_law_right.nd rfl (Or.inl rfl) (pmt0 G_Board_twin (hr.mono (by decide)) pF (pv 5)))) (pss_cons (ps_set (i := 2) S_law_right.nd rfl (Or.inl rfl) (pcl G_law_done_right rfl (hr.mono (by decide)) p0 (pa_cons (pv 5) (pa_cons (pv 2) (pa_cons (pcl G_law_deed rfl (hr.mono (by decide)) p0 (pa_cons (pv 0) (pa_cons (pe_ix (ix_listK K) (pv 2) (pe_un un_neg pe_int) (fun _ _ => rfl)) pa_nil))) pa_nil)))))
            (pss_one (ps_if (pt_cmpR op_isN (pv 2) pe_non (nomark _)) (pss_one (ps_ret pe_bl)) pss_nil))))))))
      (pss_cons (ps_asg (pe_tup (pa_cons (pe_lst (pa_cons (pmt0 G_Board_panel (hr.mono (by decide)) p0 (pv 5)) (pa_cons (pmt0 G_Board_state (hr.mono (by decide)) p0 (pv 5)) (pa_cons (pmt0 G_Board_deeds (hr.mono (by decide)) p0 (pv 5)) pa_nil)))) (pa_cons (pe_ix (ix_listK K) (pv 2) (pe_un un_neg pe_int) (fun _ _ => rfl)) pa_nil))) (pg_tup rfl (pgs_cons (pg_name (i := 9) S_law_right.nd rfl (Or.inl rfl)) (pgs_cons (pg_tup rfl (pgs_cons (pg_name (i := 10) S_law_right.nd rfl (Or.inl rfl)) (pgs_cons (pg_name (i := 11) S_law_right.nd rfl (Or.inl rfl)) pgs_nil))) pgs_nil))))
      (pss_cons (ps_if (pt_not (pt_val (pcl G_law_same rfl (hr.mono (by decide)) p0 (pa_cons (pv 9) (pa_cons (pe_lst (pa_cons (pv 10) (pa_cons (pv 11) (pa_cons (pe_op op_sub (pe_callB call_len_seq rfl TX.n_len (by decide +kernel) (pa_cons (pv 2) pa_nil)) pe_int) pa_nil)))) pa_nil))))) (pss_one (ps_ret pe_bl)) pss_nil)
      (pss_one (ps_if (pt_cmpR op_eq (pe_op op_mod (pv 6) pe_int) pe_int (nomark _)) (pss_one (ps_if (PW.pt (pw_or (pt_not (pt_val (pcl G_law_equal_right rfl (hr.mono (by decide)) p0 (pa_cons (pv 5) (pa_cons (pe_ix (ix_listK K) (pv 2) (pe_un un_neg pe_int) (fun _ _ => rfl)) pa_nil))))) (pw_or1 (pt_not (pt_val (pcl G_law_moved_right rfl (hr.mono (by decide)) p0 (pa_cons (pv 5) (pa_cons (pe_ix (ix_listK K) (pv 2) (pe_un un_neg pe_int) (fun _ _ => rfl)) pa_nil)))))))) (pss_one (ps_ret pe_bl)) pss_nil)) pss_nil)))))))
    (pss_one (ps_ret pe_bl)))))))))), ?_⟩
    refine ⟨.ref b, rfl, b, 0, rfl, hb, by decide, fun pv P H1 f1 bx1 hP po => ?_⟩
    refine ⟨pv, rfl, .ref b, rfl, pv, rfl, b, pv, P, 0 + 300, rfl, bx1, hP, po, by decide, fun sv S H2 f2 bx2 hS hSm hSl => ⟨small' 2 (by decide), fun t ht => ⟨small' 1 (by decide), fun pgl hpgl => ?_⟩⟩⟩
    have F2 := f1.trans f2
    have hP2 := f2.dpan hP
    have f3 : Fr T [] H2 (upd (upd H2 t (.tup [pv, sv])) pgl (.lst [.ref t])) := (Fr.refl.nw ht).nw hpgl
    have F3 := F2.trans f3.zero
    have tsd : TSd 4 (panD P) := by
      have l1 := po.l1
      have l2 := po.l2
      refine .inr ⟨_, rfl, by show 2 ≤ 100000; decide, fun e he => ?_⟩
      rcases List.mem_cons.mp he with e1 | he
      · subst e1
        refine .inr ⟨_, rfl, by rw [List.length_map]; omega, fun e he => ?_⟩
        obtain ⟨s, _, rfl⟩ := List.mem_map.mp he
        exact .inl ⟨s, rfl⟩
      · rw [List.mem_singleton.mp he]
        refine .inr ⟨_, rfl, by rw [List.length_map]; omega, fun e he => ?_⟩
        obtain ⟨p, _, rfl⟩ := List.mem_map.mp he
        refine .inr ⟨_, rfl, by show 2 ≤ 100000; decide, fun e he => ?_⟩
        rcases List.mem_cons.mp he with e1 | he
        · subst e1; exact .inl ⟨_, rfl⟩
        · rw [List.mem_singleton.mp he]; exact .inl ⟨_, rfl⟩
    refine ⟨pv, rfl, pv, panD P, rfl, f3.dpan hP2, tsd, fun lv H4 f4 hlv => ⟨_, _, rfl, ?_⟩⟩
    have F4 := F3.trans f4.zero
    have pg3 : (upd (upd H2 t (.tup [pv, sv])) pgl (.lst [.ref t])) pgl = some (.lst [.ref t]) := upd_same
    have t3 : (upd (upd H2 t (.tup [pv, sv])) pgl (.lst [.ref t])) t = some (.tup [pv, sv]) := upd_old hpgl _ _ upd_same
    have hpg : Dp K (upd (upd H2 t (.tup [pv, sv])) pgl (.lst [.ref t])) (.ref t) (pgD (P, S)) := dp_two_of (sqT t3) (f3.dpan hP2) (f3.dst hS)
    obtain ⟨ss, rfl, hss⟩ := dp_st hS
    have og : Ok (P, S) := ⟨po.sw, po.mem, fun s hs => po.sw s (hSm s hs), po.ne, po.nd⟩
    have bpgl : pgl ≠ b := by
      obtain ⟨_, hb3⟩ := (bx2.fr ((Fr.refl (T := T) (S := [])).nw ht (o := .tup [pv, .ref ss]))).lst
      exact (ne_of_none hb3 hpgl).symm
    -- lit
    refine ⟨.ref pgl, rfl, pgl, _, 0, .ref t, rfl, rfl, sqL (f4.lst pg3), rfl, t, _, 1, .ref ss, rfl, rfl, sqT (f4.tup t3), rfl, ss, _, rfl, .inr (f4.sqT (f3.sqT hss)), fun lit hlit => ?_⟩
    have f5 : Fr T [] H4 (upd H4 lit (.lst (S.map V.str))) := Fr.refl.nw hlit
    have hlv5 := hlv.fr f5 fun b hb => absurd hb (by simp)
    cases hlv5 with
    | @lst la xl _ q1 q2 q3 q4 =>
    match xl, q3, q1, q4 with
    | [y0, y1], _, q1, q4 =>
    have d0 := q4 0 y0 _ rfl rfl
    have d1 := q4 1 y1 _ rfl rfl
    cases d0 with
    | @lst l0 x0 _ r1 r2 r3 r4 =>
    cases d1 with
    | @lst l1 x1 _ s1 s2 s3 s4 =>
    have l1' := po.l1
    have l2' := po.l2
    rw [List.length_map] at r3 s3
    have ex0 : x0 = P.1.map V.str := by
      refine List.ext_getElem? fun i => ?_
      rw [List.getElem?_map]
      cases e : x0[i]? with
      | none =>
        have := List.getElem?_eq_none_iff.mp e
        rw [List.getElem?_eq_none_iff.mpr (by omega)]
        rfl
      | some v =>
        have li := (List.getElem?_eq_some_iff.mp e).1
        have e2 : P.1[i]? = some (P.1[i]'(by omega)) := List.getElem?_eq_getElem (by omega)
        have := r4 i v _ e (by rw [List.getElem?_map, e2]; rfl)
        rw [e2]
        cases this
        rfl
    subst ex0
    have hprs : Paired (PrL K (upd H4 lit (.lst (S.map V.str)))) x1 P.2 := by
      have key : ∀ (ps : List Pr) (vs : List V), vs.length = ps.length → (∀ (i : Nat) x d, vs[i]? = some x → (ps.map prD)[i]? = some d → DL (upd (upd H2 t (.tup [pv, .ref ss])) pgl (.lst [.ref t])) (upd H4 lit (.lst (S.map V.str))) x d) → Paired (PrL K (upd H4 lit (.lst (S.map V.str)))) vs ps := by
        intro ps
        induction ps with
        | nil =>
          intro vs hl _
          cases vs with
          | nil => exact .nil
          | cons v vs => simp at hl
        | cons p ps ih =>
          intro vs hl hh
          cases vs with
          | nil => simp at hl
          | cons v vs =>
            refine .cons ?_ (ih vs (by simpa using hl) fun i x d h1 h2 => hh (i + 1) x d (by simpa using h1) (by simpa using h2))
            have := hh 0 v _ rfl rfl
            cases this with
            | @lst a xs _ u1 u2 u3 u4 =>
              match xs, u3, u1, u4 with
              | [z0, z1], _, u1, u4 =>
                have w0 := u4 0 z0 _ rfl rfl
                have w1 := u4 1 z1 _ rfl rfl
                cases w0
                cases w1
                exact ⟨a, rfl, .inl (sqL u1)⟩
      exact key P.2 x1 s3 s4
    have hpanL : PanL K (upd H4 lit (.lst (S.map V.str))) (.ref la) P := ⟨la, _, _, rfl, .inl (sqL q1), ⟨l0, rfl, .inl (sqL r1)⟩, ⟨l1, x1, rfl, .inl (sqL s1), hprs⟩⟩
    refine ⟨.ref la, rfl, .ref lit, rfl, fun a ad na nad nae => ⟨a, ad, _, .ref la, .ref lit, P, S, rfl, rfl, na, nad, nae, hpanL, ⟨lit, rfl, .inl (sqL upd_same)⟩, by omega, fun pl wl H6 npl nwl f6 b6 => ⟨rfl, ?_⟩⟩⟩
    let H5 : Hp := upd H4 lit (.lst (S.map V.str))
    have lit5 : H5 lit = some (.lst (S.map V.str)) := upd_same
    -- lists[0].append('more')
    have q6 := f6.lst q1
    have r6 := f6.lst r1
    have s6 := f6.lst s1
    have lit6 := f6.lst lit5
    have l0la : l0 ≠ la := by
      intro z
      rw [z, q1] at r1
      have e := Option.some.inj r1
      injection e with e
      cases hP1 : P.1 with
      | nil => exact po.ne hP1
      | cons s r => rw [hP1] at e; cases e
    have F6 : Fr T [b] H H6 := (F4.trans f5.zero).trans f6.zero
    have fl0 : H l0 = none := F3.free r2
    have fl1 : H l1 = none := F3.free s2
    have flit : H lit = none := F4.free hlit
    have npl' : ∀ z, H5 z ≠ none → pl ≠ z ∧ wl ≠ z := fun z hz => ⟨fun e => hz (e ▸ npl), fun e => hz (e ▸ nwl)⟩
    have p0 := npl' l0 (by rw [show H5 l0 = _ from r1]; intro z; cases z)
    have p1 := npl' l1 (by rw [show H5 l1 = _ from s1]; intro z; cases z)
    have p2 := npl' lit (by rw [lit5]; intro z; cases z)
    have g0 : pgl ≠ l0 := ne_of_none pg3 r2
    have g1 : pgl ≠ l1 := ne_of_none pg3 s2
    have g2 : pgl ≠ lit := ne_of_none (f4.lst pg3) hlit
    have b0 : b ≠ l0 := ne_of_none hbx fl0
    have b1 : b ≠ l1 := ne_of_none hbx fl1
    have b2 : b ≠ lit := ne_of_none hbx flit
    have pg6 := f6.lst (f5.lst (f4.lst pg3))
    have bx6 := ((((bx2.fr f3).fr f4).fr f5).fr f6)
    refine ⟨.ref la, rfl, la, _, 0, .ref l0, rfl, rfl, sqL q6, rfl, .inl ⟨rfl, _, sqL r6⟩, l0, _, _, rfl, rfl, r6, small _ (by rw [List.length_map]; omega), ?_⟩
    let H7 : Hp := upd H6 l0 (.lst (P.1.map V.str ++ [.str "more"]))
    have f7 : Fr T [l0] H6 H7 := Fr.refl.put (by rw [r6]; exact True.intro) (.inr ⟨by simp, _, r6⟩)
    have F7 : Fr T [b] H H7 := F6.put (by rw [r6]; exact True.intro) (.inl fl0)
    have q7 : H7 la = some (.lst [.ref l0, .ref l1]) := f7.lst q6 (by simpa using l0la.symm)
    have lb1 : Lb H7 l1 401 := Lb.app (n := 400) ⟨_, s6, by omega⟩ (by rw [List.length_map]; omega)
    have lbt : Lb H7 lit 401 := Lb.app (n := 400) ⟨_, lit6, by rw [List.length_map]; omega⟩ (by rw [List.length_map]; omega)
    obtain ⟨y1, e7, len7⟩ := lb1
    refine ⟨.ref la, rfl, la, _, 1, .ref l1, rfl, rfl, sqL q7, rfl, .inl ⟨rfl, _, sqL e7⟩, small' 2 (by decide), fun m hm => ⟨l1, y1, _, rfl, rfl, upd_old hm _ _ e7, small _ (by omega), ?_⟩⟩
    let H7' : Hp := upd H7 m (.lst [.str "more", .str "most"])
    have f7' : Fr T [] H7 H7' := Fr.refl.nw hm
    have e7' : H7' l1 = some (.lst y1) := upd_old hm _ _ e7
    let H8 : Hp := upd H7' l1 (.lst (y1 ++ [.ref m]))
    have f8 : Fr T [l1] H7' H8 := Fr.refl.put (by rw [e7']; exact True.intro) (.inr ⟨by simp, _, e7'⟩)
    have F8 : Fr T [b] H H8 := (F7.trans f7'.zero).put (by rw [e7']; exact True.intro) (.inl fl1)
    have lbt8 : Lb H8 lit 402 := Lb.app (lbt.fr f7') (by omega)
    obtain ⟨y2, e8, len8⟩ := lbt8
    refine ⟨.ref lit, rfl, .inl ⟨rfl, _, sqL e8⟩, lit, y2, _, rfl, rfl, e8, small _ (by omega), ?_⟩
    let H9 : Hp := upd H8 lit (.lst (y2 ++ [.str "more"]))
    have f9 : Fr T [lit] H8 H9 := Fr.refl.put (by rw [e8]; exact True.intro) (.inr ⟨by simp, _, e8⟩)
    have F9 : Fr T [b] H H9 := F8.put (by rw [e8]; exact True.intro) (.inl flit)
    have Bo9 := (((b6.fr f7 (by simpa using p0.1) (by simpa using p0.2)).fr f7').fr f8 (by simpa using p1.1) (by simpa using p1.2)).fr f9 (by simpa using p2.1) (by simpa using p2.2)
    have pg9 := f9.lst (f8.lst (f7'.lst (f7.lst pg6 (by simpa using g0))) (by simpa using g1)) (by simpa using g2)
    have bx9 := (((bx6.fr f7 (by simpa using b0)).fr f7').fr f8 (by simpa using b1)).fr f9 (by simpa using b2)
    have dp9 : DpAll K H9 [.ref t] (([] ++ [(P, S)]).map pgD) := .cons (f9.dpg (f8.dpg (f7'.dpg (f7.dpg (f6.dpg (f5.dpg (f4.dpg hpg))))))) .nil
    have ppg := npl' pgl (by rw [show H5 pgl = _ from f5.lst (f4.lst pg3)]; intro z; cases z)
    have ok0 : ∀ p ∈ ([] ++ [(P, S)] : List Pg), Ok p ∧ Sz p (400 + 5 * 0) := fun p hp => by
      have e : p = (P, S) := by simpa using hp
      rw [e]
      exact ⟨og, by show P.1.length ≤ _; omega, by show P.2.length ≤ _; omega, by show S.length ≤ _; omega⟩
    have C0 : Core K T BC PC H b 0 400 a pl wl pgl [.ref t] [] (P, S) 0 H9 := ⟨F9, F9.tabs hTb, bx9.more (by omega), Bo9, Nat.le_refl _, pg9, dp9, ok0, Nat.le_refl _, ppg.1.symm, ppg.2.symm, (F2.trans ((Fr.refl (T := T) (S := [b])).nw ht)).free hpgl, (F4.trans f5.zero).free npl, (F4.trans f5.zero).free nwl⟩
    -- forty turns
    refine ⟨40, rfl, by decide, by decide, ?_⟩
    refine for_range (n := 40) (fun i σ H' => ∃ z6, RI K T BC PC H b i (400 + 50 * i) z6 σ H') ⟨none, a, pl, wl, pgl, _, [], (P, S), 0, some pv, some (.ref la), some (.ref lit), none, none, none, none, none, rfl, C0⟩ (fun i σ H' hi h => ?_) (fun σ H' h => ?_)
    · obtain ⟨z6, a, pl, wl, pgl, xs, ms, g, n, z1, z3, z4, z7, z8, z9, z10, z11, rfl, c⟩ := h
      have hb0 : H b ≠ none := by rw [hbx]; intro z; cases z
      have hml := c.ml
      have hnn := c.hn
      refine ⟨.ref b, rfl, b, 12, _, rfl, c.bx, by decide, by decide, by omega, fun kd H1 lk f1 bx1 => ?_⟩
      have c1 := c.frb hb0 f1 bx1
      have hlen := c1.len
      refine ⟨.ref pgl, rfl, pgl, xs, rfl, .inl (sqL c1.pg), xs.length, 1, rfl, rfl, _, _, rfl, ?_⟩
      dsimp only
      refine seq_join (RI K T BC PC H b (i + 1) (400 + 50 * i + 45) (some (.int (0 + (i : Int))))) (fun N hN => ?_) (fun σ' H2 hJ => ?_)
      · obtain ⟨⟨dx, vs, ws, i1, _⟩, _⟩ := id c1.bo
        refine ⟨.int kd, rfl, kd, 3, rfl, rfl, _, rfl, ite2 (fun _ => ?_) fun _ => ?_⟩
        · -- undo
          refine ⟨.ref a, rfl, a, dx, _, rfl, i1, rfl, a, pl, wl, ms, g, n, rfl, c1.tb, c1.bo, by omega, fun H2 f2 b2 => ?_⟩
          refine ⟨.int ((xs.length : Int) - 1), rfl, _, 0, rfl, rfl, rfl, _, rfl, ?_⟩
          have e1 : decide ((0 : Int) < (xs.length : Int) - 1) = !decide (ms = []) := by
            by_cases e : ms = []
            · rw [decide_eq_true e, hlen, e]
              rfl
            · have := List.length_pos_iff.mpr e
              rw [decide_eq_false e, decide_eq_true (by omega)]
              rfl
          show if (!decide (V.bl (!decide (ms = [])) = V.bl (decide ((0 : Int) < (xs.length : Int) - 1)))) = true then _ else _
          rw [e1, decide_eq_true rfl]
          refine iteF ?_
          have F2 : Fr T [b] H H2 := c1.fr.call f2 fun z hz => .inr (by
            rcases List.mem_cons.mp hz with e | e
            · rw [e]; exact c1.e2
            · rw [List.mem_singleton.mp e]; exact c1.e3)
          have pn : pgl ∉ [pl, wl] := by simp [c1.n1, c1.n2]
          have pg2 := f2.lst c1.pg pn
          have bx2 : BoxAt H2 b (400 + 50 * i + 1) := bx1.fr f2 (fun z => by
            rcases List.mem_cons.mp z with e | e
            · exact hb0 (e ▸ c1.e2)
            · exact hb0 (List.mem_singleton.mp e ▸ c1.e3))
          have dp2 := dpAll_fr (imm_pgs _) f2 c1.dp
          refine ⟨.ref pgl, rfl, .int ((xs.length : Int) - 1), rfl, 1, (xs.length : Int) - 1, rfl, _, rfl, pgl, xs, rfl, sqL pg2, fun p2 hp2 => ?_⟩
          have em : (if (xs.length : Int) - 1 > 1 then (xs.length : Int) - 1 else 1) = ((max 1 ms.length : Nat) : Int) := by split <;> omega
          have ec : cutV xs none (some (if (xs.length : Int) - 1 > 1 then (xs.length : Int) - 1 else 1)) = xs.take (max 1 ms.length) := by rw [em, cut_take]
          have f3 : Fr T [] H2 (upd H2 p2 (.lst (cutV xs none (some (if (xs.length : Int) - 1 > 1 then (xs.length : Int) - 1 else 1))))) := Fr.refl.nw hp2
          have np : H p2 = none := F2.free hp2
          have b3 := b2.fr f3
          obtain ⟨⟨_, _, _, _, w1, _, w2, _⟩, _⟩ := id b2
          have ne1 : p2 ≠ pl := (ne_of_none w1 hp2).symm
          have ne2 : p2 ≠ wl := (ne_of_none w2 hp2).symm
          have fin : ∀ (ms' : List Pg) (g' : Pg), (ms' ++ [g'] : List Pg) = (if ms = [] then [g] else ms) → RI K T BC PC H b (i + 1) (400 + 50 * i + 45) (some (.int (0 + (i : Int)))) [some (.ref b), z1, some (.ref p2), z3, z4, some (.ref a), some (.int (0 + (i : Int))), some (.int kd), some (.int ((xs.length : Int) - 1)), z9, z10, z11] (upd H2 p2 (.lst (cutV xs none (some (if (xs.length : Int) - 1 > 1 then (xs.length : Int) - 1 else 1))))) := fun ms' g' e => by
            have hsub : (ms' ++ [g']) = (ms ++ [g]).take (max 1 ms.length) := by
              rw [e]
              by_cases em2 : ms = []
              · rw [if_pos em2, em2]; rfl
              · have := List.length_pos_iff.mpr em2
                rw [if_neg em2, show max 1 ms.length = ms.length by omega, List.take_left]
            refine ⟨a, pl, wl, p2, _, ms', g', n + 2, _, _, _, _, _, _, _, _, rfl, ⟨F2.trans f3.zero, f3.tabs (f2.tabs c1.tb), (bx2.fr f3).more (by omega), by rw [e]; exact b3, by omega, upd_same, ?_, fun p hp => ?_, ?_, ne1, ne2, np, c1.e2, c1.e3⟩⟩
            · have z := dpAll_take (max 1 ms.length) (dpAll_fr (imm_pgs _) f3 dp2)
              rw [← List.map_take, ← hsub, ← ec] at z
              exact z
            · rw [hsub] at hp
              have h := c1.ok p (List.mem_of_mem_take hp)
              exact ⟨h.1, sz_more h.2 (by omega)⟩
            · have := congrArg List.length hsub
              rw [List.length_append, List.length_take, List.length_append] at this
              simp at this
              omega
          by_cases em2 : ms = []
          · exact hN _ _ (fin [] g (by rw [if_pos em2]; rfl))
          · exact hN _ _ (fin ms.dropLast (ms.getLast em2) (by rw [if_neg em2, List.dropLast_concat_getLast]))
        · refine ⟨.int kd, rfl, rfl, _, rfl, ite2 (fun _ => ?_) fun _ => ?_⟩
          · -- as_of
            refine ⟨.ref b, rfl, .ref pgl, rfl, pgl, xs, rfl, .inl (sqL c1.pg), b, xs.length, _, rfl, bx1, by omega, by omega, by omega, fun r H2 lr f2 bx2 => ?_⟩
            have c2 := c1.frb hb0 f2 bx2
            have og := c2.ok g (by simp)
            refine ⟨.ref a, rfl, a, dx, _, rfl, f2.ins i1, rfl, .int r, rfl, .int r, rfl, a, pl, wl, ms, g, n, r, rfl, c2.bo, by omega, by have := og.2.ps; omega, fun o pl' wl' H3 no npl nwl f3 b3 => ?_⟩
            have c3 := c2.fr0 f3
            refine ⟨.ref pgl, rfl, .int r, rfl, r, 1, rfl, rfl, (r : Int) + 1, rfl, pgl, xs, rfl, sqL c3.pg, fun p2 hp2 => ⟨_, _, rfl, ?_⟩⟩
            have ec : cutV xs none (some ((r : Int) + 1)) = xs.take (r + 1) := cut_take xs (r + 1)
            have f4 : Fr T [] H3 (upd H3 p2 (.lst (cutV xs none (some ((r : Int) + 1))))) := Fr.refl.nw hp2
            have c4 := c3.fr0 f4
            obtain ⟨⟨_, _, _, _, w1, _, w2, _⟩, _⟩ := id b3
            have hne : (ms ++ [g]).take (r + 1) ≠ [] := fun e => by
              have := congrArg List.length e
              rw [List.length_take, List.length_append] at this
              simp at this
            have hsub : ((ms ++ [g]).take (r + 1)).dropLast ++ [((ms ++ [g]).take (r + 1)).getLast hne] = (ms ++ [g]).take (r + 1) := List.dropLast_concat_getLast hne
            refine hN _ _ ⟨o, pl', wl', p2, _, _, _, 0, _, _, _, _, _, _, _, _, rfl, ⟨c4.fr, c4.tb, c4.bx.more (by omega), by rw [hsub]; exact b3.fr f4, by omega, upd_same, ?_, fun p hp => ?_, ?_, (ne_of_none w1 hp2).symm, (ne_of_none w2 hp2).symm, c3.fr.free hp2, c2.fr.free npl, c2.fr.free nwl⟩⟩
            · have z := dpAll_take (r + 1) c4.dp
              rw [← List.map_take, ← hsub, ← ec] at z
              exact z
            · rw [hsub] at hp
              have h := c1.ok p (List.mem_of_mem_take hp)
              exact ⟨h.1, sz_more h.2 (by omega)⟩
            · have := congrArg List.length hsub
              rw [List.length_append, List.length_take, List.length_append] at this
              simp at this ⊢
              omega
          · refine ⟨.int kd, rfl, rfl, _, rfl, ite2 (fun _ => ?_) fun _ => ?_⟩
            · -- twin
              have og := c1.ok g (by simp)
              refine ⟨.ref a, rfl, a, dx, _, rfl, i1, rfl, a, pl, wl, ms, g, n, rfl, c1.bo, by have := og.2.ps; omega, fun o pl' wl' H2 no npl nwl f2 b2 => ?_⟩
              have c2 := (c1.fr0 f2).more (m2 := 400 + 50 * i + 45) (by omega)
              refine hN _ _ ⟨o, pl', wl', pgl, xs, ms, g, 0, _, _, _, _, _, _, _, _, rfl, ⟨c2.fr, c2.tb, c2.bx, b2, by omega, c2.pg, c2.dp, c2.ok, c2.ml, fun e => ?_, fun e => ?_, c2.e1, c1.fr.free npl, c1.fr.free nwl⟩⟩
              · rw [← e, c1.pg] at npl; cases npl
              · rw [← e, c1.pg] at nwl; cases nwl
            · -- a deed
              obtain ⟨ys, v, rfl, hv⟩ := c1.last
              have og := c1.ok g (by simp)
              refine ⟨.ref a, rfl, .ref pgl, rfl, .ref b, rfl, .ref pgl, rfl, 1, rfl, pgl, _, -1, v, rfl, rfl, sqL c1.pg, atI_last ys v, b, v, g, _, rfl, bx1, hv, og.1, sz_more og.2 (by omega), by omega, fun t h d H2 f2 bx2 hD dok hh => ?_⟩
              have c2 := c1.frb hb0 f2 bx2
              obtain ⟨⟨_, _, _, _, w1, _, w2, _⟩, _⟩ := id c1.bo
              refine ⟨a, pl, wl, pgl, t, h, _, ms, g, n, 400 + 5 * i, d, rfl, ⟨c2.tb, c2.bo, og.1, sz_more og.2 (by omega), by omega, by omega, hD, dok, fun xs e => (ne_of_none w2 hh.1).symm⟩, og.2, c2.pg, c2.dp, c1.n1, c1.n2, (ne_of_none c1.pg hh.1).symm, (ne_of_none w1 hh.1).symm, (ne_of_none w2 hh.1).symm, fun l ms' g' xs' H3 f3 b3 hl dp' sub og' sz' ml' hor => ?_⟩
              refine ⟨.ref l, rfl, rfl, false, rfl, iteF (hN _ _ ?_)⟩
              have hfree : ∀ z ∈ [pl, wl, h], H z = none := fun z hz => by
                rcases List.mem_cons.mp hz with e | hz
                · rw [e]; exact c1.e2
                · rcases List.mem_cons.mp hz with e | hz
                  · rw [e]; exact c1.e3
                  · rw [List.mem_singleton.mp hz]; exact c1.fr.free hh.1
              have F3 : Fr T [b] H H3 := c2.fr.call f3 fun z hz => .inr (hfree z hz)
              have bx3 : BoxAt H3 b (400 + 50 * i + 1 + 30) := bx2.fr f3 fun z => hb0 (hfree b z)
              obtain ⟨⟨_, _, _, _, w3, _, w4, _⟩, _⟩ := id c2.bo
              have nl1 : l ≠ pl := hor.elim (fun e => e ▸ c1.n1) fun e => (ne_of_none w3 e).symm
              have nl2 : l ≠ wl := hor.elim (fun e => e ▸ c1.n2) fun e => (ne_of_none w4 e).symm
              have nl0 : H l = none := hor.elim (fun e => e ▸ c1.e1) fun e => c2.fr.free e
              refine ⟨a, pl, wl, l, xs', ms', g', n + 2, _, _, _, _, _, _, _, _, rfl, ⟨F3, f3.tabs c2.tb, bx3.more (by omega), b3, by omega, hl, dp', fun p hp => ?_, by omega, nl1, nl2, nl0, c1.e2, c1.e3⟩⟩
              rcases List.mem_append.mp hp with hp | hp
              · have h := c1.ok p (sub p hp)
                exact ⟨h.1, sz_more h.2 (by omega)⟩
              · rw [List.mem_singleton.mp hp]
                exact ⟨og', sz_more sz' (by omega)⟩
      · obtain ⟨a, pl, wl, pgl, xs, ms, g, n, z1, z3, z4, z7, z8, z9, z10, z11, rfl, c⟩ := hJ
        obtain ⟨ys, v, rfl, hv⟩ := c.last
        have og := c.ok g (by simp)
        obtain ⟨⟨dx, vs, ws, i1, _⟩, _⟩ := id c.bo
        refine ⟨.ref a, rfl, a, dx, _, rfl, i1, rfl, a, pl, wl, ms, g, n, rfl, c.bo, fun pv hp => ?_⟩
        refine ⟨.ref a, rfl, a, dx, _, rfl, i1, rfl, a, pl, wl, ms, g, n, rfl, c.bo, fun sv hs => ?_⟩
        refine ⟨.ref a, rfl, a, dx, _, rfl, i1, rfl, a, pl, wl, ms ++ [g], n, rfl, c.bo, ?_⟩
        refine ⟨small' 3 (by decide), fun lf hlf => ?_⟩
        let Hf : Hp := upd H2 lf (.lst [pv, sv, .int (((ms ++ [g]).length : Int) - 1)])
        have ff : Fr T [] H2 Hf := Fr.refl.nw hlf
        have cf := c.fr0 ff
        refine ⟨.ref pgl, rfl, 1, rfl, pgl, _, -1, v, rfl, rfl, sqL cf.pg, atI_last ys v, ?_⟩
        refine ⟨small' 2 (by decide), fun t ht => ?_⟩
        let Ht : Hp := upd Hf t (.tup [.ref lf, v])
        have ft : Fr T [] Hf Ht := Fr.refl.nw ht
        have ct := cf.fr0 ft
        obtain ⟨va, pn, st, rfl, hva, hpn, hst⟩ := dp_two hv
        have fft := ff.trans ft
        refine ⟨t, [.ref lf, .ref va], rfl, sqT upd_same, rfl, .ref lf, [.ref va], rfl, .ref va, [], rfl, va, [pn, st], rfl, fft.sqT hva, rfl, pn, [st], rfl, st, [], rfl, rfl, rfl, ?_⟩
        refine ⟨.ref lf, rfl, pn, rfl, st, rfl, .ref pgl, rfl, pgl, _, rfl, .inl (sqL ct.pg), (ys ++ [V.ref va]).length, 1, rfl, rfl, ?_⟩
        refine ⟨small' 3 (by decide), fun l2 hl2 => ?_⟩
        let H5 : Hp := upd Ht l2 (.lst [pn, st, .int (((ys ++ [V.ref va]).length : Int) - 1)])
        have f5 : Fr T [] Ht H5 := Fr.refl.nw hl2
        have c5 := ct.fr0 f5
        have F5 := fft.trans f5
        have hlen := c.len
        have e3 : (((ys ++ [V.ref va]).length : Int) - 1) = (((ms ++ [g]).length : Int) - 1) := by rw [hlen, List.length_append]; rfl
        have lf5 : H5 lf = some (.lst [pv, sv, .int (((ms ++ [g]).length : Int) - 1)]) := f5.lst (ft.lst upd_same)
        have l25 : H5 l2 = some (.lst [pn, st, .int (((ys ++ [V.ref va]).length : Int) - 1)]) := upd_same
        rw [e3] at l25
        have bx5 := c5.bx
        have fr5 := c5.fr
        refine ⟨.ref lf, .ref l2, .list [panD g.1, stD g.2, .int (((ms ++ [g]).length : Int) - 1)], rfl, .lst (sqL lf5) (.cons (F5.dpan hp) (.cons (F5.dst hs) (.cons (.int _) .nil))), .lst (sqL l25) (.cons (F5.dpan hpn) (.cons (F5.dst hst) (.cons (.int _) .nil))), sd_find og.1 (sz_more og.2 (by omega)) _, fun H6 f6 => ⟨true, rfl, iteF ?_⟩⟩
        have c6 := c5.fr0 f6
        have F6 := F5.trans f6
        refine ⟨.int _, rfl, _, 8, rfl, rfl, (by show (0 : Int) < 8; decide), rfl, _, rfl, ?_⟩
        have fin : ∀ Hx, Core K T BC PC H b (i + 1) (400 + 50 * i + 45) a pl wl pgl (ys ++ [V.ref va]) ms g n Hx → ∃ z6, RI K T BC PC H b (i + 1) (400 + 50 * (i + 1)) z6 [some (.ref b), z1, some (.ref pgl), z3, z4, some (.ref a), some (.int (0 + (i : Int))), z7, z8, some (.ref lf), some pn, some st] Hx := fun Hx cx => ⟨_, a, pl, wl, pgl, _, ms, g, n, _, _, _, _, _, _, _, _, rfl, cx.moreM (by omega)⟩
        refine ite2 (fun _ => ?_) fun _ => fin H6 c6
        refine ⟨.ref a, rfl, .ref pgl, rfl, 1, rfl, pgl, _, -1, .ref va, rfl, rfl, sqL c6.pg, atI_last ys _, a, pl, wl, .ref va, ms, g, n, rfl, c6.bo, F6.dpg hv, og.1, sz_more og.2 (by omega), fun H7 f7 => ⟨true, rfl, iteF ?_⟩⟩
        have c7 := c6.fr0 f7
        have F7 := F6.trans f7
        refine ⟨.ref a, rfl, .ref pgl, rfl, 1, rfl, pgl, _, -1, .ref va, rfl, rfl, sqL c7.pg, atI_last ys _, a, pl, wl, .ref va, ms, g, n, rfl, c7.tb, c7.bo, F7.dpg hv, og.1, sz_more og.2 (by omega), by have := c.ml; omega, fun H8 f8 => ⟨true, rfl, iteF ?_⟩⟩
        exact fin H8 (c7.fr0 f8)
    · obtain ⟨z6, a', pl', wl', pgl', xs', ms', g', n', _, _, _, _, _, _, _, _, _, c⟩ := h
      exact q _ c.fr
end
end Ob

/-! LM: law -/
namespace Ob
open PySem PySem.Spec PyProof.Rows L2 LamX
section
variable {P : Program} {w : World} {K : PySem.W.Frag} {mg : Str → Option Value} {base : Heap} {BC PC : Addr} {T : List (Addr × Str)} {XL : Addr → Prop}
def sp_law (K : PySem.W.Frag) (T : List (Addr × Str)) : Sp := fun vs H Q _ => ∃ (a : Addr) (ns : List Int), vs = [.ref a] ∧ SqL K H a (ns.map V.int) ∧ Tabs T H ∧ ∀ H', Q (.bl true) H'
theorem fn_law {f : Addr} {fd : FuncData} (TX : Txt mg) (F : Fun K "law" "law" s_law f fd) (G_law_right : Gd P w K mg base CX0 12 "_law_right" ["_law_box_here"] (sp_right T)) (G_law_box : Gd P w K mg base CX0 2 "_law_box" ["_law_script", "_law_k"] (sp_box K T)) :
    FnOk P w K mg base CX0 13 f fd ["_law_script"] (sp_law K T) := by
  refine F.ok (k := 12) S_law (fun vs H Q E h => ?_) (fun cdv A outer s H vs Q E hr h => ?_)
  · obtain ⟨a, ns, rfl, _⟩ := h
    rfl
  · obtain ⟨a, ns, rfl, hS, hTb, q⟩ := h
    -- slots: 0:_law_script* 1:_law_k
    refine ⟨_, (pss_one (ps_ret (pe_callB (cr_all rfl) rfl TX.n_all (by decide +kernel) (pa_cons (pe_lc (own := [("_law_k", 1)]) rfl S_law.nd (pi_range1 rfl TX.n_range (pa_cons (pe_op op_add pe_int (pe_callB (call_min2 rfl) rfl TX.n_min (by decide +kernel) (pa_cons pe_int (pa_cons (pe_callB call_len_seq rfl TX.n_len (by decide +kernel) (pa_cons (pv 0) pa_nil)) pa_nil)))) pa_nil)) (blkOk_by (N := ["_law_script", "_law_k"]) (sc := defScope s_law) (by decide +kernel)) (fun _ _ _ _ _ => (pg_name (i := 1) S_law.nd rfl (Or.inl rfl))) (fun _ _ _ _ _ => pts_nil) (fun _ _ _ _ _ => (pcl G_law_right rfl (hr.mono (by decide)) p0 (pa_cons (pcl G_law_box rfl (hr.mono (by decide)) p0 (pa_cons (pv 0) (pa_cons (pv 1) pa_nil))) pa_nil)))) pa_nil)))), ?_⟩

    refine ⟨.ref a, rfl, a, ns.map V.int, rfl, .inl hS, 2, ((ns.map V.int).length : Int), rfl, ?_⟩
    refine ⟨1, _, rfl, rfl, _, rfl, ?_⟩
    have hj : ∀ j : Int, j = (if (((ns.map V.int).length : Nat) : Int) < 2 then (((ns.map V.int).length : Nat) : Int) else 2) → 0 ≤ j ∧ j ≤ 2 := fun j e => by split at e <;> omega
    have hj2 := hj _ rfl
    refine ⟨by omega, by omega, fun D hD => ?_⟩
    refine lc_range (Qd := fun H' => rAll K [.ref D] H' Q) (fun i H' => Fr T [] H H' ∧ H' D = some (.lst ((List.replicate i true).map V.bl))) ⟨Fr.refl.nw hD, upd_same⟩ (fun i H' hi h => ?_) (fun H' h => ?_)
    · obtain ⟨f, e⟩ := h
      refine ⟨rfl, ?_⟩
      simp only [tYes, if_true]
      refine ⟨.ref a, rfl, .int (0 + (i : Int)), rfl, a, ns, i, by rw [Int.zero_add], f.sqL hS, by omega, fun b H1 hb f1 bx1 => ?_⟩
      refine ⟨b, rfl, bx1, f1.tabs (f.tabs hTb), fun H2 f2 => ?_⟩
      have F2 : Fr T [] H' H2 := (f1.zero.trans f2).drop fun z hz => .inl (by rw [List.mem_singleton.mp hz]; exact hb)
      have e2 := F2.lst e
      refine ⟨_, e2, small _ (by rw [List.length_map, List.length_replicate]; omega), (f.trans F2).put (by rw [e2]; exact True.intro) (.inl hD), ?_⟩
      rw [upd_same, List.replicate_succ', List.map_append]
      rfl
    · obtain ⟨f, e⟩ := h
      refine ⟨D, _, rfl, sqL e, ?_⟩
      have t : ∀ n : Nat, (List.replicate n true).all id = true := fun n => by rw [List.all_replicate]; split <;> rfl
      rw [t]
      exact q H'
end
end Ob

/-! MA: the exceptions' __init__, as_of by a keyword, and how the facts are put together -/
namespace Ob
open PySem PySem.Spec PyProof.Rows L2 LamX
section
variable {P : Program} {w : World} {K : PySem.W.Frag} {mg : Str → Option Value} {base h : Heap} {BC PC : Addr} {T : List (Addr × Str)} {XL : Addr → Prop}
theorem fn_asOf {f : Addr} {fd : FuncData} (TX : Txt mg) (CF : Cf K BC PC) (F : Fun K "as_of" "Board.as_of" s_Board_as_of f fd) (EX : Exs P w K mg base XL)
    (G_Board_deeds : Gm P w K mg base CX0 1 BC "deeds" ["self"] (sp_deeds K BC PC)) (G_Board_panel : Gm P w K mg base CX0 2 BC "panel" ["self"] (sp_panel K BC PC)) (G_Board_state : Gm P w K mg base CX0 2 BC "state" ["self"] (sp_state K BC PC))
    (G_Board : Gk P w K mg base CX0 3 "Board" BC ["self", "panel", "state"] (sp_board K T BC PC)) : FnOk P w K mg base (L2.CX P w) 5 f fd ["self", "many"] (sp_asOf K T BC PC) := by
  obtain ⟨CN, nI, iI, bmB, GX_NoDeed⟩ := EX.noDeed
  refine F.okX (k := 4) S_Board_as_of (fun vs H Q E h => ?_) (fun cdv A outer s H vs Q E hr h => ?_)
  · obtain ⟨a, pl, wl, ms, g, n, k, rfl, _⟩ := h
    rfl
  · obtain ⟨a, pl, wl, ms, g, n, k, rfl, hB, hk, hl, q⟩ := h
    obtain ⟨⟨dx, vs, ws, h1, h2, h3, h4, h5⟩, ne⟩ := id hB
    -- slots: 0:self 1:many 2:other
    refine ⟨_, (pss_cons (ps_if (pt_not (pt_chain op_le op_le pe_int (pv 1) (pmt0 G_Board_deeds (hr.mono (by decide)) p0 (pv 0)))) (pss_one (prx GX_NoDeed rfl rfl (hr.mono (by decide)) tkE (pa_cons (pv 1) pa_nil))) pss_nil)
    (pss_cons (ps_set (i := 2) S_Board_as_of.nd rfl (Or.inl rfl) (pmk G_Board rfl (hr.mono (by decide)) (pa_cons (pmt0 G_Board_panel (hr.mono (by decide)) p0 (pv 0)) (pa_cons (pmt0 G_Board_state (hr.mono (by decide)) p0 (pv 0)) pa_nil))))
    (pss_cons (ps_fld (pv 2) (pe_slice sl_list (pe_fld (pv 0) rfl) po_none (po_some (pe_op op_add (pv 1) pe_int))) rfl)
    (pss_one (ps_ret (pv 2)))))), ?_⟩
    refine ⟨.int k, rfl, 0, k, rfl, rfl, _, rfl, ?_⟩
    rw [decide_eq_true (by omega)]
    refine iteT ⟨.ref a, rfl, a, dx, _, rfl, h1, rfl, a, pl, wl, _, n, rfl, hB, ?_⟩
    refine ⟨k, (((ms ++ [g]).length : Nat) : Int) - 1, rfl, rfl, _, rfl, ?_⟩
    rw [decide_eq_true (by rw [List.length_append]; simp; omega)]
    refine iteF ⟨.ref a, rfl, a, dx, _, rfl, h1, rfl, a, pl, wl, ms, g, n, rfl, hB, fun pv hpv => ?_⟩
    refine ⟨.ref a, rfl, a, dx, _, rfl, h1, rfl, a, pl, wl, ms, g, n, rfl, hB, fun sv hsv => ?_⟩
    intro o od no nod noe
    refine ⟨o, od, H, pv, sv, g.1, g.2, rfl, rfl, no, nod, noe, panL_of hpv, stL_of hsv, hl, fun pl' wl' H1 np nw f1 b1 => ⟨rfl, ?_⟩⟩
    obtain ⟨⟨dy, vs', ws', e1, e2, e3, e4, e5⟩, ne'⟩ := b1
    refine ⟨.ref a, rfl, a, BC, dx, _, _, rfl, f1.ins h1, CF.clB, CF.nPages, rfl, ?_⟩
    refine ⟨.int k, rfl, k, 1, rfl, rfl, (k : Int) + 1, rfl, ?_⟩
    refine ⟨pl, vs, rfl, sqL (f1.lst h2), fun c hc => ?_⟩
    have oc := upd_old (o := .lst (cutV vs none (some ((k : Int) + 1)))) hc _ _ e1
    refine ⟨.ref o, rfl, o, BC, dy, _, rfl, oc, CF.clB, CF.nPages, by show 2 < 1000; decide, ?_⟩
    have f2 : Fr T [] H (upd (upd H1 c (.lst (cutV vs none (some ((k : Int) + 1))))) o (.ins BC dy (putF "pages" (.ref c) [("pages", .ref pl'), ("words", .ref wl')]))) := (f1.nw hc).put (by rw [oc]; exact True.intro) (.inl no)
    have oc' : o ≠ c := ne_of oc upd_same (by intro z; cases z)
    have wo : wl' ≠ o := ne_of e4 e1 (by intro z; cases z)
    have wc : wl' ≠ c := ne_of_none e4 hc
    refine ⟨.ref o, rfl, q o c wl' _ no (f1.free hc) nw f2 ⟨⟨dy, cutV vs none (some ((k : Int) + 1)), ws', upd_same, ?_, ?_, ?_, e5⟩, wc.symm⟩⟩
    · rw [upd_ne oc'.symm, upd_same]
    · have ct : cutV vs none (some ((k : Int) + 1)) = vs.take (k + 1) := cut_take vs (k + 1)
      have z := paired_take (k + 1) (pages_fr h3 f2)
      rw [← ct] at z
      exact z
    · rw [upd_ne wo, upd_ne wc]
      exact e4

theorem gmk_asOf {f : Addr} {fd : FuncData} (TX : Txt mg) (CF : Cf K BC PC) (hm : Meth K BC "as_of" f) (hb : KwBinds K fd ["self", "many"] "many") (F : Fun K "as_of" "Board.as_of" s_Board_as_of f fd) (EX : Exs P w K mg base XL)
    (G_Board_deeds : Gm P w K mg base CX0 1 BC "deeds" ["self"] (sp_deeds K BC PC)) (G_Board_panel : Gm P w K mg base CX0 2 BC "panel" ["self"] (sp_panel K BC PC)) (G_Board_state : Gm P w K mg base CX0 2 BC "state" ["self"] (sp_state K BC PC))
    (G_Board : Gk P w K mg base CX0 3 "Board" BC ["self", "panel", "state"] (sp_board K T BC PC)) : GmK P w K mg base (L2.CX P w) 5 BC "as_of" "many" ["self", "many"] (sp_asOf K T BC PC) :=
  ⟨CF.clB, f, fd, hm, hb, fn_asOf TX CF F EX G_Board_deeds G_Board_panel G_Board_state G_Board⟩

abbrev s_SameSwitch_init : Stmt := inClass (top 1) 0
theorem S_SameSwitch_init : FnScope ["self", "switch"] ["self", "switch"] (defScope s_SameSwitch_init) := ⟨rfl, rfl, rfl, by decide +kernel, rfl, by decide +kernel, by decide +kernel⟩
theorem gx_SameSwitch {C fI : Addr} {fd : FuncData} (hB : mg "ValueError" = none) (g : mg "SameSwitch" = some (.ref C)) (vV : PySem.W.findCls K (.type "ValueError") (.type "type") "__init__" = some (.val (.builtin "ValueError.__init__"))) (T : XCls K C fI [.type "ValueError", .type "Exception", .type "BaseException", .type "object"] "ValueError.__new__" "switch") (F : Fun K "__init__" "SameSwitch.__init__" s_SameSwitch_init fI fd) :
    Gx P w K mg base 1 "SameSwitch" C "ValueError" "ValueError.__new__" "ValueError.__init__" [.type "ValueError", .type "Exception", .type "BaseException", .type "object"] "switch" ["self", "switch"] := by
  refine ⟨g, xb_Value, fI, fd, T, F.binds (fun _ _ _ _ _ _ us hl => match us, hl with | [_, _], _ => rfl), F.ok (k := 0) S_SameSwitch_init (fun vs H Q E h => ?_) (fun cdv A outer s H vs Q E hr h => ?_)⟩
  · obtain ⟨a, v, rfl, _⟩ := h
    rfl
  · have S := S_SameSwitch_init
    obtain ⟨a, v, rfl, ha, q⟩ := h
    exact ⟨_, pss_cons (ps_expr (pe_xin T xb_Value rfl hB rfl vV (pa_cons (pv 0) (pa_cons (pv 1) pa_nil)))) (pss_one (ps_xst T xb_Value (pv 0) (pv 1))), .ref a, rfl, v, rfl, a, [v], rfl, by show 1 ≤ 1000; decide, ha, v, rfl, .ref a, rfl, a, rfl, ha, q⟩

abbrev s_BadName_init : Stmt := inClass (top 2) 0
theorem S_BadName_init : FnScope ["self", "name"] ["self", "name"] (defScope s_BadName_init) := ⟨rfl, rfl, rfl, by decide +kernel, rfl, by decide +kernel, by decide +kernel⟩
theorem gx_BadName {C fI : Addr} {fd : FuncData} (hB : mg "ValueError" = none) (g : mg "BadName" = some (.ref C)) (vV : PySem.W.findCls K (.type "ValueError") (.type "type") "__init__" = some (.val (.builtin "ValueError.__init__"))) (T : XCls K C fI [.type "ValueError", .type "Exception", .type "BaseException", .type "object"] "ValueError.__new__" "name") (F : Fun K "__init__" "BadName.__init__" s_BadName_init fI fd) :
    Gx P w K mg base 1 "BadName" C "ValueError" "ValueError.__new__" "ValueError.__init__" [.type "ValueError", .type "Exception", .type "BaseException", .type "object"] "name" ["self", "name"] := by
  refine ⟨g, xb_Value, fI, fd, T, F.binds (fun _ _ _ _ _ _ us hl => match us, hl with | [_, _], _ => rfl), F.ok (k := 0) S_BadName_init (fun vs H Q E h => ?_) (fun cdv A outer s H vs Q E hr h => ?_)⟩
  · obtain ⟨a, v, rfl, _⟩ := h
    rfl
  · have S := S_BadName_init
    obtain ⟨a, v, rfl, ha, q⟩ := h
    exact ⟨_, pss_cons (ps_expr (pe_xin T xb_Value rfl hB rfl vV (pa_cons (pv 0) (pa_cons (pv 1) pa_nil)))) (pss_one (ps_xst T xb_Value (pv 0) (pv 1))), .ref a, rfl, v, rfl, a, [v], rfl, by show 1 ≤ 1000; decide, ha, v, rfl, .ref a, rfl, a, rfl, ha, q⟩

abbrev s_NoSwitch_init : Stmt := inClass (top 3) 0
theorem S_NoSwitch_init : FnScope ["self", "switch"] ["self", "switch"] (defScope s_NoSwitch_init) := ⟨rfl, rfl, rfl, by decide +kernel, rfl, by decide +kernel, by decide +kernel⟩
theorem gx_NoSwitch {C fI : Addr} {fd : FuncData} (hB : mg "LookupError" = none) (g : mg "NoSwitch" = some (.ref C)) (vV : PySem.W.findCls K (.type "LookupError") (.type "type") "__init__" = some (.val (.builtin "LookupError.__init__"))) (T : XCls K C fI [.type "LookupError", .type "Exception", .type "BaseException", .type "object"] "LookupError.__new__" "switch") (F : Fun K "__init__" "NoSwitch.__init__" s_NoSwitch_init fI fd) :
    Gx P w K mg base 1 "NoSwitch" C "LookupError" "LookupError.__new__" "LookupError.__init__" [.type "LookupError", .type "Exception", .type "BaseException", .type "object"] "switch" ["self", "switch"] := by
  refine ⟨g, xb_Lookup, fI, fd, T, F.binds (fun _ _ _ _ _ _ us hl => match us, hl with | [_, _], _ => rfl), F.ok (k := 0) S_NoSwitch_init (fun vs H Q E h => ?_) (fun cdv A outer s H vs Q E hr h => ?_)⟩
  · obtain ⟨a, v, rfl, _⟩ := h
    rfl
  · have S := S_NoSwitch_init
    obtain ⟨a, v, rfl, ha, q⟩ := h
    exact ⟨_, pss_cons (ps_expr (pe_xin T xb_Lookup rfl hB rfl vV (pa_cons (pv 0) (pa_cons (pv 1) pa_nil)))) (pss_one (ps_xst T xb_Lookup (pv 0) (pv 1))), .ref a, rfl, v, rfl, a, [v], rfl, by show 1 ≤ 1000; decide, ha, v, rfl, .ref a, rfl, a, rfl, ha, q⟩

abbrev s_NoPair_init : Stmt := inClass (top 4) 0
theorem S_NoPair_init : FnScope ["self", "pair"] ["self", "pair"] (defScope s_NoPair_init) := ⟨rfl, rfl, rfl, by decide +kernel, rfl, by decide +kernel, by decide +kernel⟩
theorem gx_NoPair {C fI : Addr} {fd : FuncData} (hB : mg "LookupError" = none) (g : mg "NoPair" = some (.ref C)) (vV : PySem.W.findCls K (.type "LookupError") (.type "type") "__init__" = some (.val (.builtin "LookupError.__init__"))) (T : XCls K C fI [.type "LookupError", .type "Exception", .type "BaseException", .type "object"] "LookupError.__new__" "pair") (F : Fun K "__init__" "NoPair.__init__" s_NoPair_init fI fd) :
    Gx P w K mg base 1 "NoPair" C "LookupError" "LookupError.__new__" "LookupError.__init__" [.type "LookupError", .type "Exception", .type "BaseException", .type "object"] "pair" ["self", "pair"] := by
  refine ⟨g, xb_Lookup, fI, fd, T, F.binds (fun _ _ _ _ _ _ us hl => match us, hl with | [_, _], _ => rfl), F.ok (k := 0) S_NoPair_init (fun vs H Q E h => ?_) (fun cdv A outer s H vs Q E hr h => ?_)⟩
  · obtain ⟨a, v, rfl, _⟩ := h
    rfl
  · have S := S_NoPair_init
    obtain ⟨a, v, rfl, ha, q⟩ := h
    exact ⟨_, pss_cons (ps_expr (pe_xin T xb_Lookup rfl hB rfl vV (pa_cons (pv 0) (pa_cons (pv 1) pa_nil)))) (pss_one (ps_xst T xb_Lookup (pv 0) (pv 1))), .ref a, rfl, v, rfl, a, [v], rfl, by show 1 ≤ 1000; decide, ha, v, rfl, .ref a, rfl, a, rfl, ha, q⟩

abbrev s_NoDeed_init : Stmt := inClass (top 5) 0
theorem S_NoDeed_init : FnScope ["self", "many"] ["self", "many"] (defScope s_NoDeed_init) := ⟨rfl, rfl, rfl, by decide +kernel, rfl, by decide +kernel, by decide +kernel⟩
theorem gx_NoDeed {C fI : Addr} {fd : FuncData} (hB : mg "LookupError" = none) (g : mg "NoDeed" = some (.ref C)) (vV : PySem.W.findCls K (.type "LookupError") (.type "type") "__init__" = some (.val (.builtin "LookupError.__init__"))) (T : XCls K C fI [.type "LookupError", .type "Exception", .type "BaseException", .type "object"] "LookupError.__new__" "many") (F : Fun K "__init__" "NoDeed.__init__" s_NoDeed_init fI fd) :
    Gx P w K mg base 1 "NoDeed" C "LookupError" "LookupError.__new__" "LookupError.__init__" [.type "LookupError", .type "Exception", .type "BaseException", .type "object"] "many" ["self", "many"] := by
  refine ⟨g, xb_Lookup, fI, fd, T, F.binds (fun _ _ _ _ _ _ us hl => match us, hl with | [_, _], _ => rfl), F.ok (k := 0) S_NoDeed_init (fun vs H Q E h => ?_) (fun cdv A outer s H vs Q E hr h => ?_)⟩
  · obtain ⟨a, v, rfl, _⟩ := h
    rfl
  · have S := S_NoDeed_init
    obtain ⟨a, v, rfl, ha, q⟩ := h
    exact ⟨_, pss_cons (ps_expr (pe_xin T xb_Lookup rfl hB rfl vV (pa_cons (pv 0) (pa_cons (pv 1) pa_nil)))) (pss_one (ps_xst T xb_Lookup (pv 0) (pv 1))), .ref a, rfl, v, rfl, a, [v], rfl, by show 1 ≤ 1000; decide, ha, v, rfl, .ref a, rfl, a, rfl, ha, q⟩

abbrev s_Taken_init : Stmt := inClass (top 6) 0
theorem S_Taken_init : FnScope ["self", "switch"] ["self", "switch"] (defScope s_Taken_init) := ⟨rfl, rfl, rfl, by decide +kernel, rfl, by decide +kernel, by decide +kernel⟩
theorem gx_Taken {C fI : Addr} {fd : FuncData} (hB : mg "RuntimeError" = none) (g : mg "Taken" = some (.ref C)) (vV : PySem.W.findCls K (.type "RuntimeError") (.type "type") "__init__" = some (.val (.builtin "RuntimeError.__init__"))) (T : XCls K C fI [.type "RuntimeError", .type "Exception", .type "BaseException", .type "object"] "RuntimeError.__new__" "switch") (F : Fun K "__init__" "Taken.__init__" s_Taken_init fI fd) :
    Gx P w K mg base 1 "Taken" C "RuntimeError" "RuntimeError.__new__" "RuntimeError.__init__" [.type "RuntimeError", .type "Exception", .type "BaseException", .type "object"] "switch" ["self", "switch"] := by
  refine ⟨g, xb_Runtime, fI, fd, T, F.binds (fun _ _ _ _ _ _ us hl => match us, hl with | [_, _], _ => rfl), F.ok (k := 0) S_Taken_init (fun vs H Q E h => ?_) (fun cdv A outer s H vs Q E hr h => ?_)⟩
  · obtain ⟨a, v, rfl, _⟩ := h
    rfl
  · have S := S_Taken_init
    obtain ⟨a, v, rfl, ha, q⟩ := h
    exact ⟨_, pss_cons (ps_expr (pe_xin T xb_Runtime rfl hB rfl vV (pa_cons (pv 0) (pa_cons (pv 1) pa_nil)))) (pss_one (ps_xst T xb_Runtime (pv 0) (pv 1))), .ref a, rfl, v, rfl, a, [v], rfl, by show 1 ≤ 1000; decide, ha, v, rfl, .ref a, rfl, a, rfl, ha, q⟩

abbrev s_Known_init : Stmt := inClass (top 7) 0
theorem S_Known_init : FnScope ["self", "pair"] ["self", "pair"] (defScope s_Known_init) := ⟨rfl, rfl, rfl, by decide +kernel, rfl, by decide +kernel, by decide +kernel⟩
theorem gx_Known {C fI : Addr} {fd : FuncData} (hB : mg "RuntimeError" = none) (g : mg "Known" = some (.ref C)) (vV : PySem.W.findCls K (.type "RuntimeError") (.type "type") "__init__" = some (.val (.builtin "RuntimeError.__init__"))) (T : XCls K C fI [.type "RuntimeError", .type "Exception", .type "BaseException", .type "object"] "RuntimeError.__new__" "pair") (F : Fun K "__init__" "Known.__init__" s_Known_init fI fd) :
    Gx P w K mg base 1 "Known" C "RuntimeError" "RuntimeError.__new__" "RuntimeError.__init__" [.type "RuntimeError", .type "Exception", .type "BaseException", .type "object"] "pair" ["self", "pair"] := by
  refine ⟨g, xb_Runtime, fI, fd, T, F.binds (fun _ _ _ _ _ _ us hl => match us, hl with | [_, _], _ => rfl), F.ok (k := 0) S_Known_init (fun vs H Q E h => ?_) (fun cdv A outer s H vs Q E hr h => ?_)⟩
  · obtain ⟨a, v, rfl, _⟩ := h
    rfl
  · have S := S_Known_init
    obtain ⟨a, v, rfl, ha, q⟩ := h
    exact ⟨_, pss_cons (ps_expr (pe_xin T xb_Runtime rfl hB rfl vV (pa_cons (pv 0) (pa_cons (pv 1) pa_nil)))) (pss_one (ps_xst T xb_Runtime (pv 0) (pv 1))), .ref a, rfl, v, rfl, a, [v], rfl, by show 1 ≤ 1000; decide, ha, v, rfl, .ref a, rfl, a, rfl, ha, q⟩

abbrev s_BothOn_init : Stmt := inClass (top 8) 0
theorem S_BothOn_init : FnScope ["self", "pair"] ["self", "pair"] (defScope s_BothOn_init) := ⟨rfl, rfl, rfl, by decide +kernel, rfl, by decide +kernel, by decide +kernel⟩
theorem gx_BothOn {C fI : Addr} {fd : FuncData} (hB : mg "RuntimeError" = none) (g : mg "BothOn" = some (.ref C)) (vV : PySem.W.findCls K (.type "RuntimeError") (.type "type") "__init__" = some (.val (.builtin "RuntimeError.__init__"))) (T : XCls K C fI [.type "RuntimeError", .type "Exception", .type "BaseException", .type "object"] "RuntimeError.__new__" "pair") (F : Fun K "__init__" "BothOn.__init__" s_BothOn_init fI fd) :
    Gx P w K mg base 1 "BothOn" C "RuntimeError" "RuntimeError.__new__" "RuntimeError.__init__" [.type "RuntimeError", .type "Exception", .type "BaseException", .type "object"] "pair" ["self", "pair"] := by
  refine ⟨g, xb_Runtime, fI, fd, T, F.binds (fun _ _ _ _ _ _ us hl => match us, hl with | [_, _], _ => rfl), F.ok (k := 0) S_BothOn_init (fun vs H Q E h => ?_) (fun cdv A outer s H vs Q E hr h => ?_)⟩
  · obtain ⟨a, v, rfl, _⟩ := h
    rfl
  · have S := S_BothOn_init
    obtain ⟨a, v, rfl, ha, q⟩ := h
    exact ⟨_, pss_cons (ps_expr (pe_xin T xb_Runtime rfl hB rfl vV (pa_cons (pv 0) (pa_cons (pv 1) pa_nil)))) (pss_one (ps_xst T xb_Runtime (pv 0) (pv 1))), .ref a, rfl, v, rfl, a, [v], rfl, by show 1 ≤ 1000; decide, ha, v, rfl, .ref a, rfl, a, rfl, ha, q⟩
end
end Ob

/-! MB: all put together -/
namespace Ob
open PySem PySem.Spec PyProof.Rows L2 LamX
section
variable {P : Program} {w : World} {K : PySem.W.Frag} {mg : Str → Option Value} {base h : Heap} {BC PC : Addr} {T : List (Addr × Str)} {XL : Addr → Prop}
theorem all_ok {c_exclude P_exclude c_allow P_allow c_add P_add c_remove P_remove c_press P_press c_run P_run c_undo P_undo f_asOf : Addr} {fd_asOf : FuncData} {f_law : Addr} {fd_law : FuncData} (TX : Txt mg) (CF : Cf K BC PC) (IB : IsB K BC) (XC : Caught K mg XL) (EX : Exs P w K mg base XL) (gBoard : mg "Board" = some (.ref BC))
    (hm_asOf : Meth K BC "as_of" f_asOf) (hb_asOf : Binds K fd_asOf ["self", "many"] []) (hk_asOf : KwBinds K fd_asOf ["self", "many"] "many") (F_asOf : Fun K "as_of" "Board.as_of" s_Board_as_of f_asOf fd_asOf) (F_law : Fun K "law" "law" s_law f_law fd_law)
    (D_is_name : Df K mg "is_name" "is_name" s_is_name ["thing"])
    (D_look : Df K mg "look_switches" "look_switches" s_look_switches ["panel", "switches"])
    (D_order : Df K mg "in_order" "in_order" s_in_order ["one", "other"])
    (D_withPress : Df K mg "with_press" "with_press" s_with_press ["rivals", "state", "switch"])
    (D_lost : Df K mg "lost" "lost" s_lost ["before", "after"])
    (D_table : Df K mg "rival_table" "rival_table" s_rival_table ["panel"])
    (D_lrivals : Df K mg "_law_rivals" "_law_rivals" s_law_rivals ["_law_panel_here"])
    (D_states : Df K mg "states_after" "states_after" s_states_after ["panel", "state", "history"])
    (D_lafter : Df K mg "_law_after" "_law_after" s_law_after ["_law_table", "_law_state_here", "_law_presses_here"])
    (D_page : Di K mg "Page" PC "Page.__init__" s_Page_init ["self", "panel", "state"])
    (D_now : Dm K BC "now" "Board.now" s_Board_now ["self"])
    (D_panel : Dm K BC "panel" "Board.panel" s_Board_panel ["self"])
    (D_state : Dm K BC "state" "Board.state" s_Board_state ["self"])
    (D_deeds : Dm K BC "deeds" "Board.deeds" s_Board_deeds ["self"])
    (D_turn : Dm K BC "turn" "Board.turn" s_Board_turn ["self", "panel", "state"])
    (D_board : DiD K mg "Board" BC "Board.__init__" s_Board_init ["self", "panel", "state"])
    (D_twin : Dm K BC "twin" "Board.twin" s_Board_twin ["self"])
    (D_eq : Dm K BC "__eq__" "Board.__eq__" s_Board_eq ["self", "other"])
    (D_excluded : Dm K BC "excluded" "Board.excluded" s_Board_excluded ["self", "one", "other"])
    (D_let : Dm K BC "let" "Board.let" s_Board_let ["self", "one", "other"])
    (D_added : Dm K BC "added" "Board.added" s_Board_added ["self", "switch"])
    (D_removed : Dm K BC "removed" "Board.removed" s_Board_removed ["self", "switch"])
    (D_gone : Dm K BC "gone" "Board.gone" s_Board_gone ["self", "history"])
    (D_back : Dm K BC "taken_back" "Board.taken_back" s_Board_taken_back ["self"])
    (D_exclude : Dl K BC "exclude" "Board.exclude" s_Board_exclude ["self", "one", "other"] c_exclude)
    (LT_exclude : Lt T base mg "Board.exclude" c_exclude P_exclude)
    (D_logged : Dm K BC "logged" "Board.logged" s_Board_logged ["self", "word", "work"])
    (D_allow : Dl K BC "allow" "Board.allow" s_Board_allow ["self", "one", "other"] c_allow)
    (LT_allow : Lt T base mg "Board.allow" c_allow P_allow)
    (D_add : Dl K BC "add" "Board.add" s_Board_add ["self", "switch"] c_add)
    (LT_add : Lt T base mg "Board.add" c_add P_add)
    (D_remove : Dl K BC "remove" "Board.remove" s_Board_remove ["self", "switch"] c_remove)
    (LT_remove : Lt T base mg "Board.remove" c_remove P_remove)
    (D_press : Dl K BC "press" "Board.press" s_Board_press ["self", "switch"] c_press)
    (LT_press : Lt T base mg "Board.press" c_press P_press)
    (D_run : Dl K BC "run" "Board.run" s_Board_run ["self", "history"] c_run)
    (LT_run : Lt T base mg "Board.run" c_run P_run)
    (D_undo : Dl K BC "undo" "Board.undo" s_Board_undo ["self"] c_undo)
    (LT_undo : Lt T base mg "Board.undo" c_undo P_undo)
    (D_cell : Df K mg "_law_cell_at" "_law_cell_at" s_law_cell_at ["_law_script", "_law_k"])
    (D_box : Df K mg "_law_box" "_law_box" s_law_box ["_law_script", "_law_k"])
    (D_take : Df K mg "_law_take" "_law_take" s_law_take ["_law_box_here", "_law_size"])
    (D_of : Df K mg "_law_of" "_law_of" s_law_of ["_law_box_here", "_law_some"])
    (D_strewn : Df K mg "_law_strewn" "_law_strewn" s_law_strewn ["_law_box_here", "_law_some"])
    (D_names : Df K mg "_law_names" "_law_names" s_law_names ["_law_box_here", "_law_size"])
    (D_lpanel : Df K mg "_law_panel" "_law_panel" s_law_panel ["_law_box_here", "_law_most"])
    (D_lpair : Df K mg "_law_pair" "_law_pair" s_law_pair ["_law_one", "_law_two"])
    (D_missing : Df K mg "_law_missing" "_law_missing" s_law_missing ["_law_panel_here", "_law_some"])
    (D_lis_name : Df K mg "_law_is_name" "_law_is_name" s_law_is_name ["_law_thing"])
    (D_runDue : Df K mg "_law_run_due" "_law_run_due" s_law_run_due ["_law_panel_here", "_law_state_here", "_law_presses_here"])
    (D_lstate : Df K mg "_law_state" "_law_state" s_law_state ["_law_box_here", "_law_panel_here"])
    (D_lpresses : Df K mg "_law_presses" "_law_presses" s_law_presses ["_law_box_here", "_law_panel_here", "_law_most"])
    (D_pairDue : Df K mg "_law_pair_due" "_law_pair_due" s_law_pair_due ["_law_page", "_law_word", "_law_some"])
    (D_due : Df K mg "_law_due" "_law_due" s_law_due ["_law_page", "_law_deed_here"])
    (D_done : Df K mg "_law_done" "_law_done" s_law_done ["_law_board", "_law_deed_here"])
    (D_told : Df K mg "_law_told" "_law_told" s_law_told ["_law_board", "_law_deed_here"])
    (D_ldeed : Df K mg "_law_deed" "_law_deed" s_law_deed ["_law_box_here", "_law_page"])
    (D_lists : Df K mg "_law_lists" "_law_lists" s_law_lists ["_law_thing"])
    (D_same : Df K mg "_law_same" "_law_same" s_law_same ["_law_told_here", "_law_due_here"])
    (D_equal : Df K mg "_law_equal_right" "_law_equal_right" s_law_equal_right ["_law_board", "_law_page"])
    (D_moved : Df K mg "_law_moved_right" "_law_moved_right" s_law_moved_right ["_law_board", "_law_page"])
    (D_doneRight : Df K mg "_law_done_right" "_law_done_right" s_law_done_right ["_law_board", "_law_pages", "_law_deed_here"])
    (D_right : Df K mg "_law_right" "_law_right" s_law_right ["_law_box_here"]) :
    FnOk P w K mg base CX0 13 f_law fd_law ["_law_script"] (sp_law K T) := by
  have G_is_name : Gd P w K mg base CX0 1 "is_name" ["thing"] (sp_isName T) := ok_is_name TX D_is_name
  obtain ⟨CN, nI, iI, bmB, xl, gx⟩ := EX.noSwitch
  have G_look_switches : ∃ CN, XL CN ∧ Gd P w K mg base (L2.CX P w) 3 "look_switches" ["panel", "switches"] (sp_look K T CN) := ⟨CN, xl, ok_look D_look gx⟩
  have G_in_order : Gd P w K mg base CX0 1 "in_order" ["one", "other"] (sp_order K T) := ok_order D_order
  have G_with_press : Gd P w K mg base CX0 1 "with_press" ["rivals", "state", "switch"] (sp_withPress K T) := ok_withPress TX D_withPress
  have G_lost : Gd P w K mg base CX0 1 "lost" ["before", "after"] (sp_lost K T) := ok_lost D_lost
  have G_rival_table : Gd P w K mg base CX0 1 "rival_table" ["panel"] (sp_table K T) := ok_table TX D_table
  have G_law_rivals : Gd P w K mg base CX0 1 "_law_rivals" ["_law_panel_here"] (sp_table K T) := ok_lrivals TX D_lrivals
  obtain ⟨CM, xm, gl⟩ := G_look_switches
  have G_look_switches : ∃ CN, XL CN ∧ Gd P w K mg base (L2.CX P w) 3 "look_switches" ["panel", "switches"] (sp_look K T CN) := ⟨CM, xm, gl⟩
  have G_states_after : ∃ CN, XL CN ∧ Gd P w K mg base (L2.CX P w) 4 "states_after" ["panel", "state", "history"] (sp_states K T CN) := ⟨CM, xm, ok_states TX D_states gl G_rival_table G_with_press⟩
  have G_law_after : Gd P w K mg base CX0 1 "_law_after" ["_law_table", "_law_state_here", "_law_presses_here"] (sp_lafter K T) := ok_lafter TX D_lafter
  have G_Page : Gk P w K mg base CX0 1 "Page" PC ["self", "panel", "state"] (sp_page K T PC) := ok_page TX CF D_page
  have G_Board_now : Gm P w K mg base CX0 1 BC "now" ["self"] (sp_now K BC PC) := ok_now CF D_now
  have G_Board_panel : Gm P w K mg base CX0 2 BC "panel" ["self"] (sp_panel K BC PC) := ok_panel CF D_panel G_Board_now
  have G_Board_state : Gm P w K mg base CX0 2 BC "state" ["self"] (sp_state K BC PC) := ok_state CF D_state G_Board_now
  have G_Board_deeds : Gm P w K mg base CX0 1 BC "deeds" ["self"] (sp_deeds K BC PC) := ok_deeds TX CF D_deeds
  have G_Board_turn : Gm P w K mg base CX0 3 BC "turn" ["self", "panel", "state"] (sp_turn K T BC PC) := ok_turn CF D_turn G_Page
  have G_Board : Gk P w K mg base CX0 3 "Board" BC ["self", "panel", "state"] (sp_board K T BC PC) := ok_board CF D_board G_Page
  have G_Board_as_of : Gm P w K mg base (L2.CX P w) 5 BC "as_of" ["self", "many"] (sp_asOf K T BC PC) := ok_asOf TX CF ⟨CF.clB, f_asOf, fd_asOf, hm_asOf, hb_asOf, F_asOf⟩ EX G_Board_deeds G_Board_panel G_Board_state G_Board
  have GK_as_of : GmK P w K mg base (L2.CX P w) 5 BC "as_of" "many" ["self", "many"] (sp_asOf K T BC PC) := gmk_asOf TX CF hm_asOf hk_asOf F_asOf EX G_Board_deeds G_Board_panel G_Board_state G_Board
  have G_Board_twin : Gm P w K mg base (L2.CX P w) 6 BC "twin" ["self"] (sp_twin K T BC PC) := ok_twin CF D_twin G_Board_deeds G_Board_as_of
  have G_Board_eq : Gm P w K mg base CX0 3 BC "__eq__" ["self", "other"] (sp_eq K T BC PC) := ok_eq TX gBoard IB D_eq G_Board_panel G_Board_state
  have G_Board_excluded : Gm P w K mg base (L2.CX P w) 4 BC "excluded" ["self", "one", "other"] (sp_step K T BC PC XL ar2 (fun _ => True) pEx) := ok_excluded TX D_excluded EX G_look_switches G_in_order G_Board_panel G_Board_state G_Board_turn
  have G_Board_let : Gm P w K mg base (L2.CX P w) 4 BC "let" ["self", "one", "other"] (sp_step K T BC PC XL ar2 (fun _ => True) pLet) := ok_let TX D_let EX G_look_switches G_in_order G_Board_panel G_Board_state G_Board_turn
  have G_Board_added : Gm P w K mg base (L2.CX P w) 4 BC "added" ["self", "switch"] (sp_step K T BC PC XL ar1 (fun x => x.length ≤ 1000) pAdd) := ok_added TX D_added EX G_is_name G_Board_panel G_Board_state G_Board_turn
  have G_Board_removed : Gm P w K mg base (L2.CX P w) 4 BC "removed" ["self", "switch"] (sp_step K T BC PC XL ar1 (fun _ => True) pRem) := ok_removed TX D_removed EX G_look_switches G_lost G_Board_panel G_Board_state G_Board_turn
  have G_Board_gone : Gm P w K mg base (L2.CX P w) 5 BC "gone" ["self", "history"] (sp_gone K T BC PC XL) := ok_gone TX D_gone G_states_after G_lost G_Board_panel G_Board_state G_Board_turn
  have G_Board_taken_back : Gm P w K mg base CX0 2 BC "taken_back" ["self"] (sp_back K T BC PC) := ok_back TX CF D_back G_Board_deeds
  have G_Board_exclude : Gm P w K mg base (L2.CX P w) 8 BC "exclude" ["self", "one", "other"] (sp_deed K T BC PC XL ar2 (fun _ => True) pEx) := ok_exclude TX CF D_exclude LT_exclude D_logged G_Board_excluded
  have G_Board_allow : Gm P w K mg base (L2.CX P w) 8 BC "allow" ["self", "one", "other"] (sp_deed K T BC PC XL ar2 (fun _ => True) pLet) := ok_allow TX CF D_allow LT_allow D_logged G_Board_let
  have G_Board_add : Gm P w K mg base (L2.CX P w) 8 BC "add" ["self", "switch"] (sp_deed K T BC PC XL ar1 (fun x => x.length ≤ 1000) pAdd) := ok_add TX CF D_add LT_add D_logged G_Board_added
  have G_Board_remove : Gm P w K mg base (L2.CX P w) 8 BC "remove" ["self", "switch"] (sp_deed K T BC PC XL ar1 (fun _ => True) pRem) := ok_remove TX CF D_remove LT_remove D_logged G_Board_removed
  have G_Board_press : Gm P w K mg base (L2.CX P w) 8 BC "press" ["self", "switch"] (sp_press K T BC PC XL) := ok_press TX CF D_press LT_press D_logged G_Board_gone
  have G_Board_run : Gm P w K mg base (L2.CX P w) 8 BC "run" ["self", "history"] (sp_run K T BC PC XL) := ok_run TX CF D_run LT_run D_logged G_Board_gone
  have G_Board_undo : Gm P w K mg base (L2.CX P w) 8 BC "undo" ["self"] (sp_undo K T BC PC) := ok_undo TX CF D_undo LT_undo D_logged G_Board_taken_back
  have G_law_cell_at : Gd P w K mg base CX0 1 "_law_cell_at" ["_law_script", "_law_k"] (sp_cell K) := ok_cell TX D_cell
  have G_law_box : Gd P w K mg base CX0 2 "_law_box" ["_law_script", "_law_k"] (sp_box K T) := ok_box TX D_box G_law_cell_at
  have G_law_take : Gd P w K mg base CX0 1 "_law_take" ["_law_box_here", "_law_size"] (sp_take T) := ok_take D_take
  have G_law_of : Gd P w K mg base CX0 2 "_law_of" ["_law_box_here", "_law_some"] (sp_of K T) := ok_of TX D_of G_law_take
  have G_law_strewn : Gd P w K mg base CX0 2 "_law_strewn" ["_law_box_here", "_law_some"] (sp_strewn K T) := ok_strewn TX D_strewn G_law_take
  have G_law_names : Gd P w K mg base CX0 3 "_law_names" ["_law_box_here", "_law_size"] (sp_names K T) := ok_names TX D_names G_law_strewn
  have G_law_panel : Gd P w K mg base CX0 4 "_law_panel" ["_law_box_here", "_law_most"] (sp_lpanel K T) := ok_lpanel TX D_lpanel G_law_take G_law_strewn G_law_names
  have G_law_pair : Gd P w K mg base CX0 1 "_law_pair" ["_law_one", "_law_two"] (sp_order K T) := ok_lpair TX D_lpair
  have G_law_missing : Gd P w K mg base CX0 1 "_law_missing" ["_law_panel_here", "_law_some"] (sp_missing K T) := ok_missing TX D_missing
  have G_law_is_name : Gd P w K mg base CX0 1 "_law_is_name" ["_law_thing"] (sp_isName T) := ok_lis_name TX D_lis_name
  have G_law_run_due : Gd P w K mg base CX0 2 "_law_run_due" ["_law_panel_here", "_law_state_here", "_law_presses_here"] (sp_runDue K T) := ok_runDue TX D_runDue G_law_rivals G_law_after
  have G_law_state : Gd P w K mg base CX0 3 "_law_state" ["_law_box_here", "_law_panel_here"] (sp_lstate K T) := ok_lstate TX D_lstate G_law_rivals G_law_strewn G_law_take
  have G_law_presses : Gd P w K mg base CX0 3 "_law_presses" ["_law_box_here", "_law_panel_here", "_law_most"] (sp_lpresses K T) := ok_lpresses TX D_lpresses G_law_of G_law_take
  have G_law_pair_due : Gd P w K mg base CX0 2 "_law_pair_due" ["_law_page", "_law_word", "_law_some"] (sp_pairDue K T) := ok_pairDue TX D_pairDue G_law_pair
  have G_law_due : Gd P w K mg base CX0 3 "_law_due" ["_law_page", "_law_deed_here"] (sp_due K T) := ok_due TX D_due G_law_is_name G_law_missing G_law_run_due G_law_pair_due
  have G_law_done : Gd P w K mg base (L2.CX P w) 9 "_law_done" ["_law_board", "_law_deed_here"] (sp_done K T BC PC XL) := ok_done D_done G_Board_press G_Board_run G_Board_exclude G_Board_allow G_Board_add G_Board_remove
  have G_law_told : Gd P w K mg base CX0 10 "_law_told" ["_law_board", "_law_deed_here"] (sp_told K T BC PC) := ok_told XC D_told G_law_done
  have G_law_deed : Gd P w K mg base CX0 4 "_law_deed" ["_law_box_here", "_law_page"] (sp_ldeed K T) := ok_ldeed TX D_ldeed G_law_take G_law_of G_law_presses
  have lists0 := ok_lists0 (P := P) (w := w) (base := base) (T := T) D_lists
  have lists1 := ok_lists1 TX D_lists lists0
  have lists2 := ok_lists1 TX D_lists lists1
  have lists3 := ok_lists1 TX D_lists lists2
  have lists4 := ok_lists1 TX D_lists lists3
  have lists5 := ok_lists1 TX D_lists lists4
  have lists6 := ok_lists1 TX D_lists lists5
  have same0 := ok_same0 (P := P) (w := w) (base := base) (T := T) D_same
  have same1 := ok_same1 TX D_same same0
  have same2 := ok_same1 TX D_same same1
  have same3 := ok_same1 TX D_same same2
  have same4 := ok_same1 TX D_same same3
  have same5 := ok_same1 TX D_same same4
  have same6 := ok_same1 TX D_same same5
  have G_law_equal_right : Gd P w K mg base CX0 5 "_law_equal_right" ["_law_board", "_law_page"] (sp_equal K T BC PC) := ok_equal TX D_equal G_Board G_Board_eq
  have G_law_moved_right : Gd P w K mg base CX0 9 "_law_moved_right" ["_law_board", "_law_page"] (sp_moved K T BC PC) := ok_moved D_moved G_Board_twin G_Board_press G_Board_state G_law_rivals G_law_after
  have G_law_done_right : Gd P w K mg base CX0 11 "_law_done_right" ["_law_board", "_law_pages", "_law_deed_here"] (sp_doneRight K T BC PC) := ok_doneRight TX D_doneRight G_law_due G_law_told ⟨same3.ex.imp fun f h => h.imp fun fd h => ⟨h.1, h.2.1, h.2.2.1, h.2.2.2.mono (by decide)⟩⟩
  have G_law_right : Gd P w K mg base CX0 12 "_law_right" ["_law_box_here"] (sp_right T) := ok_right TX D_right G_law_panel G_law_state lists4 G_Board G_law_take G_Board_undo GK_as_of G_Board_twin G_law_deed G_law_done_right G_Board_panel G_Board_state G_Board_deeds same6 G_law_equal_right G_law_moved_right
  exact fn_law TX F_law G_law_right G_law_box
end
end Ob

/-! MC: the facts of the written heap, as they are asked for -/
namespace Ob
open PySem PySem.Spec PyProof.Rows L2 LamX
/-- the function at f, in the written part -/
def FFn (K : PySem.W.Frag) (x q : Str) (st : Stmt) (f : Addr) : Prop := ∃ (oc : Value) (od : Option Addr) (osl : Array (Option Value)) (kV doc pm : Value) (an : Option Addr) (cdv ct : Value),
  K.lookup f = some ⟨oc, od, .func (PySem.W.fnOf x q (defArgs st) (defBody st) (defScope st) .none kV doc pm an cdv ct), osl⟩ ∧ PySem.W.codeIn K cdv q = true ∧ PySem.W.keepIn K (.ref f) = true
def FDf (K : PySem.W.Frag) (x q : Str) (st : Stmt) (f : Addr) : Prop := PySem.W.nsIn K mainGlobals x = some (some (.ref f)) ∧ FFn K x q st f
def FMe (K : PySem.W.Frag) (C : Addr) (m : Str) (f : Addr) : Prop := PySem.W.findIn K (.ref C) m = some (some (.ref f)) ∧ PySem.W.isFn K (.ref f) = true ∧ PySem.W.keepIn K (.ref f) = true
def FDm (K : PySem.W.Frag) (C : Addr) (m q : Str) (st : Stmt) (f : Addr) : Prop := FMe K C m f ∧ FFn K m q st f
def FDl (K : PySem.W.Frag) (C : Addr) (m q : Str) (st : Stmt) (f c P : Addr) : Prop := FMe K C m f ∧ (∃ (oc : Value) (od : Option Addr) (osl : Array (Option Value)) (kV doc pm : Value) (an : Option Addr) (ct : Value),
  K.lookup f = some ⟨oc, od, .func (PySem.W.fnOf m q (defArgs st) (defBody st) (defScope st) .none kV doc pm an (.ref c) ct), osl⟩ ∧ PySem.W.codeIn K (.ref c) q = true) ∧ PySem.W.codeHdIn K c P = true ∧ K.lookup P = none
/-- how n arguments bind -/
def BindsAs (x q : Str) (st : Stmt) (ps : List Str) : Prop := ∀ (kV doc pm : Value) (an : Option Addr) (cdv ct : Value) (us : List Value), us.length = ps.length → bindArgs (PySem.W.fnOf x q (defArgs st) (defBody st) (defScope st) .none kV doc pm an cdv ct) ⟨us, []⟩ = pure (ps.zip us)
section
variable {K : PySem.W.Frag} {mg : Str → Option Value} {h : Heap} {x m q : Str} {st : Stmt} {ps : List Str} {f C c P : Addr}
theorem FFn.fn (F : FFn K x q st f) : ∃ fd, Fun K x q st f fd := by
  obtain ⟨oc, od, osl, kV, doc, pm, an, cdv, ct, l, c, k⟩ := F
  exact ⟨_, fun_mk l c k⟩
theorem FDf.df (X : K.In h) (G : h.Ns mainGlobals mg) (F : FDf K x q st f) (b : BindsAs x q st ps) : Df K mg x q st ps := by
  obtain ⟨a, F⟩ := F
  have k := F
  obtain ⟨fd, F⟩ := F.fn
  exact ⟨f, fd, PySem.W.mg_of X G a, F.kp, F.binds b, F⟩
theorem FMe.meth (F : FMe K C m f) : Meth K C m f := ⟨F.1, F.2.1, F.2.2⟩
theorem FDm.dm (cl : Cls K C) (F : FDm K C m q st f) (b : BindsAs m q st ps) : Dm K C m q st ps := by
  obtain ⟨a, F⟩ := F
  obtain ⟨fd, F⟩ := F.fn
  exact ⟨cl, f, fd, a.meth, F.binds b, F⟩
theorem FDl.dl (cl : Cls K C) (F : FDl K C m q st f c P) (b : BindsAs m q st ps) : Dl K C m q st ps c := by
  obtain ⟨a, ⟨oc, od, osl, kV, doc, pm, an, ct, l, hc⟩, _⟩ := F
  exact ⟨cl, f, _, oc, od, kV, doc, pm, an, ct, osl, a.meth, (fun_mk l hc a.2.2).binds b, rfl, l, hc⟩
theorem FDl.hd {h : Heap} (X : K.In h) (F : FDl K C m q st f c P) : PySem.W.CodeHd h c P := PySem.W.codeHd_of_K X F.2.2.1
end
end Ob

/-! MF: Board's __init__ with its default; as_of by a keyword -/
namespace Ob
open PySem PySem.Spec PyProof.Rows L2 LamX
def FBi (K : PySem.W.Frag) (f : Addr) : Prop := ∃ (oc : Value) (od : Option Addr) (osl : Array (Option Value)) (T e : Addr) (n : Nat) (oc2 : Value) (od2 : Option Addr) (osl2 : Array (Option Value)) (kV doc pm : Value) (an : Option Addr) (cdv ct : Value),
  K.lookup f = some ⟨oc, od, .func (PySem.W.fnOf "__init__" "Board.__init__" (defArgs s_Board_init) (defBody s_Board_init) (defScope s_Board_init) (.ref T) kV doc pm an cdv ct), osl⟩ ∧ K.lookup T = some ⟨oc2, od2, .seq #[.ref e] n, osl2⟩ ∧ PySem.W.codeIn K cdv "Board.__init__" = true ∧ PySem.W.keepIn K (.ref f) = true
theorem did_board {K : PySem.W.Frag} {mg : Str → Option Value} {C f : Addr} (g : mg "Board" = some (.ref C)) (cl : Cls K C) (mk : Mk K C f) (b : FBi K f) : DiD K mg "Board" C "Board.__init__" s_Board_init ["self", "panel", "state"] := by
  obtain ⟨oc, od, osl, T, e, n, oc2, od2, osl2, kV, doc, pm, an, cdv, ct, l, lT, c, k⟩ := b
  have F : FunD K "__init__" "Board.__init__" (defArgs s_Board_init) (defBody s_Board_init) (defScope s_Board_init) [.ref e] [] f _ := ⟨⟨oc, od, .ref T, kV, doc, pm, an, cdv, ct, osl, rfl, l, c, .inr ⟨by simp, T, _, [.ref e], n, rfl, lT, rfl, .cons rfl .nil⟩, .inl rfl⟩, k⟩
  obtain ⟨ds, hv, hb⟩ := F.binds1 (ps := ["self", "panel", "state"]) 3 1 (by simp) rfl fun T kV doc pm an cdv ct us its hu hi => by
    match us, its, hu, hi with
    | [_, _, _], [_], _, _ => exact ⟨_, rfl, rfl⟩
  cases hv
  exact ⟨g, cl, f, _, _, mk, hb, F⟩
theorem asOf_of {K : PySem.W.Frag} {C f : Addr} (F : FDm K C "as_of" "Board.as_of" s_Board_as_of f) : ∃ fd, Meth K C "as_of" f ∧ Binds K fd ["self", "many"] [] ∧ KwBinds K fd ["self", "many"] "many" ∧ Fun K "as_of" "Board.as_of" s_Board_as_of f fd := by
  obtain ⟨a, oc, od, osl, kV, doc, pm, an, cdv, ct, l, c, k⟩ := F
  have F := fun_mk (st := s_Board_as_of) l c k
  exact ⟨_, a.meth, F.binds fun _ _ _ _ _ _ us hl => match us, hl with | [_, _], _ => rfl, fun s a u _ => .of_eq rfl, F⟩
end Ob

/-! MG: the law's head from the facts -/
namespace Ob
open PySem PySem.Spec PyProof.Rows L2 LamX
theorem fin_mk {l : PySem.W.OpenLaw} {w : World} {K : PySem.W.Frag} {mg : Str → Option Value} {h : Heap} {fa : Addr} {n : Nat} (X : K.In h) (G : h.Ns mainGlobals mg) (hfa : mg "law" = some (.ref fa)) (hT : ∀ P ∈ ([371, 364, 352, 338, 326, 312, 305] : List Addr), h.get? P = some (PySem.W.tabObj #[])) (bI : FBi K 263)
    (q_D_is_name : FDf K "is_name" "is_name" s_is_name 192)
    (q_D_look : FDf K "look_switches" "look_switches" s_look_switches 199)
    (q_D_order : FDf K "in_order" "in_order" s_in_order 211)
    (q_D_withPress : FDf K "with_press" "with_press" s_with_press 216)
    (q_D_lost : FDf K "lost" "lost" s_lost 247)
    (q_D_table : FDf K "rival_table" "rival_table" s_rival_table 204)
    (q_D_lrivals : FDf K "_law_rivals" "_law_rivals" s_law_rivals 501)
    (q_D_states : FDf K "states_after" "states_after" s_states_after 223)
    (q_D_lafter : FDf K "_law_after" "_law_after" s_law_after 516)
    (q_D_now : FDm K 435 "now" "Board.now" s_Board_now 270)
    (q_D_panel : FDm K 435 "panel" "Board.panel" s_Board_panel 277)
    (q_D_state : FDm K 435 "state" "Board.state" s_Board_state 284)
    (q_D_deeds : FDm K 435 "deeds" "Board.deeds" s_Board_deeds 390)
    (q_D_turn : FDm K 435 "turn" "Board.turn" s_Board_turn 291)
    (q_D_twin : FDm K 435 "twin" "Board.twin" s_Board_twin 404)
    (q_D_eq : FDm K 435 "__eq__" "Board.__eq__" s_Board_eq 418)
    (q_D_excluded : FDm K 435 "excluded" "Board.excluded" s_Board_excluded 324)
    (q_D_let : FDm K 435 "let" "Board.let" s_Board_let 336)
    (q_D_added : FDm K 435 "added" "Board.added" s_Board_added 350)
    (q_D_removed : FDm K 435 "removed" "Board.removed" s_Board_removed 362)
    (q_D_gone : FDm K 435 "gone" "Board.gone" s_Board_gone 303)
    (q_D_back : FDm K 435 "taken_back" "Board.taken_back" s_Board_taken_back 383)
    (q_D_exclude : FDl K 435 "exclude" "Board.exclude" s_Board_exclude 331 330 326)
    (q_D_logged : FDm K 435 "logged" "Board.logged" s_Board_logged 298)
    (q_D_allow : FDl K 435 "allow" "Board.allow" s_Board_allow 343 342 338)
    (q_D_add : FDl K 435 "add" "Board.add" s_Board_add 357 356 352)
    (q_D_remove : FDl K 435 "remove" "Board.remove" s_Board_remove 369 368 364)
    (q_D_press : FDl K 435 "press" "Board.press" s_Board_press 310 309 305)
    (q_D_run : FDl K 435 "run" "Board.run" s_Board_run 317 316 312)
    (q_D_undo : FDl K 435 "undo" "Board.undo" s_Board_undo 376 375 371)
    (q_D_cell : FDf K "_law_cell_at" "_law_cell_at" s_law_cell_at 446)
    (q_D_box : FDf K "_law_box" "_law_box" s_law_box 453)
    (q_D_take : FDf K "_law_take" "_law_take" s_law_take 460)
    (q_D_of : FDf K "_law_of" "_law_of" s_law_of 467)
    (q_D_strewn : FDf K "_law_strewn" "_law_strewn" s_law_strewn 484)
    (q_D_names : FDf K "_law_names" "_law_names" s_law_names 491)
    (q_D_lpanel : FDf K "_law_panel" "_law_panel" s_law_panel 496)
    (q_D_lpair : FDf K "_law_pair" "_law_pair" s_law_pair 523)
    (q_D_missing : FDf K "_law_missing" "_law_missing" s_law_missing 528)
    (q_D_lis_name : FDf K "_law_is_name" "_law_is_name" s_law_is_name 538)
    (q_D_runDue : FDf K "_law_run_due" "_law_run_due" s_law_run_due 533)
    (q_D_lstate : FDf K "_law_state" "_law_state" s_law_state 506)
    (q_D_lpresses : FDf K "_law_presses" "_law_presses" s_law_presses 511)
    (q_D_pairDue : FDf K "_law_pair_due" "_law_pair_due" s_law_pair_due 548)
    (q_D_due : FDf K "_law_due" "_law_due" s_law_due 543)
    (q_D_done : FDf K "_law_done" "_law_done" s_law_done 555)
    (q_D_told : FDf K "_law_told" "_law_told" s_law_told 562)
    (q_D_ldeed : FDf K "_law_deed" "_law_deed" s_law_deed 569)
    (q_D_lists : FDf K "_law_lists" "_law_lists" s_law_lists 477)
    (q_D_same : FDf K "_law_same" "_law_same" s_law_same 472)
    (q_D_equal : FDf K "_law_equal_right" "_law_equal_right" s_law_equal_right 574)
    (q_D_moved : FDf K "_law_moved_right" "_law_moved_right" s_law_moved_right 579)
    (q_D_doneRight : FDf K "_law_done_right" "_law_done_right" s_law_done_right 586)
    (q_D_right : FDf K "_law_right" "_law_right" s_law_right 593)
    (q_D_asOf : FDm K 435 "as_of" "Board.as_of" s_Board_as_of 397)
    (q_D_law : FDf K "law" "law" s_law 598)
    (q_D_page : FFn K "__init__" "Page.__init__" s_Page_init 235)
    (q_X_SameSwitch : FFn K "__init__" "SameSwitch.__init__" s_SameSwitch_init 28)
    (q_X_BadName : FFn K "__init__" "BadName.__init__" s_BadName_init 48)
    (q_X_NoSwitch : FFn K "__init__" "NoSwitch.__init__" s_NoSwitch_init 68)
    (q_X_NoPair : FFn K "__init__" "NoPair.__init__" s_NoPair_init 88)
    (q_X_NoDeed : FFn K "__init__" "NoDeed.__init__" s_NoDeed_init 108)
    (q_X_Taken : FFn K "__init__" "Taken.__init__" s_Taken_init 128)
    (q_X_Known : FFn K "__init__" "Known.__init__" s_Known_init 148)
    (q_X_BothOn : FFn K "__init__" "BothOn.__init__" s_BothOn_init 168)
    (r_pgB : PySem.W.plainGet K 435 Str.empty = true)
    (r_hdB : PySem.W.hasDictIn K 435 = true)
    (r_poB : PySem.W.plainOver K 435 = true)
    (r_saB : PySem.W.findIn K (.ref 435) "__setattr__" = some (some (.builtin "object.__setattr__")))
    (r_mkB : PySem.W.makesIn K 435 = true)
    (r_kcB : PySem.W.keepIn K (.ref 435) = true)
    (r_inB : PySem.W.findIn K (.ref 435) "__init__" = some (some (.ref 263)))
    (r_ifB : PySem.W.isFn K (.ref 263) = true)
    (r_pgP : PySem.W.plainGet K 238 Str.empty = true)
    (r_hdP : PySem.W.hasDictIn K 238 = true)
    (r_poP : PySem.W.plainOver K 238 = true)
    (r_saP : PySem.W.findIn K (.ref 238) "__setattr__" = some (some (.builtin "object.__setattr__")))
    (r_mkP : PySem.W.makesIn K 238 = true)
    (r_kcP : PySem.W.keepIn K (.ref 238) = true)
    (r_inP : PySem.W.findIn K (.ref 238) "__init__" = some (some (.ref 235)))
    (r_ifP : PySem.W.isFn K (.ref 235) = true)
    (r_gB : PySem.W.nsIn K mainGlobals "Board" = some (some (.ref 435)))
    (r_gP : PySem.W.nsIn K mainGlobals "Page" = some (some (.ref 238)))
    (r_n_pages : PySem.W.findIn K (.ref 435) "pages" = some none)
    (r_n_words : PySem.W.findIn K (.ref 435) "words" = some none)
    (r_n_layout : PySem.W.findIn K (.ref 238) "layout" = some none)
    (r_n_lit : PySem.W.findIn K (.ref 238) "lit" = some none)
    (r_ib_ha : PySem.W.findIn K (.ref 435) "__class__" = some (some (.builtin "object.__class__")))
    (r_ib_hn : PySem.W.specialIn K (.builtin "object.__class__") "__get__" = some (some (.builtin "getset_descriptor.__get__")))
    (r_ib_tk : PySem.W.takesIn K (.builtin "object.__class__") = some true)
    (r_ib_hm : PySem.W.mroIn K 435 (.type "object") = some true)
    (r_ib_k : PySem.W.kitOne K (.ref 435) (.ref 435) = some true)
    (r_z_isinstance : PySem.W.nsIn K mainGlobals "isinstance" = some none)
    (r_z_str : PySem.W.nsIn K mainGlobals "str" = some none)
    (r_z_len : PySem.W.nsIn K mainGlobals "len" = some none)
    (r_z_all : PySem.W.nsIn K mainGlobals "all" = some none)
    (r_z_any : PySem.W.nsIn K mainGlobals "any" = some none)
    (r_z_sorted : PySem.W.nsIn K mainGlobals "sorted" = some none)
    (r_z_tuple : PySem.W.nsIn K mainGlobals "tuple" = some none)
    (r_z_list : PySem.W.nsIn K mainGlobals "list" = some none)
    (r_z_dict : PySem.W.nsIn K mainGlobals "dict" = some none)
    (r_z_zip : PySem.W.nsIn K mainGlobals "zip" = some none)
    (r_z_abs : PySem.W.nsIn K mainGlobals "abs" = some none)
    (r_z_int : PySem.W.nsIn K mainGlobals "int" = some none)
    (r_z_bool : PySem.W.nsIn K mainGlobals "bool" = some none)
    (r_z_min : PySem.W.nsIn K mainGlobals "min" = some none)
    (r_z_max : PySem.W.nsIn K mainGlobals "max" = some none)
    (r_z_enumerate : PySem.W.nsIn K mainGlobals "enumerate" = some none)
    (r_z_range : PySem.W.nsIn K mainGlobals "range" = some none)
    (r_z_ValueError : PySem.W.nsIn K mainGlobals "ValueError" = some none)
    (r_z_LookupError : PySem.W.nsIn K mainGlobals "LookupError" = some none)
    (r_z_RuntimeError : PySem.W.nsIn K mainGlobals "RuntimeError" = some none)
    (r_g_LETTERS : ∃ t, PySem.W.nsIn K mainGlobals "LETTERS" = some (some (.str "abcdefghijklmnopqrstuvwxyz" t)))
    (r_g_MOST_LETTERS : ∃ t, PySem.W.nsIn K mainGlobals "MOST_LETTERS" = some (some (.int 6 t)))
    (r_g_IN : ∃ t, PySem.W.nsIn K mainGlobals "IN" = some (some (.str "in" t)))
    (r_g_OUT : ∃ t, PySem.W.nsIn K mainGlobals "OUT" = some (some (.str "out" t)))
    (r_xc_SameSwitch : XCls K 31 28 [.type "ValueError", .type "Exception", .type "BaseException", .type "object"] "ValueError.__new__" "switch")
    (r_xg_SameSwitch : PySem.W.nsIn K mainGlobals "SameSwitch" = some (some (.ref 31)))
    (r_xc_BadName : XCls K 51 48 [.type "ValueError", .type "Exception", .type "BaseException", .type "object"] "ValueError.__new__" "name")
    (r_xg_BadName : PySem.W.nsIn K mainGlobals "BadName" = some (some (.ref 51)))
    (r_xc_NoSwitch : XCls K 71 68 [.type "LookupError", .type "Exception", .type "BaseException", .type "object"] "LookupError.__new__" "switch")
    (r_xg_NoSwitch : PySem.W.nsIn K mainGlobals "NoSwitch" = some (some (.ref 71)))
    (r_xc_NoPair : XCls K 91 88 [.type "LookupError", .type "Exception", .type "BaseException", .type "object"] "LookupError.__new__" "pair")
    (r_xg_NoPair : PySem.W.nsIn K mainGlobals "NoPair" = some (some (.ref 91)))
    (r_xc_NoDeed : XCls K 111 108 [.type "LookupError", .type "Exception", .type "BaseException", .type "object"] "LookupError.__new__" "many")
    (r_xg_NoDeed : PySem.W.nsIn K mainGlobals "NoDeed" = some (some (.ref 111)))
    (r_xc_Taken : XCls K 131 128 [.type "RuntimeError", .type "Exception", .type "BaseException", .type "object"] "RuntimeError.__new__" "switch")
    (r_xg_Taken : PySem.W.nsIn K mainGlobals "Taken" = some (some (.ref 131)))
    (r_xc_Known : XCls K 151 148 [.type "RuntimeError", .type "Exception", .type "BaseException", .type "object"] "RuntimeError.__new__" "pair")
    (r_xg_Known : PySem.W.nsIn K mainGlobals "Known" = some (some (.ref 151)))
    (r_xc_BothOn : XCls K 171 168 [.type "RuntimeError", .type "Exception", .type "BaseException", .type "object"] "RuntimeError.__new__" "pair")
    (r_xg_BothOn : PySem.W.nsIn K mainGlobals "BothOn" = some (some (.ref 171)))
    (r_vV_ValueError : PySem.W.findCls K (.type "ValueError") (.type "type") "__init__" = some (.val (.builtin "ValueError.__init__")))
    (r_vV_LookupError : PySem.W.findCls K (.type "LookupError") (.type "type") "__init__" = some (.val (.builtin "LookupError.__init__")))
    (r_vV_RuntimeError : PySem.W.findCls K (.type "RuntimeError") (.type "type") "__init__" = some (.val (.builtin "RuntimeError.__init__")))
    (r_xg_LastSwitch : PySem.W.nsIn K mainGlobals "LastSwitch" = some (some (.ref 184)))
    (r_l_q : PySem.W.excIn K 184 [.type "RuntimeError", .type "Exception", .type "BaseException", .type "object"] "RuntimeError.__new__" = true)
    (r_l_k : PySem.W.keepIn K (.ref 184) = true)
    (r_l_b : PySem.W.subIn K (.ref 184) (.type "BaseException") = some true)
    (r_l_t : PySem.W.typeIn K (.ref 184) = some (.type "type"))
    (r_ca_51 : PySem.W.exmAny K (.ref 51) (([51, 171, 151, 184, 91, 71, 31, 131] : List Addr).map Value.ref) = some true)
    (r_ca_171 : PySem.W.exmAny K (.ref 171) (([51, 171, 151, 184, 91, 71, 31, 131] : List Addr).map Value.ref) = some true)
    (r_ca_151 : PySem.W.exmAny K (.ref 151) (([51, 171, 151, 184, 91, 71, 31, 131] : List Addr).map Value.ref) = some true)
    (r_ca_184 : PySem.W.exmAny K (.ref 184) (([51, 171, 151, 184, 91, 71, 31, 131] : List Addr).map Value.ref) = some true)
    (r_ca_91 : PySem.W.exmAny K (.ref 91) (([51, 171, 151, 184, 91, 71, 31, 131] : List Addr).map Value.ref) = some true)
    (r_ca_71 : PySem.W.exmAny K (.ref 71) (([51, 171, 151, 184, 91, 71, 31, 131] : List Addr).map Value.ref) = some true)
    (r_ca_31 : PySem.W.exmAny K (.ref 31) (([51, 171, 151, 184, 91, 71, 31, 131] : List Addr).map Value.ref) = some true)
    (r_ca_131 : PySem.W.exmAny K (.ref 131) (([51, 171, 151, 184, 91, 71, 31, 131] : List Addr).map Value.ref) = some true) :
    LamX.LawAtS l w K CX0 13 n "_law_script" mg fa h := by
  cases hfa.symm.trans (PySem.W.mg_of X G q_D_law.1)
  obtain ⟨fd, FL⟩ := q_D_law.2.fn
  have clB : Cls K 435 := ⟨r_pgB, r_hdB, r_poB, r_saB⟩
  have clP : Cls K 238 := ⟨r_pgP, r_hdP, r_poP, r_saP⟩
  have CF : Cf K 435 238 := ⟨clB, clP, r_n_pages, r_n_words, r_n_layout, r_n_lit⟩
  have TX : Txt mg := ⟨PySem.W.mg_none_of X G r_z_isinstance, PySem.W.mg_none_of X G r_z_str, PySem.W.mg_none_of X G r_z_len, PySem.W.mg_none_of X G r_z_all, PySem.W.mg_none_of X G r_z_any, PySem.W.mg_none_of X G r_z_sorted, PySem.W.mg_none_of X G r_z_tuple, PySem.W.mg_none_of X G r_z_list, PySem.W.mg_none_of X G r_z_dict, PySem.W.mg_none_of X G r_z_zip, PySem.W.mg_none_of X G r_z_abs, PySem.W.mg_none_of X G r_z_int, PySem.W.mg_none_of X G r_z_bool, PySem.W.mg_none_of X G r_z_min, PySem.W.mg_none_of X G r_z_max, PySem.W.mg_none_of X G r_z_enumerate, PySem.W.mg_none_of X G r_z_range, r_g_LETTERS.imp fun t h => PySem.W.mg_of X G h, r_g_MOST_LETTERS.imp fun t h => PySem.W.mg_of X G h, r_g_IN.imp fun t h => PySem.W.mg_of X G h, r_g_OUT.imp fun t h => PySem.W.mg_of X G h⟩
  have IB : IsB K 435 := ⟨fun H a dx fs e => .base (.ins e clB r_ib_ha r_ib_hn r_ib_tk r_ib_hm), r_ib_k⟩
  let XL : Addr → Prop := fun C => C ∈ ([51, 171, 151, 184, 91, 71, 31, 131] : List Addr)
  have XC : Caught K mg XL := ⟨51, 171, 151, 184, 91, 71, 31, 131, PySem.W.mg_of X G r_xg_BadName, PySem.W.mg_of X G r_xg_BothOn, PySem.W.mg_of X G r_xg_Known, PySem.W.mg_of X G r_xg_LastSwitch, PySem.W.mg_of X G r_xg_NoPair, PySem.W.mg_of X G r_xg_NoSwitch, PySem.W.mg_of X G r_xg_SameSwitch, PySem.W.mg_of X G r_xg_Taken, fun C hC => by
    simp only [XL, List.mem_cons, List.not_mem_nil, or_false] at hC
    rcases hC with rfl | rfl | rfl | rfl | rfl | rfl | rfl | rfl <;> assumption⟩
  obtain ⟨fA, mA, bA, kA, FA⟩ := asOf_of q_D_asOf
  have DB := did_board (PySem.W.mg_of X G r_gB) clB ⟨r_mkB, r_inB, r_ifB, r_kcB⟩ bI
  obtain ⟨fP, FP⟩ := q_D_page.fn
  have DP : Di K mg "Page" 238 "Page.__init__" s_Page_init ["self", "panel", "state"] := ⟨PySem.W.mg_of X G r_gP, clP, 235, fP, ⟨r_mkP, r_inP, r_ifP, r_kcP⟩, FP.binds fun _ _ _ _ _ _ us hl => match us, hl with | [_, _, _], _ => rfl, FP⟩
  obtain ⟨f_SameSwitch, F_SameSwitch⟩ := q_X_SameSwitch.fn
  obtain ⟨f_BadName, F_BadName⟩ := q_X_BadName.fn
  obtain ⟨f_NoSwitch, F_NoSwitch⟩ := q_X_NoSwitch.fn
  obtain ⟨f_NoPair, F_NoPair⟩ := q_X_NoPair.fn
  obtain ⟨f_NoDeed, F_NoDeed⟩ := q_X_NoDeed.fn
  obtain ⟨f_Taken, F_Taken⟩ := q_X_Taken.fn
  obtain ⟨f_Known, F_Known⟩ := q_X_Known.fn
  obtain ⟨f_BothOn, F_BothOn⟩ := q_X_BothOn.fn
  refine ⟨fd, [(330, 326), (342, 338), (356, 352), (368, 364), (309, 305), (316, 312), (375, 371)], sp_law K [(326, lq "Board.exclude"), (338, lq "Board.allow"), (352, lq "Board.add"), (364, lq "Board.remove"), (305, lq "Board.press"), (312, lq "Board.run"), (371, lq "Board.undo")], fun p hp => hT p.2 ?_, ?_, ?_, fun s u => ?_, fun H a ns _ _ hH hS => ⟨a, ns, rfl, hS, ?_, fun _ => rfl⟩, fun base XB GB hTb => ?_⟩
  · revert p; decide
  · intro p hp; revert p; simp only [List.forall_mem_cons, List.not_mem_nil, false_imp_iff, implies_true, and_true]; exact ⟨q_D_exclude.2.2.2, q_D_allow.2.2.2, q_D_add.2.2.2, q_D_remove.2.2.2, q_D_press.2.2.2, q_D_run.2.2.2, q_D_undo.2.2.2⟩
  · intro p hp; revert p; simp only [List.forall_mem_cons, List.not_mem_nil, false_imp_iff, implies_true, and_true]; exact ⟨q_D_exclude.hd X, q_D_allow.hd X, q_D_add.hd X, q_D_remove.hd X, q_D_press.hd X, q_D_run.hd X, q_D_undo.hd X⟩
  · obtain ⟨oc, od, kV, doc, pm, an, cdv, ct, osl, rfl, lk, hcd⟩ := FL.ex
    exact .of_eq rfl
  · intro p hp; revert p; simp only [List.forall_mem_cons, List.not_mem_nil, false_imp_iff, implies_true, and_true]; exact ⟨TabS.nil (hH (330, 326) (by decide)), TabS.nil (hH (342, 338) (by decide)), TabS.nil (hH (356, 352) (by decide)), TabS.nil (hH (368, 364) (by decide)), TabS.nil (hH (309, 305) (by decide)), TabS.nil (hH (316, 312) (by decide)), TabS.nil (hH (375, 371) (by decide))⟩
  · have EX : Exs l.prog w K mg base XL := ⟨⟨71, _, _, _, by decide, gx_NoSwitch (PySem.W.mg_none_of X G r_z_LookupError) (PySem.W.mg_of X G r_xg_NoSwitch) r_vV_LookupError r_xc_NoSwitch F_NoSwitch⟩,
      ⟨31, _, _, _, by decide, gx_SameSwitch (PySem.W.mg_none_of X G r_z_ValueError) (PySem.W.mg_of X G r_xg_SameSwitch) r_vV_ValueError r_xc_SameSwitch F_SameSwitch⟩,
      ⟨51, _, _, _, by decide, gx_BadName (PySem.W.mg_none_of X G r_z_ValueError) (PySem.W.mg_of X G r_xg_BadName) r_vV_ValueError r_xc_BadName F_BadName⟩,
      ⟨91, _, _, _, by decide, gx_NoPair (PySem.W.mg_none_of X G r_z_LookupError) (PySem.W.mg_of X G r_xg_NoPair) r_vV_LookupError r_xc_NoPair F_NoPair⟩,
      ⟨131, _, _, _, by decide, gx_Taken (PySem.W.mg_none_of X G r_z_RuntimeError) (PySem.W.mg_of X G r_xg_Taken) r_vV_RuntimeError r_xc_Taken F_Taken⟩,
      ⟨151, _, _, _, by decide, gx_Known (PySem.W.mg_none_of X G r_z_RuntimeError) (PySem.W.mg_of X G r_xg_Known) r_vV_RuntimeError r_xc_Known F_Known⟩,
      ⟨171, _, _, _, by decide, gx_BothOn (PySem.W.mg_none_of X G r_z_RuntimeError) (PySem.W.mg_of X G r_xg_BothOn) r_vV_RuntimeError r_xc_BothOn F_BothOn⟩,
      ⟨184, _, _, _, _, by decide, PySem.W.mg_of X G r_xg_LastSwitch, xb_Runtime.fb, r_l_q, r_l_k, r_l_b, r_l_t⟩,
      ⟨111, _, _, _, gx_NoDeed (PySem.W.mg_none_of X G r_z_LookupError) (PySem.W.mg_of X G r_xg_NoDeed) r_vV_LookupError r_xc_NoDeed F_NoDeed⟩⟩
    exact all_ok TX CF IB XC EX (PySem.W.mg_of X G r_gB) mA bA kA FA FL (q_D_is_name.df X G (fun _ _ _ _ _ _ us hl => match us, hl with | [_], _ => rfl))
      (q_D_look.df X G (fun _ _ _ _ _ _ us hl => match us, hl with | [_, _], _ => rfl))
      (q_D_order.df X G (fun _ _ _ _ _ _ us hl => match us, hl with | [_, _], _ => rfl))
      (q_D_withPress.df X G (fun _ _ _ _ _ _ us hl => match us, hl with | [_, _, _], _ => rfl))
      (q_D_lost.df X G (fun _ _ _ _ _ _ us hl => match us, hl with | [_, _], _ => rfl))
      (q_D_table.df X G (fun _ _ _ _ _ _ us hl => match us, hl with | [_], _ => rfl))
      (q_D_lrivals.df X G (fun _ _ _ _ _ _ us hl => match us, hl with | [_], _ => rfl))
      (q_D_states.df X G (fun _ _ _ _ _ _ us hl => match us, hl with | [_, _, _], _ => rfl))
      (q_D_lafter.df X G (fun _ _ _ _ _ _ us hl => match us, hl with | [_, _, _], _ => rfl))
      DP
      (q_D_now.dm clB (fun _ _ _ _ _ _ us hl => match us, hl with | [_], _ => rfl))
      (q_D_panel.dm clB (fun _ _ _ _ _ _ us hl => match us, hl with | [_], _ => rfl))
      (q_D_state.dm clB (fun _ _ _ _ _ _ us hl => match us, hl with | [_], _ => rfl))
      (q_D_deeds.dm clB (fun _ _ _ _ _ _ us hl => match us, hl with | [_], _ => rfl))
      (q_D_turn.dm clB (fun _ _ _ _ _ _ us hl => match us, hl with | [_, _, _], _ => rfl))
      DB
      (q_D_twin.dm clB (fun _ _ _ _ _ _ us hl => match us, hl with | [_], _ => rfl))
      (q_D_eq.dm clB (fun _ _ _ _ _ _ us hl => match us, hl with | [_, _], _ => rfl))
      (q_D_excluded.dm clB (fun _ _ _ _ _ _ us hl => match us, hl with | [_, _, _], _ => rfl))
      (q_D_let.dm clB (fun _ _ _ _ _ _ us hl => match us, hl with | [_, _, _], _ => rfl))
      (q_D_added.dm clB (fun _ _ _ _ _ _ us hl => match us, hl with | [_, _], _ => rfl))
      (q_D_removed.dm clB (fun _ _ _ _ _ _ us hl => match us, hl with | [_, _], _ => rfl))
      (q_D_gone.dm clB (fun _ _ _ _ _ _ us hl => match us, hl with | [_, _], _ => rfl))
      (q_D_back.dm clB (fun _ _ _ _ _ _ us hl => match us, hl with | [_], _ => rfl))
      (q_D_exclude.dl clB (fun _ _ _ _ _ _ us hl => match us, hl with | [_, _, _], _ => rfl))
      ⟨hTb (330, 326) (by decide), by simp, by decide⟩
      (q_D_logged.dm clB (fun _ _ _ _ _ _ us hl => match us, hl with | [_, _, _], _ => rfl))
      (q_D_allow.dl clB (fun _ _ _ _ _ _ us hl => match us, hl with | [_, _, _], _ => rfl))
      ⟨hTb (342, 338) (by decide), by simp, by decide⟩
      (q_D_add.dl clB (fun _ _ _ _ _ _ us hl => match us, hl with | [_, _], _ => rfl))
      ⟨hTb (356, 352) (by decide), by simp, by decide⟩
      (q_D_remove.dl clB (fun _ _ _ _ _ _ us hl => match us, hl with | [_, _], _ => rfl))
      ⟨hTb (368, 364) (by decide), by simp, by decide⟩
      (q_D_press.dl clB (fun _ _ _ _ _ _ us hl => match us, hl with | [_, _], _ => rfl))
      ⟨hTb (309, 305) (by decide), by simp, by decide⟩
      (q_D_run.dl clB (fun _ _ _ _ _ _ us hl => match us, hl with | [_, _], _ => rfl))
      ⟨hTb (316, 312) (by decide), by simp, by decide⟩
      (q_D_undo.dl clB (fun _ _ _ _ _ _ us hl => match us, hl with | [_], _ => rfl))
      ⟨hTb (375, 371) (by decide), by simp, by decide⟩
      (q_D_cell.df X G (fun _ _ _ _ _ _ us hl => match us, hl with | [_, _], _ => rfl))
      (q_D_box.df X G (fun _ _ _ _ _ _ us hl => match us, hl with | [_, _], _ => rfl))
      (q_D_take.df X G (fun _ _ _ _ _ _ us hl => match us, hl with | [_, _], _ => rfl))
      (q_D_of.df X G (fun _ _ _ _ _ _ us hl => match us, hl with | [_, _], _ => rfl))
      (q_D_strewn.df X G (fun _ _ _ _ _ _ us hl => match us, hl with | [_, _], _ => rfl))
      (q_D_names.df X G (fun _ _ _ _ _ _ us hl => match us, hl with | [_, _], _ => rfl))
      (q_D_lpanel.df X G (fun _ _ _ _ _ _ us hl => match us, hl with | [_, _], _ => rfl))
      (q_D_lpair.df X G (fun _ _ _ _ _ _ us hl => match us, hl with | [_, _], _ => rfl))
      (q_D_missing.df X G (fun _ _ _ _ _ _ us hl => match us, hl with | [_, _], _ => rfl))
      (q_D_lis_name.df X G (fun _ _ _ _ _ _ us hl => match us, hl with | [_], _ => rfl))
      (q_D_runDue.df X G (fun _ _ _ _ _ _ us hl => match us, hl with | [_, _, _], _ => rfl))
      (q_D_lstate.df X G (fun _ _ _ _ _ _ us hl => match us, hl with | [_, _], _ => rfl))
      (q_D_lpresses.df X G (fun _ _ _ _ _ _ us hl => match us, hl with | [_, _, _], _ => rfl))
      (q_D_pairDue.df X G (fun _ _ _ _ _ _ us hl => match us, hl with | [_, _, _], _ => rfl))
      (q_D_due.df X G (fun _ _ _ _ _ _ us hl => match us, hl with | [_, _], _ => rfl))
      (q_D_done.df X G (fun _ _ _ _ _ _ us hl => match us, hl with | [_, _], _ => rfl))
      (q_D_told.df X G (fun _ _ _ _ _ _ us hl => match us, hl with | [_, _], _ => rfl))
      (q_D_ldeed.df X G (fun _ _ _ _ _ _ us hl => match us, hl with | [_, _], _ => rfl))
      (q_D_lists.df X G (fun _ _ _ _ _ _ us hl => match us, hl with | [_], _ => rfl))
      (q_D_same.df X G (fun _ _ _ _ _ _ us hl => match us, hl with | [_, _], _ => rfl))
      (q_D_equal.df X G (fun _ _ _ _ _ _ us hl => match us, hl with | [_, _], _ => rfl))
      (q_D_moved.df X G (fun _ _ _ _ _ _ us hl => match us, hl with | [_, _], _ => rfl))
      (q_D_doneRight.df X G (fun _ _ _ _ _ _ us hl => match us, hl with | [_, _, _], _ => rfl))
      (q_D_right.df X G (fun _ _ _ _ _ _ us hl => match us, hl with | [_], _ => rfl))
end Ob

set_option maxHeartbeats 0
open PySem PySem.W PyProof.Rows
theorem PySem.Challenge.cw_offbyon_k31_whole_a_board_beside_own_pag_holds : PySem.Challenge.rw_offbyon_k31_whole_a_board_beside_own_pag.Holds := by
  w_on; o_law; k_head; (case hw => w_witness2)
  k_fill
  refine LamX.walk_ofTs (k := 13) (CX := fun _ => L2.CX0) (x := "_law_script") rfl (by decide) rfl ⟨rfl, by decide, by decide⟩ (fun w h Y => PySem.W.km_in_of Y) ?F (fun _ _ _ _ _ z => z)
  case F =>
    intro w mg fa h Y KX G hmg
    exact Ob.fin_mk KX G hmg (PySem.W.km_tabs_of Y) (⟨_, _, _, _, _, _, _, _, _, _, _, _, _, _, _, rfl, rfl, by kernel_rfl, by kernel_rfl⟩)
      (⟨by kernel_rfl, ⟨_, _, _, _, _, _, _, _, _, rfl, by kernel_rfl, by kernel_rfl⟩⟩)
      (⟨by kernel_rfl, ⟨_, _, _, _, _, _, _, _, _, rfl, by kernel_rfl, by kernel_rfl⟩⟩)
      (⟨by kernel_rfl, ⟨_, _, _, _, _, _, _, _, _, rfl, by kernel_rfl, by kernel_rfl⟩⟩)
      (⟨by kernel_rfl, ⟨_, _, _, _, _, _, _, _, _, rfl, by kernel_rfl, by kernel_rfl⟩⟩)
      (⟨by kernel_rfl, ⟨_, _, _, _, _, _, _, _, _, rfl, by kernel_rfl, by kernel_rfl⟩⟩)
      (⟨by kernel_rfl, ⟨_, _, _, _, _, _, _, _, _, rfl, by kernel_rfl, by kernel_rfl⟩⟩)
      (⟨by kernel_rfl, ⟨_, _, _, _, _, _, _, _, _, rfl, by kernel_rfl, by kernel_rfl⟩⟩)
      (⟨by kernel_rfl, ⟨_, _, _, _, _, _, _, _, _, rfl, by kernel_rfl, by kernel_rfl⟩⟩)
      (⟨by kernel_rfl, ⟨_, _, _, _, _, _, _, _, _, rfl, by kernel_rfl, by kernel_rfl⟩⟩)
      (⟨⟨by kernel_rfl, by kernel_rfl, by kernel_rfl⟩, ⟨_, _, _, _, _, _, _, _, _, rfl, by kernel_rfl, by kernel_rfl⟩⟩)
      (⟨⟨by kernel_rfl, by kernel_rfl, by kernel_rfl⟩, ⟨_, _, _, _, _, _, _, _, _, rfl, by kernel_rfl, by kernel_rfl⟩⟩)
      (⟨⟨by kernel_rfl, by kernel_rfl, by kernel_rfl⟩, ⟨_, _, _, _, _, _, _, _, _, rfl, by kernel_rfl, by kernel_rfl⟩⟩)
      (⟨⟨by kernel_rfl, by kernel_rfl, by kernel_rfl⟩, ⟨_, _, _, _, _, _, _, _, _, rfl, by kernel_rfl, by kernel_rfl⟩⟩)
      (⟨⟨by kernel_rfl, by kernel_rfl, by kernel_rfl⟩, ⟨_, _, _, _, _, _, _, _, _, rfl, by kernel_rfl, by kernel_rfl⟩⟩)
      (⟨⟨by kernel_rfl, by kernel_rfl, by kernel_rfl⟩, ⟨_, _, _, _, _, _, _, _, _, rfl, by kernel_rfl, by kernel_rfl⟩⟩)
      (⟨⟨by kernel_rfl, by kernel_rfl, by kernel_rfl⟩, ⟨_, _, _, _, _, _, _, _, _, rfl, by kernel_rfl, by kernel_rfl⟩⟩)
      (⟨⟨by kernel_rfl, by kernel_rfl, by kernel_rfl⟩, ⟨_, _, _, _, _, _, _, _, _, rfl, by kernel_rfl, by kernel_rfl⟩⟩)
      (⟨⟨by kernel_rfl, by kernel_rfl, by kernel_rfl⟩, ⟨_, _, _, _, _, _, _, _, _, rfl, by kernel_rfl, by kernel_rfl⟩⟩)
      (⟨⟨by kernel_rfl, by kernel_rfl, by kernel_rfl⟩, ⟨_, _, _, _, _, _, _, _, _, rfl, by kernel_rfl, by kernel_rfl⟩⟩)
      (⟨⟨by kernel_rfl, by kernel_rfl, by kernel_rfl⟩, ⟨_, _, _, _, _, _, _, _, _, rfl, by kernel_rfl, by kernel_rfl⟩⟩)
      (⟨⟨by kernel_rfl, by kernel_rfl, by kernel_rfl⟩, ⟨_, _, _, _, _, _, _, _, _, rfl, by kernel_rfl, by kernel_rfl⟩⟩)
      (⟨⟨by kernel_rfl, by kernel_rfl, by kernel_rfl⟩, ⟨_, _, _, _, _, _, _, _, _, rfl, by kernel_rfl, by kernel_rfl⟩⟩)
      (⟨⟨by kernel_rfl, by kernel_rfl, by kernel_rfl⟩, ⟨_, _, _, _, _, _, _, _, rfl, by kernel_rfl⟩, by kernel_rfl, by kernel_rfl⟩)
      (⟨⟨by kernel_rfl, by kernel_rfl, by kernel_rfl⟩, ⟨_, _, _, _, _, _, _, _, _, rfl, by kernel_rfl, by kernel_rfl⟩⟩)
      (⟨⟨by kernel_rfl, by kernel_rfl, by kernel_rfl⟩, ⟨_, _, _, _, _, _, _, _, rfl, by kernel_rfl⟩, by kernel_rfl, by kernel_rfl⟩)
      (⟨⟨by kernel_rfl, by kernel_rfl, by kernel_rfl⟩, ⟨_, _, _, _, _, _, _, _, rfl, by kernel_rfl⟩, by kernel_rfl, by kernel_rfl⟩)
      (⟨⟨by kernel_rfl, by kernel_rfl, by kernel_rfl⟩, ⟨_, _, _, _, _, _, _, _, rfl, by kernel_rfl⟩, by kernel_rfl, by kernel_rfl⟩)
      (⟨⟨by kernel_rfl, by kernel_rfl, by kernel_rfl⟩, ⟨_, _, _, _, _, _, _, _, rfl, by kernel_rfl⟩, by kernel_rfl, by kernel_rfl⟩)
      (⟨⟨by kernel_rfl, by kernel_rfl, by kernel_rfl⟩, ⟨_, _, _, _, _, _, _, _, rfl, by kernel_rfl⟩, by kernel_rfl, by kernel_rfl⟩)
      (⟨⟨by kernel_rfl, by kernel_rfl, by kernel_rfl⟩, ⟨_, _, _, _, _, _, _, _, rfl, by kernel_rfl⟩, by kernel_rfl, by kernel_rfl⟩)
      (⟨by kernel_rfl, ⟨_, _, _, _, _, _, _, _, _, rfl, by kernel_rfl, by kernel_rfl⟩⟩)
      (⟨by kernel_rfl, ⟨_, _, _, _, _, _, _, _, _, rfl, by kernel_rfl, by kernel_rfl⟩⟩)
      (⟨by kernel_rfl, ⟨_, _, _, _, _, _, _, _, _, rfl, by kernel_rfl, by kernel_rfl⟩⟩)
      (⟨by kernel_rfl, ⟨_, _, _, _, _, _, _, _, _, rfl, by kernel_rfl, by kernel_rfl⟩⟩)
      (⟨by kernel_rfl, ⟨_, _, _, _, _, _, _, _, _, rfl, by kernel_rfl, by kernel_rfl⟩⟩)
      (⟨by kernel_rfl, ⟨_, _, _, _, _, _, _, _, _, rfl, by kernel_rfl, by kernel_rfl⟩⟩)
      (⟨by kernel_rfl, ⟨_, _, _, _, _, _, _, _, _, rfl, by kernel_rfl, by kernel_rfl⟩⟩)
      (⟨by kernel_rfl, ⟨_, _, _, _, _, _, _, _, _, rfl, by kernel_rfl, by kernel_rfl⟩⟩)
      (⟨by kernel_rfl, ⟨_, _, _, _, _, _, _, _, _, rfl, by kernel_rfl, by kernel_rfl⟩⟩)
      (⟨by kernel_rfl, ⟨_, _, _, _, _, _, _, _, _, rfl, by kernel_rfl, by kernel_rfl⟩⟩)
      (⟨by kernel_rfl, ⟨_, _, _, _, _, _, _, _, _, rfl, by kernel_rfl, by kernel_rfl⟩⟩)
      (⟨by kernel_rfl, ⟨_, _, _, _, _, _, _, _, _, rfl, by kernel_rfl, by kernel_rfl⟩⟩)
      (⟨by kernel_rfl, ⟨_, _, _, _, _, _, _, _, _, rfl, by kernel_rfl, by kernel_rfl⟩⟩)
      (⟨by kernel_rfl, ⟨_, _, _, _, _, _, _, _, _, rfl, by kernel_rfl, by kernel_rfl⟩⟩)
      (⟨by kernel_rfl, ⟨_, _, _, _, _, _, _, _, _, rfl, by kernel_rfl, by kernel_rfl⟩⟩)
      (⟨by kernel_rfl, ⟨_, _, _, _, _, _, _, _, _, rfl, by kernel_rfl, by kernel_rfl⟩⟩)
      (⟨by kernel_rfl, ⟨_, _, _, _, _, _, _, _, _, rfl, by kernel_rfl, by kernel_rfl⟩⟩)
      (⟨by kernel_rfl, ⟨_, _, _, _, _, _, _, _, _, rfl, by kernel_rfl, by kernel_rfl⟩⟩)
      (⟨by kernel_rfl, ⟨_, _, _, _, _, _, _, _, _, rfl, by kernel_rfl, by kernel_rfl⟩⟩)
      (⟨by kernel_rfl, ⟨_, _, _, _, _, _, _, _, _, rfl, by kernel_rfl, by kernel_rfl⟩⟩)
      (⟨by kernel_rfl, ⟨_, _, _, _, _, _, _, _, _, rfl, by kernel_rfl, by kernel_rfl⟩⟩)
      (⟨by kernel_rfl, ⟨_, _, _, _, _, _, _, _, _, rfl, by kernel_rfl, by kernel_rfl⟩⟩)
      (⟨by kernel_rfl, ⟨_, _, _, _, _, _, _, _, _, rfl, by kernel_rfl, by kernel_rfl⟩⟩)
      (⟨by kernel_rfl, ⟨_, _, _, _, _, _, _, _, _, rfl, by kernel_rfl, by kernel_rfl⟩⟩)
      (⟨⟨by kernel_rfl, by kernel_rfl, by kernel_rfl⟩, ⟨_, _, _, _, _, _, _, _, _, rfl, by kernel_rfl, by kernel_rfl⟩⟩)
      (⟨by kernel_rfl, ⟨_, _, _, _, _, _, _, _, _, rfl, by kernel_rfl, by kernel_rfl⟩⟩)
      (⟨_, _, _, _, _, _, _, _, _, rfl, by kernel_rfl, by kernel_rfl⟩)
      (⟨_, _, _, _, _, _, _, _, _, rfl, by kernel_rfl, by kernel_rfl⟩)
      (⟨_, _, _, _, _, _, _, _, _, rfl, by kernel_rfl, by kernel_rfl⟩)
      (⟨_, _, _, _, _, _, _, _, _, rfl, by kernel_rfl, by kernel_rfl⟩)
      (⟨_, _, _, _, _, _, _, _, _, rfl, by kernel_rfl, by kernel_rfl⟩)
      (⟨_, _, _, _, _, _, _, _, _, rfl, by kernel_rfl, by kernel_rfl⟩)
      (⟨_, _, _, _, _, _, _, _, _, rfl, by kernel_rfl, by kernel_rfl⟩)
      (⟨_, _, _, _, _, _, _, _, _, rfl, by kernel_rfl, by kernel_rfl⟩)
      (⟨_, _, _, _, _, _, _, _, _, rfl, by kernel_rfl, by kernel_rfl⟩)
      (by kernel_rfl)
      (by kernel_rfl)
      (by kernel_rfl)
      (by kernel_rfl)
      (by kernel_rfl)
      (by kernel_rfl)
      (by kernel_rfl)
      (by kernel_rfl)
      (by kernel_rfl)
      (by kernel_rfl)
      (by kernel_rfl)
      (by kernel_rfl)
      (by kernel_rfl)
      (by kernel_rfl)
      (by kernel_rfl)
      (by kernel_rfl)
      (by kernel_rfl)
      (by kernel_rfl)
      (by kernel_rfl)
      (by kernel_rfl)
      (by kernel_rfl)
      (by kernel_rfl)
      (by kernel_rfl)
      (by kernel_rfl)
      (by kernel_rfl)
      (by kernel_rfl)
      (by kernel_rfl)
      (by kernel_rfl)
      (by kernel_rfl)
      (by kernel_rfl)
      (by kernel_rfl)
      (by kernel_rfl)
      (by kernel_rfl)
      (by kernel_rfl)
      (by kernel_rfl)
      (by kernel_rfl)
      (by kernel_rfl)
      (by kernel_rfl)
      (by kernel_rfl)
      (by kernel_rfl)
      (by kernel_rfl)
      (by kernel_rfl)
      (by kernel_rfl)
      (by kernel_rfl)
      (by kernel_rfl)
      (by kernel_rfl)
      (by kernel_rfl)
      (⟨_, rfl⟩)
      (⟨_, rfl⟩)
      (⟨_, rfl⟩)
      (⟨_, rfl⟩)
      (⟨by kernel_rfl, by kernel_rfl, by kernel_rfl, by kernel_rfl, by kernel_rfl, by kernel_rfl, by kernel_rfl, by kernel_rfl, by kernel_rfl, by kernel_rfl⟩)
      (by kernel_rfl)
      (⟨by kernel_rfl, by kernel_rfl, by kernel_rfl, by kernel_rfl, by kernel_rfl, by kernel_rfl, by kernel_rfl, by kernel_rfl, by kernel_rfl, by kernel_rfl⟩)
      (by kernel_rfl)
      (⟨by kernel_rfl, by kernel_rfl, by kernel_rfl, by kernel_rfl, by kernel_rfl, by kernel_rfl, by kernel_rfl, by kernel_rfl, by kernel_rfl, by kernel_rfl⟩)
      (by kernel_rfl)
      (⟨by kernel_rfl, by kernel_rfl, by kernel_rfl, by kernel_rfl, by kernel_rfl, by kernel_rfl, by kernel_rfl, by kernel_rfl, by kernel_rfl, by kernel_rfl⟩)
      (by kernel_rfl)
      (⟨by kernel_rfl, by kernel_rfl, by kernel_rfl, by kernel_rfl, by kernel_rfl, by kernel_rfl, by kernel_rfl, by kernel_rfl, by kernel_rfl, by kernel_rfl⟩)
      (by kernel_rfl)
      (⟨by kernel_rfl, by kernel_rfl, by kernel_rfl, by kernel_rfl, by kernel_rfl, by kernel_rfl, by kernel_rfl, by kernel_rfl, by kernel_rfl, by kernel_rfl⟩)
      (by kernel_rfl)
      (⟨by kernel_rfl, by kernel_rfl, by kernel_rfl, by kernel_rfl, by kernel_rfl, by kernel_rfl, by kernel_rfl, by kernel_rfl, by kernel_rfl, by kernel_rfl⟩)
      (by kernel_rfl)
      (⟨by kernel_rfl, by kernel_rfl, by kernel_rfl, by kernel_rfl, by kernel_rfl, by kernel_rfl, by kernel_rfl, by kernel_rfl, by kernel_rfl, by kernel_rfl⟩)
      (by kernel_rfl)
      (by kernel_rfl)
      (by kernel_rfl)
      (by kernel_rfl)
      (by kernel_rfl)
      (by kernel_rfl)
      (by kernel_rfl)
      (by kernel_rfl)
      (by kernel_rfl)
      (by kernel_rfl)
      (by kernel_rfl)
      (by kernel_rfl)
      (by kernel_rfl)
      (by kernel_rfl)
      (by kernel_rfl)
      (by kernel_rfl)
      (by kernel_rfl)
