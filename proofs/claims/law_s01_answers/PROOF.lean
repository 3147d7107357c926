import PyProof.Rows.All
import Wide.All
import OpenK.AllK
import Wide.FinOn
import Open.SpecLaws
import KE.OsHead
import KE.OsGo
import HandS.ForSpec
import HandS.ForMost
import HandS.SortKw
import HandS.Conv
import HandS.SetFor
import HandS.Zip
import HandS.Evl
import PySem.Challenge.RW_dikelanddesk_s01_answers

set_option Elab.async false
set_option maxRecDepth 100000
set_option maxHeartbeats 800000
set_option linter.all false

set_option maxHeartbeats 4000000
/-! # Kit: own rules over the hand layer, and what readings evaluate to -/
namespace DL
open PySem PySem.Spec PyProof.Rows L2 Evl

/-! ### rules by short names -/
abbrev rB (f : Int → Int → Bool) : R2 := rI0 fun i j => .bl (f i j)
abbrev rAddI : R2 := rI0 fun i j => .int (i + j)
abbrev rSubI : R2 := rI0 fun i j => .int (i - j)
abbrev rMulI : R2 := rI CMul fun i j => .int (i * j)
abbrev rDivI : R2 := rI CDiv fun i j => .int (i / j)
abbrev rModI : R2 := rI (fun _ j => 0 < j) fun i j => .int (i % j)
abbrev rLtI : R2 := rB fun i j => decide (i < j)
abbrev rLeI : R2 := rB fun i j => decide (i ≤ j)
abbrev rGtI : R2 := rB fun i j => decide (j < i)
abbrev rGeI : R2 := rB fun i j => decide (j ≤ i)
abbrev rNegI : V → Hp → VK → Prop := rU fun i => .int (-i)
abbrev ipAddI : TIp := ipI fun i j => i + j
abbrev ipSubI : TIp := ipI fun i j => i - j
def rIsN : R2 := fun x y H Q => y = .non ∧ Q (.bl (decide (x = .non))) H
def rNotN : R2 := fun x y H Q => y = .non ∧ Q (.bl (!decide (x = .non))) H
def rAbs : List V → Hp → VK → Prop := fun xs H Q => ∃ i, xs = [.int i] ∧ Q (.int (if i < 0 then -i else i)) H
def rMin2 : List V → Hp → VK → Prop := fun xs H Q => ∃ i j, xs = [.int i, .int j] ∧ Q (.int (if j < i then j else i)) H
def rMin3 : List V → Hp → VK → Prop := fun xs H Q => ∃ i j k, xs = [.int i, .int j, .int k] ∧ Q (.int (min (min i j) k)) H
def rMin4 : List V → Hp → VK → Prop := fun xs H Q => ∃ i j k l, xs = [.int i, .int j, .int k, .int l] ∧ Q (.int (min (min (min i j) k) l)) H

/-! ### min of three, of four ints -/
theorem vals3i {x y z : V} {us : List Value} (r : Vals [x, y, z] us) : ∃ u v w, us = [u, v, w] ∧ RelV x u ∧ RelV y v ∧ RelV z w := by
  cases r with
  | cons p q =>
    obtain ⟨v, w, rfl, h1, h2⟩ := vals2 q
    exact ⟨_, v, w, rfl, p, h1, h2⟩
theorem vals4i {x y z t : V} {us : List Value} (r : Vals [x, y, z, t] us) : ∃ u v w o, us = [u, v, w, o] ∧ RelV x u ∧ RelV y v ∧ RelV z w ∧ RelV t o := by
  cases r with
  | cons p q =>
    obtain ⟨v, w, o, rfl, h1, h2, h3⟩ := vals3i q
    exact ⟨_, v, w, o, rfl, p, h1, h2, h3⟩
theorem call_min3 {X : Cx} (hc : X.calm = true) : CallR X (.builtin "min") rMin3 := by
  intro pins s σ H xs us Q I r h
  obtain ⟨i, j, k, rfl, q⟩ := h
  obtain ⟨u, v, w', rfl, ⟨t, rfl⟩, ⟨t', rfl⟩, ⟨t2, rfl⟩⟩ := vals3i r
  refine min_three_ints (I.ok.hd hc) fun h' tk kk => ⟨_, H, I.kept kk, ?_, q⟩
  have e1 : (if j < i then (if k < j then Value.int k t2 else Value.int j t') else (if k < i then Value.int k t2 else Value.int i t)) = Value.int (min (min i j) k) (if j < i then (if k < j then t2 else t') else (if k < i then t2 else t)) := by
    split <;> split <;> (congr 1; omega)
  rw [e1]
  exact ⟨_, rfl⟩
theorem args_min4 (a b c d : Value) : argsOk "min" ⟨[a, b, c, d], []⟩ := by unfold argsOk; kernel_rfl
section
variable {prog : Program} {w : World} {A : Around} {E : Value → Shared → Prop} {s : Shared}
theorem call_min_four {a b c d : Value} {Q : Value → Shared → Prop}
    (h : wpAny (model prog w) A.in1 (pyIter (.ref s.heap.objs.size)) (fun it s2 => ∃ I fp wr n P St bt, it = .ref I ∧ Walks prog w A.in1 I fp wr n P St ∧ St 0 s2.heap ∧ (∀ b ∈ fp, b < s2.heap.objs.size) ∧ 0 < n ∧ CmpOf prog w A.in1 .Lt P bt ∧
      ∀ v h' tk, P (argBest bt (n - 1)) v → (∀ b o, b ∉ wr → s2.heap.get? b = some o → h'.get? b = some o) → Q v { s2 with heap := h', toks := tk }) E
      { s with heap := s.heap.push { cls := .type "tuple", data := .seq #[a, b, c, d] } }) :
    wpAny (model prog w) A (call (.builtin "min") [a, b, c, d]) Q E s := by
  have hname : (toString "min" ++ toString ".loop" : String) = "min.loop" := by decide
  refine call_function_tree F.kind_min F.plain_min F.entry_min (args_min4 _ _ _ _) ?_
  show wpAny _ A.in1 (Builtin.Builtins.bindParams "min" ["key", "default"] 0 ⟨[], []⟩ >>= _) _ _ s
  refine wpAny_bind (wpAny_of_eq (show Builtin.Builtins.bindParams "min" ["key", "default"] 0 ⟨[], []⟩ = pure [none, none] from rfl) ?_)
  show wpAny _ A.in1 (newTuple [a, b, c, d] >>= _) _ _ s
  refine wpAny_bind (wpAny_newObj_type ?_)
  refine wpAny_bind (wpAny_mono h (fun it s2 h2 => ?_) fun _ _ e => e)
  obtain ⟨I, fp, wr, n, P, St, bt, rfl, W, hst, hfp, hn, hcmp, hQ⟩ := h2
  refine wpAny_bind (wpAny_newObj_type ?_)
  have hSf : s2.heap.objs.size ∉ fp := fun hm => Nat.lt_irrefl _ (hfp _ hm)
  rw [hname]
  refine wpAny_pure ⟨plainId_quiet F.plain_min_loop _, codeAny_min_loop_first W bt hcmp s2.heap.objs.size hSf hn (W.frame _ _ _ hst fun b _ o e => Heap.get?_push_of_some _ e) (Heap.get?_push_size _ rfl) fun v h' tk hP hk => ?_⟩
  exact hQ v h' tk hP fun b o hbw e => hk b o hbw (Nat.ne_of_lt (Heap.lt_size e)) (Heap.get?_push_of_some _ e)
theorem min_four_ints {a b c d : Int} {t u x y : Tok} {Q : Value → Shared → Prop} (hh : A.handled = none)
    (h : ∀ h' tk z, (∀ d o, s.heap.get? d = some o → h'.get? d = some o) → Q (.int (min (min (min a b) c) d) z) { s with heap := h', toks := tk }) :
    wpAny (model prog w) A (call (.builtin "min") [.int a t, .int b u, .int c x, .int d y]) Q E s := by
  have hT : (s.heap.push { cls := .type "tuple", data := .seq #[.int a t, .int b u, .int c x, .int d y] }).IsTuple s.heap.objs.size (intItems #[(a, t), (b, u), (c, x), (d, y)]) := ⟨_, Heap.get?_push_size _ rfl, rfl, 0, by simp [intItems]⟩
  refine call_min_four (wpAny_pyIter_tuple hT ?_)
  have hsz : (s.heap.push { cls := .type "tuple", data := .seq #[.int a t, .int b u, .int c x, .int d y] }).objs.size = s.heap.objs.size + 1 := Heap.size_push ..
  refine ⟨_, [_, s.heap.objs.size], [_], _, _, _, _, rfl, Walks.tuple (A := A.in1) hh _ s.heap.objs.size (by rw [hsz]; exact Nat.ne_of_lt (Nat.lt_succ_self _)) (intItems #[(a, t), (b, u), (c, x), (d, y)]),
    ⟨⟨_, Heap.get?_push_size _ rfl, rfl, rfl⟩, hT.push _⟩, fun e hd => ?_, by simp [intItems], CmpOf.ints_lt (numAt #[(a, t), (b, u), (c, x), (d, y)]) (fun _ _ => intItems_at), fun v h' tk hP hk => ?_⟩
  · show e < ((s.heap.push _).push _).objs.size
    rw [Heap.size_push, hsz]
    rcases List.mem_cons.mp hd with rfl | hd
    · rw [hsz]; exact Nat.lt_succ_self _
    · rcases List.mem_cons.mp hd with rfl | hd
      · exact Nat.lt_succ_of_lt (Nat.lt_succ_self _)
      · cases hd
  · have hold : ∀ d o, s.heap.get? d = some o → h'.get? d = some o := fun d o e => by
      refine hk d o (fun hm => ?_) (Heap.get?_push_of_some _ (Heap.get?_push_of_some _ e))
      rcases List.mem_cons.mp hm with e1 | hm
      · have := Heap.lt_size e; rw [e1, hsz] at this; exact Nat.lt_irrefl _ (Nat.lt_of_succ_lt this)
      · cases hm
    have hP' : (intItems #[(a, t), (b, u), (c, x), (d, y)])[argBest (fun i j => decide (numAt #[(a, t), (b, u), (c, x), (d, y)] i < numAt #[(a, t), (b, u), (c, x), (d, y)] j)) 3]? = some v := by
      have hsz2 : (intItems #[(a, t), (b, u), (c, x), (d, y)]).size - 1 = 3 := by simp [intItems]
      rw [← hsz2]; exact hP
    have hv : ∃ z, v = Value.int (min (min (min a b) c) d) z := by
      have key : argBest (fun i j => decide (numAt #[(a, t), (b, u), (c, x), (d, y)] i < numAt #[(a, t), (b, u), (c, x), (d, y)] j)) 3 =
          (if b < a then (if c < b then (if d < c then 3 else 2) else (if d < b then 3 else 1)) else (if c < a then (if d < c then 3 else 2) else (if d < a then 3 else 0))) := by
        by_cases h1 : b < a <;> by_cases h2 : c < b <;> by_cases h3 : c < a <;> by_cases h4 : d < c <;> by_cases h5 : d < b <;> by_cases h6 : d < a <;> simp [argBest, numAt, h1, h2, h3, h4, h5, h6]
      rw [key] at hP'
      by_cases h1 : b < a
      · by_cases h2 : c < b
        · by_cases h4 : d < c
          · simp [intItems, h1, h2, h4] at hP'; exact ⟨y, by rw [← hP']; congr 1; omega⟩
          · simp [intItems, h1, h2, h4] at hP'; exact ⟨x, by rw [← hP']; congr 1; omega⟩
        · by_cases h5 : d < b
          · simp [intItems, h1, h2, h5] at hP'; exact ⟨y, by rw [← hP']; congr 1; omega⟩
          · simp [intItems, h1, h2, h5] at hP'; exact ⟨u, by rw [← hP']; congr 1; omega⟩
      · by_cases h3 : c < a
        · by_cases h4 : d < c
          · simp [intItems, h1, h3, h4] at hP'; exact ⟨y, by rw [← hP']; congr 1; omega⟩
          · simp [intItems, h1, h3, h4] at hP'; exact ⟨x, by rw [← hP']; congr 1; omega⟩
        · by_cases h6 : d < a
          · simp [intItems, h1, h3, h6] at hP'; exact ⟨y, by rw [← hP']; congr 1; omega⟩
          · simp [intItems, h1, h3, h6] at hP'; exact ⟨t, by rw [← hP']; congr 1; omega⟩
    obtain ⟨z, rfl⟩ := hv
    exact h h' tk z hold
end
theorem call_min4 {X : Cx} (hc : X.calm = true) : CallR X (.builtin "min") rMin4 := by
  intro pins s σ H xs us Q I r h
  obtain ⟨i, j, k, l, rfl, q⟩ := h
  obtain ⟨u, v, w', o, rfl, ⟨t, rfl⟩, ⟨t', rfl⟩, ⟨t2, rfl⟩, ⟨t3, rfl⟩⟩ := vals4i r
  exact min_four_ints (I.ok.hd hc) fun h' tk z kk => ⟨.int _, H, I.kept kk, ⟨z, rfl⟩, q⟩

/-! ### derivations: short forms -/
def Ok (P : Program) (w : World) (K : PySem.W.Frag) (mg : Str → Option Value) (base : Heap) (k : Nat) (f : Addr) (ps : List Str) (sp : Sp) : Prop := ∃ fd, FnOk P w K mg base CX0 k f fd ps sp ∧ Binds K fd ps []
section
variable {X : Cx}
theorem pe_globI {x : Str} {n : Int} {pos : Pos} (hg : Gl X x) (h : ∃ t, X.mg x = some (.int n t)) (hd : (x == ("__debug__" : Str)) = false := by decide) : PE X (.Name x pos) (tC (.int n)) := by
  obtain ⟨t, e⟩ := h
  exact pe_glob hg e ⟨t, rfl⟩ hd
theorem pe_methO {pl : Sem Bool} {k : Nat} {f C : Addr} {ps : List Str} {sp : Sp} {m : Str} {pos apos : Pos} {e o : Expr} {es : List Expr} {ta : TE} {t : TA} (he : PE X o ta) (c : Cls X.K C) (hm : Meth X.K C m f) (F : Ok X.prog X.w X.K X.mg X.base k f ps sp) (hr : Room k X.A) (ha : PA X (e :: es) t)
    (hst : starEach (e :: es) X.env = (false, eval e X.env) :: starEach es X.env := by rfl) (hpl : (backTo pos (starEach es X.env)).any (·.1) = false := by rfl)
    (ht : eval (.Call (.Attribute o m apos) (e :: es) [] pos) X.env = (do
      let ov ← eval o X.env
      standAt apos.atName
      let (f, first) ← holding [ov] (getMethod ov m pl)
      callWith pos f first (backTo pos (starEach (e :: es) X.env)) (backToKw pos (keywordEach [] X.env))) := by rfl) :
    PE X (.Call (.Attribute o m apos) (e :: es) [] pos) (tMeth C m sp [] E0 ta t) := by
  obtain ⟨fd, G, b⟩ := F
  exact pe_meth he c hm G hr b .nil pass0 ha hst hpl ht
theorem pe_methO0 {pl : Sem Bool} {k : Nat} {f C : Addr} {ps : List Str} {sp : Sp} {m : Str} {pos apos : Pos} {o : Expr} {ta : TE} (he : PE X o ta) (c : Cls X.K C) (hm : Meth X.K C m f) (F : Ok X.prog X.w X.K X.mg X.base k f ps sp) (hr : Room k X.A)
    (ht : eval (.Call (.Attribute o m apos) [] [] pos) X.env = (do
      let ov ← eval o X.env
      standAt apos.atName
      let (f, first) ← holding [ov] (getMethod ov m pl)
      callWith pos f first (backTo pos (starEach [] X.env)) (backToKw pos (keywordEach [] X.env))) := by rfl) :
    PE X (.Call (.Attribute o m apos) [] [] pos) (tMeth C m sp [] E0 ta tNil) := by
  obtain ⟨fd, G, b⟩ := F
  exact pe_meth0 he c hm G hr b .nil pass0 ht
theorem pe_callO {k : Nat} {f : Addr} {ps : List Str} {sp : Sp} {x : Str} {p pos : Pos} {e : Expr} {es : List Expr} {t : TA} (F : Ok X.prog X.w X.K X.mg X.base k f ps sp) (hr : Room k X.A) (hg : Gl X x) (hm : X.mg x = some (.ref f)) (hk : PySem.W.keepIn X.K (.ref f) = true)
    (ha : PA X (e :: es) t) (hdb : (x == ("__debug__" : Str)) = false := by decide) (he : starEach (e :: es) X.env = (false, eval e X.env) :: starEach es X.env := by rfl) (hpl : (backTo pos (starEach es X.env)).any (·.1) = false := by rfl) :
    PE X (.Call (.Name x p) (e :: es) [] pos) (tCall sp [] E0 t) := by
  obtain ⟨fd, G, b⟩ := F
  exact pe_call G hr hg hm hk b .nil pass0 ha hdb he hpl
theorem pe_makeO {k : Nat} {f C : Addr} {ps : List Str} {sp : Sp} {x : Str} {p pos : Pos} {e : Expr} {es : List Expr} {t : TA} (M : Mk X.K C f) (F : Ok X.prog X.w X.K X.mg X.base k f ps sp) (hr : Room (k + 1) X.A) (hg : Gl X x) (hm : X.mg x = some (.ref C))
    (ha : PA X (e :: es) t) (hdb : (x == ("__debug__" : Str)) = false := by decide) (he : starEach (e :: es) X.env = (false, eval e X.env) :: starEach es X.env := by rfl) (hpl : (backTo pos (starEach es X.env)).any (·.1) = false := by rfl) :
    PE X (.Call (.Name x p) (e :: es) [] pos) (tMake C sp [] E0 t) := by
  obtain ⟨fd, G, b⟩ := F
  exact pe_make M G hr hg hm b .nil pass0 ha hdb he hpl
theorem pe_makeO0 {k : Nat} {f C : Addr} {ps : List Str} {sp : Sp} {x : Str} {p pos : Pos} (M : Mk X.K C f) (F : Ok X.prog X.w X.K X.mg X.base k f ps sp) (hr : Room (k + 1) X.A) (hg : Gl X x) (hm : X.mg x = some (.ref C))
    (hdb : (x == ("__debug__" : Str)) = false := by decide) : PE X (.Call (.Name x p) [] [] pos) (tMake C sp [] E0 tNil) := by
  obtain ⟨fd, G, b⟩ := F
  exact pe_make0 M G hr hg hm b .nil pass0 hdb
end
end DL


set_option maxHeartbeats 4000000
/-! # What readings evaluate to; objects in the heap -/
namespace DL
open PySem PySem.Spec PyProof.Rows L2 Evl

/-! ### attributes by place -/
theorem lk_ix {f : Str} {v : V} : ∀ {fs : List (Str × V)} {names : List Str} {i : Nat}, fs.map (·.1) = names → names.findIdx? (· == f) = some i → fs[i]? = some (f, v) → fs.lookup f = some v
  | [], _, _, rfl, h, _ => by simp at h
  | (g, x) :: r, _, i, rfl, h, e => by
    rw [List.map_cons, List.findIdx?_cons] at h
    by_cases c : (g == f) = true
    · have hgf : g = f := eq_of_beq c
      rw [if_pos c] at h
      obtain rfl : 0 = i := Option.some.inj h
      have ev : (g, x) = (f, v) := Option.some.inj e
      cases ev
      show (match f == f with | true => some v | false => r.lookup f) = some v
      rw [beq_self_eq_true]
    · rw [if_neg c] at h
      cases q : (r.map (·.1)).findIdx? (· == f) with
      | none => rw [q] at h; cases h
      | some j =>
        rw [q] at h
        obtain rfl : j + 1 = i := Option.some.inj h
        have ih := lk_ix (f := f) (v := v) (fs := r) (i := j) rfl q (by simpa using e)
        show (match f == g with | true => some x | false => r.lookup f) = some v
        have : (f == g) = false := by
          apply beq_eq_false_iff_ne.mpr
          intro z
          exact c (by rw [z]; exact beq_self_eq_true g)
        rw [this]
        exact ih
theorem lk_no {f : Str} : ∀ {fs : List (Str × V)} {names : List Str}, fs.map (·.1) = names → names.contains f = false → fs.lookup f = none
  | [], _, rfl, _ => rfl
  | (g, x) :: r, _, rfl, h => by
    rw [List.map_cons, List.contains_cons, Bool.or_eq_false_iff] at h
    show (match f == g with | true => some x | false => r.lookup f) = none
    rw [h.1]
    exact lk_no rfl h.2
theorem put_ix {f : Str} {v : V} : ∀ {fs : List (Str × V)} {names : List Str} {i : Nat}, fs.map (·.1) = names → names.findIdx? (· == f) = some i → putF f v fs = fs.set i (f, v)
  | [], _, _, rfl, h => by simp at h
  | (g, x) :: r, _, i, rfl, h => by
    rw [List.map_cons, List.findIdx?_cons] at h
    by_cases c : (g == f) = true
    · have hgf : g = f := eq_of_beq c
      rw [if_pos c] at h
      obtain rfl : 0 = i := Option.some.inj h
      subst hgf
      show (if g = g then (g, v) :: r else (g, x) :: putF g v r) = _
      rw [if_pos rfl]
      rfl
    · rw [if_neg c] at h
      have hgf : ¬ g = f := fun z => c (by rw [z]; exact beq_self_eq_true f)
      cases q : (r.map (·.1)).findIdx? (· == f) with
      | none => rw [q] at h; cases h
      | some j =>
        rw [q] at h
        obtain rfl : j + 1 = i := Option.some.inj h
        have ih := put_ix (f := f) (v := v) (fs := r) (i := j) rfl q
        rw [show putF f v ((g, x) :: r) = (if g = f then (g, v) :: r else (g, x) :: putF f v r) from rfl, if_neg hgf, ih]
        rfl
theorem put_new {f : Str} {v : V} : ∀ {fs : List (Str × V)} {names : List Str}, fs.map (·.1) = names → names.contains f = false → putF f v fs = fs ++ [(f, v)]
  | [], _, rfl, _ => rfl
  | (g, x) :: r, _, rfl, h => by
    rw [List.map_cons, List.contains_cons, Bool.or_eq_false_iff] at h
    have hgf : ¬ g = f := fun z => by
      have := h.1
      rw [z, beq_self_eq_true] at this
      cases this
    rw [show putF f v ((g, x) :: r) = (if g = f then (g, v) :: r else (g, x) :: putF f v r) from rfl, if_neg hgf, put_new rfl h.2]
    rfl

/-! ### instances -/
def InsAt (C : Addr) (H : Hp) (a : Addr) (fs : List (Str × V)) : Prop := ∃ dx, H a = some (.ins C dx fs)
theorem InsAt.mono {C : Addr} {H H' : Hp} {a : Addr} {fs : List (Str × V)} (e : Ex H H') (h : InsAt C H a fs) : InsAt C H' a fs := let ⟨dx, q⟩ := h; ⟨dx, e _ _ q⟩
structure Has (K : PySem.W.Frag) (H : Hp) (a : Addr) (f : Str) (v : V) : Prop where
  ex : ∃ C dx fs, H a = some (.ins C dx fs) ∧ Cls K C ∧ NoAttr K C f ∧ fs.lookup f = some v
theorem has_of {K : PySem.W.Frag} {H : Hp} {a C : Addr} {f : Str} {v : V} {fs : List (Str × V)} (h : InsAt C H a fs) (c : Cls K C) (n : NoAttr K C f) (l : fs.lookup f = some v) : Has K H a f v := let ⟨dx, e⟩ := h; ⟨C, dx, fs, e, c, n, l⟩
theorem Has.mono {K : PySem.W.Frag} {H H' : Hp} {a : Addr} {f : Str} {v : V} (e : Ex H H') (h : Has K H a f v) : Has K H' a f v := let ⟨C, dx, fs, q, r⟩ := h.ex; ⟨C, dx, fs, e _ _ q, r⟩
structure HasM (H : Hp) (a C : Addr) (m : Str) : Prop where
  ex : ∃ dx fs, H a = some (.ins C dx fs) ∧ fs.lookup m = none
theorem hasM_of {H : Hp} {a C : Addr} {m : Str} {fs : List (Str × V)} (h : InsAt C H a fs) (l : fs.lookup m = none) : HasM H a C m := let ⟨dx, e⟩ := h; ⟨dx, fs, e, l⟩
theorem HasM.mono {H H' : Hp} {a C : Addr} {m : Str} (e : Ex H H') (h : HasM H a C m) : HasM H' a C m := let ⟨dx, fs, q, r⟩ := h.ex; ⟨dx, fs, e _ _ q, r⟩

/-! ### what evaluates to what, further -/
section
variable {K : PySem.W.Frag} {σ : L2.St} {H H' : Hp} {ta tb tc te tx : TE} {t u : TT} {x y z v : V} {a C : Addr} {f m : Str}
theorem ev_fld (h : Ev ta σ H (.ref a)) (hf : Has K H a f v) : Ev (tFld K ta f) σ H v := fun H1 e Q q => h H1 e _ fun H2 e2 => by
  obtain ⟨C, dx, fs, ho, c, n, l⟩ := hf.ex
  exact ⟨a, C, dx, fs, v, rfl, (e.trans e2) _ _ ho, c, n, l, q H2 e2⟩
theorem ev_meth {sp : Sp} {ts : TA} {vs : List V} (h : Ev ta σ H (.ref a)) (hm : HasM H a C m) (hv : EvA ts σ H vs) (hs : SpV sp (.ref a :: vs) H z) : Ev (tMeth C m sp [] E0 ta ts) σ H z := fun H1 e Q q => h H1 e _ fun H2 e2 => by
  obtain ⟨dx, fs, ho, l⟩ := hm.ex
  refine ⟨a, dx, fs, rfl, (e.trans e2) _ _ ho, l, ?_⟩
  refine hv H2 (e.trans e2) _ fun H3 e3 => ?_
  rw [List.append_nil]
  exact hs H3 ((e.trans e2).trans e3) Q (fun H4 e4 => q H4 ((e2.trans e3).trans e4)) E0
theorem el_meth {sp : Sp} {ts : TA} {vs xs : List V} (h : Ev ta σ H (.ref a)) (hm : HasM H a C m) (hv : EvA ts σ H vs) (hs : SpL sp (.ref a :: vs) H xs) : EvL (tMeth C m sp [] E0 ta ts) σ H xs := fun H1 e Q q => h H1 e _ fun H2 e2 => by
  obtain ⟨dx, fs, ho, l⟩ := hm.ex
  refine ⟨a, dx, fs, rfl, (e.trans e2) _ _ ho, l, ?_⟩
  refine hv H2 (e.trans e2) _ fun H3 e3 => ?_
  rw [List.append_nil]
  exact hs H3 ((e.trans e2).trans e3) Q (fun p H4 hp e4 h4 => q p H4 (fresh_back (e2.trans e3) hp) ((e2.trans e3).trans e4) h4) E0
theorem ev_callf {sp : Sp} {vs : List V} {ts : TA} (h : EvA ts σ H vs) (hs : SpV sp vs H z) : Ev (tCall sp [] E0 ts) σ H z := ev_call h (by rw [List.append_nil]; exact hs)
theorem el_callf {sp : Sp} {vs xs : List V} {ts : TA} (h : EvA ts σ H vs) (hs : SpL sp vs H xs) : EvL (tCall sp [] E0 ts) σ H xs := el_call h (by rw [List.append_nil]; exact hs)
/-- a promise: a value, all else as it was -/
def spV (R : List V → Hp → V → Prop) : Sp := fun vs H Q _ => ∃ v, R vs H v ∧ ∀ H2, Ex H H2 → Q v H2
/-- a promise: a new list -/
def spL (R : List V → Hp → List V → Prop) : Sp := fun vs H Q _ => ∃ xs, R vs H xs ∧ ∀ p H2, H p = none → Ex H H2 → H2 p = some (.lst xs) → Q (.ref p) H2
theorem spv_of {R : List V → Hp → V → Prop} {vs : List V} (h : ∀ H1, Ex H H1 → R vs H1 v) : SpV (spV R) vs H v := fun H1 e _ q _ => ⟨v, h H1 e, q⟩
theorem spl_of {R : List V → Hp → List V → Prop} {vs xs : List V} (h : ∀ H1, Ex H H1 → R vs H1 xs) : SpL (spL R) vs H xs := fun H1 e _ q _ => ⟨xs, h H1 e, q⟩

/-! #### operators -/
variable {i j k : Int}
theorem ev_add (ha : Ev ta σ H (.int i)) (hb : Ev tb σ H (.int j)) : Ev (tOp rAddI ta tb) σ H (.int (i + j)) := ev_op ha hb rv_I0
theorem ev_sub (ha : Ev ta σ H (.int i)) (hb : Ev tb σ H (.int j)) : Ev (tOp rSubI ta tb) σ H (.int (i - j)) := ev_op ha hb rv_I0
theorem ev_mul (ha : Ev ta σ H (.int i)) (hb : Ev tb σ H (.int j)) (hc : CMul i j) : Ev (tOp rMulI ta tb) σ H (.int (i * j)) := ev_op ha hb (rv_I hc)
theorem ev_div (ha : Ev ta σ H (.int i)) (hb : Ev tb σ H (.int j)) (hc : CDiv i j) : Ev (tOp rDivI ta tb) σ H (.int (i / j)) := ev_op ha hb (rv_I hc)
theorem ev_mod (ha : Ev ta σ H (.int i)) (hb : Ev tb σ H (.int j)) (hc : 0 < j) : Ev (tOp rModI ta tb) σ H (.int (i % j)) := ev_op ha hb (rv_I hc)
theorem ev_neg (ha : Ev ta σ H (.int i)) : Ev (tUn rNegI ta) σ H (.int (-i)) := ev_un ha ru_neg
theorem ev_lt (ha : Ev ta σ H (.int i)) (hb : Ev tb σ H (.int j)) : Ev (tOp rLtI ta tb) σ H (.bl (decide (i < j))) := ev_op ha hb rv_I0
theorem ev_le (ha : Ev ta σ H (.int i)) (hb : Ev tb σ H (.int j)) : Ev (tOp rLeI ta tb) σ H (.bl (decide (i ≤ j))) := ev_op ha hb rv_I0
theorem ev_gt (ha : Ev ta σ H (.int i)) (hb : Ev tb σ H (.int j)) : Ev (tOp rGtI ta tb) σ H (.bl (decide (j < i))) := ev_op ha hb rv_I0
theorem ev_ge (ha : Ev ta σ H (.int i)) (hb : Ev tb σ H (.int j)) : Ev (tOp rGeI ta tb) σ H (.bl (decide (j ≤ i))) := ev_op ha hb rv_I0
theorem ev_eqI (ha : Ev ta σ H (.int i)) (hb : Ev tb σ H (.int j)) : Ev (tOp rEq ta tb) σ H (.bl (decide (i = j))) := by
  have h := ev_op ha hb (rv_eq (H := H) (x := .int i) (y := .int j) rfl)
  have e : (V.bl (decide (V.int i = V.int j))) = V.bl (decide (i = j)) := by
    congr 1
    by_cases q : i = j
    · rw [q]; simp
    · rw [decide_eq_false q, decide_eq_false]; intro z; exact q (V.int.inj z)
  rw [e] at h
  exact h
theorem ev_neI (ha : Ev ta σ H (.int i)) (hb : Ev tb σ H (.int j)) : Ev (tOp rNe ta tb) σ H (.bl (!decide (i = j))) := by
  have h := ev_op ha hb (rv_ne (H := H) (x := .int i) (y := .int j) rfl)
  have e : (V.bl (!decide (V.int i = V.int j))) = V.bl (!decide (i = j)) := by
    congr 2
    by_cases q : i = j
    · rw [q]; simp
    · rw [decide_eq_false q, decide_eq_false]; intro z; exact q (V.int.inj z)
  rw [e] at h
  exact h
theorem ev_isN (ha : Ev ta σ H x) : Ev (tOp rIsN ta (tC .non)) σ H (.bl (decide (x = .non))) := ev_op ha ev_c fun H1 _ _ q => ⟨rfl, q H1 (Ex.refl H1)⟩
theorem ev_notN (ha : Ev ta σ H x) : Ev (tOp rNotN ta (tC .non)) σ H (.bl (!decide (x = .non))) := ev_op ha ev_c fun H1 _ _ q => ⟨rfl, q H1 (Ex.refl H1)⟩
theorem ev_chain {p q : Int → Int → Bool} (ha : Ev ta σ H (.int i)) (hb : Ev tb σ H (.int j)) (hc : Ev tc σ H (.int k)) : Ev (tChain (rB p) (rB q) ta tb tc) σ H (.bl (p i j && q j k)) := fun H1 e Q qq =>
  ha H1 e _ fun H2 e2 => hb H2 (e.trans e2) _ fun H3 e3 => ⟨i, j, rfl, rfl, _, rfl, by
    cases hp : p i j with
    | true =>
      rw [hp] at qq
      refine iteT ?_
      exact hc H3 ((e.trans e2).trans e3) _ fun H4 e4 => ⟨j, k, rfl, rfl, by simpa using qq H4 ((e2.trans e3).trans e4)⟩
    | false =>
      rw [hp] at qq
      refine iteF ?_
      exact qq H3 (e2.trans e3)⟩
theorem ev_ixL {p : Addr} {xs : List V} (ha : Ev ta σ H (.ref p)) (hb : Ev tb σ H (.int i)) (h : SqL K H p xs) (hx : atI xs i = some v) : Ev (tOp (rIxL K) ta tb) σ H v := ev_op ha hb (rv_ixL h hx)
theorem ev_ixT {p : Addr} {xs : List V} (ha : Ev ta σ H (.ref p)) (hb : Ev tb σ H (.int i)) (h : SqT K H p xs) (hx : atI xs i = some v) : Ev (tOp (rIxT K) ta tb) σ H v := ev_op ha hb (rv_ixT h hx)
theorem ev_if2 {b : Bool} {y z : V} (h : EvT t σ H b) (h1 : b = true → Ev ta σ H y) (h2 : b = false → Ev tb σ H z) : Ev (tIf t ta tb) σ H (if b = true then y else z) := by
  cases b with
  | true => exact ev_if h (fun _ => by rw [if_pos rfl]; exact h1 rfl) (fun q => by cases q)
  | false => exact ev_if h (fun q => by cases q) (fun _ => by rw [if_neg Bool.false_ne_true]; exact h2 rfl)
theorem ev_abs (ha : Ev ta σ H (.int i)) : Ev (tCB rAbs (tCons ta tNil)) σ H (.int (if i < 0 then -i else i)) := fun H1 e Q q => ha H1 e _ fun H2 e2 => ⟨i, rfl, q H2 e2⟩
theorem ev_min2 (ha : Ev ta σ H (.int i)) (hb : Ev tb σ H (.int j)) : Ev (tCB rMin2 (tCons ta (tCons tb tNil))) σ H (.int (min i j)) := fun H1 e Q q =>
  ha H1 e _ fun H2 e2 => hb H2 (e.trans e2) _ fun H3 e3 => ⟨i, j, rfl, by
    have : (if j < i then j else i) = min i j := by omega
    rw [this]; exact q H3 (e2.trans e3)⟩
theorem ev_max2 (ha : Ev ta σ H (.int i)) (hb : Ev tb σ H (.int j)) : Ev (tCB rMax2 (tCons ta (tCons tb tNil))) σ H (.int (max i j)) := fun H1 e Q q =>
  ha H1 e _ fun H2 e2 => hb H2 (e.trans e2) _ fun H3 e3 => ⟨i, j, rfl, by
    have : (if j > i then j else i) = max i j := by omega
    rw [this]; exact q H3 (e2.trans e3)⟩
theorem ev_min3 (ha : Ev ta σ H (.int i)) (hb : Ev tb σ H (.int j)) (hc : Ev tc σ H (.int k)) : Ev (tCB rMin3 (tCons ta (tCons tb (tCons tc tNil)))) σ H (.int (min (min i j) k)) := fun H1 e Q q =>
  ha H1 e _ fun H2 e2 => hb H2 (e.trans e2) _ fun H3 e3 => hc H3 ((e.trans e2).trans e3) _ fun H4 e4 => ⟨i, j, k, rfl, q H4 ((e2.trans e3).trans e4)⟩
theorem ev_min4 {td : TE} {l : Int} (ha : Ev ta σ H (.int i)) (hb : Ev tb σ H (.int j)) (hc : Ev tc σ H (.int k)) (hd : Ev td σ H (.int l)) : Ev (tCB rMin4 (tCons ta (tCons tb (tCons tc (tCons td tNil))))) σ H (.int (min (min (min i j) k) l)) := fun H1 e Q q =>
  ha H1 e _ fun H2 e2 => hb H2 (e.trans e2) _ fun H3 e3 => hc H3 ((e.trans e2).trans e3) _ fun H4 e4 => hd H4 (((e.trans e2).trans e3).trans e4) _ fun H5 e5 => ⟨i, j, k, l, rfl, q H5 (((e2.trans e3).trans e4).trans e5)⟩
theorem ev_sum {p : Addr} {ns : List Int} (ha : Ev ta σ H (.ref p)) (h : SqL K H p (ns.map V.int)) : Ev (tCB (rSum K) (tCons ta tNil)) σ H (.int ns.sum) := fun H1 e Q q => ha H1 e _ fun H2 e2 => ⟨p, ns, rfl, ex_l (e.trans e2) h, q H2 e2⟩
theorem ev_sumN {ns : List Int} (ha : EvL ta σ H (ns.map V.int)) : Ev (tCB (rSum K) (tCons ta tNil)) σ H (.int ns.sum) := fun H1 e Q q => ha H1 e _ fun p H2 _ e2 h2 => ⟨p, ns, rfl, sq_of h2, q H2 e2⟩
theorem ev_maxN {ns : List Int} {M : Int} (ha : EvL ta σ H (ns.map V.int)) (hn : ns ≠ []) (hm : ∀ m, m ∈ ns → (∀ y, y ∈ ns → y ≤ m) → m = M) : Ev (tCB (rMax K) (tCons ta tNil)) σ H (.int M) := fun H1 e Q q => ha H1 e _ fun p H2 _ e2 h2 =>
  ⟨p, ns, rfl, sq_of h2, List.length_pos_iff.mpr hn, fun m h3 h4 => by rw [hm m h3 h4]; exact q H2 e2⟩
theorem el_cat {xs ys : List V} (ha : EvL ta σ H xs) (hb : EvL tb σ H ys) (hz : xs.length + ys.length ≤ 100000) : EvL (tOp rCat ta tb) σ H (xs ++ ys) := fun H1 e Q q =>
  ha H1 e _ fun p H2 hp e2 h2 => hb H2 (e.trans e2) _ fun p2 H3 hp2 e3 h3 => ⟨p, p2, xs, ys, rfl, rfl, e3 _ _ h2, h3, sz_of hz, fun r hr => q r _ (fresh_back (e2.trans e3) hr) ((e2.trans e3).trans (Ex.new hr)) upd_same⟩
theorem el_catR {p : Addr} {xs ys : List V} (ha : Ev ta σ H (.ref p)) (hp : H p = some (.lst xs)) (hb : EvL tb σ H ys) (hz : xs.length + ys.length ≤ 100000) : EvL (tOp rCat ta tb) σ H (xs ++ ys) := fun H1 e Q q =>
  ha H1 e _ fun H2 e2 => hb H2 (e.trans e2) _ fun p2 H3 hp2 e3 h3 => ⟨p, p2, xs, ys, rfl, rfl, ((e.trans e2).trans e3) _ _ hp, h3, sz_of hz, fun r hr => q r _ (fresh_back (e2.trans e3) hr) ((e2.trans e3).trans (Ex.new hr)) upd_same⟩
theorem el_slN {tl th : TO} {xs : List V} {lo hi : Option Int} (h : EvL te σ H xs) (h1 : EvO tl σ H lo) (h2 : EvO th σ H hi) : EvL (tSl (rSlL K) te tl th) σ H (cutV xs lo hi) := fun H1 e _ q =>
  h H1 e _ fun a H2 ha e2 hx => h1 H2 (e.trans e2) _ fun H3 e3 => h2 H3 ((e.trans e2).trans e3) _ fun H4 e4 =>
    ⟨a, xs, rfl, ex_l (e3.trans e4) (sq_of hx), fun p hp => q p _ (fresh_back ((e2.trans e3).trans e4) hp) (((e2.trans e3).trans e4).trans (Ex.new hp)) upd_same⟩
theorem el_rangeL (ha : Ev ta σ H (.int i)) (h0 : 0 ≤ i) (h1 : i ≤ 100000) : EvL (tLstRg (tRg1 ta)) σ H ((List.range i.toNat).map fun (n : Nat) => V.int n) := fun H1 e Q q =>
  ha H1 e _ fun H2 e2 => ⟨i, rfl, RgOk.of_le (by omega) (by omega) (by omega) h0, fun p hp => by
    refine q p _ (fresh_back e2 hp) (e2.trans (Ex.new hp)) ?_
    rw [upd_same]
    congr 2
    unfold rgV
    rw [Int.sub_zero]
    congr 1
    funext n
    rw [Int.zero_add]⟩
theorem el_sortedR {ns ms : List Int} (ha : EvL ta σ H (ns.map V.int)) (hm : ∀ ns' : List Int, ns'.Perm ns → ns'.Pairwise (· ≥ ·) → ns' = ms) : EvL (tCKw (rSortedKw K true [.bl true]) (tCons ta tNil) (tCons (tC (.bl true)) tNil)) σ H (ms.map V.int) := fun H1 e Q q =>
  ha H1 e _ fun p H2 _ e2 h2 => ⟨p, ns, rfl, rfl, sq_of h2, fun ns' r hp ho hr => by
    rw [hm ns' hp ho]
    exact q r _ (fresh_back e2 hr) (e2.trans (Ex.new hr)) upd_same⟩
theorem ev_count {p : Addr} {ns : List Int} (ha : Ev ta σ H (.ref p)) (hb : Ev tb σ H (.int k)) (h : SqL K H p (ns.map V.int)) (hp : H p = some (.lst (ns.map V.int))) : Ev (tBM K "list" (rCntI K) ta (tCons tb tNil)) σ H (.int (ns.count k : Nat)) := fun H1 e Q q =>
  ha H1 e _ fun H2 e2 => ⟨.inl ⟨rfl, _, sq_of ((e.trans e2) _ _ hp)⟩, hb H2 (e.trans e2) _ fun H3 e3 => ⟨p, ns, k, rfl, rfl, ex_l ((e.trans e2).trans e3) h, q H3 (e2.trans e3)⟩⟩

/-! #### comprehensions over enumerate -/
theorem el_lcE {xs : List V} {ta : TA} {j1 j2 : Nat} {vs : List Nat} {fb : Nat → Bool} {fv : Nat → V} (hx : ∀ H1, Ex H H1 → ∀ Q : List V → Hp → Prop, (∀ p H2, Ex H1 H2 → SqL K H2 p xs → Q [.ref p] H2) → ta σ H1 Q) (hz : xs.length ≤ 40000)
    (hw : ∀ x y, wipe (((wipe σ vs).set j1 (some x)).set j2 (some y)) vs = wipe σ vs)
    (ht : ∀ (i : Nat) (x : V) H1, Ex H H1 → xs[i]? = some x → EvT t (((wipe σ vs).set j1 (some (.int (i : Nat)))).set j2 (some x)) H1 (fb i))
    (he : ∀ (i : Nat) (x : V) H1, Ex H H1 → xs[i]? = some x → fb i = true → Ev te (((wipe σ vs).set j1 (some (.int (i : Nat)))).set j2 (some x)) H1 (fv i)) :
    EvL (tLc (iEnum K ta) (gTup K 2 (gCons (gName j1) (gCons (gName j2) gNil))) t te vs) σ H (given xs.length fb fv) := fun H0 e Q q => hx H0 e _ fun a H1 e1 hq => ⟨a, xs, rfl, hq, fun Dl hD => by
  refine ⟨fun i m H' => m = xs.length - i ∧ i ≤ xs.length ∧ Cw H1 fb fv Dl i H', ⟨xs.length, by simp, Nat.zero_le _, hD, Ex.new hD, upd_same⟩, ?_⟩
  rintro i m H' ⟨rfl, hi, p⟩
  have hq' : SqL K H' a xs := ex_l p.2.1 hq
  by_cases hlt : i < xs.length
  · have hxi : xs[i]? = some xs[i] := List.getElem?_eq_getElem hlt
    refine .inr ⟨⟨xs, _, hq', hxi⟩, fun H2 => Cw H1 fb fv Dl (i + 1) H2, fun H2 p' => ⟨xs.length - (i + 1), by omega, rfl, hlt, p'⟩, fun v H2 y => ?_⟩
    obtain ⟨T, x, rfl, hT, rfl, hx'⟩ := y
    have ex : x = xs[i] := by
      have := hx' xs hq'
      rw [hxi] at this
      exact (Option.some.inj this).symm
    have p2 : Cw H1 fb fv Dl i (upd H' T (.tup [.int (i : Nat), x])) := ⟨p.1, p.2.1.trans (Ex.new hT), by rw [upd_ne (ne_of_none p.2.2 hT)]; exact p.2.2⟩
    refine ⟨T, _, rfl, st_of upd_same, rfl, _, _, rfl, _, _, rfl, rfl, hw _ _, ?_⟩
    rw [ex] at p2 ⊢
    exact cw_turn p2 (by omega) (ht i _ H1 (e.trans e1) hxi) (fun hf => he i _ H1 (e.trans e1) hxi hf)
  · have ei : i = xs.length := by omega
    subst ei
    exact .inl ⟨⟨xs, hq', Nat.le_refl _⟩, q Dl H' (fresh_back e1 p.1) (e1.trans p.2.1) p.2.2⟩⟩
theorem ea_list {p : Addr} {xs : List V} (ha : Ev ta σ H (.ref p)) (h : SqL K H p xs) : ∀ H1, Ex H H1 → ∀ Q : List V → Hp → Prop, (∀ p H2, Ex H1 H2 → SqL K H2 p xs → Q [.ref p] H2) → tCons ta tNil σ H1 Q := fun H1 e Q q =>
  ha H1 e _ fun H2 e2 => q p H2 e2 (ex_l (e.trans e2) h)
theorem ea_listN {xs : List V} (ha : EvL ta σ H xs) : ∀ H1, Ex H H1 → ∀ Q : List V → Hp → Prop, (∀ p H2, Ex H1 H2 → SqL K H2 p xs → Q [.ref p] H2) → tCons ta tNil σ H1 Q := fun H1 e Q q =>
  ha H1 e _ fun p H2 _ e2 h => q p H2 e2 (sq_of h)
end

/-! ### statements that change nothing that stood: told from a heap below -/
def Rd (t : TS) (D : Ends) (σ : L2.St) (H : Hp) : Prop := ∀ H1, Ex H H1 → t D σ H1
section
variable {K : PySem.W.Frag} {σ : L2.St} {H H' : Hp} {ta tb tc te tx : TE} {c : TT} {x y z v : V} {a C : Addr} {D : Ends} {t u t2 : TS} {i : Nat}
theorem Rd.mono (e : Ex H H') (h : Rd t D σ H) : Rd t D σ H' := fun H1 e1 => h H1 (e.trans e1)
theorem rd_at (h : Rd t D σ H) : t D σ H := h H (Ex.refl H)
theorem rd_asg (h : Ev te σ H v) (k : Rd t D (σ.set i (some v)) H) : Rd (tSeq (tAsg te (gName i)) t) D σ H := fun H1 e => h H1 e _ fun H2 e2 => k H2 (e.trans e2)
theorem rd_asgL {xs : List V} (h : EvL te σ H xs) (k : ∀ p H1, H p = none → Ex H H1 → H1 p = some (.lst xs) → Rd t D (σ.set i (some (.ref p))) H1) : Rd (tSeq (tAsg te (gName i)) t) D σ H := fun H1 e => h H1 e _ fun p H2 hp e2 h2 => k p H2 (fresh_back e hp) (e.trans e2) h2 H2 (Ex.refl H2)
theorem rd_asgU {xs : List V} (h : EvU te σ H xs) (k : ∀ p H1, H p = none → Ex H H1 → H1 p = some (.tup xs) → Rd t D (σ.set i (some (.ref p))) H1) : Rd (tSeq (tAsg te (gName i)) t) D σ H := fun H1 e => h H1 e _ fun p H2 hp e2 h2 => k p H2 (fresh_back e hp) (e.trans e2) h2 H2 (Ex.refl H2)
theorem rd_aug {f : Int → Int → Int} {p q : Int} (hx : σ[i]? = some (some (.int p))) (h : Ev te σ H (.int q)) (k : Rd t D (σ.set i (some (.int (f p q)))) H) : Rd (tSeq (tAug i te (ipI f)) t) D σ H := fun H1 e => ⟨.int p, hx, h H1 e _ fun H2 e2 => ⟨p, q, rfl, rfl, k H2 (e.trans e2)⟩⟩
theorem rd_if {b : Bool} (h : EvT c σ H b) (h1 : b = true → Rd t D σ H) (h2 : b = false → Rd u D σ H) : Rd (tIfS c t u) D σ H := fun H1 e => h H1 e _ fun H2 e2 => by
  cases b with
  | true => exact h1 rfl H2 (e.trans e2)
  | false => exact h2 rfl H2 (e.trans e2)
/-- an if without else ahead of the rest -/
theorem rd_when {b : Bool} (h : EvT c σ H b) (h1 : b = true → Rd t { D with nx := t2 D } σ H) (h2 : b = false → Rd t2 D σ H) : Rd (tSeq (tIfS c t tNext) t2) D σ H := fun H1 e => h H1 e _ fun H2 e2 => by
  cases b with
  | true => exact h1 rfl H2 (e.trans e2)
  | false => exact h2 rfl H2 (e.trans e2)
theorem rd_ifs {b : Bool} (h : EvT c σ H b) (h1 : b = true → Rd t { D with nx := t2 D } σ H) (h2 : b = false → Rd u { D with nx := t2 D } σ H) : Rd (tSeq (tIfS c t u) t2) D σ H := fun H1 e => h H1 e _ fun H2 e2 => by
  cases b with
  | true => exact h1 rfl H2 (e.trans e2)
  | false => exact h2 rfl H2 (e.trans e2)
theorem rd_ret (h : Ev te σ H v) (k : ∀ H1, Ex H H1 → D.rt v H1) : Rd (tRet te) D σ H := fun H1 e => h H1 e _ fun H2 e2 => k H2 (e.trans e2)
theorem rd_retL {xs : List V} (h : EvL te σ H xs) (k : ∀ p H1, H p = none → Ex H H1 → H1 p = some (.lst xs) → D.rt (.ref p) H1) : Rd (tRet te) D σ H := fun H1 e => h H1 e _ fun p H2 hp e2 h2 => k p H2 (fresh_back e hp) (e.trans e2) h2
theorem rd_retU {xs : List V} (h : EvU te σ H xs) (k : ∀ p H1, H p = none → Ex H H1 → H1 p = some (.tup xs) → D.rt (.ref p) H1) : Rd (tRet te) D σ H := fun H1 e => h H1 e _ fun p H2 hp e2 h2 => k p H2 (fresh_back e hp) (e.trans e2) h2
theorem rd_next (k : ∀ H1, Ex H H1 → D.nx σ H1) : Rd tNext D σ H := k
theorem rd_asg1 (h : Ev te σ H v) (k : ∀ H1, Ex H H1 → D.nx (σ.set i (some v)) H1) : Rd (tAsg te (gName i)) D σ H := fun H1 e => h H1 e _ fun H2 e2 => k H2 (e.trans e2)
theorem rd_aug1 {f : Int → Int → Int} {p q : Int} (hx : σ[i]? = some (some (.int p))) (h : Ev te σ H (.int q)) (k : ∀ H1, Ex H H1 → D.nx (σ.set i (some (.int (f p q)))) H1) : Rd (tAug i te (ipI f)) D σ H := fun H1 e => ⟨.int p, hx, h H1 e _ fun H2 e2 => ⟨p, q, rfl, rfl, k H2 (e.trans e2)⟩⟩
/-- from a reading that is told from below to a promise that hands back a value -/
theorem rd_go {R : Prop} (h : Rd t D σ H) (k : t D σ H → R) : R := k (rd_at h)
end
end DL


set_option maxHeartbeats 4000000
/-! # How the specification's states lie in the heap; what each def promises -/
namespace DL
open PySem PySem.Spec PyProof.Rows L2 Evl

structure Adr where
  c_Section : Addr
  c_Device : Addr
  c_Polder : Addr
  c_Rules : Addr
  c_Block : Addr
  c_Plot : Addr
  c_Square : Addr
  c_Land : Addr
  f_Rules___init__ : Addr
  f_Block___init__ : Addr
  f_Plot___init__ : Addr
  f_Plot_has_ground : Addr
  f_Plot_is_there : Addr
  f_Plot_place_of : Addr
  f_Plot_apart : Addr
  f_Plot_how_far : Addr
  f_Plot_inward : Addr
  f_Plot_height_of : Addr
  f_Plot_most_floors : Addr
  f_Plot_is_near_street : Addr
  f_Plot_is_near_others : Addr
  f_Plot_is_open : Addr
  f_Plot_floors_on : Addr
  f_Plot_all_floors : Addr
  f_Plot_built : Addr
  f_Plot_wanted : Addr
  f_Plot_houses : Addr
  f_Plot_beside : Addr
  f_Plot_are_near : Addr
  f_Plot_near_pairs : Addr
  f_Plot_amounts : Addr
  f_Plot_broken : Addr
  f_Plot_most_of : Addr
  f_Plot_best : Addr
  f_Plot_set_rules : Addr
  f_Plot_add_block : Addr
  f_Plot_drop : Addr
  f_Plot_pave : Addr
  f_Plot_tell_check : Addr
  f_Plot_tell_square : Addr
  f_Plot_tell_houses : Addr
  f_Plot_tell_sums : Addr
  f_Plot_answer : Addr
  f_Section___init__ : Addr
  f_Section_level : Addr
  f_Device___init__ : Addr
  f_Polder___init__ : Addr
  f_Polder_sea : Addr
  f_Polder_is_section : Addr
  f_Polder_add_section : Addr
  f_Polder_add_device : Addr
  f_Polder_add_weir : Addr
  f_Polder_add_pump : Addr
  f_Polder_add_sluice : Addr
  f_Polder_add_inlet : Addr
  f_Polder_set_device : Addr
  f_Polder_would_run : Addr
  f_Polder_would_move : Addr
  f_Polder_take_turn : Addr
  f_Polder_step : Addr
  f_Polder_run : Addr
  f_Polder_tell_levels : Addr
  f_Polder_tell_device : Addr
  f_Polder_tell_sums : Addr
  f_Polder_answer : Addr
  f_Square___init__ : Addr
  f_Land___init__ : Addr
  f_Land_water_call : Addr
  f_Land_plot_call : Addr
  f_Land_set_map : Addr
  f_Land_level_of : Addr
  f_Land_depth : Addr
  f_Land_drowned : Addr
  f_Land_sums : Addr
  f_Land_storm : Addr
  f_Land_tell_square : Addr
  f_Land_tell_wet : Addr
  f_Land_harm : Addr
  f_Land_tell_harm : Addr
  f_Land_tell_safe : Addr
  f_Land_lift : Addr
  f_Land_tell_check : Addr
  f_are_rules : Addr
  f_is_ground : Addr
  f_plot_form : Addr
  f_is_level : Addr
  f_are_steps : Addr
  f_is_tide : Addr
  f_polder_form : Addr
  f_is_call : Addr
  f_answers : Addr
  f_answer_call : Addr
/-! ### what the top has written -/
structure TxSection (K : PySem.W.Frag) (mg : Str → Option Value) (A : Adr) : Prop where
  cl : Cls K A.c_Section
  made : Mk K A.c_Section A.f_Section___init__
  mg : mg "Section" = some (.ref A.c_Section)
  n_area : NoAttr K A.c_Section "area"
  n_water : NoAttr K A.c_Section "water"
  n_alarm : NoAttr K A.c_Section "alarm"
  n_alarms : NoAttr K A.c_Section "alarms"
  m_level : Meth K A.c_Section "level" A.f_Section_level
structure TxDevice (K : PySem.W.Frag) (mg : Str → Option Value) (A : Adr) : Prop where
  cl : Cls K A.c_Device
  made : Mk K A.c_Device A.f_Device___init__
  mg : mg "Device" = some (.ref A.c_Device)
  n_kind : NoAttr K A.c_Device "kind"
  n_section : NoAttr K A.c_Device "section"
  n_target : NoAttr K A.c_Device "target"
  n_mark : NoAttr K A.c_Device "mark"
  n_amount : NoAttr K A.c_Device "amount"
  n_stop : NoAttr K A.c_Device "stop"
  n_is_running : NoAttr K A.c_Device "is_running"
  n_moved : NoAttr K A.c_Device "moved"
  n_turns : NoAttr K A.c_Device "turns"
structure TxPolder (K : PySem.W.Frag) (mg : Str → Option Value) (A : Adr) : Prop where
  cl : Cls K A.c_Polder
  made : Mk K A.c_Polder A.f_Polder___init__
  mg : mg "Polder" = some (.ref A.c_Polder)
  n_tide : NoAttr K A.c_Polder "tide"
  n_time : NoAttr K A.c_Polder "time"
  n_sections : NoAttr K A.c_Polder "sections"
  n_devices : NoAttr K A.c_Polder "devices"
  n_rained : NoAttr K A.c_Polder "rained"
  n_dried : NoAttr K A.c_Polder "dried"
  n_let_in : NoAttr K A.c_Polder "let_in"
  n_let_out : NoAttr K A.c_Polder "let_out"
  m_sea : Meth K A.c_Polder "sea" A.f_Polder_sea
  m_is_section : Meth K A.c_Polder "is_section" A.f_Polder_is_section
  m_add_section : Meth K A.c_Polder "add_section" A.f_Polder_add_section
  m_add_device : Meth K A.c_Polder "add_device" A.f_Polder_add_device
  m_add_weir : Meth K A.c_Polder "add_weir" A.f_Polder_add_weir
  m_add_pump : Meth K A.c_Polder "add_pump" A.f_Polder_add_pump
  m_add_sluice : Meth K A.c_Polder "add_sluice" A.f_Polder_add_sluice
  m_add_inlet : Meth K A.c_Polder "add_inlet" A.f_Polder_add_inlet
  m_set_device : Meth K A.c_Polder "set_device" A.f_Polder_set_device
  m_would_run : Meth K A.c_Polder "would_run" A.f_Polder_would_run
  m_would_move : Meth K A.c_Polder "would_move" A.f_Polder_would_move
  m_take_turn : Meth K A.c_Polder "take_turn" A.f_Polder_take_turn
  m_step : Meth K A.c_Polder "step" A.f_Polder_step
  m_run : Meth K A.c_Polder "run" A.f_Polder_run
  m_tell_levels : Meth K A.c_Polder "tell_levels" A.f_Polder_tell_levels
  m_tell_device : Meth K A.c_Polder "tell_device" A.f_Polder_tell_device
  m_tell_sums : Meth K A.c_Polder "tell_sums" A.f_Polder_tell_sums
  m_answer : Meth K A.c_Polder "answer" A.f_Polder_answer
structure TxRules (K : PySem.W.Frag) (mg : Str → Option Value) (A : Adr) : Prop where
  cl : Cls K A.c_Rules
  made : Mk K A.c_Rules A.f_Rules___init__
  mg : mg "Rules" = some (.ref A.c_Rules)
  n_front : NoAttr K A.c_Rules "front"
  n_side : NoAttr K A.c_Rules "side"
  n_base : NoAttr K A.c_Rules "base"
  n_rise : NoAttr K A.c_Rules "rise"
  n_top : NoAttr K A.c_Rules "top"
  n_floor : NoAttr K A.c_Rules "floor"
  n_covered : NoAttr K A.c_Rules "covered"
  n_floors : NoAttr K A.c_Rules "floors"
  n_green : NoAttr K A.c_Rules "green"
  n_car : NoAttr K A.c_Rules "car"
  n_gap : NoAttr K A.c_Rules "gap"
structure TxBlock (K : PySem.W.Frag) (mg : Str → Option Value) (A : Adr) : Prop where
  cl : Cls K A.c_Block
  made : Mk K A.c_Block A.f_Block___init__
  mg : mg "Block" = some (.ref A.c_Block)
  n_x : NoAttr K A.c_Block "x"
  n_y : NoAttr K A.c_Block "y"
  n_x2 : NoAttr K A.c_Block "x2"
  n_y2 : NoAttr K A.c_Block "y2"
  n_floors : NoAttr K A.c_Block "floors"
structure TxPlot (K : PySem.W.Frag) (mg : Str → Option Value) (A : Adr) : Prop where
  cl : Cls K A.c_Plot
  made : Mk K A.c_Plot A.f_Plot___init__
  mg : mg "Plot" = some (.ref A.c_Plot)
  n_across : NoAttr K A.c_Plot "across"
  n_squares : NoAttr K A.c_Plot "squares"
  n_down : NoAttr K A.c_Plot "down"
  n_area : NoAttr K A.c_Plot "area"
  n_rules : NoAttr K A.c_Plot "rules"
  n_blocks : NoAttr K A.c_Plot "blocks"
  n_paved : NoAttr K A.c_Plot "paved"
  n_spaces : NoAttr K A.c_Plot "spaces"
  m_has_ground : Meth K A.c_Plot "has_ground" A.f_Plot_has_ground
  m_is_there : Meth K A.c_Plot "is_there" A.f_Plot_is_there
  m_place_of : Meth K A.c_Plot "place_of" A.f_Plot_place_of
  m_apart : Meth K A.c_Plot "apart" A.f_Plot_apart
  m_how_far : Meth K A.c_Plot "how_far" A.f_Plot_how_far
  m_inward : Meth K A.c_Plot "inward" A.f_Plot_inward
  m_height_of : Meth K A.c_Plot "height_of" A.f_Plot_height_of
  m_most_floors : Meth K A.c_Plot "most_floors" A.f_Plot_most_floors
  m_is_near_street : Meth K A.c_Plot "is_near_street" A.f_Plot_is_near_street
  m_is_near_others : Meth K A.c_Plot "is_near_others" A.f_Plot_is_near_others
  m_is_open : Meth K A.c_Plot "is_open" A.f_Plot_is_open
  m_floors_on : Meth K A.c_Plot "floors_on" A.f_Plot_floors_on
  m_all_floors : Meth K A.c_Plot "all_floors" A.f_Plot_all_floors
  m_built : Meth K A.c_Plot "built" A.f_Plot_built
  m_wanted : Meth K A.c_Plot "wanted" A.f_Plot_wanted
  m_houses : Meth K A.c_Plot "houses" A.f_Plot_houses
  m_beside : Meth K A.c_Plot "beside" A.f_Plot_beside
  m_are_near : Meth K A.c_Plot "are_near" A.f_Plot_are_near
  m_near_pairs : Meth K A.c_Plot "near_pairs" A.f_Plot_near_pairs
  m_amounts : Meth K A.c_Plot "amounts" A.f_Plot_amounts
  m_broken : Meth K A.c_Plot "broken" A.f_Plot_broken
  m_most_of : Meth K A.c_Plot "most_of" A.f_Plot_most_of
  m_best : Meth K A.c_Plot "best" A.f_Plot_best
  m_set_rules : Meth K A.c_Plot "set_rules" A.f_Plot_set_rules
  m_add_block : Meth K A.c_Plot "add_block" A.f_Plot_add_block
  m_drop : Meth K A.c_Plot "drop" A.f_Plot_drop
  m_pave : Meth K A.c_Plot "pave" A.f_Plot_pave
  m_tell_check : Meth K A.c_Plot "tell_check" A.f_Plot_tell_check
  m_tell_square : Meth K A.c_Plot "tell_square" A.f_Plot_tell_square
  m_tell_houses : Meth K A.c_Plot "tell_houses" A.f_Plot_tell_houses
  m_tell_sums : Meth K A.c_Plot "tell_sums" A.f_Plot_tell_sums
  m_answer : Meth K A.c_Plot "answer" A.f_Plot_answer
structure TxSquare (K : PySem.W.Frag) (mg : Str → Option Value) (A : Adr) : Prop where
  cl : Cls K A.c_Square
  made : Mk K A.c_Square A.f_Square___init__
  mg : mg "Square" = some (.ref A.c_Square)
  n_section : NoAttr K A.c_Square "section"
  n_height : NoAttr K A.c_Square "height"
  n_peak : NoAttr K A.c_Square "peak"
  n_wet : NoAttr K A.c_Square "wet"
structure TxLand (K : PySem.W.Frag) (mg : Str → Option Value) (A : Adr) : Prop where
  cl : Cls K A.c_Land
  made : Mk K A.c_Land A.f_Land___init__
  mg : mg "Land" = some (.ref A.c_Land)
  n_polder : NoAttr K A.c_Land "polder"
  n_plot : NoAttr K A.c_Land "plot"
  n_chart : NoAttr K A.c_Land "chart"
  n_raised : NoAttr K A.c_Land "raised"
  m_water_call : Meth K A.c_Land "water_call" A.f_Land_water_call
  m_plot_call : Meth K A.c_Land "plot_call" A.f_Land_plot_call
  m_set_map : Meth K A.c_Land "set_map" A.f_Land_set_map
  m_level_of : Meth K A.c_Land "level_of" A.f_Land_level_of
  m_depth : Meth K A.c_Land "depth" A.f_Land_depth
  m_drowned : Meth K A.c_Land "drowned" A.f_Land_drowned
  m_sums : Meth K A.c_Land "sums" A.f_Land_sums
  m_storm : Meth K A.c_Land "storm" A.f_Land_storm
  m_tell_square : Meth K A.c_Land "tell_square" A.f_Land_tell_square
  m_tell_wet : Meth K A.c_Land "tell_wet" A.f_Land_tell_wet
  m_harm : Meth K A.c_Land "harm" A.f_Land_harm
  m_tell_harm : Meth K A.c_Land "tell_harm" A.f_Land_tell_harm
  m_tell_safe : Meth K A.c_Land "tell_safe" A.f_Land_tell_safe
  m_lift : Meth K A.c_Land "lift" A.f_Land_lift
  m_tell_check : Meth K A.c_Land "tell_check" A.f_Land_tell_check
structure TxG (K : PySem.W.Frag) (mg : Str → Option Value) (A : Adr) : Prop where
  b_len : mg "len" = none
  b_min : mg "min" = none
  b_max : mg "max" = none
  b_sum : mg "sum" = none
  b_abs : mg "abs" = none
  b_list : mg "list" = none
  b_range : mg "range" = none
  b_enumerate : mg "enumerate" = none
  b_zip : mg "zip" = none
  b_sorted : mg "sorted" = none
  c_OTHERS : ∃ t, mg "OTHERS" = some (.int 0 t)
  c_OWN : ∃ t, mg "OWN" = some (.int 1 t)
  c_STREET : ∃ t, mg "STREET" = some (.int 2 t)
  c_MOST_ACROSS : ∃ t, mg "MOST_ACROSS" = some (.int 12 t)
  c_MOST_BOXES : ∃ t, mg "MOST_BOXES" = some (.int 20 t)
  c_MOST_FLOORS : ∃ t, mg "MOST_FLOORS" = some (.int 60 t)
  c_MOST_PAVED : ∃ t, mg "MOST_PAVED" = some (.int 1000 t)
  c_FAR : ∃ t, mg "FAR" = some (.int 1000 t)
  c_MOST_LEVEL : ∃ t, mg "MOST_LEVEL" = some (.int 10000 t)
  c_MOST_TIDE : ∃ t, mg "MOST_TIDE" = some (.int 30 t)
  c_MOST_AREA : ∃ t, mg "MOST_AREA" = some (.int 1000 t)
  c_MOST_SECTIONS : ∃ t, mg "MOST_SECTIONS" = some (.int 10 t)
  c_MOST_DEVICES : ∃ t, mg "MOST_DEVICES" = some (.int 20 t)
  c_MOST_WIDTH : ∃ t, mg "MOST_WIDTH" = some (.int 1000 t)
  c_MOST_AMOUNT : ∃ t, mg "MOST_AMOUNT" = some (.int 100000 t)
  c_MOST_STEPS : ∃ t, mg "MOST_STEPS" = some (.int 100 t)
  c_MOST_RAIN : ∃ t, mg "MOST_RAIN" = some (.int 500 t)
  c_OUTSIDE : ∃ t, mg "OUTSIDE" = some (.int (-1) t)
  c_WEIR : ∃ t, mg "WEIR" = some (.int 0 t)
  c_PUMP : ∃ t, mg "PUMP" = some (.int 1 t)
  c_SLUICE : ∃ t, mg "SLUICE" = some (.int 2 t)
  c_INLET : ∃ t, mg "INLET" = some (.int 3 t)
  c_MOST_HEIGHT : ∃ t, mg "MOST_HEIGHT" = some (.int 10000 t)
  c_MOST_HARM : ∃ t, mg "MOST_HARM" = some (.int 2000 t)
  c_MOST_RAISED : ∃ t, mg "MOST_RAISED" = some (.int 5000 t)
  c_DROWNED_RULE : ∃ t, mg "DROWNED_RULE" = some (.int 10 t)
  m_are_rules : mg "are_rules" = some (.ref A.f_are_rules)
  k_are_rules : PySem.W.keepIn K (.ref A.f_are_rules) = true
  m_is_ground : mg "is_ground" = some (.ref A.f_is_ground)
  k_is_ground : PySem.W.keepIn K (.ref A.f_is_ground) = true
  m_plot_form : mg "plot_form" = some (.ref A.f_plot_form)
  k_plot_form : PySem.W.keepIn K (.ref A.f_plot_form) = true
  m_is_level : mg "is_level" = some (.ref A.f_is_level)
  k_is_level : PySem.W.keepIn K (.ref A.f_is_level) = true
  m_are_steps : mg "are_steps" = some (.ref A.f_are_steps)
  k_are_steps : PySem.W.keepIn K (.ref A.f_are_steps) = true
  m_is_tide : mg "is_tide" = some (.ref A.f_is_tide)
  k_is_tide : PySem.W.keepIn K (.ref A.f_is_tide) = true
  m_polder_form : mg "polder_form" = some (.ref A.f_polder_form)
  k_polder_form : PySem.W.keepIn K (.ref A.f_polder_form) = true
  m_is_call : mg "is_call" = some (.ref A.f_is_call)
  k_is_call : PySem.W.keepIn K (.ref A.f_is_call) = true
  m_answers : mg "answers" = some (.ref A.f_answers)
  k_answers : PySem.W.keepIn K (.ref A.f_answers) = true
  m_answer_call : mg "answer_call" = some (.ref A.f_answer_call)
  k_answer_call : PySem.W.keepIn K (.ref A.f_answer_call) = true
structure Txt (K : PySem.W.Frag) (mg : Str → Option Value) (A : Adr) : Prop where
  Section : TxSection K mg A
  Device : TxDevice K mg A
  Polder : TxPolder K mg A
  Rules : TxRules K mg A
  Block : TxBlock K mg A
  Plot : TxPlot K mg A
  Square : TxSquare K mg A
  Land : TxLand K mg A
  g : TxG K mg A

/-! ### layouts -/
structure PL where
  p : Addr
  t : Addr
  s : Addr
  d : Addr
  secs : List Addr
  devs : List Addr
structure GL where
  q : Addr
  sq : Addr
  r : Addr
  b : Addr
  blks : List Addr
structure LL where
  L : Addr
  pol : PL
  plo : GL
  c : Addr
  sqs : List Addr
/-- a device's target: -1 is outside -/
def tgt (d : Kg79.Device) : Int := if d.kind = 0 then (d.to : Int) else if d.kind = 1 then (if d.to = d.from_ then -1 else (d.to : Int)) else -1
/-- across, as the program has it: 0 without ground -/
def acr (s : Kg72.State) : Nat := if s.ground.squares = [] then 0 else s.ground.across
def chV (y : LL) (s : Kg85.State) : V := if s.map = [] then .non else .ref y.c
def secF (x : Kg79.Section) : List (Str × V) := [("area", .int (x.area : Nat)), ("water", .int (x.water : Nat)), ("alarm", .int (x.high : Nat)), ("alarms", .int (x.alarms : Nat))]
theorem secF_names (x : Kg79.Section) : (secF x).map (·.1) = [("area" : Str), ("water" : Str), ("alarm" : Str), ("alarms" : Str)] := rfl
theorem secF_len (x : Kg79.Section) : (secF x).length = 4 := rfl
def devF (x : Kg79.Device) : List (Str × V) := [("kind", .int (x.kind : Nat)), ("section", .int (x.from_ : Nat)), ("target", .int (tgt x)), ("mark", .int (x.crest : Nat)), ("amount", .int (x.cap : Nat)), ("stop", .int (x.off : Nat)), ("is_running", .bl x.runs), ("moved", .int (x.moved : Nat)), ("turns", .int (x.steps : Nat))]
theorem devF_names (x : Kg79.Device) : (devF x).map (·.1) = [("kind" : Str), ("section" : Str), ("target" : Str), ("mark" : Str), ("amount" : Str), ("stop" : Str), ("is_running" : Str), ("moved" : Str), ("turns" : Str)] := rfl
theorem devF_len (x : Kg79.Device) : (devF x).length = 9 := rfl
def polF (y : PL) (s : Kg79.State) : List (Str × V) := [("tide", .ref y.t), ("time", .int (s.time : Nat)), ("sections", .ref y.s), ("devices", .ref y.d), ("rained", .int (s.rain : Nat)), ("dried", .int (s.sun : Nat)), ("let_in", .int (s.inside : Nat)), ("let_out", .int (s.out : Nat))]
theorem polF_names (y : PL) (s : Kg79.State) : (polF y s).map (·.1) = [("tide" : Str), ("time" : Str), ("sections" : Str), ("devices" : Str), ("rained" : Str), ("dried" : Str), ("let_in" : Str), ("let_out" : Str)] := rfl
theorem polF_len (y : PL) (s : Kg79.State) : (polF y s).length = 8 := rfl
def ruF (x : Kg72.Rules) : List (Str × V) := [("front", .int (x.front : Nat)), ("side", .int (x.side : Nat)), ("base", .int (x.base : Nat)), ("rise", .int (x.rise : Nat)), ("top", .int (x.top : Nat)), ("floor", .int (x.floor : Nat)), ("covered", .int (x.covered : Nat)), ("floors", .int (x.floors : Nat)), ("green", .int (x.green : Nat)), ("car", .int (x.car : Nat)), ("gap", .int (x.gap : Nat))]
theorem ruF_names (x : Kg72.Rules) : (ruF x).map (·.1) = [("front" : Str), ("side" : Str), ("base" : Str), ("rise" : Str), ("top" : Str), ("floor" : Str), ("covered" : Str), ("floors" : Str), ("green" : Str), ("car" : Str), ("gap" : Str)] := rfl
theorem ruF_len (x : Kg72.Rules) : (ruF x).length = 11 := rfl
def blkF (x : Kg72.Box) : List (Str × V) := [("x", .int (x.x : Nat)), ("y", .int (x.y : Nat)), ("x2", .int (x.x2 : Nat)), ("y2", .int (x.y2 : Nat)), ("floors", .int (x.floors : Nat))]
theorem blkF_names (x : Kg72.Box) : (blkF x).map (·.1) = [("x" : Str), ("y" : Str), ("x2" : Str), ("y2" : Str), ("floors" : Str)] := rfl
theorem blkF_len (x : Kg72.Box) : (blkF x).length = 5 := rfl
def plotF (y : GL) (s : Kg72.State) : List (Str × V) := [("across", .int (acr s : Nat)), ("squares", .ref y.sq), ("down", .int (s.ground.down : Nat)), ("area", .int (s.area : Nat)), ("rules", .ref y.r), ("blocks", .ref y.b), ("paved", .int (s.paved : Nat)), ("spaces", .int (s.spaces : Nat))]
theorem plotF_names (y : GL) (s : Kg72.State) : (plotF y s).map (·.1) = [("across" : Str), ("squares" : Str), ("down" : Str), ("area" : Str), ("rules" : Str), ("blocks" : Str), ("paved" : Str), ("spaces" : Str)] := rfl
theorem plotF_len (y : GL) (s : Kg72.State) : (plotF y s).length = 8 := rfl
def sqF (x : Kg85.Soil) : List (Str × V) := [("section", .int (x.section_ : Nat)), ("height", .int (x.height : Nat)), ("peak", .int (x.peak : Nat)), ("wet", .int (x.wet : Nat))]
theorem sqF_names (x : Kg85.Soil) : (sqF x).map (·.1) = [("section" : Str), ("height" : Str), ("peak" : Str), ("wet" : Str)] := rfl
theorem sqF_len (x : Kg85.Soil) : (sqF x).length = 4 := rfl
def landF (y : LL) (s : Kg85.State) : List (Str × V) := [("polder", .ref y.pol.p), ("plot", .ref y.plo.q), ("chart", chV y s), ("raised", .int (s.raised : Nat))]
theorem landF_names (y : LL) (s : Kg85.State) : (landF y s).map (·.1) = [("polder" : Str), ("plot" : Str), ("chart" : Str), ("raised" : Str)] := rfl
theorem landF_len (y : LL) (s : Kg85.State) : (landF y s).length = 4 := rfl
section
variable {K : PySem.W.Frag} {mg : Str → Option Value} {A : Adr} {H : Hp} {a : Addr} {x : Kg79.Section}
theorem lk_Section_area : (secF x).lookup ("area" : Str) = some (.int (x.area : Nat)) := lk_ix (i := 0) (secF_names x) (by decide +kernel) rfl
theorem has_Section_area (T : Txt K mg A) (h : InsAt A.c_Section H a (secF x)) : Has K H a "area" (.int (x.area : Nat)) := has_of h T.Section.cl T.Section.n_area lk_Section_area
theorem lk_Section_water : (secF x).lookup ("water" : Str) = some (.int (x.water : Nat)) := lk_ix (i := 1) (secF_names x) (by decide +kernel) rfl
theorem has_Section_water (T : Txt K mg A) (h : InsAt A.c_Section H a (secF x)) : Has K H a "water" (.int (x.water : Nat)) := has_of h T.Section.cl T.Section.n_water lk_Section_water
theorem lk_Section_alarm : (secF x).lookup ("alarm" : Str) = some (.int (x.high : Nat)) := lk_ix (i := 2) (secF_names x) (by decide +kernel) rfl
theorem has_Section_alarm (T : Txt K mg A) (h : InsAt A.c_Section H a (secF x)) : Has K H a "alarm" (.int (x.high : Nat)) := has_of h T.Section.cl T.Section.n_alarm lk_Section_alarm
theorem lk_Section_alarms : (secF x).lookup ("alarms" : Str) = some (.int (x.alarms : Nat)) := lk_ix (i := 3) (secF_names x) (by decide +kernel) rfl
theorem has_Section_alarms (T : Txt K mg A) (h : InsAt A.c_Section H a (secF x)) : Has K H a "alarms" (.int (x.alarms : Nat)) := has_of h T.Section.cl T.Section.n_alarms lk_Section_alarms
theorem hm_Section_level (h : InsAt A.c_Section H a (secF x)) : HasM H a A.c_Section "level" := hasM_of h (lk_no (secF_names x) (by decide +kernel))
end
section
variable {K : PySem.W.Frag} {mg : Str → Option Value} {A : Adr} {H : Hp} {a : Addr} {x : Kg79.Device}
theorem lk_Device_kind : (devF x).lookup ("kind" : Str) = some (.int (x.kind : Nat)) := lk_ix (i := 0) (devF_names x) (by decide +kernel) rfl
theorem has_Device_kind (T : Txt K mg A) (h : InsAt A.c_Device H a (devF x)) : Has K H a "kind" (.int (x.kind : Nat)) := has_of h T.Device.cl T.Device.n_kind lk_Device_kind
theorem lk_Device_section : (devF x).lookup ("section" : Str) = some (.int (x.from_ : Nat)) := lk_ix (i := 1) (devF_names x) (by decide +kernel) rfl
theorem has_Device_section (T : Txt K mg A) (h : InsAt A.c_Device H a (devF x)) : Has K H a "section" (.int (x.from_ : Nat)) := has_of h T.Device.cl T.Device.n_section lk_Device_section
theorem lk_Device_target : (devF x).lookup ("target" : Str) = some (.int (tgt x)) := lk_ix (i := 2) (devF_names x) (by decide +kernel) rfl
theorem has_Device_target (T : Txt K mg A) (h : InsAt A.c_Device H a (devF x)) : Has K H a "target" (.int (tgt x)) := has_of h T.Device.cl T.Device.n_target lk_Device_target
theorem lk_Device_mark : (devF x).lookup ("mark" : Str) = some (.int (x.crest : Nat)) := lk_ix (i := 3) (devF_names x) (by decide +kernel) rfl
theorem has_Device_mark (T : Txt K mg A) (h : InsAt A.c_Device H a (devF x)) : Has K H a "mark" (.int (x.crest : Nat)) := has_of h T.Device.cl T.Device.n_mark lk_Device_mark
theorem lk_Device_amount : (devF x).lookup ("amount" : Str) = some (.int (x.cap : Nat)) := lk_ix (i := 4) (devF_names x) (by decide +kernel) rfl
theorem has_Device_amount (T : Txt K mg A) (h : InsAt A.c_Device H a (devF x)) : Has K H a "amount" (.int (x.cap : Nat)) := has_of h T.Device.cl T.Device.n_amount lk_Device_amount
theorem lk_Device_stop : (devF x).lookup ("stop" : Str) = some (.int (x.off : Nat)) := lk_ix (i := 5) (devF_names x) (by decide +kernel) rfl
theorem has_Device_stop (T : Txt K mg A) (h : InsAt A.c_Device H a (devF x)) : Has K H a "stop" (.int (x.off : Nat)) := has_of h T.Device.cl T.Device.n_stop lk_Device_stop
theorem lk_Device_is_running : (devF x).lookup ("is_running" : Str) = some (.bl x.runs) := lk_ix (i := 6) (devF_names x) (by decide +kernel) rfl
theorem has_Device_is_running (T : Txt K mg A) (h : InsAt A.c_Device H a (devF x)) : Has K H a "is_running" (.bl x.runs) := has_of h T.Device.cl T.Device.n_is_running lk_Device_is_running
theorem lk_Device_moved : (devF x).lookup ("moved" : Str) = some (.int (x.moved : Nat)) := lk_ix (i := 7) (devF_names x) (by decide +kernel) rfl
theorem has_Device_moved (T : Txt K mg A) (h : InsAt A.c_Device H a (devF x)) : Has K H a "moved" (.int (x.moved : Nat)) := has_of h T.Device.cl T.Device.n_moved lk_Device_moved
theorem lk_Device_turns : (devF x).lookup ("turns" : Str) = some (.int (x.steps : Nat)) := lk_ix (i := 8) (devF_names x) (by decide +kernel) rfl
theorem has_Device_turns (T : Txt K mg A) (h : InsAt A.c_Device H a (devF x)) : Has K H a "turns" (.int (x.steps : Nat)) := has_of h T.Device.cl T.Device.n_turns lk_Device_turns
end
section
variable {K : PySem.W.Frag} {mg : Str → Option Value} {A : Adr} {H : Hp} {a : Addr} {y : PL} {s : Kg79.State}
theorem lk_Polder_tide : (polF y s).lookup ("tide" : Str) = some (.ref y.t) := lk_ix (i := 0) (polF_names y s) (by decide +kernel) rfl
theorem has_Polder_tide (T : Txt K mg A) (h : InsAt A.c_Polder H a (polF y s)) : Has K H a "tide" (.ref y.t) := has_of h T.Polder.cl T.Polder.n_tide lk_Polder_tide
theorem lk_Polder_time : (polF y s).lookup ("time" : Str) = some (.int (s.time : Nat)) := lk_ix (i := 1) (polF_names y s) (by decide +kernel) rfl
theorem has_Polder_time (T : Txt K mg A) (h : InsAt A.c_Polder H a (polF y s)) : Has K H a "time" (.int (s.time : Nat)) := has_of h T.Polder.cl T.Polder.n_time lk_Polder_time
theorem lk_Polder_sections : (polF y s).lookup ("sections" : Str) = some (.ref y.s) := lk_ix (i := 2) (polF_names y s) (by decide +kernel) rfl
theorem has_Polder_sections (T : Txt K mg A) (h : InsAt A.c_Polder H a (polF y s)) : Has K H a "sections" (.ref y.s) := has_of h T.Polder.cl T.Polder.n_sections lk_Polder_sections
theorem lk_Polder_devices : (polF y s).lookup ("devices" : Str) = some (.ref y.d) := lk_ix (i := 3) (polF_names y s) (by decide +kernel) rfl
theorem has_Polder_devices (T : Txt K mg A) (h : InsAt A.c_Polder H a (polF y s)) : Has K H a "devices" (.ref y.d) := has_of h T.Polder.cl T.Polder.n_devices lk_Polder_devices
theorem lk_Polder_rained : (polF y s).lookup ("rained" : Str) = some (.int (s.rain : Nat)) := lk_ix (i := 4) (polF_names y s) (by decide +kernel) rfl
theorem has_Polder_rained (T : Txt K mg A) (h : InsAt A.c_Polder H a (polF y s)) : Has K H a "rained" (.int (s.rain : Nat)) := has_of h T.Polder.cl T.Polder.n_rained lk_Polder_rained
theorem lk_Polder_dried : (polF y s).lookup ("dried" : Str) = some (.int (s.sun : Nat)) := lk_ix (i := 5) (polF_names y s) (by decide +kernel) rfl
theorem has_Polder_dried (T : Txt K mg A) (h : InsAt A.c_Polder H a (polF y s)) : Has K H a "dried" (.int (s.sun : Nat)) := has_of h T.Polder.cl T.Polder.n_dried lk_Polder_dried
theorem lk_Polder_let_in : (polF y s).lookup ("let_in" : Str) = some (.int (s.inside : Nat)) := lk_ix (i := 6) (polF_names y s) (by decide +kernel) rfl
theorem has_Polder_let_in (T : Txt K mg A) (h : InsAt A.c_Polder H a (polF y s)) : Has K H a "let_in" (.int (s.inside : Nat)) := has_of h T.Polder.cl T.Polder.n_let_in lk_Polder_let_in
theorem lk_Polder_let_out : (polF y s).lookup ("let_out" : Str) = some (.int (s.out : Nat)) := lk_ix (i := 7) (polF_names y s) (by decide +kernel) rfl
theorem has_Polder_let_out (T : Txt K mg A) (h : InsAt A.c_Polder H a (polF y s)) : Has K H a "let_out" (.int (s.out : Nat)) := has_of h T.Polder.cl T.Polder.n_let_out lk_Polder_let_out
theorem hm_Polder_sea (h : InsAt A.c_Polder H a (polF y s)) : HasM H a A.c_Polder "sea" := hasM_of h (lk_no (polF_names y s) (by decide +kernel))
theorem hm_Polder_is_section (h : InsAt A.c_Polder H a (polF y s)) : HasM H a A.c_Polder "is_section" := hasM_of h (lk_no (polF_names y s) (by decide +kernel))
theorem hm_Polder_add_section (h : InsAt A.c_Polder H a (polF y s)) : HasM H a A.c_Polder "add_section" := hasM_of h (lk_no (polF_names y s) (by decide +kernel))
theorem hm_Polder_add_device (h : InsAt A.c_Polder H a (polF y s)) : HasM H a A.c_Polder "add_device" := hasM_of h (lk_no (polF_names y s) (by decide +kernel))
theorem hm_Polder_add_weir (h : InsAt A.c_Polder H a (polF y s)) : HasM H a A.c_Polder "add_weir" := hasM_of h (lk_no (polF_names y s) (by decide +kernel))
theorem hm_Polder_add_pump (h : InsAt A.c_Polder H a (polF y s)) : HasM H a A.c_Polder "add_pump" := hasM_of h (lk_no (polF_names y s) (by decide +kernel))
theorem hm_Polder_add_sluice (h : InsAt A.c_Polder H a (polF y s)) : HasM H a A.c_Polder "add_sluice" := hasM_of h (lk_no (polF_names y s) (by decide +kernel))
theorem hm_Polder_add_inlet (h : InsAt A.c_Polder H a (polF y s)) : HasM H a A.c_Polder "add_inlet" := hasM_of h (lk_no (polF_names y s) (by decide +kernel))
theorem hm_Polder_set_device (h : InsAt A.c_Polder H a (polF y s)) : HasM H a A.c_Polder "set_device" := hasM_of h (lk_no (polF_names y s) (by decide +kernel))
theorem hm_Polder_would_run (h : InsAt A.c_Polder H a (polF y s)) : HasM H a A.c_Polder "would_run" := hasM_of h (lk_no (polF_names y s) (by decide +kernel))
theorem hm_Polder_would_move (h : InsAt A.c_Polder H a (polF y s)) : HasM H a A.c_Polder "would_move" := hasM_of h (lk_no (polF_names y s) (by decide +kernel))
theorem hm_Polder_take_turn (h : InsAt A.c_Polder H a (polF y s)) : HasM H a A.c_Polder "take_turn" := hasM_of h (lk_no (polF_names y s) (by decide +kernel))
theorem hm_Polder_step (h : InsAt A.c_Polder H a (polF y s)) : HasM H a A.c_Polder "step" := hasM_of h (lk_no (polF_names y s) (by decide +kernel))
theorem hm_Polder_run (h : InsAt A.c_Polder H a (polF y s)) : HasM H a A.c_Polder "run" := hasM_of h (lk_no (polF_names y s) (by decide +kernel))
theorem hm_Polder_tell_levels (h : InsAt A.c_Polder H a (polF y s)) : HasM H a A.c_Polder "tell_levels" := hasM_of h (lk_no (polF_names y s) (by decide +kernel))
theorem hm_Polder_tell_device (h : InsAt A.c_Polder H a (polF y s)) : HasM H a A.c_Polder "tell_device" := hasM_of h (lk_no (polF_names y s) (by decide +kernel))
theorem hm_Polder_tell_sums (h : InsAt A.c_Polder H a (polF y s)) : HasM H a A.c_Polder "tell_sums" := hasM_of h (lk_no (polF_names y s) (by decide +kernel))
theorem hm_Polder_answer (h : InsAt A.c_Polder H a (polF y s)) : HasM H a A.c_Polder "answer" := hasM_of h (lk_no (polF_names y s) (by decide +kernel))
end
section
variable {K : PySem.W.Frag} {mg : Str → Option Value} {A : Adr} {H : Hp} {a : Addr} {x : Kg72.Rules}
theorem lk_Rules_front : (ruF x).lookup ("front" : Str) = some (.int (x.front : Nat)) := lk_ix (i := 0) (ruF_names x) (by decide +kernel) rfl
theorem has_Rules_front (T : Txt K mg A) (h : InsAt A.c_Rules H a (ruF x)) : Has K H a "front" (.int (x.front : Nat)) := has_of h T.Rules.cl T.Rules.n_front lk_Rules_front
theorem lk_Rules_side : (ruF x).lookup ("side" : Str) = some (.int (x.side : Nat)) := lk_ix (i := 1) (ruF_names x) (by decide +kernel) rfl
theorem has_Rules_side (T : Txt K mg A) (h : InsAt A.c_Rules H a (ruF x)) : Has K H a "side" (.int (x.side : Nat)) := has_of h T.Rules.cl T.Rules.n_side lk_Rules_side
theorem lk_Rules_base : (ruF x).lookup ("base" : Str) = some (.int (x.base : Nat)) := lk_ix (i := 2) (ruF_names x) (by decide +kernel) rfl
theorem has_Rules_base (T : Txt K mg A) (h : InsAt A.c_Rules H a (ruF x)) : Has K H a "base" (.int (x.base : Nat)) := has_of h T.Rules.cl T.Rules.n_base lk_Rules_base
theorem lk_Rules_rise : (ruF x).lookup ("rise" : Str) = some (.int (x.rise : Nat)) := lk_ix (i := 3) (ruF_names x) (by decide +kernel) rfl
theorem has_Rules_rise (T : Txt K mg A) (h : InsAt A.c_Rules H a (ruF x)) : Has K H a "rise" (.int (x.rise : Nat)) := has_of h T.Rules.cl T.Rules.n_rise lk_Rules_rise
theorem lk_Rules_top : (ruF x).lookup ("top" : Str) = some (.int (x.top : Nat)) := lk_ix (i := 4) (ruF_names x) (by decide +kernel) rfl
theorem has_Rules_top (T : Txt K mg A) (h : InsAt A.c_Rules H a (ruF x)) : Has K H a "top" (.int (x.top : Nat)) := has_of h T.Rules.cl T.Rules.n_top lk_Rules_top
theorem lk_Rules_floor : (ruF x).lookup ("floor" : Str) = some (.int (x.floor : Nat)) := lk_ix (i := 5) (ruF_names x) (by decide +kernel) rfl
theorem has_Rules_floor (T : Txt K mg A) (h : InsAt A.c_Rules H a (ruF x)) : Has K H a "floor" (.int (x.floor : Nat)) := has_of h T.Rules.cl T.Rules.n_floor lk_Rules_floor
theorem lk_Rules_covered : (ruF x).lookup ("covered" : Str) = some (.int (x.covered : Nat)) := lk_ix (i := 6) (ruF_names x) (by decide +kernel) rfl
theorem has_Rules_covered (T : Txt K mg A) (h : InsAt A.c_Rules H a (ruF x)) : Has K H a "covered" (.int (x.covered : Nat)) := has_of h T.Rules.cl T.Rules.n_covered lk_Rules_covered
theorem lk_Rules_floors : (ruF x).lookup ("floors" : Str) = some (.int (x.floors : Nat)) := lk_ix (i := 7) (ruF_names x) (by decide +kernel) rfl
theorem has_Rules_floors (T : Txt K mg A) (h : InsAt A.c_Rules H a (ruF x)) : Has K H a "floors" (.int (x.floors : Nat)) := has_of h T.Rules.cl T.Rules.n_floors lk_Rules_floors
theorem lk_Rules_green : (ruF x).lookup ("green" : Str) = some (.int (x.green : Nat)) := lk_ix (i := 8) (ruF_names x) (by decide +kernel) rfl
theorem has_Rules_green (T : Txt K mg A) (h : InsAt A.c_Rules H a (ruF x)) : Has K H a "green" (.int (x.green : Nat)) := has_of h T.Rules.cl T.Rules.n_green lk_Rules_green
theorem lk_Rules_car : (ruF x).lookup ("car" : Str) = some (.int (x.car : Nat)) := lk_ix (i := 9) (ruF_names x) (by decide +kernel) rfl
theorem has_Rules_car (T : Txt K mg A) (h : InsAt A.c_Rules H a (ruF x)) : Has K H a "car" (.int (x.car : Nat)) := has_of h T.Rules.cl T.Rules.n_car lk_Rules_car
theorem lk_Rules_gap : (ruF x).lookup ("gap" : Str) = some (.int (x.gap : Nat)) := lk_ix (i := 10) (ruF_names x) (by decide +kernel) rfl
theorem has_Rules_gap (T : Txt K mg A) (h : InsAt A.c_Rules H a (ruF x)) : Has K H a "gap" (.int (x.gap : Nat)) := has_of h T.Rules.cl T.Rules.n_gap lk_Rules_gap
end
section
variable {K : PySem.W.Frag} {mg : Str → Option Value} {A : Adr} {H : Hp} {a : Addr} {x : Kg72.Box}
theorem lk_Block_x : (blkF x).lookup ("x" : Str) = some (.int (x.x : Nat)) := lk_ix (i := 0) (blkF_names x) (by decide +kernel) rfl
theorem has_Block_x (T : Txt K mg A) (h : InsAt A.c_Block H a (blkF x)) : Has K H a "x" (.int (x.x : Nat)) := has_of h T.Block.cl T.Block.n_x lk_Block_x
theorem lk_Block_y : (blkF x).lookup ("y" : Str) = some (.int (x.y : Nat)) := lk_ix (i := 1) (blkF_names x) (by decide +kernel) rfl
theorem has_Block_y (T : Txt K mg A) (h : InsAt A.c_Block H a (blkF x)) : Has K H a "y" (.int (x.y : Nat)) := has_of h T.Block.cl T.Block.n_y lk_Block_y
theorem lk_Block_x2 : (blkF x).lookup ("x2" : Str) = some (.int (x.x2 : Nat)) := lk_ix (i := 2) (blkF_names x) (by decide +kernel) rfl
theorem has_Block_x2 (T : Txt K mg A) (h : InsAt A.c_Block H a (blkF x)) : Has K H a "x2" (.int (x.x2 : Nat)) := has_of h T.Block.cl T.Block.n_x2 lk_Block_x2
theorem lk_Block_y2 : (blkF x).lookup ("y2" : Str) = some (.int (x.y2 : Nat)) := lk_ix (i := 3) (blkF_names x) (by decide +kernel) rfl
theorem has_Block_y2 (T : Txt K mg A) (h : InsAt A.c_Block H a (blkF x)) : Has K H a "y2" (.int (x.y2 : Nat)) := has_of h T.Block.cl T.Block.n_y2 lk_Block_y2
theorem lk_Block_floors : (blkF x).lookup ("floors" : Str) = some (.int (x.floors : Nat)) := lk_ix (i := 4) (blkF_names x) (by decide +kernel) rfl
theorem has_Block_floors (T : Txt K mg A) (h : InsAt A.c_Block H a (blkF x)) : Has K H a "floors" (.int (x.floors : Nat)) := has_of h T.Block.cl T.Block.n_floors lk_Block_floors
end
section
variable {K : PySem.W.Frag} {mg : Str → Option Value} {A : Adr} {H : Hp} {a : Addr} {y : GL} {s : Kg72.State}
theorem lk_Plot_across : (plotF y s).lookup ("across" : Str) = some (.int (acr s : Nat)) := lk_ix (i := 0) (plotF_names y s) (by decide +kernel) rfl
theorem has_Plot_across (T : Txt K mg A) (h : InsAt A.c_Plot H a (plotF y s)) : Has K H a "across" (.int (acr s : Nat)) := has_of h T.Plot.cl T.Plot.n_across lk_Plot_across
theorem lk_Plot_squares : (plotF y s).lookup ("squares" : Str) = some (.ref y.sq) := lk_ix (i := 1) (plotF_names y s) (by decide +kernel) rfl
theorem has_Plot_squares (T : Txt K mg A) (h : InsAt A.c_Plot H a (plotF y s)) : Has K H a "squares" (.ref y.sq) := has_of h T.Plot.cl T.Plot.n_squares lk_Plot_squares
theorem lk_Plot_down : (plotF y s).lookup ("down" : Str) = some (.int (s.ground.down : Nat)) := lk_ix (i := 2) (plotF_names y s) (by decide +kernel) rfl
theorem has_Plot_down (T : Txt K mg A) (h : InsAt A.c_Plot H a (plotF y s)) : Has K H a "down" (.int (s.ground.down : Nat)) := has_of h T.Plot.cl T.Plot.n_down lk_Plot_down
theorem lk_Plot_area : (plotF y s).lookup ("area" : Str) = some (.int (s.area : Nat)) := lk_ix (i := 3) (plotF_names y s) (by decide +kernel) rfl
theorem has_Plot_area (T : Txt K mg A) (h : InsAt A.c_Plot H a (plotF y s)) : Has K H a "area" (.int (s.area : Nat)) := has_of h T.Plot.cl T.Plot.n_area lk_Plot_area
theorem lk_Plot_rules : (plotF y s).lookup ("rules" : Str) = some (.ref y.r) := lk_ix (i := 4) (plotF_names y s) (by decide +kernel) rfl
theorem has_Plot_rules (T : Txt K mg A) (h : InsAt A.c_Plot H a (plotF y s)) : Has K H a "rules" (.ref y.r) := has_of h T.Plot.cl T.Plot.n_rules lk_Plot_rules
theorem lk_Plot_blocks : (plotF y s).lookup ("blocks" : Str) = some (.ref y.b) := lk_ix (i := 5) (plotF_names y s) (by decide +kernel) rfl
theorem has_Plot_blocks (T : Txt K mg A) (h : InsAt A.c_Plot H a (plotF y s)) : Has K H a "blocks" (.ref y.b) := has_of h T.Plot.cl T.Plot.n_blocks lk_Plot_blocks
theorem lk_Plot_paved : (plotF y s).lookup ("paved" : Str) = some (.int (s.paved : Nat)) := lk_ix (i := 6) (plotF_names y s) (by decide +kernel) rfl
theorem has_Plot_paved (T : Txt K mg A) (h : InsAt A.c_Plot H a (plotF y s)) : Has K H a "paved" (.int (s.paved : Nat)) := has_of h T.Plot.cl T.Plot.n_paved lk_Plot_paved
theorem lk_Plot_spaces : (plotF y s).lookup ("spaces" : Str) = some (.int (s.spaces : Nat)) := lk_ix (i := 7) (plotF_names y s) (by decide +kernel) rfl
theorem has_Plot_spaces (T : Txt K mg A) (h : InsAt A.c_Plot H a (plotF y s)) : Has K H a "spaces" (.int (s.spaces : Nat)) := has_of h T.Plot.cl T.Plot.n_spaces lk_Plot_spaces
theorem hm_Plot_has_ground (h : InsAt A.c_Plot H a (plotF y s)) : HasM H a A.c_Plot "has_ground" := hasM_of h (lk_no (plotF_names y s) (by decide +kernel))
theorem hm_Plot_is_there (h : InsAt A.c_Plot H a (plotF y s)) : HasM H a A.c_Plot "is_there" := hasM_of h (lk_no (plotF_names y s) (by decide +kernel))
theorem hm_Plot_place_of (h : InsAt A.c_Plot H a (plotF y s)) : HasM H a A.c_Plot "place_of" := hasM_of h (lk_no (plotF_names y s) (by decide +kernel))
theorem hm_Plot_apart (h : InsAt A.c_Plot H a (plotF y s)) : HasM H a A.c_Plot "apart" := hasM_of h (lk_no (plotF_names y s) (by decide +kernel))
theorem hm_Plot_how_far (h : InsAt A.c_Plot H a (plotF y s)) : HasM H a A.c_Plot "how_far" := hasM_of h (lk_no (plotF_names y s) (by decide +kernel))
theorem hm_Plot_inward (h : InsAt A.c_Plot H a (plotF y s)) : HasM H a A.c_Plot "inward" := hasM_of h (lk_no (plotF_names y s) (by decide +kernel))
theorem hm_Plot_height_of (h : InsAt A.c_Plot H a (plotF y s)) : HasM H a A.c_Plot "height_of" := hasM_of h (lk_no (plotF_names y s) (by decide +kernel))
theorem hm_Plot_most_floors (h : InsAt A.c_Plot H a (plotF y s)) : HasM H a A.c_Plot "most_floors" := hasM_of h (lk_no (plotF_names y s) (by decide +kernel))
theorem hm_Plot_is_near_street (h : InsAt A.c_Plot H a (plotF y s)) : HasM H a A.c_Plot "is_near_street" := hasM_of h (lk_no (plotF_names y s) (by decide +kernel))
theorem hm_Plot_is_near_others (h : InsAt A.c_Plot H a (plotF y s)) : HasM H a A.c_Plot "is_near_others" := hasM_of h (lk_no (plotF_names y s) (by decide +kernel))
theorem hm_Plot_is_open (h : InsAt A.c_Plot H a (plotF y s)) : HasM H a A.c_Plot "is_open" := hasM_of h (lk_no (plotF_names y s) (by decide +kernel))
theorem hm_Plot_floors_on (h : InsAt A.c_Plot H a (plotF y s)) : HasM H a A.c_Plot "floors_on" := hasM_of h (lk_no (plotF_names y s) (by decide +kernel))
theorem hm_Plot_all_floors (h : InsAt A.c_Plot H a (plotF y s)) : HasM H a A.c_Plot "all_floors" := hasM_of h (lk_no (plotF_names y s) (by decide +kernel))
theorem hm_Plot_built (h : InsAt A.c_Plot H a (plotF y s)) : HasM H a A.c_Plot "built" := hasM_of h (lk_no (plotF_names y s) (by decide +kernel))
theorem hm_Plot_wanted (h : InsAt A.c_Plot H a (plotF y s)) : HasM H a A.c_Plot "wanted" := hasM_of h (lk_no (plotF_names y s) (by decide +kernel))
theorem hm_Plot_houses (h : InsAt A.c_Plot H a (plotF y s)) : HasM H a A.c_Plot "houses" := hasM_of h (lk_no (plotF_names y s) (by decide +kernel))
theorem hm_Plot_beside (h : InsAt A.c_Plot H a (plotF y s)) : HasM H a A.c_Plot "beside" := hasM_of h (lk_no (plotF_names y s) (by decide +kernel))
theorem hm_Plot_are_near (h : InsAt A.c_Plot H a (plotF y s)) : HasM H a A.c_Plot "are_near" := hasM_of h (lk_no (plotF_names y s) (by decide +kernel))
theorem hm_Plot_near_pairs (h : InsAt A.c_Plot H a (plotF y s)) : HasM H a A.c_Plot "near_pairs" := hasM_of h (lk_no (plotF_names y s) (by decide +kernel))
theorem hm_Plot_amounts (h : InsAt A.c_Plot H a (plotF y s)) : HasM H a A.c_Plot "amounts" := hasM_of h (lk_no (plotF_names y s) (by decide +kernel))
theorem hm_Plot_broken (h : InsAt A.c_Plot H a (plotF y s)) : HasM H a A.c_Plot "broken" := hasM_of h (lk_no (plotF_names y s) (by decide +kernel))
theorem hm_Plot_most_of (h : InsAt A.c_Plot H a (plotF y s)) : HasM H a A.c_Plot "most_of" := hasM_of h (lk_no (plotF_names y s) (by decide +kernel))
theorem hm_Plot_best (h : InsAt A.c_Plot H a (plotF y s)) : HasM H a A.c_Plot "best" := hasM_of h (lk_no (plotF_names y s) (by decide +kernel))
theorem hm_Plot_set_rules (h : InsAt A.c_Plot H a (plotF y s)) : HasM H a A.c_Plot "set_rules" := hasM_of h (lk_no (plotF_names y s) (by decide +kernel))
theorem hm_Plot_add_block (h : InsAt A.c_Plot H a (plotF y s)) : HasM H a A.c_Plot "add_block" := hasM_of h (lk_no (plotF_names y s) (by decide +kernel))
theorem hm_Plot_drop (h : InsAt A.c_Plot H a (plotF y s)) : HasM H a A.c_Plot "drop" := hasM_of h (lk_no (plotF_names y s) (by decide +kernel))
theorem hm_Plot_pave (h : InsAt A.c_Plot H a (plotF y s)) : HasM H a A.c_Plot "pave" := hasM_of h (lk_no (plotF_names y s) (by decide +kernel))
theorem hm_Plot_tell_check (h : InsAt A.c_Plot H a (plotF y s)) : HasM H a A.c_Plot "tell_check" := hasM_of h (lk_no (plotF_names y s) (by decide +kernel))
theorem hm_Plot_tell_square (h : InsAt A.c_Plot H a (plotF y s)) : HasM H a A.c_Plot "tell_square" := hasM_of h (lk_no (plotF_names y s) (by decide +kernel))
theorem hm_Plot_tell_houses (h : InsAt A.c_Plot H a (plotF y s)) : HasM H a A.c_Plot "tell_houses" := hasM_of h (lk_no (plotF_names y s) (by decide +kernel))
theorem hm_Plot_tell_sums (h : InsAt A.c_Plot H a (plotF y s)) : HasM H a A.c_Plot "tell_sums" := hasM_of h (lk_no (plotF_names y s) (by decide +kernel))
theorem hm_Plot_answer (h : InsAt A.c_Plot H a (plotF y s)) : HasM H a A.c_Plot "answer" := hasM_of h (lk_no (plotF_names y s) (by decide +kernel))
end
section
variable {K : PySem.W.Frag} {mg : Str → Option Value} {A : Adr} {H : Hp} {a : Addr} {x : Kg85.Soil}
theorem lk_Square_section : (sqF x).lookup ("section" : Str) = some (.int (x.section_ : Nat)) := lk_ix (i := 0) (sqF_names x) (by decide +kernel) rfl
theorem has_Square_section (T : Txt K mg A) (h : InsAt A.c_Square H a (sqF x)) : Has K H a "section" (.int (x.section_ : Nat)) := has_of h T.Square.cl T.Square.n_section lk_Square_section
theorem lk_Square_height : (sqF x).lookup ("height" : Str) = some (.int (x.height : Nat)) := lk_ix (i := 1) (sqF_names x) (by decide +kernel) rfl
theorem has_Square_height (T : Txt K mg A) (h : InsAt A.c_Square H a (sqF x)) : Has K H a "height" (.int (x.height : Nat)) := has_of h T.Square.cl T.Square.n_height lk_Square_height
theorem lk_Square_peak : (sqF x).lookup ("peak" : Str) = some (.int (x.peak : Nat)) := lk_ix (i := 2) (sqF_names x) (by decide +kernel) rfl
theorem has_Square_peak (T : Txt K mg A) (h : InsAt A.c_Square H a (sqF x)) : Has K H a "peak" (.int (x.peak : Nat)) := has_of h T.Square.cl T.Square.n_peak lk_Square_peak
theorem lk_Square_wet : (sqF x).lookup ("wet" : Str) = some (.int (x.wet : Nat)) := lk_ix (i := 3) (sqF_names x) (by decide +kernel) rfl
theorem has_Square_wet (T : Txt K mg A) (h : InsAt A.c_Square H a (sqF x)) : Has K H a "wet" (.int (x.wet : Nat)) := has_of h T.Square.cl T.Square.n_wet lk_Square_wet
end
section
variable {K : PySem.W.Frag} {mg : Str → Option Value} {A : Adr} {H : Hp} {a : Addr} {y : LL} {s : Kg85.State}
theorem lk_Land_polder : (landF y s).lookup ("polder" : Str) = some (.ref y.pol.p) := lk_ix (i := 0) (landF_names y s) (by decide +kernel) rfl
theorem has_Land_polder (T : Txt K mg A) (h : InsAt A.c_Land H a (landF y s)) : Has K H a "polder" (.ref y.pol.p) := has_of h T.Land.cl T.Land.n_polder lk_Land_polder
theorem lk_Land_plot : (landF y s).lookup ("plot" : Str) = some (.ref y.plo.q) := lk_ix (i := 1) (landF_names y s) (by decide +kernel) rfl
theorem has_Land_plot (T : Txt K mg A) (h : InsAt A.c_Land H a (landF y s)) : Has K H a "plot" (.ref y.plo.q) := has_of h T.Land.cl T.Land.n_plot lk_Land_plot
theorem lk_Land_chart : (landF y s).lookup ("chart" : Str) = some (chV y s) := lk_ix (i := 2) (landF_names y s) (by decide +kernel) rfl
theorem has_Land_chart (T : Txt K mg A) (h : InsAt A.c_Land H a (landF y s)) : Has K H a "chart" (chV y s) := has_of h T.Land.cl T.Land.n_chart lk_Land_chart
theorem lk_Land_raised : (landF y s).lookup ("raised" : Str) = some (.int (s.raised : Nat)) := lk_ix (i := 3) (landF_names y s) (by decide +kernel) rfl
theorem has_Land_raised (T : Txt K mg A) (h : InsAt A.c_Land H a (landF y s)) : Has K H a "raised" (.int (s.raised : Nat)) := has_of h T.Land.cl T.Land.n_raised lk_Land_raised
theorem hm_Land_water_call (h : InsAt A.c_Land H a (landF y s)) : HasM H a A.c_Land "water_call" := hasM_of h (lk_no (landF_names y s) (by decide +kernel))
theorem hm_Land_plot_call (h : InsAt A.c_Land H a (landF y s)) : HasM H a A.c_Land "plot_call" := hasM_of h (lk_no (landF_names y s) (by decide +kernel))
theorem hm_Land_set_map (h : InsAt A.c_Land H a (landF y s)) : HasM H a A.c_Land "set_map" := hasM_of h (lk_no (landF_names y s) (by decide +kernel))
theorem hm_Land_level_of (h : InsAt A.c_Land H a (landF y s)) : HasM H a A.c_Land "level_of" := hasM_of h (lk_no (landF_names y s) (by decide +kernel))
theorem hm_Land_depth (h : InsAt A.c_Land H a (landF y s)) : HasM H a A.c_Land "depth" := hasM_of h (lk_no (landF_names y s) (by decide +kernel))
theorem hm_Land_drowned (h : InsAt A.c_Land H a (landF y s)) : HasM H a A.c_Land "drowned" := hasM_of h (lk_no (landF_names y s) (by decide +kernel))
theorem hm_Land_sums (h : InsAt A.c_Land H a (landF y s)) : HasM H a A.c_Land "sums" := hasM_of h (lk_no (landF_names y s) (by decide +kernel))
theorem hm_Land_storm (h : InsAt A.c_Land H a (landF y s)) : HasM H a A.c_Land "storm" := hasM_of h (lk_no (landF_names y s) (by decide +kernel))
theorem hm_Land_tell_square (h : InsAt A.c_Land H a (landF y s)) : HasM H a A.c_Land "tell_square" := hasM_of h (lk_no (landF_names y s) (by decide +kernel))
theorem hm_Land_tell_wet (h : InsAt A.c_Land H a (landF y s)) : HasM H a A.c_Land "tell_wet" := hasM_of h (lk_no (landF_names y s) (by decide +kernel))
theorem hm_Land_harm (h : InsAt A.c_Land H a (landF y s)) : HasM H a A.c_Land "harm" := hasM_of h (lk_no (landF_names y s) (by decide +kernel))
theorem hm_Land_tell_harm (h : InsAt A.c_Land H a (landF y s)) : HasM H a A.c_Land "tell_harm" := hasM_of h (lk_no (landF_names y s) (by decide +kernel))
theorem hm_Land_tell_safe (h : InsAt A.c_Land H a (landF y s)) : HasM H a A.c_Land "tell_safe" := hasM_of h (lk_no (landF_names y s) (by decide +kernel))
theorem hm_Land_lift (h : InsAt A.c_Land H a (landF y s)) : HasM H a A.c_Land "lift" := hasM_of h (lk_no (landF_names y s) (by decide +kernel))
theorem hm_Land_tell_check (h : InsAt A.c_Land H a (landF y s)) : HasM H a A.c_Land "tell_check" := hasM_of h (lk_no (landF_names y s) (by decide +kernel))
end

/-! ### a frame: what stays -/
def Stay (ts : List Str) (ls : List Addr) (b : Addr) : HO → Prop
  | .ins _ _ ((f, _) :: _) => f ∉ ts
  | .lst _ => b ∉ ls
  | _ => True
def Fr (ts : List Str) (ls : List Addr) (H H' : Hp) : Prop := ∀ b o, H b = some o → Stay ts ls b o → H' b = some o
theorem Fr.of_ex {ts : List Str} {ls : List Addr} {H H' : Hp} (e : Ex H H') : Fr ts ls H H' := fun b o h _ => e b o h
theorem Fr.refl {ts : List Str} {ls : List Addr} {H : Hp} : Fr ts ls H H := fun _ _ h _ => h
theorem Fr.trans {ts : List Str} {ls : List Addr} {H H1 H2 : Hp} (a : Fr ts ls H H1) (b : Fr ts ls H1 H2) : Fr ts ls H H2 := fun c o h s => b c o (a c o h s) s
theorem Stay.mono {ts ts' : List Str} {ls ls' : List Addr} (h1 : ∀ f ∈ ts, f ∈ ts') (h2 : ∀ b ∈ ls, b ∈ ls') {b : Addr} : ∀ {o : HO}, Stay ts' ls' b o → Stay ts ls b o
  | .ins _ _ ((_, _) :: _), h => fun q => h (h1 _ q)
  | .ins _ _ [], _ => trivial
  | .lst _, h => fun q => h (h2 _ q)
  | .tup _, _ => trivial
  | .dK _, _ => trivial
  | .dT _, _ => trivial
  | .set _ _, _ => trivial
  | .own _, _ => trivial
  | .xd _, _ => trivial
  | .met _ _, _ => trivial
  | .rng _ _, _ => trivial
  | .frz _ _, _ => trivial
  | .tbl _, _ => trivial
  | .ext _, _ => trivial
theorem Fr.mono {ts ts' : List Str} {ls ls' : List Addr} {H H' : Hp} (h1 : ∀ f ∈ ts, f ∈ ts') (h2 : ∀ b ∈ ls, b ∈ ls') (a : Fr ts ls H H') : Fr ts' ls' H H' := fun b o h s => a b o h (s.mono h1 h2)
theorem Fr.lists {ts : List Str} {ls ls' : List Addr} {H H' : Hp} (h2 : ∀ b ∈ ls, b ∈ ls' ∨ H b = none) (a : Fr ts ls H H') : Fr ts ls' H H' := fun b o h s => by
  refine a b o h ?_
  match o, s, h with
  | .ins _ _ ((_, _) :: _), s, _ => exact s
  | .ins _ _ [], _, _ => exact trivial
  | .lst _, s, h => exact fun q => (h2 _ q).elim s fun z => by rw [z] at h; cases h
  | .tup _, _, _ => exact trivial
  | .dK _, _, _ => exact trivial
  | .dT _, _, _ => exact trivial
  | .set _ _, _, _ => exact trivial
  | .own _, _, _ => exact trivial
  | .xd _, _, _ => exact trivial
  | .met _ _, _, _ => exact trivial
  | .rng _ _, _, _ => exact trivial
  | .frz _ _, _, _ => exact trivial
  | .tbl _, _, _ => exact trivial
  | .ext _, _, _ => exact trivial
/-- an instance of such a tag is changed -/
theorem Fr.ins {ts : List Str} {ls : List Addr} {H H1 : Hp} {a C dx : Addr} {f : Str} {v : V} {r : List (Str × V)} {o : HO} (e : Fr ts ls H H1) (h : H a = some (.ins C dx ((f, v) :: r))) (hf : f ∈ ts) : Fr ts ls H (upd H1 a o) := fun b u hb s => by
  by_cases q : b = a
  · subst q
    rw [h] at hb
    cases hb
    exact absurd hf s
  · rw [upd_ne q]
    exact e b u hb s
theorem Fr.lst {ts : List Str} {ls : List Addr} {H H1 : Hp} {a : Addr} {xs : List V} {o : HO} (e : Fr ts ls H H1) (h : H a = some (.lst xs)) (ha : a ∈ ls) : Fr ts ls H (upd H1 a o) := fun b u hb s => by
  by_cases q : b = a
  · subst q
    rw [h] at hb
    cases hb
    exact absurd ha s
  · rw [upd_ne q]
    exact e b u hb s
theorem Fr.new {ts : List Str} {ls : List Addr} {H H1 : Hp} {a : Addr} {o : HO} (e : Fr ts ls H H1) (h : H a = none) : Fr ts ls H (upd H1 a o) := fun b u hb s => by
  rw [upd_ne (ne_of_none hb h)]
  exact e b u hb s

/-! ### a list of instances -/
structure ObjsAt {α : Type} (C : Addr) (F : α → List (Str × V)) (H : Hp) (as : List Addr) (xs : List α) : Prop where
  len : as.length = xs.length
  nd : as.Nodup
  at_ : ∀ (i : Nat) a x, as[i]? = some a → xs[i]? = some x → InsAt C H a (F x)
section
variable {α : Type} {C : Addr} {F : α → List (Str × V)} {H H' : Hp} {as : List Addr} {xs : List α} {i : Nat} {a : Addr} {x y : α}
theorem ObjsAt.mono (e : Ex H H') (h : ObjsAt C F H as xs) : ObjsAt C F H' as xs := ⟨h.len, h.nd, fun i a x h1 h2 => (h.at_ i a x h1 h2).mono e⟩
theorem ObjsAt.fr {ts : List Str} {ls : List Addr} {f : Str} (g : α → V) (rs : α → List (Str × V)) (hF : ∀ x, F x = (f, g x) :: rs x) (hf : f ∉ ts) (e : Fr ts ls H H') (h : ObjsAt C F H as xs) : ObjsAt C F H' as xs := ⟨h.len, h.nd, fun i a x h1 h2 => by
  obtain ⟨dx, q⟩ := h.at_ i a x h1 h2
  refine ⟨dx, e _ _ q ?_⟩
  rw [hF]
  exact hf⟩
theorem ObjsAt.get (h : ObjsAt C F H as xs) (hx : xs[i]? = some x) : ∃ a, as[i]? = some a ∧ InsAt C H a (F x) := by
  have hi : i < as.length := by rw [h.len]; exact (List.getElem?_eq_some_iff.mp hx).1
  have h2 : as[i]? = some as[i] := List.getElem?_eq_getElem hi
  exact ⟨_, h2, h.at_ i _ x h2 hx⟩
theorem ObjsAt.getA (h : ObjsAt C F H as xs) (ha : as[i]? = some a) : ∃ x, xs[i]? = some x ∧ InsAt C H a (F x) := by
  have hi : i < xs.length := by rw [← h.len]; exact (List.getElem?_eq_some_iff.mp ha).1
  have h2 : xs[i]? = some xs[i] := List.getElem?_eq_getElem hi
  exact ⟨_, h2, h.at_ i a _ ha h2⟩
theorem ObjsAt.set (h : ObjsAt C F H as xs) (ha : as[i]? = some a) (hy : InsAt C H' a (F y)) (k : ∀ b o, H b = some o → b ≠ a → H' b = some o) : ObjsAt C F H' as (xs.set i y) :=
  ⟨by rw [List.length_set]; exact h.len, h.nd, fun j b z hb hz => by
    by_cases hij : i = j
    · subst hij
      rw [ha] at hb
      cases hb
      have hi : i < xs.length := by rw [← h.len]; exact (List.getElem?_eq_some_iff.mp ha).1
      rw [List.getElem?_set_self hi] at hz
      cases hz
      exact hy
    · rw [List.getElem?_set_ne hij] at hz
      obtain ⟨dx, q⟩ := h.at_ j b z hb hz
      exact ⟨dx, k _ _ q fun e => hij (by subst e; exact nd_ix h.nd ha hb)⟩⟩
theorem ObjsAt.push (h : ObjsAt C F H as xs) (ha : H a = none) (hy : InsAt C H' a (F y)) (k : ∀ b o, H b = some o → H' b = some o) : ObjsAt C F H' (as ++ [a]) (xs ++ [y]) :=
  ⟨by rw [List.length_append, List.length_append, h.len]; rfl, by
    rw [List.nodup_append]
    refine ⟨h.nd, by simp, fun b hb c hc => ?_⟩
    have hc' : c = a := by simpa using hc
    subst hc'
    obtain ⟨i, hi, e⟩ := List.getElem_of_mem hb
    obtain ⟨z, _, dx, q⟩ := h.getA (i := i) (a := b) (by rw [List.getElem?_eq_getElem hi, e])
    exact ne_of_none q ha, fun j b z hb hz => by
    by_cases hj : j < as.length
    · rw [List.getElem?_append_left hj] at hb
      rw [List.getElem?_append_left (by rw [← h.len]; exact hj)] at hz
      obtain ⟨dx, q⟩ := h.at_ j b z hb hz
      exact ⟨dx, k _ _ q⟩
    · rw [List.getElem?_append_right (by omega)] at hb
      rw [List.getElem?_append_right (by rw [← h.len]; omega)] at hz
      rw [h.len] at hb
      cases hq : j - xs.length with
      | zero =>
        rw [hq] at hb hz
        cases hb
        cases hz
        exact hy
      | succ m => rw [hq] at hb; simp at hb⟩
theorem ObjsAt.pop (h : ObjsAt C F H as xs) : ObjsAt C F H as.dropLast xs.dropLast :=
  ⟨by rw [List.length_dropLast, List.length_dropLast, h.len], h.nd.sublist (List.dropLast_sublist as), fun j b z hb hz => by
    rw [List.getElem?_dropLast] at hb hz
    split at hb
    · split at hz
      · exact h.at_ j b z hb hz
      · cases hz
    · cases hb⟩
theorem ObjsAt.nil : ObjsAt C F H [] ([] : List α) := ⟨rfl, List.nodup_nil, fun i a x h => by simp at h⟩
end

/-! ### the polder, the plot, the land -/
def intsV (l : List Int) : List V := l.map V.int
def natsV (l : List Nat) : List V := l.map fun (n : Nat) => V.int n
def refsV (l : List Addr) : List V := l.map V.ref
abbrev SecAt (A : Adr) (H : Hp) (a : Addr) (x : Kg79.Section) : Prop := InsAt A.c_Section H a (secF x)
abbrev DevAt (A : Adr) (H : Hp) (a : Addr) (x : Kg79.Device) : Prop := InsAt A.c_Device H a (devF x)
abbrev SoilAt (A : Adr) (H : Hp) (a : Addr) (x : Kg85.Soil) : Prop := InsAt A.c_Square H a (sqF x)
structure PolAt (A : Adr) (H : Hp) (y : PL) (st : Kg79.State) : Prop where
  ins : InsAt A.c_Polder H y.p (polF y st)
  ti : H y.t = some (.lst (natsV st.tide))
  sl : H y.s = some (.lst (refsV y.secs))
  dl : H y.d = some (.lst (refsV y.devs))
  so : ObjsAt A.c_Section secF H y.secs st.sections
  dv : ObjsAt A.c_Device devF H y.devs st.devices
structure PlotAt (A : Adr) (H : Hp) (y : GL) (st : Kg72.State) : Prop where
  ins : InsAt A.c_Plot H y.q (plotF y st)
  sq : H y.sq = some (.lst (natsV st.ground.squares))
  ru : InsAt A.c_Rules H y.r (ruF st.rules)
  bl : H y.b = some (.lst (refsV y.blks))
  bo : ObjsAt A.c_Block blkF H y.blks st.boxes
structure LandAt (A : Adr) (H : Hp) (y : LL) (st : Kg85.State) : Prop where
  ins : InsAt A.c_Land H y.L (landF y st)
  pol : PolAt A H y.pol st.water
  plo : PlotAt A H y.plo st.plot
  ch : st.map ≠ [] → H y.c = some (.lst (refsV y.sqs)) ∧ ObjsAt A.c_Square sqF H y.sqs st.map
  nd : [y.pol.t, y.pol.s, y.pol.d, y.plo.sq, y.plo.b, y.c].Nodup
section
variable {A : Adr} {H H' : Hp} {ts : List Str} {ls : List Addr}
theorem PolAt.mono {y : PL} {st : Kg79.State} (e : Ex H H') (h : PolAt A H y st) : PolAt A H' y st := ⟨h.ins.mono e, e _ _ h.ti, e _ _ h.sl, e _ _ h.dl, h.so.mono e, h.dv.mono e⟩
theorem PlotAt.mono {y : GL} {st : Kg72.State} (e : Ex H H') (h : PlotAt A H y st) : PlotAt A H' y st := ⟨h.ins.mono e, e _ _ h.sq, h.ru.mono e, e _ _ h.bl, h.bo.mono e⟩
theorem LandAt.mono {y : LL} {st : Kg85.State} (e : Ex H H') (h : LandAt A H y st) : LandAt A H' y st := ⟨h.ins.mono e, h.pol.mono e, h.plo.mono e, fun q => ⟨e _ _ (h.ch q).1, (h.ch q).2.mono e⟩, h.nd⟩
theorem InsAt.fr {C a : Addr} {f : Str} {v : V} {r : List (Str × V)} (hf : f ∉ ts) (e : Fr ts ls H H') (h : InsAt C H a ((f, v) :: r)) : InsAt C H' a ((f, v) :: r) := let ⟨dx, q⟩ := h; ⟨dx, e _ _ q hf⟩
theorem PolAt.fr {y : PL} {st : Kg79.State} (h1 : ("tide" : Str) ∉ ts) (h2 : ("area" : Str) ∉ ts) (h3 : ("kind" : Str) ∉ ts) (n1 : y.t ∉ ls) (n2 : y.s ∉ ls) (n3 : y.d ∉ ls) (e : Fr ts ls H H') (h : PolAt A H y st) : PolAt A H' y st :=
  ⟨h.ins.fr h1 e, e _ _ h.ti n1, e _ _ h.sl n2, e _ _ h.dl n3, h.so.fr _ _ (fun _ => rfl) h2 e, h.dv.fr _ _ (fun _ => rfl) h3 e⟩
theorem PlotAt.fr {y : GL} {st : Kg72.State} (h1 : ("across" : Str) ∉ ts) (h2 : ("front" : Str) ∉ ts) (h3 : ("x" : Str) ∉ ts) (n1 : y.sq ∉ ls) (n2 : y.b ∉ ls) (e : Fr ts ls H H') (h : PlotAt A H y st) : PlotAt A H' y st :=
  ⟨h.ins.fr h1 e, e _ _ h.sq n1, h.ru.fr h2 e, e _ _ h.bl n2, h.bo.fr _ _ (fun _ => rfl) h3 e⟩
end

/-! ### what holds of the states -/
structure PolOk (s : Kg79.State) : Prop where
  area : ∀ x ∈ s.sections, 1 ≤ x.area ∧ x.area ≤ 1000
  dev : ∀ d ∈ s.devices, d.kind ≤ 3 ∧ d.from_ < s.sections.length ∧ d.to < s.sections.length ∧ (d.kind = 0 → d.to ≠ d.from_) ∧ d.cap ≤ 100000 ∧ d.crest ≤ 10000 ∧ (d.kind ≠ 1 → d.runs = false)
  nsec : s.sections.length ≤ 10
  ndev : s.devices.length ≤ 20
  ntide : s.tide.length ≤ 30
structure PlotOk (s : Kg72.State) : Prop where
  ground : s.ground.squares ≠ [] → 1 ≤ s.ground.across ∧ s.ground.across ≤ 12 ∧ s.ground.squares.length = s.ground.across * s.ground.down ∧ 1 ≤ s.ground.down ∧ s.ground.down ≤ 12
  sorts : ∀ z ∈ s.ground.squares, z ≤ 2
  front : s.rules.front ≤ 20
  floor : 1 ≤ s.rules.floor ∧ s.rules.floor ≤ 200
  rise : s.rules.rise ≤ 1000
  cov : s.rules.covered ≤ 100
  flo : s.rules.floors ≤ 100000
  gre : s.rules.green ≤ 100
  car : s.rules.car ≤ 10000
  nbox : s.boxes.length ≤ 20
structure LandOk (s : Kg85.State) : Prop where
  pol : PolOk s.water
  plo : PlotOk s.plot
  map : s.map ≠ [] → s.plot.ground.squares ≠ [] ∧ s.map.length = s.plot.ground.squares.length ∧ ∀ x ∈ s.map, x.section_ < s.water.sections.length

/-! ### plain functions that the promises speak of -/
def kin (z lo hi : Int) : Bool := decide (lo ≤ z) && decide (z ≤ hi)
/-- the k-th square's place -/
def pt (g : Kg72.Ground) (k : Nat) : Nat × Nat := (k % g.across, k / g.across)
def cheb (a i j : Nat) : Nat := max (Kg72.apart (i % a) (j % a)) (Kg72.apart (i / a) (j / a))
def farStart (g : Kg72.Ground) (k sort : Nat) : Nat := if sort = 0 then min (min (min (k % g.across + 1) (k / g.across + 1)) (g.across - k % g.across)) (g.down - k / g.across) else 1000
def farStep (g : Kg72.Ground) (k sort : Nat) (m j : Nat) : Nat := if g.squares[j]? = some sort then min m (cheb g.across k j) else m
def howFar (g : Kg72.Ground) (k sort : Nat) : Nat := (List.range g.squares.length).foldl (farStep g k sort) (farStart g k sort)
def builtIx (s : Kg72.State) : List Nat := (List.range s.ground.squares.length).filter fun k => decide (0 < s.built (pt s.ground k))
def besIx (g : Kg72.Ground) (k : Nat) : List Nat :=
  (if 0 < k % g.across then [k - 1] else []) ++ (if k % g.across + 1 < g.across then [k + 1] else []) ++ (if 0 < k / g.across then [k - g.across] else []) ++ (if k / g.across + 1 < g.down then [k + g.across] else [])
def amountsI (s : Kg72.State) : List Int :=
  let q := s.squares
  let a := s.area
  [((q.filter fun p => s.ground.at_ p.1 p.2 != 1).length : Nat),
   ((q.filter fun p => s.ground.at_ p.1 p.2 == 1 && s.ground.near 2 s.rules.front p).length : Nat),
   ((q.filter fun p => s.ground.at_ p.1 p.2 == 1 && s.ground.near 0 s.rules.side p).length : Nat),
   (((q.map fun p => if s.ground.at_ p.1 p.2 = 1 then s.built p - s.most p else 0).sum : Nat) : Int),
   (q.length : Int) - ((s.rules.covered * a / 100 : Nat) : Int),
   (s.floorArea : Int) - ((s.rules.floors * a / 100 : Nat) : Int),
   (((s.rules.green * a + 99) / 100 : Nat) : Int) - ((a - (q.length + s.paved) : Nat) : Int),
   (s.wanted : Int) - (s.spaces : Int),
   ((if s.rules.gap = 0 then 0 else Kg72.pairsNear s.rules.gap s.houses : Nat) : Int)]
/-- houses told by places: each is some order of the specification's -/
def HousesAre (s : Kg72.State) (hs : List (List Nat)) : Prop := hs.length = s.houses.length ∧ ∀ (i : Nat) h g, hs[i]? = some h → s.houses[i]? = some g → (h.map (pt s.ground)).Perm g ∧ ∀ k ∈ h, k < s.ground.squares.length
def polForm (n : Int) : Option (Int × Int) :=
  if n = 1 then some (0, 1) else if n = 2 ∨ n = 5 ∨ n = 6 ∨ n = 7 ∨ n = 8 then some (3, 0) else if n = 3 then some (4, 0) else if n = 4 then some (5, 0) else if n = 10 then some (1, 0) else if n = 9 ∨ n = 11 then some (0, 0) else none
def ploForm (n : Int) : Option (Int × Int) :=
  if n = 1 then some (1, 1) else if n = 2 then some (0, 1) else if n = 3 then some (5, 0) else if n = 5 ∨ n = 7 then some (2, 0) else if n = 4 ∨ n = 6 ∨ n = 8 ∨ n = 9 ∨ n = 10 then some (0, 0) else none
def polC (n : Int) (ns : List Int) : Option Kg79.Call := match n, ns with
  | 2, [a, l, h] => some (.section_ a l h)
  | 3, [i, j, c, w] => some (.weir i j c w)
  | 4, [i, j, c, a, b] => some (.pump i j c a b)
  | 5, [i, c, w] => some (.sluice i c w)
  | 6, [i, c, l] => some (.inlet i c l)
  | 7, [k, c, w] => some (.set k c w)
  | 8, [n, r, e] => some (.run n r e)
  | 9, [] => some .levels
  | 10, [k] => some (.device k)
  | 11, [] => some .sums
  | _, _ => none
def ploC (n : Int) (ns l : List Int) : Option Kg72.Call := match n, ns with
  | 2, [] => some (.rules l)
  | 3, [x, y, u, v, k] => some (.box x y u v k)
  | 4, [] => some .drop
  | 5, [a, b] => some (.paved a b)
  | 6, [] => some .check
  | 7, [x, y] => some (.square x y)
  | 8, [] => some .best
  | 9, [] => some .houses
  | 10, [] => some .sums
  | _, _ => none
def ansP (a : Kg79.Ans) : List Int := a.value :: a.out
def ansG (a : Kg72.Ans) : List Int := a.value :: a.out
def ansL (a : Kg85.Ans) : List Int := a.value :: a.out
def squareOk (s : Kg72.State) (l : List Int) (a : Int) : Bool := Kg72.within a 1 12 && (l.all (fun z => Kg72.within z 0 2) && (decide (l ≠ []) && (decide ((l.length : Int) % a = 0) && decide ((l.length : Int) ≤ 12 * a))))

/-! ### promises -/
/-- a new instance without other new objects -/
def spInit (C : Addr) (R : List V → List (Str × V) → Prop) : Sp := fun vs H Q _ => ∃ (p dx : Addr) (as : List V) (fs : List (Str × V)), vs = .ref p :: as ∧ H p = some (.ins C dx []) ∧ R as fs ∧
  ∀ H' : Hp, InsAt C H' p fs → (∀ b o, H b = some o → b ≠ p → H' b = some o) → Q .non H'
/-- a list of lists of ints -/
def RowsAt (K : PySem.W.Frag) (H : Hp) (f : Addr) (rows : List (List Int)) : Prop := ∃ as : List Addr, SqL K H f (refsV as) ∧ as.length = rows.length ∧ ∀ (i : Nat) a r, as[i]? = some a → rows[i]? = some r → SqL K H a (intsV r)
def polTags : List Str := ["tide", "area", "kind"]
def ploTags : List Str := ["across"]
def landTags : List Str := ["tide", "area", "kind", "across", "section", "polder"]
/-- a result that was a list before is one of the lists that may change -/
def NL (H : Hp) (r : Addr) (ls : List Addr) : Prop := ∀ xs, H r = some (.lst xs) → r ∈ ls
theorem nl_none {H : Hp} {r : Addr} {ls : List Addr} (h : H r = none) : NL H r ls := fun xs e => by rw [h] at e; cases e
theorem nl_go {ts : List Str} {ls : List Addr} {H H' : Hp} {r : Addr} (fr : Fr ts ls H H') (h : H' r = none) : NL H r ls := fun xs e => Classical.byContradiction fun n => by
  have := fr _ _ e n
  rw [h] at this
  cases this
theorem NL.mono {H H' : Hp} {r : Addr} {ls : List Addr} (e : Ex H H') (h : NL H' r ls) : NL H r ls := fun xs q => h xs (e _ _ q)
theorem NL.sub {H : Hp} {r : Addr} {ls ls' : List Addr} (s : ∀ b ∈ ls, b ∈ ls') (h : NL H r ls) : NL H r ls' := fun xs q => s _ (h xs q)
/-- behind a call of the polder -/
def PolPost (A : Adr) (H : Hp) (y : PL) (z : Kg79.State × Kg79.Ans) (Q : VK) : Prop := ∀ (H' : Hp) (y' : PL) (r : Addr), PolAt A H' y' z.1 → y'.p = y.p → y'.t = y.t → y'.s = y.s → y'.d = y.d → H' r = some (.lst (intsV (ansP z.2))) → Fr polTags [y.s, y.d] H H' → NL H r [y.s, y.d] → Q (.ref r) H'
def PlotPost (A : Adr) (H : Hp) (y : GL) (z : Kg72.State × Kg72.Ans) (Q : VK) : Prop := ∀ (H' : Hp) (y' : GL) (r : Addr), PlotAt A H' y' z.1 → y'.q = y.q → y'.sq = y.sq → y'.b = y.b → H' r = some (.lst (intsV (ansG z.2))) → Fr ploTags [y.b] H H' → NL H r [y.b] → Q (.ref r) H'
def LL.ms (y : LL) : List Addr := [y.pol.s, y.pol.d, y.plo.b]
def LL.ls (y : LL) : List Addr := [y.pol.t, y.pol.s, y.pol.d, y.plo.sq, y.plo.b, y.c]
def LandPost (A : Adr) (H : Hp) (y : LL) (z : Kg85.State × Kg85.Ans) (Q : VK) : Prop := ∀ (H' : Hp) (y' : LL) (r : Addr), LandAt A H' y' z.1 → y'.L = y.L → (∀ b ∈ y'.ls, b ∈ y.ls ∨ ∀ xs, H b ≠ some (.lst xs)) → H' r = some (.lst (intsV (ansL z.2))) → Fr landTags y.ms H H' → NL H r y.ms → Q (.ref r) H'
/-! the polder's -/
def sp_Section___init__ (A : Adr) (K : PySem.W.Frag) : Sp := spInit A.c_Section fun as fs => ∃ a l h : Nat, as = [.int a, .int l, .int h] ∧ a ≤ 1000 ∧ fs = secF ⟨a, a * l, h, 0⟩
def sp_Section_level (A : Adr) (K : PySem.W.Frag) : Sp := spV fun vs H v => ∃ a x, vs = [.ref a] ∧ SecAt A H a x ∧ 1 ≤ x.area ∧ x.area ≤ 1000 ∧ v = .int (x.level : Nat)
def sp_Device___init__ (A : Adr) (K : PySem.W.Frag) : Sp := spInit A.c_Device fun as fs => ∃ d : Kg79.Device, as = [.int d.kind, .int d.from_, .int (tgt d), .int d.crest, .int d.cap, .int d.off] ∧ d.runs = false ∧ d.moved = 0 ∧ d.steps = 0 ∧ fs = devF d
def sp_is_level (A : Adr) (K : PySem.W.Frag) : Sp := spV fun vs H v => ∃ n : Int, vs = [.int n] ∧ v = .bl (kin n 0 10000)
def sp_are_steps (A : Adr) (K : PySem.W.Frag) : Sp := spV fun vs H v => ∃ n r e : Int, vs = [.int n, .int r, .int e] ∧ v = .bl (kin n 0 100 && (kin r 0 500 && kin e 0 500))
def sp_is_tide (A : Adr) (K : PySem.W.Frag) : Sp := spV fun vs H v => ∃ a ns, vs = [.ref a] ∧ SqL K H a (intsV ns) ∧ v = .bl (ns.all (fun z => kin z 0 10000) && decide (ns.length ≤ 30))
def sp_polder_form (A : Adr) (K : PySem.W.Frag) : Sp := fun vs H Q _ => ∃ n : Int, vs = [.int n] ∧ (polForm n = none → ∀ H2, Ex H H2 → Q .non H2) ∧ ∀ a b, polForm n = some (a, b) → ∀ p H2, H p = none → Ex H H2 → H2 p = some (.tup [.int a, .int b]) → Q (.ref p) H2
def sp_plot_form (A : Adr) (K : PySem.W.Frag) : Sp := fun vs H Q _ => ∃ n : Int, vs = [.int n] ∧ (ploForm n = none → ∀ H2, Ex H H2 → Q .non H2) ∧ ∀ a b, ploForm n = some (a, b) → ∀ p H2, H p = none → Ex H H2 → H2 p = some (.tup [.int a, .int b]) → Q (.ref p) H2
def sp_is_call (A : Adr) (K : PySem.W.Frag) : Sp := spV fun vs H v => ∃ (x : V) (f : Addr) (r : List Int) (rows : List (List Int)) (o : Option (Int × Int)), vs = [x, .ref f] ∧ RowsAt K H f (r :: rows) ∧
  (match o with | none => x = .non | some (a, b) => ∃ p, x = .ref p ∧ SqT K H p [.int a, .int b]) ∧
  v = .bl (match o with | none => false | some (a, b) => decide (a = (r.length : Int) - 1) && decide (b = ((rows.length + 1 : Nat) : Int) - 1))
def sp_Polder___init__ (A : Adr) (K : PySem.W.Frag) : Sp := fun vs H Q _ => ∃ (p dx t : Addr) (l : List Nat), vs = [.ref p, .ref t] ∧ H p = some (.ins A.c_Polder dx []) ∧ H t = some (.lst (natsV l)) ∧
  ∀ (H' : Hp) (y : PL), PolAt A H' y { Kg79.init with tide := l } → y.p = p → y.t = t → H y.s = none → H y.d = none → y.s ≠ y.d → (∀ b o, H b = some o → b ≠ p → H' b = some o) → Q .non H'
def sp_Polder_sea (A : Adr) (K : PySem.W.Frag) : Sp := spV fun vs H v => ∃ y st, vs = [.ref y.p] ∧ PolAt A H y st ∧ v = .int (st.sea : Nat)
def sp_Polder_is_section (A : Adr) (K : PySem.W.Frag) : Sp := spV fun vs H v => ∃ y st n, vs = [.ref y.p, .int n] ∧ PolAt A H y st ∧ v = .bl (Kg79.isSection st n)
def sp_Polder_add_section (A : Adr) (K : PySem.W.Frag) : Sp := fun vs H Q _ => ∃ y st a l h, vs = [.ref y.p, .int a, .int l, .int h] ∧ PolAt A H y st ∧ PolOk st ∧ y.s ≠ y.d ∧ y.s ≠ y.t ∧ PolPost A H y (Kg79.spec st (.section_ a l h)) Q
/-- the device has been made; where there are 20, it is left -/
def sp_Polder_add_device (A : Adr) (K : PySem.W.Frag) : Sp := fun vs H Q _ => ∃ y st a d, vs = [.ref y.p, .ref a] ∧ PolAt A H y st ∧ PolOk st ∧ y.s ≠ y.d ∧ y.d ≠ y.t ∧ DevAt A H a d ∧ a ∉ y.devs ∧
  ∀ (H' : Hp) (y' : PL) (r : Addr), PolAt A H' y' (Kg79.addDevice st d).1 → y'.p = y.p → y'.t = y.t → y'.s = y.s → y'.d = y.d → H' r = some (.lst (intsV (ansP (Kg79.addDevice st d).2))) → Fr [] [y.d] H H' → NL H r [y.d] → Q (.ref r) H'
def sp_Polder_add_weir (A : Adr) (K : PySem.W.Frag) : Sp := fun vs H Q _ => ∃ y st i j c w, vs = [.ref y.p, .int i, .int j, .int c, .int w] ∧ PolAt A H y st ∧ PolOk st ∧ y.s ≠ y.d ∧ y.d ≠ y.t ∧ PolPost A H y (Kg79.spec st (.weir i j c w)) Q
def sp_Polder_add_pump (A : Adr) (K : PySem.W.Frag) : Sp := fun vs H Q _ => ∃ y st i j c a b, vs = [.ref y.p, .int i, .int j, .int c, .int a, .int b] ∧ PolAt A H y st ∧ PolOk st ∧ y.s ≠ y.d ∧ y.d ≠ y.t ∧ PolPost A H y (Kg79.spec st (.pump i j c a b)) Q
def sp_Polder_add_sluice (A : Adr) (K : PySem.W.Frag) : Sp := fun vs H Q _ => ∃ y st i c w, vs = [.ref y.p, .int i, .int c, .int w] ∧ PolAt A H y st ∧ PolOk st ∧ y.s ≠ y.d ∧ y.d ≠ y.t ∧ PolPost A H y (Kg79.spec st (.sluice i c w)) Q
def sp_Polder_add_inlet (A : Adr) (K : PySem.W.Frag) : Sp := fun vs H Q _ => ∃ y st i c l, vs = [.ref y.p, .int i, .int c, .int l] ∧ PolAt A H y st ∧ PolOk st ∧ y.s ≠ y.d ∧ y.d ≠ y.t ∧ PolPost A H y (Kg79.spec st (.inlet i c l)) Q
def sp_Polder_set_device (A : Adr) (K : PySem.W.Frag) : Sp := fun vs H Q _ => ∃ y st k c w, vs = [.ref y.p, .int k, .int c, .int w] ∧ PolAt A H y st ∧ PolOk st ∧ PolPost A H y (Kg79.spec st (.set k c w)) Q
def sp_Polder_would_run (A : Adr) (K : PySem.W.Frag) : Sp := spV fun vs H v => ∃ y st a d, vs = [.ref y.p, .ref a] ∧ PolAt A H y st ∧ PolOk st ∧ DevAt A H a d ∧ d ∈ st.devices ∧ v = .bl (if d.runs = true then decide (d.off < (st.section_ d.from_).level) else decide (d.crest ≤ (st.section_ d.from_).level))
def sp_Polder_would_move (A : Adr) (K : PySem.W.Frag) : Sp := spV fun vs H v => ∃ y st a d, vs = [.ref y.p, .ref a] ∧ PolAt A H y st ∧ PolOk st ∧ DevAt A H a d ∧ d ∈ st.devices ∧ v = .int (st.flow d : Nat)
def sp_Polder_take_turn (A : Adr) (K : PySem.W.Frag) : Sp := fun vs H Q _ => ∃ y st k a, vs = [.ref y.p, .ref a] ∧ PolAt A H y st ∧ PolOk st ∧ y.devs[k]? = some a ∧ ∀ H', PolAt A H' y (st.act k) → Fr polTags [] H H' → Q .non H'
def sp_Polder_step (A : Adr) (K : PySem.W.Frag) : Sp := fun vs H Q _ => ∃ (y : PL) (st : Kg79.State) (r e : Nat), vs = [.ref y.p, .int r, .int e] ∧ PolAt A H y st ∧ PolOk st ∧ r ≤ 500 ∧ e ≤ 500 ∧ ∀ H', PolAt A H' y (st.step r e) → Fr polTags [] H H' → Q .non H'
def sp_Polder_run (A : Adr) (K : PySem.W.Frag) : Sp := fun vs H Q _ => ∃ y st n r e, vs = [.ref y.p, .int n, .int r, .int e] ∧ PolAt A H y st ∧ PolOk st ∧ PolPost A H y (Kg79.spec st (.run n r e)) Q
def sp_Polder_tell_levels (A : Adr) (K : PySem.W.Frag) : Sp := spL fun vs H xs => ∃ y st, vs = [.ref y.p] ∧ PolAt A H y st ∧ PolOk st ∧ xs = intsV (ansP (Kg79.spec st .levels).2)
def sp_Polder_tell_device (A : Adr) (K : PySem.W.Frag) : Sp := spL fun vs H xs => ∃ y st k, vs = [.ref y.p, .int k] ∧ PolAt A H y st ∧ PolOk st ∧ xs = intsV (ansP (Kg79.spec st (.device k)).2)
def sp_Polder_tell_sums (A : Adr) (K : PySem.W.Frag) : Sp := spL fun vs H xs => ∃ y st, vs = [.ref y.p] ∧ PolAt A H y st ∧ PolOk st ∧ xs = intsV (ansP (Kg79.spec st .sums).2)
def sp_Polder_answer (A : Adr) (K : PySem.W.Frag) : Sp := fun vs H Q _ => ∃ y st n f ns c, vs = [.ref y.p, .int n, .ref f] ∧ SqL K H f (intsV ns) ∧ polC n ns = some c ∧ PolAt A H y st ∧ PolOk st ∧ [y.t, y.s, y.d].Nodup ∧ PolPost A H y (Kg79.spec st c) Q
/-! the plot's -/
def sp_Rules___init__ (A : Adr) (K : PySem.W.Frag) : Sp := fun vs H Q _ => ∃ (p dx a : Addr) (r : Kg72.Rules), vs = [.ref p, .ref a] ∧ H p = some (.ins A.c_Rules dx []) ∧ SqL K H a (natsV [r.front, r.side, r.base, r.rise, r.top, r.floor, r.covered, r.floors, r.green, r.car, r.gap]) ∧
  ∀ H' : Hp, InsAt A.c_Rules H' p (ruF r) → (∀ b o, H b = some o → b ≠ p → H' b = some o) → Q .non H'
def sp_Block___init__ (A : Adr) (K : PySem.W.Frag) : Sp := spInit A.c_Block fun as fs => ∃ b : Kg72.Box, as = [.int b.x, .int b.y, .int b.x2, .int b.y2, .int b.floors] ∧ fs = blkF b
def sp_are_rules (A : Adr) (K : PySem.W.Frag) : Sp := spV fun vs H v => ∃ a ns, vs = [.ref a] ∧ SqL K H a (intsV ns) ∧ v = .bl (Kg72.rulesOf ns).isSome
def sp_is_ground (A : Adr) (K : PySem.W.Frag) : Sp := spV fun vs H v => ∃ (n : Int) (a : Addr) (ns : List Int), vs = [.int n, .ref a] ∧ SqL K H a (intsV ns) ∧ ns.length ≤ 150 ∧ v = .bl (squareOk Kg72.init ns n)
def sp_Plot___init__ (A : Adr) (K : PySem.W.Frag) : Sp := fun vs H Q _ => ∃ (p dx t : Addr) (n : Nat) (l : List Nat), vs = [.ref p, .int n, .ref t] ∧ H p = some (.ins A.c_Plot dx []) ∧ H t = some (.lst (natsV l)) ∧ l.length ≤ 150 ∧ (∀ z ∈ l, z ≤ 2) ∧ (l = [] ∧ n = 0 ∨ l ≠ [] ∧ 1 ≤ n ∧ n ≤ 12 ∧ l.length % n = 0) ∧
  ∀ (H' : Hp) (y : GL), PlotAt A H' y { Kg72.init with ground := if l = [] then Kg72.init.ground else ⟨n, l⟩ } → y.q = p → y.sq = t → H y.b = none → (∀ b o, H b = some o → b ≠ p → H' b = some o) → Q .non H'
def sp_Plot_has_ground (A : Adr) (K : PySem.W.Frag) : Sp := spV fun vs H v => ∃ y st, vs = [.ref y.q] ∧ PlotAt A H y st ∧ v = .bl (decide (st.ground.squares ≠ []))
def sp_Plot_is_there (A : Adr) (K : PySem.W.Frag) : Sp := spV fun vs H v => ∃ y st x z, vs = [.ref y.q, .int x, .int z] ∧ PlotAt A H y st ∧ v = .bl ((decide (0 ≤ x) && decide (x < (acr st : Int))) && (decide (0 ≤ z) && decide (z < (st.ground.down : Int))))
def sp_Plot_place_of (A : Adr) (K : PySem.W.Frag) : Sp := spV fun vs H v => ∃ y st x z, vs = [.ref y.q, .int x, .int z] ∧ PlotAt A H y st ∧ acr st ≤ 12 ∧ v = .int (z * (acr st : Int) + x)
/-- a plot with ground -/
structure GrAt (A : Adr) (H : Hp) (y : GL) (st : Kg72.State) : Prop where
  at_ : PlotAt A H y st
  ok : PlotOk st
  gr : st.ground.squares ≠ []
def sp_Plot_apart (A : Adr) (K : PySem.W.Frag) : Sp := spV fun vs H v => ∃ (y : GL) (st : Kg72.State) (i j : Nat), vs = [.ref y.q, .int i, .int j] ∧ GrAt A H y st ∧ v = .int (cheb st.ground.across i j : Nat)
def sp_Plot_how_far (A : Adr) (K : PySem.W.Frag) : Sp := spV fun vs H v => ∃ (y : GL) (st : Kg72.State) (k sort : Nat), vs = [.ref y.q, .int k, .int sort] ∧ GrAt A H y st ∧ k < st.ground.squares.length ∧ v = .int (howFar st.ground k sort : Nat)
def sp_Plot_inward (A : Adr) (K : PySem.W.Frag) : Sp := spV fun vs H v => ∃ (y : GL) (st : Kg72.State) (k : Nat), vs = [.ref y.q, .int k] ∧ GrAt A H y st ∧ k < st.ground.squares.length ∧ v = .int (st.ground.inward (pt st.ground k) : Nat)
def sp_Plot_height_of (A : Adr) (K : PySem.W.Frag) : Sp := spV fun vs H v => ∃ (y : GL) (st : Kg72.State) (k : Nat), vs = [.ref y.q, .int k] ∧ GrAt A H y st ∧ k < st.ground.squares.length ∧ v = .int (st.high (pt st.ground k) : Nat)
def sp_Plot_most_floors (A : Adr) (K : PySem.W.Frag) : Sp := spV fun vs H v => ∃ (y : GL) (st : Kg72.State) (k : Nat), vs = [.ref y.q, .int k] ∧ GrAt A H y st ∧ k < st.ground.squares.length ∧ v = .int (st.most (pt st.ground k) : Nat)
def sp_Plot_is_near_street (A : Adr) (K : PySem.W.Frag) : Sp := spV fun vs H v => ∃ (y : GL) (st : Kg72.State) (k : Nat), vs = [.ref y.q, .int k] ∧ GrAt A H y st ∧ k < st.ground.squares.length ∧ v = .bl (st.ground.near 2 st.rules.front (pt st.ground k))
def sp_Plot_is_near_others (A : Adr) (K : PySem.W.Frag) : Sp := spV fun vs H v => ∃ (y : GL) (st : Kg72.State) (k : Nat), vs = [.ref y.q, .int k] ∧ GrAt A H y st ∧ k < st.ground.squares.length ∧ v = .bl (st.ground.near 0 st.rules.side (pt st.ground k))
def sp_Plot_is_open (A : Adr) (K : PySem.W.Frag) : Sp := spV fun vs H v => ∃ (y : GL) (st : Kg72.State) (k : Nat), vs = [.ref y.q, .int k] ∧ GrAt A H y st ∧ k < st.ground.squares.length ∧ v = .bl (st.open_ (pt st.ground k))
def sp_Plot_floors_on (A : Adr) (K : PySem.W.Frag) : Sp := spV fun vs H v => ∃ (y : GL) (st : Kg72.State) (k : Nat), vs = [.ref y.q, .int k] ∧ GrAt A H y st ∧ k < st.ground.squares.length ∧ v = .int (st.built (pt st.ground k) : Nat)
def sp_Plot_all_floors (A : Adr) (K : PySem.W.Frag) : Sp := spL fun vs H xs => ∃ (y : GL) (st : Kg72.State), vs = [.ref y.q] ∧ GrAt A H y st ∧ xs = natsV ((List.range st.ground.squares.length).map fun k => st.built (pt st.ground k))
def sp_Plot_built (A : Adr) (K : PySem.W.Frag) : Sp := spL fun vs H xs => ∃ (y : GL) (st : Kg72.State), vs = [.ref y.q] ∧ GrAt A H y st ∧ xs = natsV (builtIx st)
def sp_Plot_wanted (A : Adr) (K : PySem.W.Frag) : Sp := spV fun vs H v => ∃ (y : GL) (st : Kg72.State), vs = [.ref y.q] ∧ GrAt A H y st ∧ v = .int (st.wanted : Nat)
def sp_Plot_beside (A : Adr) (K : PySem.W.Frag) : Sp := spL fun vs H xs => ∃ (y : GL) (st : Kg72.State) (k : Nat), vs = [.ref y.q, .int k] ∧ GrAt A H y st ∧ k < st.ground.squares.length ∧ xs = natsV (besIx st.ground k)
def sp_Plot_houses (A : Adr) (K : PySem.W.Frag) : Sp := fun vs H Q _ => ∃ (y : GL) (st : Kg72.State), vs = [.ref y.q] ∧ GrAt A H y st ∧ ∀ (p : Addr) (as : List Addr) (hs : List (List Nat)) (H2 : Hp), H p = none → Ex H H2 → H2 p = some (.lst (refsV as)) → as.length = hs.length →
  (∀ (i : Nat) a h, as[i]? = some a → hs[i]? = some h → H2 a = some (.lst (natsV h))) → HousesAre st hs → Q (.ref p) H2
def sp_Plot_are_near (A : Adr) (K : PySem.W.Frag) : Sp := spV fun vs H v => ∃ (y : GL) (st : Kg72.State) (a b : Addr) (l m : List Nat), vs = [.ref y.q, .ref a, .ref b] ∧ GrAt A H y st ∧ SqL K H a (natsV l) ∧ SqL K H b (natsV m) ∧
  v = .bl (l.any fun i => m.any fun j => decide ((cheb st.ground.across i j : Int) - 1 < (st.rules.gap : Int)))
def sp_Plot_near_pairs (A : Adr) (K : PySem.W.Frag) : Sp := spV fun vs H v => ∃ (y : GL) (st : Kg72.State), vs = [.ref y.q] ∧ GrAt A H y st ∧ v = .int ((if st.rules.gap = 0 then 0 else Kg72.pairsNear st.rules.gap st.houses : Nat) : Int)
def sp_Plot_amounts (A : Adr) (K : PySem.W.Frag) : Sp := spL fun vs H xs => ∃ (y : GL) (st : Kg72.State), vs = [.ref y.q] ∧ GrAt A H y st ∧ xs = intsV (amountsI st)
def sp_Plot_broken (A : Adr) (K : PySem.W.Frag) : Sp := fun vs H Q _ => ∃ (y : GL) (st : Kg72.State), vs = [.ref y.q] ∧ GrAt A H y st ∧ ∀ (p : Addr) (as : List Addr) (H2 : Hp), H p = none → Ex H H2 → H2 p = some (.lst (refsV as)) → as.length = st.breaks.length →
  (∀ (i : Nat) a x, as[i]? = some a → st.breaks[i]? = some x → H2 a = some (.tup [.int x.1, .int x.2])) → Q (.ref p) H2
def mostOf (st : Kg72.State) (ks : List Nat) : Nat := min (((Kg72.sorted ((ks.filter fun k => st.open_ (pt st.ground k)).map fun k => st.most (pt st.ground k))).take (st.area * st.rules.covered / 100)).sum) (st.area * st.rules.floors / 100)
def sp_Plot_most_of (A : Adr) (K : PySem.W.Frag) : Sp := spV fun vs H v => ∃ (y : GL) (st : Kg72.State) (a : Addr) (ks : List Nat), vs = [.ref y.q, .ref a] ∧ GrAt A H y st ∧ SqL K H a (natsV ks) ∧ ks.length ≤ 200 ∧ (∀ k ∈ ks, k < st.ground.squares.length) ∧ v = .int (mostOf st ks : Nat)
def sp_Plot_best (A : Adr) (K : PySem.W.Frag) : Sp := spV fun vs H v => ∃ (y : GL) (st : Kg72.State), vs = [.ref y.q] ∧ GrAt A H y st ∧ v = .int (st.best : Nat)
def sp_Plot_set_rules (A : Adr) (K : PySem.W.Frag) : Sp := fun vs H Q _ => ∃ y st a l, vs = [.ref y.q, .ref a] ∧ SqL K H a (intsV l) ∧ PlotAt A H y st ∧ PlotOk st ∧ PlotPost A H y (Kg72.spec st (.rules l)) Q
def sp_Plot_add_block (A : Adr) (K : PySem.W.Frag) : Sp := fun vs H Q _ => ∃ y st x z u v n, vs = [.ref y.q, .int x, .int z, .int u, .int v, .int n] ∧ PlotAt A H y st ∧ PlotOk st ∧ y.sq ≠ y.b ∧ PlotPost A H y (Kg72.spec st (.box x z u v n)) Q
def sp_Plot_drop (A : Adr) (K : PySem.W.Frag) : Sp := fun vs H Q _ => ∃ y st, vs = [.ref y.q] ∧ PlotAt A H y st ∧ PlotOk st ∧ y.sq ≠ y.b ∧ PlotPost A H y (Kg72.spec st .drop) Q
def sp_Plot_pave (A : Adr) (K : PySem.W.Frag) : Sp := fun vs H Q _ => ∃ y st n k, vs = [.ref y.q, .int n, .int k] ∧ PlotAt A H y st ∧ PlotOk st ∧ PlotPost A H y (Kg72.spec st (.paved n k)) Q
def sp_Plot_tell_check (A : Adr) (K : PySem.W.Frag) : Sp := spL fun vs H xs => ∃ (y : GL) (st : Kg72.State), vs = [.ref y.q] ∧ GrAt A H y st ∧ xs = intsV (ansG (Kg72.spec st .check).2)
def sp_Plot_tell_square (A : Adr) (K : PySem.W.Frag) : Sp := spL fun vs H xs => ∃ (y : GL) (st : Kg72.State) (x z : Int), vs = [.ref y.q, .int x, .int z] ∧ GrAt A H y st ∧ xs = intsV (ansG (Kg72.spec st (.square x z)).2)
def sp_Plot_tell_houses (A : Adr) (K : PySem.W.Frag) : Sp := spL fun vs H xs => ∃ (y : GL) (st : Kg72.State), vs = [.ref y.q] ∧ GrAt A H y st ∧ xs = intsV (ansG (Kg72.spec st .houses).2)
def sp_Plot_tell_sums (A : Adr) (K : PySem.W.Frag) : Sp := spL fun vs H xs => ∃ (y : GL) (st : Kg72.State), vs = [.ref y.q] ∧ GrAt A H y st ∧ xs = intsV (ansG (Kg72.spec st .sums).2)
def sp_Plot_answer (A : Adr) (K : PySem.W.Frag) : Sp := fun vs H Q _ => ∃ y st n f g ns l c, vs = [.ref y.q, .int n, .ref f, .ref g] ∧ SqL K H f (intsV ns) ∧ SqL K H g (intsV l) ∧ ploC n ns l = some c ∧ PlotAt A H y st ∧ PlotOk st ∧ y.sq ≠ y.b ∧ PlotPost A H y (Kg72.spec st c) Q
/-! the land's -/
def sp_Square___init__ (A : Adr) (K : PySem.W.Frag) : Sp := spInit A.c_Square fun as fs => ∃ i h : Nat, as = [.int i, .int h] ∧ fs = sqF ⟨i, h, 0, 0⟩
def sp_Land___init__ (A : Adr) (K : PySem.W.Frag) : Sp := fun vs H Q _ => ∃ (p dx : Addr), vs = [.ref p] ∧ H p = some (.ins A.c_Land dx []) ∧ ∀ (H' : Hp) (y : LL), LandAt A H' y Kg85.init → y.L = p → (∀ b ∈ y.ls, ∀ xs, H b ≠ some (.lst xs)) → (∀ b o, H b = some o → b ≠ p → H' b = some o) → Q .non H'
def sp_Land_water_call (A : Adr) (K : PySem.W.Frag) : Sp := fun vs H Q _ => ∃ y st f rows, vs = [.ref y.L, .ref f] ∧ RowsAt K H f rows ∧ 1 ≤ rows.length ∧ rows.length ≤ 2 ∧ (∀ r ∈ rows, r.length ≤ 150) ∧ LandAt A H y st ∧ LandOk st ∧ LandPost A H y (Kg85.spec st (.water rows)) Q
def sp_Land_plot_call (A : Adr) (K : PySem.W.Frag) : Sp := fun vs H Q _ => ∃ y st f rows, vs = [.ref y.L, .ref f] ∧ RowsAt K H f rows ∧ 1 ≤ rows.length ∧ rows.length ≤ 2 ∧ (∀ r ∈ rows, r.length ≤ 150) ∧ LandAt A H y st ∧ LandOk st ∧ LandPost A H y (Kg85.spec st (.plot rows)) Q
def sp_Land_set_map (A : Adr) (K : PySem.W.Frag) : Sp := fun vs H Q _ => ∃ y st f g a h, vs = [.ref y.L, .ref f, .ref g] ∧ SqL K H f (intsV a) ∧ SqL K H g (intsV h) ∧ a.length ≤ 150 ∧ h.length ≤ 150 ∧ LandAt A H y st ∧ LandOk st ∧ LandPost A H y (Kg85.spec st (.map a h)) Q
/-- a land with a map -/
structure MpAt (A : Adr) (H : Hp) (y : LL) (st : Kg85.State) : Prop where
  at_ : LandAt A H y st
  ok : LandOk st
  mp : st.map ≠ []
def sp_Land_level_of (A : Adr) (K : PySem.W.Frag) : Sp := spV fun vs H v => ∃ y st a x, vs = [.ref y.L, .ref a] ∧ MpAt A H y st ∧ SoilAt A H a x ∧ x ∈ st.map ∧ v = .int ((st.water.section_ x.section_).level : Nat)
def sp_Land_depth (A : Adr) (K : PySem.W.Frag) : Sp := spV fun vs H v => ∃ y st a x, vs = [.ref y.L, .ref a] ∧ MpAt A H y st ∧ SoilAt A H a x ∧ x ∈ st.map ∧ v = .int (Kg85.depth st.water x : Nat)
def sp_Land_drowned (A : Adr) (K : PySem.W.Frag) : Sp := spV fun vs H v => ∃ y st, vs = [.ref y.L] ∧ MpAt A H y st ∧ v = .int (st.drowned.length : Nat)
def sp_Land_sums (A : Adr) (K : PySem.W.Frag) : Sp := spL fun vs H xs => ∃ y st, vs = [.ref y.L] ∧ MpAt A H y st ∧ xs = intsV (Kg85.sumsOf st)
def sp_Land_storm (A : Adr) (K : PySem.W.Frag) : Sp := fun vs H Q _ => ∃ y st n r e, vs = [.ref y.L, .int n, .int r, .int e] ∧ LandAt A H y st ∧ LandOk st ∧ LandPost A H y (Kg85.spec st (.storm n r e)) Q
def sp_Land_tell_square (A : Adr) (K : PySem.W.Frag) : Sp := spL fun vs H xs => ∃ y st x z, vs = [.ref y.L, .int x, .int z] ∧ LandAt A H y st ∧ LandOk st ∧ xs = intsV (ansL (Kg85.spec st (.square x z)).2)
def sp_Land_tell_wet (A : Adr) (K : PySem.W.Frag) : Sp := spL fun vs H xs => ∃ y st, vs = [.ref y.L] ∧ LandAt A H y st ∧ LandOk st ∧ xs = intsV (ansL (Kg85.spec st .wet).2)
def sp_Land_harm (A : Adr) (K : PySem.W.Frag) : Sp := spV fun vs H v => ∃ (y : LL) (st : Kg85.State) (k : Nat) (x : Kg85.Soil), vs = [.ref y.L, .int k] ∧ MpAt A H y st ∧ st.map[k]? = some x ∧ v = .int ((min 2000 x.peak : Nat) : Int)
def sp_Land_tell_harm (A : Adr) (K : PySem.W.Frag) : Sp := spL fun vs H xs => ∃ y st, vs = [.ref y.L] ∧ LandAt A H y st ∧ LandOk st ∧ xs = intsV (ansL (Kg85.spec st .harm).2)
def sp_Land_tell_safe (A : Adr) (K : PySem.W.Frag) : Sp := spL fun vs H xs => ∃ y st, vs = [.ref y.L] ∧ LandAt A H y st ∧ LandOk st ∧ xs = intsV (ansL (Kg85.spec st .safe).2)
def sp_Land_lift (A : Adr) (K : PySem.W.Frag) : Sp := fun vs H Q _ => ∃ y st x z h, vs = [.ref y.L, .int x, .int z, .int h] ∧ LandAt A H y st ∧ LandOk st ∧ LandPost A H y (Kg85.spec st (.raise x z h)) Q
def sp_Land_tell_check (A : Adr) (K : PySem.W.Frag) : Sp := spL fun vs H xs => ∃ y st, vs = [.ref y.L] ∧ LandAt A H y st ∧ LandOk st ∧ xs = intsV (ansL (Kg85.spec st .check).2)
/-- a call from its parts -/
def sp_answer_call (A : Adr) (K : PySem.W.Frag) : Sp := fun vs H Q _ => ∃ (y : LL) (st : Kg85.State) (n : Int) (f g : Addr) (ws : List Int) (rows : List (List Int)) (c : Kg85.Call), vs = [.ref y.L, .int n, .ref f, .ref g] ∧ SqL K H f (intsV ws) ∧ RowsAt K H g rows ∧
  n ≠ 1 ∧ Kg85Neutral.asked1 ((n :: ws) :: rows) = true ∧ Kg85Neutral.callOf ((n :: ws) :: rows) = some c ∧ LandAt A H y st ∧ LandOk st ∧ LandPost A H y (Kg85.spec st c) Q
def sp_answers (A : Adr) (K : PySem.W.Frag) : Sp := fun vs H Q _ => ∃ a l, vs = [.ref a] ∧ SqL K H a (intsV l) ∧ PyKg85.answers_asked l = true ∧ ∀ (H' : Hp) (p : Addr), H' p = some (.lst (intsV (PyKg85.answers l))) → Q (.ref p) H'
/-! ### the readings (printed by gen.py) -/
abbrev N_Rules___init__ : List Str := ["self", "numbers"]
def t_Rules___init__ (A : Adr) (K : PySem.W.Frag) : TS :=
  tSeq (sFld K (tVar 0) (tOp (rIxL K) (tVar 1) (tC (.int 0))) "front")
  (tSeq (sFld K (tVar 0) (tOp (rIxL K) (tVar 1) (tC (.int 1))) "side")
  (tSeq (sFld K (tVar 0) (tOp (rIxL K) (tVar 1) (tC (.int 2))) "base")
  (tSeq (sFld K (tVar 0) (tOp (rIxL K) (tVar 1) (tC (.int 3))) "rise")
  (tSeq (sFld K (tVar 0) (tOp (rIxL K) (tVar 1) (tC (.int 4))) "top")
  (tSeq (sFld K (tVar 0) (tOp (rIxL K) (tVar 1) (tC (.int 5))) "floor")
  (tSeq (sFld K (tVar 0) (tOp (rIxL K) (tVar 1) (tC (.int 6))) "covered")
  (tSeq (sFld K (tVar 0) (tOp (rIxL K) (tVar 1) (tC (.int 7))) "floors")
  (tSeq (sFld K (tVar 0) (tOp (rIxL K) (tVar 1) (tC (.int 8))) "green")
  (tSeq (sFld K (tVar 0) (tOp (rIxL K) (tVar 1) (tC (.int 9))) "car")
  (sFld K (tVar 0) (tOp (rIxL K) (tVar 1) (tC (.int 10))) "gap"))))))))))
abbrev N_Block___init__ : List Str := ["self", "x", "y", "x2", "y2", "floors"]
def t_Block___init__ (A : Adr) (K : PySem.W.Frag) : TS :=
  tSeq (sFld K (tVar 0) (tVar 1) "x")
  (tSeq (sFld K (tVar 0) (tVar 2) "y")
  (tSeq (sFld K (tVar 0) (tVar 3) "x2")
  (tSeq (sFld K (tVar 0) (tVar 4) "y2")
  (sFld K (tVar 0) (tVar 5) "floors"))))
abbrev N_Plot___init__ : List Str := ["self", "across", "squares"]
def t_Plot___init__ (A : Adr) (K : PySem.W.Frag) : TS :=
  tSeq (sFld K (tVar 0) (tVar 1) "across")
  (tSeq (sFld K (tVar 0) (tVar 2) "squares")
  (tSeq (sFld K (tVar 0) (tIf (tTest (tOp rEq (tVar 1) (tC (.int 0)))) (tC (.int 0)) (tOp rDivI (tCB (rLenS K) (tCons (tVar 2) (tNil))) (tVar 1))) "down")
  (tSeq (sFld K (tVar 0) (tBM K "list" (rCntI K) (tVar 2) (tCons (tC (.int 1)) (tNil))) "area")
  (tSeq (sFld K (tVar 0) (tMake A.c_Rules (sp_Rules___init__ A K) [] E0 (tCons (tLst (tCons (tC (.int 0)) (tCons (tC (.int 0)) (tCons (tC (.int 100000)) (tCons (tC (.int 0)) (tCons (tC (.int 100000)) (tCons (tC (.int 30)) (tCons (tC (.int 100)) (tCons (tC (.int 100000)) (tCons (tC (.int 0)) (tCons (tC (.int 0)) (tCons (tC (.int 0)) (tNil))))))))))))) (tNil))) "rules")
  (tSeq (sFld K (tVar 0) (tLst (tNil)) "blocks")
  (tSeq (sFld K (tVar 0) (tC (.int 0)) "paved")
  (sFld K (tVar 0) (tC (.int 0)) "spaces")))))))
abbrev N_Plot_has_ground : List Str := ["self"]
def t_Plot_has_ground (A : Adr) (K : PySem.W.Frag) : TS :=
  tRet (tOp rGtI (tCB (rLenS K) (tCons (tFld K (tVar 0) "squares") (tNil))) (tC (.int 0)))
abbrev N_Plot_is_there : List Str := ["self", "x", "y"]
def t_Plot_is_there (A : Adr) (K : PySem.W.Frag) : TS :=
  tRet (tAndV (tChain rLeI rLtI (tC (.int 0)) (tVar 1) (tFld K (tVar 0) "across")) (tChain rLeI rLtI (tC (.int 0)) (tVar 2) (tFld K (tVar 0) "down")))
abbrev N_Plot_place_of : List Str := ["self", "x", "y"]
def t_Plot_place_of (A : Adr) (K : PySem.W.Frag) : TS :=
  tRet (tOp rAddI (tOp rMulI (tVar 2) (tFld K (tVar 0) "across")) (tVar 1))
abbrev N_Plot_apart : List Str := ["self", "place", "other", "across"]
def t_Plot_apart (A : Adr) (K : PySem.W.Frag) : TS :=
  tSeq (tAsg (tCB rAbs (tCons (tOp rSubI (tOp rModI (tVar 1) (tFld K (tVar 0) "across")) (tOp rModI (tVar 2) (tFld K (tVar 0) "across"))) (tNil))) (gName 3))
  (tRet (tCB rMax2 (tCons (tVar 3) (tCons (tCB rAbs (tCons (tOp rSubI (tOp rDivI (tVar 1) (tFld K (tVar 0) "across")) (tOp rDivI (tVar 2) (tFld K (tVar 0) "across"))) (tNil))) (tNil)))))
abbrev N_Plot_how_far : List Str := ["self", "place", "sort", "nearest", "x", "y", "other", "square"]
def t_Plot_how_far (A : Adr) (K : PySem.W.Frag) : TS :=
  tSeq (tAsg (tC (.int 1000)) (gName 3))
  (tSeq (tIfS (tTest (tOp rEq (tVar 2) (tC (.int 0)))) (tSeq (tAsg (tOp rModI (tVar 1) (tFld K (tVar 0) "across")) (gName 4))
  (tSeq (tAsg (tOp rDivI (tVar 1) (tFld K (tVar 0) "across")) (gName 5))
  (tAsg (tCB rMin4 (tCons (tOp rAddI (tVar 4) (tC (.int 1))) (tCons (tOp rAddI (tVar 5) (tC (.int 1))) (tCons (tOp rSubI (tFld K (tVar 0) "across") (tVar 4)) (tCons (tOp rSubI (tFld K (tVar 0) "down") (tVar 5)) (tNil)))))) (gName 3)))) (tNext))
  (tSeq (tFor (iEnum K (tCons (tFld K (tVar 0) "squares") (tNil))) (gTup K 2 (gCons (gName 6) (gCons (gName 7) (gNil)))) (tIfS (tTest (tOp rEq (tVar 7) (tVar 2))) (tAsg (tCB rMin2 (tCons (tVar 3) (tCons (tMeth A.c_Plot "apart" (sp_Plot_apart A K) [] E0 (tVar 0) (tCons (tVar 1) (tCons (tVar 6) (tNil)))) (tNil)))) (gName 3)) (tNext)))
  (tRet (tVar 3))))
abbrev N_Plot_inward : List Str := ["self", "place"]
def t_Plot_inward (A : Adr) (K : PySem.W.Frag) : TS :=
  tRet (tCB rMax2 (tCons (tC (.int 0)) (tCons (tOp rSubI (tMeth A.c_Plot "how_far" (sp_Plot_how_far A K) [] E0 (tVar 0) (tCons (tVar 1) (tCons (tC (.int 0)) (tNil)))) (tC (.int 1))) (tNil))))
abbrev N_Plot_height_of : List Str := ["self", "place"]
def t_Plot_height_of (A : Adr) (K : PySem.W.Frag) : TS :=
  tRet (tCB rMin2 (tCons (tFld K (tFld K (tVar 0) "rules") "top") (tCons (tOp rAddI (tFld K (tFld K (tVar 0) "rules") "base") (tOp rMulI (tFld K (tFld K (tVar 0) "rules") "rise") (tMeth A.c_Plot "inward" (sp_Plot_inward A K) [] E0 (tVar 0) (tCons (tVar 1) (tNil))))) (tNil))))
abbrev N_Plot_most_floors : List Str := ["self", "place"]
def t_Plot_most_floors (A : Adr) (K : PySem.W.Frag) : TS :=
  tRet (tOp rDivI (tMeth A.c_Plot "height_of" (sp_Plot_height_of A K) [] E0 (tVar 0) (tCons (tVar 1) (tNil))) (tFld K (tFld K (tVar 0) "rules") "floor"))
abbrev N_Plot_is_near_street : List Str := ["self", "place"]
def t_Plot_is_near_street (A : Adr) (K : PySem.W.Frag) : TS :=
  tRet (tOp rLeI (tMeth A.c_Plot "how_far" (sp_Plot_how_far A K) [] E0 (tVar 0) (tCons (tVar 1) (tCons (tC (.int 2)) (tNil)))) (tFld K (tFld K (tVar 0) "rules") "front"))
abbrev N_Plot_is_near_others : List Str := ["self", "place"]
def t_Plot_is_near_others (A : Adr) (K : PySem.W.Frag) : TS :=
  tRet (tOp rLeI (tMeth A.c_Plot "how_far" (sp_Plot_how_far A K) [] E0 (tVar 0) (tCons (tVar 1) (tCons (tC (.int 0)) (tNil)))) (tFld K (tFld K (tVar 0) "rules") "side"))
abbrev N_Plot_is_open : List Str := ["self", "place"]
def t_Plot_is_open (A : Adr) (K : PySem.W.Frag) : TS :=
  tRet (tAndV (tOp rEq (tOp (rIxL K) (tFld K (tVar 0) "squares") (tVar 1)) (tC (.int 1))) (tAndV (tNotV (tMeth A.c_Plot "is_near_street" (sp_Plot_is_near_street A K) [] E0 (tVar 0) (tCons (tVar 1) (tNil)))) (tNotV (tMeth A.c_Plot "is_near_others" (sp_Plot_is_near_others A K) [] E0 (tVar 0) (tCons (tVar 1) (tNil))))))
abbrev N_Plot_floors_on : List Str := ["self", "place", "x", "y", "floors", "block"]
def t_Plot_floors_on (A : Adr) (K : PySem.W.Frag) : TS :=
  tSeq (tAsg (tOp rModI (tVar 1) (tFld K (tVar 0) "across")) (gName 2))
  (tSeq (tAsg (tOp rDivI (tVar 1) (tFld K (tVar 0) "across")) (gName 3))
  (tSeq (tAsg (tC (.int 0)) (gName 4))
  (tSeq (tFor (iList K (tFld K (tVar 0) "blocks")) (gName 5) (tIfS (tAnd (tTest (tChain rLeI rLeI (tFld K (tVar 5) "x") (tVar 2) (tFld K (tVar 5) "x2"))) (tTest (tChain rLeI rLeI (tFld K (tVar 5) "y") (tVar 3) (tFld K (tVar 5) "y2")))) (tAsg (tCB rMax2 (tCons (tVar 4) (tCons (tFld K (tVar 5) "floors") (tNil)))) (gName 4)) (tNext)))
  (tRet (tVar 4)))))
abbrev N_Plot_all_floors : List Str := ["self", "place"]
def t_Plot_all_floors (A : Adr) (K : PySem.W.Frag) : TS :=
  tRet (tLc (iRng1 (tCons (tCB (rLenS K) (tCons (tFld K (tVar 0) "squares") (tNil))) (tNil))) (gName 1) (tYes) (tMeth A.c_Plot "floors_on" (sp_Plot_floors_on A K) [] E0 (tVar 0) (tCons (tVar 1) (tNil))) [1])
abbrev N_Plot_built : List Str := ["self", "place", "floors"]
def t_Plot_built (A : Adr) (K : PySem.W.Frag) : TS :=
  tRet (tLc (iEnum K (tCons (tMeth A.c_Plot "all_floors" (sp_Plot_all_floors A K) [] E0 (tVar 0) tNil) (tNil))) (gTup K 2 (gCons (gName 1) (gCons (gName 2) (gNil)))) (tTest (tOp rGtI (tVar 2) (tC (.int 0)))) (tVar 1) [1, 2])
abbrev N_Plot_wanted : List Str := ["self"]
def t_Plot_wanted (A : Adr) (K : PySem.W.Frag) : TS :=
  tSeq (tIfS (tTest (tOp rEq (tFld K (tFld K (tVar 0) "rules") "car") (tC (.int 0)))) (tRet (tC (.int 0))) (tNext))
  (tRet (tOp rDivI (tOp rSubI (tOp rAddI (tCB (rSum K) (tCons (tMeth A.c_Plot "all_floors" (sp_Plot_all_floors A K) [] E0 (tVar 0) tNil) (tNil))) (tFld K (tFld K (tVar 0) "rules") "car")) (tC (.int 1))) (tFld K (tFld K (tVar 0) "rules") "car")))
abbrev N_Plot_beside : List Str := ["self", "place", "x", "y", "found", "other_x", "other_y"]
def t_Plot_beside (A : Adr) (K : PySem.W.Frag) : TS :=
  tSeq (tAsg (tOp rModI (tVar 1) (tFld K (tVar 0) "across")) (gName 2))
  (tSeq (tAsg (tOp rDivI (tVar 1) (tFld K (tVar 0) "across")) (gName 3))
  (tSeq (tAsg (tLst (tNil)) (gName 4))
  (tSeq (tFor (iTup K (tTup (tCons (tTup (tCons (tOp rSubI (tVar 2) (tC (.int 1))) (tCons (tVar 3) (tNil)))) (tCons (tTup (tCons (tOp rAddI (tVar 2) (tC (.int 1))) (tCons (tVar 3) (tNil)))) (tCons (tTup (tCons (tVar 2) (tCons (tOp rSubI (tVar 3) (tC (.int 1))) (tNil)))) (tCons (tTup (tCons (tVar 2) (tCons (tOp rAddI (tVar 3) (tC (.int 1))) (tNil)))) (tNil))))))) (gTup K 2 (gCons (gName 5) (gCons (gName 6) (gNil)))) (tIfS (tB (tMeth A.c_Plot "is_there" (sp_Plot_is_there A K) [] E0 (tVar 0) (tCons (tVar 5) (tCons (tVar 6) (tNil))))) (tDrop (tBM K "list" rAppend (tVar 4) (tCons (tMeth A.c_Plot "place_of" (sp_Plot_place_of A K) [] E0 (tVar 0) (tCons (tVar 5) (tCons (tVar 6) (tNil)))) (tNil)))) (tNext)))
  (tRet (tVar 4)))))
abbrev N_Plot_houses : List Str := ["self", "left", "place", "houses", "first", "house", "waiting", "other"]
def t_Plot_houses (A : Adr) (K : PySem.W.Frag) : TS :=
  tSeq (tAsg (tDNewK) (gName 1))
  (tSeq (tFor (iList K (tMeth A.c_Plot "built" (sp_Plot_built A K) [] E0 (tVar 0) tNil)) (gName 2) (sDPut (tVar 1) (tVar 2) (tC (.bl true))))
  (tSeq (tAsg (tLst (tNil)) (gName 3))
  (tSeq (tFor (iList K (tMeth A.c_Plot "built" (sp_Plot_built A K) [] E0 (tVar 0) tNil)) (gName 4) (tIfS (tB (tDIn (tVar 4) (tVar 1))) (tSeq (tDrop (tDPop1 (tVar 1) (tVar 4)))
  (tSeq (tAsg (tLst (tNil)) (gName 5))
  (tSeq (tAsg (tLst (tCons (tVar 4) (tNil))) (gName 6))
  (tSeq (tWhile (tTest (tOp rGtI (tCB (rLenS K) (tCons (tVar 6) (tNil))) (tC (.int 0)))) (tSeq (tAsg (tBM0 K "list" rPop (tVar 6)) (gName 2))
  (tSeq (tDrop (tBM K "list" rAppend (tVar 5) (tCons (tVar 2) (tNil))))
  (tFor (iList K (tMeth A.c_Plot "beside" (sp_Plot_beside A K) [] E0 (tVar 0) (tCons (tVar 2) (tNil)))) (gName 7) (tIfS (tB (tDIn (tVar 7) (tVar 1))) (tSeq (tDrop (tDPop1 (tVar 1) (tVar 7)))
  (tDrop (tBM K "list" rAppend (tVar 6) (tCons (tVar 7) (tNil))))) (tNext))))))
  (tDrop (tBM K "list" rAppend (tVar 3) (tCons (tVar 5) (tNil)))))))) (tNext)))
  (tRet (tVar 3)))))
abbrev N_Plot_are_near : List Str := ["self", "house", "other", "place", "second"]
def t_Plot_are_near (A : Adr) (K : PySem.W.Frag) : TS :=
  tSeq (tFor (iList K (tVar 1)) (gName 3) (tFor (iList K (tVar 2)) (gName 4) (tIfS (tTest (tOp rLtI (tOp rSubI (tMeth A.c_Plot "apart" (sp_Plot_apart A K) [] E0 (tVar 0) (tCons (tVar 3) (tCons (tVar 4) (tNil)))) (tC (.int 1))) (tFld K (tFld K (tVar 0) "rules") "gap"))) (tRet (tC (.bl true))) (tNext))))
  (tRet (tC (.bl false)))
abbrev N_Plot_near_pairs : List Str := ["self", "houses", "count", "index", "house", "other"]
def t_Plot_near_pairs (A : Adr) (K : PySem.W.Frag) : TS :=
  tSeq (tAsg (tMeth A.c_Plot "houses" (sp_Plot_houses A K) [] E0 (tVar 0) tNil) (gName 1))
  (tSeq (tAsg (tC (.int 0)) (gName 2))
  (tSeq (tFor (iEnum K (tCons (tVar 1) (tNil))) (gTup K 2 (gCons (gName 3) (gCons (gName 4) (gNil)))) (tFor (iList K (tSl (rSlL K) (tVar 1) (tPart (tOp rAddI (tVar 3) (tC (.int 1)))) (tNoPart))) (gName 5) (tAug 2 (tIf (tB (tMeth A.c_Plot "are_near" (sp_Plot_are_near A K) [] E0 (tVar 0) (tCons (tVar 4) (tCons (tVar 5) (tNil))))) (tC (.int 1)) (tC (.int 0))) ipAddI)))
  (tRet (tVar 2))))
abbrev N_Plot_amounts : List Str := ["self", "floors", "built", "own", "above", "place", "rules", "free"]
def t_Plot_amounts (A : Adr) (K : PySem.W.Frag) : TS :=
  tSeq (tAsg (tMeth A.c_Plot "all_floors" (sp_Plot_all_floors A K) [] E0 (tVar 0) tNil) (gName 1))
  (tSeq (tAsg (tMeth A.c_Plot "built" (sp_Plot_built A K) [] E0 (tVar 0) tNil) (gName 2))
  (tSeq (tAsg (tLc (iList K (tVar 2)) (gName 5) (tTest (tOp rEq (tOp (rIxL K) (tFld K (tVar 0) "squares") (tVar 5)) (tC (.int 1)))) (tVar 5) [5]) (gName 3))
  (tSeq (tAsg (tC (.int 0)) (gName 4))
  (tSeq (tFor (iList K (tVar 3)) (gName 5) (tAug 4 (tCB rMax2 (tCons (tC (.int 0)) (tCons (tOp rSubI (tOp (rIxL K) (tVar 1) (tVar 5)) (tMeth A.c_Plot "most_floors" (sp_Plot_most_floors A K) [] E0 (tVar 0) (tCons (tVar 5) (tNil)))) (tNil)))) ipAddI))
  (tSeq (tAsg (tFld K (tVar 0) "rules") (gName 6))
  (tSeq (tAsg (tCB rMax2 (tCons (tC (.int 0)) (tCons (tOp rSubI (tOp rSubI (tFld K (tVar 0) "area") (tCB (rLenS K) (tCons (tVar 2) (tNil)))) (tFld K (tVar 0) "paved")) (tNil)))) (gName 7))
  (tRet (tLst (tCons (tOp rSubI (tCB (rLenS K) (tCons (tVar 2) (tNil))) (tCB (rLenS K) (tCons (tVar 3) (tNil)))) (tCons (tCB (rLenS K) (tCons (tLc (iList K (tVar 3)) (gName 5) (tB (tMeth A.c_Plot "is_near_street" (sp_Plot_is_near_street A K) [] E0 (tVar 0) (tCons (tVar 5) (tNil)))) (tVar 5) [5]) (tNil))) (tCons (tCB (rLenS K) (tCons (tLc (iList K (tVar 3)) (gName 5) (tB (tMeth A.c_Plot "is_near_others" (sp_Plot_is_near_others A K) [] E0 (tVar 0) (tCons (tVar 5) (tNil)))) (tVar 5) [5]) (tNil))) (tCons (tVar 4) (tCons (tOp rSubI (tCB (rLenS K) (tCons (tVar 2) (tNil))) (tOp rDivI (tOp rMulI (tFld K (tVar 6) "covered") (tFld K (tVar 0) "area")) (tC (.int 100)))) (tCons (tOp rSubI (tCB (rSum K) (tCons (tVar 1) (tNil))) (tOp rDivI (tOp rMulI (tFld K (tVar 6) "floors") (tFld K (tVar 0) "area")) (tC (.int 100)))) (tCons (tOp rSubI (tOp rDivI (tOp rAddI (tOp rMulI (tFld K (tVar 6) "green") (tFld K (tVar 0) "area")) (tC (.int 99))) (tC (.int 100))) (tVar 7)) (tCons (tOp rSubI (tMeth A.c_Plot "wanted" (sp_Plot_wanted A K) [] E0 (tVar 0) tNil) (tFld K (tVar 0) "spaces")) (tCons (tMeth A.c_Plot "near_pairs" (sp_Plot_near_pairs A K) [] E0 (tVar 0) tNil) (tNil))))))))))))))))))
abbrev N_Plot_broken : List Str := ["self", "place", "amount"]
def t_Plot_broken (A : Adr) (K : PySem.W.Frag) : TS :=
  tRet (tLc (iEnum K (tCons (tMeth A.c_Plot "amounts" (sp_Plot_amounts A K) [] E0 (tVar 0) tNil) (tNil))) (gTup K 2 (gCons (gName 1) (gCons (gName 2) (gNil)))) (tTest (tOp rGtI (tVar 2) (tC (.int 0)))) (tTup (tCons (tOp rAddI (tVar 1) (tC (.int 1))) (tCons (tVar 2) (tNil)))) [1, 2])
abbrev N_Plot_most_of : List Str := ["self", "places", "most", "total", "place"]
def t_Plot_most_of (A : Adr) (K : PySem.W.Frag) : TS :=
  tSeq (tAsg (tCKw (rSortedKw K true [.bl true]) (tCons (tLc (iList K (tVar 1)) (gName 4) (tB (tMeth A.c_Plot "is_open" (sp_Plot_is_open A K) [] E0 (tVar 0) (tCons (tVar 4) (tNil)))) (tMeth A.c_Plot "most_floors" (sp_Plot_most_floors A K) [] E0 (tVar 0) (tCons (tVar 4) (tNil))) [4]) (tNil)) (tCons (tC (.bl true)) tNil)) (gName 2))
  (tSeq (tAsg (tCB (rSum K) (tCons (tSl (rSlL K) (tVar 2) (tNoPart) (tPart (tOp rDivI (tOp rMulI (tFld K (tFld K (tVar 0) "rules") "covered") (tFld K (tVar 0) "area")) (tC (.int 100))))) (tNil))) (gName 3))
  (tRet (tCB rMin2 (tCons (tVar 3) (tCons (tOp rDivI (tOp rMulI (tFld K (tFld K (tVar 0) "rules") "floors") (tFld K (tVar 0) "area")) (tC (.int 100))) (tNil))))))
abbrev N_Plot_best : List Str := ["self"]
def t_Plot_best (A : Adr) (K : PySem.W.Frag) : TS :=
  tRet (tMeth A.c_Plot "most_of" (sp_Plot_most_of A K) [] E0 (tVar 0) (tCons (tLstRg (tRg1 (tCB (rLenS K) (tCons (tFld K (tVar 0) "squares") (tNil))))) (tNil)))
abbrev N_are_rules : List Str := ["numbers", "most", "place", "number"]
def t_are_rules (A : Adr) (K : PySem.W.Frag) : TS :=
  tSeq (tIfS (tTest (tOp rNe (tCB (rLenS K) (tCons (tVar 0) (tNil))) (tC (.int 11)))) (tRet (tC (.bl false))) (tNext))
  (tSeq (tAsg (tTup (tCons (tC (.int 20)) (tCons (tC (.int 20)) (tCons (tC (.int 10000)) (tCons (tC (.int 1000)) (tCons (tC (.int 10000)) (tCons (tC (.int 200)) (tCons (tC (.int 100)) (tCons (tC (.int 10000)) (tCons (tC (.int 100)) (tCons (tC (.int 10000)) (tCons (tC (.int 20)) (tNil))))))))))))) (gName 1))
  (tSeq (tFor (iEnum K (tCons (tVar 0) (tNil))) (gTup K 2 (gCons (gName 2) (gCons (gName 3) (gNil)))) (tIfS (tOr (tTest (tOp rLtI (tVar 3) (tIf (tTest (tOp rEq (tVar 2) (tC (.int 5)))) (tC (.int 1)) (tC (.int 0))))) (tTest (tOp rGtI (tVar 3) (tOp (rIxT K) (tVar 1) (tVar 2))))) (tRet (tC (.bl false))) (tNext)))
  (tRet (tC (.bl true)))))
abbrev N_Plot_set_rules : List Str := ["self", "numbers"]
def t_Plot_set_rules (A : Adr) (K : PySem.W.Frag) : TS :=
  tSeq (tIfS (tNot (tB (tCall (sp_are_rules A K) [] E0 (tCons (tVar 1) (tNil))))) (tRet (tLst (tCons (tUn rNegI (tC (.int 1))) (tNil)))) (tNext))
  (tSeq (tIfS (tNot (tB (tMeth A.c_Plot "has_ground" (sp_Plot_has_ground A K) [] E0 (tVar 0) tNil))) (tRet (tLst (tCons (tUn rNegI (tC (.int 2))) (tNil)))) (tNext))
  (tSeq (sFld K (tVar 0) (tMake A.c_Rules (sp_Rules___init__ A K) [] E0 (tCons (tVar 1) (tNil))) "rules")
  (tRet (tLst (tCons (tC (.int 0)) (tNil))))))
abbrev N_Plot_add_block : List Str := ["self", "x", "y", "x2", "y2", "floors"]
def t_Plot_add_block (A : Adr) (K : PySem.W.Frag) : TS :=
  tSeq (tIfS (tNot (tB (tMeth A.c_Plot "has_ground" (sp_Plot_has_ground A K) [] E0 (tVar 0) tNil))) (tRet (tLst (tCons (tUn rNegI (tC (.int 2))) (tNil)))) (tNext))
  (tSeq (tIfS (tOr (tNot (tB (tMeth A.c_Plot "is_there" (sp_Plot_is_there A K) [] E0 (tVar 0) (tCons (tVar 1) (tCons (tVar 2) (tNil)))))) (tOr (tNot (tB (tMeth A.c_Plot "is_there" (sp_Plot_is_there A K) [] E0 (tVar 0) (tCons (tVar 3) (tCons (tVar 4) (tNil)))))) (tOr (tTest (tOp rLtI (tVar 3) (tVar 1))) (tTest (tOp rLtI (tVar 4) (tVar 2)))))) (tRet (tLst (tCons (tUn rNegI (tC (.int 1))) (tNil)))) (tNext))
  (tSeq (tIfS (tOr (tTest (tOp rLtI (tVar 5) (tC (.int 1)))) (tTest (tOp rGtI (tVar 5) (tC (.int 60))))) (tRet (tLst (tCons (tUn rNegI (tC (.int 1))) (tNil)))) (tNext))
  (tSeq (tIfS (tTest (tOp rGeI (tCB (rLenS K) (tCons (tFld K (tVar 0) "blocks") (tNil))) (tC (.int 20)))) (tRet (tLst (tCons (tUn rNegI (tC (.int 5))) (tNil)))) (tNext))
  (tSeq (tDrop (tBM K "list" rAppend (tFld K (tVar 0) "blocks") (tCons (tMake A.c_Block (sp_Block___init__ A K) [] E0 (tCons (tVar 1) (tCons (tVar 2) (tCons (tVar 3) (tCons (tVar 4) (tCons (tVar 5) (tNil))))))) (tNil))))
  (tRet (tLst (tCons (tCB (rLenS K) (tCons (tFld K (tVar 0) "blocks") (tNil))) (tNil))))))))
abbrev N_Plot_drop : List Str := ["self"]
def t_Plot_drop (A : Adr) (K : PySem.W.Frag) : TS :=
  tSeq (tIfS (tTest (tOp rEq (tCB (rLenS K) (tCons (tFld K (tVar 0) "blocks") (tNil))) (tC (.int 0)))) (tRet (tLst (tCons (tUn rNegI (tC (.int 4))) (tNil)))) (tNext))
  (tSeq (tDrop (tBM0 K "list" rPop (tFld K (tVar 0) "blocks")))
  (tRet (tLst (tCons (tCB (rLenS K) (tCons (tFld K (tVar 0) "blocks") (tNil))) (tNil)))))
abbrev N_Plot_pave : List Str := ["self", "squares", "spaces"]
def t_Plot_pave (A : Adr) (K : PySem.W.Frag) : TS :=
  tSeq (tIfS (tOr (tTest (tOp rLtI (tVar 1) (tC (.int 0)))) (tOr (tTest (tOp rGtI (tVar 1) (tC (.int 1000)))) (tOr (tTest (tOp rLtI (tVar 2) (tC (.int 0)))) (tTest (tOp rGtI (tVar 2) (tC (.int 1000))))))) (tRet (tLst (tCons (tUn rNegI (tC (.int 1))) (tNil)))) (tNext))
  (tSeq (tIfS (tNot (tB (tMeth A.c_Plot "has_ground" (sp_Plot_has_ground A K) [] E0 (tVar 0) tNil))) (tRet (tLst (tCons (tUn rNegI (tC (.int 2))) (tNil)))) (tNext))
  (tSeq (sFld K (tVar 0) (tVar 1) "paved")
  (tSeq (sFld K (tVar 0) (tVar 2) "spaces")
  (tRet (tLst (tCons (tC (.int 0)) (tNil)))))))
abbrev N_Plot_tell_check : List Str := ["self", "broken", "answer", "rule", "amount"]
def t_Plot_tell_check (A : Adr) (K : PySem.W.Frag) : TS :=
  tSeq (tAsg (tMeth A.c_Plot "broken" (sp_Plot_broken A K) [] E0 (tVar 0) tNil) (gName 1))
  (tSeq (tAsg (tLst (tCons (tCB (rLenS K) (tCons (tVar 1) (tNil))) (tNil))) (gName 2))
  (tSeq (tFor (iList K (tVar 1)) (gTup K 2 (gCons (gName 3) (gCons (gName 4) (gNil)))) (tDrop (tBM K "list" rExtend (tVar 2) (tCons (tLst (tCons (tVar 3) (tCons (tVar 4) (tNil)))) (tNil)))))
  (tRet (tVar 2))))
abbrev N_Plot_tell_square : List Str := ["self", "x", "y", "place", "is_open", "answer"]
def t_Plot_tell_square (A : Adr) (K : PySem.W.Frag) : TS :=
  tSeq (tIfS (tNot (tB (tMeth A.c_Plot "is_there" (sp_Plot_is_there A K) [] E0 (tVar 0) (tCons (tVar 1) (tCons (tVar 2) (tNil)))))) (tRet (tLst (tCons (tUn rNegI (tC (.int 1))) (tNil)))) (tNext))
  (tSeq (tAsg (tMeth A.c_Plot "place_of" (sp_Plot_place_of A K) [] E0 (tVar 0) (tCons (tVar 1) (tCons (tVar 2) (tNil)))) (gName 3))
  (tSeq (tAsg (tIf (tB (tMeth A.c_Plot "is_open" (sp_Plot_is_open A K) [] E0 (tVar 0) (tCons (tVar 3) (tNil)))) (tC (.int 1)) (tC (.int 0))) (gName 4))
  (tSeq (tAsg (tLst (tCons (tOp (rIxL K) (tFld K (tVar 0) "squares") (tVar 3)) (tCons (tMeth A.c_Plot "inward" (sp_Plot_inward A K) [] E0 (tVar 0) (tCons (tVar 3) (tNil))) (tCons (tVar 4) (tCons (tMeth A.c_Plot "height_of" (sp_Plot_height_of A K) [] E0 (tVar 0) (tCons (tVar 3) (tNil))) (tCons (tMeth A.c_Plot "most_floors" (sp_Plot_most_floors A K) [] E0 (tVar 0) (tCons (tVar 3) (tNil))) (tNil))))))) (gName 5))
  (tRet (tOp rCat (tVar 5) (tLst (tCons (tMeth A.c_Plot "floors_on" (sp_Plot_floors_on A K) [] E0 (tVar 0) (tCons (tVar 3) (tNil))) (tNil))))))))
abbrev N_Plot_tell_houses : List Str := ["self", "houses", "house"]
def t_Plot_tell_houses (A : Adr) (K : PySem.W.Frag) : TS :=
  tSeq (tAsg (tMeth A.c_Plot "houses" (sp_Plot_houses A K) [] E0 (tVar 0) tNil) (gName 1))
  (tRet (tOp rCat (tLst (tCons (tCB (rLenS K) (tCons (tVar 1) (tNil))) (tNil))) (tLc (iList K (tVar 1)) (gName 2) (tYes) (tCB (rLenS K) (tCons (tVar 2) (tNil))) [2])))
abbrev N_Plot_tell_sums : List Str := ["self"]
def t_Plot_tell_sums (A : Adr) (K : PySem.W.Frag) : TS :=
  tRet (tLst (tCons (tFld K (tVar 0) "area") (tCons (tCB (rLenS K) (tCons (tMeth A.c_Plot "built" (sp_Plot_built A K) [] E0 (tVar 0) tNil) (tNil))) (tCons (tCB (rSum K) (tCons (tMeth A.c_Plot "all_floors" (sp_Plot_all_floors A K) [] E0 (tVar 0) tNil) (tNil))) (tCons (tMeth A.c_Plot "wanted" (sp_Plot_wanted A K) [] E0 (tVar 0) tNil) (tNil))))))
abbrev N_Plot_answer : List Str := ["self", "number", "numbers", "squares"]
def t_Plot_answer (A : Adr) (K : PySem.W.Frag) : TS :=
  tSeq (tIfS (tTest (tOp rEq (tVar 1) (tC (.int 2)))) (tRet (tMeth A.c_Plot "set_rules" (sp_Plot_set_rules A K) [] E0 (tVar 0) (tCons (tVar 3) (tNil)))) (tNext))
  (tSeq (tIfS (tTest (tOp rEq (tVar 1) (tC (.int 3)))) (tRet (tMeth A.c_Plot "add_block" (sp_Plot_add_block A K) [] E0 (tVar 0) (tCons (tOp (rIxL K) (tVar 2) (tC (.int 0))) (tCons (tOp (rIxL K) (tVar 2) (tC (.int 1))) (tCons (tOp (rIxL K) (tVar 2) (tC (.int 2))) (tCons (tOp (rIxL K) (tVar 2) (tC (.int 3))) (tCons (tOp (rIxL K) (tVar 2) (tC (.int 4))) (tNil)))))))) (tNext))
  (tSeq (tIfS (tTest (tOp rEq (tVar 1) (tC (.int 4)))) (tRet (tMeth A.c_Plot "drop" (sp_Plot_drop A K) [] E0 (tVar 0) tNil)) (tNext))
  (tSeq (tIfS (tTest (tOp rEq (tVar 1) (tC (.int 5)))) (tRet (tMeth A.c_Plot "pave" (sp_Plot_pave A K) [] E0 (tVar 0) (tCons (tOp (rIxL K) (tVar 2) (tC (.int 0))) (tCons (tOp (rIxL K) (tVar 2) (tC (.int 1))) (tNil))))) (tNext))
  (tSeq (tIfS (tNot (tB (tMeth A.c_Plot "has_ground" (sp_Plot_has_ground A K) [] E0 (tVar 0) tNil))) (tRet (tLst (tCons (tUn rNegI (tC (.int 2))) (tNil)))) (tNext))
  (tSeq (tIfS (tTest (tOp rEq (tVar 1) (tC (.int 6)))) (tRet (tMeth A.c_Plot "tell_check" (sp_Plot_tell_check A K) [] E0 (tVar 0) tNil)) (tNext))
  (tSeq (tIfS (tTest (tOp rEq (tVar 1) (tC (.int 7)))) (tRet (tMeth A.c_Plot "tell_square" (sp_Plot_tell_square A K) [] E0 (tVar 0) (tCons (tOp (rIxL K) (tVar 2) (tC (.int 0))) (tCons (tOp (rIxL K) (tVar 2) (tC (.int 1))) (tNil))))) (tNext))
  (tSeq (tIfS (tTest (tOp rEq (tVar 1) (tC (.int 8)))) (tRet (tLst (tCons (tMeth A.c_Plot "best" (sp_Plot_best A K) [] E0 (tVar 0) tNil) (tNil)))) (tNext))
  (tRet (tIf (tTest (tOp rEq (tVar 1) (tC (.int 9)))) (tMeth A.c_Plot "tell_houses" (sp_Plot_tell_houses A K) [] E0 (tVar 0) tNil) (tMeth A.c_Plot "tell_sums" (sp_Plot_tell_sums A K) [] E0 (tVar 0) tNil))))))))))
abbrev N_Section___init__ : List Str := ["self", "area", "level", "alarm"]
def t_Section___init__ (A : Adr) (K : PySem.W.Frag) : TS :=
  tSeq (sFld K (tVar 0) (tVar 1) "area")
  (tSeq (sFld K (tVar 0) (tOp rMulI (tVar 1) (tVar 2)) "water")
  (tSeq (sFld K (tVar 0) (tVar 3) "alarm")
  (sFld K (tVar 0) (tC (.int 0)) "alarms")))
abbrev N_Section_level : List Str := ["self"]
def t_Section_level (A : Adr) (K : PySem.W.Frag) : TS :=
  tRet (tOp rDivI (tFld K (tVar 0) "water") (tFld K (tVar 0) "area"))
abbrev N_Device___init__ : List Str := ["self", "kind", "section", "target", "mark", "amount", "stop"]
def t_Device___init__ (A : Adr) (K : PySem.W.Frag) : TS :=
  tSeq (sFld K (tVar 0) (tVar 1) "kind")
  (tSeq (sFld K (tVar 0) (tVar 2) "section")
  (tSeq (sFld K (tVar 0) (tVar 3) "target")
  (tSeq (sFld K (tVar 0) (tVar 4) "mark")
  (tSeq (sFld K (tVar 0) (tVar 5) "amount")
  (tSeq (sFld K (tVar 0) (tVar 6) "stop")
  (tSeq (sFld K (tVar 0) (tC (.bl false)) "is_running")
  (tSeq (sFld K (tVar 0) (tC (.int 0)) "moved")
  (sFld K (tVar 0) (tC (.int 0)) "turns"))))))))
abbrev N_Polder___init__ : List Str := ["self", "tide"]
def t_Polder___init__ (A : Adr) (K : PySem.W.Frag) : TS :=
  tSeq (sFld K (tVar 0) (tVar 1) "tide")
  (tSeq (sFld K (tVar 0) (tC (.int 0)) "time")
  (tSeq (sFld K (tVar 0) (tLst (tNil)) "sections")
  (tSeq (sFld K (tVar 0) (tLst (tNil)) "devices")
  (tSeq (sFld K (tVar 0) (tC (.int 0)) "rained")
  (tSeq (sFld K (tVar 0) (tC (.int 0)) "dried")
  (tSeq (sFld K (tVar 0) (tC (.int 0)) "let_in")
  (sFld K (tVar 0) (tC (.int 0)) "let_out")))))))
abbrev N_Polder_sea : List Str := ["self"]
def t_Polder_sea (A : Adr) (K : PySem.W.Frag) : TS :=
  tRet (tIf (tTest (tOp rEq (tCB (rLenS K) (tCons (tFld K (tVar 0) "tide") (tNil))) (tC (.int 0)))) (tC (.int 0)) (tOp (rIxL K) (tFld K (tVar 0) "tide") (tOp rModI (tFld K (tVar 0) "time") (tCB (rLenS K) (tCons (tFld K (tVar 0) "tide") (tNil))))))
abbrev N_Polder_is_section : List Str := ["self", "number"]
def t_Polder_is_section (A : Adr) (K : PySem.W.Frag) : TS :=
  tRet (tChain rLeI rLtI (tC (.int 0)) (tVar 1) (tCB (rLenS K) (tCons (tFld K (tVar 0) "sections") (tNil))))
abbrev N_is_level : List Str := ["number"]
def t_is_level (A : Adr) (K : PySem.W.Frag) : TS :=
  tRet (tChain rLeI rLeI (tC (.int 0)) (tVar 0) (tC (.int 10000)))
abbrev N_Polder_add_section : List Str := ["self", "area", "level", "alarm"]
def t_Polder_add_section (A : Adr) (K : PySem.W.Frag) : TS :=
  tSeq (tIfS (tOr (tTest (tOp rLtI (tVar 1) (tC (.int 1)))) (tOr (tTest (tOp rGtI (tVar 1) (tC (.int 1000)))) (tOr (tNot (tB (tCall (sp_is_level A K) [] E0 (tCons (tVar 2) (tNil))))) (tNot (tB (tCall (sp_is_level A K) [] E0 (tCons (tVar 3) (tNil)))))))) (tRet (tLst (tCons (tUn rNegI (tC (.int 1))) (tNil)))) (tNext))
  (tSeq (tIfS (tTest (tOp rGeI (tCB (rLenS K) (tCons (tFld K (tVar 0) "sections") (tNil))) (tC (.int 10)))) (tRet (tLst (tCons (tUn rNegI (tC (.int 5))) (tNil)))) (tNext))
  (tSeq (tDrop (tBM K "list" rAppend (tFld K (tVar 0) "sections") (tCons (tMake A.c_Section (sp_Section___init__ A K) [] E0 (tCons (tVar 1) (tCons (tVar 2) (tCons (tVar 3) (tNil))))) (tNil))))
  (tRet (tLst (tCons (tOp rSubI (tCB (rLenS K) (tCons (tFld K (tVar 0) "sections") (tNil))) (tC (.int 1))) (tNil))))))
abbrev N_Polder_add_device : List Str := ["self", "device"]
def t_Polder_add_device (A : Adr) (K : PySem.W.Frag) : TS :=
  tSeq (tIfS (tTest (tOp rGeI (tCB (rLenS K) (tCons (tFld K (tVar 0) "devices") (tNil))) (tC (.int 20)))) (tRet (tLst (tCons (tUn rNegI (tC (.int 5))) (tNil)))) (tNext))
  (tSeq (tDrop (tBM K "list" rAppend (tFld K (tVar 0) "devices") (tCons (tVar 1) (tNil))))
  (tRet (tLst (tCons (tOp rSubI (tCB (rLenS K) (tCons (tFld K (tVar 0) "devices") (tNil))) (tC (.int 1))) (tNil)))))
abbrev N_Polder_add_weir : List Str := ["self", "section", "target", "crest", "width"]
def t_Polder_add_weir (A : Adr) (K : PySem.W.Frag) : TS :=
  tSeq (tIfS (tOr (tNot (tB (tMeth A.c_Polder "is_section" (sp_Polder_is_section A K) [] E0 (tVar 0) (tCons (tVar 1) (tNil))))) (tOr (tNot (tB (tMeth A.c_Polder "is_section" (sp_Polder_is_section A K) [] E0 (tVar 0) (tCons (tVar 2) (tNil))))) (tTest (tOp rEq (tVar 1) (tVar 2))))) (tRet (tLst (tCons (tUn rNegI (tC (.int 1))) (tNil)))) (tNext))
  (tSeq (tIfS (tOr (tNot (tB (tCall (sp_is_level A K) [] E0 (tCons (tVar 3) (tNil))))) (tOr (tTest (tOp rLtI (tVar 4) (tC (.int 1)))) (tTest (tOp rGtI (tVar 4) (tC (.int 1000)))))) (tRet (tLst (tCons (tUn rNegI (tC (.int 1))) (tNil)))) (tNext))
  (tRet (tMeth A.c_Polder "add_device" (sp_Polder_add_device A K) [] E0 (tVar 0) (tCons (tMake A.c_Device (sp_Device___init__ A K) [] E0 (tCons (tC (.int 0)) (tCons (tVar 1) (tCons (tVar 2) (tCons (tVar 3) (tCons (tVar 4) (tCons (tC (.int 0)) (tNil)))))))) (tNil)))))
abbrev N_Polder_add_pump : List Str := ["self", "section", "target", "capacity", "start", "stop"]
def t_Polder_add_pump (A : Adr) (K : PySem.W.Frag) : TS :=
  tSeq (tIfS (tOr (tNot (tB (tMeth A.c_Polder "is_section" (sp_Polder_is_section A K) [] E0 (tVar 0) (tCons (tVar 1) (tNil))))) (tOr (tAnd (tTest (tOp rNe (tVar 2) (tC (.int (-1))))) (tNot (tB (tMeth A.c_Polder "is_section" (sp_Polder_is_section A K) [] E0 (tVar 0) (tCons (tVar 2) (tNil)))))) (tTest (tOp rEq (tVar 1) (tVar 2))))) (tRet (tLst (tCons (tUn rNegI (tC (.int 1))) (tNil)))) (tNext))
  (tSeq (tIfS (tOr (tTest (tOp rLtI (tVar 3) (tC (.int 1)))) (tOr (tTest (tOp rGtI (tVar 3) (tC (.int 100000)))) (tOr (tTest (tOp rLtI (tVar 4) (tC (.int 1)))) (tTest (tOp rGtI (tVar 4) (tC (.int 10000))))))) (tRet (tLst (tCons (tUn rNegI (tC (.int 1))) (tNil)))) (tNext))
  (tSeq (tIfS (tOr (tNot (tB (tCall (sp_is_level A K) [] E0 (tCons (tVar 5) (tNil))))) (tTest (tOp rGeI (tVar 5) (tVar 4)))) (tRet (tLst (tCons (tUn rNegI (tC (.int 1))) (tNil)))) (tNext))
  (tRet (tMeth A.c_Polder "add_device" (sp_Polder_add_device A K) [] E0 (tVar 0) (tCons (tMake A.c_Device (sp_Device___init__ A K) [] E0 (tCons (tC (.int 1)) (tCons (tVar 1) (tCons (tVar 2) (tCons (tVar 4) (tCons (tVar 3) (tCons (tVar 5) (tNil)))))))) (tNil))))))
abbrev N_Polder_add_sluice : List Str := ["self", "section", "sill", "width"]
def t_Polder_add_sluice (A : Adr) (K : PySem.W.Frag) : TS :=
  tSeq (tIfS (tOr (tNot (tB (tMeth A.c_Polder "is_section" (sp_Polder_is_section A K) [] E0 (tVar 0) (tCons (tVar 1) (tNil))))) (tOr (tNot (tB (tCall (sp_is_level A K) [] E0 (tCons (tVar 2) (tNil))))) (tOr (tTest (tOp rLtI (tVar 3) (tC (.int 1)))) (tTest (tOp rGtI (tVar 3) (tC (.int 1000))))))) (tRet (tLst (tCons (tUn rNegI (tC (.int 1))) (tNil)))) (tNext))
  (tRet (tMeth A.c_Polder "add_device" (sp_Polder_add_device A K) [] E0 (tVar 0) (tCons (tMake A.c_Device (sp_Device___init__ A K) [] E0 (tCons (tC (.int 2)) (tCons (tVar 1) (tCons (tC (.int (-1))) (tCons (tVar 2) (tCons (tVar 3) (tCons (tC (.int 0)) (tNil)))))))) (tNil))))
abbrev N_Polder_add_inlet : List Str := ["self", "section", "capacity", "level"]
def t_Polder_add_inlet (A : Adr) (K : PySem.W.Frag) : TS :=
  tSeq (tIfS (tOr (tNot (tB (tMeth A.c_Polder "is_section" (sp_Polder_is_section A K) [] E0 (tVar 0) (tCons (tVar 1) (tNil))))) (tOr (tTest (tOp rLtI (tVar 2) (tC (.int 1)))) (tOr (tTest (tOp rGtI (tVar 2) (tC (.int 100000)))) (tOr (tTest (tOp rLtI (tVar 3) (tC (.int 1)))) (tTest (tOp rGtI (tVar 3) (tC (.int 10000)))))))) (tRet (tLst (tCons (tUn rNegI (tC (.int 1))) (tNil)))) (tNext))
  (tRet (tMeth A.c_Polder "add_device" (sp_Polder_add_device A K) [] E0 (tVar 0) (tCons (tMake A.c_Device (sp_Device___init__ A K) [] E0 (tCons (tC (.int 3)) (tCons (tVar 1) (tCons (tC (.int (-1))) (tCons (tVar 3) (tCons (tVar 2) (tCons (tC (.int 0)) (tNil)))))))) (tNil))))
abbrev N_Polder_set_device : List Str := ["self", "number", "level", "amount", "device"]
def t_Polder_set_device (A : Adr) (K : PySem.W.Frag) : TS :=
  tSeq (tIfS (tOr (tTest (tOp rLtI (tVar 1) (tC (.int 0)))) (tOr (tTest (tOp rGeI (tVar 1) (tCB (rLenS K) (tCons (tFld K (tVar 0) "devices") (tNil))))) (tOr (tNot (tB (tCall (sp_is_level A K) [] E0 (tCons (tVar 2) (tNil))))) (tOr (tTest (tOp rLtI (tVar 3) (tC (.int 1)))) (tTest (tOp rGtI (tVar 3) (tC (.int 100000)))))))) (tRet (tLst (tCons (tUn rNegI (tC (.int 1))) (tNil)))) (tNext))
  (tSeq (tAsg (tOp (rIxL K) (tFld K (tVar 0) "devices") (tVar 1)) (gName 4))
  (tSeq (tIfS (tAnd (tTest (tOp rEq (tFld K (tVar 4) "kind") (tC (.int 1)))) (tTest (tOp rLeI (tVar 2) (tFld K (tVar 4) "stop")))) (tRet (tLst (tCons (tUn rNegI (tC (.int 4))) (tNil)))) (tNext))
  (tSeq (sFld K (tVar 4) (tVar 2) "mark")
  (tSeq (sFld K (tVar 4) (tVar 3) "amount")
  (tRet (tLst (tCons (tC (.int 0)) (tNil))))))))
abbrev N_Polder_would_run : List Str := ["self", "device", "level"]
def t_Polder_would_run (A : Adr) (K : PySem.W.Frag) : TS :=
  tSeq (tAsg (tMeth A.c_Section "level" (sp_Section_level A K) [] E0 (tOp (rIxL K) (tFld K (tVar 0) "sections") (tFld K (tVar 1) "section")) tNil) (gName 2))
  (tRet (tIf (tB (tFld K (tVar 1) "is_running")) (tOp rGtI (tVar 2) (tFld K (tVar 1) "stop")) (tOp rGeI (tVar 2) (tFld K (tVar 1) "mark"))))
abbrev N_Polder_would_move : List Str := ["self", "device", "section", "level", "bound", "target", "even"]
def t_Polder_would_move (A : Adr) (K : PySem.W.Frag) : TS :=
  tSeq (tAsg (tOp (rIxL K) (tFld K (tVar 0) "sections") (tFld K (tVar 1) "section")) (gName 2))
  (tSeq (tAsg (tMeth A.c_Section "level" (sp_Section_level A K) [] E0 (tVar 2) tNil) (gName 3))
  (tSeq (tIfS (tTest (tOp rEq (tFld K (tVar 1) "kind") (tC (.int 1)))) (tRet (tIf (tB (tMeth A.c_Polder "would_run" (sp_Polder_would_run A K) [] E0 (tVar 0) (tCons (tVar 1) (tNil)))) (tCB rMin2 (tCons (tFld K (tVar 1) "amount") (tCons (tFld K (tVar 2) "water") (tNil)))) (tC (.int 0)))) (tNext))
  (tSeq (tIfS (tTest (tOp rEq (tFld K (tVar 1) "kind") (tC (.int 3)))) (tRet (tIf (tTest (tOp rLtI (tVar 3) (tFld K (tVar 1) "mark"))) (tCB rMax2 (tCons (tC (.int 0)) (tCons (tCB rMin2 (tCons (tFld K (tVar 1) "amount") (tCons (tOp rSubI (tOp rMulI (tFld K (tVar 1) "mark") (tFld K (tVar 2) "area")) (tFld K (tVar 2) "water")) (tNil)))) (tNil)))) (tC (.int 0)))) (tNext))
  (tSeq (tIfS (tTest (tOp rEq (tFld K (tVar 1) "kind") (tC (.int 2)))) (tSeq (tAsg (tCB rMax2 (tCons (tFld K (tVar 1) "mark") (tCons (tMeth A.c_Polder "sea" (sp_Polder_sea A K) [] E0 (tVar 0) tNil) (tNil)))) (gName 4))
  (tSeq (tIfS (tTest (tOp rLeI (tVar 3) (tVar 4))) (tRet (tC (.int 0))) (tNext))
  (tRet (tCB rMin2 (tCons (tOp rMulI (tFld K (tVar 1) "amount") (tOp rSubI (tVar 3) (tVar 4))) (tCons (tOp rSubI (tFld K (tVar 2) "water") (tOp rMulI (tVar 4) (tFld K (tVar 2) "area"))) (tNil))))))) (tNext))
  (tSeq (tAsg (tOp (rIxL K) (tFld K (tVar 0) "sections") (tFld K (tVar 1) "target")) (gName 5))
  (tSeq (tAsg (tCB rMax2 (tCons (tFld K (tVar 1) "mark") (tCons (tMeth A.c_Section "level" (sp_Section_level A K) [] E0 (tVar 5) tNil) (tNil)))) (gName 4))
  (tSeq (tIfS (tTest (tOp rLeI (tVar 3) (tVar 4))) (tRet (tC (.int 0))) (tNext))
  (tSeq (tAsg (tOp rDivI (tOp rSubI (tOp rMulI (tFld K (tVar 2) "water") (tFld K (tVar 5) "area")) (tOp rMulI (tFld K (tVar 5) "water") (tFld K (tVar 2) "area"))) (tOp rAddI (tFld K (tVar 2) "area") (tFld K (tVar 5) "area"))) (gName 6))
  (tRet (tCB rMin3 (tCons (tOp rMulI (tFld K (tVar 1) "amount") (tOp rSubI (tVar 3) (tVar 4))) (tCons (tOp rSubI (tFld K (tVar 2) "water") (tOp rMulI (tFld K (tVar 1) "mark") (tFld K (tVar 2) "area"))) (tCons (tVar 6) (tNil))))))))))))))
abbrev N_Polder_take_turn : List Str := ["self", "device", "moved", "section", "target"]
def t_Polder_take_turn (A : Adr) (K : PySem.W.Frag) : TS :=
  tSeq (tAsg (tMeth A.c_Polder "would_move" (sp_Polder_would_move A K) [] E0 (tVar 0) (tCons (tVar 1) (tNil))) (gName 2))
  (tSeq (tIfS (tTest (tOp rEq (tFld K (tVar 1) "kind") (tC (.int 1)))) (sFld K (tVar 1) (tMeth A.c_Polder "would_run" (sp_Polder_would_run A K) [] E0 (tVar 0) (tCons (tVar 1) (tNil))) "is_running") (tNext))
  (tSeq (tAsg (tOp (rIxL K) (tFld K (tVar 0) "sections") (tFld K (tVar 1) "section")) (gName 3))
  (tSeq (tIfS (tTest (tOp rEq (tFld K (tVar 1) "kind") (tC (.int 3)))) (tSeq (sFldAug K (tVar 3) (tVar 2) rAdd "water")
  (sFldAug K (tVar 0) (tVar 2) rAdd "let_in")) (tSeq (sFldAug K (tVar 3) (tVar 2) rSub "water")
  (tIfS (tTest (tOp rEq (tFld K (tVar 1) "target") (tC (.int (-1))))) (sFldAug K (tVar 0) (tVar 2) rAdd "let_out") (tSeq (tAsg (tOp (rIxL K) (tFld K (tVar 0) "sections") (tFld K (tVar 1) "target")) (gName 4))
  (sFldAug K (tVar 4) (tVar 2) rAdd "water")))))
  (tSeq (sFldAug K (tVar 1) (tVar 2) rAdd "moved")
  (sFldAug K (tVar 1) (tIf (tTest (tOp rGtI (tVar 2) (tC (.int 0)))) (tC (.int 1)) (tC (.int 0))) rAdd "turns")))))
abbrev N_Polder_step : List Str := ["self", "rain", "sun", "section", "taken", "device"]
def t_Polder_step (A : Adr) (K : PySem.W.Frag) : TS :=
  tSeq (tFor (iList K (tFld K (tVar 0) "sections")) (gName 3) (tSeq (sFldAug K (tVar 3) (tOp rMulI (tVar 1) (tFld K (tVar 3) "area")) rAdd "water")
  (sFldAug K (tVar 0) (tOp rMulI (tVar 1) (tFld K (tVar 3) "area")) rAdd "rained")))
  (tSeq (tFor (iList K (tFld K (tVar 0) "sections")) (gName 3) (tSeq (tAsg (tCB rMin2 (tCons (tOp rMulI (tVar 2) (tFld K (tVar 3) "area")) (tCons (tFld K (tVar 3) "water") (tNil)))) (gName 4))
  (tSeq (sFldAug K (tVar 3) (tVar 4) rSub "water")
  (sFldAug K (tVar 0) (tVar 4) rAdd "dried"))))
  (tSeq (tFor (iList K (tFld K (tVar 0) "devices")) (gName 5) (tDrop (tMeth A.c_Polder "take_turn" (sp_Polder_take_turn A K) [] E0 (tVar 0) (tCons (tVar 5) (tNil)))))
  (tSeq (tFor (iList K (tFld K (tVar 0) "sections")) (gName 3) (sFldAug K (tVar 3) (tIf (tTest (tOp rGtI (tMeth A.c_Section "level" (sp_Section_level A K) [] E0 (tVar 3) tNil) (tFld K (tVar 3) "alarm"))) (tC (.int 1)) (tC (.int 0))) rAdd "alarms"))
  (sFldAug K (tVar 0) (tC (.int 1)) rAdd "time"))))
abbrev N_are_steps : List Str := ["steps", "rain", "sun"]
def t_are_steps (A : Adr) (K : PySem.W.Frag) : TS :=
  tRet (tAndV (tChain rLeI rLeI (tC (.int 0)) (tVar 0) (tC (.int 100))) (tAndV (tChain rLeI rLeI (tC (.int 0)) (tVar 1) (tC (.int 500))) (tChain rLeI rLeI (tC (.int 0)) (tVar 2) (tC (.int 500)))))
abbrev N_Polder_run : List Str := ["self", "steps", "rain", "sun", "index", "section"]
def t_Polder_run (A : Adr) (K : PySem.W.Frag) : TS :=
  tSeq (tIfS (tNot (tB (tCall (sp_are_steps A K) [] E0 (tCons (tVar 1) (tCons (tVar 2) (tCons (tVar 3) (tNil))))))) (tRet (tLst (tCons (tUn rNegI (tC (.int 1))) (tNil)))) (tNext))
  (tSeq (tFor (iRng1 (tCons (tVar 1) (tNil))) (gName 4) (tDrop (tMeth A.c_Polder "step" (sp_Polder_step A K) [] E0 (tVar 0) (tCons (tVar 2) (tCons (tVar 3) (tNil))))))
  (tRet (tOp rCat (tLst (tCons (tFld K (tVar 0) "time") (tNil))) (tLc (iList K (tFld K (tVar 0) "sections")) (gName 5) (tYes) (tMeth A.c_Section "level" (sp_Section_level A K) [] E0 (tVar 5) tNil) [5]))))
abbrev N_Polder_tell_levels : List Str := ["self", "answer", "section"]
def t_Polder_tell_levels (A : Adr) (K : PySem.W.Frag) : TS :=
  tSeq (tAsg (tLst (tCons (tCB (rLenS K) (tCons (tFld K (tVar 0) "sections") (tNil))) (tNil))) (gName 1))
  (tSeq (tFor (iList K (tFld K (tVar 0) "sections")) (gName 2) (tDrop (tBM K "list" rExtend (tVar 1) (tCons (tLst (tCons (tMeth A.c_Section "level" (sp_Section_level A K) [] E0 (tVar 2) tNil) (tCons (tFld K (tVar 2) "water") (tCons (tFld K (tVar 2) "alarms") (tNil))))) (tNil)))))
  (tRet (tVar 1)))
abbrev N_Polder_tell_device : List Str := ["self", "number", "device", "running"]
def t_Polder_tell_device (A : Adr) (K : PySem.W.Frag) : TS :=
  tSeq (tIfS (tOr (tTest (tOp rLtI (tVar 1) (tC (.int 0)))) (tTest (tOp rGeI (tVar 1) (tCB (rLenS K) (tCons (tFld K (tVar 0) "devices") (tNil)))))) (tRet (tLst (tCons (tUn rNegI (tC (.int 1))) (tNil)))) (tNext))
  (tSeq (tAsg (tOp (rIxL K) (tFld K (tVar 0) "devices") (tVar 1)) (gName 2))
  (tSeq (tAsg (tIf (tB (tFld K (tVar 2) "is_running")) (tC (.int 1)) (tC (.int 0))) (gName 3))
  (tRet (tLst (tCons (tFld K (tVar 2) "kind") (tCons (tVar 3) (tCons (tFld K (tVar 2) "moved") (tCons (tFld K (tVar 2) "turns") (tCons (tMeth A.c_Polder "would_move" (sp_Polder_would_move A K) [] E0 (tVar 0) (tCons (tVar 2) (tNil))) (tNil))))))))))
abbrev N_Polder_tell_sums : List Str := ["self", "water", "section"]
def t_Polder_tell_sums (A : Adr) (K : PySem.W.Frag) : TS :=
  tSeq (tAsg (tCB (rSum K) (tCons (tLc (iList K (tFld K (tVar 0) "sections")) (gName 2) (tYes) (tFld K (tVar 2) "water") [2]) (tNil))) (gName 1))
  (tRet (tLst (tCons (tVar 1) (tCons (tFld K (tVar 0) "rained") (tCons (tFld K (tVar 0) "dried") (tCons (tFld K (tVar 0) "let_in") (tCons (tFld K (tVar 0) "let_out") (tCons (tMeth A.c_Polder "sea" (sp_Polder_sea A K) [] E0 (tVar 0) tNil) (tNil)))))))))
abbrev N_Polder_answer : List Str := ["self", "number", "numbers"]
def t_Polder_answer (A : Adr) (K : PySem.W.Frag) : TS :=
  tSeq (tIfS (tTest (tOp rEq (tVar 1) (tC (.int 2)))) (tRet (tMeth A.c_Polder "add_section" (sp_Polder_add_section A K) [] E0 (tVar 0) (tCons (tOp (rIxL K) (tVar 2) (tC (.int 0))) (tCons (tOp (rIxL K) (tVar 2) (tC (.int 1))) (tCons (tOp (rIxL K) (tVar 2) (tC (.int 2))) (tNil)))))) (tNext))
  (tSeq (tIfS (tTest (tOp rEq (tVar 1) (tC (.int 3)))) (tRet (tMeth A.c_Polder "add_weir" (sp_Polder_add_weir A K) [] E0 (tVar 0) (tCons (tOp (rIxL K) (tVar 2) (tC (.int 0))) (tCons (tOp (rIxL K) (tVar 2) (tC (.int 1))) (tCons (tOp (rIxL K) (tVar 2) (tC (.int 2))) (tCons (tOp (rIxL K) (tVar 2) (tC (.int 3))) (tNil))))))) (tNext))
  (tSeq (tIfS (tTest (tOp rEq (tVar 1) (tC (.int 4)))) (tRet (tMeth A.c_Polder "add_pump" (sp_Polder_add_pump A K) [] E0 (tVar 0) (tCons (tOp (rIxL K) (tVar 2) (tC (.int 0))) (tCons (tOp (rIxL K) (tVar 2) (tC (.int 1))) (tCons (tOp (rIxL K) (tVar 2) (tC (.int 2))) (tCons (tOp (rIxL K) (tVar 2) (tC (.int 3))) (tCons (tOp (rIxL K) (tVar 2) (tC (.int 4))) (tNil)))))))) (tNext))
  (tSeq (tIfS (tTest (tOp rEq (tVar 1) (tC (.int 5)))) (tRet (tMeth A.c_Polder "add_sluice" (sp_Polder_add_sluice A K) [] E0 (tVar 0) (tCons (tOp (rIxL K) (tVar 2) (tC (.int 0))) (tCons (tOp (rIxL K) (tVar 2) (tC (.int 1))) (tCons (tOp (rIxL K) (tVar 2) (tC (.int 2))) (tNil)))))) (tNext))
  (tSeq (tIfS (tTest (tOp rEq (tVar 1) (tC (.int 6)))) (tRet (tMeth A.c_Polder "add_inlet" (sp_Polder_add_inlet A K) [] E0 (tVar 0) (tCons (tOp (rIxL K) (tVar 2) (tC (.int 0))) (tCons (tOp (rIxL K) (tVar 2) (tC (.int 1))) (tCons (tOp (rIxL K) (tVar 2) (tC (.int 2))) (tNil)))))) (tNext))
  (tSeq (tIfS (tTest (tOp rEq (tVar 1) (tC (.int 7)))) (tRet (tMeth A.c_Polder "set_device" (sp_Polder_set_device A K) [] E0 (tVar 0) (tCons (tOp (rIxL K) (tVar 2) (tC (.int 0))) (tCons (tOp (rIxL K) (tVar 2) (tC (.int 1))) (tCons (tOp (rIxL K) (tVar 2) (tC (.int 2))) (tNil)))))) (tNext))
  (tSeq (tIfS (tTest (tOp rEq (tVar 1) (tC (.int 8)))) (tRet (tMeth A.c_Polder "run" (sp_Polder_run A K) [] E0 (tVar 0) (tCons (tOp (rIxL K) (tVar 2) (tC (.int 0))) (tCons (tOp (rIxL K) (tVar 2) (tC (.int 1))) (tCons (tOp (rIxL K) (tVar 2) (tC (.int 2))) (tNil)))))) (tNext))
  (tSeq (tIfS (tTest (tOp rEq (tVar 1) (tC (.int 9)))) (tRet (tMeth A.c_Polder "tell_levels" (sp_Polder_tell_levels A K) [] E0 (tVar 0) tNil)) (tNext))
  (tSeq (tIfS (tTest (tOp rEq (tVar 1) (tC (.int 10)))) (tRet (tMeth A.c_Polder "tell_device" (sp_Polder_tell_device A K) [] E0 (tVar 0) (tCons (tOp (rIxL K) (tVar 2) (tC (.int 0))) (tNil)))) (tNext))
  (tRet (tMeth A.c_Polder "tell_sums" (sp_Polder_tell_sums A K) [] E0 (tVar 0) tNil))))))))))
abbrev N_Square___init__ : List Str := ["self", "section", "height"]
def t_Square___init__ (A : Adr) (K : PySem.W.Frag) : TS :=
  tSeq (sFld K (tVar 0) (tVar 1) "section")
  (tSeq (sFld K (tVar 0) (tVar 2) "height")
  (tSeq (sFld K (tVar 0) (tC (.int 0)) "peak")
  (sFld K (tVar 0) (tC (.int 0)) "wet")))
abbrev N_Land___init__ : List Str := ["self"]
def t_Land___init__ (A : Adr) (K : PySem.W.Frag) : TS :=
  tSeq (sFld K (tVar 0) (tMake A.c_Polder (sp_Polder___init__ A K) [] E0 (tCons (tLst (tNil)) (tNil))) "polder")
  (tSeq (sFld K (tVar 0) (tMake A.c_Plot (sp_Plot___init__ A K) [] E0 (tCons (tC (.int 0)) (tCons (tLst (tNil)) (tNil)))) "plot")
  (tSeq (sFld K (tVar 0) (tC .non) "chart")
  (sFld K (tVar 0) (tC (.int 0)) "raised")))
abbrev N_polder_form : List Str := ["number"]
def t_polder_form (A : Adr) (K : PySem.W.Frag) : TS :=
  tSeq (tIfS (tTest (tOp rEq (tVar 0) (tC (.int 1)))) (tRet (tTup (tCons (tC (.int 0)) (tCons (tC (.int 1)) (tNil))))) (tNext))
  (tSeq (tIfS (tTest (tOp (rIn K false) (tVar 0) (tTup (tCons (tC (.int 2)) (tCons (tC (.int 5)) (tCons (tC (.int 6)) (tCons (tC (.int 7)) (tCons (tC (.int 8)) (tNil))))))))) (tRet (tTup (tCons (tC (.int 3)) (tCons (tC (.int 0)) (tNil))))) (tNext))
  (tSeq (tIfS (tTest (tOp rEq (tVar 0) (tC (.int 3)))) (tRet (tTup (tCons (tC (.int 4)) (tCons (tC (.int 0)) (tNil))))) (tNext))
  (tSeq (tIfS (tTest (tOp rEq (tVar 0) (tC (.int 4)))) (tRet (tTup (tCons (tC (.int 5)) (tCons (tC (.int 0)) (tNil))))) (tNext))
  (tSeq (tIfS (tTest (tOp rEq (tVar 0) (tC (.int 10)))) (tRet (tTup (tCons (tC (.int 1)) (tCons (tC (.int 0)) (tNil))))) (tNext))
  (tRet (tIf (tTest (tOp (rIn K false) (tVar 0) (tTup (tCons (tC (.int 9)) (tCons (tC (.int 11)) (tNil)))))) (tTup (tCons (tC (.int 0)) (tCons (tC (.int 0)) (tNil)))) (tC .non)))))))
abbrev N_is_call : List Str := ["form", "fields"]
def t_is_call (A : Adr) (K : PySem.W.Frag) : TS :=
  tRet (tAndV (tOp rNotN (tVar 0) (tC .non)) (tAndV (tOp rEq (tOp (rIxT K) (tVar 0) (tC (.int 0))) (tOp rSubI (tCB (rLenS K) (tCons (tOp (rIxL K) (tVar 1) (tC (.int 0))) (tNil))) (tC (.int 1)))) (tOp rEq (tOp (rIxT K) (tVar 0) (tC (.int 1))) (tOp rSubI (tCB (rLenS K) (tCons (tVar 1) (tNil))) (tC (.int 1))))))
abbrev N_is_tide : List Str := ["tide", "level"]
def t_is_tide (A : Adr) (K : PySem.W.Frag) : TS :=
  tSeq (tFor (iList K (tVar 0)) (gName 1) (tIfS (tNot (tB (tCall (sp_is_level A K) [] E0 (tCons (tVar 1) (tNil))))) (tRet (tC (.bl false))) (tNext)))
  (tRet (tOp rLeI (tCB (rLenS K) (tCons (tVar 0) (tNil))) (tC (.int 30))))
abbrev N_Land_water_call : List Str := ["self", "fields", "number"]
def t_Land_water_call (A : Adr) (K : PySem.W.Frag) : TS :=
  tSeq (tIfS (tOr (tTest (tOp rEq (tCB (rLenS K) (tCons (tOp (rIxL K) (tVar 1) (tC (.int 0))) (tNil))) (tC (.int 0)))) (tNot (tB (tCall (sp_is_call A K) [] E0 (tCons (tCall (sp_polder_form A K) [] E0 (tCons (tOp (rIxL K) (tOp (rIxL K) (tVar 1) (tC (.int 0))) (tC (.int 0))) (tNil))) (tCons (tVar 1) (tNil))))))) (tRet (tLst (tCons (tUn rNegI (tC (.int 23))) (tNil)))) (tNext))
  (tSeq (tAsg (tOp (rIxL K) (tOp (rIxL K) (tVar 1) (tC (.int 0))) (tC (.int 0))) (gName 2))
  (tSeq (tIfS (tAnd (tTest (tOp rNotN (tFld K (tVar 0) "chart") (tC .non))) (tTest (tOp (rIn K false) (tVar 2) (tTup (tCons (tC (.int 1)) (tCons (tC (.int 2)) (tCons (tC (.int 8)) (tNil)))))))) (tRet (tLst (tCons (tUn rNegI (tC (.int 24))) (tNil)))) (tNext))
  (tSeq (tIfS (tTest (tOp rEq (tVar 2) (tC (.int 1)))) (tSeq (tIfS (tNot (tB (tCall (sp_is_tide A K) [] E0 (tCons (tOp (rIxL K) (tVar 1) (tC (.int 1))) (tNil))))) (tRet (tLst (tCons (tUn rNegI (tC (.int 1))) (tNil)))) (tNext))
  (tSeq (sFld K (tVar 0) (tMake A.c_Polder (sp_Polder___init__ A K) [] E0 (tCons (tCB (rListS K) (tCons (tOp (rIxL K) (tVar 1) (tC (.int 1))) (tNil))) (tNil))) "polder")
  (tRet (tLst (tCons (tC (.int 0)) (tNil)))))) (tNext))
  (tRet (tMeth A.c_Polder "answer" (sp_Polder_answer A K) [] E0 (tFld K (tVar 0) "polder") (tCons (tVar 2) (tCons (tSl (rSlL K) (tOp (rIxL K) (tVar 1) (tC (.int 0))) (tPart (tC (.int 1))) (tNoPart)) (tNil))))))))
abbrev N_plot_form : List Str := ["number"]
def t_plot_form (A : Adr) (K : PySem.W.Frag) : TS :=
  tSeq (tIfS (tTest (tOp rEq (tVar 0) (tC (.int 1)))) (tRet (tTup (tCons (tC (.int 1)) (tCons (tC (.int 1)) (tNil))))) (tNext))
  (tSeq (tIfS (tTest (tOp rEq (tVar 0) (tC (.int 2)))) (tRet (tTup (tCons (tC (.int 0)) (tCons (tC (.int 1)) (tNil))))) (tNext))
  (tSeq (tIfS (tTest (tOp rEq (tVar 0) (tC (.int 3)))) (tRet (tTup (tCons (tC (.int 5)) (tCons (tC (.int 0)) (tNil))))) (tNext))
  (tSeq (tIfS (tTest (tOp (rIn K false) (tVar 0) (tTup (tCons (tC (.int 5)) (tCons (tC (.int 7)) (tNil)))))) (tRet (tTup (tCons (tC (.int 2)) (tCons (tC (.int 0)) (tNil))))) (tNext))
  (tRet (tIf (tTest (tOp (rIn K false) (tVar 0) (tTup (tCons (tC (.int 4)) (tCons (tC (.int 6)) (tCons (tC (.int 8)) (tCons (tC (.int 9)) (tCons (tC (.int 10)) (tNil))))))))) (tTup (tCons (tC (.int 0)) (tCons (tC (.int 0)) (tNil)))) (tC .non))))))
abbrev N_is_ground : List Str := ["across", "squares", "square"]
def t_is_ground (A : Adr) (K : PySem.W.Frag) : TS :=
  tSeq (tIfS (tOr (tTest (tOp rLtI (tVar 0) (tC (.int 1)))) (tOr (tTest (tOp rGtI (tVar 0) (tC (.int 12)))) (tTest (tOp rNe (tOp rModI (tCB (rLenS K) (tCons (tVar 1) (tNil))) (tVar 0)) (tC (.int 0)))))) (tRet (tC (.bl false))) (tNext))
  (tSeq (tFor (iList K (tVar 1)) (gName 2) (tIfS (tTest (tOp (rIn K true) (tVar 2) (tTup (tCons (tC (.int 0)) (tCons (tC (.int 1)) (tCons (tC (.int 2)) (tNil))))))) (tRet (tC (.bl false))) (tNext)))
  (tRet (tChain rLeI rLeI (tC (.int 1)) (tOp rDivI (tCB (rLenS K) (tCons (tVar 1) (tNil))) (tVar 0)) (tC (.int 12)))))
abbrev N_Land_plot_call : List Str := ["self", "fields", "number"]
def t_Land_plot_call (A : Adr) (K : PySem.W.Frag) : TS :=
  tSeq (tIfS (tOr (tTest (tOp rEq (tCB (rLenS K) (tCons (tOp (rIxL K) (tVar 1) (tC (.int 0))) (tNil))) (tC (.int 0)))) (tNot (tB (tCall (sp_is_call A K) [] E0 (tCons (tCall (sp_plot_form A K) [] E0 (tCons (tOp (rIxL K) (tOp (rIxL K) (tVar 1) (tC (.int 0))) (tC (.int 0))) (tNil))) (tCons (tVar 1) (tNil))))))) (tRet (tLst (tCons (tUn rNegI (tC (.int 23))) (tNil)))) (tNext))
  (tSeq (tAsg (tOp (rIxL K) (tOp (rIxL K) (tVar 1) (tC (.int 0))) (tC (.int 0))) (gName 2))
  (tSeq (tIfS (tTest (tOp rEq (tVar 2) (tC (.int 1)))) (tSeq (tIfS (tTest (tOp rNotN (tFld K (tVar 0) "chart") (tC .non))) (tRet (tLst (tCons (tUn rNegI (tC (.int 24))) (tNil)))) (tNext))
  (tSeq (tIfS (tNot (tB (tCall (sp_is_ground A K) [] E0 (tCons (tOp (rIxL K) (tOp (rIxL K) (tVar 1) (tC (.int 0))) (tC (.int 1))) (tCons (tOp (rIxL K) (tVar 1) (tC (.int 1))) (tNil)))))) (tRet (tLst (tCons (tUn rNegI (tC (.int 1))) (tNil)))) (tNext))
  (tSeq (sFld K (tVar 0) (tMake A.c_Plot (sp_Plot___init__ A K) [] E0 (tCons (tOp (rIxL K) (tOp (rIxL K) (tVar 1) (tC (.int 0))) (tC (.int 1))) (tCons (tCB (rListS K) (tCons (tOp (rIxL K) (tVar 1) (tC (.int 1))) (tNil))) (tNil)))) "plot")
  (tRet (tLst (tCons (tFld K (tFld K (tVar 0) "plot") "area") (tNil))))))) (tNext))
  (tRet (tMeth A.c_Plot "answer" (sp_Plot_answer A K) [] E0 (tFld K (tVar 0) "plot") (tCons (tVar 2) (tCons (tSl (rSlL K) (tOp (rIxL K) (tVar 1) (tC (.int 0))) (tPart (tC (.int 1))) (tNoPart)) (tCons (tOp (rIxL K) (tVar 1) (tUn rNegI (tC (.int 1)))) (tNil))))))))
abbrev N_Land_set_map : List Str := ["self", "sections", "heights", "count", "section", "height"]
def t_Land_set_map (A : Adr) (K : PySem.W.Frag) : TS :=
  tSeq (tIfS (tNot (tB (tMeth A.c_Plot "has_ground" (sp_Plot_has_ground A K) [] E0 (tFld K (tVar 0) "plot") tNil))) (tRet (tLst (tCons (tUn rNegI (tC (.int 21))) (tNil)))) (tNext))
  (tSeq (tIfS (tTest (tOp rNotN (tFld K (tVar 0) "chart") (tC .non))) (tRet (tLst (tCons (tUn rNegI (tC (.int 24))) (tNil)))) (tNext))
  (tSeq (tAsg (tCB (rLenS K) (tCons (tFld K (tFld K (tVar 0) "plot") "squares") (tNil))) (gName 3))
  (tSeq (tIfS (tOr (tTest (tOp rNe (tCB (rLenS K) (tCons (tVar 1) (tNil))) (tVar 3))) (tTest (tOp rNe (tCB (rLenS K) (tCons (tVar 2) (tNil))) (tVar 3)))) (tRet (tLst (tCons (tUn rNegI (tC (.int 20))) (tNil)))) (tNext))
  (tSeq (tFor (iZip K (tCons (tVar 1) (tCons (tVar 2) (tNil)))) (gTup K 2 (gCons (gName 4) (gCons (gName 5) (gNil)))) (tIfS (tOr (tNot (tB (tMeth A.c_Polder "is_section" (sp_Polder_is_section A K) [] E0 (tFld K (tVar 0) "polder") (tCons (tVar 4) (tNil))))) (tOr (tTest (tOp rLtI (tVar 5) (tC (.int 0)))) (tTest (tOp rGtI (tVar 5) (tC (.int 10000)))))) (tRet (tLst (tCons (tUn rNegI (tC (.int 20))) (tNil)))) (tNext)))
  (tSeq (sFld K (tVar 0) (tLc (iZip K (tCons (tVar 1) (tCons (tVar 2) (tNil)))) (gTup K 2 (gCons (gName 4) (gCons (gName 5) (gNil)))) (tYes) (tMake A.c_Square (sp_Square___init__ A K) [] E0 (tCons (tVar 4) (tCons (tVar 5) (tNil)))) [4, 5]) "chart")
  (tRet (tLst (tCons (tVar 3) (tNil)))))))))
abbrev N_Land_level_of : List Str := ["self", "square", "section"]
def t_Land_level_of (A : Adr) (K : PySem.W.Frag) : TS :=
  tSeq (tAsg (tOp (rIxL K) (tFld K (tFld K (tVar 0) "polder") "sections") (tFld K (tVar 1) "section")) (gName 2))
  (tRet (tMeth A.c_Section "level" (sp_Section_level A K) [] E0 (tVar 2) tNil))
abbrev N_Land_depth : List Str := ["self", "square"]
def t_Land_depth (A : Adr) (K : PySem.W.Frag) : TS :=
  tRet (tCB rMax2 (tCons (tC (.int 0)) (tCons (tOp rSubI (tMeth A.c_Land "level_of" (sp_Land_level_of A K) [] E0 (tVar 0) (tCons (tVar 1) (tNil))) (tFld K (tVar 1) "height")) (tNil))))
abbrev N_Land_drowned : List Str := ["self", "place"]
def t_Land_drowned (A : Adr) (K : PySem.W.Frag) : TS :=
  tRet (tCB (rLenS K) (tCons (tLc (iList K (tMeth A.c_Plot "built" (sp_Plot_built A K) [] E0 (tFld K (tVar 0) "plot") tNil)) (gName 1) (tTest (tOp rGtI (tFld K (tOp (rIxL K) (tFld K (tVar 0) "chart") (tVar 1)) "peak") (tC (.int 0)))) (tVar 1) [1]) (tNil)))
abbrev N_Land_sums : List Str := ["self", "wet", "square"]
def t_Land_sums (A : Adr) (K : PySem.W.Frag) : TS :=
  tSeq (tAsg (tCB (rLenS K) (tCons (tLc (iList K (tFld K (tVar 0) "chart")) (gName 2) (tTest (tOp rGtI (tMeth A.c_Land "depth" (sp_Land_depth A K) [] E0 (tVar 0) (tCons (tVar 2) (tNil))) (tC (.int 0)))) (tVar 2) [2]) (tNil))) (gName 1))
  (tRet (tLst (tCons (tVar 1) (tCons (tCB (rLenS K) (tCons (tLc (iList K (tFld K (tVar 0) "chart")) (gName 2) (tTest (tOp rGtI (tFld K (tVar 2) "peak") (tC (.int 0)))) (tVar 2) [2]) (tNil))) (tCons (tMeth A.c_Land "drowned" (sp_Land_drowned A K) [] E0 (tVar 0) tNil) (tNil))))))
abbrev N_Land_storm : List Str := ["self", "steps", "rain", "sun", "index", "square", "depth"]
def t_Land_storm (A : Adr) (K : PySem.W.Frag) : TS :=
  tSeq (tIfS (tNot (tB (tCall (sp_are_steps A K) [] E0 (tCons (tVar 1) (tCons (tVar 2) (tCons (tVar 3) (tNil))))))) (tRet (tLst (tCons (tUn rNegI (tC (.int 20))) (tNil)))) (tNext))
  (tSeq (tIfS (tTest (tOp rIsN (tFld K (tVar 0) "chart") (tC .non))) (tRet (tLst (tCons (tUn rNegI (tC (.int 22))) (tNil)))) (tNext))
  (tSeq (tFor (iRng1 (tCons (tVar 1) (tNil))) (gName 4) (tSeq (tDrop (tMeth A.c_Polder "step" (sp_Polder_step A K) [] E0 (tFld K (tVar 0) "polder") (tCons (tVar 2) (tCons (tVar 3) (tNil)))))
  (tFor (iList K (tFld K (tVar 0) "chart")) (gName 5) (tSeq (tAsg (tMeth A.c_Land "depth" (sp_Land_depth A K) [] E0 (tVar 0) (tCons (tVar 5) (tNil))) (gName 6))
  (tSeq (sFldAug K (tVar 5) (tIf (tTest (tOp rGtI (tVar 6) (tC (.int 0)))) (tC (.int 1)) (tC (.int 0))) rAdd "wet")
  (sFld K (tVar 5) (tCB rMax2 (tCons (tFld K (tVar 5) "peak") (tCons (tVar 6) (tNil)))) "peak"))))))
  (tRet (tOp rCat (tLst (tCons (tFld K (tFld K (tVar 0) "polder") "time") (tNil))) (tMeth A.c_Land "sums" (sp_Land_sums A K) [] E0 (tVar 0) tNil)))))
abbrev N_Land_tell_square : List Str := ["self", "x", "y", "place", "square", "answer"]
def t_Land_tell_square (A : Adr) (K : PySem.W.Frag) : TS :=
  tSeq (tIfS (tTest (tOp rIsN (tFld K (tVar 0) "chart") (tC .non))) (tRet (tLst (tCons (tUn rNegI (tC (.int 22))) (tNil)))) (tNext))
  (tSeq (tIfS (tNot (tB (tMeth A.c_Plot "is_there" (sp_Plot_is_there A K) [] E0 (tFld K (tVar 0) "plot") (tCons (tVar 1) (tCons (tVar 2) (tNil)))))) (tRet (tLst (tCons (tUn rNegI (tC (.int 20))) (tNil)))) (tNext))
  (tSeq (tAsg (tMeth A.c_Plot "place_of" (sp_Plot_place_of A K) [] E0 (tFld K (tVar 0) "plot") (tCons (tVar 1) (tCons (tVar 2) (tNil)))) (gName 3))
  (tSeq (tAsg (tOp (rIxL K) (tFld K (tVar 0) "chart") (tVar 3)) (gName 4))
  (tSeq (tAsg (tLst (tCons (tFld K (tVar 4) "section") (tCons (tFld K (tVar 4) "height") (tCons (tMeth A.c_Land "level_of" (sp_Land_level_of A K) [] E0 (tVar 0) (tCons (tVar 4) (tNil))) (tCons (tMeth A.c_Land "depth" (sp_Land_depth A K) [] E0 (tVar 0) (tCons (tVar 4) (tNil))) (tCons (tFld K (tVar 4) "peak") (tCons (tFld K (tVar 4) "wet") (tNil)))))))) (gName 5))
  (tRet (tOp rCat (tVar 5) (tLst (tCons (tMeth A.c_Plot "floors_on" (sp_Plot_floors_on A K) [] E0 (tFld K (tVar 0) "plot") (tCons (tVar 3) (tNil))) (tNil)))))))))
abbrev N_Land_tell_wet : List Str := ["self"]
def t_Land_tell_wet (A : Adr) (K : PySem.W.Frag) : TS :=
  tRet (tIf (tTest (tOp rIsN (tFld K (tVar 0) "chart") (tC .non))) (tLst (tCons (tUn rNegI (tC (.int 22))) (tNil))) (tOp rCat (tMeth A.c_Land "sums" (sp_Land_sums A K) [] E0 (tVar 0) tNil) (tLst (tCons (tFld K (tVar 0) "raised") (tNil)))))
abbrev N_Land_harm : List Str := ["self", "place"]
def t_Land_harm (A : Adr) (K : PySem.W.Frag) : TS :=
  tRet (tCB rMin2 (tCons (tC (.int 2000)) (tCons (tFld K (tOp (rIxL K) (tFld K (tVar 0) "chart") (tVar 1)) "peak") (tNil))))
abbrev N_Land_tell_harm : List Str := ["self", "houses", "answer", "house", "peak", "place"]
def t_Land_tell_harm (A : Adr) (K : PySem.W.Frag) : TS :=
  tSeq (tIfS (tTest (tOp rIsN (tFld K (tVar 0) "chart") (tC .non))) (tRet (tLst (tCons (tUn rNegI (tC (.int 22))) (tNil)))) (tNext))
  (tSeq (tAsg (tMeth A.c_Plot "houses" (sp_Plot_houses A K) [] E0 (tFld K (tVar 0) "plot") tNil) (gName 1))
  (tSeq (tAsg (tLst (tCons (tCB (rSum K) (tCons (tLc (iList K (tMeth A.c_Plot "built" (sp_Plot_built A K) [] E0 (tFld K (tVar 0) "plot") tNil)) (gName 5) (tYes) (tMeth A.c_Land "harm" (sp_Land_harm A K) [] E0 (tVar 0) (tCons (tVar 5) (tNil))) [5]) (tNil))) (tCons (tCB (rLenS K) (tCons (tVar 1) (tNil))) (tNil)))) (gName 2))
  (tSeq (tFor (iList K (tVar 1)) (gName 3) (tSeq (tAsg (tCB (rMax K) (tCons (tLc (iList K (tVar 3)) (gName 5) (tYes) (tFld K (tOp (rIxL K) (tFld K (tVar 0) "chart") (tVar 5)) "peak") [5]) (tNil))) (gName 4))
  (tDrop (tBM K "list" rExtend (tVar 2) (tCons (tLst (tCons (tCB (rLenS K) (tCons (tVar 3) (tNil))) (tCons (tVar 4) (tCons (tCB (rSum K) (tCons (tLc (iList K (tVar 3)) (gName 5) (tYes) (tMeth A.c_Land "harm" (sp_Land_harm A K) [] E0 (tVar 0) (tCons (tVar 5) (tNil))) [5]) (tNil))) (tNil))))) (tNil))))))
  (tRet (tVar 2)))))
abbrev N_Land_tell_safe : List Str := ["self", "dry", "place", "square"]
def t_Land_tell_safe (A : Adr) (K : PySem.W.Frag) : TS :=
  tSeq (tIfS (tTest (tOp rIsN (tFld K (tVar 0) "chart") (tC .non))) (tRet (tLst (tCons (tUn rNegI (tC (.int 22))) (tNil)))) (tNext))
  (tSeq (tAsg (tLc (iEnum K (tCons (tFld K (tVar 0) "chart") (tNil))) (gTup K 2 (gCons (gName 2) (gCons (gName 3) (gNil)))) (tTest (tOp rEq (tFld K (tVar 3) "peak") (tC (.int 0)))) (tVar 2) [2, 3]) (gName 1))
  (tRet (tLst (tCons (tMeth A.c_Plot "most_of" (sp_Plot_most_of A K) [] E0 (tFld K (tVar 0) "plot") (tCons (tVar 1) (tNil))) (tCons (tMeth A.c_Plot "best" (sp_Plot_best A K) [] E0 (tFld K (tVar 0) "plot") tNil) (tNil))))))
abbrev N_Land_lift : List Str := ["self", "x", "y", "millimetres", "place", "square"]
def t_Land_lift (A : Adr) (K : PySem.W.Frag) : TS :=
  tSeq (tIfS (tTest (tOp rIsN (tFld K (tVar 0) "chart") (tC .non))) (tRet (tLst (tCons (tUn rNegI (tC (.int 22))) (tNil)))) (tNext))
  (tSeq (tIfS (tOr (tNot (tB (tMeth A.c_Plot "is_there" (sp_Plot_is_there A K) [] E0 (tFld K (tVar 0) "plot") (tCons (tVar 1) (tCons (tVar 2) (tNil)))))) (tOr (tTest (tOp rLtI (tVar 3) (tC (.int 1)))) (tTest (tOp rGtI (tVar 3) (tC (.int 5000)))))) (tRet (tLst (tCons (tUn rNegI (tC (.int 20))) (tNil)))) (tNext))
  (tSeq (tAsg (tMeth A.c_Plot "place_of" (sp_Plot_place_of A K) [] E0 (tFld K (tVar 0) "plot") (tCons (tVar 1) (tCons (tVar 2) (tNil)))) (gName 4))
  (tSeq (tAsg (tOp (rIxL K) (tFld K (tVar 0) "chart") (tVar 4)) (gName 5))
  (tSeq (tIfS (tTest (tOp rGtI (tMeth A.c_Plot "floors_on" (sp_Plot_floors_on A K) [] E0 (tFld K (tVar 0) "plot") (tCons (tVar 4) (tNil))) (tC (.int 0)))) (tRet (tLst (tCons (tUn rNegI (tC (.int 25))) (tNil)))) (tNext))
  (tSeq (tIfS (tTest (tOp rGtI (tOp rAddI (tFld K (tVar 5) "height") (tVar 3)) (tC (.int 10000)))) (tRet (tLst (tCons (tUn rNegI (tC (.int 26))) (tNil)))) (tNext))
  (tSeq (sFldAug K (tVar 5) (tVar 3) rAdd "height")
  (tSeq (sFld K (tVar 5) (tCB rMax2 (tCons (tC (.int 0)) (tCons (tOp rSubI (tFld K (tVar 5) "peak") (tVar 3)) (tNil)))) "peak")
  (tSeq (sFldAug K (tVar 0) (tVar 3) rAdd "raised")
  (tRet (tOp rCat (tLst (tCons (tFld K (tVar 0) "raised") (tNil))) (tMeth A.c_Land "sums" (sp_Land_sums A K) [] E0 (tVar 0) tNil)))))))))))
abbrev N_Land_tell_check : List Str := ["self", "answer", "drowned"]
def t_Land_tell_check (A : Adr) (K : PySem.W.Frag) : TS :=
  tSeq (tIfS (tTest (tOp rIsN (tFld K (tVar 0) "chart") (tC .non))) (tRet (tLst (tCons (tUn rNegI (tC (.int 22))) (tNil)))) (tNext))
  (tSeq (tAsg (tMeth A.c_Plot "tell_check" (sp_Plot_tell_check A K) [] E0 (tFld K (tVar 0) "plot") tNil) (gName 1))
  (tSeq (tAsg (tMeth A.c_Land "drowned" (sp_Land_drowned A K) [] E0 (tVar 0) tNil) (gName 2))
  (tSeq (tIfS (tTest (tOp rGtI (tVar 2) (tC (.int 0)))) (tAsg (tOp rCat (tOp rCat (tLst (tCons (tOp rAddI (tOp (rIxL K) (tVar 1) (tC (.int 0))) (tC (.int 1))) (tNil))) (tSl (rSlL K) (tVar 1) (tPart (tC (.int 1))) (tNoPart))) (tLst (tCons (tC (.int 10)) (tCons (tVar 2) (tNil))))) (gName 1)) (tNext))
  (tRet (tVar 1)))))
abbrev N_answer_call : List Str := ["land", "number", "wholes", "lists"]
def t_answer_call (A : Adr) (K : PySem.W.Frag) : TS :=
  tSeq (tIfS (tTest (tOp rEq (tVar 1) (tC (.int 2)))) (tRet (tMeth A.c_Land "water_call" (sp_Land_water_call A K) [] E0 (tVar 0) (tCons (tVar 3) (tNil)))) (tNext))
  (tSeq (tIfS (tTest (tOp rEq (tVar 1) (tC (.int 3)))) (tRet (tMeth A.c_Land "plot_call" (sp_Land_plot_call A K) [] E0 (tVar 0) (tCons (tVar 3) (tNil)))) (tNext))
  (tSeq (tIfS (tTest (tOp rEq (tVar 1) (tC (.int 4)))) (tRet (tMeth A.c_Land "set_map" (sp_Land_set_map A K) [] E0 (tVar 0) (tCons (tOp (rIxL K) (tVar 3) (tC (.int 0))) (tCons (tOp (rIxL K) (tVar 3) (tC (.int 1))) (tNil))))) (tNext))
  (tSeq (tIfS (tTest (tOp rEq (tVar 1) (tC (.int 5)))) (tRet (tMeth A.c_Land "storm" (sp_Land_storm A K) [] E0 (tVar 0) (tCons (tOp (rIxL K) (tVar 2) (tC (.int 0))) (tCons (tOp (rIxL K) (tVar 2) (tC (.int 1))) (tCons (tOp (rIxL K) (tVar 2) (tC (.int 2))) (tNil)))))) (tNext))
  (tSeq (tIfS (tTest (tOp rEq (tVar 1) (tC (.int 6)))) (tRet (tMeth A.c_Land "tell_square" (sp_Land_tell_square A K) [] E0 (tVar 0) (tCons (tOp (rIxL K) (tVar 2) (tC (.int 0))) (tCons (tOp (rIxL K) (tVar 2) (tC (.int 1))) (tNil))))) (tNext))
  (tSeq (tIfS (tTest (tOp rEq (tVar 1) (tC (.int 7)))) (tRet (tMeth A.c_Land "tell_wet" (sp_Land_tell_wet A K) [] E0 (tVar 0) tNil)) (tNext))
  (tSeq (tIfS (tTest (tOp rEq (tVar 1) (tC (.int 8)))) (tRet (tMeth A.c_Land "tell_harm" (sp_Land_tell_harm A K) [] E0 (tVar 0) tNil)) (tNext))
  (tSeq (tIfS (tTest (tOp rEq (tVar 1) (tC (.int 9)))) (tRet (tMeth A.c_Land "tell_safe" (sp_Land_tell_safe A K) [] E0 (tVar 0) tNil)) (tNext))
  (tSeq (tIfS (tTest (tOp rEq (tVar 1) (tC (.int 10)))) (tRet (tMeth A.c_Land "lift" (sp_Land_lift A K) [] E0 (tVar 0) (tCons (tOp (rIxL K) (tVar 2) (tC (.int 0))) (tCons (tOp (rIxL K) (tVar 2) (tC (.int 1))) (tCons (tOp (rIxL K) (tVar 2) (tC (.int 2))) (tNil)))))) (tNext))
  (tRet (tMeth A.c_Land "tell_check" (sp_Land_tell_check A K) [] E0 (tVar 0) tNil))))))))))
abbrev N_answers : List Str := ["calls", "land", "told", "place", "number", "count", "wholes", "lists", "index", "size", "answer"]
def t_answers (A : Adr) (K : PySem.W.Frag) : TS :=
  tSeq (tAsg (tMake A.c_Land (sp_Land___init__ A K) [] E0 (tNil)) (gName 1))
  (tSeq (tAsg (tLst (tNil)) (gName 2))
  (tSeq (tAsg (tC (.int 0)) (gName 3))
  (tSeq (tWhile (tTest (tOp rLtI (tVar 3) (tCB (rLenS K) (tCons (tVar 0) (tNil))))) (tSeq (tAsg (tOp (rIxL K) (tVar 0) (tVar 3)) (gName 4))
  (tSeq (tAsg (tOp (rIxL K) (tVar 0) (tOp rAddI (tVar 3) (tC (.int 1)))) (gName 5))
  (tSeq (tAsg (tSl (rSlL K) (tVar 0) (tPart (tOp rAddI (tVar 3) (tC (.int 2)))) (tPart (tOp rAddI (tOp rAddI (tVar 3) (tC (.int 2))) (tVar 5)))) (gName 6))
  (tSeq (tAug 3 (tOp rAddI (tC (.int 2)) (tVar 5)) ipAddI)
  (tSeq (tAsg (tLst (tNil)) (gName 7))
  (tSeq (tAsg (tOp (rIxL K) (tVar 0) (tVar 3)) (gName 5))
  (tSeq (tAug 3 (tC (.int 1)) ipAddI)
  (tSeq (tFor (iRng1 (tCons (tVar 5) (tNil))) (gName 8) (tSeq (tAsg (tOp (rIxL K) (tVar 0) (tVar 3)) (gName 9))
  (tSeq (tDrop (tBM K "list" rAppend (tVar 7) (tCons (tSl (rSlL K) (tVar 0) (tPart (tOp rAddI (tVar 3) (tC (.int 1)))) (tPart (tOp rAddI (tOp rAddI (tVar 3) (tC (.int 1))) (tVar 9)))) (tNil))))
  (tAug 3 (tOp rAddI (tC (.int 1)) (tVar 9)) ipAddI))))
  (tSeq (tIfS (tTest (tOp rEq (tVar 4) (tC (.int 1)))) (tSeq (tAsg (tMake A.c_Land (sp_Land___init__ A K) [] E0 (tNil)) (gName 1))
  (tAsg (tLst (tCons (tC (.int 0)) (tNil))) (gName 10))) (tAsg (tCall (sp_answer_call A K) [] E0 (tCons (tVar 1) (tCons (tVar 4) (tCons (tVar 6) (tCons (tVar 7) (tNil)))))) (gName 10)))
  (tSeq (tDrop (tBM K "list" rAppend (tVar 2) (tCons (tCB (rLenS K) (tCons (tVar 10) (tNil))) (tNil))))
  (tDrop (tBM K "list" rExtend (tVar 2) (tCons (tVar 10) (tNil)))))))))))))))
  (tRet (tVar 2)))))
end DL


set_option maxHeartbeats 800000
/-! # Plain: how far, near, inward -/
namespace DL
theorem fold_min_le (P : Nat → Option Nat) (n : Nat) : ∀ (l : List Nat) (m : Nat), l.foldl (fun m j => match P j with | some d => min m d | none => m) m ≤ n ↔ m ≤ n ∨ ∃ j ∈ l, ∃ d, P j = some d ∧ d ≤ n
  | [], m => by simp
  | j :: r, m => by
    rw [List.foldl_cons, fold_min_le P n r]
    cases h : P j with
    | none => simp [h]
    | some d =>
      simp only [h, List.mem_cons, exists_eq_or_imp, Option.some.injEq, exists_eq_left']
      constructor
      · rintro (q | q)
        · by_cases c : m ≤ n
          · exact .inl c
          · exact .inr (.inl (by omega))
        · exact .inr (.inr q)
      · rintro (q | q | q)
        · exact .inl (by omega)
        · exact .inl (by omega)
        · exact .inr q
theorem howFar_le {g : Kg72.Ground} {k sort n : Nat} : howFar g k sort ≤ n ↔ farStart g k sort ≤ n ∨ ∃ j, j < g.squares.length ∧ g.squares[j]? = some sort ∧ cheb g.across k j ≤ n := by
  unfold howFar
  have e : farStep g k sort = fun m j => match (if g.squares[j]? = some sort then some (cheb g.across k j) else none) with | some d => min m d | none => m := by
    funext m j
    unfold farStep
    split <;> rfl
  rw [e, fold_min_le]
  constructor
  · rintro (h | ⟨j, hj, d, h1, h2⟩)
    · exact .inl h
    · split at h1
      · rename_i hs
        cases h1
        exact .inr ⟨j, List.mem_range.mp hj, hs, h2⟩
      · cases h1
  · rintro (h | ⟨j, hj, hs, h2⟩)
    · exact .inl h
    · exact .inr ⟨j, List.mem_range.mpr hj, _, if_pos hs, h2⟩
theorem near_iff {g : Kg72.Ground} {kind n : Nat} {p : Nat × Nat} : g.near kind n p = true ↔ ∃ X Y : Int, (p.1 : Int) - n ≤ X ∧ X ≤ p.1 + n ∧ (p.2 : Int) - n ≤ Y ∧ Y ≤ p.2 + n ∧ g.at_ X Y = kind := by
  unfold Kg72.Ground.near
  simp only [List.any_eq_true, List.mem_range, beq_iff_eq]
  constructor
  · rintro ⟨j, hj, i, hi, h⟩
    exact ⟨_, _, by omega, by omega, by omega, by omega, h⟩
  · rintro ⟨X, Y, h1, h2, h3, h4, h⟩
    refine ⟨(Y - p.2 + n).toNat, by omega, (X - p.1 + n).toNat, by omega, ?_⟩
    have e1 : (p.1 : Int) + ((X - p.1 + n).toNat : Nat) - n = X := by omega
    have e2 : (p.2 : Int) + ((Y - p.2 + n).toNat : Nat) - n = Y := by omega
    rw [e1, e2]
    exact h
section
variable {g : Kg72.Ground} {k n : Nat}
theorem at_in {X Y : Int} (h : 0 ≤ X ∧ X < (g.across : Int) ∧ 0 ≤ Y ∧ Y < (g.down : Int)) : g.at_ X Y = g.squares.getD (Y.toNat * g.across + X.toNat) 0 := if_pos h
theorem at_out {X Y : Int} (h : ¬ (0 ≤ X ∧ X < (g.across : Int) ∧ 0 ≤ Y ∧ Y < (g.down : Int))) : g.at_ X Y = 0 := if_neg h
theorem lin_mod {a x y : Nat} (hx : x < a) : (y * a + x) % a = x := by
  rw [Nat.add_comm, Nat.add_mul_mod_self_right, Nat.mod_eq_of_lt hx]
theorem lin_div {a x y : Nat} (hx : x < a) : (y * a + x) / a = y := by
  rw [Nat.add_comm, Nat.add_mul_div_right _ _ (by omega), Nat.div_eq_of_lt hx, Nat.zero_add]
theorem lin_lt {a d x y : Nat} (hx : x < a) (hy : y < d) : y * a + x < a * d := by
  have : (y + 1) * a ≤ d * a := Nat.mul_le_mul_right a hy
  rw [Nat.succ_mul] at this
  rw [Nat.mul_comm a d]
  omega
theorem lin_back (k a : Nat) : k / a * a + k % a = k := by
  rw [Nat.mul_comm]
  exact Nat.div_add_mod k a
theorem apart_le {a b n : Nat} : Kg72.apart a b ≤ n ↔ (a : Int) - n ≤ b ∧ (b : Int) ≤ a + n := by
  unfold Kg72.apart
  split <;> omega
/-- the squares of the rows within n: by a place -/
theorem in_iff {sort : Nat} (ha : 1 ≤ g.across) (hN : g.squares.length = g.across * g.down) :
    (∃ X Y : Int, ((k % g.across : Nat) : Int) - n ≤ X ∧ X ≤ ((k % g.across : Nat) : Int) + n ∧ ((k / g.across : Nat) : Int) - n ≤ Y ∧ Y ≤ ((k / g.across : Nat) : Int) + n ∧ (0 ≤ X ∧ X < (g.across : Int) ∧ 0 ≤ Y ∧ Y < (g.down : Int)) ∧ g.squares.getD (Y.toNat * g.across + X.toNat) 0 = sort) ↔
    ∃ j, j < g.squares.length ∧ g.squares[j]? = some sort ∧ cheb g.across k j ≤ n := by
  constructor
  · rintro ⟨X, Y, h1, h2, h3, h4, ⟨b1, b2, b3, b4⟩, h⟩
    obtain ⟨x, rfl⟩ : ∃ x : Nat, X = x := ⟨X.toNat, by omega⟩
    obtain ⟨y, rfl⟩ : ∃ y : Nat, Y = y := ⟨Y.toNat, by omega⟩
    have hx : x < g.across := by omega
    have hy : y < g.down := by omega
    rw [Int.toNat_natCast, Int.toNat_natCast] at h
    have hlt := lin_lt hx hy
    refine ⟨y * g.across + x, by rw [hN]; exact hlt, ?_, ?_⟩
    · rw [List.getD_eq_getElem?_getD, List.getElem?_eq_getElem (by rw [hN]; exact hlt)] at h
      rw [List.getElem?_eq_getElem (by rw [hN]; exact hlt)]
      exact congrArg some h
    · unfold cheb
      rw [lin_mod hx, lin_div hx]
      exact Nat.max_le.mpr ⟨apart_le.mpr ⟨by omega, by omega⟩, apart_le.mpr ⟨by omega, by omega⟩⟩
  · rintro ⟨j, hj, hs, hc⟩
    unfold cheb at hc
    obtain ⟨c1, c2⟩ := Nat.max_le.mp hc
    have c1 := apart_le.mp c1
    have c2 := apart_le.mp c2
    have hx : j % g.across < g.across := Nat.mod_lt _ ha
    have hy : j / g.across < g.down := Nat.div_lt_of_lt_mul (by rw [← hN]; exact hj)
    refine ⟨((j % g.across : Nat) : Int), ((j / g.across : Nat) : Int), c1.1, c1.2, c2.1, c2.2, ⟨Int.natCast_nonneg _, Int.ofNat_lt.mpr hx, Int.natCast_nonneg _, Int.ofNat_lt.mpr hy⟩, ?_⟩
    rw [Int.toNat_natCast, Int.toNat_natCast, lin_back, List.getD_eq_getElem?_getD, hs]
    rfl
theorem near_street (ha : 1 ≤ g.across) (hN : g.squares.length = g.across * g.down) (hn : n < 1000) : g.near 2 n (pt g k) = decide (howFar g k 2 ≤ n) := by
  rw [Bool.eq_iff_iff, decide_eq_true_iff, near_iff, howFar_le, ← in_iff ha hN]
  have e : farStart g k 2 = 1000 := if_neg (by decide)
  rw [e]
  constructor
  · rintro ⟨X, Y, h1, h2, h3, h4, h⟩
    by_cases c : 0 ≤ X ∧ X < (g.across : Int) ∧ 0 ≤ Y ∧ Y < (g.down : Int)
    · rw [at_in c] at h
      exact .inr ⟨X, Y, h1, h2, h3, h4, c, h⟩
    · rw [at_out c] at h
      cases h
  · rintro (h | ⟨X, Y, h1, h2, h3, h4, c, h⟩)
    · omega
    · exact ⟨X, Y, h1, h2, h3, h4, by rw [at_in c]; exact h⟩
theorem near_others (ha : 1 ≤ g.across) (hN : g.squares.length = g.across * g.down) (hk : k < g.squares.length) : g.near 0 n (pt g k) = decide (howFar g k 0 ≤ n) := by
  have hx : k % g.across < g.across := Nat.mod_lt _ ha
  have hy : k / g.across < g.down := Nat.div_lt_of_lt_mul (by rw [← hN]; exact hk)
  rw [Bool.eq_iff_iff, decide_eq_true_iff, near_iff, howFar_le, ← in_iff ha hN]
  have e : farStart g k 0 = min (min (min (k % g.across + 1) (k / g.across + 1)) (g.across - k % g.across)) (g.down - k / g.across) := if_pos rfl
  rw [e]
  show (∃ X Y : Int, ((k % g.across : Nat) : Int) - n ≤ X ∧ X ≤ ((k % g.across : Nat) : Int) + n ∧ ((k / g.across : Nat) : Int) - n ≤ Y ∧ Y ≤ ((k / g.across : Nat) : Int) + n ∧ g.at_ X Y = 0) ↔ _
  generalize k % g.across = x at *
  generalize k / g.across = y at *
  constructor
  · rintro ⟨X, Y, h1, h2, h3, h4, h⟩
    by_cases c : 0 ≤ X ∧ X < (g.across : Int) ∧ 0 ≤ Y ∧ Y < (g.down : Int)
    · rw [at_in c] at h
      exact .inr ⟨X, Y, h1, h2, h3, h4, c, h⟩
    · left
      omega
  · rintro (h | ⟨X, Y, h1, h2, h3, h4, c, h⟩)
    · by_cases q1 : x + 1 ≤ n
      · exact ⟨-1, y, by omega, by omega, by omega, by omega, at_out (by omega)⟩
      · by_cases q2 : y + 1 ≤ n
        · exact ⟨x, -1, by omega, by omega, by omega, by omega, at_out (by omega)⟩
        · by_cases q3 : g.across - x ≤ n
          · exact ⟨g.across, y, by omega, by omega, by omega, by omega, at_out (by omega)⟩
          · exact ⟨x, g.down, by omega, by omega, by omega, by omega, at_out (by omega)⟩
    · exact ⟨X, Y, h1, h2, h3, h4, by rw [at_in c]; exact h⟩
theorem inward_eq (ha : 1 ≤ g.across) (hN : g.squares.length = g.across * g.down) (hk : k < g.squares.length) : g.inward (pt g k) = howFar g k 0 - 1 := by
  have hx : k % g.across < g.across := Nat.mod_lt _ ha
  have hs : farStart g k 0 ≤ g.across := by
    have e : farStart g k 0 = min (min (min (k % g.across + 1) (k / g.across + 1)) (g.across - k % g.across)) (g.down - k / g.across) := if_pos rfl
    omega
  have hh : howFar g k 0 ≤ g.across := howFar_le.mpr (.inl hs)
  unfold Kg72.Ground.inward
  have e : (fun n => g.near 0 (n + 1) (pt g k)) = fun n => decide (howFar g k 0 ≤ n + 1) := funext fun n => near_others ha hN hk
  rw [e]
  generalize howFar g k 0 = h at *
  have f : (List.range (g.across + g.down + 1)).find? (fun n => decide (h ≤ n + 1)) = some (h - 1) := by
    rw [List.find?_range_eq_some]
    refine ⟨decide_eq_true (by omega), List.mem_range.mpr (by omega), fun j hj => ?_⟩
    rw [decide_eq_false (by omega)]
    rfl
  rw [f]
  rfl
end
end DL


set_option maxHeartbeats 800000
/-! # Plain: places by number; area, squares, floors' area, the most -/
namespace DL
theorem places_mul (a : Nat) (ha : 1 ≤ a) : ∀ d : Nat, ((List.range d).flatMap fun y => (List.range a).map fun x => (x, y)) = (List.range (a * d)).map fun k => (k % a, k / a)
  | 0 => rfl
  | d + 1 => by
    rw [List.range_succ, List.flatMap_append, places_mul a ha d]
    have e : a * (d + 1) = a * d + a := Nat.mul_succ a d
    rw [e, List.range_add, List.map_append, List.map_map]
    congr 1
    show (List.range a).map (fun x => (x, d)) ++ [] = _
    rw [List.append_nil]
    apply List.map_congr_left
    intro x hx
    have hx := List.mem_range.mp hx
    show (x, d) = ((a * d + x) % a, (a * d + x) / a)
    rw [Nat.mul_add_mod, Nat.mod_eq_of_lt hx, Nat.mul_add_div (by omega), Nat.div_eq_of_lt hx, Nat.add_zero]
structure GrOk (g : Kg72.Ground) : Prop where
  ha : 1 ≤ g.across
  hN : g.squares.length = g.across * g.down
section
variable {g : Kg72.Ground} {st : Kg72.State} {k : Nat}
theorem PlotOk.grOk (ok : PlotOk st) (h : st.ground.squares ≠ []) : GrOk st.ground := ⟨(ok.ground h).1, (ok.ground h).2.2.1⟩
theorem places_eq (h : GrOk g) : g.places = (List.range g.squares.length).map (pt g) := by
  unfold Kg72.Ground.places
  rw [places_mul g.across h.ha g.down, h.hN]
  rfl
theorem pt_inj (g : Kg72.Ground) {i j : Nat} (h : pt g i = pt g j) : i = j := by
  have h1 : i % g.across = j % g.across := congrArg Prod.fst h
  have h2 : i / g.across = j / g.across := congrArg Prod.snd h
  rw [← lin_back i g.across, ← lin_back j g.across, h1, h2]
theorem pt_in (h : GrOk g) (hk : k < g.squares.length) : (pt g k).1 < g.across ∧ (pt g k).2 < g.down :=
  ⟨Nat.mod_lt _ h.ha, Nat.div_lt_of_lt_mul (by rw [← h.hN]; exact hk)⟩
theorem at_pt (h : GrOk g) (hk : k < g.squares.length) : g.at_ (pt g k).1 (pt g k).2 = g.squares.getD k 0 := by
  obtain ⟨h1, h2⟩ := pt_in h hk
  rw [at_in ⟨by omega, by omega, by omega, by omega⟩, Int.toNat_natCast, Int.toNat_natCast]
  congr 1
  exact lin_back k g.across
theorem squares_eq (h : GrOk st.ground) : st.squares = (builtIx st).map (pt st.ground) := by
  unfold Kg72.State.squares builtIx
  rw [places_eq h, List.filter_map]
  rfl
theorem plot_eq (h : GrOk g) : g.plot = ((List.range g.squares.length).filter fun k => g.squares.getD k 0 == 1).map (pt g) := by
  unfold Kg72.Ground.plot
  rw [places_eq h, List.filter_map]
  congr 1
  apply List.filter_congr
  intro k hk
  show (g.at_ ((pt g k).1 : Nat) ((pt g k).2 : Nat) == 1) = _
  rw [at_pt h (List.mem_range.mp hk)]
theorem count_ix : ∀ (l : List Nat), ((List.range l.length).filter fun k => l.getD k 0 == 1).length = l.count 1
  | [] => rfl
  | x :: r => by
    have ih := count_ix r
    rw [List.length_cons, List.range_succ_eq_map, List.filter_cons, List.count_cons]
    have e : ((List.range r.length).map Nat.succ).filter (fun k => (x :: r).getD k 0 == 1) = ((List.range r.length).filter fun k => r.getD k 0 == 1).map Nat.succ := by
      rw [List.filter_map]
      rfl
    rw [e]
    by_cases c : x = 1
    · rw [if_pos (by simp [c]), if_pos (by simp [c]), List.length_cons, List.length_map, ih]
    · rw [if_neg (by simp [c]), if_neg (by simp [c]), List.length_map, ih]
      rfl
theorem area_eq (h : GrOk st.ground) : st.area = st.ground.squares.count 1 := by
  unfold Kg72.State.area
  rw [plot_eq h, List.length_map, count_ix]
theorem floorArea_eq (h : GrOk st.ground) : st.floorArea = ((List.range st.ground.squares.length).map fun k => st.built (pt st.ground k)).sum := by
  unfold Kg72.State.floorArea
  rw [places_eq h, List.map_map]
  rfl
/-! ### sorted downwards -/
theorem put_perm (n : Nat) : ∀ l : List Nat, (Kg72.put n l).Perm (n :: l)
  | [] => List.Perm.refl _
  | m :: l => by
    unfold Kg72.put
    split
    · exact List.Perm.refl _
    · exact ((put_perm n l).cons m).trans (List.Perm.swap n m l)
theorem put_sorted (n : Nat) : ∀ l : List Nat, l.Pairwise (· ≥ ·) → (Kg72.put n l).Pairwise (· ≥ ·)
  | [], _ => by unfold Kg72.put; exact List.pairwise_singleton _ _
  | m :: l, h => by
    unfold Kg72.put
    obtain ⟨h1, h2⟩ := List.pairwise_cons.mp h
    split
    · rename_i c
      refine List.pairwise_cons.mpr ⟨fun b hb => ?_, h⟩
      rcases List.mem_cons.mp hb with e | hb
      · rw [e]; exact Nat.le_of_lt c
      · exact Nat.le_trans (h1 b hb) (Nat.le_of_lt c)
    · rename_i c
      refine List.pairwise_cons.mpr ⟨fun b hb => ?_, put_sorted n l h2⟩
      have hb := (put_perm n l).mem_iff.mp hb
      rcases List.mem_cons.mp hb with e | hb
      · rw [e]; exact Nat.le_of_not_lt c
      · exact h1 b hb
theorem sorted_go : ∀ (l s : List Nat), s.Pairwise (· ≥ ·) → (l.foldl (fun s n => Kg72.put n s) s).Pairwise (· ≥ ·) ∧ (l.foldl (fun s n => Kg72.put n s) s).Perm (l ++ s)
  | [], s, h => ⟨h, List.Perm.refl _⟩
  | n :: l, s, h => by
    obtain ⟨h1, h2⟩ := sorted_go l (Kg72.put n s) (put_sorted n s h)
    refine ⟨h1, h2.trans ?_⟩
    refine ((put_perm n s).append_left l).trans ?_
    exact List.perm_middle
theorem sorted_ok (l : List Nat) : (Kg72.sorted l).Pairwise (· ≥ ·) ∧ (Kg72.sorted l).Perm l := by
  obtain ⟨h1, h2⟩ := sorted_go l [] List.Pairwise.nil
  exact ⟨h1, by have h3 := h2; rw [List.append_nil] at h3; exact h3⟩
theorem sorted_one : ∀ {a b : List Int}, a.Perm b → a.Pairwise (· ≥ ·) → b.Pairwise (· ≥ ·) → a = b := fun {a b} h ha hb =>
  List.Perm.eq_of_pairwise (le := fun x y : Int => x ≥ y) (fun x y _ _ h1 h2 => Int.le_antisymm h2 h1) ha hb h
theorem sorted_perm {l m : List Nat} (h : l.Perm m) : Kg72.sorted l = Kg72.sorted m := by
  obtain ⟨a1, a2⟩ := sorted_ok l
  obtain ⟨b1, b2⟩ := sorted_ok m
  exact List.Perm.eq_of_pairwise (le := fun x y : Nat => x ≥ y) (fun x y _ _ h1 h2 => Nat.le_antisymm h2 h1) a1 b1 (a2.trans (h.trans b2.symm))
/-- what the program's sorted hands back -/
theorem sorted_is {l : List Nat} {ns : List Int} (hp : ns.Perm (l.map fun (n : Nat) => (n : Int))) (ho : ns.Pairwise (· ≥ ·)) : ns = (Kg72.sorted l).map fun (n : Nat) => (n : Int) := by
  obtain ⟨a1, a2⟩ := sorted_ok l
  refine sorted_one (hp.trans (a2.symm.map _)) ho ?_
  rw [List.pairwise_map]
  exact a1.imp fun h => Int.ofNat_le.mpr h
theorem best_eq (h : GrOk st.ground) : st.best = mostOf st (List.range st.ground.squares.length) := by
  unfold Kg72.State.best mostOf
  congr 4
  rw [plot_eq h, List.filter_map, List.map_map, List.filter_filter]
  congr 1
  apply List.filter_congr
  intro k hk
  show (st.open_ (pt st.ground k) && (st.ground.squares.getD k 0 == 1)) = st.open_ (pt st.ground k)
  unfold Kg72.State.open_
  rw [at_pt h (List.mem_range.mp hk)]
  cases (st.ground.squares.getD k 0 == 1) <;> simp
end
end DL


set_option maxHeartbeats 800000
namespace DL
open PySem PySem.Spec PyProof.Rows L2 Evl
/-! # houses -/
structure Comp (all : List (Nat × Nat)) (p : Nat × Nat) (h : List (Nat × Nat)) : Prop where
  nd : h.Nodup
  me : p ∈ h
  sub : ∀ q ∈ h, q ∈ all
  cl : ∀ q ∈ h, ∀ r ∈ all, Kg72.beside q r = true → r ∈ h
  re : ∀ C : Nat × Nat → Prop, C p → (∀ q r, C q → r ∈ all → Kg72.beside q r = true → C r) → ∀ q ∈ h, C q
theorem Comp.perm {all h h' : List (Nat × Nat)} {p : Nat × Nat} (a : Comp all p h) (b : Comp all p h') : h.Perm h' :=
  (List.perm_ext_iff_of_nodup a.nd b.nd).mpr fun q => ⟨a.re (fun x => x ∈ h') b.me (fun q r c m z => b.cl q c r m z) q, b.re (fun x => x ∈ h) a.me (fun q r c m z => a.cl q c r m z) q⟩
theorem beside_iff {p q : Nat × Nat} : Kg72.beside p q = true ↔ (p.1 = q.1 ∧ (p.2 + 1 = q.2 ∨ q.2 + 1 = p.2)) ∨ (p.2 = q.2 ∧ (p.1 + 1 = q.1 ∨ q.1 + 1 = p.1)) := by
  unfold Kg72.beside
  simp only [Bool.or_eq_true, Bool.and_eq_true, beq_iff_eq]
theorem beside_symm {p q : Nat × Nat} (h : Kg72.beside p q = true) : Kg72.beside q p = true := by
  rw [beside_iff] at h ⊢
  omega
theorem grow_comp {all : List (Nat × Nat)} {p : Nat × Nat} (nd : all.Nodup) : ∀ (f : Nat) (l : List (Nat × Nat)), l.Nodup → p ∈ l → (∀ q ∈ l, q ∈ all) →
    (∀ C : Nat × Nat → Prop, C p → (∀ q r, C q → r ∈ all → Kg72.beside q r = true → C r) → ∀ q ∈ l, C q) → all.length + 1 ≤ f + l.length → Comp all p (Kg72.grow all f l)
  | 0, l, h1, _, h3, _, hf => by
    have := h1.length_le_of_subset (l₂ := all) h3
    omega
  | f + 1, l, h1, h2, h3, h4, hf => by
    show Comp all p (let m := l ++ all.filter fun p => !l.contains p && l.any (Kg72.beside p); if m.length = l.length then l else Kg72.grow all f m)
    dsimp only
    have mem : ∀ r, r ∈ (all.filter fun p => !l.contains p && l.any (Kg72.beside p)) ↔ r ∈ all ∧ r ∉ l ∧ ∃ q ∈ l, Kg72.beside r q = true := fun r => by
      rw [List.mem_filter, Bool.and_eq_true, Bool.not_eq_true', List.contains_eq_mem, decide_eq_false_iff_not, List.any_eq_true]
    by_cases c : (l ++ all.filter fun p => !l.contains p && l.any (Kg72.beside p)).length = l.length
    · rw [if_pos c]
      have e0 : (all.filter fun p => !l.contains p && l.any (Kg72.beside p)) = [] := by
        apply List.eq_nil_of_length_eq_zero
        rw [List.length_append] at c
        omega
      refine ⟨h1, h2, h3, fun q hq r hr hb => ?_, h4⟩
      apply Classical.byContradiction
      intro hn
      have := (mem r).mpr ⟨hr, hn, q, hq, beside_symm hb⟩
      rw [e0] at this
      cases this
    · rw [if_neg c]
      refine grow_comp nd f _ ?_ (List.mem_append_left _ h2) ?_ ?_ ?_
      · rw [List.nodup_append]
        refine ⟨h1, nd.sublist List.filter_sublist, fun a ha b hb e => ?_⟩
        subst e
        exact ((mem a).mp hb).2.1 ha
      · intro q hq
        rcases List.mem_append.mp hq with hq | hq
        · exact h3 q hq
        · exact ((mem q).mp hq).1
      · intro C c1 c2 q hq
        rcases List.mem_append.mp hq with hq | hq
        · exact h4 C c1 c2 q hq
        · obtain ⟨m1, _, r, hr, hb⟩ := (mem q).mp hq
          exact c2 r q (h4 C c1 c2 r hr) m1 (beside_symm hb)
      · rw [List.length_append] at c ⊢
        omega
theorem grow_sub (all : List (Nat × Nat)) : ∀ (f : Nat) (l : List (Nat × Nat)), (∀ q ∈ l, q ∈ all) → ∀ q ∈ Kg72.grow all f l, q ∈ all
  | 0, l, h, q, hq => h q hq
  | f + 1, l, h, q, hq => by
    have hq : q ∈ (if (l ++ all.filter fun p => !l.contains p && l.any (Kg72.beside p)).length = l.length then l else Kg72.grow all f (l ++ all.filter fun p => !l.contains p && l.any (Kg72.beside p))) := hq
    split at hq
    · exact h q hq
    · refine grow_sub all f _ (fun r hr => ?_) q hq
      rcases List.mem_append.mp hr with hr | hr
      · exact h r hr
      · exact (List.mem_filter.mp hr).1
theorem grow_has (all : List (Nat × Nat)) : ∀ (f : Nat) (l : List (Nat × Nat)), ∀ q ∈ l, q ∈ Kg72.grow all f l
  | 0, l, q, hq => hq
  | f + 1, l, q, hq => by
    show q ∈ (if (l ++ all.filter fun p => !l.contains p && l.any (Kg72.beside p)).length = l.length then l else Kg72.grow all f (l ++ all.filter fun p => !l.contains p && l.any (Kg72.beside p)))
    split
    · exact hq
    · exact grow_has all f _ q (List.mem_append_left _ hq)
theorem houses_in : ∀ (f : Nat) (l : List (Nat × Nat)), ∀ h ∈ Kg72.houses f l, ∀ q ∈ h, q ∈ l
  | 0, _, h, hh, _, _ => by cases hh
  | _ + 1, [], h, hh, _, _ => by cases hh
  | f + 1, p :: l, h, hh, q, hq => by
    have hh : h ∈ Kg72.grow (p :: l) (l.length + 1) [p] :: Kg72.houses f (l.filter fun q => !(Kg72.grow (p :: l) (l.length + 1) [p]).contains q) := hh
    rcases List.mem_cons.mp hh with rfl | hh
    · exact grow_sub _ _ _ (fun r hr => by rw [List.mem_singleton.mp hr]; exact List.mem_cons_self) q hq
    · exact List.mem_cons_of_mem _ (List.mem_filter.mp (houses_in f _ h hh q hq)).1
theorem houses_apart : ∀ (f : Nat) (l : List (Nat × Nat)), (Kg72.houses f l).Pairwise fun a b => ∀ q ∈ a, q ∉ b
  | 0, _ => List.Pairwise.nil
  | _ + 1, [] => List.Pairwise.nil
  | f + 1, p :: l => by
    show (Kg72.grow (p :: l) (l.length + 1) [p] :: Kg72.houses f (l.filter fun q => !(Kg72.grow (p :: l) (l.length + 1) [p]).contains q)).Pairwise fun a b => ∀ q ∈ a, q ∉ b
    rw [List.pairwise_cons]
    refine ⟨fun b hb q hq hn => ?_, houses_apart f _⟩
    have := (List.mem_filter.mp (houses_in f _ b hb q hn)).2
    rw [Bool.not_eq_true', List.contains_eq_mem, decide_eq_false_iff_not] at this
    exact this hq

/-! ### side by side, by places -/
section
variable {g : Kg72.Ground}
theorem split_at (a k : Nat) (ha : 1 ≤ a) : ∃ x y, x < a ∧ k = y * a + x ∧ k % a = x ∧ k / a = y := ⟨k % a, k / a, Nat.mod_lt _ ha, (lin_back k a).symm, rfl, rfl⟩
theorem bes_iff (h : GrOk g) {k j : Nat} (hk : k < g.squares.length) (hj : j < g.squares.length) : Kg72.beside (pt g k) (pt g j) = true ↔ j ∈ besIx g k := by
  obtain ⟨k1, k2⟩ := pt_in h hk
  obtain ⟨j1, j2⟩ := pt_in h hj
  have ha := h.ha
  rw [beside_iff]
  unfold besIx
  unfold pt at *
  generalize g.across = a at *
  generalize g.down = d at *
  obtain ⟨x, y, hx, ek, e1, e2⟩ := split_at a k ha
  obtain ⟨u, v, hu, ej, e3, e4⟩ := split_at a j ha
  rw [e1] at k1
  rw [e2] at k2
  rw [e3] at j1
  rw [e4] at j2
  rw [e1, e2, e3, e4]
  dsimp only
  simp only [List.mem_append]
  have m1 : j ∈ (if 0 < x then [k - 1] else []) ↔ 0 < x ∧ j = k - 1 := by split <;> simp [*] <;> omega
  have m2 : j ∈ (if x + 1 < a then [k + 1] else []) ↔ x + 1 < a ∧ j = k + 1 := by split <;> simp [*]
  have m3 : j ∈ (if 0 < y then [k - a] else []) ↔ 0 < y ∧ j = k - a := by split <;> simp [*]
  have m4 : j ∈ (if y + 1 < d then [k + a] else []) ↔ y + 1 < d ∧ j = k + a := by split <;> simp [*]
  rw [m1, m2, m3, m4]
  have uniq : ∀ {x' y' : Nat}, x' < a → j = y' * a + x' → u = x' ∧ v = y' := fun {x' y'} hx' e => ⟨by rw [← e3, e, lin_mod hx'], by rw [← e4, e, lin_div hx']⟩
  constructor
  · rintro (⟨q1, q2 | q2⟩ | ⟨q1, q2 | q2⟩)
    · refine .inr ⟨by omega, ?_⟩
      rw [ej, ek, ← q1, ← q2, Nat.succ_mul]; omega
    · refine .inl (.inr ⟨by omega, ?_⟩)
      rw [ej, ek, ← q1, ← q2, Nat.succ_mul]; omega
    · refine .inl (.inl (.inr ⟨by omega, ?_⟩))
      rw [ej, ek, ← q1, ← q2]; omega
    · refine .inl (.inl (.inl ⟨by omega, ?_⟩))
      rw [ej, ek, ← q1, ← q2]; omega
  · rintro (((⟨q1, q2⟩ | ⟨q1, q2⟩) | ⟨q1, q2⟩) | ⟨q1, q2⟩)
    · obtain ⟨z1, z2⟩ := uniq (x' := x - 1) (y' := y) (by omega) (by rw [q2, ek]; omega)
      omega
    · obtain ⟨z1, z2⟩ := uniq (x' := x + 1) (y' := y) (by omega) (by rw [q2, ek]; omega)
      omega
    · obtain ⟨y', rfl⟩ : ∃ y', y = y' + 1 := ⟨y - 1, by omega⟩
      obtain ⟨z1, z2⟩ := uniq (x' := x) (y' := y') (by omega) (by rw [q2, ek, Nat.succ_mul]; omega)
      omega
    · obtain ⟨z1, z2⟩ := uniq (x' := x) (y' := y + 1) (by omega) (by rw [q2, ek, Nat.succ_mul]; omega)
      omega
end

/-! ### the search -/
structure Dfs (g : Kg72.Ground) (L : List Nat) (s : Nat) (M hs ws : List Nat) : Prop where
  nd : (hs ++ ws).Nodup
  left : M = L.filter fun k => !(hs ++ ws).contains k
  sub : ∀ k ∈ hs ++ ws, k ∈ L
  me : s ∈ hs ++ ws
  re : ∀ C : Nat × Nat → Prop, C (pt g s) → (∀ q r, C q → r ∈ L.map (pt g) → Kg72.beside q r = true → C r) → ∀ k ∈ hs ++ ws, C (pt g k)
def Shut (g : Kg72.Ground) (L hs ws : List Nat) (pl : Nat) (dn : List Nat) : Prop := ∀ k ∈ hs, ∀ j ∈ L, Kg72.beside (pt g k) (pt g j) = true → j ∈ hs ++ ws ∨ (k = pl ∧ j ∉ dn)
section
variable {g : Kg72.Ground} {L M hs ws dn : List Nat} {s pl b : Nat}
theorem Dfs.start (hs : s ∈ L) : Dfs g L s (L.filter fun k => !decide (k = s)) [] [s] :=
  ⟨by simp, by congr 1; funext k; simp, fun k hk => by simp at hk; rw [hk]; exact hs, by simp, fun C c1 _ k hk => by simp at hk; rw [hk]; exact c1⟩
theorem Dfs.move (h : Dfs g L s M hs (ws ++ [pl])) : Dfs g L s M (hs ++ [pl]) ws := by
  have p : (hs ++ [pl] ++ ws).Perm (hs ++ (ws ++ [pl])) := by
    rw [List.append_assoc]
    exact List.Perm.append_left hs List.perm_append_comm
  refine ⟨p.nodup_iff.mpr h.nd, ?_, fun k hk => h.sub k (p.mem_iff.mp hk), p.mem_iff.mpr h.me, fun C c1 c2 k hk => h.re C c1 c2 k (p.mem_iff.mp hk)⟩
  rw [h.left]
  congr 1
  funext k
  rw [List.contains_eq_mem, List.contains_eq_mem]
  congr 1
  exact decide_eq_decide.mpr p.mem_iff.symm
theorem Shut.move (h : Shut g L hs (ws ++ [pl]) b []) (nb : b ∉ hs) : Shut g L (hs ++ [pl]) ws pl [] := fun k hk j hj hb => by
  rcases List.mem_append.mp hk with hk | hk
  · rcases h k hk j hj hb with q | ⟨q, _⟩
    · refine .inl ?_
      simp only [List.mem_append, List.mem_singleton] at q ⊢
      rcases q with q | q | q
      · exact .inl (.inl q)
      · exact .inr q
      · exact .inl (.inr q)
    · rw [q] at hk
      exact absurd hk nb
  · exact .inr ⟨List.mem_singleton.mp hk, by simp⟩
theorem Dfs.take (h : Dfs g L s M hs ws) (hb : b ∈ M) (hp : pl ∈ hs) (hbe : Kg72.beside (pt g pl) (pt g b) = true) : Dfs g L s (M.filter fun k => !decide (k = b)) hs (ws ++ [b]) := by
  have hb' := hb
  rw [h.left, List.mem_filter, Bool.not_eq_true', List.contains_eq_mem, decide_eq_false_iff_not] at hb'
  refine ⟨?_, ?_, ?_, ?_, ?_⟩
  · rw [← List.append_assoc, List.nodup_append]
    exact ⟨h.nd, by simp, fun a ha c hc e => by rw [List.mem_singleton.mp hc] at e; subst e; exact hb'.2 ha⟩
  · rw [h.left, List.filter_filter]
    congr 1
    funext k
    rw [← List.append_assoc, List.contains_eq_mem, List.contains_eq_mem]
    by_cases c : k = b
    · subst c; simp
    · simp [c]
  · intro k hk
    rw [← List.append_assoc] at hk
    rcases List.mem_append.mp hk with hk | hk
    · exact h.sub k hk
    · rw [List.mem_singleton.mp hk]; exact hb'.1
  · rw [← List.append_assoc]
    exact List.mem_append_left _ h.me
  · intro C c1 c2 k hk
    rw [← List.append_assoc] at hk
    rcases List.mem_append.mp hk with hk | hk
    · exact h.re C c1 c2 k hk
    · rw [List.mem_singleton.mp hk]
      exact c2 _ _ (h.re C c1 c2 pl (List.mem_append_left _ hp)) (List.mem_map_of_mem hb'.1) hbe
theorem Shut.take (h : Shut g L hs ws pl dn) : Shut g L hs (ws ++ [b]) pl (dn ++ [b]) := fun k hk j hj hb => by
  rcases h k hk j hj hb with q | ⟨q, n⟩
  · refine .inl ?_
    rw [← List.append_assoc]
    exact List.mem_append_left _ q
  · by_cases c : j = b
    · subst c
      exact .inl (by simp)
    · exact .inr ⟨q, by simp [n, c]⟩
theorem Shut.skip (hd : Dfs g L s M hs ws) (h : Shut g L hs ws pl dn) (hn : b ∉ M) : Shut g L hs ws pl (dn ++ [b]) := fun k hk j hj hb => by
  rcases h k hk j hj hb with q | ⟨q, n⟩
  · exact .inl q
  · by_cases c : j = b
    · subst c
      refine .inl ?_
      rw [hd.left, List.mem_filter, Bool.not_eq_true', List.contains_eq_mem, decide_eq_false_iff_not] at hn
      exact Classical.byContradiction fun z => hn ⟨hj, z⟩
    · exact .inr ⟨q, by simp [n, c]⟩
theorem Shut.done (hg : GrOk g) (hL : ∀ k ∈ L, k < g.squares.length) (hd : Dfs g L s M hs ws) (h : Shut g L hs ws pl (besIx g pl)) : Shut g L hs ws pl' [] := fun k hk j hj hb => by
  rcases h k hk j hj hb with q | ⟨q, n⟩
  · exact .inl q
  · subst q
    exact absurd ((bes_iff hg (hL _ (hd.sub _ (List.mem_append_left _ hk))) (hL _ hj)).mp hb) n
theorem Dfs.comp (hd : Dfs g L s M hs []) (h : Shut g L hs [] pl []) (np : pl ∉ hs) : Comp (L.map (pt g)) (pt g s) (hs.map (pt g)) := by
  have e : hs ++ [] = hs := List.append_nil hs
  refine ⟨?_, ?_, ?_, ?_, ?_⟩
  · have := hd.nd
    rw [e] at this
    rw [List.Nodup, List.pairwise_map]
    exact this.imp fun n z => n (pt_inj g z)
  · exact List.mem_map_of_mem (by have := hd.me; rwa [e] at this)
  · intro q hq
    obtain ⟨k, hk, rfl⟩ := List.mem_map.mp hq
    exact List.mem_map_of_mem (hd.sub k (by rwa [e]))
  · intro q hq r hr hb
    obtain ⟨k, hk, rfl⟩ := List.mem_map.mp hq
    obtain ⟨j, hj, rfl⟩ := List.mem_map.mp hr
    rcases h k hk j hj hb with z | ⟨z, _⟩
    · rw [e] at z
      exact List.mem_map_of_mem z
    · rw [z] at hk
      exact absurd hk np
  · intro C c1 c2 q hq
    obtain ⟨k, hk, rfl⟩ := List.mem_map.mp hq
    exact hd.re C c1 c2 k (by rwa [e])
theorem Dfs.len (h : Dfs g L s M hs ws) : hs.length + ws.length ≤ L.length := by
  have := h.nd.length_le_of_subset (l₂ := L) h.sub
  rw [List.length_append] at this
  exact this
end

/-! ### the whole walk over what's built on -/
def HsRel (g : Kg72.Ground) (outs : List (List Nat)) (gs : List (List (Nat × Nat))) : Prop := outs.length = gs.length ∧ ∀ (i : Nat) h q, outs[i]? = some h → gs[i]? = some q → (h.map (pt g)).Perm q ∧ ∀ k ∈ h, k < g.squares.length
theorem HsRel.push {g : Kg72.Ground} {outs : List (List Nat)} {gs : List (List (Nat × Nat))} {h : List Nat} {q : List (Nat × Nat)} (r : HsRel g outs gs) (h1 : (h.map (pt g)).Perm q) (h2 : ∀ k ∈ h, k < g.squares.length) : HsRel g (outs ++ [h]) (gs ++ [q]) := by
  refine ⟨by rw [List.length_append, List.length_append, r.1]; rfl, fun i a b ha hb => ?_⟩
  by_cases c : i < outs.length
  · rw [List.getElem?_append_left c] at ha
    rw [List.getElem?_append_left (by rw [← r.1]; exact c)] at hb
    exact r.2 i a b ha hb
  · rw [List.getElem?_append_right (by omega)] at ha
    rw [List.getElem?_append_right (by rw [← r.1]; omega)] at hb
    rw [r.1] at ha
    cases hq : i - gs.length with
    | zero =>
      rw [hq] at ha hb
      cases ha
      cases hb
      exact ⟨h1, h2⟩
    | succ m => rw [hq] at ha; simp at ha
/-- what holds ahead of the i-th place -/
structure Whole (st : Kg72.State) (i : Nat) (L : List Nat) (outs : List (List Nat)) : Prop where
  sub : L.Sublist ((builtIx st).drop i)
  go : ∃ gs f, L.length ≤ f ∧ st.houses = gs ++ Kg72.houses f (L.map (pt st.ground)) ∧ HsRel st.ground outs gs
section
variable {st : Kg72.State} {i : Nat} {L M hs : List Nat} {outs : List (List Nat)} {s pl : Nat}
theorem built_nd : (builtIx st).Nodup := List.nodup_range.sublist List.filter_sublist
theorem built_in {k : Nat} (h : k ∈ builtIx st) : k < st.ground.squares.length := List.mem_range.mp (List.mem_filter.mp h).1
theorem Whole.inL (h : Whole st i L outs) : ∀ k ∈ L, k < st.ground.squares.length := fun k hk => built_in (List.mem_of_mem_drop (h.sub.subset hk))
theorem Whole.nd (h : Whole st i L outs) : L.Nodup := (built_nd.sublist (List.drop_sublist i _)).sublist h.sub
theorem Whole.start (hg : GrOk st.ground) : Whole st 0 (builtIx st) [] := ⟨by rw [List.drop_zero]; exact List.Sublist.refl _, [], st.squares.length, by rw [squares_eq hg, List.length_map]; exact Nat.le_refl _, by
  unfold Kg72.State.houses
  rw [squares_eq hg]
  rfl, rfl, fun i h q hh => by simp at hh⟩
theorem Whole.skip (h : Whole st i L outs) (hs : (builtIx st)[i]? = some s) (n : s ∉ L) : Whole st (i + 1) L outs := by
  refine ⟨?_, h.go⟩
  have hi := (List.getElem?_eq_some_iff.mp hs).1
  have e := h.sub
  rw [List.drop_eq_getElem_cons hi, (List.getElem?_eq_some_iff.mp hs).2] at e
  cases e with
  | cons _ e => exact e
  | cons_cons _ e => exact absurd List.mem_cons_self n
theorem Whole.head (h : Whole st i L outs) (hs : (builtIx st)[i]? = some s) (m : s ∈ L) : ∃ L', L = s :: L' ∧ s ∉ L' ∧ L'.Sublist ((builtIx st).drop (i + 1)) := by
  have hi := (List.getElem?_eq_some_iff.mp hs).1
  have nd : ((builtIx st).drop i).Nodup := built_nd.sublist (List.drop_sublist i _)
  have e := h.sub
  rw [List.drop_eq_getElem_cons hi, (List.getElem?_eq_some_iff.mp hs).2] at e nd
  rw [List.nodup_cons] at nd
  cases e with
  | cons _ e => exact absurd (e.subset m) nd.1
  | cons_cons _ e => exact ⟨_, rfl, fun z => nd.1 (e.subset z), e⟩
theorem Whole.step (h : Whole st i L outs) (hi : (builtIx st)[i]? = some s) (m : s ∈ L) (hd : Dfs st.ground L s M hs []) (hc : Shut st.ground L hs [] pl []) (np : pl ∉ hs) : Whole st (i + 1) M (outs ++ [hs]) := by
  have nd := h.nd
  have inL := h.inL
  obtain ⟨L', rfl, ns, hl'⟩ := h.head hi m
  obtain ⟨gs, f, hf, e, r⟩ := h.go
  have hcomp := hd.comp hc np
  rw [List.map_cons] at hcomp e
  rw [List.length_cons] at hf
  obtain ⟨f', rfl⟩ : ∃ f', f = f' + 1 := ⟨f - 1, by omega⟩
  have ndL : (pt st.ground s :: L'.map (pt st.ground)).Nodup := by
    rw [← List.map_cons, List.Nodup, List.pairwise_map]
    exact nd.imp fun n z => n (pt_inj _ z)
  have hg := grow_comp (p := pt st.ground s) ndL ((L'.map (pt st.ground)).length + 1) [pt st.ground s] (by simp) (by simp) (fun q hq => by rw [List.mem_singleton.mp hq]; exact List.mem_cons_self) (fun C c1 _ q hq => by rw [List.mem_singleton.mp hq]; exact c1) (by simp)
  have e2 : Kg72.houses (f' + 1) (pt st.ground s :: L'.map (pt st.ground)) = Kg72.grow (pt st.ground s :: L'.map (pt st.ground)) ((L'.map (pt st.ground)).length + 1) [pt st.ground s] ::
      Kg72.houses f' ((L'.map (pt st.ground)).filter fun q => !(Kg72.grow (pt st.ground s :: L'.map (pt st.ground)) ((L'.map (pt st.ground)).length + 1) [pt st.ground s]).contains q) := rfl
  rw [e2] at e
  generalize Kg72.grow (pt st.ground s :: L'.map (pt st.ground)) ((L'.map (pt st.ground)).length + 1) [pt st.ground s] = gg at *
  have hp : (hs.map (pt st.ground)).Perm gg := hcomp.perm hg
  have eM : M = L'.filter fun k => !hs.contains k := by
    have := hd.left
    rw [List.append_nil, List.filter_cons] at this
    rw [this, if_neg]
    have := hd.me
    rw [List.append_nil] at this
    simp [this]
  have e3 : ((L'.map (pt st.ground)).filter fun q => !gg.contains q) = M.map (pt st.ground) := by
    rw [eM, List.filter_map]
    congr 1
    congr 1
    funext k
    show (!gg.contains (pt st.ground k)) = !hs.contains k
    rw [List.contains_eq_mem, List.contains_eq_mem]
    congr 1
    refine decide_eq_decide.mpr ?_
    rw [← hp.mem_iff]
    constructor
    · intro z
      obtain ⟨j, hj, z⟩ := List.mem_map.mp z
      rw [← pt_inj _ z]
      exact hj
    · exact fun z => List.mem_map_of_mem z
  rw [e3] at e
  refine ⟨by rw [eM]; exact List.filter_sublist.trans hl', gs ++ [gg], f', ?_, ?_, r.push hp fun k hk => inL k (hd.sub k (by rw [List.append_nil]; exact hk))⟩
  · have : M.length ≤ L'.length := by rw [eM]; exact List.length_filter_le ..
    omega
  · rw [e, List.append_assoc]
    rfl
theorem Whole.done (h : Whole st (builtIx st).length L outs) : HousesAre st outs := by
  obtain ⟨gs, f, hf, e, r⟩ := h.go
  have e0 : L = [] := by
    have := h.sub
    rw [List.drop_length] at this
    exact List.sublist_nil.mp this
  subst e0
  have e1 : Kg72.houses f ([].map (pt st.ground)) = [] := by cases f <;> rfl
  rw [e1, List.append_nil] at e
  rw [HousesAre, e]
  exact r
end

/-! ### pairs that are too near -/
def pairsN (nr : List Nat → List Nat → Bool) : List (List Nat) → Nat
  | [] => 0
  | h :: l => (l.filter (nr h)).length + pairsN nr l
def nearB (a gap : Nat) (l m : List Nat) : Bool := l.any fun i => m.any fun j => decide ((cheb a i j : Int) - 1 < (gap : Int))
theorem near_tooNear {g : Kg72.Ground} {gap : Nat} (h0 : gap ≠ 0) (l m : List Nat) : nearB g.across gap l m = Kg72.tooNear gap (l.map (pt g)) (m.map (pt g)) := by
  unfold nearB Kg72.tooNear
  rw [List.any_map]
  congr 1
  funext i
  show _ = (m.map (pt g)).any _
  rw [List.any_map]
  congr 1
  funext j
  show decide _ = decide (Kg72.between (pt g i) (pt g j) < gap)
  unfold Kg72.between
  refine decide_eq_decide.mpr ?_
  show (cheb g.across i j : Int) - 1 < (gap : Int) ↔ cheb g.across i j - 1 < gap
  omega
theorem tooNear_perm {gap : Nat} {a a' b b' : List (Nat × Nat)} (h1 : a.Perm a') (h2 : b.Perm b') : Kg72.tooNear gap a b = Kg72.tooNear gap a' b' := by
  unfold Kg72.tooNear
  rw [h1.any_eq]
  congr 1
  funext p
  exact h2.any_eq
theorem pairs_rel {g : Kg72.Ground} {gap : Nat} (h0 : gap ≠ 0) : ∀ (outs : List (List Nat)) (gs : List (List (Nat × Nat))), HsRel g outs gs → pairsN (nearB g.across gap) outs = Kg72.pairsNear gap gs
  | [], gs, h => by
    have : gs = [] := List.eq_nil_of_length_eq_zero h.1.symm
    subst this
    rfl
  | o :: outs, [], h => by have := h.1; simp at this
  | o :: outs, q :: gs, h => by
    have h' : HsRel g outs gs := ⟨by have := h.1; simpa using this, fun i a b ha hb => h.2 (i + 1) a b (by simpa using ha) (by simpa using hb)⟩
    have hq := (h.2 0 o q rfl rfl).1
    show (outs.filter (nearB g.across gap o)).length + pairsN _ outs = (gs.filter fun k => Kg72.tooNear gap q k).length + Kg72.pairsNear gap gs
    rw [pairs_rel h0 outs gs h']
    congr 1
    have key : ∀ (outs : List (List Nat)) (gs : List (List (Nat × Nat))), HsRel g outs gs → (outs.filter (nearB g.across gap o)).length = (gs.filter fun k => Kg72.tooNear gap q k).length := by
      intro outs
      induction outs with
      | nil => intro gs h; have : gs = [] := List.eq_nil_of_length_eq_zero h.1.symm; subst this; rfl
      | cons b r ih =>
        intro gs h
        cases gs with
        | nil => have := h.1; simp at this
        | cons c t =>
          have h' : HsRel g r t := ⟨by have := h.1; simpa using this, fun i a b ha hb => h.2 (i + 1) a b (by simpa using ha) (by simpa using hb)⟩
          have hc := (h.2 0 b c rfl rfl).1
          have e : nearB g.across gap o b = Kg72.tooNear gap q c := by rw [near_tooNear h0, tooNear_perm hq hc]
          rw [List.filter_cons, List.filter_cons, e]
          split
          · rw [List.length_cons, List.length_cons, ih t h']
          · exact ih t h'
    exact key outs gs h'
theorem cheb_zero {g : Kg72.Ground} {i j : Nat} (h : cheb g.across i j = 0) : i = j := by
  apply pt_inj g
  have hz : ∀ a b : Nat, Kg72.apart a b = 0 → a = b := fun a b h => by unfold Kg72.apart at h; split at h <;> omega
  unfold cheb at h
  unfold pt
  rw [hz (i % g.across) (j % g.across) (by omega), hz (i / g.across) (j / g.across) (by omega)]
theorem pairs_zero {g : Kg72.Ground} : ∀ (outs : List (List Nat)), (outs.Pairwise fun a b => ∀ k ∈ a, k ∉ b) → pairsN (nearB g.across 0) outs = 0
  | [], _ => rfl
  | o :: outs, h => by
    rw [List.pairwise_cons] at h
    show (outs.filter (nearB g.across 0 o)).length + pairsN _ outs = 0
    rw [pairs_zero outs h.2]
    have : outs.filter (nearB g.across 0 o) = [] := by
      apply List.filter_eq_nil_iff.mpr
      intro b hb
      unfold nearB
      rw [List.any_eq_true]
      rintro ⟨i, hi, q⟩
      rw [List.any_eq_true] at q
      obtain ⟨j, hj, q⟩ := q
      have := of_decide_eq_true q
      have e : i = j := cheb_zero (g := g) (by omega)
      subst e
      exact h.1 b hb i hi hj
    rw [this]
    rfl
theorem pairs_eq {st : Kg72.State} {outs : List (List Nat)} (h : HousesAre st outs) : pairsN (nearB st.ground.across st.rules.gap) outs = (if st.rules.gap = 0 then 0 else Kg72.pairsNear st.rules.gap st.houses) := by
  by_cases c : st.rules.gap = 0
  · rw [if_pos c, c]
    apply pairs_zero
    rw [List.pairwise_iff_getElem]
    intro i j hi hj hij k hk hk2
    have hi' : i < st.houses.length := by rw [← h.1]; exact hi
    have hj' : j < st.houses.length := by rw [← h.1]; exact hj
    have p1 := (h.2 i _ _ (List.getElem?_eq_getElem hi) (List.getElem?_eq_getElem hi')).1
    have p2 := (h.2 j _ _ (List.getElem?_eq_getElem hj) (List.getElem?_eq_getElem hj')).1
    have ap := List.pairwise_iff_getElem.mp (houses_apart st.squares.length st.squares) i j hi' hj' hij
    exact ap _ (p1.mem_iff.mp (List.mem_map_of_mem hk)) (p2.mem_iff.mp (List.mem_map_of_mem hk2))
  · rw [if_neg c]
    exact pairs_rel c outs st.houses h
end DL


set_option maxHeartbeats 800000
namespace DL
open PySem PySem.Spec PyProof.Rows L2 Evl
/-! # plain: calls read off one list -/
theorem cut_mid {xs : List V} {i n : Nat} (h : i + n ≤ xs.length) : cutV xs (some ((i : Nat) : Int)) (some ((i + n : Nat) : Int)) = (xs.drop i).take n := by
  unfold cutV
  have e1 : HT.sIx xs.length 0 (some ((i : Nat) : Int)) = i := by
    unfold HT.sIx
    simp
    split <;> omega
  have e2 : HT.sIx xs.length xs.length (some ((i + n : Nat) : Int)) = i + n := by
    unfold HT.sIx
    simp
    split <;> omega
  rw [e1, e2, Nat.add_sub_cancel_left]
theorem drop_cons {α : Type} {l : List α} {i : Nat} {x : α} {r : List α} (h : l.drop i = x :: r) : l[i]? = some x ∧ l.drop (i + 1) = r ∧ i < l.length := by
  have hi : i < l.length := by
    apply Classical.byContradiction
    intro n
    rw [List.drop_eq_nil_of_le (by omega)] at h
    cases h
  rw [List.drop_eq_getElem_cons hi] at h
  injection h with h1 h2
  exact ⟨by rw [List.getElem?_eq_getElem hi, h1], h2, hi⟩
theorem row_step {t : List Int} {x s : List Int} (h : PyFlat.row t = some (x, s)) : ∃ (zz : Nat) (r : List Int), t = (zz : Int) :: r ∧ zz ≤ r.length ∧ x = r.take zz ∧ s = r.drop zz := by
  cases t with
  | nil => cases h
  | cons z r =>
    have h : (if 0 ≤ z ∧ z.toNat ≤ r.length then some (r.take z.toNat, r.drop z.toNat) else none) = some (x, s) := h
    by_cases c : 0 ≤ z ∧ z.toNat ≤ r.length
    · rw [if_pos c] at h
      cases h
      exact ⟨z.toNat, r, by rw [Int.toNat_of_nonneg c.1], c.2, rfl, rfl⟩
    · rw [if_neg c] at h
      cases h
theorem rows_step {m : Nat} {l : List Int} {i : Nat} {xs : List (List Int)} {u : List Int} (h : PyFlat.rows (m + 1) (l.drop i) = some (xs, u)) : ∃ (zz : Nat) (x : List Int) (xs' : List (List Int)), l[i]? = some (zz : Int) ∧ i + 1 + zz ≤ l.length ∧ x = (l.drop (i + 1)).take zz ∧ PyFlat.rows m (l.drop (i + 1 + zz)) = some (xs', u) ∧ xs = x :: xs' := by
  have h : (match PyFlat.row (l.drop i) with | none => none | some (x, s) => match PyFlat.rows m s with | none => none | some (xs, t) => some (x :: xs, t)) = some (xs, u) := h
  cases h1 : PyFlat.row (l.drop i) with
  | none => rw [h1] at h; cases h
  | some z =>
    obtain ⟨x, s⟩ := z
    rw [h1] at h
    dsimp only at h
    cases h2 : PyFlat.rows m s with
    | none => rw [h2] at h; cases h
    | some z =>
      obtain ⟨xs', t⟩ := z
      rw [h2] at h
      cases h
      obtain ⟨zz, r, e1, e2, e3, e4⟩ := row_step h1
      obtain ⟨d1, d2, d3⟩ := drop_cons e1
      have hl : r.length = l.length - (i + 1) := by rw [← d2, List.length_drop]
      refine ⟨zz, x, xs', d1, by omega, by rw [e3, d2], ?_, rfl⟩
      rw [← List.drop_drop, d2, ← e4]
      exact h2
theorem rows_zero {t : List Int} {xs : List (List Int)} {u : List Int} (h : PyFlat.rows 0 t = some (xs, u)) : xs = [] ∧ u = t := by
  have h : some (([] : List (List Int)), t) = some (xs, u) := h
  cases h
  exact ⟨rfl, rfl⟩
theorem rows_len2 : ∀ {m : Nat} {l : List Int} {i : Nat} {xs : List (List Int)} {u : List Int}, PyFlat.rows m (l.drop i) = some (xs, u) → xs.length = m
  | 0, _, _, _, _, h => by rw [(rows_zero h).1]; rfl
  | m + 1, l, i, xs, u, h => by
    obtain ⟨zz, x, xs', _, _, _, h2, rfl⟩ := rows_step h
    rw [List.length_cons, rows_len2 h2]
theorem calls_step {f : Nat} {l : List Int} {i : Nat} {cs : List (List (List Int))} (h : PyWide.calls f (l.drop i) = some cs) (hi : i < l.length) :
    ∃ (p : Int) (nn kk : Nat) (xs : List (List Int)) (f' : Nat) (cs' : List (List (List Int))) (u : List Int), l[i]? = some p ∧ l[i + 1]? = some (nn : Int) ∧ i + 2 + nn ≤ l.length ∧ l[i + 2 + nn]? = some (kk : Int) ∧
      PyFlat.rows kk (l.drop (i + 3 + nn)) = some (xs, u) ∧ cs = ((p :: (l.drop (i + 2)).take nn) :: xs) :: cs' ∧ PyWide.calls f' u = some cs' := by
  have e0 := List.drop_eq_getElem_cons hi
  generalize hp : l[i] = p at e0
  have d0 := drop_cons e0
  cases f with
  | zero => rw [e0] at h; cases h
  | succ f =>
    rw [e0] at h
    have h : (match PyWide.call (p :: l.drop (i + 1)) with | none => none | some (c, t) => match PyWide.calls f t with | none => none | some cs => some (c :: cs)) = some cs := h
    cases h1 : PyWide.call (p :: l.drop (i + 1)) with
    | none => rw [h1] at h; cases h
    | some z =>
      obtain ⟨c, t⟩ := z
      rw [h1] at h
      dsimp only at h
      cases h2 : PyWide.calls f t with
      | none => rw [h2] at h; cases h
      | some cs' =>
        rw [h2] at h
        cases h
        have h1 : (match PyFlat.row (l.drop (i + 1)) with
          | none => none
          | some (_, []) => none
          | some (ns, k :: t) => if 0 ≤ k then (match PyFlat.rows k.toNat t with
            | none => none
            | some (xs, u) => some ((p :: ns) :: xs, u)) else none) = some (c, t) := h1
        cases h3 : PyFlat.row (l.drop (i + 1)) with
        | none => rw [h3] at h1; cases h1
        | some z =>
          obtain ⟨ns, s⟩ := z
          rw [h3] at h1
          cases s with
          | nil => cases h1
          | cons k t1 =>
            dsimp only at h1
            by_cases c0 : 0 ≤ k
            · rw [if_pos c0] at h1
              cases h4 : PyFlat.rows k.toNat t1 with
              | none => rw [h4] at h1; cases h1
              | some z =>
                obtain ⟨xs, u⟩ := z
                rw [h4] at h1
                cases h1
                obtain ⟨nn, r, e1, e2, e3, e4⟩ := row_step h3
                obtain ⟨d1, d2, d3⟩ := drop_cons e1
                have hl : r.length = l.length - (i + 1 + 1) := by rw [← d2, List.length_drop]
                have e5 : l.drop (i + 2 + nn) = k :: t1 := by
                  rw [← List.drop_drop, show i + 2 = i + 1 + 1 from rfl, d2, ← e4]
                obtain ⟨d4, d5, d6⟩ := drop_cons e5
                refine ⟨p, nn, k.toNat, xs, f, cs', t, d0.1, d1, by omega, by rw [d4, Int.toNat_of_nonneg c0], ?_, ?_, h2⟩
                · rw [show i + 3 + nn = i + 2 + nn + 1 by omega, d5]
                  exact h4
                · rw [e3, show i + 2 = i + 1 + 1 from rfl, d2]
            · rw [if_neg c0] at h1
              cases h1
theorem calls_end {f : Nat} {l : List Int} {i : Nat} {cs : List (List (List Int))} (h : PyWide.calls f (l.drop i) = some cs) (hi : l.length ≤ i) : cs = [] := by
  rw [List.drop_eq_nil_of_le hi] at h
  cases f with
  | zero => cases h; rfl
  | succ f => cases h; rfl
theorem asked_rows {p : Int} {ns : List Int} {xs : List (List Int)} (h : Kg85Neutral.asked1 ((p :: ns) :: xs) = true) : xs.length ≤ 2 := by
  unfold Kg85Neutral.asked1 at h
  split at h <;> first | (rename_i e; injection e with e1 e2; injection e1 with e3 e4; subst e2) | skip
  all_goals first
    | exact Nat.le_of_ble_eq_true rfl
    | (simp only [Bool.and_eq_true, decide_eq_true_eq] at h; exact h.2.1)
    | cases h
theorem asked_one {ns : List Int} {xs : List (List Int)} (h : Kg85Neutral.asked1 ((1 :: ns) :: xs) = true) : ns = [] ∧ xs = [] := by
  unfold Kg85Neutral.asked1 at h
  split at h <;> first | (rename_i e; injection e with e1 e2; injection e1 with e3 e4; subst e2 e4) | skip
  all_goals first
    | exact ⟨rfl, rfl⟩
    | (exfalso; revert e3; decide)
    | cases h
theorem asked_call {c : List (List Int)} (h : Kg85Neutral.asked1 c = true) : ∃ k, Kg85Neutral.callOf c = some k := by
  unfold Kg85Neutral.asked1 at h
  split at h
  all_goals first
    | exact ⟨_, rfl⟩
    | cases h
theorem told_cons (a : List Int) (r : List (List Int)) : PyFlat.told (a :: r) = (a.length : Int) :: a ++ PyFlat.told r := rfl
end DL


set_option maxHeartbeats 800000
namespace DL
open PySem PySem.Spec PyProof.Rows L2 Evl

theorem hasid {K : PySem.W.Frag} {H : Hp} {a : Addr} {f : Str} {v : V} (h : Has K H a f v) : Has K H a f v := h
theorem hmid {H : Hp} {a C : Addr} {m : Str} (h : HasM H a C m) : HasM H a C m := h
theorem sqid {K : PySem.W.Frag} {H : Hp} {a : Addr} {xs : List V} (h : SqL K H a xs) : SqL K H a xs := h
theorem sqtid {K : PySem.W.Frag} {H : Hp} {a : Addr} {xs : List V} (h : SqT K H a xs) : SqT K H a xs := h
theorem spvid {sp : Sp} {vs : List V} {H : Hp} {z : V} (h : SpV sp vs H z) : SpV sp vs H z := h
theorem splid {sp : Sp} {vs xs : List V} {H : Hp} (h : SpL sp vs H xs) : SpL sp vs H xs := h
theorem cdivK {i j : Int} (h1 : 0 < j) (h2 : j < 1073741824) : CDiv i j := ⟨h1, h2⟩
theorem ltid {i j : Int} (h : i < j) : i < j := h
theorem lenid {xs : List V} (h : xs.length ≤ 100000) : xs.length ≤ 100000 := h

section
variable {A : Adr} {K : PySem.W.Frag} {mg : Str → Option Value}
/-- the ends of a def's body -/
abbrev DE (Q : VK) : Ends := { nx := fun _ H2 => Q .non H2, rt := Q }
theorem rd_retE {te : TE} {D : Ends} {σ : L2.St} {H : Hp} {v u : V} (h : Ev te σ H v) (e : v = u) (k : ∀ H1, Ex H H1 → D.rt u H1) : Rd (tRet te) D σ H := rd_ret (e ▸ h) k
theorem rd_retLE {te : TE} {D : Ends} {σ : L2.St} {H : Hp} {v u : List V} (h : EvL te σ H v) (e : v = u) (k : ∀ p H1, H p = none → Ex H H1 → H1 p = some (.lst u) → D.rt (.ref p) H1) : Rd (tRet te) D σ H := rd_retL (e ▸ h) k
theorem ev_eq {te : TE} {σ : L2.St} {H : Hp} {v u : V} (h : Ev te σ H v) (e : v = u) : Ev te σ H u := e ▸ h
theorem el_eq {te : TE} {σ : L2.St} {H : Hp} {v u : List V} (h : EvL te σ H v) (e : v = u) : EvL te σ H u := e ▸ h
theorem et_eq {t : TT} {σ : L2.St} {H : Hp} {a b : Bool} (h : EvT t σ H a) (e : a = b) : EvT t σ H b := e ▸ h
theorem refs_at {l : List Addr} {i : Nat} {a : Addr} (h : l[i]? = some a) : (refsV l)[i]? = some (.ref a) := by
  unfold refsV
  rw [List.getElem?_map, h]
  rfl
theorem nats_at {l : List Nat} {i : Nat} {a : Nat} (h : l[i]? = some a) : (natsV l)[i]? = some (.int a) := by
  unfold natsV
  rw [List.getElem?_map, h]
  rfl
theorem ints_at {l : List Int} {i : Nat} {a : Int} (h : l[i]? = some a) : (intsV l)[i]? = some (.int a) := by
  unfold intsV
  rw [List.getElem?_map, h]
  rfl
theorem at_refs {l : List Addr} {i : Nat} {v : V} (h : (refsV l)[i]? = some v) : ∃ a, l[i]? = some a ∧ v = .ref a := by
  unfold refsV at h
  rw [List.getElem?_map] at h
  cases q : l[i]? with
  | none => rw [q] at h; cases h
  | some a => rw [q] at h; exact ⟨a, rfl, (Option.some.inj h).symm⟩
theorem at_nats {l : List Nat} {i : Nat} {v : V} (h : (natsV l)[i]? = some v) : ∃ a : Nat, l[i]? = some a ∧ v = .int a := by
  unfold natsV at h
  rw [List.getElem?_map] at h
  cases q : l[i]? with
  | none => rw [q] at h; cases h
  | some a => rw [q] at h; exact ⟨a, rfl, (Option.some.inj h).symm⟩
theorem at_ints {l : List Int} {i : Nat} {v : V} (h : (intsV l)[i]? = some v) : ∃ a : Int, l[i]? = some a ∧ v = .int a := by
  unfold intsV at h
  rw [List.getElem?_map] at h
  cases q : l[i]? with
  | none => rw [q] at h; cases h
  | some a => rw [q] at h; exact ⟨a, rfl, (Option.some.inj h).symm⟩
theorem len_refs (l : List Addr) : (refsV l).length = l.length := List.length_map ..
theorem len_nats (l : List Nat) : (natsV l).length = l.length := List.length_map ..
theorem len_ints (l : List Int) : (intsV l).length = l.length := List.length_map ..
theorem cmulL {i j : Int} (h1 : -(2 ^ 64) < i) (h2 : i < 2 ^ 64) : CMul i j := .inl ⟨h1, h2⟩
theorem cmulR {i j : Int} (h1 : -(2 ^ 64) < j) (h2 : j < 2 ^ 64) : CMul i j := .inr ⟨h1, h2⟩
theorem sec_of {st : Kg79.State} {i : Nat} {x : Kg79.Section} (h : st.sections[i]? = some x) : st.section_ i = x := by
  unfold Kg79.State.section_
  rw [List.getD_eq_getElem?_getD, h]
  rfl
theorem sec_there {st : Kg79.State} {i : Nat} (h : i < st.sections.length) : st.sections[i]? = some (st.section_ i) := by
  rw [List.getElem?_eq_getElem h, sec_of (List.getElem?_eq_getElem h)]
theorem PolAt.sec {H : Hp} {y : PL} {st : Kg79.State} {i : Nat} (h : PolAt A H y st) (hi : i < st.sections.length) : ∃ a, y.secs[i]? = some a ∧ SecAt A H a (st.section_ i) := h.so.get (sec_there hi)
theorem PolOk.sec {st : Kg79.State} {i : Nat} (h : PolOk st) (hi : i < st.sections.length) : 1 ≤ (st.section_ i).area ∧ (st.section_ i).area ≤ 1000 := h.area _ (List.mem_of_getElem? (sec_there hi))
theorem sv_level {H : Hp} {a : Addr} {x : Kg79.Section} (h : SecAt A H a x) (h1 : 1 ≤ x.area) (h2 : x.area ≤ 1000) : SpV (sp_Section_level A K) [.ref a] H (.int (x.level : Nat)) := spv_of fun H1 e => ⟨a, x, rfl, h.mono e, h1, h2, rfl⟩
theorem sv_is_level {H : Hp} (n : Int) : SpV (sp_is_level A K) [.int n] H (.bl (kin n 0 10000)) := spv_of fun H1 e => ⟨n, rfl, rfl⟩
theorem sv_are_steps {H : Hp} (n r e : Int) : SpV (sp_are_steps A K) [.int n, .int r, .int e] H (.bl (kin n 0 100 && (kin r 0 500 && kin e 0 500))) := spv_of fun H1 _ => ⟨n, r, e, rfl, rfl⟩
theorem sv_sea {H : Hp} {y : PL} {st : Kg79.State} (h : PolAt A H y st) : SpV (sp_Polder_sea A K) [.ref y.p] H (.int (st.sea : Nat)) := spv_of fun H1 e => ⟨y, st, rfl, h.mono e, rfl⟩
theorem sv_is_section {H : Hp} {y : PL} {st : Kg79.State} (h : PolAt A H y st) (n : Int) : SpV (sp_Polder_is_section A K) [.ref y.p, .int n] H (.bl (Kg79.isSection st n)) := spv_of fun H1 e => ⟨y, st, n, rfl, h.mono e, rfl⟩
theorem sv_would_run {H : Hp} {y : PL} {st : Kg79.State} {a : Addr} {d : Kg79.Device} (h : PolAt A H y st) (ok : PolOk st) (hd : DevAt A H a d) (hm : d ∈ st.devices) :
    SpV (sp_Polder_would_run A K) [.ref y.p, .ref a] H (.bl (if d.runs = true then decide (d.off < (st.section_ d.from_).level) else decide (d.crest ≤ (st.section_ d.from_).level))) := spv_of fun H1 e => ⟨y, st, a, d, rfl, h.mono e, ok, hd.mono e, hm, rfl⟩
theorem sv_would_move {H : Hp} {y : PL} {st : Kg79.State} {a : Addr} {d : Kg79.Device} (h : PolAt A H y st) (ok : PolOk st) (hd : DevAt A H a d) (hm : d ∈ st.devices) :
    SpV (sp_Polder_would_move A K) [.ref y.p, .ref a] H (.int (st.flow d : Nat)) := spv_of fun H1 e => ⟨y, st, a, d, rfl, h.mono e, ok, hd.mono e, hm, rfl⟩
theorem GrAt.mono {H H' : Hp} {y : GL} {st : Kg72.State} (e : Ex H H') (h : GrAt A H y st) : GrAt A H' y st := ⟨h.at_.mono e, h.ok, h.gr⟩
theorem MpAt.mono {H H' : Hp} {y : LL} {st : Kg85.State} (e : Ex H H') (h : MpAt A H y st) : MpAt A H' y st := ⟨h.at_.mono e, h.ok, h.mp⟩
section
variable {H : Hp} {y : GL} {st : Kg72.State} {k : Nat}
theorem sv_has_ground (h : PlotAt A H y st) : SpV (sp_Plot_has_ground A K) [.ref y.q] H (.bl (decide (st.ground.squares ≠ []))) := spv_of fun H1 e => ⟨y, st, rfl, h.mono e, rfl⟩
theorem sv_is_there (h : PlotAt A H y st) (x z : Int) : SpV (sp_Plot_is_there A K) [.ref y.q, .int x, .int z] H (.bl ((decide (0 ≤ x) && decide (x < (acr st : Int))) && (decide (0 ≤ z) && decide (z < (st.ground.down : Int))))) := spv_of fun H1 e => ⟨y, st, x, z, rfl, h.mono e, rfl⟩
theorem sv_place_of (h : PlotAt A H y st) (h2 : acr st ≤ 12) (x z : Int) : SpV (sp_Plot_place_of A K) [.ref y.q, .int x, .int z] H (.int (z * (acr st : Int) + x)) := spv_of fun H1 e => ⟨y, st, x, z, rfl, h.mono e, h2, rfl⟩
theorem sv_apart (h : GrAt A H y st) (i j : Nat) : SpV (sp_Plot_apart A K) [.ref y.q, .int i, .int j] H (.int (cheb st.ground.across i j : Nat)) := spv_of fun H1 e => ⟨y, st, i, j, rfl, h.mono e, rfl⟩
theorem sv_how_far (h : GrAt A H y st) (hk : k < st.ground.squares.length) (sort : Nat) : SpV (sp_Plot_how_far A K) [.ref y.q, .int k, .int sort] H (.int (howFar st.ground k sort : Nat)) := spv_of fun H1 e => ⟨y, st, k, sort, rfl, h.mono e, hk, rfl⟩
theorem sv_inward (h : GrAt A H y st) (hk : k < st.ground.squares.length) : SpV (sp_Plot_inward A K) [.ref y.q, .int k] H (.int (st.ground.inward (pt st.ground k) : Nat)) := spv_of fun H1 e => ⟨y, st, k, rfl, h.mono e, hk, rfl⟩
theorem sv_height_of (h : GrAt A H y st) (hk : k < st.ground.squares.length) : SpV (sp_Plot_height_of A K) [.ref y.q, .int k] H (.int (st.high (pt st.ground k) : Nat)) := spv_of fun H1 e => ⟨y, st, k, rfl, h.mono e, hk, rfl⟩
theorem sv_most_floors (h : GrAt A H y st) (hk : k < st.ground.squares.length) : SpV (sp_Plot_most_floors A K) [.ref y.q, .int k] H (.int (st.most (pt st.ground k) : Nat)) := spv_of fun H1 e => ⟨y, st, k, rfl, h.mono e, hk, rfl⟩
theorem sv_near_street (h : GrAt A H y st) (hk : k < st.ground.squares.length) : SpV (sp_Plot_is_near_street A K) [.ref y.q, .int k] H (.bl (st.ground.near 2 st.rules.front (pt st.ground k))) := spv_of fun H1 e => ⟨y, st, k, rfl, h.mono e, hk, rfl⟩
theorem sv_near_others (h : GrAt A H y st) (hk : k < st.ground.squares.length) : SpV (sp_Plot_is_near_others A K) [.ref y.q, .int k] H (.bl (st.ground.near 0 st.rules.side (pt st.ground k))) := spv_of fun H1 e => ⟨y, st, k, rfl, h.mono e, hk, rfl⟩
theorem sv_is_open (h : GrAt A H y st) (hk : k < st.ground.squares.length) : SpV (sp_Plot_is_open A K) [.ref y.q, .int k] H (.bl (st.open_ (pt st.ground k))) := spv_of fun H1 e => ⟨y, st, k, rfl, h.mono e, hk, rfl⟩
theorem sv_floors_on (h : GrAt A H y st) (hk : k < st.ground.squares.length) : SpV (sp_Plot_floors_on A K) [.ref y.q, .int k] H (.int (st.built (pt st.ground k) : Nat)) := spv_of fun H1 e => ⟨y, st, k, rfl, h.mono e, hk, rfl⟩
theorem sl_all_floors (h : GrAt A H y st) : SpL (sp_Plot_all_floors A K) [.ref y.q] H (natsV ((List.range st.ground.squares.length).map fun k => st.built (pt st.ground k))) := spl_of fun H1 e => ⟨y, st, rfl, h.mono e, rfl⟩
theorem sl_built (h : GrAt A H y st) : SpL (sp_Plot_built A K) [.ref y.q] H (natsV (builtIx st)) := spl_of fun H1 e => ⟨y, st, rfl, h.mono e, rfl⟩
theorem sv_wanted (h : GrAt A H y st) : SpV (sp_Plot_wanted A K) [.ref y.q] H (.int (st.wanted : Nat)) := spv_of fun H1 e => ⟨y, st, rfl, h.mono e, rfl⟩
theorem sl_beside (h : GrAt A H y st) (hk : k < st.ground.squares.length) : SpL (sp_Plot_beside A K) [.ref y.q, .int k] H (natsV (besIx st.ground k)) := spl_of fun H1 e => ⟨y, st, k, rfl, h.mono e, hk, rfl⟩
theorem sv_near_pairs (h : GrAt A H y st) : SpV (sp_Plot_near_pairs A K) [.ref y.q] H (.int ((if st.rules.gap = 0 then 0 else Kg72.pairsNear st.rules.gap st.houses : Nat) : Int)) := spv_of fun H1 e => ⟨y, st, rfl, h.mono e, rfl⟩
theorem sl_amounts (h : GrAt A H y st) : SpL (sp_Plot_amounts A K) [.ref y.q] H (intsV (amountsI st)) := spl_of fun H1 e => ⟨y, st, rfl, h.mono e, rfl⟩
theorem sv_best (h : GrAt A H y st) : SpV (sp_Plot_best A K) [.ref y.q] H (.int (st.best : Nat)) := spv_of fun H1 e => ⟨y, st, rfl, h.mono e, rfl⟩
theorem sv_most_of {a : Addr} {ks : List Nat} (h : GrAt A H y st) (hs : SqL K H a (natsV ks)) (hl : ks.length ≤ 200) (hk : ∀ k ∈ ks, k < st.ground.squares.length) : SpV (sp_Plot_most_of A K) [.ref y.q, .ref a] H (.int (mostOf st ks : Nat)) := spv_of fun H1 e => ⟨y, st, a, ks, rfl, h.mono e, ex_l e hs, hl, hk, rfl⟩
theorem sv_are_near {a b : Addr} {l m : List Nat} (h : GrAt A H y st) (ha : SqL K H a (natsV l)) (hb : SqL K H b (natsV m)) : SpV (sp_Plot_are_near A K) [.ref y.q, .ref a, .ref b] H (.bl (l.any fun i => m.any fun j => decide ((cheb st.ground.across i j : Int) - 1 < (st.rules.gap : Int)))) :=
  spv_of fun H1 e => ⟨y, st, a, b, l, m, rfl, h.mono e, ex_l e ha, ex_l e hb, rfl⟩
end
section
variable {H : Hp} {y : LL} {st : Kg85.State} {k : Nat} {a : Addr} {x : Kg85.Soil}
theorem sv_level_of (h : MpAt A H y st) (hx : SoilAt A H a x) (hm : x ∈ st.map) : SpV (sp_Land_level_of A K) [.ref y.L, .ref a] H (.int ((st.water.section_ x.section_).level : Nat)) := spv_of fun H1 e => ⟨y, st, a, x, rfl, h.mono e, hx.mono e, hm, rfl⟩
theorem sv_depth (h : MpAt A H y st) (hx : SoilAt A H a x) (hm : x ∈ st.map) : SpV (sp_Land_depth A K) [.ref y.L, .ref a] H (.int (Kg85.depth st.water x : Nat)) := spv_of fun H1 e => ⟨y, st, a, x, rfl, h.mono e, hx.mono e, hm, rfl⟩
theorem sv_drowned (h : MpAt A H y st) : SpV (sp_Land_drowned A K) [.ref y.L] H (.int (st.drowned.length : Nat)) := spv_of fun H1 e => ⟨y, st, rfl, h.mono e, rfl⟩
theorem sl_sums (h : MpAt A H y st) : SpL (sp_Land_sums A K) [.ref y.L] H (intsV (Kg85.sumsOf st)) := spl_of fun H1 e => ⟨y, st, rfl, h.mono e, rfl⟩
theorem sv_harm (h : MpAt A H y st) (hx : st.map[k]? = some x) : SpV (sp_Land_harm A K) [.ref y.L, .int k] H (.int ((min 2000 x.peak : Nat) : Int)) := spv_of fun H1 e => ⟨y, st, k, x, rfl, h.mono e, hx, rfl⟩
end
end

local macro_rules | `(tactic| fail "has") => `(tactic| (with_reducible (apply hasid; first
  | exact has_Section_area (by assumption) (by assumption)
  | exact has_Section_water (by assumption) (by assumption)
  | exact has_Section_alarm (by assumption) (by assumption)
  | exact has_Section_alarms (by assumption) (by assumption)
  | exact has_Device_kind (by assumption) (by assumption)
  | exact has_Device_section (by assumption) (by assumption)
  | exact has_Device_target (by assumption) (by assumption)
  | exact has_Device_mark (by assumption) (by assumption)
  | exact has_Device_amount (by assumption) (by assumption)
  | exact has_Device_stop (by assumption) (by assumption)
  | exact has_Device_is_running (by assumption) (by assumption)
  | exact has_Device_moved (by assumption) (by assumption)
  | exact has_Device_turns (by assumption) (by assumption)
  | exact has_Polder_tide (by assumption) (by assumption)
  | exact has_Polder_time (by assumption) (by assumption)
  | exact has_Polder_sections (by assumption) (by assumption)
  | exact has_Polder_devices (by assumption) (by assumption)
  | exact has_Polder_rained (by assumption) (by assumption)
  | exact has_Polder_dried (by assumption) (by assumption)
  | exact has_Polder_let_in (by assumption) (by assumption)
  | exact has_Polder_let_out (by assumption) (by assumption)
  | exact has_Rules_front (by assumption) (by assumption)
  | exact has_Rules_side (by assumption) (by assumption)
  | exact has_Rules_base (by assumption) (by assumption)
  | exact has_Rules_rise (by assumption) (by assumption)
  | exact has_Rules_top (by assumption) (by assumption)
  | exact has_Rules_floor (by assumption) (by assumption)
  | exact has_Rules_covered (by assumption) (by assumption)
  | exact has_Rules_floors (by assumption) (by assumption)
  | exact has_Rules_green (by assumption) (by assumption)
  | exact has_Rules_car (by assumption) (by assumption)
  | exact has_Rules_gap (by assumption) (by assumption)
  | exact has_Block_x (by assumption) (by assumption)
  | exact has_Block_y (by assumption) (by assumption)
  | exact has_Block_x2 (by assumption) (by assumption)
  | exact has_Block_y2 (by assumption) (by assumption)
  | exact has_Block_floors (by assumption) (by assumption)
  | exact has_Plot_across (by assumption) (by assumption)
  | exact has_Plot_squares (by assumption) (by assumption)
  | exact has_Plot_down (by assumption) (by assumption)
  | exact has_Plot_area (by assumption) (by assumption)
  | exact has_Plot_rules (by assumption) (by assumption)
  | exact has_Plot_blocks (by assumption) (by assumption)
  | exact has_Plot_paved (by assumption) (by assumption)
  | exact has_Plot_spaces (by assumption) (by assumption)
  | exact has_Square_section (by assumption) (by assumption)
  | exact has_Square_height (by assumption) (by assumption)
  | exact has_Square_peak (by assumption) (by assumption)
  | exact has_Square_wet (by assumption) (by assumption)
  | exact has_Land_polder (by assumption) (by assumption)
  | exact has_Land_plot (by assumption) (by assumption)
  | exact has_Land_chart (by assumption) (by assumption)
  | exact has_Land_raised (by assumption) (by assumption))))
local macro_rules | `(tactic| fail "hm") => `(tactic| (with_reducible (apply hmid; first
  | exact hm_Section_level (by assumption)
  | exact hm_Polder_sea (by assumption)
  | exact hm_Polder_is_section (by assumption)
  | exact hm_Polder_add_section (by assumption)
  | exact hm_Polder_add_device (by assumption)
  | exact hm_Polder_add_weir (by assumption)
  | exact hm_Polder_add_pump (by assumption)
  | exact hm_Polder_add_sluice (by assumption)
  | exact hm_Polder_add_inlet (by assumption)
  | exact hm_Polder_set_device (by assumption)
  | exact hm_Polder_would_run (by assumption)
  | exact hm_Polder_would_move (by assumption)
  | exact hm_Polder_take_turn (by assumption)
  | exact hm_Polder_step (by assumption)
  | exact hm_Polder_run (by assumption)
  | exact hm_Polder_tell_levels (by assumption)
  | exact hm_Polder_tell_device (by assumption)
  | exact hm_Polder_tell_sums (by assumption)
  | exact hm_Polder_answer (by assumption)
  | exact hm_Plot_has_ground (by assumption)
  | exact hm_Plot_is_there (by assumption)
  | exact hm_Plot_place_of (by assumption)
  | exact hm_Plot_apart (by assumption)
  | exact hm_Plot_how_far (by assumption)
  | exact hm_Plot_inward (by assumption)
  | exact hm_Plot_height_of (by assumption)
  | exact hm_Plot_most_floors (by assumption)
  | exact hm_Plot_is_near_street (by assumption)
  | exact hm_Plot_is_near_others (by assumption)
  | exact hm_Plot_is_open (by assumption)
  | exact hm_Plot_floors_on (by assumption)
  | exact hm_Plot_all_floors (by assumption)
  | exact hm_Plot_built (by assumption)
  | exact hm_Plot_wanted (by assumption)
  | exact hm_Plot_houses (by assumption)
  | exact hm_Plot_beside (by assumption)
  | exact hm_Plot_are_near (by assumption)
  | exact hm_Plot_near_pairs (by assumption)
  | exact hm_Plot_amounts (by assumption)
  | exact hm_Plot_broken (by assumption)
  | exact hm_Plot_most_of (by assumption)
  | exact hm_Plot_best (by assumption)
  | exact hm_Plot_set_rules (by assumption)
  | exact hm_Plot_add_block (by assumption)
  | exact hm_Plot_drop (by assumption)
  | exact hm_Plot_pave (by assumption)
  | exact hm_Plot_tell_check (by assumption)
  | exact hm_Plot_tell_square (by assumption)
  | exact hm_Plot_tell_houses (by assumption)
  | exact hm_Plot_tell_sums (by assumption)
  | exact hm_Plot_answer (by assumption)
  | exact hm_Land_water_call (by assumption)
  | exact hm_Land_plot_call (by assumption)
  | exact hm_Land_set_map (by assumption)
  | exact hm_Land_level_of (by assumption)
  | exact hm_Land_depth (by assumption)
  | exact hm_Land_drowned (by assumption)
  | exact hm_Land_sums (by assumption)
  | exact hm_Land_storm (by assumption)
  | exact hm_Land_tell_square (by assumption)
  | exact hm_Land_tell_wet (by assumption)
  | exact hm_Land_harm (by assumption)
  | exact hm_Land_tell_harm (by assumption)
  | exact hm_Land_tell_safe (by assumption)
  | exact hm_Land_lift (by assumption)
  | exact hm_Land_tell_check (by assumption))))
local macro_rules | `(tactic| fail "sq") => `(tactic| first | (with_reducible apply sqid; with_reducible first | assumption | (apply sq_of; assumption)) | (with_reducible apply sqtid; with_reducible first | assumption | (apply st_of; assumption)))
local macro_rules | `(tactic| fail "sp") => `(tactic| first | (with_reducible apply spvid; first | exact sv_level (by assumption) (by assumption) (by assumption) | exact sv_is_level _ | exact sv_are_steps _ _ _ | exact sv_sea (by assumption) | exact sv_is_section (by assumption) _ | exact sv_would_run (by assumption) (by assumption) (by assumption) (by assumption) | exact sv_would_move (by assumption) (by assumption) (by assumption) (by assumption) | exact sv_has_ground (by assumption) | exact sv_is_there (by assumption) _ _ | exact sv_place_of (by assumption) (by assumption) _ _ | exact sv_apart (by assumption) _ _ | exact sv_how_far (by assumption) (by assumption) _ | exact sv_inward (by assumption) (by assumption) | exact sv_height_of (by assumption) (by assumption) | exact sv_most_floors (by assumption) (by assumption) | exact sv_near_street (by assumption) (by assumption) | exact sv_near_others (by assumption) (by assumption) | exact sv_is_open (by assumption) (by assumption) | exact sv_floors_on (by assumption) (by assumption) | exact sv_wanted (by assumption) | exact sv_near_pairs (by assumption) | exact sv_best (by assumption) | exact sv_level_of (by assumption) (by assumption) (by assumption) | exact sv_depth (by assumption) (by assumption) (by assumption) | exact sv_drowned (by assumption) | exact sv_harm (by assumption) (by assumption)) | (with_reducible apply splid; first | exact sl_all_floors (by assumption) | exact sl_built (by assumption) | exact sl_beside (by assumption) (by assumption) | exact sl_amounts (by assumption) | exact sl_sums (by assumption)))
local macro_rules | `(tactic| fail "side") => `(tactic| first | exact atI_nat (refs_at (by assumption)) | exact atI_nat (nats_at (by assumption)) | exact atI_nat (ints_at (by assumption)) | exact cmulR (by omega) (by omega) | exact cmulL (by omega) (by omega) | exact cdivK (by omega) (by omega) | exact ltid (by omega) | exact lenid (by simp))
local macro_rules | `(tactic| fail "ev") => `(tactic| (first
  | with_reducible exact ev_c
  | ((with_reducible refine' ev_var ?h0); (case h0 => rfl))
  | fail "has"
  | fail "hm"
  | with_reducible exact ea_nil
  | with_reducible exact eo_none
  | ((with_reducible refine' ev_fld ?_ ?_) <;> fail "ev")
  | ((with_reducible refine' ev_add ?_ ?_) <;> fail "ev")
  | ((with_reducible refine' ev_sub ?_ ?_) <;> fail "ev")
  | ((with_reducible refine' ev_lt ?_ ?_) <;> fail "ev")
  | ((with_reducible refine' ev_le ?_ ?_) <;> fail "ev")
  | ((with_reducible refine' ev_gt ?_ ?_) <;> fail "ev")
  | ((with_reducible refine' ev_ge ?_ ?_) <;> fail "ev")
  | ((with_reducible refine' ev_eqI ?_ ?_) <;> fail "ev")
  | ((with_reducible refine' ev_neI ?_ ?_) <;> fail "ev")
  | ((with_reducible refine' ev_mul ?_ ?_ ?_) <;> fail "ev")
  | ((with_reducible refine' ev_div ?_ ?_ ?_) <;> fail "ev")
  | ((with_reducible refine' ev_mod ?_ ?_ ?_) <;> fail "ev")
  | ((with_reducible refine' ev_isN ?_) <;> fail "ev")
  | ((with_reducible refine' ev_notN ?_) <;> fail "ev")
  | ((with_reducible refine' ev_neg ?_) <;> fail "ev")
  | ((with_reducible refine' ev_min2 ?_ ?_) <;> fail "ev")
  | ((with_reducible refine' ev_max2 ?_ ?_) <;> fail "ev")
  | ((with_reducible refine' ev_min3 ?_ ?_ ?_) <;> fail "ev")
  | ((with_reducible refine' ev_min4 ?_ ?_ ?_ ?_) <;> fail "ev")
  | ((with_reducible refine' ev_abs ?_) <;> fail "ev")
  | ((with_reducible refine' ev_chain ?_ ?_ ?_) <;> fail "ev")
  | ((with_reducible refine' ev_notV ?_) <;> fail "ev")
  | ((with_reducible refine' ev_andV ?_ (fun _ => ?_)) <;> fail "ev")
  | ((with_reducible refine' ev_orV ?_ (fun _ => ?_)) <;> fail "ev")
  | ((with_reducible refine' ev_if2 ?_ (fun _ => ?_) (fun _ => ?_)) <;> fail "ev")
  | ((with_reducible refine' et_test ?_) <;> fail "ev")
  | ((with_reducible refine' et_B ?_) <;> fail "ev")
  | ((with_reducible refine' et_not ?_) <;> fail "ev")
  | ((with_reducible refine' et_and ?_ (fun _ => ?_)) <;> fail "ev")
  | ((with_reducible refine' et_or ?_ (fun _ => ?_)) <;> fail "ev")
  | ((with_reducible refine' ea_cons ?_ ?_) <;> fail "ev")
  | ((with_reducible refine' eo_some ?_) <;> fail "ev")
  | ((with_reducible refine' ev_len ?_ ?_) <;> fail "ev")
  | ((with_reducible refine' ev_ixL ?_ ?_ ?_ ?_) <;> fail "ev")
  | ((with_reducible refine' ev_ixT ?_ ?_ ?_ ?_) <;> fail "ev")
  | ((with_reducible refine' ev_meth ?_ ?_ ?_ ?_) <;> fail "ev")
  | ((with_reducible refine' el_meth ?_ ?_ ?_ ?_) <;> fail "ev")
  | ((with_reducible refine' ev_callf ?_ ?_) <;> fail "ev")
  | ((with_reducible refine' el_callf ?_ ?_) <;> fail "ev")
  | ((with_reducible refine' el_lst ?_ ?_) <;> fail "ev")
  | ((with_reducible refine' eu_tup ?_ ?_) <;> fail "ev")
  | fail "sq"
  | fail "side"
  | fail "sp"
  | skip))


section
variable {A : Adr} {K : PySem.W.Frag} {mg : Str → Option Value}
theorem pure_is_level (T : Txt K mg A) (vs : List V) (H : Hp) (Q : VK) (E : XK) (h : sp_is_level A K vs H Q E) : t_is_level A K (DE Q) (start N_is_level vs) H := by
  obtain ⟨v, ⟨n, rfl, rfl⟩, k⟩ := h
  refine' rd_at (rd_retE ?h ?e k)
  case h => fail "ev"
  case e => rfl
theorem pure_are_steps (T : Txt K mg A) (vs : List V) (H : Hp) (Q : VK) (E : XK) (h : sp_are_steps A K vs H Q E) : t_are_steps A K (DE Q) (start N_are_steps vs) H := by
  obtain ⟨v, ⟨n, r, e, rfl, rfl⟩, k⟩ := h
  refine' rd_at (rd_retE ?h ?e k)
  case h => fail "ev"
  case e => rfl
theorem pure_Section_level (T : Txt K mg A) (vs : List V) (H : Hp) (Q : VK) (E : XK) (h : sp_Section_level A K vs H Q E) : t_Section_level A K (DE Q) (start N_Section_level vs) H := by
  obtain ⟨v, ⟨a, x, rfl, hx, h1, h2, rfl⟩, k⟩ := h
  refine' rd_at (rd_retE ?h ?e k)
  case h =>
    fail "ev"
  case e =>
    unfold Kg79.Section.level
    rw [if_neg (by omega)]
    rfl
theorem pure_Polder_sea (T : Txt K mg A) (vs : List V) (H : Hp) (Q : VK) (E : XK) (h : sp_Polder_sea A K vs H Q E) : t_Polder_sea A K (DE Q) (start N_Polder_sea vs) H := by
  obtain ⟨v, ⟨y, st, rfl, hp, rfl⟩, k⟩ := h
  have hi := hp.ins
  have ht : SqL K H y.t (natsV st.tide) := sq_of hp.ti
  refine rd_at (rd_ret (ev_if (b := decide (st.tide = [])) ?_ ?_ ?_) k)
  · refine' et_eq ?h ?e
    case h => fail "ev"
    case e =>
      rw [len_nats]
      cases st.tide <;> simp
      omega
  · intro h0
    unfold Kg79.State.sea
    rw [if_pos (of_decide_eq_true h0)]
    exact ev_c
  · intro h0
    have h1 : st.tide ≠ [] := of_decide_eq_false h0
    have hl : 0 < st.tide.length := List.length_pos_iff.mpr h1
    have hm : st.time % st.tide.length < st.tide.length := Nat.mod_lt _ hl
    have hx : st.tide[st.time % st.tide.length]? = some (st.tide.getD (st.time % st.tide.length) 0) := by
      rw [List.getD_eq_getElem?_getD, List.getElem?_eq_getElem hm]; rfl
    unfold Kg79.State.sea
    rw [if_neg h1]
    refine' ev_eq ?h ?e
    case h =>
      refine' ev_ixL (v := .int ((st.tide.getD (st.time % st.tide.length) 0 : Nat) : Int)) (p := y.t) (i := ((st.time % st.tide.length : Nat) : Int)) ?_ ?_ ht (atI_nat (nats_at hx))
      · fail "ev"
      · refine' ev_eq ?h2 ?e2
        case h2 =>
          fail "ev"
          rw [len_nats]
          omega
        case e2 => rw [len_nats]; rfl
    case e => rfl
theorem pure_Polder_is_section (T : Txt K mg A) (vs : List V) (H : Hp) (Q : VK) (E : XK) (h : sp_Polder_is_section A K vs H Q E) : t_Polder_is_section A K (DE Q) (start N_Polder_is_section vs) H := by
  obtain ⟨v, ⟨y, st, n, rfl, hp, rfl⟩, k⟩ := h
  have hi := hp.ins
  have ht : SqL K H y.s (refsV y.secs) := sq_of hp.sl
  refine' rd_at (rd_retE ?h ?e k)
  case h => fail "ev"
  case e =>
    rw [len_refs, hp.so.len]
    rfl
theorem pure_Polder_would_run (T : Txt K mg A) (vs : List V) (H : Hp) (Q : VK) (E : XK) (h : sp_Polder_would_run A K vs H Q E) : t_Polder_would_run A K (DE Q) (start N_Polder_would_run vs) H := by
  obtain ⟨v, ⟨y, st, a, d, rfl, hp, ok, hd, hm, rfl⟩, k⟩ := h
  have hi := hp.ins
  have hs : SqL K H y.s (refsV y.secs) := sq_of hp.sl
  obtain ⟨d1, d2, d3, d4, d5, d6, d7⟩ := ok.dev d hm
  obtain ⟨b, hb, hsec⟩ := hp.sec d2
  obtain ⟨s1, s2⟩ := ok.sec d2
  refine rd_at (rd_asg (v := .int ((st.section_ d.from_).level : Nat)) ?_ ?_)
  · refine' ev_meth (ev_ixL ?_ ?_ hs (atI_nat (refs_at hb))) (hm_Section_level hsec) ea_nil (sv_level hsec s1 s2)
    · fail "ev"
    · fail "ev"
  · refine rd_ret (ev_if (b := d.runs) ?_ ?_ ?_) k
    · fail "ev"
    · intro hr
      rw [if_pos hr]
      refine' ev_eq ?h ?e
      case h => fail "ev"
      case e => simp
    · intro hr
      rw [if_neg (by rw [hr]; decide)]
      refine' ev_eq ?h ?e
      case h => fail "ev"
      case e => simp
end

/-! ### plain: what a device moves -/
theorem lev_eq {x : Kg79.Section} (h : 1 ≤ x.area) : x.level = x.water / x.area := by
  unfold Kg79.Section.level
  rw [if_neg (by omega)]
theorem lev_le {x : Kg79.Section} (h : 1 ≤ x.area) {u : Nat} (hl : u ≤ x.level) : u * x.area ≤ x.water := by
  rw [lev_eq h] at hl
  exact (Nat.le_div_iff_mul_le (by omega)).mp hl
theorem lev_lt {x : Kg79.Section} (h : 1 ≤ x.area) {u : Nat} (hl : x.level < u) : x.water < u * x.area := by
  rw [lev_eq h] at hl
  exact (Nat.div_lt_iff_lt_mul (by omega)).mp hl
theorem even_nn {a b : Kg79.Section} (ha : 1 ≤ a.area) (hb : 1 ≤ b.area) (h : b.level < a.level) : b.water * a.area ≤ a.water * b.area := by
  have h1 := lev_le ha (Nat.succ_le_of_lt h)
  have h2 := lev_lt hb (Nat.lt_succ_self b.level)
  have h3 : b.water * a.area ≤ (b.level + 1) * b.area * a.area := Nat.mul_le_mul_right _ (Nat.le_of_lt h2)
  have h4 : (b.level + 1) * a.area * b.area ≤ a.water * b.area := Nat.mul_le_mul_right _ h1
  have h5 : (b.level + 1) * b.area * a.area = (b.level + 1) * a.area * b.area := by
    rw [Nat.mul_assoc, Nat.mul_comm b.area, ← Nat.mul_assoc]
  omega
section
variable {A : Adr} {K : PySem.W.Frag} {mg : Str → Option Value}
theorem pure_Polder_would_move (T : Txt K mg A) (vs : List V) (H : Hp) (Q : VK) (E : XK) (h : sp_Polder_would_move A K vs H Q E) : t_Polder_would_move A K (DE Q) (start N_Polder_would_move vs) H := by
  obtain ⟨v, ⟨y, st, a, d, rfl, hp, ok, hd, hm, rfl⟩, k⟩ := h
  have hi := hp.ins
  have hs : SqL K H y.s (refsV y.secs) := sq_of hp.sl
  obtain ⟨d1, d2, d3, d4, d5, d6, d7⟩ := ok.dev d hm
  obtain ⟨b, hb, hsec⟩ := hp.sec d2
  obtain ⟨s1, s2⟩ := ok.sec d2
  obtain ⟨b2, hb2, hsec2⟩ := hp.sec d3
  obtain ⟨s3, s4⟩ := ok.sec d3
  generalize hA : st.section_ d.from_ = sa at *
  generalize hB : st.section_ d.to = sb at *
  have fl : st.flow d = (if d.kind = 0 then (if sa.level ≤ max d.crest sb.level then 0 else min (d.cap * (sa.level - max d.crest sb.level)) (min (sa.water - d.crest * sa.area) (Kg79.even sa sb)))
      else if d.kind = 1 then (if (if d.runs = true then decide (d.off < sa.level) else decide (d.crest ≤ sa.level)) = true then min d.cap sa.water else 0)
      else if d.kind = 2 then (if sa.level ≤ max d.crest st.sea then 0 else min (d.cap * (sa.level - max d.crest st.sea)) (sa.water - max d.crest st.sea * sa.area))
      else if sa.level < d.crest then min d.cap (d.crest * sa.area - sa.water) else 0) := by
    unfold Kg79.State.flow
    rw [hA, hB]
  rw [fl] at k
  refine rd_at (rd_asg (v := .ref b) (by fail "ev") ?_)
  refine rd_asg (v := .int (sa.level : Nat)) (by fail "ev") ?_
  refine rd_when (b := decide ((d.kind : Int) = 1)) (by fail "ev") ?_ ?_
  · intro c
    have c1 : d.kind = 1 := by have := of_decide_eq_true c; omega
    rw [if_neg (by omega), if_pos c1] at k
    refine rd_ret (ev_if (b := (if d.runs = true then decide (d.off < sa.level) else decide (d.crest ≤ sa.level))) ?_ ?_ ?_) k
    · have hw := sv_would_run (K := K) hp ok hd hm
      rw [hA] at hw
      refine et_B (ev_meth (by fail "ev") (by fail "ev") (by fail "ev") hw)
    · intro h1
      rw [if_pos h1]
      refine' ev_eq ?h ?e
      case h => fail "ev"
      case e => congr 1; omega
    · intro h1
      rw [if_neg (by rw [h1]; decide)]
      exact ev_c
  · intro c
    have c1 : ¬ d.kind = 1 := by have := of_decide_eq_false c; omega
    refine rd_when (b := decide ((d.kind : Int) = 3)) (by fail "ev") ?_ ?_
    · intro c
      have c3 : d.kind = 3 := by have := of_decide_eq_true c; omega
      rw [if_neg (by omega), if_neg (by omega), if_neg (by omega)] at k
      refine rd_ret (ev_if (b := decide ((sa.level : Int) < (d.crest : Int))) (by fail "ev") ?_ ?_) k
      · intro h1
        have h2 : sa.level < d.crest := by have := of_decide_eq_true h1; omega
        have h3 := lev_lt s1 h2
        rw [if_pos h2]
        refine' ev_eq ?h ?e
        case h => fail "ev"
        case e =>
          congr 1
          rw [← Int.natCast_mul]
          omega
      · intro h1
        have h2 : ¬ sa.level < d.crest := by have := of_decide_eq_false h1; omega
        rw [if_neg h2]
        exact ev_c
    · intro c
      have c3 : ¬ d.kind = 3 := by have := of_decide_eq_false c; omega
      refine rd_when (b := decide ((d.kind : Int) = 2)) (by fail "ev") ?_ ?_
      · intro c
        have c2 : d.kind = 2 := by have := of_decide_eq_true c; omega
        rw [if_neg (by omega), if_neg (by omega), if_pos c2] at k
        refine rd_asg (v := .int ((max d.crest st.sea : Nat) : Int)) ?_ ?_
        · refine' ev_eq ?h ?e
          case h => fail "ev"
          case e => congr 1; omega
        generalize max d.crest st.sea = u at *
        refine rd_when (b := decide ((sa.level : Int) ≤ (u : Int))) (by fail "ev") ?_ ?_
        · intro h1
          have h2 : sa.level ≤ u := by have := of_decide_eq_true h1; omega
          rw [if_pos h2] at k
          exact rd_ret ev_c k
        · intro h1
          have h2 : ¬ sa.level ≤ u := by have := of_decide_eq_false h1; omega
          rw [if_neg h2] at k
          refine rd_ret ?_ k
          have h3 := lev_le s1 (show u ≤ sa.level by omega)
          refine' ev_eq ?h ?e
          case h => fail "ev"
          case e =>
            congr 1
            have e1 : (sa.level : Int) - (u : Int) = ((sa.level - u : Nat) : Int) := by omega
            rw [e1, ← Int.natCast_mul, ← Int.natCast_mul]
            omega
      · intro c
        have c2 : ¬ d.kind = 2 := by have := of_decide_eq_false c; omega
        have c0 : d.kind = 0 := by omega
        rw [if_pos c0] at k
        have htg : tgt d = (d.to : Int) := by unfold tgt; rw [if_pos c0]
        refine rd_asg (v := .ref b2) ?_ ?_
        · refine ev_ixL (p := y.s) (i := (d.to : Int)) (by fail "ev") ?_ hs (atI_nat (refs_at hb2))
          rw [← htg]
          fail "ev"
        refine rd_asg (v := .int ((max d.crest sb.level : Nat) : Int)) ?_ ?_
        · refine' ev_eq ?h ?e
          case h => fail "ev"
          case e => congr 1; omega
        generalize hu : max d.crest sb.level = u at *
        have hu1 : sb.level ≤ u := by omega
        have hu2 : d.crest ≤ u := by omega
        refine rd_when (b := decide ((sa.level : Int) ≤ (u : Int))) (by fail "ev") ?_ ?_
        · intro h1
          have h2 : sa.level ≤ u := by have := of_decide_eq_true h1; omega
          rw [if_pos h2] at k
          exact rd_ret ev_c k
        · intro h1
          have h2 : ¬ sa.level ≤ u := by have := of_decide_eq_false h1; omega
          rw [if_neg h2] at k
          have h4 := even_nn s1 s3 (show sb.level < sa.level by omega)
          refine rd_asg (v := .int (Kg79.even sa sb : Nat)) ?_ ?_
          · refine' ev_eq ?h ?e
            case h => fail "ev"
            case e =>
              congr 1
              unfold Kg79.even
              rw [← Int.natCast_mul, ← Int.natCast_mul, Int.natCast_ediv, Int.natCast_add, Int.natCast_sub h4]
          refine rd_ret ?_ k
          have h3 := lev_le s1 (show d.crest ≤ sa.level by omega)
          refine' ev_eq ?h ?e
          case h => fail "ev"
          case e =>
            congr 1
            have e1 : (sa.level : Int) - (u : Int) = ((sa.level - u : Nat) : Int) := by omega
            rw [e1, ← Int.natCast_mul, ← Int.natCast_mul]
            omega
end

/-! ### statements that change what stood -/
theorem l1000 {n : Nat} (h : Nat.ble (n + 1) 1000 = true) : n < 1000 := Nat.le_of_ble_eq_true h
section
variable {A : Adr} {K : PySem.W.Frag} {mg : Str → Option Value} {σ : L2.St} {H H1 H' : Hp} {ta tb tv te : TE} {D : Ends} {t u : TS} {a C : Addr} {f : Str} {fs : List (Str × V)} {p q : Int} {v x : V}
theorem rd_seq (h : Rd t { D with nx := u D } σ H) : Rd (tSeq t u) D σ H := h
theorem rd_augA (ha : Ev ta σ H (.ref a)) (hi : InsAt C H a fs) (c : Cls K C) (n : NoAttr K C f) (l : fs.lookup f = some (.int p)) (hl : fs.length < 1000) (hv : Ev tv σ H (.int q))
    (k : ∀ H1 dx, Ex H H1 → H1 a = some (.ins C dx fs) → D.nx σ (upd H1 a (.ins C dx (putF f (.int (p + q)) fs)))) : Rd (sFldAug K ta tv rAdd f) D σ H := fun H1 e => ha H1 e _ fun H2 e2 => by
  obtain ⟨dx, ho⟩ := hi
  refine ⟨a, C, dx, fs, .int p, rfl, (e.trans e2) _ _ ho, c, n, l, ?_⟩
  refine hv H2 (e.trans e2) _ fun H3 e3 => ?_
  exact ⟨p, q, rfl, rfl, dx, fs, ((e.trans e2).trans e3) _ _ ho, hl, k H3 dx ((e.trans e2).trans e3) (((e.trans e2).trans e3) _ _ ho)⟩
theorem rd_augB (ha : Ev ta σ H (.ref a)) (hi : InsAt C H a fs) (c : Cls K C) (n : NoAttr K C f) (l : fs.lookup f = some (.int p)) (hl : fs.length < 1000) (hv : Ev tv σ H (.int q))
    (k : ∀ H1 dx, Ex H H1 → H1 a = some (.ins C dx fs) → D.nx σ (upd H1 a (.ins C dx (putF f (.int (p - q)) fs)))) : Rd (sFldAug K ta tv rSub f) D σ H := fun H1 e => ha H1 e _ fun H2 e2 => by
  obtain ⟨dx, ho⟩ := hi
  refine ⟨a, C, dx, fs, .int p, rfl, (e.trans e2) _ _ ho, c, n, l, ?_⟩
  refine hv H2 (e.trans e2) _ fun H3 e3 => ?_
  exact ⟨p, q, rfl, rfl, dx, fs, ((e.trans e2).trans e3) _ _ ho, hl, k H3 dx ((e.trans e2).trans e3) (((e.trans e2).trans e3) _ _ ho)⟩
theorem rd_fldS (ha : Ev ta σ H (.ref a)) (hi : InsAt C H a fs) (c : Cls K C) (n : NoAttr K C f) (hl : fs.length < 1000) (hv : Ev tv σ H v)
    (k : ∀ H1 dx, Ex H H1 → H1 a = some (.ins C dx fs) → D.nx σ (upd H1 a (.ins C dx (putF f v fs)))) : Rd (sFld K ta tv f) D σ H := fun H1 e => hv H1 e _ fun H2 e2 => ha H2 (e.trans e2) _ fun H3 e3 => by
  obtain ⟨dx, ho⟩ := hi
  exact ⟨a, C, dx, fs, rfl, ((e.trans e2).trans e3) _ _ ho, c, n, hl, k H3 dx ((e.trans e2).trans e3) (((e.trans e2).trans e3) _ _ ho)⟩
/-- a call that changes what stood, its value dropped -/
theorem rd_dropM {m : Str} {sp : Sp} {ts : TA} {vs : List V} (ha : Ev ta σ H (.ref a)) (hm : HasM H a C m) (hv : EvA ts σ H vs) (hs : ∀ H1, Ex H H1 → sp (.ref a :: vs) H1 (fun _ H2 => D.nx σ H2) E0) : Rd (tDrop (tMeth C m sp [] E0 ta ts)) D σ H := fun H1 e => ha H1 e _ fun H2 e2 => by
  obtain ⟨dx, fs, ho, l⟩ := hm.ex
  refine ⟨a, dx, fs, rfl, (e.trans e2) _ _ ho, l, ?_⟩
  refine hv H2 (e.trans e2) _ fun H3 e3 => ?_
  rw [List.append_nil]
  exact hs H3 ((e.trans e2).trans e3)
theorem rd_retM {m : Str} {sp : Sp} {ts : TA} {vs : List V} (ha : Ev ta σ H (.ref a)) (hm : HasM H a C m) (hv : EvA ts σ H vs) (hs : ∀ H1, Ex H H1 → sp (.ref a :: vs) H1 D.rt E0) : Rd (tRet (tMeth C m sp [] E0 ta ts)) D σ H := fun H1 e => ha H1 e _ fun H2 e2 => by
  obtain ⟨dx, fs, ho, l⟩ := hm.ex
  refine ⟨a, dx, fs, rfl, (e.trans e2) _ _ ho, l, ?_⟩
  refine hv H2 (e.trans e2) _ fun H3 e3 => ?_
  rw [List.append_nil]
  exact hs H3 ((e.trans e2).trans e3)
theorem rd_forL {l : Addr} {xs : List V} {tl : TE} {j : Nat} (h : Ev tl σ H (.ref l)) (hx : SqL K H l xs) (Pv : Nat → L2.St → Hp → Prop) (h0 : ∀ H1, Ex H H1 → Pv 0 σ H1) (hl : ∀ i σ' H', i ≤ xs.length → Pv i σ' H' → SqL K H' l xs)
    (hs : ∀ i x σ' H', xs[i]? = some x → Pv i σ' H' → t { D with nx := Pv (i + 1), ct := Pv (i + 1), bk := D.nx } (σ'.set j (some x)) H') (hd : ∀ σ' H', Pv xs.length σ' H' → D.nx σ' H') : Rd (tFor (iList K tl) (gName j) t) D σ H :=
  fun H1 e => s_forLn (D := D) (h.mono e) (ex_l e hx) Pv (fun H2 e2 => h0 H2 (e.trans e2)) hl hs hd
theorem rd_forR {tn : TE} {j : Nat} {n : Int} (h : Ev tn σ H (.int n)) (hn : 0 ≤ n ∧ n ≤ 100000) (Pv : Nat → L2.St → Hp → Prop) (h0 : ∀ H1, Ex H H1 → Pv 0 σ H1)
    (hs : ∀ (i : Nat) σ' H', (i : Int) < n → Pv i σ' H' → t { D with nx := Pv (i + 1), ct := Pv (i + 1), bk := D.nx } (σ'.set j (some (.int (i : Int)))) H') (hd : ∀ σ' H', Pv n.toNat σ' H' → D.nx σ' H') : Rd (tFor (iRng1 (tCons tn tNil)) (gName j) t) D σ H :=
  fun H1 e => s_forR1 (D := D) (ea_cons (h.mono e) ea_nil) hn Pv (fun H2 e2 => h0 H2 (e.trans e2)) hs hd
end

/-! ### the polder's parts change -/
section
variable {A : Adr} {K : PySem.W.Frag} {mg : Str → Option Value} {H H1 H' : Hp} {y : PL} {st : Kg79.State} {i : Nat} {b dx : Addr}
theorem nf1 : ("tide" : Str) ∉ (["area"] : List Str) := by decide +kernel
theorem nf2 : ("kind" : Str) ∉ (["area"] : List Str) := by decide +kernel
theorem nf3 : ("tide" : Str) ∉ (["kind"] : List Str) := by decide +kernel
theorem nf4 : ("area" : Str) ∉ (["kind"] : List Str) := by decide +kernel
theorem nf5 : ("area" : Str) ∉ (["tide"] : List Str) := by decide +kernel
theorem nf6 : ("kind" : Str) ∉ (["tide"] : List Str) := by decide +kernel
theorem sub_area : ∀ f ∈ (["area"] : List Str), f ∈ polTags := fun f h => by rw [List.mem_singleton.mp h]; decide +kernel
theorem sub_kind : ∀ f ∈ (["kind"] : List Str), f ∈ polTags := fun f h => by rw [List.mem_singleton.mp h]; decide +kernel
theorem sub_tide : ∀ f ∈ (["tide"] : List Str), f ∈ polTags := fun f h => by rw [List.mem_singleton.mp h]; decide +kernel
theorem nomem {a : Addr} : a ∉ ([] : List Addr) := List.not_mem_nil
theorem Fr.pol {ts : List Str} (h : ∀ f ∈ ts, f ∈ polTags) (e : Fr ts [] H H') : Fr polTags [] H H' := e.mono h fun _ q => q
theorem PolAt.setSec {x x' : Kg79.Section} (h : PolAt A H y st) (e : Ex H H1) (hb : y.secs[i]? = some b) (hx : st.sections[i]? = some x) : PolAt A (upd H1 b (.ins A.c_Section dx (secF x'))) y { st with sections := st.sections.set i x' } ∧ Fr polTags [] H (upd H1 b (.ins A.c_Section dx (secF x'))) := by
  obtain ⟨d0, q0⟩ := h.so.at_ i b x hb hx
  have F : Fr ["area"] [] H (upd H1 b (.ins A.c_Section dx (secF x'))) := (Fr.of_ex e).ins (f := "area") q0 (List.mem_singleton.mpr rfl)
  exact ⟨⟨h.ins.fr nf1 F, F _ _ h.ti nomem, F _ _ h.sl nomem, F _ _ h.dl nomem, h.so.set hb ⟨dx, upd_same⟩ (fun c o hc ne => by rw [upd_ne ne]; exact e _ _ hc), h.dv.fr _ _ (fun _ => rfl) nf2 F⟩, F.pol sub_area⟩
theorem PolAt.setDev {x x' : Kg79.Device} (h : PolAt A H y st) (e : Ex H H1) (hb : y.devs[i]? = some b) (hx : st.devices[i]? = some x) : PolAt A (upd H1 b (.ins A.c_Device dx (devF x'))) y { st with devices := st.devices.set i x' } ∧ Fr polTags [] H (upd H1 b (.ins A.c_Device dx (devF x'))) := by
  obtain ⟨d0, q0⟩ := h.dv.at_ i b x hb hx
  have F : Fr ["kind"] [] H (upd H1 b (.ins A.c_Device dx (devF x'))) := (Fr.of_ex e).ins (f := "kind") q0 (List.mem_singleton.mpr rfl)
  exact ⟨⟨h.ins.fr nf3 F, F _ _ h.ti nomem, F _ _ h.sl nomem, F _ _ h.dl nomem, h.so.fr _ _ (fun _ => rfl) nf4 F, h.dv.set hb ⟨dx, upd_same⟩ (fun c o hc ne => by rw [upd_ne ne]; exact e _ _ hc)⟩, F.pol sub_kind⟩
theorem PolAt.setPol {st' : Kg79.State} (h : PolAt A H y st) (e : Ex H H1) (h1 : st'.sections = st.sections) (h2 : st'.devices = st.devices) (h3 : st'.tide = st.tide) : PolAt A (upd H1 y.p (.ins A.c_Polder dx (polF y st'))) y st' ∧ Fr polTags [] H (upd H1 y.p (.ins A.c_Polder dx (polF y st'))) := by
  obtain ⟨d0, q0⟩ := h.ins
  have F : Fr ["tide"] [] H (upd H1 y.p (.ins A.c_Polder dx (polF y st'))) := (Fr.of_ex e).ins (f := "tide") q0 (List.mem_singleton.mpr rfl)
  exact ⟨⟨⟨dx, upd_same⟩, by rw [h3]; exact F _ _ h.ti nomem, F _ _ h.sl nomem, F _ _ h.dl nomem, by rw [h1]; exact h.so.fr _ _ (fun _ => rfl) nf5 F, by rw [h2]; exact h.dv.fr _ _ (fun _ => rfl) nf6 F⟩, F.pol sub_tide⟩
theorem put_water (x : Kg79.Section) {z : Int} {n : Nat} (e : z = n) : putF "water" (.int z) (secF x) = secF { x with water := n } := by subst e; exact put_ix (i := 1) (secF_names x) (by decide +kernel)
theorem put_alarms (x : Kg79.Section) {z : Int} {n : Nat} (e : z = n) : putF "alarms" (.int z) (secF x) = secF { x with alarms := n } := by subst e; exact put_ix (i := 3) (secF_names x) (by decide +kernel)
theorem put_runs (x : Kg79.Device) (b : Bool) : putF "is_running" (.bl b) (devF x) = devF { x with runs := b } := put_ix (i := 6) (devF_names x) (by decide +kernel)
theorem put_moved (x : Kg79.Device) {z : Int} {n : Nat} (e : z = n) : putF "moved" (.int z) (devF x) = devF { x with moved := n } := by subst e; exact put_ix (i := 7) (devF_names x) (by decide +kernel)
theorem put_turns (x : Kg79.Device) {z : Int} {n : Nat} (e : z = n) : putF "turns" (.int z) (devF x) = devF { x with steps := n } := by subst e; exact put_ix (i := 8) (devF_names x) (by decide +kernel)
theorem put_mark (x : Kg79.Device) {z : Int} {n : Nat} (e : z = n) : putF "mark" (.int z) (devF x) = devF { x with crest := n } := by subst e; exact put_ix (i := 3) (devF_names x) (by decide +kernel)
theorem put_amount (x : Kg79.Device) {z : Int} {n : Nat} (e : z = n) : putF "amount" (.int z) (devF x) = devF { x with cap := n } := by subst e; exact put_ix (i := 4) (devF_names x) (by decide +kernel)
theorem put_time (y : PL) (s : Kg79.State) {z : Int} {n : Nat} (e : z = n) : putF "time" (.int z) (polF y s) = polF y { s with time := n } := by subst e; exact put_ix (i := 1) (polF_names y s) (by decide +kernel)
theorem put_rained (y : PL) (s : Kg79.State) {z : Int} {n : Nat} (e : z = n) : putF "rained" (.int z) (polF y s) = polF y { s with rain := n } := by subst e; exact put_ix (i := 4) (polF_names y s) (by decide +kernel)
theorem put_dried (y : PL) (s : Kg79.State) {z : Int} {n : Nat} (e : z = n) : putF "dried" (.int z) (polF y s) = polF y { s with sun := n } := by subst e; exact put_ix (i := 5) (polF_names y s) (by decide +kernel)
theorem put_let_in (y : PL) (s : Kg79.State) {z : Int} {n : Nat} (e : z = n) : putF "let_in" (.int z) (polF y s) = polF y { s with inside := n } := by subst e; exact put_ix (i := 6) (polF_names y s) (by decide +kernel)
theorem put_let_out (y : PL) (s : Kg79.State) {z : Int} {n : Nat} (e : z = n) : putF "let_out" (.int z) (polF y s) = polF y { s with out := n } := by subst e; exact put_ix (i := 7) (polF_names y s) (by decide +kernel)
end

section
variable {A : Adr} {K : PySem.W.Frag} {mg : Str → Option Value}
theorem flow_le {st : Kg79.State} {d : Kg79.Device} (hk : d.kind ≠ 3) (h3 : d.kind ≤ 3) : st.flow d ≤ (st.section_ d.from_).water := by
  unfold Kg79.State.flow
  dsimp only
  by_cases c0 : d.kind = 0
  · rw [if_pos c0]
    split <;> omega
  · rw [if_neg c0]
    by_cases c1 : d.kind = 1
    · rw [if_pos c1]
      have h0 : ∀ c : Bool, (if c = true then min d.cap (st.section_ d.from_).water else 0) ≤ (st.section_ d.from_).water := fun c => by
        cases c
        · rw [if_neg (by decide)]; omega
        · rw [if_pos rfl]; omega
      exact h0 _
    · rw [if_neg c1, if_pos (show d.kind = 2 by omega)]
      split <;> omega
theorem sec_set_ne {st : Kg79.State} {i j : Nat} {x : Kg79.Section} (h : i ≠ j) : ({ st with sections := st.sections.set i x } : Kg79.State).section_ j = st.section_ j := by
  unfold Kg79.State.section_
  show (st.sections.set i x).getD j _ = _
  rw [List.getD_eq_getElem?_getD, List.getElem?_set_ne h, ← List.getD_eq_getElem?_getD]
/-- the state behind a device's turn, told from its parts -/
theorem act_eq {st : Kg79.State} {k : Nat} {d : Kg79.Device} (hd : st.devices[k]? = some d) : st.act k =
    (let q := st.flow d
     let e : Kg79.Device := { d with runs := st.running d, moved := d.moved + q, steps := d.steps + if 0 < q then 1 else 0 }
     let a := st.section_ d.from_
     if d.kind = 3 then { st with devices := st.devices.set k e, sections := st.sections.set d.from_ { a with water := a.water + q }, inside := st.inside + q }
     else if d.outside = true then { st with devices := st.devices.set k e, sections := st.sections.set d.from_ { a with water := a.water - q }, out := st.out + q }
     else let s1 := st.sections.set d.from_ { a with water := a.water - q }
       let b := s1.getD d.to ⟨0, 0, 0, 0⟩
       { st with devices := st.devices.set k e, sections := s1.set d.to { b with water := b.water + q } }) := by
  unfold Kg79.State.act
  rw [hd]
  rfl
theorem pure_Polder_take_turn (T : Txt K mg A) (vs : List V) (H : Hp) (Q : VK) (E : XK) (h : sp_Polder_take_turn A K vs H Q E) : t_Polder_take_turn A K (DE Q) (start N_Polder_take_turn vs) H := by
  obtain ⟨y, st, k, a, rfl, hp, ok, hk, fin⟩ := h
  obtain ⟨d, hdk, hd⟩ := hp.dv.getA hk
  have hm : d ∈ st.devices := List.mem_of_getElem? hdk
  obtain ⟨d1, d2, d3, d4, d5, d6, d7⟩ := ok.dev d hm
  have hi := hp.ins
  rw [act_eq hdk] at fin
  generalize hq : st.flow d = q at fin
  -- the tail: moved, turns
  have tail : ∀ (S : List Kg79.Section) (i o : Nat) (H' : Hp) (σ : L2.St), σ[1]? = some (some (.ref a)) → σ[2]? = some (some (.int (q : Nat))) →
      PolAt A H' y { st with devices := st.devices.set k { d with runs := st.running d }, sections := S, inside := i, out := o } → Fr polTags [] H H' →
      (∀ H2, PolAt A H2 y { st with devices := st.devices.set k { d with runs := st.running d, moved := d.moved + q, steps := d.steps + if 0 < q then 1 else 0 }, sections := S, inside := i, out := o } → Fr polTags [] H H2 → Q .non H2) →
      Rd (tSeq (sFldAug K (tVar 1) (tVar 2) rAdd "moved") (sFldAug K (tVar 1) (tIf (tTest (tOp rGtI (tVar 2) (tC (.int 0)))) (tC (.int 1)) (tC (.int 0))) rAdd "turns")) (DE Q) σ H' := by
    intro S i o H' σ s1 s2 hp' fr' fin'
    have hx : (st.devices.set k { d with runs := st.running d })[k]? = some { d with runs := st.running d } := List.getElem?_set_self (List.getElem?_eq_some_iff.mp hdk).1
    have hd' := hp'.dv.at_ k a _ hk hx
    refine rd_seq (rd_augA (ev_var s1) hd' T.Device.cl T.Device.n_moved lk_Device_moved (l1000 rfl) (ev_var s2) fun H1 dx e1 ho => ?_)
    rw [put_moved _ (n := d.moved + q) (by simp)]
    obtain ⟨hp2, fr2⟩ := hp'.setDev (dx := dx) (x' := { d with runs := st.running d, moved := d.moved + q }) e1 hk hx
    have hx2 : ((st.devices.set k { d with runs := st.running d }).set k { d with runs := st.running d, moved := d.moved + q })[k]? = some { d with runs := st.running d, moved := d.moved + q } :=
      List.getElem?_set_self (by rw [List.length_set]; exact (List.getElem?_eq_some_iff.mp hdk).1)
    have hd2 := hp2.dv.at_ k a _ hk hx2
    refine rd_at (rd_augA (q := ((if 0 < q then 1 else 0 : Nat) : Int)) (ev_var s1) hd2 T.Device.cl T.Device.n_turns lk_Device_turns (l1000 rfl) ?_ fun H3 dx3 e3 ho3 => ?_)
    · refine ev_if (b := decide ((0 : Int) < (q : Int))) (et_test (ev_gt (ev_var s2) ev_c)) ?_ ?_
      · intro c
        have := of_decide_eq_true c
        rw [if_pos (by omega)]
        exact ev_c
      · intro c
        have := of_decide_eq_false c
        rw [if_neg (by omega)]
        exact ev_c
    rw [put_turns _ (n := d.steps + if 0 < q then 1 else 0) (by simp)]
    obtain ⟨hp3, fr3⟩ := hp2.setDev (dx := dx3) (x' := { d with runs := st.running d, moved := d.moved + q, steps := d.steps + if 0 < q then 1 else 0 }) e3 hk hx2
    refine fin' _ ?_ ((fr'.trans fr2).trans fr3)
    have es : ∀ (l : List Kg79.Device) u v w, ((l.set k u).set k v).set k w = l.set k w := fun l u v w => by rw [List.set_set, List.set_set]
    have e := hp3
    simp only [List.set_set] at e
    exact e
  -- behind the pump's switch
  have mid : ∀ (H' : Hp) (σ : L2.St), σ = [some (.ref y.p), some (.ref a), some (.int (q : Nat)), none, none] →
      PolAt A H' y { st with devices := st.devices.set k { d with runs := st.running d } } → Fr polTags [] H H' →
      Rd (tSeq (tAsg (tOp (rIxL K) (tFld K (tVar 0) "sections") (tFld K (tVar 1) "section")) (gName 3))
        (tSeq (tIfS (tTest (tOp rEq (tFld K (tVar 1) "kind") (tC (.int 3)))) (tSeq (sFldAug K (tVar 3) (tVar 2) rAdd "water")
          (sFldAug K (tVar 0) (tVar 2) rAdd "let_in")) (tSeq (sFldAug K (tVar 3) (tVar 2) rSub "water")
          (tIfS (tTest (tOp rEq (tFld K (tVar 1) "target") (tC (.int (-1))))) (sFldAug K (tVar 0) (tVar 2) rAdd "let_out") (tSeq (tAsg (tOp (rIxL K) (tFld K (tVar 0) "sections") (tFld K (tVar 1) "target")) (gName 4))
          (sFldAug K (tVar 4) (tVar 2) rAdd "water")))))
          (tSeq (sFldAug K (tVar 1) (tVar 2) rAdd "moved") (sFldAug K (tVar 1) (tIf (tTest (tOp rGtI (tVar 2) (tC (.int 0)))) (tC (.int 1)) (tC (.int 0))) rAdd "turns")))) (DE Q) σ H' := by
    rintro H' σ rfl hp' fr'
    have hx : (st.devices.set k { d with runs := st.running d })[k]? = some { d with runs := st.running d } := List.getElem?_set_self (List.getElem?_eq_some_iff.mp hdk).1
    have hd' : DevAt A H' a { d with runs := st.running d } := hp'.dv.at_ k a _ hk hx
    have hi' := hp'.ins
    have hs' : SqL K H' y.s (refsV y.secs) := sq_of hp'.sl
    have hxa : st.sections[d.from_]? = some (st.section_ d.from_) := sec_there d2
    obtain ⟨b, hb, hsec⟩ := hp'.so.get hxa
    refine rd_asg (v := .ref b) (by fail "ev") ?_
    refine rd_ifs (b := decide ((d.kind : Int) = 3)) (et_test (ev_eqI (ev_fld (ev_var rfl) (has_Device_kind (x := { d with runs := st.running d }) T hd')) ev_c)) ?_ ?_
    · intro c
      have c3 : d.kind = 3 := by have := of_decide_eq_true c; omega
      rw [if_pos c3] at fin
      refine rd_seq (rd_augA (ev_var rfl) hsec T.Section.cl T.Section.n_water lk_Section_water (l1000 rfl) (ev_var rfl) fun H1 dx e1 ho => ?_)
      rw [put_water _ (n := (st.section_ d.from_).water + q) (by simp)]
      obtain ⟨hp2, fr2⟩ := hp'.setSec (dx := dx) (x' := { st.section_ d.from_ with water := (st.section_ d.from_).water + q }) e1 hb hxa
      refine rd_at (rd_augA (ev_var rfl) hp2.ins T.Polder.cl T.Polder.n_let_in lk_Polder_let_in (l1000 rfl) (ev_var rfl) fun H3 dx3 e3 ho3 => ?_)
      rw [put_let_in _ _ (n := st.inside + q) (by simp)]
      obtain ⟨hp3, fr3⟩ := hp2.setPol (dx := dx3) (st' := { st with devices := st.devices.set k { d with runs := st.running d }, sections := st.sections.set d.from_ { st.section_ d.from_ with water := (st.section_ d.from_).water + q }, inside := st.inside + q }) e3 rfl rfl rfl
      exact rd_at (tail _ _ _ _ _ rfl rfl hp3 ((fr'.trans fr2).trans fr3) fin)
    · intro c
      have c3 : ¬ d.kind = 3 := by have := of_decide_eq_false c; omega
      have hle : q ≤ (st.section_ d.from_).water := by rw [← hq]; exact flow_le c3 d1
      rw [if_neg c3] at fin
      refine rd_seq (rd_augB (ev_var rfl) hsec T.Section.cl T.Section.n_water lk_Section_water (l1000 rfl) (ev_var rfl) fun H1 dx e1 ho => ?_)
      rw [put_water _ (n := (st.section_ d.from_).water - q) (by omega)]
      obtain ⟨hp2, fr2⟩ := hp'.setSec (dx := dx) (x' := { st.section_ d.from_ with water := (st.section_ d.from_).water - q }) e1 hb hxa
      have hd2 : DevAt A (upd H1 b (.ins A.c_Section dx (secF { st.section_ d.from_ with water := (st.section_ d.from_).water - q }))) a { d with runs := st.running d } := hp2.dv.at_ k a _ hk hx
      have htg : tgt { d with runs := st.running d } = tgt d := rfl
      dsimp only
      refine rd_at (rd_if (b := decide (tgt d = -1)) ?_ ?_ ?_)
      · have hev : Has K _ a "target" (.int (tgt d)) := has_Device_target (x := { d with runs := st.running d }) T hd2
        exact et_test (ev_eqI (ev_fld (ev_var rfl) hev) ev_c)
      · intro ct
        have ct := of_decide_eq_true ct
        have ho : d.outside = true := by
          unfold tgt at ct
          unfold Kg79.Device.outside
          by_cases k0 : d.kind = 0
          · rw [if_pos k0] at ct; omega
          · rw [if_neg k0] at ct
            by_cases k1 : d.kind = 1
            · rw [if_pos k1] at ct
              by_cases kt : d.to = d.from_
              · simp [k1, kt]
              · rw [if_neg kt] at ct; omega
            · have : d.kind = 2 := by omega
              simp [this]
        rw [if_pos ho] at fin
        refine rd_augA (ev_var rfl) hp2.ins T.Polder.cl T.Polder.n_let_out lk_Polder_let_out (l1000 rfl) (ev_var rfl) fun H3 dx3 e3 ho3 => ?_
        rw [put_let_out _ _ (n := st.out + q) (by simp)]
        obtain ⟨hp3, fr3⟩ := hp2.setPol (dx := dx3) (st' := { st with devices := st.devices.set k { d with runs := st.running d }, sections := st.sections.set d.from_ { st.section_ d.from_ with water := (st.section_ d.from_).water - q }, out := st.out + q }) e3 rfl rfl rfl
        exact rd_at (tail _ _ _ _ _ rfl rfl hp3 ((fr'.trans fr2).trans fr3) fin)
      · intro ct
        have ct := of_decide_eq_false ct
        have ho : ¬ d.outside = true ∧ tgt d = (d.to : Int) ∧ d.to ≠ d.from_ := by
          unfold tgt at ct ⊢
          unfold Kg79.Device.outside
          by_cases k0 : d.kind = 0
          · rw [if_pos k0]
            exact ⟨by simp [k0], rfl, d4 k0⟩
          · rw [if_neg k0] at ct ⊢
            by_cases k1 : d.kind = 1
            · rw [if_pos k1] at ct ⊢
              by_cases kt : d.to = d.from_
              · rw [if_pos kt] at ct; exact absurd rfl ct
              · rw [if_neg kt]
                exact ⟨by simp [k1, kt], rfl, kt⟩
            · rw [if_neg k1] at ct; exact absurd rfl ct
        obtain ⟨ho, htg2, hne⟩ := ho
        rw [if_neg ho] at fin
        have hxb : (st.sections.set d.from_ { st.section_ d.from_ with water := (st.section_ d.from_).water - q })[d.to]? = some (st.section_ d.to) := by
          rw [List.getElem?_set_ne (Ne.symm hne)]
          exact sec_there d3
        have hgb : (st.sections.set d.from_ { st.section_ d.from_ with water := (st.section_ d.from_).water - q }).getD d.to ⟨0, 0, 0, 0⟩ = st.section_ d.to := by
          rw [List.getD_eq_getElem?_getD, hxb]
          rfl
        obtain ⟨b2, hb2, hsec2⟩ := hp2.so.get hxb
        have hs2 := sq_of (K := K) hp2.sl
        have hi2 := hp2.ins
        refine rd_asg (v := .ref b2) (ev_ixL (p := y.s) (i := (d.to : Int)) (by fail "ev") ?_ hs2 (atI_nat (refs_at hb2))) ?_
        · rw [← htg2]
          exact ev_fld (ev_var rfl) (has_Device_target (x := { d with runs := st.running d }) T hd2)
        refine rd_augA (ev_var rfl) hsec2 T.Section.cl T.Section.n_water lk_Section_water (l1000 rfl) (ev_var rfl) fun H3 dx3 e3 ho3 => ?_
        rw [put_water _ (n := (st.section_ d.to).water + q) (by simp)]
        obtain ⟨hp3, fr3⟩ := hp2.setSec (dx := dx3) (x' := { st.section_ d.to with water := (st.section_ d.to).water + q }) e3 hb2 hxb
        refine rd_at (tail _ _ _ _ _ rfl rfl hp3 ((fr'.trans fr2).trans fr3) ?_)
        intro H2 hp4 fr4
        refine fin H2 ?_ fr4
        show PolAt A H2 y { st with devices := _, sections := (st.sections.set d.from_ { st.section_ d.from_ with water := (st.section_ d.from_).water - q }).set d.to _ }
        rw [hgb]
        exact hp4
  have hmv := sv_would_move (K := K) hp ok hd hm
  rw [hq] at hmv
  refine rd_at (rd_asg (v := .int (q : Nat)) (ev_meth (by fail "ev") (by fail "ev") (by fail "ev") hmv) ?_)
  refine rd_ifs (b := decide ((d.kind : Int) = 1)) (by fail "ev") ?_ ?_
  · intro c
    have c1 : d.kind = 1 := by have := of_decide_eq_true c; omega
    have hr : st.running d = (if d.runs = true then decide (d.off < (st.section_ d.from_).level) else decide (d.crest ≤ (st.section_ d.from_).level)) := by
      unfold Kg79.State.running
      rw [c1]
      rfl
    have hw := sv_would_run (K := K) hp ok hd hm
    rw [← hr] at hw
    refine rd_fldS (ev_var rfl) hd T.Device.cl T.Device.n_is_running (l1000 rfl) (ev_meth (by fail "ev") (by fail "ev") (by fail "ev") hw) fun H1 dx e1 ho => ?_
    rw [put_runs]
    obtain ⟨hp2, fr2⟩ := hp.setDev (dx := dx) (x' := { d with runs := st.running d }) e1 hk hdk
    exact rd_at (mid _ _ rfl hp2 fr2)
  · intro c
    have c1 : ¬ d.kind = 1 := by have := of_decide_eq_false c; omega
    refine rd_next fun H1 e1 => rd_at (mid _ _ rfl ?_ (Fr.of_ex e1))
    have hr : st.running d = d.runs := by
      unfold Kg79.State.running
      rw [d7 c1, beq_eq_false_iff_ne.mpr c1]
      rfl
    have e : st.devices.set k { d with runs := st.running d } = st.devices := by
      rw [hr]
      exact List.ext_getElem? fun j => by
        by_cases hj : k = j
        · subst hj
          rw [List.getElem?_set_self (List.getElem?_eq_some_iff.mp hdk).1, hdk]
        · rw [List.getElem?_set_ne hj]
    rw [e]
    exact hp.mono e1
end

/-! ### lists changed item by item -/
section
variable {α β : Type}
def upto (f : α → α) (i : Nat) (l : List α) : List α := (l.take i).map f ++ l.drop i
def sumTo (g : α → Nat) (i : Nat) (l : List α) : Nat := ((l.take i).map g).sum
theorem take_more {l : List α} {i : Nat} {x : α} (h : l[i]? = some x) : l.take (i + 1) = l.take i ++ [x] := by
  rw [List.take_succ, h]
  rfl
theorem drop_more {l : List α} {i : Nat} {x : α} (h : l[i]? = some x) : l.drop i = x :: l.drop (i + 1) := by
  obtain ⟨hi, e⟩ := List.getElem?_eq_some_iff.mp h
  rw [List.drop_eq_getElem_cons hi, e]
theorem upto_zero (f : α → α) (l : List α) : upto f 0 l = l := rfl
theorem upto_all (f : α → α) (l : List α) : upto f l.length l = l.map f := by
  unfold upto
  rw [List.take_length, List.drop_length, List.append_nil]
theorem upto_len (f : α → α) (i : Nat) (l : List α) : (upto f i l).length = l.length := by
  unfold upto
  rw [List.length_append, List.length_map, List.length_take, List.length_drop]
  omega
theorem upto_at {f : α → α} {i : Nat} {l : List α} {x : α} (h : l[i]? = some x) : (upto f i l)[i]? = some x := by
  have hi : i < l.length := (List.getElem?_eq_some_iff.mp h).1
  unfold upto
  rw [List.getElem?_append_right (by rw [List.length_map, List.length_take]; omega), List.length_map, List.length_take, Nat.min_eq_left (Nat.le_of_lt hi), Nat.sub_self, drop_more h]
  rfl
theorem upto_set {f : α → α} {i : Nat} {l : List α} {x : α} (h : l[i]? = some x) : (upto f i l).set i (f x) = upto f (i + 1) l := by
  have hi : i < l.length := (List.getElem?_eq_some_iff.mp h).1
  have e : ((l.take i).map f).length = i := by rw [List.length_map, List.length_take]; omega
  unfold upto
  rw [drop_more h, take_more h, List.map_append, List.append_assoc]
  conv => lhs; rw [← e]
  rw [List.length_map, List.length_take, Nat.min_eq_left (Nat.le_of_lt hi)]
  rw [List.set_append_right _ _ (by rw [e]; exact Nat.le_refl _), e, Nat.sub_self]
  rfl
theorem sumTo_zero (g : α → Nat) (l : List α) : sumTo g 0 l = 0 := rfl
theorem sumTo_all (g : α → Nat) (l : List α) : sumTo g l.length l = (l.map g).sum := by
  unfold sumTo
  rw [List.take_length]
theorem sumTo_more {g : α → Nat} {i : Nat} {l : List α} {x : α} (h : l[i]? = some x) : sumTo g (i + 1) l = sumTo g i l + g x := by
  unfold sumTo
  rw [take_more h, List.map_append, List.sum_append]
  simp
theorem upto_map {γ : Type} {f : α → α} {m : α → γ} (hm : ∀ x, m (f x) = m x) (i : Nat) (l : List α) : (upto f i l).map m = l.map m := by
  unfold upto
  rw [List.map_append, List.map_map]
  have e : (m ∘ f) = m := funext hm
  rw [e, ← List.map_append, List.take_append_drop]
theorem map_set_same {γ : Type} {m : α → γ} {l : List α} {i : Nat} {x y : α} (h : l[i]? = some x) (e : m y = m x) : (l.set i y).map m = l.map m := by
  rw [List.map_set, e]
  apply List.ext_getElem?
  intro j
  by_cases hj : i = j
  · subst hj
    have hi : i < l.length := (List.getElem?_eq_some_iff.mp h).1
    rw [List.getElem?_set_self (by rw [List.length_map]; exact hi), List.getElem?_map, h]
    rfl
  · rw [List.getElem?_set_ne hj]
end
theorem PolOk.keep {st st' : Kg79.State} (ok : PolOk st) (h1 : st'.sections.map Kg79.Section.area = st.sections.map Kg79.Section.area) (h2 : st'.devices = st.devices) (h3 : st'.tide = st.tide) : PolOk st' := by
  have hl : st'.sections.length = st.sections.length := by
    have := congrArg List.length h1
    rw [List.length_map, List.length_map] at this
    exact this
  refine ⟨fun x hx => ?_, by rw [h2, hl]; exact ok.dev, by rw [hl]; exact ok.nsec, by rw [h2]; exact ok.ndev, by rw [h3]; exact ok.ntide⟩
  have : x.area ∈ st'.sections.map Kg79.Section.area := List.mem_map.mpr ⟨x, hx, rfl⟩
  rw [h1] at this
  obtain ⟨z, hz, e⟩ := List.mem_map.mp this
  rw [← e]
  exact ok.area z hz
theorem PolOk.setDev {st : Kg79.State} (ok : PolOk st) {k : Nat} {e : Kg79.Device} (he : e.kind ≤ 3 ∧ e.from_ < st.sections.length ∧ e.to < st.sections.length ∧ (e.kind = 0 → e.to ≠ e.from_) ∧ e.cap ≤ 100000 ∧ e.crest ≤ 10000 ∧ (e.kind ≠ 1 → e.runs = false)) : PolOk { st with devices := st.devices.set k e } :=
  ⟨ok.area, fun d hd => (List.mem_or_eq_of_mem_set hd).elim (fun q => ok.dev d q) (fun q => by rw [q]; exact he), ok.nsec, by show (st.devices.set k e).length ≤ 20; rw [List.length_set]; exact ok.ndev, ok.ntide⟩
theorem running_ok {st : Kg79.State} {d : Kg79.Device} (h : d.kind ≠ 1) : st.running d = false := by
  unfold Kg79.State.running
  rw [beq_eq_false_iff_ne.mpr h]
  rfl
theorem act_none {st : Kg79.State} {k : Nat} (h : st.devices[k]? = none) : st.act k = st := by
  unfold Kg79.State.act
  rw [h]
theorem getD_at {l : List Kg79.Section} {i : Nat} {z : Kg79.Section} (h : i < l.length) : l[i]? = some (l.getD i z) := by
  rw [List.getD_eq_getElem?_getD, List.getElem?_eq_getElem h]
  rfl
theorem act_ok {st : Kg79.State} (ok : PolOk st) (k : Nat) : PolOk (st.act k) ∧ (st.act k).devices.length = st.devices.length ∧ (st.act k).sections.length = st.sections.length := by
  cases hd : st.devices[k]? with
  | none => rw [act_none hd]; exact ⟨ok, rfl, rfl⟩
  | some d =>
    obtain ⟨d1, d2, d3, d4, d5, d6, d7⟩ := ok.dev d (List.mem_of_getElem? hd)
    have ok1 := ok.setDev (k := k) (e := { d with runs := st.running d, moved := d.moved + st.flow d, steps := d.steps + if 0 < st.flow d then 1 else 0 }) ⟨d1, d2, d3, d4, d5, d6, fun h => running_ok h⟩
    have a1 : st.sections[d.from_]? = some (st.section_ d.from_) := sec_there d2
    rw [act_eq hd]
    dsimp only
    split
    · exact ⟨ok1.keep (map_set_same a1 rfl) rfl rfl, List.length_set .., List.length_set ..⟩
    · split
      · exact ⟨ok1.keep (map_set_same a1 rfl) rfl rfl, List.length_set .., List.length_set ..⟩
      · have a2 := getD_at (l := st.sections.set d.from_ { st.section_ d.from_ with water := (st.section_ d.from_).water - st.flow d }) (i := d.to) (z := ⟨0, 0, 0, 0⟩) (by rw [List.length_set]; exact d3)
        refine ⟨ok1.keep (by refine Eq.trans (map_set_same (m := Kg79.Section.area) a2 ?_) (map_set_same a1 ?_) <;> rfl) rfl rfl, List.length_set .., ?_⟩
        show ((st.sections.set _ _).set _ _).length = _
        rw [List.length_set, List.length_set]
def rainS (r : Nat) (i : Nat) (st : Kg79.State) : Kg79.State := { st with sections := upto (fun x => { x with water := x.water + r * x.area }) i st.sections, rain := st.rain + sumTo (fun x => r * x.area) i st.sections }
def sunS (e : Nat) (i : Nat) (st : Kg79.State) : Kg79.State := { st with sections := upto (fun x => { x with water := x.water - min (e * x.area) x.water }) i st.sections, sun := st.sun + sumTo (fun x => min (e * x.area) x.water) i st.sections }
def alarmS (i : Nat) (st : Kg79.State) : Kg79.State := { st with sections := upto (fun x => { x with alarms := x.alarms + if x.high < x.level then 1 else 0 }) i st.sections }
theorem zip_self_map {α β γ : Type} (f : α → β) (g : α × β → γ) : ∀ l : List α, (l.zip (l.map f)).map g = l.map fun x => g (x, f x)
  | [] => rfl
  | x :: r => by
    rw [List.map_cons, List.zip_cons_cons, List.map_cons, zip_self_map f g r]
    rfl
theorem weather_eq (st : Kg79.State) (r e : Nat) : st.weather r e = (let s1 := rainS r st.sections.length st; sunS e s1.sections.length s1) := by
  unfold Kg79.State.weather sunS rainS
  dsimp only
  rw [upto_all, sumTo_all, upto_all, sumTo_all, zip_self_map]
theorem rain_ok {st : Kg79.State} (ok : PolOk st) (r i : Nat) : PolOk (rainS r i st) := ok.keep (by unfold rainS; refine upto_map ?_ _ _; intro x; rfl) rfl rfl
theorem sun_ok {st : Kg79.State} (ok : PolOk st) (e i : Nat) : PolOk (sunS e i st) := ok.keep (by unfold sunS; refine upto_map ?_ _ _; intro x; rfl) rfl rfl
theorem alarm_ok {st : Kg79.State} (ok : PolOk st) (i : Nat) : PolOk (alarmS i st) := ok.keep (by unfold alarmS; refine upto_map ?_ _ _; intro x; rfl) rfl rfl
def actS (i : Nat) (st : Kg79.State) : Kg79.State := (List.range i).foldl (fun u k => u.act k) st
theorem actS_more (i : Nat) (st : Kg79.State) : actS (i + 1) st = (actS i st).act i := by
  unfold actS
  rw [List.range_succ, List.foldl_append]
  rfl
theorem actS_ok {st : Kg79.State} (ok : PolOk st) : ∀ i, PolOk (actS i st) ∧ (actS i st).devices.length = st.devices.length ∧ (actS i st).sections.length = st.sections.length
  | 0 => ⟨ok, rfl, rfl⟩
  | i + 1 => by
    obtain ⟨h1, h2, h3⟩ := actS_ok ok i
    rw [actS_more]
    obtain ⟨k1, k2, k3⟩ := act_ok h1 i
    exact ⟨k1, k2.trans h2, k3.trans h3⟩
theorem step_eq (st : Kg79.State) (r e : Nat) : st.step r e = (let w := st.weather r e; let t := actS w.devices.length w; { alarmS t.sections.length t with time := t.time + 1 }) := by
  have e1 : (st.weather r e).devices.length = st.devices.length := rfl
  unfold Kg79.State.step alarmS
  dsimp only
  rw [upto_all, e1]
  rfl
theorem step_ok {st : Kg79.State} (ok : PolOk st) (r e : Nat) : PolOk (st.step r e) ∧ (st.step r e).sections.length = st.sections.length := by
  have w1 : PolOk (st.weather r e) := by rw [weather_eq]; exact sun_ok (rain_ok ok _ _) _ _
  have w2 : (st.weather r e).sections.length = st.sections.length := by
    rw [weather_eq]
    show (upto _ _ (upto _ _ _)).length = _
    rw [upto_len, upto_len]
  rw [step_eq]
  obtain ⟨a1, a2, a3⟩ := actS_ok w1 (st.weather r e).devices.length
  refine ⟨(alarm_ok a1 _).keep rfl rfl rfl, ?_⟩
  show (upto _ _ _).length = _
  rw [upto_len, a3, w2]
section
variable {A : Adr} {K : PySem.W.Frag} {mg : Str → Option Value}
theorem at_of_len {α : Type} {l : List α} {i : Nat} (h : i < l.length) : ∃ x, l[i]? = some x := ⟨_, List.getElem?_eq_getElem h⟩
theorem pure_Polder_step (T : Txt K mg A) (vs : List V) (H : Hp) (Q : VK) (E : XK) (h : sp_Polder_step A K vs H Q E) : t_Polder_step A K (DE Q) (start N_Polder_step vs) H := by
  obtain ⟨y, st, r, e, rfl, hp, ok, hr, he, fin⟩ := h
  have hi := hp.ins
  have hs : SqL K H y.s (refsV y.secs) := sq_of hp.sl
  rw [step_eq, weather_eq] at fin
  dsimp only at fin
  refine rd_at (rd_seq (rd_forL (by fail "ev") hs (fun i σ H' => ∃ v : Option V, σ = [some (.ref y.p), some (.int r), some (.int e), v, none, none] ∧ PolAt A H' y (rainS r i st) ∧ Fr polTags [] H H')
    (fun H1 e1 => ⟨none, rfl, hp.mono e1, Fr.of_ex e1⟩) (fun i σ H' _ ⟨_, _, hp', _⟩ => sq_of hp'.sl) ?_ ?_))
  · rintro i x σ H' hix ⟨v, rfl, hp', fr'⟩
    obtain ⟨b, hb, rfl⟩ := at_refs hix
    obtain ⟨x, hx, _⟩ := hp.so.getA hb
    have hx' : (rainS r i st).sections[i]? = some x := upto_at hx
    obtain ⟨k1, k2⟩ := ok.area x (List.mem_of_getElem? hx)
    have hsec : SecAt A H' b x := hp'.so.at_ i b x hb hx'
    refine rd_at (rd_seq (rd_augA (q := ((r * x.area : Nat) : Int)) (ev_var rfl) hsec T.Section.cl T.Section.n_water lk_Section_water (l1000 rfl) ?_ fun H1 dx e1 ho => ?_))
    · refine' ev_eq ?h1 ?h2
      case h1 => fail "ev"
      case h2 => rw [Int.natCast_mul]
    rw [put_water _ (n := x.water + r * x.area) (by simp)]
    obtain ⟨hp2, fr2⟩ := hp'.setSec (dx := dx) (x' := { x with water := x.water + r * x.area }) e1 hb hx'
    have hsec2 : SecAt A (upd H1 b (.ins A.c_Section dx (secF { x with water := x.water + r * x.area }))) b { x with water := x.water + r * x.area } := ⟨dx, upd_same⟩
    refine rd_at (rd_augA (q := ((r * x.area : Nat) : Int)) (ev_var rfl) hp2.ins T.Polder.cl T.Polder.n_rained lk_Polder_rained (l1000 rfl) ?_ fun H3 dx3 e3 ho3 => ?_)
    · refine ev_eq (ev_mul (i := r) (j := x.area) (by fail "ev") (ev_fld (ev_var rfl) (has_Section_area (x := { x with water := x.water + r * x.area }) T hsec2)) (cmulR (by omega) (by omega))) (by rw [Int.natCast_mul])
    rw [put_rained _ _ (n := (rainS r i st).rain + r * x.area) (by simp)]
    obtain ⟨hp3, fr3⟩ := hp2.setPol (dx := dx3) (st' := { { rainS r i st with sections := (rainS r i st).sections.set i { x with water := x.water + r * x.area } } with rain := (rainS r i st).rain + r * x.area }) e3 rfl rfl rfl
    refine ⟨some (.ref b), rfl, ?_, (fr'.trans fr2).trans fr3⟩
    have es : rainS r (i + 1) st = { { rainS r i st with sections := (rainS r i st).sections.set i { x with water := x.water + r * x.area } } with rain := (rainS r i st).rain + r * x.area } := by
      unfold rainS
      rw [sumTo_more hx, ← upto_set hx, Nat.add_assoc]
    rw [es]
    exact hp3
  rintro σ H1 ⟨v, rfl, hp1, fr1⟩
  rw [len_refs, hp.so.len] at hp1
  generalize hst1 : rainS r st.sections.length st = st1 at hp1 fin
  have ok1 : PolOk st1 := by rw [← hst1]; exact rain_ok ok _ _
  have hi1 := hp1.ins
  have hs1 : SqL K H1 y.s (refsV y.secs) := sq_of hp1.sl
  dsimp only
  refine rd_at (rd_seq (rd_forL (by fail "ev") hs1 (fun i σ H' => ∃ v u : Option V, σ = [some (.ref y.p), some (.int r), some (.int e), v, u, none] ∧ PolAt A H' y (sunS e i st1) ∧ Fr polTags [] H H')
    (fun H2 e2 => ⟨v, none, rfl, hp1.mono e2, fr1.trans (Fr.of_ex e2)⟩) (fun i σ H' _ ⟨_, _, _, hp', _⟩ => sq_of hp'.sl) ?_ ?_))
  · rintro i x σ H' hix ⟨v, u, rfl, hp', fr'⟩
    obtain ⟨b, hb, rfl⟩ := at_refs hix
    obtain ⟨x, hx, _⟩ := hp1.so.getA hb
    have hx' : (sunS e i st1).sections[i]? = some x := upto_at hx
    obtain ⟨k1, k2⟩ := ok1.area x (List.mem_of_getElem? hx)
    have hsec : SecAt A H' b x := hp'.so.at_ i b x hb hx'
    refine rd_at (rd_asg (v := .int ((min (e * x.area) x.water : Nat) : Int)) ?_ ?_)
    · refine' ev_eq ?h1 ?h2
      case h1 => fail "ev"
      case h2 =>
        congr 1
        rw [← Int.natCast_mul]
        omega
    generalize hm : min (e * x.area) x.water = m
    have hmw : m ≤ x.water := by omega
    refine rd_seq (rd_augB (ev_var rfl) hsec T.Section.cl T.Section.n_water lk_Section_water (l1000 rfl) (ev_var rfl) fun H2 dx e2 ho => ?_)
    rw [put_water _ (n := x.water - m) (by omega)]
    obtain ⟨hp2, fr2⟩ := hp'.setSec (dx := dx) (x' := { x with water := x.water - m }) e2 hb hx'
    refine rd_at (rd_augA (ev_var rfl) hp2.ins T.Polder.cl T.Polder.n_dried lk_Polder_dried (l1000 rfl) (ev_var rfl) fun H3 dx3 e3 ho3 => ?_)
    rw [put_dried _ _ (n := (sunS e i st1).sun + m) (by simp)]
    obtain ⟨hp3, fr3⟩ := hp2.setPol (dx := dx3) (st' := { { sunS e i st1 with sections := (sunS e i st1).sections.set i { x with water := x.water - m } } with sun := (sunS e i st1).sun + m }) e3 rfl rfl rfl
    refine ⟨some (.ref b), some (.int m), rfl, ?_, (fr'.trans fr2).trans fr3⟩
    have es : sunS e (i + 1) st1 = { { sunS e i st1 with sections := (sunS e i st1).sections.set i { x with water := x.water - m } } with sun := (sunS e i st1).sun + m } := by
      unfold sunS
      rw [sumTo_more hx, ← upto_set hx, Nat.add_assoc, hm]
    rw [es]
    exact hp3
  rintro σ H2 ⟨v, u, rfl, hp2, fr2⟩
  rw [len_refs, hp1.so.len] at hp2
  generalize hst2 : sunS e st1.sections.length st1 = st2 at hp2 fin
  have ok2 : PolOk st2 := by rw [← hst2]; exact sun_ok ok1 _ _
  have hi2 := hp2.ins
  have hd2 : SqL K H2 y.d (refsV y.devs) := sq_of hp2.dl
  dsimp only
  refine rd_at (rd_seq (rd_forL (by fail "ev") hd2 (fun i σ H' => ∃ w : Option V, σ = [some (.ref y.p), some (.int r), some (.int e), v, u, w] ∧ PolAt A H' y (actS i st2) ∧ Fr polTags [] H H')
    (fun H3 e3 => ⟨none, rfl, hp2.mono e3, fr2.trans (Fr.of_ex e3)⟩) (fun i σ H' _ ⟨_, _, hp', _⟩ => sq_of hp'.dl) ?_ ?_))
  · rintro i x σ H' hix ⟨w, rfl, hp', fr'⟩
    obtain ⟨b, hb, rfl⟩ := at_refs hix
    have hi' := hp'.ins
    refine rd_at (rd_dropM (ev_var rfl) (hm_Polder_take_turn hi') (ea_cons (ev_var rfl) ea_nil) fun H3 e3 => ?_)
    refine ⟨y, actS i st2, i, b, rfl, hp'.mono e3, (actS_ok ok2 i).1, hb, fun H4 hp4 fr4 => ?_⟩
    exact ⟨some (.ref b), rfl, by rw [actS_more]; exact hp4, (fr'.trans (Fr.of_ex e3)).trans fr4⟩
  rintro σ H3 ⟨w, rfl, hp3, fr3⟩
  rw [len_refs, hp2.dv.len] at hp3
  generalize hst3 : actS st2.devices.length st2 = st3 at hp3 fin
  have ok3 : PolOk st3 := by rw [← hst3]; exact (actS_ok ok2 _).1
  have hi3 := hp3.ins
  have hs3 : SqL K H3 y.s (refsV y.secs) := sq_of hp3.sl
  dsimp only
  refine rd_at (rd_seq (rd_forL (by fail "ev") hs3 (fun i σ H' => ∃ v : Option V, σ = [some (.ref y.p), some (.int r), some (.int e), v, u, w] ∧ PolAt A H' y (alarmS i st3) ∧ Fr polTags [] H H')
    (fun H4 e4 => ⟨v, rfl, hp3.mono e4, fr3.trans (Fr.of_ex e4)⟩) (fun i σ H' _ ⟨_, _, hp', _⟩ => sq_of hp'.sl) ?_ ?_))
  · rintro i x σ H' hix ⟨v, rfl, hp', fr'⟩
    obtain ⟨b, hb, rfl⟩ := at_refs hix
    obtain ⟨x, hx, _⟩ := hp3.so.getA hb
    have hx' : (alarmS i st3).sections[i]? = some x := upto_at hx
    obtain ⟨k1, k2⟩ := ok3.area x (List.mem_of_getElem? hx)
    have hsec : SecAt A H' b x := hp'.so.at_ i b x hb hx'
    refine rd_at (rd_augA (q := ((if x.high < x.level then 1 else 0 : Nat) : Int)) (ev_var rfl) hsec T.Section.cl T.Section.n_alarms lk_Section_alarms (l1000 rfl) ?_ fun H1 dx e1 ho => ?_)
    · refine ev_if (b := decide ((x.high : Int) < (x.level : Int))) (by fail "ev") ?_ ?_
      · intro c
        have := of_decide_eq_true c
        rw [if_pos (by omega)]
        exact ev_c
      · intro c
        have := of_decide_eq_false c
        rw [if_neg (by omega)]
        exact ev_c
    rw [put_alarms _ (n := x.alarms + if x.high < x.level then 1 else 0) (by simp)]
    obtain ⟨hp4, fr4⟩ := hp'.setSec (dx := dx) (x' := { x with alarms := x.alarms + if x.high < x.level then 1 else 0 }) e1 hb hx'
    refine ⟨some (.ref b), rfl, ?_, fr'.trans fr4⟩
    have es : alarmS (i + 1) st3 = { alarmS i st3 with sections := (alarmS i st3).sections.set i { x with alarms := x.alarms + if x.high < x.level then 1 else 0 } } := by
      unfold alarmS
      rw [← upto_set hx]
    rw [es]
    exact hp4
  rintro σ H4 ⟨v, rfl, hp4, fr4⟩
  rw [len_refs, hp3.so.len] at hp4
  dsimp only
  refine rd_at (rd_augA (ev_var rfl) hp4.ins T.Polder.cl T.Polder.n_time lk_Polder_time (l1000 rfl) ev_c fun H5 dx e5 ho => ?_)
  rw [put_time _ _ (n := (alarmS st3.sections.length st3).time + 1) (by simp)]
  obtain ⟨hp5, fr5⟩ := hp4.setPol (dx := dx) (st' := { alarmS st3.sections.length st3 with time := (alarmS st3.sections.length st3).time + 1 }) e5 rfl rfl rfl
  exact fin _ hp5 (fr4.trans fr5)
end

/-! ### new instances -/
def EvN (te : TE) (σ : L2.St) (H : Hp) (R : Addr → Hp → Prop) : Prop := ∀ H1, Ex H H1 → ∀ Q : VK, (∀ p H2, H1 p = none → Ex H1 H2 → R p H2 → Q (.ref p) H2) → te σ H1 Q
section
variable {A : Adr} {K : PySem.W.Frag} {mg : Str → Option Value} {σ : L2.St} {H H1 H' : Hp} {ta tb tv te : TE} {D : Ends} {t u : TS} {a C l : Addr} {v : V} {xs : List V}
theorem en_make {R : List V → List (Str × V) → Prop} {ts : TA} {vs : List V} {fs : List (Str × V)} (h : EvA ts σ H vs) (hR : R vs fs) : EvN (tMake C (spInit C R) [] E0 ts) σ H (fun p H2 => InsAt C H2 p fs) := fun H1 e Q q => h H1 e _ fun H2 e2 x dx nx nd ne => by
  rw [List.append_nil]
  exact ⟨x, dx, vs, fs, rfl, upd_same, hR, fun H' hi k => ⟨rfl, q x H' (fresh_back e2 nx) (e2.trans (Same.made nx nd k)) hi⟩⟩
theorem rd_appN {R : Addr → Hp → Prop} (ha : Ev ta σ H (.ref l)) (hl : H l = some (.lst xs)) (hz : xs.length < 100000) (h : EvN te σ H R) (k : ∀ p H1, H p = none → Ex H H1 → R p H1 → H1 l = some (.lst xs) → D.nx σ (upd H1 l (.lst (xs ++ [.ref p])))) :
    Rd (tDrop (tBM K "list" rAppend ta (tCons te tNil))) D σ H := fun H1 e => ha H1 e _ fun H2 e2 => ⟨Or.inl ⟨rfl, xs, sq_of ((e.trans e2) _ _ hl)⟩, h H2 (e.trans e2) _ fun p H3 hp e3 hR =>
      ⟨l, xs, .ref p, rfl, rfl, ((e.trans e2).trans e3) _ _ hl, sz_lt hz, k p H3 (fresh_back (e.trans e2) hp) ((e.trans e2).trans e3) hR (((e.trans e2).trans e3) _ _ hl)⟩⟩
theorem rd_app (ha : Ev ta σ H (.ref l)) (hl : H l = some (.lst xs)) (hz : xs.length < 100000) (h : Ev te σ H v) (k : ∀ H1, Ex H H1 → H1 l = some (.lst xs) → D.nx σ (upd H1 l (.lst (xs ++ [v])))) :
    Rd (tDrop (tBM K "list" rAppend ta (tCons te tNil))) D σ H := fun H1 e => ha H1 e _ fun H2 e2 => ⟨Or.inl ⟨rfl, xs, sq_of ((e.trans e2) _ _ hl)⟩, h H2 (e.trans e2) _ fun H3 e3 =>
      ⟨l, xs, v, rfl, rfl, ((e.trans e2).trans e3) _ _ hl, sz_lt hz, k H3 ((e.trans e2).trans e3) (((e.trans e2).trans e3) _ _ hl)⟩⟩
theorem rd_ext {ys : List V} (ha : Ev ta σ H (.ref l)) (hl : H l = some (.lst xs)) (hz : xs.length + ys.length ≤ sizeLine) (h : EvL te σ H ys) (k : ∀ H1, Ex H H1 → H1 l = some (.lst xs) → D.nx σ (upd H1 l (.lst (xs ++ ys)))) :
    Rd (tDrop (tBM K "list" rExtend ta (tCons te tNil))) D σ H := fun H1 e => ha H1 e _ fun H2 e2 => ⟨Or.inl ⟨rfl, xs, sq_of ((e.trans e2) _ _ hl)⟩, h H2 (e.trans e2) _ fun p H3 hp e3 h3 =>
      ⟨l, p, xs, ys, rfl, rfl, ((e.trans e2).trans e3) _ _ hl, h3, hz, k H3 ((e.trans e2).trans e3) (((e.trans e2).trans e3) _ _ hl)⟩⟩
/-- a call whose argument is a new instance -/
theorem rd_retMN {m : Str} {sp : Sp} {R : Addr → Hp → Prop} (ha : Ev ta σ H (.ref a)) (hm : HasM H a C m) (h : EvN te σ H R) (hs : ∀ p H1, H p = none → Ex H H1 → R p H1 → sp [.ref a, .ref p] H1 D.rt E0) : Rd (tRet (tMeth C m sp [] E0 ta (tCons te tNil))) D σ H := fun H1 e => ha H1 e _ fun H2 e2 => by
  obtain ⟨dx, fs, ho, l⟩ := hm.ex
  refine ⟨a, dx, fs, rfl, (e.trans e2) _ _ ho, l, ?_⟩
  refine h H2 (e.trans e2) _ fun p H3 hp e3 hR => ?_
  exact hs p H3 (fresh_back (e.trans e2) hp) ((e.trans e2).trans e3) hR
theorem post_same {y : PL} {st : Kg79.State} {z : Kg79.State × Kg79.Ans} {Q : VK} (hz : z.1 = st) (hp : PolAt A H y st) (k : PolPost A H y z Q) : ∀ p H1, H p = none → Ex H H1 → H1 p = some (.lst (intsV (ansP z.2))) → Q (.ref p) H1 :=
  fun p H1 np e h => k H1 y p (by rw [hz]; exact hp.mono e) rfl rfl rfl rfl h (Fr.of_ex e) (nl_none np)
theorem post_go {y y' : PL} {z : Kg79.State × Kg79.Ans} {Q : VK} (hp : PolAt A H' y' z.1) (h1 : y'.p = y.p) (h2 : y'.t = y.t) (h3 : y'.s = y.s) (h4 : y'.d = y.d) (fr : Fr polTags [y.s, y.d] H H') (k : PolPost A H y z Q) : ∀ p H1, H' p = none → Ex H' H1 → H1 p = some (.lst (intsV (ansP z.2))) → Q (.ref p) H1 :=
  fun p H1 np e h => k H1 y' p (hp.mono e) h1 h2 h3 h4 h (fr.trans (Fr.of_ex e)) (nl_go fr np)
theorem post_z {y : PL} {z z' : Kg79.State × Kg79.Ans} {Q : VK} (e : z = z') (k : PolPost A H y z Q) : PolPost A H y z' Q := e ▸ k
theorem rd_ref {n : Int} (k : ∀ p H1, H p = none → Ex H H1 → H1 p = some (.lst [.int (-n)]) → D.rt (.ref p) H1) : Rd (tRet (tLst (tCons (tUn rNegI (tC (.int n))) tNil))) D σ H := rd_retL (el_lst (ea_cons (ev_neg ev_c) ea_nil) (by simp)) k
theorem bnot_t {b : Bool} (h : (!b) = true) : b = false := by cases b <;> simp_all
theorem bnot_f {b : Bool} (h : (!b) = false) : b = true := by cases b <;> simp_all
theorem Fr.nil {ts : List Str} {ls : List Addr} (e : Fr ts [] H H') : Fr ts ls H H' := e.mono (fun _ q => q) fun b q => absurd q nomem
end
/-! ### comprehensions over lists that are told by data -/
section
variable {α : Type}
def fbOf (xs : List α) (p : α → Bool) (i : Nat) : Bool := match xs[i]? with | some x => p x | none => false
def fvOf (xs : List α) (g : α → V) (i : Nat) : V := match xs[i]? with | some x => g x | none => .non
theorem fbOf_at {xs : List α} {p : α → Bool} {i : Nat} {x : α} (h : xs[i]? = some x) : fbOf xs p i = p x := by unfold fbOf; rw [h]
theorem fvOf_at {xs : List α} {g : α → V} {i : Nat} {x : α} (h : xs[i]? = some x) : fvOf xs g i = g x := by unfold fvOf; rw [h]
theorem given_of (p : α → Bool) (g : α → V) : ∀ xs : List α, given xs.length (fbOf xs p) (fvOf xs g) = (xs.filter p).map g
  | [] => rfl
  | x :: r => by
    have ih := given_of p g r
    unfold given at ih ⊢
    rw [List.length_cons, List.range_succ_eq_map, List.filter_cons]
    have e1 : fbOf (x :: r) p 0 = p x := rfl
    have e2 : ((List.range r.length).map Nat.succ).filter (fbOf (x :: r) p) = ((List.range r.length).filter (fbOf r p)).map Nat.succ := by
      rw [List.filter_map]
      rfl
    have e3 : (((List.range r.length).filter (fbOf r p)).map Nat.succ).map (fvOf (x :: r) g) = ((List.range r.length).filter (fbOf r p)).map (fvOf r g) := by
      rw [List.map_map]
      rfl
    rw [e1, e2, List.filter_cons]
    cases p x
    · simp only [Bool.false_eq_true, if_false]
      rw [e3, ih]
    · simp only [if_true]
      rw [List.map_cons, List.map_cons, e3, ih]
      rfl
variable {K : PySem.W.Frag} {σ : L2.St} {H : Hp} {tl te tn : TE} {tt : TT} {j : Nat} {vs : List Nat}
theorem el_mapL {a : Addr} {l : List V} {xs : List α} (p : α → Bool) (g : α → V) (h : Ev tl σ H (.ref a)) (hx : SqL K H a l) (hl : l.length = xs.length) (hz : xs.length ≤ 40000) (hw : ∀ x, wipe ((wipe σ vs).set j (some x)) vs = wipe σ vs)
    (ht : ∀ (i : Nat) (v : V) (x : α) H1, Ex H H1 → l[i]? = some v → xs[i]? = some x → EvT tt ((wipe σ vs).set j (some v)) H1 (p x)) (he : ∀ (i : Nat) (v : V) (x : α) H1, Ex H H1 → l[i]? = some v → xs[i]? = some x → p x = true → Ev te ((wipe σ vs).set j (some v)) H1 (g x)) :
    EvL (tLc (iList K tl) (gName j) tt te vs) σ H ((xs.filter p).map g) := by
  rw [← given_of p g xs, ← hl]
  refine el_lcL _ _ h hx (by rw [hl]; exact hz) hw (fun i v H1 e1 hv => ?_) (fun i v H1 e1 hv hf => ?_)
  · have hi : i < xs.length := by rw [← hl]; exact (List.getElem?_eq_some_iff.mp hv).1
    rw [fbOf_at (List.getElem?_eq_getElem hi)]
    exact ht i v _ H1 e1 hv (List.getElem?_eq_getElem hi)
  · have hi : i < xs.length := by rw [← hl]; exact (List.getElem?_eq_some_iff.mp hv).1
    rw [fbOf_at (List.getElem?_eq_getElem hi)] at hf
    rw [fvOf_at (List.getElem?_eq_getElem hi)]
    exact he i v _ H1 e1 hv (List.getElem?_eq_getElem hi) hf
theorem el_mapN {l : List V} {xs : List α} (p : α → Bool) (g : α → V) (h : EvL tl σ H l) (hl : l.length = xs.length) (hz : xs.length ≤ 40000) (hw : ∀ x, wipe ((wipe σ vs).set j (some x)) vs = wipe σ vs)
    (ht : ∀ (i : Nat) (v : V) (x : α) H1, Ex H H1 → l[i]? = some v → xs[i]? = some x → EvT tt ((wipe σ vs).set j (some v)) H1 (p x)) (he : ∀ (i : Nat) (v : V) (x : α) H1, Ex H H1 → l[i]? = some v → xs[i]? = some x → p x = true → Ev te ((wipe σ vs).set j (some v)) H1 (g x)) :
    EvL (tLc (iList K tl) (gName j) tt te vs) σ H ((xs.filter p).map g) := by
  rw [← given_of p g xs, ← hl]
  refine el_lcNL _ _ h (by rw [hl]; exact hz) hw (fun i v H1 e1 hv => ?_) (fun i v H1 e1 hv hf => ?_)
  · have hi : i < xs.length := by rw [← hl]; exact (List.getElem?_eq_some_iff.mp hv).1
    rw [fbOf_at (List.getElem?_eq_getElem hi)]
    exact ht i v _ H1 e1 hv (List.getElem?_eq_getElem hi)
  · have hi : i < xs.length := by rw [← hl]; exact (List.getElem?_eq_some_iff.mp hv).1
    rw [fbOf_at (List.getElem?_eq_getElem hi)] at hf
    rw [fvOf_at (List.getElem?_eq_getElem hi)]
    exact he i v _ H1 e1 hv (List.getElem?_eq_getElem hi) hf
theorem el_mapR {n : Nat} (p : Nat → Bool) (g : Nat → V) (h : Ev tn σ H (.int (n : Nat))) (hz : n ≤ 40000) (hw : ∀ x, wipe ((wipe σ vs).set j (some x)) vs = wipe σ vs)
    (ht : ∀ (i : Nat) H1, Ex H H1 → i < n → EvT tt ((wipe σ vs).set j (some (.int (i : Nat)))) H1 (p i)) (he : ∀ (i : Nat) H1, Ex H H1 → i < n → p i = true → Ev te ((wipe σ vs).set j (some (.int (i : Nat)))) H1 (g i)) :
    EvL (tLc (iRng1 (tCons tn tNil)) (gName j) tt te vs) σ H (((List.range n).filter p).map g) :=
  el_lcR1 (n := (n : Int)) p g (ea_cons h ea_nil) ⟨by omega, by omega⟩ hw (fun i H1 e1 hi => ht i H1 e1 (by omega)) (fun i H1 e1 hi hf => he i H1 e1 (by omega) hf)
theorem el_mapE {ta : TA} {j1 j2 : Nat} {l : List V} {xs : List α} (p : Nat → α → Bool) (g : Nat → α → V) (hx : ∀ H1, Ex H H1 → ∀ Q : List V → Hp → Prop, (∀ q H2, Ex H1 H2 → SqL K H2 q l → Q [.ref q] H2) → ta σ H1 Q) (hl : l.length = xs.length) (hz : xs.length ≤ 40000)
    (hw : ∀ x y, wipe (((wipe σ vs).set j1 (some x)).set j2 (some y)) vs = wipe σ vs)
    (ht : ∀ (i : Nat) (v : V) (x : α) H1, Ex H H1 → l[i]? = some v → xs[i]? = some x → EvT tt (((wipe σ vs).set j1 (some (.int (i : Nat)))).set j2 (some v)) H1 (p i x))
    (he : ∀ (i : Nat) (v : V) (x : α) H1, Ex H H1 → l[i]? = some v → xs[i]? = some x → p i x = true → Ev te (((wipe σ vs).set j1 (some (.int (i : Nat)))).set j2 (some v)) H1 (g i x)) :
    EvL (tLc (iEnum K ta) (gTup K 2 (gCons (gName j1) (gCons (gName j2) gNil))) tt te vs) σ H ((xs.zipIdx.filter fun z => p z.2 z.1).map fun z => g z.2 z.1) := by
  have zl : xs.zipIdx.length = xs.length := List.length_zipIdx
  have za : ∀ {i : Nat} {x : α}, xs[i]? = some x → xs.zipIdx[i]? = some (x, i) := fun {i x} h => by
    rw [List.getElem?_zipIdx, h]
    simp
  rw [← given_of (fun z => p z.2 z.1) (fun z => g z.2 z.1) xs.zipIdx, zl, ← hl]
  refine el_lcE hx (by rw [hl]; exact hz) hw (fun i v H1 e1 hv => ?_) (fun i v H1 e1 hv hf => ?_)
  · have hi : i < xs.length := by rw [← hl]; exact (List.getElem?_eq_some_iff.mp hv).1
    rw [fbOf_at (za (List.getElem?_eq_getElem hi))]
    exact ht i v _ H1 e1 hv (List.getElem?_eq_getElem hi)
  · have hi : i < xs.length := by rw [← hl]; exact (List.getElem?_eq_some_iff.mp hv).1
    rw [fbOf_at (za (List.getElem?_eq_getElem hi))] at hf
    rw [fvOf_at (za (List.getElem?_eq_getElem hi))]
    exact he i v _ H1 e1 hv (List.getElem?_eq_getElem hi) hf
theorem filter_tt (l : List α) : l.filter (fun _ => true) = l := List.filter_eq_self.mpr (by simp)
theorem et_yes : EvT tYes σ H true := fun H1 _ _ q => q H1 (Ex.refl H1)
end
section
variable {A : Adr} {K : PySem.W.Frag} {mg : Str → Option Value}
theorem natsV_ints (l : List Nat) : natsV l = intsV (l.map fun (n : Nat) => (n : Int)) := by
  unfold natsV intsV
  rw [List.map_map]
  rfl
theorem kin_toNat {z lo hi : Int} (h : kin z lo hi = true) (h0 : 0 ≤ lo) : ∃ n : Nat, z = n ∧ z.toNat = n ∧ lo ≤ (n : Int) ∧ (n : Int) ≤ hi := by
  unfold kin at h
  rw [Bool.and_eq_true] at h
  have h1 := of_decide_eq_true h.1
  have h2 := of_decide_eq_true h.2
  exact ⟨z.toNat, by omega, rfl, by omega, by omega⟩
theorem pure_Polder_run (T : Txt K mg A) (vs : List V) (H : Hp) (Q : VK) (E : XK) (h : sp_Polder_run A K vs H Q E) : t_Polder_run A K (DE Q) (start N_Polder_run vs) H := by
  obtain ⟨y, st, n, r, e, rfl, hp, ok, k⟩ := h
  have hi := hp.ins
  refine rd_at (rd_when (b := !(kin n 0 100 && (kin r 0 500 && kin e 0 500))) (by fail "ev") ?_ ?_)
  · intro c
    have c : (kin n 0 100 && (kin r 0 500 && kin e 0 500)) = false := bnot_t c
    have hz : Kg79.spec st (.run n r e) = (st, Kg79.num (-1)) := if_pos c
    rw [hz] at k
    exact rd_ref (post_same rfl hp k)
  · intro c
    have c : (kin n 0 100 && (kin r 0 500 && kin e 0 500)) = true := bnot_f c
    have hz : Kg79.spec st (.run n r e) = (Kg79.State.steps r.toNat e.toNat n.toNat st, ⟨((Kg79.State.steps r.toNat e.toNat n.toNat st).time : Nat), Kg79.whole ((Kg79.State.steps r.toNat e.toNat n.toNat st).sections.map Kg79.Section.level)⟩) := if_neg (by rw [show (Kg79.within n 0 100 && (Kg79.within r 0 500 && Kg79.within e 0 500)) = true from c]; decide)
    rw [hz] at k
    rw [Bool.and_eq_true, Bool.and_eq_true] at c
    obtain ⟨n, rfl, en, _, n2⟩ := kin_toNat c.1 (by decide)
    obtain ⟨r, rfl, er, _, r2⟩ := kin_toNat c.2.1 (by decide)
    obtain ⟨e, rfl, ee, _, e2⟩ := kin_toNat c.2.2 (by decide)
    rw [en, er, ee] at k
    have snoc : ∀ (m : Nat) (s : Kg79.State), Kg79.State.steps r e (m + 1) s = (Kg79.State.steps r e m s).step r e := fun m => by
      induction m with
      | zero => intro s; rfl
      | succ m ih => intro s; show Kg79.State.steps r e (m + 1) (s.step r e) = _; rw [ih]; rfl
    have okS : ∀ m : Nat, PolOk (Kg79.State.steps r e m st) := fun m => by
      induction m with
      | zero => exact ok
      | succ m ih => rw [snoc]; exact (step_ok ih r e).1
    refine rd_seq (rd_forR (n := n) (by fail "ev") ⟨by omega, by omega⟩ (fun i σ H' => ∃ v : Option V, σ = [some (.ref y.p), some (.int n), some (.int r), some (.int e), v, none] ∧ PolAt A H' y (Kg79.State.steps r e i st) ∧ Fr polTags [] H H')
      (fun H1 e1 => ⟨none, rfl, hp.mono e1, Fr.of_ex e1⟩) ?_ ?_)
    · rintro i σ H' hin ⟨v, rfl, hp', fr'⟩
      have hi' := hp'.ins
      refine rd_at (rd_dropM (ev_var rfl) (hm_Polder_step hi') (ea_cons (ev_var rfl) (ea_cons (ev_var rfl) ea_nil)) fun H3 e3 => ?_)
      refine ⟨y, _, r, e, rfl, hp'.mono e3, okS i, by omega, by omega, fun H4 hp4 fr4 => ?_⟩
      exact ⟨_, rfl, by rw [snoc]; exact hp4, (fr'.trans (Fr.of_ex e3)).trans fr4⟩
    · rintro σ H' ⟨v, rfl, hp', fr'⟩
      have et : (n : Int).toNat = n := rfl
      rw [et] at hp'
      have ok' := okS n
      generalize Kg79.State.steps r e n st = st2 at *
      have hi' := hp'.ins
      have hs' : SqL K H' y.s (refsV y.secs) := sq_of hp'.sl
      have hl : y.secs.length = st2.sections.length := hp'.so.len
      dsimp only
      refine rd_at (rd_retLE (v := V.int (st2.time : Nat) :: (st2.sections.filter fun _ => true).map fun x => .int (x.level : Nat)) ?_ ?_ (post_go hp' rfl rfl rfl rfl fr'.nil k))
      · refine el_cat (xs := [V.int (st2.time : Nat)]) (el_lst (ea_cons (by fail "ev") ea_nil) (by simp)) (el_mapL _ _ (by fail "ev") hs' (by rw [len_refs, hl]) (Nat.le_trans ok'.nsec (by decide)) (fun x => rfl) (fun i v x H1 e1 hv hx => et_yes) ?_) ?_
        · intro i v x H1 e1 hv hx _
          obtain ⟨b, hb, rfl⟩ := at_refs hv
          have hsec := (hp'.so.at_ i b x hb hx).mono e1
          obtain ⟨k1, k2⟩ := ok'.area x (List.mem_of_getElem? hx)
          exact ev_meth (ev_var rfl) (hm_Section_level hsec) ea_nil (sv_level hsec k1 k2)
        · rw [filter_tt, List.length_map]
          exact Nat.le_trans (Nat.add_le_add_left ok'.nsec 1) (by decide)
      · rw [filter_tt]
        unfold ansP intsV Kg79.whole
        rw [List.map_cons, List.map_map, List.map_map]
        rfl
end

/-! ### an __init__ that stores values -/
def tInit (K : PySem.W.Frag) : List (TE × Str) → TS
  | [] => tNext
  | [(te, f)] => sFld K (tVar 0) te f
  | (te, f) :: g :: r => tSeq (sFld K (tVar 0) te f) (tInit K (g :: r))
def Apart (H H' : Hp) (p : Addr) : Prop := ∀ b o, H b = some o → b ≠ p → H' b = some o
theorem Apart.refl {H : Hp} {p : Addr} : Apart H H p := fun _ _ h _ => h
theorem Apart.ex {H H1 H2 : Hp} {p : Addr} (a : Apart H H1 p) (e : Ex H1 H2) : Apart H H2 p := fun b o h n => e _ _ (a b o h n)
theorem Apart.upd {H H1 : Hp} {p : Addr} {o : HO} (a : Apart H H1 p) : Apart H (upd H1 p o) p := fun b u h n => by rw [upd_ne n]; exact a b u h n
def EvX (te : TE) (σ : L2.St) (H : Hp) (p : Addr) (v : V) : Prop := ∀ H1, Apart H H1 p → ∀ Q : VK, (∀ H2, Ex H1 H2 → Q v H2) → te σ H1 Q
section
variable {A : Adr} {K : PySem.W.Frag} {mg : Str → Option Value} {σ : L2.St} {H H0 H1 H' : Hp} {p C dx : Addr} {v : V} {i : Nat}
theorem ex_var (h : σ[i]? = some (some v)) : EvX (tVar i) σ H p v := fun H1 _ Q q => ⟨v, h, q H1 (Ex.refl H1)⟩
theorem ex_c : EvX (tC v) σ H p v := fun H1 _ Q q => q H1 (Ex.refl H1)
theorem rd_init {D : Ends} (cl : Cls K C) (hs : σ[0]? = some (some (.ref p))) : ∀ (l : List (TE × Str × V)) (fs : List (Str × V)) (H : Hp), l ≠ [] → (∀ x ∈ l, NoAttr K C x.2.1 ∧ EvX x.1 σ H0 p x.2.2) → (fs.map (·.1) ++ l.map (·.2.1)).Nodup → (fs.map (·.1) ++ l.map (·.2.1)).length < 900 →
    Apart H0 H p → H p = some (.ins C dx fs) → (∀ H', Apart H0 H' p → H' p = some (.ins C dx (fs ++ l.map fun x => (x.2.1, x.2.2))) → D.nx σ H') → tInit K (l.map fun x => (x.1, x.2.1)) D σ H
  | [], _, _, h, _, _, _, _, _, _ => absurd rfl h
  | [x], fs, H, _, hx, nd, len, ap, hp, k => by
    obtain ⟨te, f, v⟩ := x
    obtain ⟨n, ev⟩ := hx _ (List.mem_singleton.mpr rfl)
    refine ev H ap _ fun H1 e1 => ?_
    refine ⟨.ref p, hs, p, C, dx, fs, rfl, e1 _ _ hp, cl, n, ?_, ?_⟩
    · rw [List.length_append, List.length_map] at len
      omega
    · refine k _ (ap.ex e1).upd ?_
      rw [upd_same, put_new rfl ?_]
      · rfl
      · cases hc : (fs.map (·.1)).contains f with
        | false => rfl
        | true =>
          have hm : f ∈ fs.map (·.1) := by simpa using hc
          exact absurd rfl ((List.nodup_append.mp nd).2.2 f hm f (by simp))
  | x :: y :: r, fs, H, _, hx, nd, len, ap, hp, k => by
    obtain ⟨te, f, v⟩ := x
    obtain ⟨n, ev⟩ := hx _ List.mem_cons_self
    refine ev H ap _ fun H1 e1 => ?_
    refine ⟨.ref p, hs, p, C, dx, fs, rfl, e1 _ _ hp, cl, n, ?_, ?_⟩
    · rw [List.length_append, List.length_map] at len
      omega
    · have hn : (fs.map (·.1)).contains f = false := by
        cases hc : (fs.map (·.1)).contains f with
        | false => rfl
        | true =>
          have hm : f ∈ fs.map (·.1) := by simpa using hc
          exact absurd rfl ((List.nodup_append.mp nd).2.2 f hm f (by simp))
      have e2 : (fs ++ [(f, v)]).map (·.1) ++ (y :: r).map (·.2.1) = fs.map (·.1) ++ ((te, f, v) :: y :: r).map (·.2.1) := by simp
      refine rd_init cl hs (y :: r) (fs ++ [(f, v)]) _ (by simp) (fun z hz => hx z (List.mem_cons_of_mem _ hz)) (by rw [e2]; exact nd) (by rw [e2]; exact len) (ap.ex e1).upd ?_ (fun H' ap' hp' => k H' ap' ?_)
      · rw [upd_same, put_new rfl hn]
      · rw [hp']
        simp
theorem rd_init0 {D : Ends} (names : List Str) (cl : Cls K C) (hs : σ[0]? = some (some (.ref p))) (l : List (TE × Str × V)) (hn : l.map (·.2.1) = names) (nd : names.Nodup) (len : names.length < 900) (h0 : l ≠ []) (hx : ∀ x ∈ l, NoAttr K C x.2.1 ∧ EvX x.1 σ H p x.2.2)
    (hp : H p = some (.ins C dx [])) (k : ∀ H', Apart H H' p → H' p = some (.ins C dx (l.map fun x => (x.2.1, x.2.2))) → D.nx σ H') : tInit K (l.map fun x => (x.1, x.2.1)) D σ H :=
  rd_init cl hs l [] H h0 hx (by rw [hn]; exact nd) (by rw [hn]; exact len) Apart.refl hp k
theorem pure_Section___init__ (T : Txt K mg A) (vs : List V) (H : Hp) (Q : VK) (E : XK) (h : sp_Section___init__ A K vs H Q E) : t_Section___init__ A K (DE Q) (start N_Section___init__ vs) H := by
  obtain ⟨p, dx, as, fs, rfl, hp, ⟨a, l, h, rfl, ha, rfl⟩, k⟩ := h
  refine rd_init0 (D := DE Q) (names := ["area", "water", "alarm", "alarms"]) (C := A.c_Section) (σ := L2.start N_Section___init__ [.ref p, .int a, .int l, .int h]) T.Section.cl rfl [(tVar 1, "area", .int a), (tOp rMulI (tVar 1) (tVar 2), "water", .int ((a * l : Nat) : Int)), (tVar 3, "alarm", .int h), (tC (.int 0), "alarms", .int 0)] rfl (by decide +kernel) (by decide) (by simp) ?_ hp
    (fun H' ap hp' => k H' ⟨dx, hp'⟩ ap)
  simp only [List.forall_mem_cons, List.not_mem_nil, false_implies, implies_true, and_true]
  refine ⟨⟨T.Section.n_area, ex_var rfl⟩, ⟨T.Section.n_water, fun H1 _ Q q => ?_⟩, ⟨T.Section.n_alarm, ex_var rfl⟩, T.Section.n_alarms, ex_c⟩
  exact ev_eq (ev_mul (ev_var rfl) (ev_var rfl) (cmulL (by omega) (by omega))) (by rw [Int.natCast_mul]) H1 (Ex.refl H1) Q q
theorem pure_Device___init__ (T : Txt K mg A) (vs : List V) (H : Hp) (Q : VK) (E : XK) (h : sp_Device___init__ A K vs H Q E) : t_Device___init__ A K (DE Q) (start N_Device___init__ vs) H := by
  obtain ⟨p, dx, as, fs, rfl, hp, ⟨d, rfl, h1, h2, h3, rfl⟩, k⟩ := h
  refine rd_init0 (D := DE Q) (names := ["kind", "section", "target", "mark", "amount", "stop", "is_running", "moved", "turns"]) (C := A.c_Device) (σ := L2.start N_Device___init__ [.ref p, .int d.kind, .int d.from_, .int (tgt d), .int d.crest, .int d.cap, .int d.off]) T.Device.cl rfl
    [(tVar 1, "kind", .int d.kind), (tVar 2, "section", .int d.from_), (tVar 3, "target", .int (tgt d)), (tVar 4, "mark", .int d.crest), (tVar 5, "amount", .int d.cap), (tVar 6, "stop", .int d.off), (tC (.bl false), "is_running", .bl false), (tC (.int 0), "moved", .int 0), (tC (.int 0), "turns", .int 0)] rfl (by decide +kernel) (by decide) (by simp) ?_ hp
    (fun H' ap hp' => k H' ⟨dx, ?_⟩ ap)
  · simp only [List.forall_mem_cons, List.not_mem_nil, false_implies, implies_true, and_true]
    exact ⟨⟨T.Device.n_kind, ex_var rfl⟩, ⟨T.Device.n_section, ex_var rfl⟩, ⟨T.Device.n_target, ex_var rfl⟩, ⟨T.Device.n_mark, ex_var rfl⟩, ⟨T.Device.n_amount, ex_var rfl⟩, ⟨T.Device.n_stop, ex_var rfl⟩, ⟨T.Device.n_is_running, ex_c⟩, ⟨T.Device.n_moved, ex_c⟩, T.Device.n_turns, ex_c⟩
  · rw [hp']
    unfold devF
    rw [h1, h2, h3]
    rfl
theorem pure_Block___init__ (T : Txt K mg A) (vs : List V) (H : Hp) (Q : VK) (E : XK) (h : sp_Block___init__ A K vs H Q E) : t_Block___init__ A K (DE Q) (start N_Block___init__ vs) H := by
  obtain ⟨p, dx, as, fs, rfl, hp, ⟨b, rfl, rfl⟩, k⟩ := h
  refine rd_init0 (D := DE Q) (names := ["x", "y", "x2", "y2", "floors"]) (C := A.c_Block) (σ := L2.start N_Block___init__ [.ref p, .int b.x, .int b.y, .int b.x2, .int b.y2, .int b.floors]) T.Block.cl rfl
    [(tVar 1, "x", .int b.x), (tVar 2, "y", .int b.y), (tVar 3, "x2", .int b.x2), (tVar 4, "y2", .int b.y2), (tVar 5, "floors", .int b.floors)] rfl (by decide +kernel) (by decide) (by simp) ?_ hp
    (fun H' ap hp' => k H' ⟨dx, hp'⟩ ap)
  simp only [List.forall_mem_cons, List.not_mem_nil, false_implies, implies_true, and_true]
  exact ⟨⟨T.Block.n_x, ex_var rfl⟩, ⟨T.Block.n_y, ex_var rfl⟩, ⟨T.Block.n_x2, ex_var rfl⟩, ⟨T.Block.n_y2, ex_var rfl⟩, T.Block.n_floors, ex_var rfl⟩
theorem pure_Square___init__ (T : Txt K mg A) (vs : List V) (H : Hp) (Q : VK) (E : XK) (h : sp_Square___init__ A K vs H Q E) : t_Square___init__ A K (DE Q) (start N_Square___init__ vs) H := by
  obtain ⟨p, dx, as, fs, rfl, hp, ⟨i, h, rfl, rfl⟩, k⟩ := h
  refine rd_init0 (D := DE Q) (names := ["section", "height", "peak", "wet"]) (C := A.c_Square) (σ := L2.start N_Square___init__ [.ref p, .int i, .int h]) T.Square.cl rfl
    [(tVar 1, "section", .int i), (tVar 2, "height", .int h), (tC (.int 0), "peak", .int 0), (tC (.int 0), "wet", .int 0)] rfl (by decide +kernel) (by decide) (by simp) ?_ hp
    (fun H' ap hp' => k H' ⟨dx, hp'⟩ ap)
  simp only [List.forall_mem_cons, List.not_mem_nil, false_implies, implies_true, and_true]
  exact ⟨⟨T.Square.n_section, ex_var rfl⟩, ⟨T.Square.n_height, ex_var rfl⟩, ⟨T.Square.n_peak, ex_c⟩, T.Square.n_wet, ex_c⟩
theorem ne_tag {C1 C2 a b d1 d2 : Addr} {f1 f2 : List (Str × V)} (h1 : H a = some (.ins C1 d1 f1)) (h2 : H b = some (.ins C2 d2 f2)) (n : f1.map (·.1) ≠ f2.map (·.1)) : a ≠ b := ne_of h1 h2 fun z => n (by injection z with _ _ z; rw [z])
theorem pure_Rules___init__ (T : Txt K mg A) (vs : List V) (H : Hp) (Q : VK) (E : XK) (h : sp_Rules___init__ A K vs H Q E) : t_Rules___init__ A K (DE Q) (start N_Rules___init__ vs) H := by
  obtain ⟨p, dx, a, r, rfl, hp, hs, k⟩ := h
  have hne : ∀ H1, Apart H H1 p → SqL K H1 a (natsV [r.front, r.side, r.base, r.rise, r.top, r.floor, r.covered, r.floors, r.green, r.car, r.gap]) := fun H1 ap => by
    rcases hs with (h | ⟨o, h⟩) | h
    · exact .inl (.inl (ap _ _ h (ne_of h hp (by intro z; cases z))))
    · exact .inl (.inr ⟨o, ap _ _ h (ne_of h hp (by intro z; cases z))⟩)
    · exact .inr h
  have ix : ∀ (i n : Nat) (σ : L2.St), σ[1]? = some (some (.ref a)) → [r.front, r.side, r.base, r.rise, r.top, r.floor, r.covered, r.floors, r.green, r.car, r.gap][i]? = some n → EvX (tOp (rIxL K) (tVar 1) (tC (.int (i : Nat)))) σ H p (.int n) := fun i n σ h1 h2 H1 ap Q q =>
    ev_ixL (ev_var h1) ev_c (hne H1 ap) (atI_nat (nats_at h2)) H1 (Ex.refl H1) Q q
  refine rd_init0 (D := DE Q) (names := ["front", "side", "base", "rise", "top", "floor", "covered", "floors", "green", "car", "gap"]) (C := A.c_Rules) (σ := L2.start N_Rules___init__ [.ref p, .ref a]) T.Rules.cl rfl
    [(tOp (rIxL K) (tVar 1) (tC (.int 0)), "front", .int r.front), (tOp (rIxL K) (tVar 1) (tC (.int 1)), "side", .int r.side), (tOp (rIxL K) (tVar 1) (tC (.int 2)), "base", .int r.base), (tOp (rIxL K) (tVar 1) (tC (.int 3)), "rise", .int r.rise), (tOp (rIxL K) (tVar 1) (tC (.int 4)), "top", .int r.top), (tOp (rIxL K) (tVar 1) (tC (.int 5)), "floor", .int r.floor),
     (tOp (rIxL K) (tVar 1) (tC (.int 6)), "covered", .int r.covered), (tOp (rIxL K) (tVar 1) (tC (.int 7)), "floors", .int r.floors), (tOp (rIxL K) (tVar 1) (tC (.int 8)), "green", .int r.green), (tOp (rIxL K) (tVar 1) (tC (.int 9)), "car", .int r.car), (tOp (rIxL K) (tVar 1) (tC (.int 10)), "gap", .int r.gap)] rfl (by decide +kernel) (by decide) (by simp) ?_ hp
    (fun H' ap hp' => k H' ⟨dx, hp'⟩ ap)
  simp only [List.forall_mem_cons, List.not_mem_nil, false_implies, implies_true, and_true]
  exact ⟨⟨T.Rules.n_front, ix 0 _ _ rfl rfl⟩, ⟨T.Rules.n_side, ix 1 _ _ rfl rfl⟩, ⟨T.Rules.n_base, ix 2 _ _ rfl rfl⟩, ⟨T.Rules.n_rise, ix 3 _ _ rfl rfl⟩, ⟨T.Rules.n_top, ix 4 _ _ rfl rfl⟩, ⟨T.Rules.n_floor, ix 5 _ _ rfl rfl⟩,
    ⟨T.Rules.n_covered, ix 6 _ _ rfl rfl⟩, ⟨T.Rules.n_floors, ix 7 _ _ rfl rfl⟩, ⟨T.Rules.n_green, ix 8 _ _ rfl rfl⟩, ⟨T.Rules.n_car, ix 9 _ _ rfl rfl⟩, T.Rules.n_gap, ix 10 _ _ rfl rfl⟩
end

section
variable {A : Adr} {K : PySem.W.Frag} {mg : Str → Option Value} {σ : L2.St} {H H0 H1 H' : Hp} {p C dx a : Addr} {v : V} {i : Nat} {te ta tb : TE} {fs : List (Str × V)} {f : Str} {D : Ends}
theorem sfld_go (cl : Cls K C) (hs : σ[0]? = some (some (.ref p))) (n : NoAttr K C f) (ev : EvX te σ H0 p v) (ap : Apart H0 H p) (hp : H p = some (.ins C dx fs)) (hn : (fs.map (·.1)).contains f = false) (hl : fs.length < 1000)
    (k : ∀ H', Apart H0 H' p → H' p = some (.ins C dx (fs ++ [(f, v)])) → D.nx σ H') : sFld K (tVar 0) te f D σ H := ev H ap _ fun H1 e1 =>
  ⟨.ref p, hs, p, C, dx, fs, rfl, e1 _ _ hp, cl, n, hl, k _ (ap.ex e1).upd (by rw [upd_same, put_new rfl hn])⟩
theorem sfld_new (cl : Cls K C) (hs : σ[0]? = some (some (.ref p))) (n : NoAttr K C f) (hp : H p = some (.ins C dx fs)) (hn : (fs.map (·.1)).contains f = false) (hl : fs.length < 1000)
    (k : ∀ q H', H q = none → Apart H H' p → H' q = some (.lst []) → H' p = some (.ins C dx (fs ++ [(f, .ref q)])) → D.nx σ H') : sFld K (tVar 0) (tLst tNil) f D σ H :=
  ⟨Nat.zero_le _, fun q hq => ⟨.ref p, hs, p, C, dx, fs, rfl, by rw [upd_ne (ne_of_none hp hq)]; exact hp, cl, n, hl, k q _ hq (fun b o h ne => by rw [upd_ne ne, upd_ne (ne_of_none h hq)]; exact h) (by rw [upd_ne (Ne.symm (ne_of_none hp hq)), upd_same]) (by rw [upd_same, put_new rfl hn])⟩⟩
theorem Apart.trans {H H1 H2 : Hp} (a : Apart H H1 p) (b : Apart H1 H2 p) : Apart H H2 p := fun c o h n => b c o (a c o h n) n
theorem Apart.free {H H1 : Hp} (a : Apart H H1 p) {q : Addr} (h : H1 q = none) (n : q ≠ p) : H q = none := by
  cases e : H q with
  | none => rfl
  | some o => rw [a q o e n] at h; cases h
theorem pure_Polder___init__ (T : Txt K mg A) (vs : List V) (H : Hp) (Q : VK) (E : XK) (h : sp_Polder___init__ A K vs H Q E) : t_Polder___init__ A K (DE Q) (start N_Polder___init__ vs) H := by
  obtain ⟨p, dx, t, l, rfl, hp, ht, k⟩ := h
  have tp : t ≠ p := ne_of ht hp (by intro z; cases z)
  refine sfld_go (H0 := H) T.Polder.cl rfl T.Polder.n_tide (ex_var rfl) Apart.refl hp rfl (l1000 rfl) fun H1 ap1 hp1 => ?_
  refine sfld_go (H0 := H) T.Polder.cl rfl T.Polder.n_time ex_c ap1 hp1 (by show (["tide"] : List Str).contains "time" = false; decide +kernel) (l1000 rfl) fun H2 ap2 hp2 => ?_
  refine sfld_new T.Polder.cl rfl T.Polder.n_sections hp2 (by show (["tide", "time"] : List Str).contains "sections" = false; decide +kernel) (l1000 rfl) fun s H3 ns ap3 hs3 hp3 => ?_
  refine sfld_new T.Polder.cl rfl T.Polder.n_devices hp3 (by show (["tide", "time", "sections"] : List Str).contains "devices" = false; decide +kernel) (l1000 rfl) fun d H4 nd ap4 hd4 hp4 => ?_
  have sp : s ≠ p := Ne.symm (ne_of_none hp2 ns)
  have dp : d ≠ p := Ne.symm (ne_of_none hp3 nd)
  have sd : s ≠ d := ne_of_none hs3 nd
  refine sfld_go (H0 := H4) T.Polder.cl rfl T.Polder.n_rained ex_c Apart.refl hp4 (by show (["tide", "time", "sections", "devices"] : List Str).contains "rained" = false; decide +kernel) (l1000 rfl) fun H5 ap5 hp5 => ?_
  refine sfld_go (H0 := H4) T.Polder.cl rfl T.Polder.n_dried ex_c ap5 hp5 (by show (["tide", "time", "sections", "devices", "rained"] : List Str).contains "dried" = false; decide +kernel) (l1000 rfl) fun H6 ap6 hp6 => ?_
  refine sfld_go (H0 := H4) T.Polder.cl rfl T.Polder.n_let_in ex_c ap6 hp6 (by show (["tide", "time", "sections", "devices", "rained", "dried"] : List Str).contains "let_in" = false; decide +kernel) (l1000 rfl) fun H7 ap7 hp7 => ?_
  refine sfld_go (H0 := H4) T.Polder.cl rfl T.Polder.n_let_out ex_c ap7 hp7 (by show (["tide", "time", "sections", "devices", "rained", "dried", "let_in"] : List Str).contains "let_out" = false; decide +kernel) (l1000 rfl) fun H8 ap8 hp8 => ?_
  have apA : Apart H H4 p := (ap2.trans ap3).trans ap4
  refine k H8 ⟨p, t, s, d, [], []⟩ ⟨⟨dx, hp8⟩, ap8 _ _ (apA _ _ ht tp) tp, ap8 _ _ (ap4 _ _ hs3 sp) sp, ap8 _ _ hd4 dp, ObjsAt.nil, ObjsAt.nil⟩ rfl rfl ?_ ?_ sd (apA.trans ap8)
  · exact ap2.free ns sp
  · exact (ap2.trans ap3).free nd dp
theorem pure_Polder_tell_device (T : Txt K mg A) (vs : List V) (H : Hp) (Q : VK) (E : XK) (h : sp_Polder_tell_device A K vs H Q E) : t_Polder_tell_device A K (DE Q) (start N_Polder_tell_device vs) H := by
  obtain ⟨xs, ⟨y, st, k, rfl, hp, ok, rfl⟩, fin⟩ := h
  have hi := hp.ins
  have hd : SqL K H y.d (refsV y.devs) := sq_of hp.dl
  have hl := hp.dv.len
  refine rd_at (rd_when (b := decide (k < 0) || decide ((st.devices.length : Int) ≤ k)) ?_ ?_ ?_)
  · refine' et_eq ?h ?e
    case h => fail "ev"
    case e => rw [len_refs, hl]
  · intro c
    have hz : (if k < 0 then none else st.devices[k.toNat]?) = none := by
      rw [Bool.or_eq_true] at c
      by_cases c0 : k < 0
      · rw [if_pos c0]
      · rw [if_neg c0]
        rcases c with c | c
        · exact absurd (of_decide_eq_true c) c0
        · have := of_decide_eq_true c
          exact List.getElem?_eq_none (by omega)
    have hz2 : (Kg79.spec st (.device k)).2 = Kg79.num (-1) := by
      show (match (if k < 0 then none else st.devices[k.toNat]?) with | none => (st, Kg79.num (-1)) | some d => _).2 = _
      rw [hz]
    rw [hz2] at fin
    exact rd_ref fin
  · intro c
    rw [Bool.or_eq_false_iff] at c
    have c0 := of_decide_eq_false c.1
    have c1 := of_decide_eq_false c.2
    obtain ⟨n, rfl⟩ : ∃ n : Nat, k = n := ⟨k.toNat, by omega⟩
    have hn : n < st.devices.length := by omega
    obtain ⟨d, hdn⟩ := at_of_len hn
    obtain ⟨a, ha, hda⟩ := hp.dv.get hdn
    have hm : d ∈ st.devices := List.mem_of_getElem? hdn
    have hz2 : (Kg79.spec st (.device n)).2 = ⟨d.kind, Kg79.whole [Kg79.truth d.runs, d.moved, d.steps, st.flow d]⟩ := by
      show (match (if (n : Int) < 0 then none else st.devices[(n : Int).toNat]?) with | none => (st, Kg79.num (-1)) | some d => (st, ⟨d.kind, Kg79.whole [Kg79.truth d.runs, d.moved, d.steps, st.flow d]⟩)).2 = _
      rw [if_neg c0, show (n : Int).toNat = n from rfl, hdn]
    rw [hz2] at fin
    refine rd_asg (v := .ref a) (by fail "ev") ?_
    refine rd_asg (v := .int (Kg79.truth d.runs : Nat)) ?_ ?_
    · refine ev_if (b := d.runs) (by fail "ev") ?_ ?_
      · intro c; rw [c]; exact ev_c
      · intro c; rw [c]; exact ev_c
    refine' rd_retLE ?h1 ?h2 fin
    case h1 => fail "ev"
    case h2 => rfl
theorem pure_Polder_tell_sums (T : Txt K mg A) (vs : List V) (H : Hp) (Q : VK) (E : XK) (h : sp_Polder_tell_sums A K vs H Q E) : t_Polder_tell_sums A K (DE Q) (start N_Polder_tell_sums vs) H := by
  obtain ⟨xs, ⟨y, st, rfl, hp, ok, rfl⟩, fin⟩ := h
  have hi := hp.ins
  have hs : SqL K H y.s (refsV y.secs) := sq_of hp.sl
  have hl := hp.so.len
  have e1 : ((st.sections.filter fun _ => true).map fun x => V.int (x.water : Nat)) = (st.sections.map fun x => ((x.water : Nat) : Int)).map V.int := by
    rw [filter_tt, List.map_map]
    rfl
  have e2 : (st.sections.map fun x => ((x.water : Nat) : Int)).sum = (st.total : Nat) := by
    unfold Kg79.State.total
    induction st.sections with
    | nil => rfl
    | cons x r ih => rw [List.map_cons, List.sum_cons, List.map_cons, List.sum_cons, ih]; omega
  refine rd_at (rd_asg (v := .int (st.total : Nat)) ?_ ?_)
  · rw [← e2]
    refine ev_sumN ?_
    rw [← e1]
    refine el_mapL _ _ (by fail "ev") hs (by rw [len_refs, hl]) (Nat.le_trans ok.nsec (by decide)) (fun x => rfl) (fun i v x H1 e1 hv hx => et_yes) ?_
    intro i v x H1 e1 hv hx _
    obtain ⟨b, hb, rfl⟩ := at_refs hv
    have hsec := (hp.so.at_ i b x hb hx).mono e1
    exact ev_fld (ev_var rfl) (has_Section_water T hsec)
  refine' rd_retLE ?h1 ?h2 fin
  case h1 => fail "ev"
  case h2 => rfl
theorem pure_Polder_tell_levels (T : Txt K mg A) (vs : List V) (H : Hp) (Q : VK) (E : XK) (h : sp_Polder_tell_levels A K vs H Q E) : t_Polder_tell_levels A K (DE Q) (start N_Polder_tell_levels vs) H := by
  obtain ⟨xs, ⟨y, st, rfl, hp, ok, rfl⟩, fin⟩ := h
  have hi := hp.ins
  have hs : SqL K H y.s (refsV y.secs) := sq_of hp.sl
  have hl := hp.so.len
  let W : Nat → List V := fun i => V.int (st.sections.length : Nat) :: natsV ((st.sections.take i).flatMap fun x => [x.level, x.water, x.alarms])
  have wl : ∀ i, (W i).length ≤ 40 := fun i => by
    show (natsV _).length + 1 ≤ 40
    rw [len_nats, List.length_flatMap]
    have : ((st.sections.take i).map fun x => [x.level, x.water, x.alarms].length).sum = 3 * (st.sections.take i).length := by
      generalize st.sections.take i = l
      induction l with
      | nil => rfl
      | cons a r ih => rw [List.map_cons, List.sum_cons, ih, List.length_cons]; simp only [List.length_cons, List.length_nil]; omega
    rw [this, List.length_take]
    have := ok.nsec
    omega
  refine rd_at (rd_asgL (xs := W 0) ?_ fun p H1 hp1 e1 hl1 => ?_)
  · refine' el_eq ?h1 ?h2
    case h1 => fail "ev"
    case h2 => rw [len_refs, hl]; rfl
  have hi1 := hi.mono e1
  refine rd_seq (rd_forL (by fail "ev") (ex_l e1 hs) (fun i σ H' => ∃ v : Option V, σ = [some (.ref y.p), some (.ref p), v] ∧ H p = none ∧ Ex H H' ∧ H' p = some (.lst (W i)))
    (fun H2 e2 => ⟨none, rfl, hp1, e1.trans e2, e2 _ _ hl1⟩) (fun i σ H' _ ⟨_, _, _, e', _⟩ => ex_l e' hs) ?_ ?_)
  · rintro i x σ H' hix ⟨v, rfl, np, e', hl'⟩
    obtain ⟨b, hb, rfl⟩ := at_refs hix
    obtain ⟨x, hx, hsec⟩ := hp.so.getA hb
    have hsec := hsec.mono e'
    obtain ⟨k1, k2⟩ := ok.area x (List.mem_of_getElem? hx)
    refine rd_at (rd_ext (ys := [.int (x.level : Nat), .int (x.water : Nat), .int (x.alarms : Nat)]) (ev_var rfl) hl' ?_ ?_ fun H2 e2 hl2 => ?_)
    · exact sz_of (Nat.le_trans (Nat.add_le_add_right (wl i) 3) (by decide))
    · fail "ev"
    refine ⟨some (.ref b), rfl, np, Ex.mut (e'.trans e2) np, ?_⟩
    rw [upd_same]
    show some (HO.lst (V.int _ :: natsV _ ++ _)) = some (HO.lst (V.int _ :: natsV _))
    rw [take_more hx, List.flatMap_append]
    unfold natsV
    rw [List.map_append]
    rfl
  · rintro σ H' ⟨v, rfl, np, e', hl'⟩
    dsimp only
    refine rd_at (rd_ret (v := .ref p) (ev_var rfl) fun H2 e2 => fin p H2 np (e'.trans e2) ?_)
    rw [e2 _ _ hl', len_refs, hl]
    show some (HO.lst (V.int _ :: natsV _)) = _
    rw [List.take_length, natsV_ints]
    rfl
end

section
variable {A : Adr} {K : PySem.W.Frag} {mg : Str → Option Value} {H H' : Hp}
theorem kin_f {z lo hi : Int} (h : kin z lo hi = false) : z < lo ∨ hi < z := by
  unfold kin at h
  rw [Bool.and_eq_false_iff] at h
  rcases h with h | h
  · exact .inl (by have := of_decide_eq_false h; omega)
  · exact .inr (by have := of_decide_eq_false h; omega)
theorem kin_t {z lo hi : Int} (h : kin z lo hi = true) : lo ≤ z ∧ z ≤ hi := by
  unfold kin at h
  rw [Bool.and_eq_true] at h
  exact ⟨of_decide_eq_true h.1, of_decide_eq_true h.2⟩
theorem kin_of {z lo hi : Int} (h1 : lo ≤ z) (h2 : z ≤ hi) : kin z lo hi = true := by
  unfold kin
  rw [decide_eq_true h1, decide_eq_true h2]
  rfl
theorem kin_iff {z lo hi : Int} : kin z lo hi = (!(decide (z < lo) || decide (hi < z))) := by
  by_cases h1 : z < lo <;> by_cases h2 : hi < z <;> simp [kin, h1, h2] <;> omega
theorem nin {a b : Addr} (h : a ≠ b) : a ∉ [b] := fun q => h (List.mem_singleton.mp q)
theorem within_kin (z lo hi : Int) : Kg79.within z lo hi = kin z lo hi := rfl
theorem pure_Polder_set_device (T : Txt K mg A) (vs : List V) (H : Hp) (Q : VK) (E : XK) (h : sp_Polder_set_device A K vs H Q E) : t_Polder_set_device A K (DE Q) (start N_Polder_set_device vs) H := by
  obtain ⟨y, st, k, c, w, rfl, hp, ok, fin⟩ := h
  have hi := hp.ins
  have hd : SqL K H y.d (refsV y.devs) := sq_of hp.dl
  have hl := hp.dv.len
  refine rd_at (rd_when (b := decide (k < 0) || (decide ((st.devices.length : Int) ≤ k) || (!kin c 0 10000 || (decide (w < 1) || decide (100000 < w))))) ?_ ?_ ?_)
  · refine' et_eq ?h ?e
    case h => fail "ev"
    case e => rw [len_refs, hl]
  · intro b
    have hz : Kg79.spec st (.set k c w) = (st, Kg79.num (-1)) := by
      show (match (if k < 0 then none else st.devices[k.toNat]?) with | none => (st, Kg79.num (-1)) | some d => _) = _
      cases hq : (if k < 0 then none else st.devices[k.toNat]?) with
      | none => rfl
      | some d =>
        have hk : ¬ k < 0 ∧ k.toNat < st.devices.length := by
          by_cases c0 : k < 0
          · rw [if_pos c0] at hq; cases hq
          · rw [if_neg c0] at hq
            exact ⟨c0, (List.getElem?_eq_some_iff.mp hq).1⟩
        rw [decide_eq_false hk.1, decide_eq_false (show ¬ (st.devices.length : Int) ≤ k by omega), Bool.false_or, Bool.false_or] at b
        refine if_pos ?_
        rw [within_kin, within_kin, kin_iff (z := w)]
        cases h1 : kin c 0 10000
        · rfl
        · rw [h1] at b
          rw [Bool.true_and, Bool.not_eq_false']
          exact b
    rw [hz] at fin
    exact rd_ref (post_same rfl hp fin)
  · intro b
    rw [Bool.or_eq_false_iff, Bool.or_eq_false_iff, Bool.or_eq_false_iff, Bool.or_eq_false_iff] at b
    obtain ⟨b1, b2, b3, b4, b5⟩ := b
    have b1 := of_decide_eq_false b1
    have b2 := of_decide_eq_false b2
    have b3 := bnot_f b3
    have b4 := of_decide_eq_false b4
    have b5 := of_decide_eq_false b5
    obtain ⟨n, rfl⟩ : ∃ n : Nat, k = n := ⟨k.toNat, by omega⟩
    have hn : n < st.devices.length := by omega
    obtain ⟨d, hdn⟩ := at_of_len hn
    obtain ⟨a, ha, hda⟩ := hp.dv.get hdn
    have hm : d ∈ st.devices := List.mem_of_getElem? hdn
    obtain ⟨c, rfl, ec, _, c2⟩ := kin_toNat b3 (by decide)
    obtain ⟨w, rfl⟩ : ∃ m : Nat, w = m := ⟨w.toNat, by omega⟩
    have hz : Kg79.spec st (.set n c w) = (if d.kind = 1 ∧ (c : Int) ≤ (d.off : Int) then (st, Kg79.num (-4)) else ({ st with devices := st.devices.set n { d with crest := c, cap := w } }, Kg79.num 0)) := by
      show (match (if (n : Int) < 0 then none else st.devices[(n : Int).toNat]?) with | none => (st, Kg79.num (-1)) | some d => _) = _
      rw [if_neg b1, show (n : Int).toNat = n from rfl, hdn]
      refine if_neg ?_
      rw [within_kin, within_kin, b3, kin_of (by omega) (by omega)]
      decide
    rw [hz] at fin
    refine rd_asg (v := .ref a) (by fail "ev") ?_
    refine rd_when (b := decide ((d.kind : Int) = 1) && decide ((c : Int) ≤ (d.off : Int))) (by fail "ev") ?_ ?_
    · intro b
      rw [Bool.and_eq_true] at b
      have k1 := of_decide_eq_true b.1
      have k2 := of_decide_eq_true b.2
      rw [if_pos ⟨by omega, k2⟩] at fin
      exact rd_ref (post_same rfl hp fin)
    · intro b
      have hno : ¬ (d.kind = 1 ∧ (c : Int) ≤ (d.off : Int)) := fun q => by
        rw [Bool.and_eq_false_iff] at b
        rcases b with b | b
        · have := of_decide_eq_false b; omega
        · exact of_decide_eq_false b q.2
      rw [if_neg hno] at fin
      refine rd_seq (rd_fldS (ev_var rfl) hda T.Device.cl T.Device.n_mark (l1000 rfl) (ev_var rfl) fun H1 dx e1 ho => ?_)
      rw [put_mark _ (n := c) rfl]
      obtain ⟨hp2, fr2⟩ := hp.setDev (dx := dx) (x' := { d with crest := c }) e1 ha hdn
      have hx2 : (st.devices.set n { d with crest := c })[n]? = some { d with crest := c } := List.getElem?_set_self hn
      refine rd_at (rd_seq (rd_fldS (ev_var rfl) (hp2.dv.at_ n a _ ha hx2) T.Device.cl T.Device.n_amount (l1000 rfl) (ev_var rfl) fun H3 dx3 e3 ho3 => ?_))
      rw [put_amount _ (n := w) rfl]
      obtain ⟨hp3, fr3⟩ := hp2.setDev (dx := dx3) (x' := { d with crest := c, cap := w }) e3 ha hx2
      have hp3' : PolAt A (upd H3 a (.ins A.c_Device dx3 (devF { d with crest := c, cap := w }))) y { st with devices := st.devices.set n { d with crest := c, cap := w } } := by
        have e := hp3
        simp only [List.set_set] at e
        exact e
      dsimp only
      exact rd_at (rd_retL (el_lst (ea_cons ev_c ea_nil) (by simp)) (post_go (z := ({ st with devices := st.devices.set n { d with crest := c, cap := w } }, Kg79.num 0)) hp3' rfl rfl rfl rfl (fr2.trans fr3).nil fin))
theorem PolAt.pushSec {H1 : Hp} {y : PL} {st : Kg79.State} {a : Addr} {x : Kg79.Section} (h : PolAt A H y st) (n1 : y.s ≠ y.d) (n2 : y.s ≠ y.t) (e : Ex H H1) (na : H a = none) (ha : SecAt A H1 a x) (hs : H1 y.s = some (.lst (refsV y.secs))) :
    PolAt A (upd H1 y.s (.lst (refsV y.secs ++ [.ref a]))) { y with secs := y.secs ++ [a] } { st with sections := st.sections ++ [x] } ∧ Fr polTags [y.s, y.d] H (upd H1 y.s (.lst (refsV y.secs ++ [.ref a]))) := by
  have F : Fr [] [y.s] H (upd H1 y.s (.lst (refsV y.secs ++ [.ref a]))) := (Fr.of_ex e).lst h.sl (List.mem_singleton.mpr rfl)
  have kp : ∀ b o, b ≠ y.s → H1 b = some o → upd H1 y.s (.lst (refsV y.secs ++ [.ref a])) b = some o := fun b o nb hb => by rw [upd_ne nb]; exact hb
  have nins : ∀ {C b dx : Addr} {fs : List (Str × V)}, H1 b = some (.ins C dx fs) → b ≠ y.s := fun hb => ne_of hb hs (by intro z; cases z)
  obtain ⟨dp, hp⟩ := h.ins
  obtain ⟨da, hda⟩ := ha
  refine ⟨⟨⟨dp, F _ _ hp (by intro q; cases q)⟩, F _ _ h.ti (nin (Ne.symm n2)), ?_, F _ _ h.dl (nin (Ne.symm n1)), ?_, h.dv.fr _ _ (fun _ => rfl) (by intro q; cases q) F⟩, F.mono (fun f q => by cases q) (fun b q => by simp at q; simp [q])⟩
  · rw [upd_same]
    unfold refsV
    rw [List.map_append]
    rfl
  · have so1 : ObjsAt A.c_Section secF (upd H1 y.s (.lst (refsV y.secs ++ [.ref a]))) y.secs st.sections := h.so.fr _ _ (fun _ => rfl) (by intro q; cases q) F
    refine ⟨by rw [List.length_append, List.length_append, so1.len]; rfl, (h.so.push (y := x) (H' := H1) na ⟨da, hda⟩ e).nd, fun j b z hb hz => ?_⟩
    have := (h.so.push (y := x) (H' := H1) na ⟨da, hda⟩ e).at_ j b z hb hz
    obtain ⟨d2, h2⟩ := this
    exact ⟨d2, kp _ _ (nins h2) h2⟩
theorem pure_Polder_add_section (T : Txt K mg A) (vs : List V) (H : Hp) (Q : VK) (E : XK) (h : sp_Polder_add_section A K vs H Q E) : t_Polder_add_section A K (DE Q) (start N_Polder_add_section vs) H := by
  obtain ⟨y, st, a, l, h, rfl, hp, ok, n1, n2, fin⟩ := h
  have hi := hp.ins
  have hs : SqL K H y.s (refsV y.secs) := sq_of hp.sl
  have hl := hp.so.len
  have hz : Kg79.spec st (.section_ a l h) = (if (kin a 1 1000 && (kin l 0 10000 && kin h 0 10000)) = false then (st, Kg79.num (-1)) else if 10 ≤ st.sections.length then (st, Kg79.num (-5)) else
      ({ st with sections := st.sections ++ [⟨a.toNat, a.toNat * l.toNat, h.toNat, 0⟩] }, Kg79.num st.sections.length)) := rfl
  rw [hz] at fin
  refine rd_at (rd_when (b := !(kin a 1 1000 && (kin l 0 10000 && kin h 0 10000))) ?_ ?_ ?_)
  · refine' et_eq ?h ?e
    case h => fail "ev"
    case e =>
      rw [kin_iff (z := a)]
      cases kin l 0 10000 <;> cases kin h 0 10000 <;> simp
      all_goals (by_cases q1 : a < 1 <;> by_cases q2 : 1000 < a <;> simp [q1, q2] <;> omega)
  · intro b
    rw [if_pos (bnot_t b)] at fin
    exact rd_ref (post_same rfl hp fin)
  · intro b
    have b := bnot_f b
    rw [if_neg (by rw [b]; decide)] at fin
    rw [Bool.and_eq_true, Bool.and_eq_true] at b
    obtain ⟨a, rfl, ea, a1, a2⟩ := kin_toNat b.1 (by decide)
    obtain ⟨l, rfl, el, l1, l2⟩ := kin_toNat b.2.1 (by decide)
    obtain ⟨h, rfl, eh, h1, h2⟩ := kin_toNat b.2.2 (by decide)
    rw [ea, el, eh] at fin
    refine rd_when (b := decide (10 ≤ (st.sections.length : Int))) ?_ ?_ ?_
    · refine' et_eq ?h ?e
      case h => fail "ev"
      case e => rw [len_refs, hl]
    · intro c
      rw [if_pos (by have := of_decide_eq_true c; omega)] at fin
      exact rd_ref (post_same rfl hp fin)
    · intro c
      have c := of_decide_eq_false c
      rw [if_neg (by omega)] at fin
      refine rd_seq (rd_appN (l := y.s) (xs := refsV y.secs) (by fail "ev") hp.sl (by rw [len_refs, hl]; omega) (en_make (fs := secF ⟨a, a * l, h, 0⟩) (ea_cons (ev_var rfl) (ea_cons (ev_var rfl) (ea_cons (ev_var rfl) ea_nil))) ⟨a, l, h, rfl, by omega, rfl⟩) fun p H1 np e1 hp1 hs1 => ?_)
      obtain ⟨hp2, fr2⟩ := hp.pushSec n1 n2 e1 np hp1 hs1
      generalize upd H1 y.s (.lst (refsV y.secs ++ [.ref p])) = H2 at hp2 fr2
      have hi2 := hp2.ins
      have hs2 : SqL K H2 y.s (refsV (y.secs ++ [p])) := sq_of hp2.sl
      dsimp only
      refine rd_at (rd_retLE (v := [.int (((y.secs ++ [p]).length : Nat) - 1 : Int)]) (el_lst (ea_cons (ev_sub ?_ ev_c) ea_nil) (by simp)) ?_ (post_go (y' := { y with secs := y.secs ++ [p] }) hp2 rfl rfl rfl rfl fr2 fin))
      · refine' ev_eq ?h1 ?h2
        case h1 => exact ev_len (ev_fld (ev_var rfl) (has_Polder_sections (y := { y with secs := y.secs ++ [p] }) T hi2)) hs2
        case h2 => rw [len_refs]
      · show [V.int _] = [V.int _]
        congr 2
        rw [List.length_append, hl]
        simp
        rfl
theorem PolAt.pushDev {H1 : Hp} {y : PL} {st : Kg79.State} {a : Addr} {x : Kg79.Device} (h : PolAt A H y st) (n1 : y.s ≠ y.d) (n2 : y.d ≠ y.t) (e : Ex H H1) (na : a ∉ y.devs) (ha : DevAt A H1 a x) (hs : H1 y.d = some (.lst (refsV y.devs))) :
    PolAt A (upd H1 y.d (.lst (refsV y.devs ++ [.ref a]))) { y with devs := y.devs ++ [a] } { st with devices := st.devices ++ [x] } ∧ Fr [] [y.d] H (upd H1 y.d (.lst (refsV y.devs ++ [.ref a]))) := by
  have F : Fr [] [y.d] H (upd H1 y.d (.lst (refsV y.devs ++ [.ref a]))) := (Fr.of_ex e).lst h.dl (List.mem_singleton.mpr rfl)
  have nins : ∀ {C b dx : Addr} {fs : List (Str × V)}, H1 b = some (.ins C dx fs) → b ≠ y.d := fun hb => ne_of hb hs (by intro z; cases z)
  obtain ⟨dp, hp⟩ := h.ins
  obtain ⟨da, hda⟩ := ha
  refine ⟨⟨⟨dp, F _ _ hp (by intro q; cases q)⟩, F _ _ h.ti (nin (Ne.symm n2)), F _ _ h.sl (nin n1), ?_, h.so.fr _ _ (fun _ => rfl) (by intro q; cases q) F, ?_⟩, F⟩
  · rw [upd_same]
    unfold refsV
    rw [List.map_append]
    rfl
  · have so1 : ObjsAt A.c_Device devF (upd H1 y.d (.lst (refsV y.devs ++ [.ref a]))) y.devs st.devices := h.dv.fr _ _ (fun _ => rfl) (by intro q; cases q) F
    refine ⟨by rw [List.length_append, List.length_append, so1.len]; rfl, ?_, fun j b z hb hz => ?_⟩
    · rw [List.nodup_append]
      exact ⟨so1.nd, by simp, fun b hb c hc q => na (by simp at hc; rw [← hc, ← q]; exact hb)⟩
    · by_cases hj : j < y.devs.length
      · rw [List.getElem?_append_left hj] at hb
        rw [List.getElem?_append_left (by rw [← so1.len]; exact hj)] at hz
        exact so1.at_ j b z hb hz
      · rw [List.getElem?_append_right (by omega)] at hb
        rw [List.getElem?_append_right (by rw [← so1.len]; omega), ← so1.len] at hz
        cases hq : j - y.devs.length with
        | zero =>
          rw [hq] at hb hz
          cases hb
          cases hz
          exact ⟨da, by rw [upd_ne (nins hda)]; exact hda⟩
        | succ m => rw [hq] at hb; simp at hb
theorem pure_Polder_add_device (T : Txt K mg A) (vs : List V) (H : Hp) (Q : VK) (E : XK) (h : sp_Polder_add_device A K vs H Q E) : t_Polder_add_device A K (DE Q) (start N_Polder_add_device vs) H := by
  obtain ⟨y, st, a, d, rfl, hp, ok, n1, n2, hd, na, fin⟩ := h
  have hi := hp.ins
  have hs : SqL K H y.d (refsV y.devs) := sq_of hp.dl
  have hl := hp.dv.len
  have hz : Kg79.addDevice st d = (if 20 ≤ st.devices.length then (st, Kg79.num (-5)) else ({ st with devices := st.devices ++ [d] }, Kg79.num st.devices.length)) := rfl
  rw [hz] at fin
  refine rd_at (rd_when (b := decide (20 ≤ (st.devices.length : Int))) ?_ ?_ ?_)
  · refine' et_eq ?h ?e
    case h => fail "ev"
    case e => rw [len_refs, hl]
  · intro c
    rw [if_pos (by have := of_decide_eq_true c; omega)] at fin
    exact rd_ref fun p H1 np e h => fin H1 y p (hp.mono e) rfl rfl rfl rfl h (Fr.of_ex e) (nl_none np)
  · intro c
    have c := of_decide_eq_false c
    rw [if_neg (by omega)] at fin
    refine rd_seq (rd_app (l := y.d) (xs := refsV y.devs) (by fail "ev") hp.dl (by rw [len_refs, hl]; omega) (ev_var rfl) fun H1 e1 hs1 => ?_)
    obtain ⟨hp2, fr2⟩ := hp.pushDev n1 n2 e1 na (hd.mono e1) hs1
    generalize upd H1 y.d (.lst (refsV y.devs ++ [.ref a])) = H2 at hp2 fr2
    have hi2 := hp2.ins
    have hs2 : SqL K H2 y.d (refsV (y.devs ++ [a])) := sq_of hp2.dl
    dsimp only
    refine rd_at (rd_retLE (v := [.int (((y.devs ++ [a]).length : Nat) - 1 : Int)]) (el_lst (ea_cons (ev_sub ?_ ev_c) ea_nil) (by simp)) ?_ (fun p H3 np3 e3 h3 => fin H3 _ p (hp2.mono e3) rfl rfl rfl rfl h3 (fr2.trans (Fr.of_ex e3)) (nl_go fr2 np3)))
    · refine' ev_eq ?h1 ?h2
      case h1 => exact ev_len (ev_fld (ev_var rfl) (has_Polder_devices (y := { y with devs := y.devs ++ [a] }) T hi2)) hs2
      case h2 => rw [len_refs]
    · show [V.int _] = [V.int _]
      congr 2
      rw [List.length_append, hl]
      simp
      rfl
/-- the end that the four makers share -/
theorem add_dev {σ : L2.St} {y : PL} {st : Kg79.State} {Q : VK} {d : Kg79.Device} {z : Kg79.State × Kg79.Ans} {ts : TA} (hp : PolAt A H y st) (ok : PolOk st) (n1 : y.s ≠ y.d) (n2 : y.d ≠ y.t) (h0 : σ[0]? = some (some (.ref y.p)))
    {vs : List V} (hv : EvA ts σ H vs) (hvs : vs = [.int d.kind, .int d.from_, .int (tgt d), .int d.crest, .int d.cap, .int d.off]) (h1 : d.runs = false) (h2 : d.moved = 0) (h3 : d.steps = 0) (hz : z = Kg79.addDevice st d) (fin : PolPost A H y z Q) :
    Rd (tRet (tMeth A.c_Polder "add_device" (sp_Polder_add_device A K) [] E0 (tVar 0) (tCons (tMake A.c_Device (sp_Device___init__ A K) [] E0 ts) tNil))) (DE Q) σ H := by
  subst hvs
  refine rd_retMN (ev_var h0) (hm_Polder_add_device hp.ins) (en_make (fs := devF d) hv ⟨d, rfl, h1, h2, h3, rfl⟩) fun p H1 np e1 hd => ?_
  refine ⟨y, st, p, d, rfl, hp.mono e1, ok, n1, n2, hd, ?_, fun H2 y2 r hp2 q1 q2 q3 q4 hr fr nl => ?_⟩
  · intro hm
    obtain ⟨i, hi, e⟩ := List.getElem_of_mem hm
    obtain ⟨x, _, dx, q⟩ := hp.dv.getA (i := i) (a := p) (by rw [List.getElem?_eq_getElem hi, e])
    rw [np] at q
    cases q
  · subst hz
    exact fin H2 y2 r hp2 q1 q2 q3 q4 hr ((Fr.of_ex e1).trans (fr.mono (fun f q => by cases q) (fun b q => by simp at q; simp [q]))) ((nl.mono e1).sub fun b q => by simp at q; simp [q])
theorem isSec_nat {st : Kg79.State} {z : Int} (h : Kg79.isSection st z = true) : ∃ n : Nat, z = n ∧ z.toNat = n ∧ n < st.sections.length := by
  unfold Kg79.isSection at h
  rw [Bool.and_eq_true] at h
  have h1 := of_decide_eq_true h.1
  have h2 := of_decide_eq_true h.2
  exact ⟨z.toNat, by omega, rfl, by omega⟩
theorem pure_Polder_add_weir (T : Txt K mg A) (vs : List V) (H : Hp) (Q : VK) (E : XK) (h : sp_Polder_add_weir A K vs H Q E) : t_Polder_add_weir A K (DE Q) (start N_Polder_add_weir vs) H := by
  obtain ⟨y, st, i, j, c, w, rfl, hp, ok, n1, n2, fin⟩ := h
  have hi := hp.ins
  have hz : Kg79.spec st (.weir i j c w) = (if (Kg79.isSection st i && (Kg79.isSection st j && (decide (i ≠ j) && (kin c 0 10000 && kin w 1 1000)))) = false then (st, Kg79.num (-1)) else Kg79.addDevice st ⟨0, i.toNat, j.toNat, c.toNat, w.toNat, 0, false, 0, 0⟩) := rfl
  rw [hz] at fin
  refine rd_at (rd_when (b := !Kg79.isSection st i || (!Kg79.isSection st j || decide (i = j))) (by fail "ev") ?_ ?_)
  · intro b
    rw [if_pos (by cases h1 : Kg79.isSection st i <;> cases h2 : Kg79.isSection st j <;> simp [h1, h2] at b ⊢ <;> simp [b])] at fin
    exact rd_ref (post_same rfl hp fin)
  · intro b
    rw [Bool.or_eq_false_iff, Bool.or_eq_false_iff] at b
    have b1 := bnot_f b.1
    have b2 := bnot_f b.2.1
    have b3 := of_decide_eq_false b.2.2
    refine rd_when (b := !kin c 0 10000 || (decide (w < 1) || decide (1000 < w))) (by fail "ev") ?_ ?_
    · intro b
      rw [if_pos (by rw [kin_iff (z := w)]; cases h1 : kin c 0 10000 <;> simp [h1, b1, b2, b3] at b ⊢; omega)] at fin
      exact rd_ref (post_same rfl hp fin)
    · intro b
      rw [Bool.or_eq_false_iff] at b
      have b4 := bnot_f b.1
      have b5 : kin w 1 1000 = true := by rw [kin_iff, b.2]; rfl
      rw [if_neg (by rw [b1, b2, b4, b5, decide_eq_true b3]; decide)] at fin
      obtain ⟨i, rfl, ei, i1⟩ := isSec_nat b1
      obtain ⟨j, rfl, ej, j1⟩ := isSec_nat b2
      obtain ⟨c, rfl, ec, _, c2⟩ := kin_toNat b4 (by decide)
      obtain ⟨w, rfl, ew, _, w2⟩ := kin_toNat b5 (by decide)
      rw [ei, ej, ec, ew] at fin
      refine' add_dev (d := ⟨0, i, j, c, w, 0, false, 0, 0⟩) hp ok n1 n2 rfl ?h1 ?h2 rfl rfl rfl rfl fin
      case h1 => fail "ev"
      case h2 => rfl
theorem pure_Polder_add_sluice (T : Txt K mg A) (vs : List V) (H : Hp) (Q : VK) (E : XK) (h : sp_Polder_add_sluice A K vs H Q E) : t_Polder_add_sluice A K (DE Q) (start N_Polder_add_sluice vs) H := by
  obtain ⟨y, st, i, c, w, rfl, hp, ok, n1, n2, fin⟩ := h
  have hi := hp.ins
  have hz : Kg79.spec st (.sluice i c w) = (if (Kg79.isSection st i && (kin c 0 10000 && kin w 1 1000)) = false then (st, Kg79.num (-1)) else Kg79.addDevice st ⟨2, i.toNat, i.toNat, c.toNat, w.toNat, 0, false, 0, 0⟩) := rfl
  rw [hz] at fin
  refine rd_at (rd_when (b := !Kg79.isSection st i || (!kin c 0 10000 || (decide (w < 1) || decide (1000 < w)))) (by fail "ev") ?_ ?_)
  · intro b
    rw [if_pos (by rw [kin_iff (z := w)]; cases h1 : kin c 0 10000 <;> cases h2 : Kg79.isSection st i <;> simp [h1, h2] at b ⊢; omega)] at fin
    exact rd_ref (post_same rfl hp fin)
  · intro b
    rw [Bool.or_eq_false_iff, Bool.or_eq_false_iff] at b
    have b1 := bnot_f b.1
    have b4 := bnot_f b.2.1
    have b5 : kin w 1 1000 = true := by rw [kin_iff, b.2.2]; rfl
    rw [if_neg (by rw [b1, b4, b5]; decide)] at fin
    obtain ⟨i, rfl, ei, i1⟩ := isSec_nat b1
    obtain ⟨c, rfl, ec, _, c2⟩ := kin_toNat b4 (by decide)
    obtain ⟨w, rfl, ew, _, w2⟩ := kin_toNat b5 (by decide)
    rw [ei, ec, ew] at fin
    refine' add_dev (d := ⟨2, i, i, c, w, 0, false, 0, 0⟩) hp ok n1 n2 rfl ?h1 ?h2 rfl rfl rfl rfl fin
    case h1 => fail "ev"
    case h2 => rfl
theorem pure_Polder_add_inlet (T : Txt K mg A) (vs : List V) (H : Hp) (Q : VK) (E : XK) (h : sp_Polder_add_inlet A K vs H Q E) : t_Polder_add_inlet A K (DE Q) (start N_Polder_add_inlet vs) H := by
  obtain ⟨y, st, i, c, l, rfl, hp, ok, n1, n2, fin⟩ := h
  have hi := hp.ins
  have hz : Kg79.spec st (.inlet i c l) = (if (Kg79.isSection st i && (kin c 1 100000 && kin l 1 10000)) = false then (st, Kg79.num (-1)) else Kg79.addDevice st ⟨3, i.toNat, i.toNat, l.toNat, c.toNat, 0, false, 0, 0⟩) := rfl
  rw [hz] at fin
  refine rd_at (rd_when (b := !Kg79.isSection st i || (decide (c < 1) || (decide (100000 < c) || (decide (l < 1) || decide (10000 < l))))) (by fail "ev") ?_ ?_)
  · intro b
    rw [if_pos (by rw [kin_iff (z := c), kin_iff (z := l)]; cases h2 : Kg79.isSection st i <;> simp [h2] at b ⊢; omega)] at fin
    exact rd_ref (post_same rfl hp fin)
  · intro b
    simp only [Bool.or_eq_false_iff, decide_eq_false_iff_not, Bool.not_eq_false'] at b
    obtain ⟨b1, b2, b3, b4, b5⟩ := b
    have k1 : kin c 1 100000 = true := kin_of (by omega) (by omega)
    have k2 : kin l 1 10000 = true := kin_of (by omega) (by omega)
    rw [if_neg (by rw [b1, k1, k2]; decide)] at fin
    obtain ⟨i, rfl, ei, i1⟩ := isSec_nat b1
    obtain ⟨c, rfl, ec, _, c2⟩ := kin_toNat k1 (by decide)
    obtain ⟨l, rfl, el, _, l2⟩ := kin_toNat k2 (by decide)
    rw [ei, ec, el] at fin
    refine' add_dev (d := ⟨3, i, i, l, c, 0, false, 0, 0⟩) hp ok n1 n2 rfl ?h1 ?h2 rfl rfl rfl rfl fin
    case h1 => fail "ev"
    case h2 => rfl
theorem pure_Polder_add_pump (T : Txt K mg A) (vs : List V) (H : Hp) (Q : VK) (E : XK) (h : sp_Polder_add_pump A K vs H Q E) : t_Polder_add_pump A K (DE Q) (start N_Polder_add_pump vs) H := by
  obtain ⟨y, st, i, j, c, a, o, rfl, hp, ok, n1, n2, fin⟩ := h
  have hi := hp.ins
  have hz : Kg79.spec st (.pump i j c a o) = (if (Kg79.isSection st i && ((j == -1 || Kg79.isSection st j) && (decide (i ≠ j) && (kin c 1 100000 && (kin a 1 10000 && (kin o 0 10000 && decide (o < a))))))) = false then (st, Kg79.num (-1)) else
      Kg79.addDevice st ⟨1, i.toNat, if j = -1 then i.toNat else j.toNat, a.toNat, c.toNat, o.toNat, false, 0, 0⟩) := rfl
  rw [hz] at fin
  refine rd_at (rd_when (b := !Kg79.isSection st i || ((!decide (j = -1) && !Kg79.isSection st j) || decide (i = j))) (by fail "ev") ?_ ?_)
  · intro b
    rw [if_pos (by by_cases q : j = -1 <;> cases h1 : Kg79.isSection st i <;> cases h2 : Kg79.isSection st j <;> simp [h1, h2, q] at b ⊢ <;> simp [b])] at fin
    exact rd_ref (post_same rfl hp fin)
  · intro b
    simp only [Bool.or_eq_false_iff, Bool.and_eq_false_iff, decide_eq_false_iff_not, Bool.not_eq_false', decide_eq_true_eq] at b
    obtain ⟨b1, b2, b3⟩ := b
    have b2' : (j == -1 || Kg79.isSection st j) = true := by
      rcases b2 with q | q
      · simp [q]
      · simp [q]
    refine rd_when (b := decide (c < 1) || (decide (100000 < c) || (decide (a < 1) || decide (10000 < a)))) (by fail "ev") ?_ ?_
    · intro b
      rw [if_pos (by rw [b1, b2', kin_iff (z := c), kin_iff (z := a), decide_eq_true b3]; simp at b ⊢; omega)] at fin
      exact rd_ref (post_same rfl hp fin)
    · intro b
      simp only [Bool.or_eq_false_iff, decide_eq_false_iff_not] at b
      obtain ⟨c1, c2, c3, c4⟩ := b
      have k1 : kin c 1 100000 = true := kin_of (by omega) (by omega)
      have k2 : kin a 1 10000 = true := kin_of (by omega) (by omega)
      refine rd_when (b := !kin o 0 10000 || decide (a ≤ o)) (by fail "ev") ?_ ?_
      · intro b
        rw [if_pos (by rw [b1, b2', k1, k2, decide_eq_true b3]; cases h1 : kin o 0 10000 <;> simp [h1] at b ⊢; omega)] at fin
        exact rd_ref (post_same rfl hp fin)
      · intro b
        simp only [Bool.or_eq_false_iff, decide_eq_false_iff_not, Bool.not_eq_false'] at b
        obtain ⟨k3, d1⟩ := b
        have d2 : o < a := by omega
        rw [if_neg (by rw [b1, b2', k1, k2, k3, decide_eq_true b3, decide_eq_true d2]; decide)] at fin
        obtain ⟨i, rfl, ei, i1⟩ := isSec_nat b1
        obtain ⟨c, rfl, ec, _, c2⟩ := kin_toNat k1 (by decide)
        obtain ⟨a, rfl, ea, _, a2⟩ := kin_toNat k2 (by decide)
        obtain ⟨o, rfl, eo, _, o2⟩ := kin_toNat k3 (by decide)
        rw [ei, ec, ea, eo] at fin
        have ht : tgt ⟨1, i, if j = -1 then i else j.toNat, a, c, o, false, 0, 0⟩ = j := by
          unfold tgt
          rw [if_neg (show ¬ (1 : Nat) = 0 by decide), if_pos rfl]
          by_cases q : j = -1
          · rw [if_pos q, if_pos rfl, q]
          · rw [if_neg q]
            rcases b2 with z | z
            · exact absurd z q
            · obtain ⟨j, rfl, ej, _⟩ := isSec_nat z
              rw [ej, if_neg (show ¬ j = i from fun e => b3 (by rw [e]))]
        refine' add_dev (d := ⟨1, i, if j = -1 then i else j.toNat, a, c, o, false, 0, 0⟩) hp ok n1 n2 rfl ?h1 ?h2 rfl rfl rfl rfl fin
        case h1 => fail "ev"
        case h2 => rw [ht]; rfl
end

section
variable {A : Adr} {K : PySem.W.Frag} {mg : Str → Option Value} {H H1 H' : Hp} {σ : L2.St} {D : Ends} {t t2 : TS}
theorem inV_int (n : Int) : ∀ ns : List Int, inV (.int n) (ns.map V.int) = decide (n ∈ ns)
  | [] => by simp [inV]
  | m :: r => by
    have ih := inV_int n r
    unfold inV at ih ⊢
    rw [List.map_cons, List.any_cons, ih]
    by_cases h : n = m
    · subst h
      simp [eqV]
    · have : eqV (.int m) (.int n) = false := by simp [eqV]; omega
      rw [this, Bool.false_or]
      simp [h]
theorem flat_ints (ns : List Int) : (ns.map V.int).all flatV = true := by
  rw [List.all_eq_true]
  intro x hx
  obtain ⟨n, _, rfl⟩ := List.mem_map.mp hx
  rfl
theorem ev_inI {ta tb : TE} {n : Int} (ns : List Int) (ha : Ev ta σ H (.int n)) (hb : EvU tb σ H (ns.map V.int)) : Ev (tOp (rIn K false) ta tb) σ H (.bl (decide (n ∈ ns))) := by
  rw [← inV_int]
  exact ev_inU ha hb rfl (flat_ints ns)
theorem ev_niI {ta tb : TE} {n : Int} (ns : List Int) (ha : Ev ta σ H (.int n)) (hb : EvU tb σ H (ns.map V.int)) : Ev (tOp (rIn K true) ta tb) σ H (.bl (!decide (n ∈ ns))) := by
  rw [← inV_int]
  exact ev_niU ha hb rfl (flat_ints ns)
theorem eu_ints : ∀ (ns : List Int) {ts : TA}, EvA ts σ H (ns.map V.int) → ns.length ≤ 100000 → EvU (tTup ts) σ H (ns.map V.int) := fun ns _ h hl => eu_tup h (by rw [List.length_map]; exact hl)
theorem rd_skip {k m : Int} {i : Nat} (h0 : σ[i]? = some (some (.int k))) (hk : k ≠ m) (h : Rd t2 D σ H) : Rd (tSeq (tIfS (tTest (tOp rEq (tVar i) (tC (.int m)))) t tNext) t2) D σ H :=
  rd_when (b := decide (k = m)) (et_test (ev_eqI (ev_var h0) ev_c)) (fun q => absurd (of_decide_eq_true q) hk) fun _ => h
theorem rd_hit {m : Int} {i : Nat} (h0 : σ[i]? = some (some (.int m))) (h : Rd t { D with nx := t2 D } σ H) : Rd (tSeq (tIfS (tTest (tOp rEq (tVar i) (tC (.int m)))) t tNext) t2) D σ H :=
  rd_when (b := decide (m = m)) (et_test (ev_eqI (ev_var h0) ev_c)) (fun _ => h) fun q => absurd rfl (of_decide_eq_false q)
theorem eu_two {a b : Int} : EvU (tTup (tCons (tC (.int a)) (tCons (tC (.int b)) tNil))) σ H [.int a, .int b] := eu_tup (ea_cons ev_c (ea_cons ev_c ea_nil)) (by simp)
theorem pure_polder_form (T : Txt K mg A) (vs : List V) (H : Hp) (Q : VK) (E : XK) (h : sp_polder_form A K vs H Q E) : t_polder_form A K (DE Q) (start N_polder_form vs) H := by
  obtain ⟨n, rfl, k1, k2⟩ := h
  unfold polForm at k1 k2
  refine rd_at ?_
  by_cases h1 : n = 1
  · subst h1
    exact rd_hit rfl (rd_retU eu_two (k2 0 1 (if_pos rfl)))
  rw [if_neg h1] at k1 k2
  refine rd_skip rfl h1 (rd_when (b := decide (n ∈ ([2, 5, 6, 7, 8] : List Int))) (et_test (ev_inI _ (ev_var rfl) (eu_ints [2, 5, 6, 7, 8] (ea_cons ev_c (ea_cons ev_c (ea_cons ev_c (ea_cons ev_c (ea_cons ev_c ea_nil))))) (by simp)))) ?_ ?_)
  · intro c
    have c := of_decide_eq_true c
    rw [if_pos (by simpa using c)] at k2
    exact rd_retU eu_two (k2 3 0 rfl)
  intro c
  have c := of_decide_eq_false c
  rw [if_neg (by simpa using c)] at k1 k2
  by_cases h3 : n = 3
  · subst h3
    exact rd_hit rfl (rd_retU eu_two (k2 4 0 (if_pos rfl)))
  rw [if_neg h3] at k1 k2
  refine rd_skip rfl h3 ?_
  by_cases h4 : n = 4
  · subst h4
    exact rd_hit rfl (rd_retU eu_two (k2 5 0 (if_pos rfl)))
  rw [if_neg h4] at k1 k2
  refine rd_skip rfl h4 ?_
  by_cases h5 : n = 10
  · subst h5
    exact rd_hit rfl (rd_retU eu_two (k2 1 0 (if_pos rfl)))
  rw [if_neg h5] at k1 k2
  refine rd_skip rfl h5 ?_
  have et : EvT (tTest (tOp (rIn K false) (tVar 0) (tTup (tCons (tC (.int 9)) (tCons (tC (.int 11)) tNil))))) (L2.start N_polder_form [V.int n]) H (decide (n ∈ ([9, 11] : List Int))) := et_test (ev_inI _ (ev_var rfl) (eu_ints [9, 11] (ea_cons ev_c (ea_cons ev_c ea_nil)) (by simp)))
  intro H1 e1
  refine et H1 e1 _ fun H2 e2 => ?_
  by_cases c : n ∈ ([9, 11] : List Int)
  · rw [decide_eq_true c]
    rw [if_pos (by simpa using c)] at k2
    exact eu_two (H := H) H2 (e1.trans e2) _ fun p H3 hp e3 h3 => k2 0 0 rfl p H3 (fresh_back (e1.trans e2) hp) ((e1.trans e2).trans e3) h3
  · rw [decide_eq_false c]
    rw [if_neg (by simpa using c)] at k1
    exact k1 rfl H2 (e1.trans e2)
theorem pure_plot_form (T : Txt K mg A) (vs : List V) (H : Hp) (Q : VK) (E : XK) (h : sp_plot_form A K vs H Q E) : t_plot_form A K (DE Q) (start N_plot_form vs) H := by
  obtain ⟨n, rfl, k1, k2⟩ := h
  unfold ploForm at k1 k2
  refine rd_at ?_
  by_cases h1 : n = 1
  · subst h1
    exact rd_hit rfl (rd_retU eu_two (k2 1 1 (if_pos rfl)))
  rw [if_neg h1] at k1 k2
  refine rd_skip rfl h1 ?_
  by_cases h3 : n = 2
  · subst h3
    exact rd_hit rfl (rd_retU eu_two (k2 0 1 (if_pos rfl)))
  rw [if_neg h3] at k1 k2
  refine rd_skip rfl h3 ?_
  by_cases h4 : n = 3
  · subst h4
    exact rd_hit rfl (rd_retU eu_two (k2 5 0 (if_pos rfl)))
  rw [if_neg h4] at k1 k2
  refine rd_skip rfl h4 (rd_when (b := decide (n ∈ ([5, 7] : List Int))) (et_test (ev_inI _ (ev_var rfl) (eu_ints [5, 7] (ea_cons ev_c (ea_cons ev_c ea_nil)) (by simp)))) ?_ ?_)
  · intro c
    have c := of_decide_eq_true c
    rw [if_pos (by simpa using c)] at k2
    exact rd_retU eu_two (k2 2 0 rfl)
  intro c
  have c := of_decide_eq_false c
  rw [if_neg (by simpa using c)] at k1 k2
  have et : EvT (tTest (tOp (rIn K false) (tVar 0) (tTup (tCons (tC (.int 4)) (tCons (tC (.int 6)) (tCons (tC (.int 8)) (tCons (tC (.int 9)) (tCons (tC (.int 10)) tNil)))))))) (L2.start N_plot_form [V.int n]) H (decide (n ∈ ([4, 6, 8, 9, 10] : List Int))) :=
    et_test (ev_inI _ (ev_var rfl) (eu_ints [4, 6, 8, 9, 10] (ea_cons ev_c (ea_cons ev_c (ea_cons ev_c (ea_cons ev_c (ea_cons ev_c ea_nil))))) (by simp)))
  intro H1 e1
  refine et H1 e1 _ fun H2 e2 => ?_
  by_cases c : n ∈ ([4, 6, 8, 9, 10] : List Int)
  · rw [decide_eq_true c]
    rw [if_pos (by simpa using c)] at k2
    exact eu_two (H := H) H2 (e1.trans e2) _ fun p H3 hp e3 h3 => k2 0 0 rfl p H3 (fresh_back (e1.trans e2) hp) ((e1.trans e2).trans e3) h3
  · rw [decide_eq_false c]
    rw [if_neg (by simpa using c)] at k1
    exact k1 rfl H2 (e1.trans e2)
theorem pure_is_call (T : Txt K mg A) (vs : List V) (H : Hp) (Q : VK) (E : XK) (h : sp_is_call A K vs H Q E) : t_is_call A K (DE Q) (start N_is_call vs) H := by
  obtain ⟨v, ⟨x, f, r, rows, o, rfl, ⟨as, hf, hl, hr⟩, hx, rfl⟩, k⟩ := h
  cases o with
  | none =>
    have hx : x = .non := hx
    subst hx
    refine rd_at (rd_retE (v := .bl (!decide (V.non = V.non) && false)) (ev_andV (ev_notN (ev_var rfl)) fun q => ?_) ?_ k)
    · simp at q
    · simp
  | some ab =>
    obtain ⟨a, b⟩ := ab
    obtain ⟨p, rfl, hp⟩ := hx
    obtain ⟨a0, ha0⟩ : ∃ a0, as[0]? = some a0 := at_of_len (by rw [hl]; simp)
    have h0 := hr 0 a0 r ha0 rfl
    refine rd_at (rd_retE (v := .bl (!decide (V.ref p = V.non) && (decide (a = ((r.length : Nat) : Int) - 1) && decide (b = ((rows.length + 1 : Nat) : Int) - 1)))) ?_ ?_ k)
    · refine ev_andV (ev_notN (ev_var rfl)) fun _ => ev_andV (ev_eqI (ev_ixT (ev_var rfl) ev_c hp (atI_nat (j := 0) rfl)) (ev_sub (ev_eq (ev_len (ev_ixL (ev_var rfl) ev_c hf (atI_nat (j := 0) (refs_at ha0))) h0) (by rw [len_ints])) ev_c)) fun _ => ?_
      exact ev_eqI (ev_ixT (ev_var rfl) ev_c hp (atI_nat (j := 1) rfl)) (ev_sub (ev_eq (ev_len (ev_var rfl) hf) (by rw [len_refs, hl, List.length_cons])) ev_c)
    · have e : decide (V.ref p = V.non) = false := by simp
      rw [e]
      rfl
theorem pure_is_tide (T : Txt K mg A) (vs : List V) (H : Hp) (Q : VK) (E : XK) (h : sp_is_tide A K vs H Q E) : t_is_tide A K (DE Q) (start N_is_tide vs) H := by
  obtain ⟨v, ⟨a, ns, rfl, hs, rfl⟩, k⟩ := h
  refine rd_at (rd_seq (rd_forL (ev_var rfl) hs (fun i σ H' => ∃ v : Option V, σ = [some (.ref a), v] ∧ Ex H H' ∧ (ns.take i).all (fun z => kin z 0 10000) = true)
    (fun H1 e1 => ⟨none, rfl, e1, rfl⟩) (fun i σ H' _ ⟨_, _, e', _⟩ => ex_l e' hs) ?_ ?_))
  · rintro i x σ H' hix ⟨v, rfl, e', hall⟩
    obtain ⟨n, hn, rfl⟩ := at_ints hix
    refine rd_at (rd_if (b := !kin n 0 10000) (by fail "ev") ?_ ?_)
    · intro c
      refine rd_ret ev_c fun H2 e2 => ?_
      have hf : ns.all (fun z => kin z 0 10000) = false := by
        rw [List.all_eq_false]
        exact ⟨n, List.mem_of_getElem? hn, by rw [bnot_t c]; decide⟩
      rw [hf] at k
      exact k H2 (e'.trans e2)
    · intro c
      refine rd_next fun H2 e2 => ⟨_, rfl, e'.trans e2, ?_⟩
      rw [take_more hn, List.all_append, hall]
      simp [bnot_f c]
  · rintro σ H' ⟨v, rfl, e', hall⟩
    rw [len_ints, List.take_length] at hall
    rw [hall] at k
    dsimp only
    have hs' := ex_l e' hs
    refine rd_at (rd_retE (v := .bl (decide ((ns.length : Int) ≤ 30))) ?_ ?_ fun H2 e2 => k H2 (e'.trans e2))
    · refine' ev_eq ?h1 ?h2
      case h1 => fail "ev"
      case h2 => rw [len_ints]
    · rw [Bool.true_and]
      congr 1
      by_cases q : ns.length ≤ 30
      · rw [decide_eq_true q, decide_eq_true (by omega)]
      · rw [decide_eq_false q, decide_eq_false (by omega)]
theorem PolPost.mono {y : PL} {z : Kg79.State × Kg79.Ans} {Q : VK} (e : Ex H H1) (k : PolPost A H y z Q) : PolPost A H1 y z Q := fun H' y' r a b c d e' h fr nl => k H' y' r a b c d e' h ((Fr.of_ex e).trans fr) (nl.mono e)
theorem dev_same (st : Kg79.State) (k : Int) : (Kg79.spec st (.device k)).1 = st := by
  show (match (if k < 0 then none else st.devices[k.toNat]?) with | none => (st, Kg79.num (-1)) | some d => (st, ⟨d.kind, Kg79.whole [Kg79.truth d.runs, d.moved, d.steps, st.flow d]⟩)).1 = st
  split <;> rfl
theorem pure_Polder_answer (T : Txt K mg A) (vs : List V) (H : Hp) (Q : VK) (E : XK) (h : sp_Polder_answer A K vs H Q E) : t_Polder_answer A K (DE Q) (start N_Polder_answer vs) H := by
  obtain ⟨y, st, n, f, ns, c, rfl, hf, hc, hp, ok, nd, fin⟩ := h
  have hi := hp.ins
  have n3 : y.t ≠ y.s ∧ y.t ≠ y.d ∧ y.s ≠ y.d := by
    simp only [List.nodup_cons, List.mem_cons, List.not_mem_nil, or_false, not_or, List.nodup_nil, and_true, not_false_eq_true] at nd
    exact ⟨nd.1.1, nd.1.2, nd.2⟩
  obtain ⟨nts, ntd, nsd⟩ := n3
  refine rd_at ?_
  have ix : ∀ (i : Nat) (m : Int) (σ : L2.St), σ[2]? = some (some (.ref f)) → ns[i]? = some m → Ev (tOp (rIxL K) (tVar 2) (tC (.int (i : Nat)))) σ H (.int m) := fun i m σ h1 h2 => ev_ixL (ev_var h1) ev_c hf (atI_nat (ints_at h2))
  unfold polC at hc
  split at hc
  · cases hc
    exact rd_hit rfl (rd_retM (ev_var rfl) (hm_Polder_add_section hi) (ea_cons (ix 0 _ _ rfl rfl) (ea_cons (ix 1 _ _ rfl rfl) (ea_cons (ix 2 _ _ rfl rfl) ea_nil))) fun H1 e1 => ⟨y, st, _, _, _, rfl, hp.mono e1, ok, nsd, Ne.symm nts, fin.mono e1⟩)
  · cases hc
    exact rd_skip rfl (by decide) (rd_hit rfl (rd_retM (ev_var rfl) (hm_Polder_add_weir hi) (ea_cons (ix 0 _ _ rfl rfl) (ea_cons (ix 1 _ _ rfl rfl) (ea_cons (ix 2 _ _ rfl rfl) (ea_cons (ix 3 _ _ rfl rfl) ea_nil)))) fun H1 e1 => ⟨y, st, _, _, _, _, rfl, hp.mono e1, ok, nsd, Ne.symm ntd, fin.mono e1⟩))
  · cases hc
    exact rd_skip rfl (by decide) (rd_skip rfl (by decide) (rd_hit rfl (rd_retM (ev_var rfl) (hm_Polder_add_pump hi) (ea_cons (ix 0 _ _ rfl rfl) (ea_cons (ix 1 _ _ rfl rfl) (ea_cons (ix 2 _ _ rfl rfl) (ea_cons (ix 3 _ _ rfl rfl) (ea_cons (ix 4 _ _ rfl rfl) ea_nil))))) fun H1 e1 => ⟨y, st, _, _, _, _, _, rfl, hp.mono e1, ok, nsd, Ne.symm ntd, fin.mono e1⟩)))
  · cases hc
    exact rd_skip rfl (by decide) (rd_skip rfl (by decide) (rd_skip rfl (by decide) (rd_hit rfl (rd_retM (ev_var rfl) (hm_Polder_add_sluice hi) (ea_cons (ix 0 _ _ rfl rfl) (ea_cons (ix 1 _ _ rfl rfl) (ea_cons (ix 2 _ _ rfl rfl) ea_nil))) fun H1 e1 => ⟨y, st, _, _, _, rfl, hp.mono e1, ok, nsd, Ne.symm ntd, fin.mono e1⟩))))
  · cases hc
    exact rd_skip rfl (by decide) (rd_skip rfl (by decide) (rd_skip rfl (by decide) (rd_skip rfl (by decide) (rd_hit rfl (rd_retM (ev_var rfl) (hm_Polder_add_inlet hi) (ea_cons (ix 0 _ _ rfl rfl) (ea_cons (ix 1 _ _ rfl rfl) (ea_cons (ix 2 _ _ rfl rfl) ea_nil))) fun H1 e1 => ⟨y, st, _, _, _, rfl, hp.mono e1, ok, nsd, Ne.symm ntd, fin.mono e1⟩)))))
  · cases hc
    exact rd_skip rfl (by decide) (rd_skip rfl (by decide) (rd_skip rfl (by decide) (rd_skip rfl (by decide) (rd_skip rfl (by decide) (rd_hit rfl (rd_retM (ev_var rfl) (hm_Polder_set_device hi) (ea_cons (ix 0 _ _ rfl rfl) (ea_cons (ix 1 _ _ rfl rfl) (ea_cons (ix 2 _ _ rfl rfl) ea_nil))) fun H1 e1 => ⟨y, st, _, _, _, rfl, hp.mono e1, ok, fin.mono e1⟩))))))
  · cases hc
    exact rd_skip rfl (by decide) (rd_skip rfl (by decide) (rd_skip rfl (by decide) (rd_skip rfl (by decide) (rd_skip rfl (by decide) (rd_skip rfl (by decide) (rd_hit rfl (rd_retM (ev_var rfl) (hm_Polder_run hi) (ea_cons (ix 0 _ _ rfl rfl) (ea_cons (ix 1 _ _ rfl rfl) (ea_cons (ix 2 _ _ rfl rfl) ea_nil))) fun H1 e1 => ⟨y, st, _, _, _, rfl, hp.mono e1, ok, fin.mono e1⟩)))))))
  · cases hc
    exact rd_skip rfl (by decide) (rd_skip rfl (by decide) (rd_skip rfl (by decide) (rd_skip rfl (by decide) (rd_skip rfl (by decide) (rd_skip rfl (by decide) (rd_skip rfl (by decide) (rd_hit rfl (rd_retL (el_meth (ev_var rfl) (hm_Polder_tell_levels hi) ea_nil (spl_of fun H1 e1 => ⟨y, st, rfl, hp.mono e1, ok, rfl⟩)) (post_same rfl hp fin)))))))))
  · cases hc
    exact rd_skip rfl (by decide) (rd_skip rfl (by decide) (rd_skip rfl (by decide) (rd_skip rfl (by decide) (rd_skip rfl (by decide) (rd_skip rfl (by decide) (rd_skip rfl (by decide) (rd_skip rfl (by decide) (rd_hit rfl (rd_retL (el_meth (ev_var rfl) (hm_Polder_tell_device hi) (ea_cons (ix 0 _ _ rfl rfl) ea_nil) (spl_of fun H1 e1 => ⟨y, st, _, rfl, hp.mono e1, ok, rfl⟩)) (post_same (dev_same _ _) hp fin))))))))))
  · cases hc
    exact rd_skip rfl (by decide) (rd_skip rfl (by decide) (rd_skip rfl (by decide) (rd_skip rfl (by decide) (rd_skip rfl (by decide) (rd_skip rfl (by decide) (rd_skip rfl (by decide) (rd_skip rfl (by decide) (rd_skip rfl (by decide) (rd_retL (el_meth (ev_var rfl) (hm_Polder_tell_sums hi) ea_nil (spl_of fun H1 e1 => ⟨y, st, rfl, hp.mono e1, ok, rfl⟩)) (post_same rfl hp fin))))))))))
  · cases hc
end

/-! ### plain: places -/
section
variable {st : Kg72.State} {k : Nat}
theorem PlotOk.gr (ok : PlotOk st) (h : st.ground.squares ≠ []) : 1 ≤ st.ground.across ∧ st.ground.across ≤ 12 ∧ st.ground.squares.length = st.ground.across * st.ground.down ∧ 1 ≤ st.ground.down ∧ st.ground.down ≤ 12 := ok.ground h
theorem acr_gr (h : st.ground.squares ≠ []) : acr st = st.ground.across := if_neg h
theorem n_le (ok : PlotOk st) : st.ground.squares.length ≤ 144 := by
  by_cases h : st.ground.squares = []
  · rw [h]; simp
  · obtain ⟨a1, a2, a3, a4, a5⟩ := ok.gr h
    rw [a3]
    exact Nat.mul_le_mul a2 a5
theorem div_lt {a d k : Nat} (ha : 1 ≤ a) (hk : k < a * d) : k / a < d := Nat.div_lt_of_lt_mul hk
theorem row_lt (ok : PlotOk st) (hk : k < st.ground.squares.length) : 1 ≤ st.ground.across ∧ st.ground.across ≤ 12 ∧ k % st.ground.across < st.ground.across ∧ k / st.ground.across < st.ground.down ∧ st.ground.down ≤ 12 := by
  have h : st.ground.squares ≠ [] := fun e => by rw [e] at hk; simp at hk
  obtain ⟨a1, a2, a3, a4, a5⟩ := ok.gr h
  exact ⟨a1, a2, Nat.mod_lt _ a1, div_lt a1 (by rw [← a3]; exact hk), a5⟩
end
section
variable {A : Adr} {K : PySem.W.Frag} {mg : Str → Option Value}
theorem apart_abs (a b : Nat) : (if (a : Int) - (b : Int) < 0 then -((a : Int) - (b : Int)) else (a : Int) - (b : Int)) = (Kg72.apart a b : Nat) := by
  unfold Kg72.apart
  split <;> split <;> omega
theorem pure_Plot_has_ground (T : Txt K mg A) (vs : List V) (H : Hp) (Q : VK) (E : XK) (h : sp_Plot_has_ground A K vs H Q E) : t_Plot_has_ground A K (DE Q) (start N_Plot_has_ground vs) H := by
  obtain ⟨v, ⟨y, st, rfl, hp, rfl⟩, k⟩ := h
  have hi := hp.ins
  have hs : SqL K H y.sq (natsV st.ground.squares) := sq_of hp.sq
  refine' rd_at (rd_retE ?h1 ?h2 k)
  case h1 => fail "ev"
  case h2 =>
    rw [len_nats]
    congr 1
    cases st.ground.squares <;> simp
theorem pure_Plot_is_there (T : Txt K mg A) (vs : List V) (H : Hp) (Q : VK) (E : XK) (h : sp_Plot_is_there A K vs H Q E) : t_Plot_is_there A K (DE Q) (start N_Plot_is_there vs) H := by
  obtain ⟨v, ⟨y, st, x, z, rfl, hp, rfl⟩, k⟩ := h
  have hi := hp.ins
  refine' rd_at (rd_retE ?h1 ?h2 k)
  case h1 => fail "ev"
  case h2 => rfl
theorem pure_Plot_place_of (T : Txt K mg A) (vs : List V) (H : Hp) (Q : VK) (E : XK) (h : sp_Plot_place_of A K vs H Q E) : t_Plot_place_of A K (DE Q) (start N_Plot_place_of vs) H := by
  obtain ⟨v, ⟨y, st, x, z, rfl, hp, ha, rfl⟩, k⟩ := h
  have hi := hp.ins
  refine' rd_at (rd_retE ?h1 ?h2 k)
  case h1 => fail "ev"
  case h2 => rfl
theorem pure_Plot_apart (T : Txt K mg A) (vs : List V) (H : Hp) (Q : VK) (E : XK) (h : sp_Plot_apart A K vs H Q E) : t_Plot_apart A K (DE Q) (start N_Plot_apart vs) H := by
  obtain ⟨v, ⟨y, st, i, j, rfl, hg, rfl⟩, k⟩ := h
  have hi := hg.at_.ins
  obtain ⟨a1, a2, _⟩ := hg.ok.gr hg.gr
  have ea := acr_gr hg.gr
  refine rd_at (rd_asg (v := .int (Kg72.apart (i % st.ground.across) (j % st.ground.across) : Nat)) ?_ ?_)
  · refine' ev_eq ?h1 ?h2
    case h1 => fail "ev"
    case h2 =>
      rw [ea, ← Int.natCast_emod, ← Int.natCast_emod, apart_abs]
  · refine' rd_retE ?h1 ?h2 k
    case h1 => fail "ev"
    case h2 =>
      rw [ea, ← Int.natCast_ediv, ← Int.natCast_ediv, apart_abs]
      unfold cheb
      congr 1
      omega
theorem built_fold (st : Kg72.State) (p : Nat × Nat) : st.built p = st.boxes.foldl (fun m b => if b.has p = true then max m b.floors else m) 0 := by
  unfold Kg72.State.built
  suffices h : ∀ (l : List Kg72.Box) (m : Nat), ((l.filter fun b => b.has p).map Kg72.Box.floors).foldl max m = l.foldl (fun m b => if b.has p = true then max m b.floors else m) m from h _ _
  intro l
  induction l with
  | nil => intro m; rfl
  | cons b r ih =>
    intro m
    rw [List.filter_cons, List.foldl_cons]
    by_cases c : b.has p = true
    · rw [if_pos c, if_pos c, List.map_cons, List.foldl_cons, ih]
    · rw [if_neg c, if_neg c, ih]
theorem foldl_more {α β : Type} {f : β → α → β} {b : β} {l : List α} {i : Nat} {x : α} (h : l[i]? = some x) : (l.take (i + 1)).foldl f b = f ((l.take i).foldl f b) x := by
  rw [take_more h, List.foldl_append]
  rfl
theorem pure_Plot_floors_on (T : Txt K mg A) (vs : List V) (H : Hp) (Q : VK) (E : XK) (h : sp_Plot_floors_on A K vs H Q E) : t_Plot_floors_on A K (DE Q) (start N_Plot_floors_on vs) H := by
  obtain ⟨v, ⟨y, st, k, rfl, hg, hk, rfl⟩, fin⟩ := h
  have hp := hg.at_
  have hi := hp.ins
  obtain ⟨a1, a2, a3, a4, a5⟩ := row_lt hg.ok hk
  have ea := acr_gr hg.gr
  have hb : SqL K H y.b (refsV y.blks) := sq_of hp.bl
  refine rd_at (rd_asg (v := .int ((k % st.ground.across : Nat) : Int)) (ev_eq (ev_mod (j := (acr st : Int)) (by fail "ev") (by fail "ev") (by omega)) (by rw [ea]; rfl)) ?_)
  refine rd_asg (v := .int ((k / st.ground.across : Nat) : Int)) (ev_eq (ev_div (j := (acr st : Int)) (by fail "ev") (by fail "ev") (cdivK (by omega) (by omega))) (by rw [ea]; rfl)) ?_
  refine rd_asg (v := .int ((0 : Nat) : Int)) ev_c ?_
  let F : Nat → Kg72.Box → Nat := fun m b => if b.has (pt st.ground k) = true then max m b.floors else m
  refine rd_seq (rd_forL (by fail "ev") hb (fun i σ H' => ∃ v : Option V, σ = [some (.ref y.q), some (.int k), some (.int ((k % st.ground.across : Nat) : Int)), some (.int ((k / st.ground.across : Nat) : Int)), some (.int (((st.boxes.take i).foldl F 0 : Nat) : Int)), v] ∧ Ex H H')
    (fun H1 e1 => ⟨none, rfl, e1⟩) (fun i σ H' _ ⟨_, _, e'⟩ => ex_l e' hb) ?_ ?_)
  · rintro i x σ H' hix ⟨v, rfl, e'⟩
    obtain ⟨b, hbi, rfl⟩ := at_refs hix
    obtain ⟨x, hx, hbx⟩ := hp.bo.getA hbi
    have hbx := hbx.mono e'
    have hF := foldl_more (f := F) (b := 0) hx
    generalize hm : (st.boxes.take i).foldl F 0 = m at hF ⊢
    have hcond : x.has (pt st.ground k) = ((decide ((x.x : Int) ≤ ((k % st.ground.across : Nat) : Int)) && decide (((k % st.ground.across : Nat) : Int) ≤ (x.x2 : Int))) && (decide ((x.y : Int) ≤ ((k / st.ground.across : Nat) : Int)) && decide (((k / st.ground.across : Nat) : Int) ≤ (x.y2 : Int)))) := by
      unfold Kg72.Box.has pt
      simp only [Int.ofNat_le, Bool.and_assoc]
    refine rd_at (rd_if (b := x.has (pt st.ground k)) ?_ ?_ ?_)
    · rw [hcond]
      fail "ev"
    · intro c
      refine rd_asg1 (v := .int ((max m x.floors : Nat) : Int)) ?_ fun H2 e2 => ?_
      · refine' ev_eq ?h1 ?h2
        case h1 => fail "ev"
        case h2 => congr 1; omega
      · refine ⟨some (.ref b), ?_, e'.trans e2⟩
        rw [hF]
        show _ = [_, _, _, _, some (V.int ((if x.has (pt st.ground k) = true then max m x.floors else m : Nat) : Int)), _]
        rw [if_pos c]
        rfl
    · intro c
      refine rd_next fun H2 e2 => ⟨some (.ref b), ?_, e'.trans e2⟩
      rw [hF]
      show _ = [_, _, _, _, some (V.int ((if x.has (pt st.ground k) = true then max m x.floors else m : Nat) : Int)), _]
      rw [if_neg (by rw [c]; decide)]
      rfl
  · rintro σ H' ⟨v, rfl, e'⟩
    rw [len_refs, hp.bo.len, List.take_length, ← built_fold]
    dsimp only
    exact rd_at (rd_ret (ev_var rfl) fun H2 e2 => fin H2 (e'.trans e2))
theorem pure_Plot_all_floors (T : Txt K mg A) (vs : List V) (H : Hp) (Q : VK) (E : XK) (h : sp_Plot_all_floors A K vs H Q E) : t_Plot_all_floors A K (DE Q) (start N_Plot_all_floors vs) H := by
  obtain ⟨xs, ⟨y, st, rfl, hg, rfl⟩, k⟩ := h
  have hp := hg.at_
  have hi := hp.ins
  have hs : SqL K H y.sq (natsV st.ground.squares) := sq_of hp.sq
  refine rd_at (rd_retLE (v := ((List.range st.ground.squares.length).filter fun _ => true).map fun k => .int (st.built (pt st.ground k) : Nat)) ?_ ?_ k)
  · refine el_mapR _ _ (ev_eq (ev_len (by fail "ev") hs) (by rw [len_nats])) (Nat.le_trans (n_le hg.ok) (by decide)) (fun x => rfl) (fun i H1 e1 hi => et_yes) fun i H1 e1 hin _ => ?_
    have hg := hg.mono e1
    exact ev_meth (ev_var rfl) (hm_Plot_floors_on hg.at_.ins) (ea_cons (ev_var rfl) ea_nil) (sv_floors_on hg hin)
  · rw [filter_tt]
    unfold natsV
    rw [List.map_map]
    rfl
theorem zip_range {β : Type} (f : Nat → β) : ∀ n m : Nat, ((List.range' m n).map f).zipIdx m = (List.range' m n).map fun i => (f i, i)
  | 0, m => rfl
  | n + 1, m => by
    rw [List.range'_succ, List.map_cons, List.zipIdx_cons, List.map_cons, zip_range f n (m + 1)]
theorem pure_Plot_built (T : Txt K mg A) (vs : List V) (H : Hp) (Q : VK) (E : XK) (h : sp_Plot_built A K vs H Q E) : t_Plot_built A K (DE Q) (start N_Plot_built vs) H := by
  obtain ⟨xs, ⟨y, st, rfl, hg, rfl⟩, k⟩ := h
  have hp := hg.at_
  have hi := hp.ins
  have e0 : ((List.range st.ground.squares.length).map fun k => st.built (pt st.ground k)).zipIdx = (List.range st.ground.squares.length).map fun i => (st.built (pt st.ground i), i) := by
    rw [List.range_eq_range']
    exact zip_range _ _ 0
  refine rd_at (rd_retLE (el_mapE (xs := (List.range st.ground.squares.length).map fun k => st.built (pt st.ground k)) (fun _ f => decide ((0 : Int) < (f : Int))) (fun i _ => .int (i : Nat)) (ea_listN (el_meth (ev_var rfl) (hm_Plot_all_floors hi) ea_nil (sl_all_floors hg))) (len_nats _) ?_ (fun x z => rfl) ?_ ?_) ?_ k)
  · rw [List.length_map, List.length_range]
    exact Nat.le_trans (n_le hg.ok) (by decide)
  · intro i v x H1 e1 hv hx
    obtain ⟨x', hx', rfl⟩ := at_nats hv
    rw [hx] at hx'
    cases hx'
    fail "ev"
  · intro i v x H1 e1 hv hx _
    exact ev_var rfl
  · rw [e0, List.filter_map, List.map_map]
    unfold natsV builtIx
    have : ((fun z : Nat × Nat => decide ((0 : Int) < (z.1 : Int))) ∘ fun i => (st.built (pt st.ground i), i)) = fun k => decide (0 < st.built (pt st.ground k)) := by
      funext k
      simp
    rw [this]
    rfl
end

/-! ### a loop over enumerate whose body changes nothing that stood -/
section
variable {A : Adr} {K : PySem.W.Frag} {mg : Str → Option Value} {σ : L2.St} {H : Hp} {D : Ends} {t : TS}
theorem rd_forE {ta : TA} {j1 j2 : Nat} {l : List V} (hx : ∀ H1, Ex H H1 → ∀ Q : List V → Hp → Prop, (∀ q H2, Ex H1 H2 → SqL K H2 q l → Q [.ref q] H2) → ta σ H1 Q) (Iv : Nat → L2.St → Prop) (h0 : Iv 0 σ)
    (hs : ∀ (i : Nat) (v : V) σ' Hc H1, l[i]? = some v → Iv i σ' → Ex H Hc → Ex Hc H1 → Rd t { D with nx := fun σ2 H2 => Iv (i + 1) σ2 ∧ Ex Hc H2, ct := fun σ2 H2 => Iv (i + 1) σ2 ∧ Ex Hc H2, bk := D.nx } ((σ'.set j1 (some (.int (i : Nat)))).set j2 (some v)) H1)
    (hd : ∀ σ' H1, Ex H H1 → Iv l.length σ' → D.nx σ' H1) : Rd (tFor (iEnum K ta) (gTup K 2 (gCons (gName j1) (gCons (gName j2) gNil))) t) D σ H := fun H0 e => hx H0 e _ fun a H1 e1 hq => ⟨a, l, rfl, hq, by
  refine ⟨fun i m σ' H' => m = l.length - i ∧ i ≤ l.length ∧ Iv i σ' ∧ Ex H1 H', ⟨l.length, rfl, Nat.zero_le _, h0, Ex.refl H1⟩, ?_⟩
  rintro i m σ' H' ⟨rfl, hi, iv, ex⟩
  have hq' : SqL K H' a l := ex_l ex hq
  by_cases hlt : i < l.length
  · have hxi : l[i]? = some l[i] := List.getElem?_eq_getElem hlt
    refine .inr ⟨⟨l, _, hq', hxi⟩, fun σ2 H2 => Iv (i + 1) σ2 ∧ Ex H' H2, fun σ2 H2 p' => ⟨l.length - (i + 1), by omega, rfl, hlt, p'.1, ex.trans p'.2⟩, fun v H2 y => ?_⟩
    obtain ⟨T, x, rfl, hT, rfl, hx'⟩ := y
    have exx : x = l[i] := by
      have := hx' l hq'
      rw [hxi] at this
      exact (Option.some.inj this).symm
    refine ⟨T, _, rfl, st_of upd_same, rfl, _, _, rfl, _, _, rfl, rfl, ?_⟩
    exact rd_at (hs i x σ' H' _ (by rw [hxi, exx]) iv ((e.trans e1).trans ex) (Ex.new hT))
  · have ei : i = l.length := by omega
    subst ei
    exact .inl ⟨⟨l, hq', Nat.le_refl _⟩, hd σ' H' ((e.trans e1).trans ex) iv⟩⟩
theorem pure_Plot_how_far (T : Txt K mg A) (vs : List V) (H : Hp) (Q : VK) (E : XK) (h : sp_Plot_how_far A K vs H Q E) : t_Plot_how_far A K (DE Q) (start N_Plot_how_far vs) H := by
  obtain ⟨v, ⟨y, st, k, sort, rfl, hg, hk, rfl⟩, fin⟩ := h
  have hp := hg.at_
  have hi := hp.ins
  obtain ⟨a1, a2, a3, a4, a5⟩ := row_lt hg.ok hk
  have ea := acr_gr hg.gr
  have hs : SqL K H y.sq (natsV st.ground.squares) := sq_of hp.sq
  have loop : ∀ (u1 u2 : Option V), Rd (tSeq (tFor (iEnum K (tCons (tFld K (tVar 0) "squares") (tNil))) (gTup K 2 (gCons (gName 6) (gCons (gName 7) (gNil)))) (tIfS (tTest (tOp rEq (tVar 7) (tVar 2))) (tAsg (tCB rMin2 (tCons (tVar 3) (tCons (tMeth A.c_Plot "apart" (sp_Plot_apart A K) [] E0 (tVar 0) (tCons (tVar 1) (tCons (tVar 6) (tNil)))) (tNil)))) (gName 3)) (tNext)))
      (tRet (tVar 3))) (DE Q) [some (.ref y.q), some (.int k), some (.int sort), some (.int (farStart st.ground k sort : Nat)), u1, u2, none, none] H := by
    intro u1 u2
    refine rd_seq (rd_forE (l := natsV st.ground.squares) (ea_list (by fail "ev") hs) (fun i σ => ∃ w1 w2 : Option V, σ = [some (.ref y.q), some (.int k), some (.int sort), some (.int (((List.range i).foldl (farStep st.ground k sort) (farStart st.ground k sort) : Nat) : Int)), u1, u2, w1, w2])
      ⟨none, none, rfl⟩ ?_ ?_)
    · rintro i v σ Hc H1 hv ⟨w1, w2, rfl⟩ e1 e2
      obtain ⟨s, hs, rfl⟩ := at_nats hv
      have hg1 := hg.mono (e1.trans e2)
      have hi1 := hg1.at_.ins
      have hF : (List.range (i + 1)).foldl (farStep st.ground k sort) (farStart st.ground k sort) = farStep st.ground k sort ((List.range i).foldl (farStep st.ground k sort) (farStart st.ground k sort)) i := by
        rw [List.range_succ, List.foldl_append]
        rfl
      generalize (List.range i).foldl (farStep st.ground k sort) (farStart st.ground k sort) = m at hF ⊢
      refine rd_if (b := decide ((s : Int) = (sort : Int))) (by fail "ev") ?_ ?_
      · intro c
        have c : s = sort := by have := of_decide_eq_true c; omega
        subst c
        refine rd_asg1 (v := .int ((min m (cheb st.ground.across k i) : Nat) : Int)) ?_ fun H2 e3 => ⟨⟨some (.int (i : Nat)), some (.int (s : Nat)), ?_⟩, e2.trans e3⟩
        · refine' ev_eq ?h1 ?h2
          case h1 => fail "ev"
          case h2 => congr 1; omega
        · rw [hF]
          unfold farStep
          rw [if_pos hs]
          rfl
      · intro c
        have c : ¬ s = sort := by have := of_decide_eq_false c; omega
        refine rd_next fun H2 e3 => ⟨⟨some (.int (i : Nat)), some (.int (s : Nat)), ?_⟩, e2.trans e3⟩
        rw [hF]
        unfold farStep
        rw [hs, if_neg (fun q => c (Option.some.inj q))]
        rfl
    · rintro σ H1 e1 ⟨w1, w2, rfl⟩
      rw [len_nats]
      dsimp only
      exact rd_at (rd_ret (ev_var rfl) fun H2 e2 => fin H2 (e1.trans e2))
  refine rd_at (rd_asg (v := .int 1000) ev_c ?_)
  refine rd_ifs (b := decide ((sort : Int) = 0)) (by fail "ev") ?_ ?_
  · intro c
    have c : sort = 0 := by have := of_decide_eq_true c; omega
    subst c
    refine rd_asg (v := .int ((k % st.ground.across : Nat) : Int)) (ev_eq (ev_mod (j := (acr st : Int)) (by fail "ev") (by fail "ev") (by omega)) (by rw [ea]; rfl)) ?_
    refine rd_asg (v := .int ((k / st.ground.across : Nat) : Int)) (ev_eq (ev_div (j := (acr st : Int)) (by fail "ev") (by fail "ev") (cdivK (by omega) (by omega))) (by rw [ea]; rfl)) ?_
    have l2 := loop (some (.int ((k % st.ground.across : Nat) : Int))) (some (.int ((k / st.ground.across : Nat) : Int)))
    have es : farStart st.ground k 0 = min (min (min (k % st.ground.across + 1) (k / st.ground.across + 1)) (st.ground.across - k % st.ground.across)) (st.ground.down - k / st.ground.across) := if_pos rfl
    rw [es] at l2
    generalize k % st.ground.across = x at *
    generalize k / st.ground.across = z at *
    refine rd_asg1 (v := .int ((min (min (min (x + 1) (z + 1)) (st.ground.across - x)) (st.ground.down - z) : Nat) : Int)) ?_ fun H1 e1 => ?_
    · refine' ev_eq ?h1 ?h2
      case h1 => fail "ev"
      case h2 => congr 1; omega
    · exact l2 H1 e1
  · intro c
    have c : ¬ sort = 0 := by have := of_decide_eq_false c; omega
    have l2 := loop none none
    rw [show farStart st.ground k sort = 1000 from if_neg c] at l2
    exact rd_next fun H1 e1 => l2 H1 e1
theorem pure_Plot_inward (T : Txt K mg A) (vs : List V) (H : Hp) (Q : VK) (E : XK) (h : sp_Plot_inward A K vs H Q E) : t_Plot_inward A K (DE Q) (start N_Plot_inward vs) H := by
  obtain ⟨v, ⟨y, st, k, rfl, hg, hk, rfl⟩, fin⟩ := h
  have hi := hg.at_.ins
  have go := hg.ok.grOk hg.gr
  refine' rd_at (rd_retE (ev_max2 ev_c (ev_sub (ev_meth (ev_var rfl) (hm_Plot_how_far hi) (ea_cons (ev_var rfl) (ea_cons ev_c ea_nil)) (sv_how_far hg hk 0)) ev_c)) ?_ fin)
  rw [inward_eq go.ha go.hN hk]
  congr 1
  omega
theorem pure_Plot_height_of (T : Txt K mg A) (vs : List V) (H : Hp) (Q : VK) (E : XK) (h : sp_Plot_height_of A K vs H Q E) : t_Plot_height_of A K (DE Q) (start N_Plot_height_of vs) H := by
  obtain ⟨v, ⟨y, st, k, rfl, hg, hk, rfl⟩, fin⟩ := h
  have hi := hg.at_.ins
  have hr := hg.at_.ru
  have := hg.ok.rise
  refine' rd_at (rd_retE ?h1 ?h2 fin)
  case h1 => fail "ev"
  case h2 =>
    unfold Kg72.State.high
    congr 1
    rw [← Int.natCast_mul]
    omega
theorem pure_Plot_most_floors (T : Txt K mg A) (vs : List V) (H : Hp) (Q : VK) (E : XK) (h : sp_Plot_most_floors A K vs H Q E) : t_Plot_most_floors A K (DE Q) (start N_Plot_most_floors vs) H := by
  obtain ⟨v, ⟨y, st, k, rfl, hg, hk, rfl⟩, fin⟩ := h
  have hi := hg.at_.ins
  have hr := hg.at_.ru
  obtain ⟨f1, f2⟩ := hg.ok.floor
  refine' rd_at (rd_retE ?h1 ?h2 fin)
  case h1 => fail "ev"
  case h2 => rfl
theorem pure_Plot_is_near_street (T : Txt K mg A) (vs : List V) (H : Hp) (Q : VK) (E : XK) (h : sp_Plot_is_near_street A K vs H Q E) : t_Plot_is_near_street A K (DE Q) (start N_Plot_is_near_street vs) H := by
  obtain ⟨v, ⟨y, st, k, rfl, hg, hk, rfl⟩, fin⟩ := h
  have hi := hg.at_.ins
  have hr := hg.at_.ru
  have go := hg.ok.grOk hg.gr
  have hf := hg.ok.front
  refine' rd_at (rd_retE (ev_le (ev_meth (ev_var rfl) (hm_Plot_how_far hi) (ea_cons (ev_var rfl) (ea_cons ev_c ea_nil)) (sv_how_far hg hk 2)) (j := st.rules.front) (by fail "ev")) ?_ fin)
  rw [near_street go.ha go.hN (by omega)]
  simp
theorem pure_Plot_is_near_others (T : Txt K mg A) (vs : List V) (H : Hp) (Q : VK) (E : XK) (h : sp_Plot_is_near_others A K vs H Q E) : t_Plot_is_near_others A K (DE Q) (start N_Plot_is_near_others vs) H := by
  obtain ⟨v, ⟨y, st, k, rfl, hg, hk, rfl⟩, fin⟩ := h
  have hi := hg.at_.ins
  have hr := hg.at_.ru
  have go := hg.ok.grOk hg.gr
  refine' rd_at (rd_retE (ev_le (ev_meth (ev_var rfl) (hm_Plot_how_far hi) (ea_cons (ev_var rfl) (ea_cons ev_c ea_nil)) (sv_how_far hg hk 0)) (j := st.rules.side) (by fail "ev")) ?_ fin)
  rw [near_others go.ha go.hN hk]
  simp
theorem sq_at {st : Kg72.State} {k : Nat} (hk : k < st.ground.squares.length) : st.ground.squares[k]? = some (st.ground.squares.getD k 0) := by
  rw [List.getD_eq_getElem?_getD, List.getElem?_eq_getElem hk]
  rfl
theorem pure_Plot_is_open (T : Txt K mg A) (vs : List V) (H : Hp) (Q : VK) (E : XK) (h : sp_Plot_is_open A K vs H Q E) : t_Plot_is_open A K (DE Q) (start N_Plot_is_open vs) H := by
  obtain ⟨v, ⟨y, st, k, rfl, hg, hk, rfl⟩, fin⟩ := h
  have hi := hg.at_.ins
  have hs : SqL K H y.sq (natsV st.ground.squares) := sq_of hg.at_.sq
  have go := hg.ok.grOk hg.gr
  have hx := sq_at hk
  refine' rd_at (rd_retE ?h1 ?h2 fin)
  case h1 => fail "ev"
  case h2 =>
    unfold Kg72.State.open_
    rw [at_pt go hk]
    congr 2
    by_cases c : st.ground.squares.getD k 0 = 1
    · rw [c]; rfl
    · rw [decide_eq_false (by omega), beq_eq_false_iff_ne.mpr c]
theorem pure_Plot_wanted (T : Txt K mg A) (vs : List V) (H : Hp) (Q : VK) (E : XK) (h : sp_Plot_wanted A K vs H Q E) : t_Plot_wanted A K (DE Q) (start N_Plot_wanted vs) H := by
  obtain ⟨v, ⟨y, st, rfl, hg, rfl⟩, fin⟩ := h
  have hi := hg.at_.ins
  have hr := hg.at_.ru
  have go := hg.ok.grOk hg.gr
  have hc := hg.ok.car
  unfold Kg72.State.wanted at fin
  refine rd_at (rd_when (b := decide ((st.rules.car : Int) = 0)) (by fail "ev") ?_ ?_)
  · intro c
    have c : st.rules.car = 0 := by have := of_decide_eq_true c; omega
    rw [if_pos c] at fin
    exact rd_ret ev_c fin
  · intro c
    have c : ¬ st.rules.car = 0 := by have := of_decide_eq_false c; omega
    rw [if_neg c] at fin
    have hsum : Ev (tCB (rSum K) (tCons (tMeth A.c_Plot "all_floors" (sp_Plot_all_floors A K) [] E0 (tVar 0) tNil) (tNil))) (L2.start N_Plot_wanted [V.ref y.q]) H (.int (st.floorArea : Nat)) := by
      have e1 : natsV ((List.range st.ground.squares.length).map fun k => st.built (pt st.ground k)) = (((List.range st.ground.squares.length).map fun k => st.built (pt st.ground k)).map fun (n : Nat) => (n : Int)).map V.int := natsV_ints _
      have e2 : ∀ l : List Nat, (l.map fun (n : Nat) => (n : Int)).sum = ((l.sum : Nat) : Int) := fun l => by
        induction l with
        | nil => rfl
        | cons a r ih => rw [List.map_cons, List.sum_cons, List.sum_cons, ih]; omega
      rw [floorArea_eq go, ← e2]
      refine ev_sumN ?_
      rw [← e1]
      exact el_meth (ev_var rfl) (hm_Plot_all_floors hi) ea_nil (sl_all_floors hg)
    refine' rd_retE (ev_div (i := (st.floorArea : Int) + (st.rules.car : Int) - 1) (j := (st.rules.car : Int)) (ev_sub (ev_add hsum (by fail "ev")) ev_c) (by fail "ev") (cdivK (by omega) (by omega))) ?_ fin
    rw [Int.natCast_ediv]
    congr 2
    omega
end

/-! ### new tuples told by a word -/
def EvUR (te : TE) (σ : L2.St) (H : Hp) (R : List V → Hp → Prop) : Prop := ∀ H1, Ex H H1 → ∀ Q : VK, (∀ p vs H2, H1 p = none → Ex H1 H2 → H2 p = some (.tup vs) → R vs H2 → Q (.ref p) H2) → te σ H1 Q
section
variable {A : Adr} {K : PySem.W.Frag} {mg : Str → Option Value} {σ : L2.St} {H H1 H' : Hp} {ta tb tv te : TE} {D : Ends} {t u : TS} {a C l d : Addr} {v : V} {xs : List V} {g : TG}
theorem rd_forUR {R : List V → Hp → Prop} (h : EvUR te σ H R) (k : ∀ p vs H1, H p = none → Ex H H1 → H1 p = some (.tup vs) → R vs H1 → ∃ Pv : Nat → L2.St → Hp → Prop, Pv 0 σ H1 ∧ (∀ i σ' H', i ≤ vs.length → Pv i σ' H' → SqT K H' p vs) ∧
    (∀ i x σ' H', vs[i]? = some x → Pv i σ' H' → g x σ' H' fun σ2 H2 => t { D with nx := Pv (i + 1), ct := Pv (i + 1), bk := D.nx } σ2 H2) ∧ (∀ σ' H', Pv vs.length σ' H' → D.nx σ' H')) : Rd (tFor (iTup K te) g t) D σ H := fun H0 e => h H0 e _ fun p vs H1 hp e1 h1 r => by
  obtain ⟨Pv, k1, k2, k3, k4⟩ := k p vs H1 (fresh_back e hp) (e.trans e1) h1 r
  exact ⟨p, rfl, ⟨vs, st_of h1⟩, for_tup Pv k1 k2 k3 k4⟩
theorem Apart.ins {H H1 H' : Hp} {p : Addr} (e : Ex H H1) (a : Apart H1 H' p) (hp : H p = none) : Ex H H' := fun b o h => a b o (e b o h) (ne_of_none h hp)
theorem tup_go {ta : TA} {Q : VK} (h : ta σ H fun xs H1 => xs.length ≤ sizeLine ∧ ∀ p, H1 p = none → Q (.ref p) (upd H1 p (.tup xs))) : tTup ta σ H Q := h
theorem cons_go {tr : TA} {Q : List V → Hp → Prop} (h : ta σ H fun x H1 => tr σ H1 fun xs H2 => Q (x :: xs) H2) : tCons ta tr σ H Q := h
def tw (x z : Nat) : Nat → Int × Int
  | 0 => ((x : Int) - 1, z)
  | 1 => ((x : Int) + 1, z)
  | 2 => (x, (z : Int) - 1)
  | _ => (x, (z : Int) + 1)
def twSeg (a d k : Nat) : Nat → List Nat
  | 0 => if 0 < k % a then [k - 1] else []
  | 1 => if k % a + 1 < a then [k + 1] else []
  | 2 => if 0 < k / a then [k - a] else []
  | _ => if k / a + 1 < d then [k + a] else []
theorem tw_seg {a d k : Nat} (ha : 1 ≤ a) (hx : k % a < a) (hz : k / a < d) (i : Nat) :
    ((((decide (0 ≤ (tw (k % a) (k / a) i).1) && decide ((tw (k % a) (k / a) i).1 < (a : Int))) && (decide (0 ≤ (tw (k % a) (k / a) i).2) && decide ((tw (k % a) (k / a) i).2 < (d : Int)))) = true ∧
      ∃ n : Nat, twSeg a d k i = [n] ∧ (tw (k % a) (k / a) i).2 * (a : Int) + (tw (k % a) (k / a) i).1 = n) ∨
    (((decide (0 ≤ (tw (k % a) (k / a) i).1) && decide ((tw (k % a) (k / a) i).1 < (a : Int))) && (decide (0 ≤ (tw (k % a) (k / a) i).2) && decide ((tw (k % a) (k / a) i).2 < (d : Int)))) = false ∧ twSeg a d k i = [])) := by
  obtain ⟨x, z, _, ek, e1, e2⟩ := split_at a k ha
  rw [e1] at hx
  rw [e2] at hz
  rw [e1, e2]
  have ek' : (k : Int) = z * a + x := by rw [ek]; push_cast; rfl
  match i with
  | 0 =>
    show ((((decide (0 ≤ (x : Int) - 1) && decide ((x : Int) - 1 < (a : Int))) && (decide (0 ≤ (z : Int)) && decide ((z : Int) < (d : Int)))) = true ∧ ∃ n : Nat, (if 0 < k % a then [k - 1] else []) = [n] ∧ (z : Int) * (a : Int) + ((x : Int) - 1) = n) ∨ (((decide (0 ≤ (x : Int) - 1) && decide ((x : Int) - 1 < (a : Int))) && (decide (0 ≤ (z : Int)) && decide ((z : Int) < (d : Int)))) = false ∧ (if 0 < k % a then [k - 1] else []) = []))
    rw [e1]
    by_cases c : 0 < x
    · refine .inl ⟨?_, k - 1, by rw [if_pos c], ?_⟩
      · simp only [Bool.and_eq_true, decide_eq_true_eq]; omega
      · generalize (z : Int) * a = w at *; omega
    · refine .inr ⟨?_, if_neg c⟩
      rw [decide_eq_false (by omega)]; rfl
  | 1 =>
    show ((((decide (0 ≤ (x : Int) + 1) && decide ((x : Int) + 1 < (a : Int))) && (decide (0 ≤ (z : Int)) && decide ((z : Int) < (d : Int)))) = true ∧ ∃ n : Nat, (if k % a + 1 < a then [k + 1] else []) = [n] ∧ (z : Int) * (a : Int) + ((x : Int) + 1) = n) ∨ (((decide (0 ≤ (x : Int) + 1) && decide ((x : Int) + 1 < (a : Int))) && (decide (0 ≤ (z : Int)) && decide ((z : Int) < (d : Int)))) = false ∧ (if k % a + 1 < a then [k + 1] else []) = []))
    rw [e1]
    by_cases c : x + 1 < a
    · refine .inl ⟨?_, k + 1, by rw [if_pos c], ?_⟩
      · simp only [Bool.and_eq_true, decide_eq_true_eq]; omega
      · generalize (z : Int) * a = w at *; omega
    · refine .inr ⟨?_, if_neg c⟩
      rw [decide_eq_false (p := (x : Int) + 1 < a) (by omega), Bool.and_false]; rfl
  | 2 =>
    show ((((decide (0 ≤ (x : Int)) && decide ((x : Int) < (a : Int))) && (decide (0 ≤ (z : Int) - 1) && decide ((z : Int) - 1 < (d : Int)))) = true ∧ ∃ n : Nat, (if 0 < k / a then [k - a] else []) = [n] ∧ ((z : Int) - 1) * (a : Int) + (x : Int) = n) ∨ (((decide (0 ≤ (x : Int)) && decide ((x : Int) < (a : Int))) && (decide (0 ≤ (z : Int) - 1) && decide ((z : Int) - 1 < (d : Int)))) = false ∧ (if 0 < k / a then [k - a] else []) = []))
    rw [e2]
    by_cases c : 0 < z
    · refine .inl ⟨?_, k - a, by rw [if_pos c], ?_⟩
      · simp only [Bool.and_eq_true, decide_eq_true_eq]; omega
      · obtain ⟨z', rfl⟩ : ∃ z', z = z' + 1 := ⟨z - 1, by omega⟩
        rw [Nat.succ_mul] at ek
        have : (((z' + 1 : Nat) : Int) - 1) * (a : Int) = ((z' * a : Nat) : Int) := by push_cast; rw [Int.add_sub_cancel]
        rw [this]
        omega
    · refine .inr ⟨?_, if_neg c⟩
      rw [decide_eq_false (p := 0 ≤ (z : Int) - 1) (by omega), Bool.false_and, Bool.and_false]
  | i + 3 =>
    show ((((decide (0 ≤ (x : Int)) && decide ((x : Int) < (a : Int))) && (decide (0 ≤ (z : Int) + 1) && decide ((z : Int) + 1 < (d : Int)))) = true ∧ ∃ n : Nat, (if k / a + 1 < d then [k + a] else []) = [n] ∧ ((z : Int) + 1) * (a : Int) + (x : Int) = n) ∨ (((decide (0 ≤ (x : Int)) && decide ((x : Int) < (a : Int))) && (decide (0 ≤ (z : Int) + 1) && decide ((z : Int) + 1 < (d : Int)))) = false ∧ (if k / a + 1 < d then [k + a] else []) = []))
    rw [e2]
    by_cases c : z + 1 < d
    · refine .inl ⟨?_, k + a, by rw [if_pos c], ?_⟩
      · simp only [Bool.and_eq_true, decide_eq_true_eq]; omega
      · have : ((z : Int) + 1) * (a : Int) = ((z * a : Nat) : Int) + a := by rw [Int.add_mul, Int.one_mul]; push_cast; rfl
        rw [this]
        omega
    · refine .inr ⟨?_, if_neg c⟩
      rw [decide_eq_false (p := (z : Int) + 1 < d) (by omega), Bool.and_false, Bool.and_false]
theorem bes_segs (g : Kg72.Ground) (k : Nat) : besIx g k = (List.range 4).flatMap (twSeg g.across g.down k) := by
  unfold besIx
  show _ = twSeg g.across g.down k 0 ++ (twSeg g.across g.down k 1 ++ (twSeg g.across g.down k 2 ++ (twSeg g.across g.down k 3 ++ [])))
  rw [List.append_nil, ← List.append_assoc, ← List.append_assoc]
  rfl
theorem seg_len (a d k i : Nat) : (twSeg a d k i).length ≤ 1 := by
  match i with
  | 0 => show (if 0 < k % a then [k - 1] else []).length ≤ 1; split <;> simp
  | 1 => show (if k % a + 1 < a then [k + 1] else []).length ≤ 1; split <;> simp
  | 2 => show (if 0 < k / a then [k - a] else []).length ≤ 1; split <;> exact Nat.le_of_ble_eq_true rfl
  | i + 3 => show (if k / a + 1 < d then [k + a] else []).length ≤ 1; split <;> simp
def segs (a d k n : Nat) : List Nat := (List.range n).flatMap (twSeg a d k)
theorem segs_succ (a d k n : Nat) : segs a d k (n + 1) = segs a d k n ++ twSeg a d k n := by
  unfold segs
  rw [List.range_succ, List.flatMap_append, List.flatMap_cons, List.flatMap_nil, List.append_nil]
theorem natsV_app (l m : List Nat) : natsV (l ++ m) = natsV l ++ natsV m := List.map_append
theorem segs_len (a d k : Nat) : ∀ n, (segs a d k n).length ≤ n
  | 0 => Nat.le_refl 0
  | n + 1 => by
    rw [segs_succ, List.length_append]
    have := segs_len a d k n
    have h1 := seg_len a d k n
    omega
theorem pure_Plot_beside (T : Txt K mg A) (vs : List V) (H : Hp) (Q : VK) (E : XK) (h : sp_Plot_beside A K vs H Q E) : t_Plot_beside A K (DE Q) (start N_Plot_beside vs) H := by
  obtain ⟨xs, ⟨y, st, k, rfl, hg, hk, rfl⟩, fin⟩ := h
  have hp := hg.at_
  have hi := hp.ins
  obtain ⟨a1, a2, a3, a4, a5⟩ := row_lt hg.ok hk
  have ea := acr_gr hg.gr
  refine rd_at (rd_asg (v := .int ((k % st.ground.across : Nat) : Int)) (ev_eq (ev_mod (j := (acr st : Int)) (by fail "ev") (by fail "ev") (by omega)) (by rw [ea]; rfl)) ?_)
  refine rd_asg (v := .int ((k / st.ground.across : Nat) : Int)) (ev_eq (ev_div (j := (acr st : Int)) (by fail "ev") (by fail "ev") (cdivK (by omega) (by omega))) (by rw [ea]; rfl)) ?_
  refine rd_asgL (xs := []) (el_lst ea_nil (by decide)) fun pf H1 hpf e1 hl1 => ?_
  have key := fun i => tw_seg (a := st.ground.across) (d := st.ground.down) (k := k) (by omega) a3 a4 i
  rw [bes_segs] at fin
  change ∀ p H2, H p = none → Ex H H2 → H2 p = some (.lst (natsV (segs st.ground.across st.ground.down k 4))) → Q (.ref p) H2 at fin
  generalize k % st.ground.across = x at *
  generalize k / st.ground.across = z at *
  refine rd_seq (rd_forUR (R := fun vs H2 => vs.length = 4 ∧ ∀ i v, vs[i]? = some v → ∃ b, v = .ref b ∧ H2 b = some (.tup [.int (tw x z i).1, .int (tw x z i).2])) ?_ ?_)
  · intro H2 e2 Q2 q2
    have two : ∀ {i j : Int} {ta tb : TE} {H3 : Hp}, Ex H1 H3 → Ev ta [some (V.ref y.q), some (V.int k), some (V.int x), some (V.int z), some (V.ref pf), none, none] H1 (.int i) → Ev tb [some (V.ref y.q), some (V.int k), some (V.int x), some (V.int z), some (V.ref pf), none, none] H1 (.int j) →
        ∀ Q : VK, (∀ p H4, H3 p = none → Ex H3 H4 → H4 p = some (.tup [.int i, .int j]) → Q (.ref p) H4) → tTup (tCons ta (tCons tb tNil)) [some (V.ref y.q), some (V.int k), some (V.int x), some (V.int z), some (V.ref pf), none, none] H3 Q :=
      fun e ha hb Q q => eu_tup (ea_cons ha (ea_cons hb ea_nil)) (by simp) _ e Q q
    refine tup_go (cons_go ?_)
    refine two (i := (x : Int) - 1) (j := (z : Nat)) e2 (ev_sub (ev_var (i := 2) rfl) ev_c) (ev_var (i := 3) rfl) _ fun b0 H3 n0 e3 h0 => ?_
    refine cons_go ?_
    refine two (i := (x : Int) + 1) (j := (z : Nat)) (e2.trans e3) (ev_add (ev_var (i := 2) rfl) ev_c) (ev_var (i := 3) rfl) _ fun b1 H4 n1 e4 h1 => ?_
    refine cons_go ?_
    refine two (i := (x : Nat)) (j := (z : Int) - 1) ((e2.trans e3).trans e4) (ev_var (i := 2) rfl) (ev_sub (ev_var (i := 3) rfl) ev_c) _ fun b2 H5 n2 e5 h2 => ?_
    refine cons_go ?_
    refine two (i := (x : Nat)) (j := (z : Int) + 1) (((e2.trans e3).trans e4).trans e5) (ev_var (i := 2) rfl) (ev_add (ev_var (i := 3) rfl) ev_c) _ fun b3 H6 n3 e6 h3 => ?_
    refine ⟨sz_of (n := 4) (by decide), fun p np => ?_⟩
    have e36 := (e4.trans e5).trans e6
    have fx : Ex H6 (upd H6 p (.tup [.ref b0, .ref b1, .ref b2, .ref b3])) := Ex.new np
    refine q2 p _ _ (fresh_back (e3.trans e36) np) ((e3.trans e36).trans fx) upd_same ⟨rfl, fun i v hv => ?_⟩
    match i, hv with
    | 0, hv => exact ⟨b0, (Option.some.inj hv).symm, fx _ _ (e36 _ _ h0)⟩
    | 1, hv => exact ⟨b1, (Option.some.inj hv).symm, fx _ _ (e6 _ _ (e5 _ _ h1))⟩
    | 2, hv => exact ⟨b2, (Option.some.inj hv).symm, fx _ _ (e6 _ _ h2)⟩
    | 3, hv => exact ⟨b3, (Option.some.inj hv).symm, fx _ _ h3⟩
    | i + 4, hv => simp at hv
  · rintro pt vs H2 npt e2 hpt ⟨hlen, hel⟩
    refine ⟨fun i σ H' => ∃ w1 w2 : Option V, σ = [some (V.ref y.q), some (V.int k), some (V.int x), some (V.int z), some (V.ref pf), w1, w2] ∧ Apart H2 H' pf ∧ H' pf = some (.lst (natsV (segs st.ground.across st.ground.down k i))),
      ⟨none, none, rfl, Apart.refl, e2 _ _ hl1⟩, ?_, ?_, ?_⟩
    · rintro i σ H' _ ⟨_, _, _, ap, _⟩
      exact st_of (ap _ _ hpt (fun e => by rw [e, e2 _ _ hl1] at hpt; cases hpt))
    · rintro i v σ H' hv ⟨w1, w2, rfl, ap, hl⟩
      obtain ⟨b, rfl, hb⟩ := hel i v hv
      have nb : b ≠ pf := fun e => by rw [e, e2 _ _ hl1] at hb; cases hb
      refine ⟨b, _, rfl, st_of (ap _ _ hb nb), rfl, _, _, rfl, _, _, rfl, rfl, ?_⟩
      have hg' := hg.mono (Apart.ins (e1.trans e2) ap hpf)
      have hp' := hg'.at_
      have hi' := hp'.ins
      have sl := segs_len st.ground.across st.ground.down k i
      have ss := segs_succ st.ground.across st.ground.down k i
      generalize segs st.ground.across st.ground.down k i = pre at *
      have i4 : i < 4 := by rw [← hlen]; exact (List.getElem?_eq_some_iff.mp hv).1
      refine rd_at (rd_if (et_B (ev_meth (ev_var rfl) (hm_Plot_is_there hi') (ea_cons (ev_var rfl) (ea_cons (ev_var rfl) ea_nil)) (sv_is_there hp' _ _))) ?_ ?_)
      · intro c
        rw [ea] at c
        rcases key i with ⟨_, n, s1, s2⟩ | ⟨q, _⟩
        · refine rd_app (xs := natsV pre) (v := .int (n : Nat)) (ev_var rfl) hl (by rw [len_nats]; omega) ?_ fun H3 e3 h3 => ?_
          · refine ev_eq (ev_meth (ev_var rfl) (hm_Plot_place_of hi') (ea_cons (ev_var rfl) (ea_cons (ev_var rfl) ea_nil)) (sv_place_of hp' (by omega) _ _)) ?_
            rw [ea, s2]
          · refine ⟨some (V.int (tw x z i).1), some (V.int (tw x z i).2), rfl, (ap.ex e3).upd, ?_⟩
            rw [upd_same, ss, s1, natsV_app]
            rfl
        · rw [q] at c
          cases c
      · intro c
        rw [ea] at c
        rcases key i with ⟨q, _⟩ | ⟨_, s1⟩
        · rw [q] at c
          cases c
        · refine rd_next fun H3 e3 => ⟨some (V.int (tw x z i).1), some (V.int (tw x z i).2), rfl, ap.ex e3, ?_⟩
          rw [ss, s1, List.append_nil]
          exact e3 _ _ hl
    · rintro σ H' ⟨w1, w2, rfl, ap, hl⟩
      rw [hlen] at hl
      dsimp only
      have ex := Apart.ins (e1.trans e2) ap hpf
      exact rd_at (rd_ret (ev_var rfl) fun H3 e3 => fin pf H3 hpf (ex.trans e3) (e3 _ _ hl))
end

def leftV (M : List Nat) : List (Key × V) := M.map fun (k : Nat) => ((Sum.inl (k : Int) : Key), V.bl true)
theorem val_left (M : List Nat) (n : Nat) : valV (leftV M) (Sum.inl (n : Int)) = if n ∈ M then some (.bl true) else none := by
  induction M with
  | nil => rfl
  | cons a r ih =>
    unfold leftV at ih ⊢
    rw [List.map_cons]
    by_cases c : a = n
    · subst c
      rw [valV_pos (by rfl), if_pos List.mem_cons_self]
    · rw [valV_neg (fun z => c (by have := Sum.inl.inj z; omega)), ih]
      by_cases m : n ∈ r
      · rw [if_pos m, if_pos (List.mem_cons_of_mem _ m)]
      · rw [if_neg m, if_neg (fun z => (List.mem_cons.mp z).elim (fun w => c w.symm) m)]
theorem drop_left (M : List Nat) (n : Nat) : dropK (leftV M) (Sum.inl (n : Int)) = leftV (M.filter fun k => !decide (k = n)) := by
  unfold dropK leftV
  rw [List.filter_map]
  congr 1
  congr 1
  funext k
  show decide ((Sum.inl (k : Int) : Key) ≠ Sum.inl (n : Int)) = !decide (k = n)
  by_cases c : k = n
  · subst c; simp
  · have n1 : ¬ (Sum.inl (k : Int) : Key) = Sum.inl (n : Int) := fun z => c (by have := Sum.inl.inj z; omega)
    simp [n1, c]
theorem put_left (M : List Nat) (n : Nat) (h : n ∉ M) : putK (leftV M) (Sum.inl (n : Int)) (.bl true) = leftV (M ++ [n]) := by
  unfold putK
  rw [valV_any, val_left, if_neg h]
  unfold leftV
  rw [List.map_append]
  rfl
section
variable {A : Adr} {K : PySem.W.Frag} {mg : Str → Option Value} {σ : L2.St} {H H1 H' : Hp} {ta tb tv te tl : TE} {D : Ends} {t u : TS} {a C l d q p : Addr} {v : V} {xs : List V} {g : TG} {i j n : Nat} {M : List Nat}
theorem s_ifIn (h1 : σ[i]? = some (some (.int (n : Nat)))) (h2 : σ[j]? = some (some (.ref d))) (hd : H d = some (.dK (leftV M))) (k1 : n ∈ M → t D σ H) (k2 : n ∉ M → u D σ H) : tIfS (tB (tDIn (tVar i) (tVar j))) t u D σ H :=
  ⟨.int n, h1, .ref d, h2, d, _, rfl, DGet.k (k := Sum.inl (n : Int)) hd, _, rfl, by
    rw [val_left]
    by_cases c : n ∈ M
    · rw [if_pos c]; exact k1 c
    · rw [if_neg c]; exact k2 c⟩
theorem q_dpop (h1 : σ[i]? = some (some (.int (n : Nat)))) (h2 : σ[j]? = some (some (.ref d))) (hd : H d = some (.dK (leftV M))) (m : n ∈ M) (k : t D σ (upd H d (.dK (leftV (M.filter fun k => !decide (k = n)))))) : tSeq (tDrop (tDPop1 (tVar j) (tVar i))) t D σ H :=
  ⟨.ref d, h2, d, rfl, Or.inl ⟨_, Or.inl hd⟩, .int n, h1, _, Sum.inl (n : Int), .bl true, hd, rfl, by rw [val_left, if_pos m], by rw [drop_left]; exact k⟩
theorem s_dput (h1 : σ[i]? = some (some (.int (n : Nat)))) (h2 : σ[j]? = some (some (.ref d))) (hd : H d = some (.dK (leftV M))) (m : n ∉ M) (hl : M.length < 100000) (k : D.nx σ (upd H d (.dK (leftV (M ++ [n]))))) : sDPut (tVar j) (tVar i) (tC (.bl true)) D σ H :=
  ⟨.ref d, h2, .int n, h1, d, _, rfl, DPut.k (k := Sum.inl (n : Int)) hd (by unfold leftV; rw [List.length_map]; exact sz_lt hl), by rw [put_left _ _ m]; exact k⟩
theorem q_lpop (h : σ[i]? = some (some (.ref l))) (hl : H l = some (.lst (xs ++ [v]))) (k : t D (σ.set j (some v)) (upd H l (.lst xs))) : tSeq (tAsg (tBM0 K "list" rPop (tVar i)) (gName j)) t D σ H :=
  ⟨.ref l, h, Or.inl ⟨rfl, _, sq_of hl⟩, l, _, v, rfl, rfl, hl, by rw [List.length_append]; simp, by rw [List.dropLast_concat]; exact k⟩
theorem Apart.mut (a : Apart H H1 p) (h : H q = none) {o : HO} : Apart H (L2.upd H1 q o) p := fun b u hb n => by
  rw [upd_ne (ne_of_none hb h)]
  exact a b u hb n
/-- over a new list, the body changes nothing that stood -/
theorem rd_forN (h : EvL tl σ H xs) (Iv : Nat → L2.St → Prop) (h0 : Iv 0 σ)
    (hs : ∀ (i : Nat) (v : V) σ' Hc H1, xs[i]? = some v → Iv i σ' → Ex H Hc → Ex Hc H1 → Rd t { D with nx := fun σ2 H2 => Iv (i + 1) σ2 ∧ Ex Hc H2, ct := fun σ2 H2 => Iv (i + 1) σ2 ∧ Ex Hc H2, bk := D.nx } (σ'.set j (some v)) H1)
    (hd : ∀ σ' H1, Ex H H1 → Iv xs.length σ' → D.nx σ' H1) : Rd (tFor (iList K tl) (gName j) t) D σ H := fun H1 e => by
  refine h H1 e _ fun p H2 hp e2 h2 => ⟨p, rfl, ⟨xs, sq_of h2⟩, for_list (fun i σ' H' => Iv i σ' ∧ Ex H2 H') ⟨h0, Ex.refl _⟩ (fun i σ' H' _ w => sq_of (w.2 _ _ h2)) (fun i x σ' H' hx w => ?_) (fun σ' H' w => hd σ' H' ((e.trans e2).trans w.2) w.1)⟩
  exact rd_at (hs i x σ' H2 H' hx w.1 (e.trans e2) w.2)
theorem rd_forK (h : Ev tl σ H (.ref l)) (hx : SqL K H l xs) (Iv : Nat → L2.St → Prop) (h0 : Iv 0 σ)
    (hs : ∀ (i : Nat) (v : V) σ' Hc H1, xs[i]? = some v → Iv i σ' → Ex H Hc → Ex Hc H1 → Rd t { D with nx := fun σ2 H2 => Iv (i + 1) σ2 ∧ Ex Hc H2, ct := fun σ2 H2 => Iv (i + 1) σ2 ∧ Ex Hc H2, bk := D.nx } (σ'.set j (some v)) H1)
    (hd : ∀ σ' H1, Ex H H1 → Iv xs.length σ' → D.nx σ' H1) : Rd (tFor (iList K tl) (gName j) t) D σ H := fun H1 e => by
  refine h H1 e _ fun H2 e2 => ⟨l, rfl, ⟨xs, ex_l (e.trans e2) hx⟩, for_list (fun i σ' H' => Iv i σ' ∧ Ex H2 H') ⟨h0, Ex.refl _⟩ (fun i σ' H' _ w => ex_l ((e.trans e2).trans w.2) hx) (fun i x σ' H' hx w => ?_) (fun σ' H' w => hd σ' H' ((e.trans e2).trans w.2) w.1)⟩
  exact rd_at (hs i x σ' H2 H' hx w.1 (e.trans e2) w.2)
theorem rd_asgM0 {m : Str} {sp : Sp} (ha : Ev ta σ H (.ref a)) (hm : HasM H a C m) (hs : ∀ H1, Ex H H1 → sp [.ref a] H1 (fun v H2 => t D (σ.set i (some v)) H2) E0) : Rd (tSeq (tAsg (tMeth C m sp [] E0 ta tNil) (gName i)) t) D σ H := fun H1 e => ha H1 e _ fun H2 e2 => by
  obtain ⟨dx, fs, ho, l⟩ := hm.ex
  exact ⟨a, dx, fs, rfl, (e.trans e2) _ _ ho, l, hs H2 (e.trans e2)⟩
theorem take_any {α : Type} {f : α → Bool} {l : List α} {i : Nat} {x : α} (h : l[i]? = some x) (h0 : (l.take i).any f = false) (hx : f x = false) : (l.take (i + 1)).any f = false := by
  rw [take_more h, List.any_append, h0]
  simp [hx]
theorem pure_Plot_are_near (T : Txt K mg A) (vs : List V) (H : Hp) (Q : VK) (E : XK) (h : sp_Plot_are_near A K vs H Q E) : t_Plot_are_near A K (DE Q) (start N_Plot_are_near vs) H := by
  obtain ⟨v, ⟨y, st, a, b, l, m, rfl, hg, ha, hb, rfl⟩, fin⟩ := h
  have hr := hg.at_.ru
  refine rd_at (rd_seq (rd_forK (l := a) (ev_var rfl) ha (fun i σ => ∃ w1 w2 : Option V, σ = [some (.ref y.q), some (.ref a), some (.ref b), w1, w2] ∧ (l.take i).any (fun i => m.any fun j => decide ((cheb st.ground.across i j : Int) - 1 < (st.rules.gap : Int))) = false)
    ⟨none, none, rfl, rfl⟩ ?_ ?_))
  · rintro i v σ Hc H1 hv ⟨w1, w2, rfl, no⟩ e1 e2
    obtain ⟨x, hx, rfl⟩ := at_nats hv
    refine rd_forK (l := b) (ev_var rfl) (ex_l (e1.trans e2) hb) (fun j σ => ∃ w2 : Option V, σ = [some (.ref y.q), some (.ref a), some (.ref b), some (.int x), w2] ∧ (m.take j).any (fun j => decide ((cheb st.ground.across x j : Int) - 1 < (st.rules.gap : Int))) = false)
      ⟨w2, rfl, rfl⟩ ?_ ?_
    · rintro j v σ Hd H2 hv ⟨w2, rfl, no2⟩ e3 e4
      obtain ⟨z, hz, rfl⟩ := at_nats hv
      have hg2 := hg.mono (((e1.trans e2).trans e3).trans e4)
      have hi := hg2.at_.ins
      have hr := hg2.at_.ru
      refine rd_if (b := decide ((cheb st.ground.across x z : Int) - 1 < (st.rules.gap : Int))) (by fail "ev") ?_ ?_
      · intro c
        refine rd_ret ev_c fun H3 e5 => ?_
        have : l.any (fun i => m.any fun j => decide ((cheb st.ground.across i j : Int) - 1 < (st.rules.gap : Int))) = true :=
          List.any_eq_true.mpr ⟨x, List.mem_of_getElem? hx, List.any_eq_true.mpr ⟨z, List.mem_of_getElem? hz, c⟩⟩
        rw [this] at fin
        exact fin H3 ((((e1.trans e2).trans e3).trans e4).trans e5)
      · intro c
        exact rd_next fun H3 e5 => ⟨⟨_, rfl, take_any hz no2 c⟩, e4.trans e5⟩
    · rintro σ H2 e3 ⟨w2, rfl, no2⟩
      rw [len_nats, List.take_length] at no2
      exact ⟨⟨_, _, rfl, take_any hx no no2⟩, e2.trans e3⟩
  · rintro σ H1 e1 ⟨w1, w2, rfl, no⟩
    rw [len_nats, List.take_length] at no
    rw [no] at fin
    dsimp only
    exact rd_at (rd_ret ev_c fun H2 e2 => fin H2 (e1.trans e2))
theorem cut_from {xs : List V} {i : Nat} : cutV xs (some ((i : Nat) : Int)) none = xs.drop i := by
  unfold cutV
  have e1 : HT.sIx xs.length 0 (some ((i : Nat) : Int)) = min i xs.length := by
    unfold HT.sIx
    simp
    omega
  have e2 : HT.sIx xs.length xs.length none = xs.length := by
    unfold HT.sIx
    simp
  rw [e1, e2]
  by_cases c : i ≤ xs.length
  · rw [Nat.min_eq_left c, List.take_of_length_le (by rw [List.length_drop]; omega)]
  · rw [Nat.min_eq_right (by omega), List.drop_length, List.drop_eq_nil_of_le (by omega), List.take_nil]
theorem drop_refs (l : List Addr) (i : Nat) : (refsV l).drop i = refsV (l.drop i) := List.map_drop.symm
theorem pure_Plot_near_pairs (T : Txt K mg A) (vs : List V) (H : Hp) (Q : VK) (E : XK) (h : sp_Plot_near_pairs A K vs H Q E) : t_Plot_near_pairs A K (DE Q) (start N_Plot_near_pairs vs) H := by
  obtain ⟨v, ⟨y, st, rfl, hg, rfl⟩, fin⟩ := h
  have hi := hg.at_.ins
  refine rd_at (rd_asgM0 (ev_var rfl) (hm_Plot_houses hi) fun H1 e1 => ⟨y, st, rfl, hg.mono e1, fun p as hs H2 np e2 hp hl hel hh => ?_⟩)
  have e12 := e1.trans e2
  rw [← pairs_eq hh] at fin
  have hsp : SqL K H2 p (refsV as) := sq_of hp
  refine rd_at (rd_asg (v := .int 0) ev_c ?_)
  refine rd_seq (rd_forE (l := refsV as) (ea_list (ev_var rfl) hsp) (fun i σ => ∃ (c : Nat) (w3 w4 w5 : Option V), σ = [some (.ref y.q), some (.ref p), some (.int c), w3, w4, w5] ∧ c + pairsN (nearB st.ground.across st.rules.gap) (hs.drop i) = pairsN (nearB st.ground.across st.rules.gap) hs)
    ⟨0, none, none, none, rfl, by rw [List.drop_zero, Nat.zero_add]⟩ ?_ ?_)
  · rintro i v σ Hc H3 hv ⟨c, w3, w4, w5, rfl, sum⟩ e3 e4
    obtain ⟨a, ha, rfl⟩ := at_refs hv
    have e34 := e3.trans e4
    have hi' : i < hs.length := by rw [← hl]; exact (List.getElem?_eq_some_iff.mp ha).1
    have hx : hs[i]? = some hs[i] := List.getElem?_eq_getElem hi'
    have hla := hel i a _ ha hx
    rw [List.drop_eq_getElem_cons hi'] at sum
    have sum : c + (((hs.drop (i + 1)).filter (nearB st.ground.across st.rules.gap hs[i])).length + pairsN (nearB st.ground.across st.rules.gap) (hs.drop (i + 1))) = pairsN (nearB st.ground.across st.rules.gap) hs := sum
    refine rd_forN (xs := refsV (as.drop (i + 1))) ?_ (fun j σ => ∃ w5 : Option V, σ = [some (.ref y.q), some (.ref p), some (.int (c + ((((hs.drop (i + 1)).take j).filter (nearB st.ground.across st.rules.gap hs[i])).length) : Nat)), some (.int (i : Nat)), some (.ref a), w5])
      ⟨w5, rfl⟩ ?_ ?_
    · refine' el_eq (el_sl (ev_var rfl) (eo_some (i := ((i + 1 : Nat) : Int)) ?h1) eo_none (ex_l e34 hsp)) ?h2
      case h1 =>
        refine' ev_eq ?h3 ?h4
        case h3 => fail "ev"
        case h4 => rfl
      case h2 => rw [cut_from, drop_refs]
    · rintro j v σ Hd H4 hv ⟨w5, rfl⟩ e5 e6
      obtain ⟨b, hb, rfl⟩ := at_refs hv
      rw [List.getElem?_drop] at hb
      have hj' : i + 1 + j < hs.length := by rw [← hl]; exact (List.getElem?_eq_some_iff.mp hb).1
      have hz : hs[i + 1 + j]? = some hs[i + 1 + j] := List.getElem?_eq_getElem hj'
      have hlb := hel _ b _ hb hz
      have ee := (e34.trans e5).trans e6
      have hg4 := hg.mono (e12.trans ee)
      have hi4 := hg4.at_.ins
      refine rd_aug1 (p := ((c + ((((hs.drop (i + 1)).take j).filter (nearB st.ground.across st.rules.gap hs[i])).length) : Nat) : Int)) (q := if nearB st.ground.across st.rules.gap hs[i] hs[i + 1 + j] = true then 1 else 0) rfl ?_ fun H5 e7 => ⟨⟨some (.ref b), ?_⟩, e6.trans e7⟩
      · refine ev_eq (ev_if2 (b := nearB st.ground.across st.rules.gap hs[i] hs[i + 1 + j]) (et_B (ev_meth (ev_var rfl) (hm_Plot_are_near hi4) (ea_cons (ev_var rfl) (ea_cons (ev_var rfl) ea_nil)) (sv_are_near hg4 (sq_of (ee _ _ hla)) (sq_of (ee _ _ hlb))))) (fun _ => ev_c) (fun _ => ev_c)) ?_
        split <;> rfl
      · have hk : (hs.drop (i + 1))[j]? = some hs[i + 1 + j] := by rw [List.getElem?_drop]; exact hz
        rw [take_more hk, List.filter_append, List.length_append, List.filter_cons, List.filter_nil]
        cases nearB st.ground.across st.rules.gap hs[i] hs[i + 1 + j]
        · simp [L2.start]
        · simp [L2.start]
          omega
    · rintro σ H4 e5 ⟨w5, rfl⟩
      rw [len_refs, List.length_drop, hl, ← List.length_drop, List.take_length]
      exact ⟨⟨_, _, _, _, rfl, by omega⟩, e4.trans e5⟩
  · rintro σ H3 e3 ⟨c, w3, w4, w5, rfl, sum⟩
    rw [len_refs, hl, List.drop_length] at sum
    have sum : c = pairsN (nearB st.ground.across st.rules.gap) hs := sum
    rw [← sum] at fin
    dsimp only
    exact rd_at (rd_ret (ev_var rfl) fun H4 e4 => fin H4 ((e12.trans e3).trans e4))
end

section
variable {A : Adr} {K : PySem.W.Frag} {mg : Str → Option Value} {σ : L2.St} {H H1 H' HB : Hp} {D : Ends} {st : Kg72.State} {y : GL} {d hp ph pw p : Addr} {L M hs ws : List Nat} {s i : Nat}
theorem s_forNLn {K : PySem.W.Frag} {σ : L2.St} {H : Hp} {xs : List V} {tl : TE} {tu : TS} {D : Ends} {j : Nat} (h : EvL tl σ H xs) (Pv : Addr → Nat → L2.St → Hp → Prop) (h0 : ∀ p H1, H p = none → Ex H H1 → H1 p = some (.lst xs) → Pv p 0 σ H1) (hl : ∀ p i σ' H', i ≤ xs.length → Pv p i σ' H' → SqL K H' p xs)
    (hs : ∀ p i x σ' H', xs[i]? = some x → Pv p i σ' H' → tu { D with nx := Pv p (i + 1), ct := Pv p (i + 1), bk := D.nx } (σ'.set j (some x)) H') (hd : ∀ p σ' H', Pv p xs.length σ' H' → D.nx σ' H') : tFor (iList K tl) (gName j) tu D σ H :=
  s_forNL (D := D) h Pv h0 hl hs hd
/-- what the walk through one house keeps -/
structure Wk (st : Kg72.State) (HB H' : Hp) (d ph pw : Addr) (L : List Nat) (s : Nat) (M hs ws : List Nat) : Prop where
  df : Dfs st.ground L s M hs ws
  ap : Apart HB H' d
  dk : H' d = some (.dK (leftV M))
  hl : H' ph = some (.lst (natsV hs))
  wl : H' pw = some (.lst (natsV ws))
theorem Wk.ex (e : Ex H' H1) (w : Wk st HB H' d ph pw L s M hs ws) : Wk st HB H1 d ph pw L s M hs ws := ⟨w.df, w.ap.ex e, e _ _ w.dk, e _ _ w.hl, e _ _ w.wl⟩
theorem natsV_snoc (l : List Nat) (n : Nat) : natsV (l ++ [n]) = natsV l ++ [V.int (n : Nat)] := natsV_app l [n]
theorem dfs_walk (T : Txt K mg A) (hg : ∀ H', Apart HB H' d → GrAt A H' y st) (nph : HB ph = none) (npw : HB pw = none) (hpq : ph ≠ pw) (hL : ∀ k ∈ L, k < st.ground.squares.length) (hLl : L.length ≤ 144) {w2 w7 : Option V} (w0 : Wk st HB H d ph pw L s M [] [s]) {t : TS}
    (fin : ∀ (M hs : List Nat) (w2 w7 : Option V) H', Wk st HB H' d ph pw L s M hs [] → Shut st.ground L hs [] st.ground.squares.length [] → t D [some (.ref y.q), some (.ref d), w2, some (.ref hp), some (.int (s : Nat)), some (.ref ph), some (.ref pw), w7] H') :
    tSeq (tWhile (tTest (tOp rGtI (tCB (rLenS K) (tCons (tVar 6) (tNil))) (tC (.int 0)))) (tSeq (tAsg (tBM0 K "list" rPop (tVar 6)) (gName 2))
  (tSeq (tDrop (tBM K "list" rAppend (tVar 5) (tCons (tVar 2) (tNil))))
  (tFor (iList K (tMeth A.c_Plot "beside" (sp_Plot_beside A K) [] E0 (tVar 0) (tCons (tVar 2) (tNil)))) (gName 7) (tIfS (tB (tDIn (tVar 7) (tVar 1))) (tSeq (tDrop (tDPop1 (tVar 1) (tVar 7)))
  (tDrop (tBM K "list" rAppend (tVar 6) (tCons (tVar 7) (tNil))))) (tNext)))))) t D [some (.ref y.q), some (.ref d), w2, some (.ref hp), some (.int (s : Nat)), some (.ref ph), some (.ref pw), w7] H := by
  have go := (hg HB Apart.refl).ok.grOk (hg HB Apart.refl).gr
  refine q_while (fun m σ' H' => ∃ (M hs ws : List Nat) (w2 w7 : Option V), σ' = [some (.ref y.q), some (.ref d), w2, some (.ref hp), some (.int (s : Nat)), some (.ref ph), some (.ref pw), w7] ∧ m = L.length - hs.length ∧ Wk st HB H' d ph pw L s M hs ws ∧ Shut st.ground L hs ws st.ground.squares.length [])
    L.length ⟨M, [], [s], w2, w7, rfl, by simp, w0, fun k hk => by cases hk⟩ ?_
  rintro m σ' H' ⟨M, hs, ws, w2, w7, rfl, rfl, w, sh⟩
  have hNot : st.ground.squares.length ∉ hs := fun z => Nat.lt_irrefl _ (hL _ (w.df.sub _ (List.mem_append_left _ z)))
  refine ⟨decide ((0 : Int) < ((natsV ws).length : Int)), et_test (ev_gt (ev_len (ev_var rfl) (sq_of w.wl)) ev_c), fun c H1 e1 => ?_, fun c H1 e1 => ?_⟩
  · have c := of_decide_eq_true c
    rw [len_nats] at c
    have cn : ws ≠ [] := fun z => by rw [z] at c; simp at c
    obtain ⟨ws', pl, rfl⟩ : ∃ ws' pl, ws = ws' ++ [pl] := ⟨ws.dropLast, ws.getLast cn, (List.dropLast_concat_getLast cn).symm⟩
    have lens := w.df.len
    rw [List.length_append, List.length_singleton] at lens
    have hpl : pl ∈ L := w.df.sub pl (by simp)
    have hplN := hL pl hpl
    have w1 := w.ex e1
    refine ⟨fun σ2 H2 => ∃ (M hs2 ws : List Nat) (w2 w7 : Option V), σ2 = [some (.ref y.q), some (.ref d), w2, some (.ref hp), some (.int (s : Nat)), some (.ref ph), some (.ref pw), w7] ∧ hs2.length = hs.length + 1 ∧ Wk st HB H2 d ph pw L s M hs2 ws ∧ Shut st.ground L hs2 ws st.ground.squares.length [], ?_, ?_⟩
    · rintro σ2 H2 ⟨M, hs2, ws, w2, w7, rfl, e, w, sh⟩
      exact ⟨L.length - hs2.length, by omega, M, hs2, ws, w2, w7, rfl, rfl, w, sh⟩
    have hwl := w1.wl
    rw [natsV_snoc] at hwl
    refine q_lpop rfl hwl ?_
    have npd : ph ≠ d := fun z => by have h1 := w1.hl; rw [z, w1.dk] at h1; cases h1
    have nwd : pw ≠ d := fun z => by have h1 := w1.wl; rw [z, w1.dk] at h1; cases h1
    refine q_app (l := ph) (xs := natsV hs) (v := .int (pl : Nat)) (by rw [upd_ne hpq]; exact w1.hl) (ev_var rfl) (ev_var rfl) (by rw [len_nats]; omega) fun H2 e2 => ?_
    have w3 : Wk st HB (upd H2 ph (.lst (natsV hs ++ [.int (pl : Nat)]))) d ph pw L s M (hs ++ [pl]) ws' := ⟨w1.df.move, ((w1.ap.mut npw).ex e2).mut nph, by rw [upd_ne (fun z => npd z.symm)]; exact e2 _ _ (by rw [upd_ne (fun z => nwd z.symm)]; exact w1.dk), by rw [upd_same, natsV_snoc], by rw [upd_ne (fun z => hpq z.symm)]; exact e2 _ _ upd_same⟩
    have sh3 := sh.move hNot
    generalize upd H2 ph (.lst (natsV hs ++ [.int (pl : Nat)])) = H3 at w3 ⊢
    have hg3 : GrAt A H3 y st := hg H3 w3.ap
    refine s_forNLn (xs := natsV (besIx st.ground pl)) (el_meth (ev_var rfl) (hm_Plot_beside hg3.at_.ins) (ea_cons (ev_var rfl) ea_nil) (sl_beside hg3 hplN))
      (fun p j σ2 H4 => ∃ (M ws : List Nat) (w7 : Option V), σ2 = [some (.ref y.q), some (.ref d), some (.int (pl : Nat)), some (.ref hp), some (.int (s : Nat)), some (.ref ph), some (.ref pw), w7] ∧ Wk st HB H4 d ph pw L s M (hs ++ [pl]) ws ∧ Shut st.ground L (hs ++ [pl]) ws pl ((besIx st.ground pl).take j) ∧ H4 p = some (.lst (natsV (besIx st.ground pl))) ∧ p ≠ d ∧ p ≠ ph ∧ p ≠ pw) ?_ ?_ ?_ ?_
    · intro p H4 np e4 h4
      refine ⟨M, ws', w7, rfl, w3.ex e4, sh3, h4, fun z => ?_, fun z => ?_, fun z => ?_⟩
      · rw [z, w3.dk] at np; cases np
      · rw [z, w3.hl] at np; cases np
      · rw [z, w3.wl] at np; cases np
    · rintro p j σ2 H4 _ ⟨_, _, _, _, _, _, h4, _⟩
      exact sq_of h4
    · rintro p j v σ2 H4 hv ⟨M, ws, w7, rfl, w4, sh4, h4, n1, n2, n3⟩
      obtain ⟨b, hb, rfl⟩ := at_nats hv
      refine s_ifIn (n := b) (d := d) rfl rfl w4.dk ?_ ?_
      · intro m
        refine q_dpop (n := b) (d := d) rfl rfl w4.dk m ?_
        have wsl := w4.df.len
        refine s_app (l := pw) (xs := natsV ws) (v := .int (b : Nat)) (by rw [upd_ne nwd]; exact w4.wl) (ev_var rfl) (ev_var rfl) (by rw [len_nats]; omega) fun H5 e5 => ?_
        have mL : b ∈ L := by have := m; rw [w4.df.left] at this; exact (List.mem_filter.mp this).1
        refine ⟨_, ws ++ [b], _, rfl, ⟨w4.df.take m (pl := pl) (by simp) ((bes_iff go hplN (hL b mL)).mpr (List.mem_of_getElem? hb)), ((w4.ap.upd).ex e5).mut npw, ?_, ?_, ?_⟩, ?_, ?_, n1, n2, n3⟩
        · rw [upd_ne (fun z => nwd z.symm)]; exact e5 _ _ upd_same
        · rw [upd_ne hpq]; exact e5 _ _ (by rw [upd_ne npd]; exact w4.hl)
        · rw [upd_same, natsV_snoc]
        · rw [take_more hb]; exact sh4.take
        · rw [upd_ne n3]; exact e5 _ _ (by rw [upd_ne n1]; exact h4)
      · intro m
        refine ⟨M, ws, _, rfl, w4, ?_, h4, n1, n2, n3⟩
        rw [take_more hb]
        exact sh4.skip w4.df m
    · rintro p σ2 H4 ⟨M, ws, w7, rfl, w4, sh4, _⟩
      rw [len_nats, List.take_length] at sh4
      exact ⟨M, _, ws, _, w7, rfl, by simp, w4, sh4.done go hL w4.df⟩
  · have c := of_decide_eq_false c
    rw [len_nats] at c
    have e0 : ws = [] := List.eq_nil_of_length_eq_zero (by omega)
    subst e0
    exact fin M hs w2 w7 H1 (w.ex e1) sh
theorem pure_Plot_houses (T : Txt K mg A) (vs : List V) (H : Hp) (Q : VK) (E : XK) (h : sp_Plot_houses A K vs H Q E) : t_Plot_houses A K (DE Q) (start N_Plot_houses vs) H := by
  obtain ⟨y, st, rfl, hg, fin⟩ := h
  have go := hg.ok.grOk hg.gr
  have nN := n_le hg.ok
  have bl : (builtIx st).length ≤ 144 := by
    have := List.length_filter_le (fun k => decide (0 < st.built (pt st.ground k))) (List.range st.ground.squares.length)
    rw [List.length_range] at this
    exact Nat.le_trans this nN
  refine fun d nd => ?_
  have e0 : Ex H (upd H d (.dK [])) := Ex.new nd
  have hg0 := hg.mono e0
  refine q_forNLn (xs := natsV (builtIx st)) (el_meth (ev_var rfl) (hm_Plot_built hg0.at_.ins) ea_nil (sl_built hg0))
    (fun p i σ' H' => ∃ w2 : Option V, σ' = [some (.ref y.q), some (.ref d), w2, none, none, none, none, none] ∧ Ex H H' ∧ H' d = some (.dK (leftV ((builtIx st).take i))) ∧ H' p = some (.lst (natsV (builtIx st))) ∧ H d = none) ?_ ?_ ?_ ?_
  · intro p H1 np e1 h1
    exact ⟨none, rfl, e0.trans e1, e1 _ _ upd_same, h1, nd⟩
  · rintro p i σ' H' _ ⟨_, _, _, _, h1, _⟩
    exact sq_of h1
  · rintro p i v σ' H' hv ⟨w2, rfl, ex, hd, h1, nd⟩
    obtain ⟨b, hb, rfl⟩ := at_nats hv
    have npd : p ≠ d := fun z => by rw [z, hd] at h1; cases h1
    refine s_dput (n := b) (d := d) rfl rfl hd ?_ ?_ ⟨some (.int (b : Nat)), rfl, Ex.mut ex nd, ?_, ?_, nd⟩
    · intro m
      have ndp := built_nd (st := st)
      rw [← List.take_append_drop i (builtIx st), List.nodup_append] at ndp
      have hi := (List.getElem?_eq_some_iff.mp hb).1
      refine ndp.2.2 b m b ?_ rfl
      rw [List.drop_eq_getElem_cons hi, (List.getElem?_eq_some_iff.mp hb).2]
      exact List.mem_cons_self
    · rw [List.length_take]; omega
    · rw [upd_same, take_more hb]
    · rw [upd_ne npd]; exact h1
  rintro p0 σ' H1 ⟨w2, rfl, ex1, hd1, _, _⟩
  rw [len_nats, List.take_length] at hd1
  refine q_asgL (xs := []) (el_lst ea_nil (by decide)) fun hp H2 nhp e2 hhp => ?_
  have ex2 := ex1.trans e2
  have hg2 := hg.mono ex2
  have nhpH : H hp = none := fresh_back ex1 nhp
  refine q_forNLn (xs := natsV (builtIx st)) (el_meth (ev_var rfl) (hm_Plot_built hg2.at_.ins) ea_nil (sl_built hg2))
    (fun p i σ' H' => ∃ (L : List Nat) (outs : List (List Nat)) (as : List Addr) (w2 w4 w5 w6 w7 : Option V), σ' = [some (.ref y.q), some (.ref d), w2, some (.ref hp), w4, w5, w6, w7] ∧ Whole st i L outs ∧ Ex H H' ∧ H' d = some (.dK (leftV L)) ∧ H' hp = some (.lst (refsV as)) ∧
      as.length = outs.length ∧ outs.length ≤ i ∧ (∀ (j : Nat) a h, as[j]? = some a → outs[j]? = some h → H' a = some (.lst (natsV h)) ∧ a ≠ hp) ∧ H' p = some (.lst (natsV (builtIx st))) ∧ p ≠ hp) ?_ ?_ ?_ ?_
  · intro p H3 np e3 h3
    exact ⟨builtIx st, [], [], w2, none, none, none, none, rfl, Whole.start go, ex2.trans e3, e3 _ _ (e2 _ _ hd1), e3 _ _ hhp, rfl, Nat.le_refl _, fun j a h ha => by simp at ha, h3, fun z => by rw [z, hhp] at np; cases np⟩
  · rintro p i σ' H' _ ⟨_, _, _, _, _, _, _, _, _, _, _, _, _, _, _, _, h1, _⟩
    exact sq_of h1
  · rintro p i v σ' HB hv ⟨L, outs, as, w2, w4, w5, w6, w7, rfl, wh, ex, hd, hhp, al, oi, hel, hp1, nph⟩
    obtain ⟨s, hs, rfl⟩ := at_nats hv
    have hi := (List.getElem?_eq_some_iff.mp hs).1
    have npd : p ≠ d := fun z => by rw [z, hd] at hp1; cases hp1
    have nhd : hp ≠ d := fun z => by rw [z, hd] at hhp; cases hhp
    refine s_ifIn (n := s) (d := d) rfl rfl hd ?_ ?_
    · intro m
      refine q_dpop (n := s) (d := d) rfl rfl hd m ?_
      refine q_asgL (xs := []) (el_lst ea_nil (by decide)) fun ph H3 nph3 e3 hph3 => ?_
      have phd : ph ≠ d := fun z => by rw [z, upd_same] at nph3; cases nph3
      have nphB : HB ph = none := by rw [upd_ne phd] at nph3; exact nph3
      refine q_asgL (xs := [.int (s : Nat)]) (el_lst (ea_cons (ev_var rfl) ea_nil) (by simp)) fun pw H4 npw4 e4 hpw4 => ?_
      have ap3 : Apart HB H3 d := Apart.refl.upd.ex e3
      have pwd : pw ≠ d := fun z => by rw [z, e3 _ _ upd_same] at npw4; cases npw4
      have npwB : HB pw = none := by
        have := fresh_back e3 npw4
        rw [upd_ne pwd] at this
        exact this
      have hpq : ph ≠ pw := fun z => by rw [← z, hph3] at npw4; cases npw4
      have inL := wh.inL
      have Ll : L.length ≤ 144 := by
        have h1 := wh.sub.length_le
        rw [List.length_drop] at h1
        omega
      have hgB : ∀ H', Apart HB H' d → GrAt A H' y st := fun H' ap => hg.mono (Apart.ins ex ap nd)
      refine dfs_walk (T := T) (L := L) (M := L.filter fun k => !decide (k = s)) (HB := HB) hgB nphB npwB hpq inL Ll
        ⟨Dfs.start m, ap3.ex e4, e4 _ _ (e3 _ _ upd_same), e4 _ _ hph3, hpw4⟩ ?_
      rintro M hs2 w2 w7 H5 w sh
      have hNot : st.ground.squares.length ∉ hs2 := fun z => Nat.lt_irrefl _ (inL _ (w.df.sub _ (List.mem_append_left _ z)))
      have hph5 := w.ap _ _ hhp nhd
      refine s_app (l := hp) (xs := refsV as) (v := .ref ph) hph5 (ev_var rfl) (ev_var rfl) (by rw [len_refs, al]; omega) fun H6 e6 => ?_
      refine ⟨M, outs ++ [hs2], as ++ [ph], w2, _, _, _, w7, rfl, wh.step hs m w.df sh hNot, Ex.mut ((Apart.ins ex w.ap nd).trans e6) nhpH, ?_, ?_, ?_, ?_, ?_, ?_, nph⟩
      · rw [upd_ne (fun z => nhd z.symm)]; exact e6 _ _ w.dk
      · rw [upd_same]
        unfold refsV
        rw [List.map_append]
        rfl
      · rw [List.length_append, List.length_append, al]; rfl
      · rw [List.length_append, List.length_singleton]; omega
      · have phhp : ph ≠ hp := fun z => by rw [z, hhp] at nphB; cases nphB
        intro j a h ha hh
        by_cases c : j < as.length
        · rw [List.getElem?_append_left c] at ha
          rw [List.getElem?_append_left (by rw [← al]; exact c)] at hh
          obtain ⟨q1, q2⟩ := hel j a h ha hh
          have ad : a ≠ d := fun z => by rw [z, hd] at q1; cases q1
          exact ⟨by rw [upd_ne q2]; exact e6 _ _ (w.ap _ _ q1 ad), q2⟩
        · rw [List.getElem?_append_right (by omega)] at ha
          rw [List.getElem?_append_right (by rw [← al]; omega)] at hh
          rw [al] at ha
          cases hq : j - outs.length with
          | zero =>
            rw [hq] at ha hh
            cases ha
            cases hh
            exact ⟨by rw [upd_ne phhp]; exact e6 _ _ w.hl, phhp⟩
          | succ m => rw [hq] at ha; simp at ha
      · rw [upd_ne nph]; exact e6 _ _ (w.ap _ _ hp1 npd)
    · intro m
      exact ⟨L, outs, as, w2, _, w5, w6, w7, rfl, wh.skip hs m, ex, hd, hhp, al, by omega, hel, hp1, nph⟩
  · rintro p σ' H' ⟨L, outs, as, w2, w4, w5, w6, w7, rfl, wh, ex, hd, hhp, al, oi, hel, _, _⟩
    rw [len_nats] at wh
    exact rd_at (rd_ret (ev_var rfl) fun H3 e3 => fin hp as outs H3 nhpH (ex.trans e3) (e3 _ _ hhp) al (fun i a h ha hh => e3 _ _ (hel i a h ha hh).1) wh.done)
end

/-! ### plain: the amounts, told by places -/
theorem filter_split {α : Type} (p q : α → Bool) : ∀ l : List α, (∀ x ∈ l, q x = !p x) → (l.filter q).length + (l.filter p).length = l.length
  | [], _ => rfl
  | a :: r, h => by
    have ih := filter_split p q r fun x hx => h x (List.mem_cons_of_mem _ hx)
    rw [List.filter_cons, List.filter_cons, h a List.mem_cons_self]
    cases p a
    · simp only [Bool.not_false, if_true, Bool.false_eq_true, if_false, List.length_cons]; omega
    · simp only [Bool.not_true, if_true, Bool.false_eq_true, if_false, List.length_cons]; omega
theorem sum_filter {α : Type} (c : α → Bool) (g : α → Nat) : ∀ l : List α, ((l.filter c).map g).sum = (l.map fun x => if c x = true then g x else 0).sum
  | [] => rfl
  | a :: r => by
    rw [List.filter_cons, List.map_cons, List.sum_cons, ← sum_filter c g r]
    split
    · rw [List.map_cons, List.sum_cons]
    · rw [Nat.zero_add]
def ownIx (st : Kg72.State) : List Nat := (builtIx st).filter fun k => decide ((st.ground.squares.getD k 0 : Int) = 1)
section
variable {st : Kg72.State}
theorem own_at (go : GrOk st.ground) {k : Nat} (hk : k ∈ builtIx st) : decide ((st.ground.squares.getD k 0 : Int) = 1) = (st.ground.at_ (pt st.ground k).1 (pt st.ground k).2 == 1) := by
  rw [at_pt go (built_in hk)]
  by_cases c : st.ground.squares.getD k 0 = 1
  · rw [c]; rfl
  · rw [decide_eq_false (by omega), beq_eq_false_iff_ne.mpr c]
theorem am1 (go : GrOk st.ground) : ((st.squares.filter fun p => st.ground.at_ p.1 p.2 != 1).length : Int) = ((builtIx st).length : Int) - ((ownIx st).length : Int) := by
  rw [squares_eq go, List.filter_map, List.length_map]
  have := filter_split (fun k => decide ((st.ground.squares.getD k 0 : Int) = 1)) ((fun p : Nat × Nat => st.ground.at_ p.1 p.2 != 1) ∘ pt st.ground) (builtIx st) fun k hk => by
    rw [own_at go hk]
    rfl
  unfold ownIx
  omega
theorem am2 (go : GrOk st.ground) (f : Nat × Nat → Bool) : (st.squares.filter fun p => st.ground.at_ p.1 p.2 == 1 && f p).length = ((ownIx st).filter fun k => f (pt st.ground k)).length := by
  rw [squares_eq go, List.filter_map, List.length_map]
  unfold ownIx
  rw [List.filter_filter]
  congr 1
  refine List.filter_congr fun k hk => ?_
  rw [own_at go hk, Bool.and_comm]
  rfl
theorem am4 (go : GrOk st.ground) : (st.squares.map fun p => if st.ground.at_ p.1 p.2 = 1 then st.built p - st.most p else 0).sum = ((ownIx st).map fun k => st.built (pt st.ground k) - st.most (pt st.ground k)).sum := by
  unfold ownIx
  rw [sum_filter, squares_eq go, List.map_map]
  congr 1
  refine List.map_congr_left fun k hk => ?_
  show (if st.ground.at_ (pt st.ground k).1 (pt st.ground k).2 = 1 then _ else 0) = _
  rw [own_at go hk]
  by_cases c : st.ground.at_ (pt st.ground k).1 (pt st.ground k).2 = 1
  · rw [if_pos c, if_pos (by rw [c]; rfl)]
  · rw [if_neg c, if_neg (fun z => c (eq_of_beq z))]
theorem q_len (go : GrOk st.ground) : st.squares.length = (builtIx st).length := by rw [squares_eq go, List.length_map]
theorem area_le (go : GrOk st.ground) : st.area ≤ st.ground.squares.length := by
  rw [area_eq go]
  exact List.count_le_length
end
section
variable {A : Adr} {K : PySem.W.Frag} {mg : Str → Option Value}
theorem natsV_sum (l : List Nat) : (l.map fun (n : Nat) => (n : Int)).sum = ((l.sum : Nat) : Int) := by
  induction l with
  | nil => rfl
  | cons a r ih => rw [List.map_cons, List.sum_cons, List.sum_cons, ih]; omega
theorem ev_sumNat {σ : L2.St} {H : Hp} {p : Addr} {ta : TE} {l : List Nat} (ha : Ev ta σ H (.ref p)) (h : SqL K H p (natsV l)) : Ev (tCB (rSum K) (tCons ta tNil)) σ H (.int (l.sum : Nat)) := by
  rw [← natsV_sum]
  exact ev_sum ha (by rw [natsV_ints] at h; exact h)
theorem map_nats (l : List Nat) : l.map (fun (k : Nat) => V.int (k : Nat)) = natsV l := rfl
theorem mulK {a b : Nat} (h : a ≤ 1000000) : CMul (a : Int) (b : Int) := cmulL (by omega) (by omega)
theorem pure_Plot_amounts (T : Txt K mg A) (vs : List V) (H : Hp) (Q : VK) (E : XK) (h : sp_Plot_amounts A K vs H Q E) : t_Plot_amounts A K (DE Q) (start N_Plot_amounts vs) H := by
  obtain ⟨xs, ⟨y, st, rfl, hg, rfl⟩, fin⟩ := h
  have go := hg.ok.grOk hg.gr
  have nN := n_le hg.ok
  have aN := area_le go
  have bl : (builtIx st).length ≤ 144 := by
    have := List.length_filter_le (fun k => decide (0 < st.built (pt st.ground k))) (List.range st.ground.squares.length)
    rw [List.length_range] at this
    exact Nat.le_trans this nN
  refine rd_at (rd_asgL (el_meth (ev_var rfl) (hm_Plot_all_floors hg.at_.ins) ea_nil (sl_all_floors hg)) fun pf H1 npf e1 hf => ?_)
  have hg1 := hg.mono e1
  refine rd_asgL (el_meth (ev_var rfl) (hm_Plot_built hg1.at_.ins) ea_nil (sl_built hg1)) fun pb H2 npb e2 hb => ?_
  have hg2 := hg1.mono e2
  have hi2 := hg2.at_.ins
  have hsq : SqL K H2 y.sq (natsV st.ground.squares) := sq_of hg2.at_.sq
  refine rd_asgL (xs := natsV (ownIx st)) ?_ fun po H3 npo e3 ho => ?_
  · refine el_eq (el_mapL (xs := builtIx st) (fun k => decide ((st.ground.squares.getD k 0 : Int) = 1)) (fun k => V.int (k : Nat)) (ev_var rfl) (sq_of hb) (len_nats _) (by omega) (fun _ => rfl) (fun i v k H3 e3 hv hk => ?_) (fun i v k H3 e3 hv hk _ => ?_)) (map_nats _)
    · obtain ⟨k', hk', rfl⟩ := at_nats hv
      rw [hk] at hk'
      obtain rfl := Option.some.inj hk'
      have hkN := built_in (List.mem_of_getElem? hk)
      have hi3 := hi2.mono e3
      refine et_test (ev_eqI (ev_ixL (by fail "ev") (ev_var rfl) (ex_l e3 hsq) (atI_nat (nats_at (sq_at hkN)))) ev_c)
    · obtain ⟨k', hk', rfl⟩ := at_nats hv
      rw [hk] at hk'
      obtain rfl := Option.some.inj hk'
      exact ev_var rfl
  have hg3 := hg2.mono e3
  have e23 := e2.trans e3
  refine rd_asg (v := .int 0) ev_c ?_
  have hso : SqL K H3 po (natsV (ownIx st)) := sq_of ho
  have inOwn : ∀ {i k : Nat}, (ownIx st)[i]? = some k → k < st.ground.squares.length := fun h => built_in (List.mem_filter.mp (List.mem_of_getElem? h)).1
  refine rd_seq (rd_forK (l := po) (ev_var rfl) hso (fun i σ => ∃ w5 : Option V, σ = [some (.ref y.q), some (.ref pf), some (.ref pb), some (.ref po), some (.int ((((ownIx st).take i).map fun k => st.built (pt st.ground k) - st.most (pt st.ground k)).sum : Nat)), w5, none, none])
    ⟨none, rfl⟩ ?_ ?_)
  · rintro i v σ Hc H4 hv ⟨w5, rfl⟩ e4 e5
    obtain ⟨k, hk, rfl⟩ := at_nats hv
    have hkN := inOwn hk
    have e45 := e4.trans e5
    have hg4 := hg3.mono e45
    have hi4 := hg4.at_.ins
    have hff : SqL K H4 pf (natsV ((List.range st.ground.squares.length).map fun k => st.built (pt st.ground k))) := sq_of (e45 _ _ (e23 _ _ hf))
    have hx : ((List.range st.ground.squares.length).map fun k => st.built (pt st.ground k))[k]? = some (st.built (pt st.ground k)) := by
      rw [List.getElem?_map, List.getElem?_range hkN]
      rfl
    refine rd_aug1 (p := ((((ownIx st).take i).map fun k => st.built (pt st.ground k) - st.most (pt st.ground k)).sum : Nat)) (q := ((st.built (pt st.ground k) - st.most (pt st.ground k) : Nat) : Int)) rfl ?_ fun H5 e6 => ⟨⟨some (.int (k : Nat)), ?_⟩, e5.trans e6⟩
    · refine ev_eq (ev_max2 ev_c (ev_sub (ev_ixL (ev_var rfl) (ev_var rfl) hff (atI_nat (nats_at hx))) (ev_meth (ev_var rfl) (hm_Plot_most_floors hi4) (ea_cons (ev_var rfl) ea_nil) (sv_most_floors hg4 hkN)))) ?_
      congr 1
      omega
    · rw [take_more hk, List.map_append, List.sum_append]
      simp [L2.start]
  · rintro σ H4 e4 ⟨w5, rfl⟩
    rw [len_nats, List.take_length]
    dsimp only
    have hg4 := hg3.mono e4
    have hi := hg4.at_.ins
    have hr := hg4.at_.ru
    refine rd_at (rd_asg (v := .ref y.r) (by fail "ev") ?_)
    have hsb : SqL K H4 pb (natsV (builtIx st)) := sq_of (e4 _ _ (e3 _ _ hb))
    have hso := ex_l e4 hso
    have hsf : SqL K H4 pf (natsV ((List.range st.ground.squares.length).map fun k => st.built (pt st.ground k))) := sq_of (e4 _ _ (e23 _ _ hf))
    refine rd_asg (v := .int ((st.area - ((builtIx st).length + st.paved) : Nat) : Int)) ?_ ?_
    · refine ev_eq (ev_max2 ev_c (ev_sub (ev_sub (i := (st.area : Int)) (by fail "ev") (ev_len (ev_var rfl) hsb)) (j := (st.paved : Int)) (by fail "ev"))) ?_
      rw [len_nats]
      congr 1
      omega
    obtain ⟨f1, f2⟩ := hg.ok.floor
    have c1 := hg.ok.cov
    have c2 := hg.ok.flo
    have c3 := hg.ok.gre
    refine rd_retLE (el_lst (vs := intsV [((builtIx st).length : Int) - ((ownIx st).length : Int), (((ownIx st).filter fun k => st.ground.near 2 st.rules.front (pt st.ground k)).length : Nat), (((ownIx st).filter fun k => st.ground.near 0 st.rules.side (pt st.ground k)).length : Nat),
        (((ownIx st).map fun k => st.built (pt st.ground k) - st.most (pt st.ground k)).sum : Nat), ((builtIx st).length : Int) - (st.rules.covered : Int) * (st.area : Int) / 100,
        ((((List.range st.ground.squares.length).map fun k => st.built (pt st.ground k)).sum : Nat) : Int) - (st.rules.floors : Int) * (st.area : Int) / 100,
        ((st.rules.green : Int) * (st.area : Int) + 99) / 100 - ((st.area - ((builtIx st).length + st.paved) : Nat) : Int), (st.wanted : Int) - (st.spaces : Int), ((if st.rules.gap = 0 then 0 else Kg72.pairsNear st.rules.gap st.houses : Nat) : Int)])
      (ea_cons ?_ (ea_cons ?_ (ea_cons ?_ (ea_cons (ev_var rfl) (ea_cons ?_ (ea_cons ?_ (ea_cons ?_ (ea_cons ?_ (ea_cons ?_ ea_nil))))))))) (by simp [intsV])) ?_ fun p H5 np e5 h5 => fin p H5 (fresh_back (((e1.trans e2).trans e3).trans e4) np) ((((e1.trans e2).trans e3).trans e4).trans e5) h5
    · refine ev_eq (ev_sub (ev_len (ev_var rfl) hsb) (ev_len (ev_var rfl) hso)) ?_
      rw [len_nats, len_nats]
    · refine ev_eq (ev_lenN (el_mapL (xs := ownIx st) (fun k => st.ground.near 2 st.rules.front (pt st.ground k)) (fun k => V.int (k : Nat)) (ev_var rfl) hso (len_nats _) (by have := List.length_filter_le (fun k => decide ((st.ground.squares.getD k 0 : Int) = 1)) (builtIx st); unfold ownIx; omega) (fun _ => rfl) (fun i v k H5 e5 hv hk => ?_) (fun i v k H5 e5 hv hk _ => ?_))) ?_
      · obtain ⟨k', hk', rfl⟩ := at_nats hv
        rw [hk] at hk'
        obtain rfl := Option.some.inj hk'
        have hg5 := hg4.mono e5
        exact et_B (ev_meth (ev_var rfl) (hm_Plot_is_near_street hg5.at_.ins) (ea_cons (ev_var rfl) ea_nil) (sv_near_street hg5 (inOwn hk)))
      · obtain ⟨k', hk', rfl⟩ := at_nats hv
        rw [hk] at hk'
        obtain rfl := Option.some.inj hk'
        exact ev_var rfl
      · rw [List.length_map]
    · refine ev_eq (ev_lenN (el_mapL (xs := ownIx st) (fun k => st.ground.near 0 st.rules.side (pt st.ground k)) (fun k => V.int (k : Nat)) (ev_var rfl) hso (len_nats _) (by have := List.length_filter_le (fun k => decide ((st.ground.squares.getD k 0 : Int) = 1)) (builtIx st); unfold ownIx; omega) (fun _ => rfl) (fun i v k H5 e5 hv hk => ?_) (fun i v k H5 e5 hv hk _ => ?_))) ?_
      · obtain ⟨k', hk', rfl⟩ := at_nats hv
        rw [hk] at hk'
        obtain rfl := Option.some.inj hk'
        have hg5 := hg4.mono e5
        exact et_B (ev_meth (ev_var rfl) (hm_Plot_is_near_others hg5.at_.ins) (ea_cons (ev_var rfl) ea_nil) (sv_near_others hg5 (inOwn hk)))
      · obtain ⟨k', hk', rfl⟩ := at_nats hv
        rw [hk] at hk'
        obtain rfl := Option.some.inj hk'
        exact ev_var rfl
      · rw [List.length_map]
    · refine ev_eq (ev_sub (ev_len (ev_var rfl) hsb) (ev_div (ev_mul (i := (st.rules.covered : Int)) (j := (st.area : Int)) (by fail "ev") (by fail "ev") (mulK (by omega))) ev_c (cdivK (by omega) (by omega)))) ?_
      rw [len_nats]
    · exact ev_sub (ev_sumNat (ev_var rfl) hsf) (ev_div (ev_mul (i := (st.rules.floors : Int)) (j := (st.area : Int)) (by fail "ev") (by fail "ev") (mulK (by omega))) ev_c (cdivK (by omega) (by omega)))
    · exact ev_sub (ev_div (ev_add (ev_mul (i := (st.rules.green : Int)) (j := (st.area : Int)) (by fail "ev") (by fail "ev") (mulK (by omega))) ev_c) ev_c (cdivK (by omega) (by omega))) (ev_var rfl)
    · exact ev_sub (ev_meth (ev_var rfl) (hm_Plot_wanted hi) ea_nil (sv_wanted hg4)) (by fail "ev")
    · exact ev_meth (ev_var rfl) (hm_Plot_near_pairs hi) ea_nil (sv_near_pairs hg4)
    · unfold amountsI
      dsimp only
      rw [am1 go, am2 go, am2 go, am4 go, q_len go, floorArea_eq go]
      congr 1
end

/-! ### comprehensions whose elements are new objects -/
section
variable {β : Type}
structure Stb (R : β → Addr → Hp → Prop) : Prop where
  keep : ∀ b a H H', R b a H → (∀ o, H a = some o → H' a = some o) → R b a H'
  there : ∀ b a H, R b a H → ∃ o, H a = some o
/-- the list p of new objects, each as told -/
def NewL (H : Hp) (R : β → Addr → Hp → Prop) (ys : List β) (p : Addr) (H' : Hp) : Prop := ∃ as : List Addr, H' p = some (.lst (refsV as)) ∧ as.length = ys.length ∧ as.Nodup ∧ (∀ a ∈ as, a ≠ p ∧ H a = none ∧ ∃ o, H' a = some o) ∧ ∀ (j : Nat) a b, as[j]? = some a → ys[j]? = some b → R b a H'
def Co (H : Hp) (R : β → Addr → Hp → Prop) (gi : Nat → Option β) (Dl : Addr) (i : Nat) (H' : Hp) : Prop := H Dl = none ∧ Ex H H' ∧ NewL H R ((List.range i).filterMap gi) Dl H'
variable {K : PySem.W.Frag} {σ σ2 : L2.St} {H H' : Hp} {ta tb te tx : TE} {t : TT} {R : β → Addr → Hp → Prop} {gi : Nat → Option β} {Dl : Addr} {i : Nat}
theorem co_start (hD : H Dl = none) : Co H R gi Dl 0 (upd H Dl (.lst [])) := ⟨hD, Ex.new hD, [], upd_same, rfl, List.nodup_nil, fun a h => by simp at h, fun j a b h => by simp at h⟩
theorem co_ex (hR : Stb R) {H3 : Hp} (e : Ex H' H3) (p : Co H R gi Dl i H') : Co H R gi Dl i H3 := by
  obtain ⟨p1, p2, as, p3, p4, p5, p6, p7⟩ := p
  exact ⟨p1, p2.trans e, as, e _ _ p3, p4, p5, fun a h => ⟨(p6 a h).1, (p6 a h).2.1, let ⟨o, q⟩ := (p6 a h).2.2; ⟨o, e _ _ q⟩⟩, fun j a b h1 h2 => hR.keep b a _ _ (p7 j a b h1 h2) fun o q => e _ _ q⟩
theorem co_turn (hR : Stb R) (p : Co H R gi Dl i H') (hi : i < 50000) (ht : EvT t σ2 H (gi i).isSome) (he : ∀ b, gi i = some b → EvN te σ2 H (R b)) :
    t σ2 H' fun b H3 => if b = true then te σ2 H3 fun y H4 => ∃ acc, H4 Dl = some (.lst acc) ∧ acc.length < sizeLine ∧ Co H R gi Dl (i + 1) (upd H4 Dl (.lst (acc ++ [y]))) else Co H R gi Dl (i + 1) H3 := by
  refine ht H' p.2.1 _ fun H3 e3 => ?_
  cases hg : gi i with
  | none =>
    show Co H R gi Dl (i + 1) H3
    have q := co_ex hR e3 p
    unfold Co at q ⊢
    rw [List.range_succ, List.filterMap_append, List.filterMap_cons, hg, List.filterMap_nil, List.append_nil]
    exact q
  | some b =>
    show te σ2 H3 fun y H4 => ∃ acc, H4 Dl = some (.lst acc) ∧ acc.length < sizeLine ∧ Co H R gi Dl (i + 1) (upd H4 Dl (.lst (acc ++ [y])))
    obtain ⟨p1, p2, as, p3, p4, p5, p6, p7⟩ := co_ex hR e3 p
    refine he b hg H3 p2 _ fun q H4 hq e4 hr => ⟨refsV as, e4 _ _ p3, ?_, p1, Ex.mut (p2.trans e4) p1, as ++ [q], ?_, ?_, ?_, ?_, ?_⟩
    · rw [len_refs, p4]
      have := List.length_filterMap_le gi (List.range i)
      rw [List.length_range] at this
      exact sz_lt (by omega)
    · rw [upd_same]
      unfold refsV
      rw [List.map_append]
      rfl
    · rw [List.range_succ, List.filterMap_append, List.filterMap_cons, hg, List.filterMap_nil, List.length_append, List.length_append, p4]
      rfl
    · rw [List.nodup_append]
      refine ⟨p5, by simp, fun a ha c hc e => ?_⟩
      rw [List.mem_singleton.mp hc] at e
      subst e
      obtain ⟨o, z⟩ := (p6 a ha).2.2
      rw [hq] at z
      cases z
    · intro a ha
      have nq : q ≠ Dl := fun z => by rw [z, p3] at hq; cases hq
      rcases List.mem_append.mp ha with ha | ha
      · obtain ⟨z1, z2, o, z3⟩ := p6 a ha
        exact ⟨z1, z2, o, by rw [upd_ne z1]; exact e4 _ _ z3⟩
      · rw [List.mem_singleton.mp ha]
        obtain ⟨o, z⟩ := hR.there b q H4 hr
        exact ⟨nq, fresh_back p2 hq, o, by rw [upd_ne nq]; exact z⟩
    · intro j a c ha hc
      have nq : q ≠ Dl := fun z => by rw [z, p3] at hq; cases hq
      rw [List.range_succ, List.filterMap_append, List.filterMap_cons, hg, List.filterMap_nil] at hc
      by_cases l : j < as.length
      · rw [List.getElem?_append_left l] at ha
        rw [List.getElem?_append_left (by rw [← p4]; exact l)] at hc
        have na := (p6 a (List.mem_of_getElem? ha)).1
        exact hR.keep c a _ _ (p7 j a c ha hc) fun o z => by rw [upd_ne na]; exact e4 _ _ z
      · rw [List.getElem?_append_right (by omega)] at ha
        rw [List.getElem?_append_right (by rw [← p4]; omega)] at hc
        rw [p4] at ha
        cases z : j - ((List.range i).filterMap gi).length with
        | zero =>
          rw [z] at ha hc
          cases ha
          cases hc
          exact hR.keep b q _ _ hr fun o z => by rw [upd_ne nq]; exact z
        | succ m => rw [z] at ha; simp at ha
theorem NewL.back {H0 : Hp} {ys : List β} {p : Addr} (e : Ex H0 H) (h : NewL H R ys p H') : NewL H0 R ys p H' := by
  obtain ⟨as, p3, p4, p5, p6, p7⟩ := h
  exact ⟨as, p3, p4, p5, fun a h => ⟨(p6 a h).1, fresh_back e (p6 a h).2.1, (p6 a h).2.2⟩, p7⟩
theorem en_lcE {xs : List V} {ta : TA} {j1 j2 : Nat} {vs : List Nat} (hR : Stb R) (hx : ∀ H1, Ex H H1 → ∀ Q : List V → Hp → Prop, (∀ p H2, Ex H1 H2 → SqL K H2 p xs → Q [.ref p] H2) → ta σ H1 Q) (hz : xs.length ≤ 40000)
    (hw : ∀ x y, wipe (((wipe σ vs).set j1 (some x)).set j2 (some y)) vs = wipe σ vs)
    (ht : ∀ (i : Nat) (x : V) H1, Ex H H1 → xs[i]? = some x → EvT t (((wipe σ vs).set j1 (some (.int (i : Nat)))).set j2 (some x)) H1 (gi i).isSome)
    (he : ∀ (i : Nat) (x : V) H1 b, Ex H H1 → xs[i]? = some x → gi i = some b → EvN te (((wipe σ vs).set j1 (some (.int (i : Nat)))).set j2 (some x)) H1 (R b)) :
    EvN (tLc (iEnum K ta) (gTup K 2 (gCons (gName j1) (gCons (gName j2) gNil))) t te vs) σ H (NewL H R ((List.range xs.length).filterMap gi)) := fun H0 e Q q => hx H0 e _ fun a H1 e1 hq => ⟨a, xs, rfl, hq, fun Dl hD => by
  refine ⟨fun i m H' => m = xs.length - i ∧ i ≤ xs.length ∧ Co H1 R gi Dl i H', ⟨xs.length, by simp, Nat.zero_le _, co_start hD⟩, ?_⟩
  rintro i m H' ⟨rfl, hi, p⟩
  have hq' : SqL K H' a xs := ex_l p.2.1 hq
  by_cases hlt : i < xs.length
  · have hxi : xs[i]? = some xs[i] := List.getElem?_eq_getElem hlt
    refine .inr ⟨⟨xs, _, hq', hxi⟩, fun H2 => Co H1 R gi Dl (i + 1) H2, fun H2 p' => ⟨xs.length - (i + 1), by omega, rfl, hlt, p'⟩, fun v H2 y => ?_⟩
    obtain ⟨T, x, rfl, hT, rfl, hx'⟩ := y
    have ex : x = xs[i] := by
      have := hx' xs hq'
      rw [hxi] at this
      exact (Option.some.inj this).symm
    have p2 : Co H1 R gi Dl i (upd H' T (.tup [.int (i : Nat), x])) := co_ex hR (Ex.new hT) p
    refine ⟨T, _, rfl, st_of upd_same, rfl, _, _, rfl, _, _, rfl, rfl, hw _ _, ?_⟩
    rw [ex] at p2 ⊢
    exact co_turn hR p2 (by omega) (ht i _ H1 (e.trans e1) hxi) (fun b hf => he i _ H1 b (e.trans e1) hxi hf)
  · have ei : i = xs.length := by omega
    subst ei
    exact .inl ⟨⟨xs, hq', Nat.le_refl _⟩, q Dl H' (fresh_back e1 p.1) (e1.trans p.2.1) (p.2.2.back (e.trans e1))⟩⟩
theorem en_lcZ {xs ys : List V} {a b : Addr} {ta : TA} {j1 j2 : Nat} {vs : List Nat} (hR : Stb R) (hx : EvA ta σ H [.ref a, .ref b]) (ha : SqL K H a xs) (hb : SqL K H b ys) (hl : xs.length = ys.length) (hz : xs.length ≤ 40000)
    (hw : ∀ x y, wipe (((wipe σ vs).set j1 (some x)).set j2 (some y)) vs = wipe σ vs)
    (ht : ∀ (i : Nat) (x y : V) H1, Ex H H1 → xs[i]? = some x → ys[i]? = some y → EvT t (((wipe σ vs).set j1 (some x)).set j2 (some y)) H1 (gi i).isSome)
    (he : ∀ (i : Nat) (x y : V) H1 b, Ex H H1 → xs[i]? = some x → ys[i]? = some y → gi i = some b → EvN te (((wipe σ vs).set j1 (some x)).set j2 (some y)) H1 (R b)) :
    EvN (tLc (iZip K ta) (gTup K 2 (gCons (gName j1) (gCons (gName j2) gNil))) t te vs) σ H (NewL H R ((List.range xs.length).filterMap gi)) := fun H0 e Q q => hx H0 e _ fun H1 e1 => ⟨a, b, xs, ys, rfl, ex_l (e.trans e1) ha, ex_l (e.trans e1) hb, fun Dl hD => by
  refine ⟨fun i m H' => m = xs.length - i ∧ i ≤ xs.length ∧ Co H1 R gi Dl i H', ⟨xs.length, by simp, Nat.zero_le _, co_start hD⟩, ?_⟩
  rintro i m H' ⟨rfl, hi, p⟩
  have qx : SqL K H' a xs := ex_l ((e.trans e1).trans p.2.1) ha
  have qy : SqL K H' b ys := ex_l ((e.trans e1).trans p.2.1) hb
  by_cases hlt : i < xs.length
  · have hxi : xs[i]? = some xs[i] := List.getElem?_eq_getElem hlt
    have hlt2 : i < ys.length := by omega
    have hyi : ys[i]? = some ys[i] := List.getElem?_eq_getElem hlt2
    refine .inr ⟨⟨xs, ys, _, _, qx, qy, hxi, hyi⟩, fun H2 => Co H1 R gi Dl (i + 1) H2, fun H2 p' => ⟨xs.length - (i + 1), by omega, rfl, hlt, p'⟩, fun v H2 y => ?_⟩
    obtain ⟨T, x, y, rfl, hT, rfl, f1, f2⟩ := y
    have ex : x = xs[i] := by
      have := f1 xs qx
      rw [hxi] at this
      exact (Option.some.inj this).symm
    have ey : y = ys[i] := by
      have := f2 ys qy
      rw [hyi] at this
      exact (Option.some.inj this).symm
    have p2 : Co H1 R gi Dl i (upd H' T (.tup [x, y])) := co_ex hR (Ex.new hT) p
    refine ⟨T, _, rfl, st_of upd_same, rfl, _, _, rfl, _, _, rfl, rfl, hw _ _, ?_⟩
    rw [ex, ey] at p2 ⊢
    exact co_turn hR p2 (by omega) (ht i _ _ H1 (e.trans e1) hxi hyi) (fun b hf => he i _ _ H1 b (e.trans e1) hxi hyi hf)
  · have ei : i = xs.length := by omega
    subst ei
    exact .inl ⟨⟨xs, ys, qx, qy, Or.inl (Nat.le_refl _)⟩, q Dl H' (fresh_back e1 p.1) (e1.trans p.2.1) (p.2.2.back (e.trans e1))⟩⟩
end
/-! ### plain: the rules that are broken -/
def brk (k : Nat) : List Int → List (Nat × Nat)
  | [] => []
  | z :: r => if 0 < z then (k, z.toNat) :: brk (k + 1) r else brk (k + 1) r
def brkG (k : Nat) (zs : List Int) (i : Nat) : Option (Nat × Nat) := match zs[i]? with
  | some z => if 0 < z then some (k + i, z.toNat) else none
  | none => none
theorem brk_range (zs : List Int) : ∀ k : Nat, (List.range zs.length).filterMap (brkG k zs) = brk k zs := by
  induction zs with
  | nil => intro k; rfl
  | cons z r ih =>
    intro k
    rw [List.length_cons, List.range_succ_eq_map, List.filterMap_cons, List.filterMap_map]
    have e1 : brkG k (z :: r) ∘ Nat.succ = brkG (k + 1) r := by
      funext i
      show brkG k (z :: r) (i + 1) = brkG (k + 1) r i
      unfold brkG
      rw [List.getElem?_cons_succ, show k + (i + 1) = k + 1 + i by omega]
    have e2 : brkG k (z :: r) 0 = if 0 < z then some (k, z.toNat) else none := rfl
    rw [e1, e2, ih (k + 1)]
    show _ = if 0 < z then (k, z.toNat) :: brk (k + 1) r else brk (k + 1) r
    by_cases c : 0 < z
    · rw [if_pos c, if_pos c]
    · rw [if_neg c, if_neg c]
theorem brk_step {k n : Nat} {z : Int} {zs : List Int} {l : List (Nat × Nat)} (h : (n : Int) = max 0 z) (ih : brk (k + 1) zs = l.filter fun x => decide (0 < x.2)) : brk k (z :: zs) = ((k, n) :: l).filter fun x => decide (0 < x.2) := by
  show (if 0 < z then (k, z.toNat) :: brk (k + 1) zs else brk (k + 1) zs) = _
  rw [List.filter_cons, ih]
  by_cases c : 0 < z
  · rw [if_pos c, if_pos (decide_eq_true (by show 0 < n; omega)), show z.toNat = n by omega]
  · rw [if_neg c, if_neg (by rw [decide_eq_false (by show ¬ 0 < n; omega)]; decide)]
theorem breaks_eq (st : Kg72.State) : st.breaks = brk 1 (amountsI st) := by
  unfold Kg72.State.breaks amountsI
  dsimp only
  symm
  refine brk_step (by omega) ?_
  refine brk_step (by omega) ?_
  refine brk_step (by omega) ?_
  refine brk_step (by omega) ?_
  refine brk_step (by rw [Nat.mul_comm st.rules.covered]; omega) ?_
  refine brk_step (by rw [Nat.mul_comm st.rules.floors]; omega) ?_
  refine brk_step (by rw [Nat.mul_comm st.rules.green]; omega) ?_
  refine brk_step (by omega) ?_
  refine brk_step (by omega) ?_
  rfl
section
variable {A : Adr} {K : PySem.W.Frag} {mg : Str → Option Value}
theorem rd_retN {te : TE} {D : Ends} {σ : L2.St} {H : Hp} {R : Addr → Hp → Prop} (h : EvN te σ H R) (k : ∀ p H1, H p = none → Ex H H1 → R p H1 → D.rt (.ref p) H1) : Rd (tRet te) D σ H := fun H1 e => h H1 e _ fun p H2 hp e2 h2 => k p H2 (fresh_back e hp) (e.trans e2) h2
theorem eu_en {te : TE} {σ : L2.St} {H : Hp} {xs : List V} (h : EvU te σ H xs) : EvN te σ H (fun p H2 => H2 p = some (.tup xs)) := h
theorem pure_Plot_broken (T : Txt K mg A) (vs : List V) (H : Hp) (Q : VK) (E : XK) (h : sp_Plot_broken A K vs H Q E) : t_Plot_broken A K (DE Q) (start N_Plot_broken vs) H := by
  obtain ⟨y, st, rfl, hg, fin⟩ := h
  have hi := hg.at_.ins
  have l9 : (amountsI st).length = 9 := rfl
  refine rd_at (rd_retN (en_lcE (β := Nat × Nat) (R := fun b a H => H a = some (.tup [.int b.1, .int b.2])) (gi := brkG 1 (amountsI st)) (xs := intsV (amountsI st)) ⟨fun b a H H' h k => k _ h, fun b a H h => ⟨_, h⟩⟩
    (ea_listN (el_meth (ev_var rfl) (hm_Plot_amounts hi) ea_nil (sl_amounts hg))) (by rw [len_ints, l9]; omega) (fun _ _ => rfl) (fun i v H1 e1 hv => ?_) (fun i v H1 b e1 hv hb => ?_)) fun p H1 np e1 hn => ?_)
  · obtain ⟨z, hz, rfl⟩ := at_ints hv
    refine et_eq (et_test (ev_gt (ev_var rfl) ev_c)) ?_
    unfold brkG
    rw [hz]
    dsimp only
    by_cases c : 0 < z
    · rw [if_pos c, decide_eq_true c]; rfl
    · rw [if_neg c, decide_eq_false c]; rfl
  · obtain ⟨z, hz, rfl⟩ := at_ints hv
    unfold brkG at hb
    rw [hz] at hb
    dsimp only at hb
    by_cases c : 0 < z
    · rw [if_pos c] at hb
      cases hb
      refine eu_en (eu_tup (ea_cons (ev_eq (ev_add (ev_var rfl) ev_c) ?_) (ea_cons (ev_eq (ev_var rfl) ?_) ea_nil)) (by simp))
      · congr 1
        show (i : Int) + 1 = ((1 + i : Nat) : Int)
        omega
      · congr 1
        show z = ((z.toNat : Nat) : Int)
        omega
    · rw [if_neg c] at hb
      cases hb
  · obtain ⟨as, q1, q2, q3, q4, q5⟩ := hn
    rw [len_ints, brk_range, ← breaks_eq] at q2 q5
    exact fin p as H1 np e1 q1 q2 q5
theorem on_gr {st : Kg72.State} {f : Unit → Kg72.State × Kg72.Ans} (h : st.ground.squares ≠ []) : Kg72.onGround st f = f () := if_neg h
theorem pure_Plot_tell_check (T : Txt K mg A) (vs : List V) (H : Hp) (Q : VK) (E : XK) (h : sp_Plot_tell_check A K vs H Q E) : t_Plot_tell_check A K (DE Q) (start N_Plot_tell_check vs) H := by
  obtain ⟨xs, ⟨y, st, rfl, hg, rfl⟩, fin⟩ := h
  have hi := hg.at_.ins
  have ee : (Kg72.spec st .check).2 = ⟨st.breaks.length, Kg72.whole (st.breaks.flatMap fun x => [x.1, x.2])⟩ := by
    show (Kg72.onGround st _).2 = _
    rw [on_gr hg.gr]
  rw [ee] at fin
  have bl : st.breaks.length ≤ 9 := by
    unfold Kg72.State.breaks
    exact Nat.le_trans (List.length_filter_le ..) (by simp)
  refine rd_at (rd_asgM0 (ev_var rfl) (hm_Plot_broken hi) fun H1 e1 => ⟨y, st, rfl, hg.mono e1, fun p as H2 np e2 hp hl hel => ?_⟩)
  have e12 := e1.trans e2
  have hsp : SqL K H2 p (refsV as) := sq_of hp
  let W : Nat → List Nat := fun i => st.breaks.length :: (st.breaks.take i).flatMap fun x => [x.1, x.2]
  have wl : ∀ i, (W i).length ≤ 19 := fun i => by
    show ((st.breaks.take i).flatMap fun x => [x.1, x.2]).length + 1 ≤ 19
    rw [List.length_flatMap]
    have : ((st.breaks.take i).map fun x => [x.1, x.2].length).sum = 2 * (st.breaks.take i).length := by
      generalize st.breaks.take i = l
      induction l with
      | nil => rfl
      | cons a r ih => rw [List.map_cons, List.sum_cons, ih, List.length_cons]; simp only [List.length_cons, List.length_nil]; omega
    rw [this, List.length_take]
    omega
  refine rd_at (rd_asgL (xs := natsV (W 0)) ?_ fun pa H3 npa e3 hpa => ?_)
  · refine el_eq (el_lst (ea_cons (ev_len (ev_var rfl) hsp) ea_nil) (by simp)) ?_
    rw [len_refs, hl]
    rfl
  have ex3 := e12.trans e3
  have npaH : H pa = none := fresh_back e12 npa
  refine rd_seq fun H4 e4 => s_forL (ev_var (i := 1) rfl) (ex_l (e3.trans e4) hsp) (fun i σ H' => ∃ w3 w4 : Option V, σ = [some (.ref y.q), some (.ref p), some (.ref pa), w3, w4] ∧ Ex H2 H' ∧ H' pa = some (.lst (natsV (W i))))
    (fun H5 e5 => ⟨none, none, rfl, (e3.trans e4).trans e5, (e4.trans e5) _ _ hpa⟩) (fun i σ H' _ ⟨_, _, _, e', _⟩ => ex_l e' hsp) ?_ ?_
  · rintro i v σ H' hv ⟨w3, w4, rfl, ex, hl'⟩
    obtain ⟨a, ha, rfl⟩ := at_refs hv
    have hi' : i < st.breaks.length := by rw [← hl]; exact (List.getElem?_eq_some_iff.mp ha).1
    have hx : st.breaks[i]? = some st.breaks[i] := List.getElem?_eq_getElem hi'
    have hta := ex _ _ (hel i a _ ha hx)
    refine ⟨a, _, rfl, st_of hta, rfl, _, _, rfl, _, _, rfl, rfl, ?_⟩
    refine rd_at (rd_ext (ys := [.int (st.breaks[i].1 : Nat), .int (st.breaks[i].2 : Nat)]) (ev_var rfl) hl' ?_ (el_lst (ea_cons (ev_var rfl) (ea_cons (ev_var rfl) ea_nil)) (by simp)) fun H5 e5 hl5 => ?_)
    · rw [len_nats]
      exact sz_of (Nat.le_trans (Nat.add_le_add_right (wl i) 2) (by decide))
    refine ⟨_, _, rfl, Ex.mut (ex.trans e5) npa, ?_⟩
    rw [upd_same]
    show some (HO.lst (natsV _ ++ _)) = some (HO.lst (natsV (st.breaks.length :: _)))
    rw [take_more hx, List.flatMap_append]
    show some (HO.lst (natsV (st.breaks.length :: (st.breaks.take i).flatMap fun x => [x.1, x.2]) ++ _)) = _
    rw [← List.cons_append, natsV_app]
    rfl
  · rintro σ H' ⟨w3, w4, rfl, ex, hl'⟩
    rw [len_refs, hl] at hl'
    have hl' : H' pa = some (.lst (natsV (st.breaks.length :: (st.breaks.take st.breaks.length).flatMap fun x => [x.1, x.2]))) := hl'
    rw [List.take_length] at hl'
    dsimp only
    refine rd_at (rd_ret (ev_var rfl) fun H5 e5 => fin pa H5 npaH ((e12.trans ex).trans e5) ?_)
    rw [e5 _ _ hl', natsV_ints]
    rfl
end

section
variable {A : Adr} {K : PySem.W.Frag} {mg : Str → Option Value} {σ : L2.St} {H : Hp} {ta te : TE}
theorem cut_to {xs : List V} {n : Nat} : cutV xs none (some ((n : Nat) : Int)) = xs.take n := by
  unfold cutV
  have e1 : HT.sIx xs.length xs.length (some ((n : Nat) : Int)) = min n xs.length := by
    unfold HT.sIx
    simp
    omega
  have e2 : HT.sIx xs.length 0 none = 0 := by
    unfold HT.sIx
    simp
  rw [e1, e2, List.drop_zero, Nat.sub_zero]
  by_cases c : n ≤ xs.length
  · rw [Nat.min_eq_left c]
  · rw [Nat.min_eq_right (by omega), List.take_length, List.take_of_length_le (by omega)]
theorem ev_methL {a C : Addr} {m : Str} {sp : Sp} {xs : List V} {z : V} (h : Ev ta σ H (.ref a)) (hm : HasM H a C m) (hl : EvL te σ H xs) (hs : ∀ p H1, Ex H H1 → H1 p = some (.lst xs) → SpV sp [.ref a, .ref p] H1 z) : Ev (tMeth C m sp [] E0 ta (tCons te tNil)) σ H z := fun H1 e Q q => h H1 e _ fun H2 e2 => by
  obtain ⟨dx, fs, ho, l⟩ := hm.ex
  refine ⟨a, dx, fs, rfl, (e.trans e2) _ _ ho, l, ?_⟩
  refine hl H2 (e.trans e2) _ fun p H3 hp e3 h3 => ?_
  exact hs p H3 ((e.trans e2).trans e3) h3 H3 (Ex.refl _) Q (fun H4 e4 => q H4 ((e2.trans e3).trans e4)) E0
theorem cast_natsV (l : List Nat) : (l.map fun (n : Nat) => (n : Int)).map V.int = natsV l := by
  rw [List.map_map]
  rfl
theorem pure_Plot_most_of (T : Txt K mg A) (vs : List V) (H : Hp) (Q : VK) (E : XK) (h : sp_Plot_most_of A K vs H Q E) : t_Plot_most_of A K (DE Q) (start N_Plot_most_of vs) H := by
  obtain ⟨v, ⟨y, st, a, ks, rfl, hg, ha, hl, hk, rfl⟩, fin⟩ := h
  have go := hg.ok.grOk hg.gr
  have nN := n_le hg.ok
  have aN := area_le go
  have c1 := hg.ok.cov
  have c2 := hg.ok.flo
  let S : List Nat := (ks.filter fun k => st.open_ (pt st.ground k)).map fun k => st.most (pt st.ground k)
  refine rd_at (rd_asgL (xs := natsV (Kg72.sorted S)) ?_ fun p H1 np e1 hp => ?_)
  · rw [← cast_natsV]
    refine el_sortedR (ns := S.map fun (n : Nat) => (n : Int)) ?_ fun ns hp ho => sorted_is hp ho
    rw [cast_natsV]
    refine el_eq (el_mapL (xs := ks) (fun k => st.open_ (pt st.ground k)) (fun k => V.int (st.most (pt st.ground k) : Nat)) (ev_var rfl) ha (len_nats _) (by omega) (fun _ => rfl) (fun i v k H3 e3 hv hx => ?_) (fun i v k H3 e3 hv hx _ => ?_)) ?_
    · obtain ⟨k', hk', rfl⟩ := at_nats hv
      rw [hx] at hk'
      obtain rfl := Option.some.inj hk'
      have hg3 := hg.mono e3
      exact et_B (ev_meth (ev_var rfl) (hm_Plot_is_open hg3.at_.ins) (ea_cons (ev_var rfl) ea_nil) (sv_is_open hg3 (hk _ (List.mem_of_getElem? hx))))
    · obtain ⟨k', hk', rfl⟩ := at_nats hv
      rw [hx] at hk'
      obtain rfl := Option.some.inj hk'
      have hg3 := hg.mono e3
      exact ev_meth (ev_var rfl) (hm_Plot_most_floors hg3.at_.ins) (ea_cons (ev_var rfl) ea_nil) (sv_most_floors hg3 (hk _ (List.mem_of_getElem? hx)))
    · show _ = natsV (List.map _ _)
      unfold natsV
      rw [List.map_map]
      rfl
  have hg1 := hg.mono e1
  have hi := hg1.at_.ins
  have hr := hg1.at_.ru
  refine rd_asg (v := .int (((Kg72.sorted S).take (st.area * st.rules.covered / 100)).sum : Nat)) ?_ ?_
  · rw [← natsV_sum]
    refine ev_sumN ?_
    rw [cast_natsV]
    refine el_eq (el_sl (hi := some ((st.area * st.rules.covered / 100 : Nat) : Int)) (ev_var rfl) eo_none (eo_some ?_) (sq_of hp)) ?_
    · refine ev_eq (ev_div (ev_mul (i := (st.rules.covered : Int)) (j := (st.area : Int)) (by fail "ev") (by fail "ev") (mulK (by omega))) ev_c (cdivK (by omega) (by omega))) ?_
      rw [Nat.mul_comm, Int.natCast_ediv, Int.natCast_mul]
      rfl
    · rw [cut_to]
      unfold natsV
      rw [List.map_take]
  · refine rd_retE (ev_min2 (ev_var rfl) (ev_div (ev_mul (i := (st.rules.floors : Int)) (j := (st.area : Int)) (by fail "ev") (by fail "ev") (mulK (by omega))) ev_c (cdivK (by omega) (by omega)))) ?_ fun H2 e2 => fin H2 (e1.trans e2)
    unfold mostOf
    show V.int (min (((Kg72.sorted S).take (st.area * st.rules.covered / 100)).sum : Nat) _) = V.int ((min (((Kg72.sorted S).take (st.area * st.rules.covered / 100)).sum) (st.area * st.rules.floors / 100) : Nat) : Int)
    rw [Nat.mul_comm st.area st.rules.floors]
    congr 1
    omega
theorem pure_Plot_best (T : Txt K mg A) (vs : List V) (H : Hp) (Q : VK) (E : XK) (h : sp_Plot_best A K vs H Q E) : t_Plot_best A K (DE Q) (start N_Plot_best vs) H := by
  obtain ⟨v, ⟨y, st, rfl, hg, rfl⟩, fin⟩ := h
  have go := hg.ok.grOk hg.gr
  have nN := n_le hg.ok
  have hi := hg.at_.ins
  have hs : SqL K H y.sq (natsV st.ground.squares) := sq_of hg.at_.sq
  rw [best_eq go] at fin
  refine rd_at (rd_ret (ev_methL (xs := natsV (List.range st.ground.squares.length)) (ev_var rfl) (hm_Plot_most_of hi) ?_ fun p H1 e1 hp => sv_most_of (hg.mono e1) (sq_of hp) (by rw [List.length_range]; omega) fun k hk => List.mem_range.mp hk) fin)
  refine el_eq (el_rangeL (i := (st.ground.squares.length : Int)) (ev_eq (ev_len (by fail "ev") hs) (by rw [len_nats])) (by omega) (by omega)) rfl
theorem houses_len {st : Kg72.State} {hs : List (List Nat)} (h : HousesAre st hs) : hs.map List.length = st.houses.map List.length := by
  apply List.ext_getElem
  · rw [List.length_map, List.length_map, h.1]
  · intro i h1 h2
    rw [List.length_map] at h1 h2
    rw [List.getElem_map, List.getElem_map]
    have := (h.2 i _ _ (List.getElem?_eq_getElem h1) (List.getElem?_eq_getElem h2)).1.length_eq
    rw [List.length_map] at this
    exact this
theorem houses_le : ∀ (f : Nat) (l : List (Nat × Nat)), (Kg72.houses f l).length ≤ f
  | 0, _ => Nat.le_refl 0
  | _ + 1, [] => Nat.zero_le _
  | f + 1, p :: l => Nat.succ_le_succ (houses_le f _)
theorem built_len {st : Kg72.State} (ok : PlotOk st) : (builtIx st).length ≤ 144 := by
  have := List.length_filter_le (fun k => decide (0 < st.built (pt st.ground k))) (List.range st.ground.squares.length)
  rw [List.length_range] at this
  exact Nat.le_trans this (n_le ok)
theorem houses_many {st : Kg72.State} (ok : PlotOk st) (go : GrOk st.ground) : st.houses.length ≤ 144 := by
  refine Nat.le_trans (houses_le st.squares.length st.squares) ?_
  rw [q_len go]
  exact built_len ok
theorem pure_Plot_tell_houses (T : Txt K mg A) (vs : List V) (H : Hp) (Q : VK) (E : XK) (h : sp_Plot_tell_houses A K vs H Q E) : t_Plot_tell_houses A K (DE Q) (start N_Plot_tell_houses vs) H := by
  obtain ⟨xs, ⟨y, st, rfl, hg, rfl⟩, fin⟩ := h
  have hi := hg.at_.ins
  have go := hg.ok.grOk hg.gr
  have ee : (Kg72.spec st .houses).2 = ⟨st.houses.length, Kg72.whole (st.houses.map List.length)⟩ := by
    show (Kg72.onGround st _).2 = _
    rw [on_gr hg.gr]
  rw [ee] at fin
  refine rd_at (rd_asgM0 (ev_var rfl) (hm_Plot_houses hi) fun H1 e1 => ⟨y, st, rfl, hg.mono e1, fun p as hs H2 np e2 hp hl hel hh => ?_⟩)
  have e12 := e1.trans e2
  have hsp : SqL K H2 p (refsV as) := sq_of hp
  have many := houses_many hg.ok go
  have hl2 := hh.1
  refine rd_at (rd_retLE (el_cat (xs := [.int (st.houses.length : Nat)]) (ys := (hs.filter fun _ => true).map fun h => V.int (h.length : Nat)) ?_ ?_ ?_) ?_ fun p' H3 np' e3 h3 => fin p' H3 (fresh_back e12 np') (e12.trans e3) h3)
  · refine el_eq (el_lst (ea_cons (ev_len (ev_var rfl) hsp) ea_nil) (by simp)) ?_
    rw [len_refs, hl, hl2]
  · refine el_mapL (xs := hs) (fun _ => true) (fun h => V.int (h.length : Nat)) (ev_var rfl) hsp (by rw [len_refs, hl]) (by omega) (fun _ => rfl) (fun i v h H3 e3 hv hx => et_yes) (fun i v h H3 e3 hv hx _ => ?_)
    obtain ⟨b, hb, rfl⟩ := at_refs hv
    refine ev_eq (ev_len (ev_var rfl) (sq_of (e3 _ _ (hel i b h hb hx)))) ?_
    rw [len_nats]
  · rw [filter_tt, List.length_map]
    simp only [List.length_singleton]
    omega
  · rw [filter_tt]
    show V.int _ :: _ = V.int _ :: intsV (Kg72.whole _)
    rw [← houses_len hh]
    unfold Kg72.whole intsV
    rw [List.map_map, List.map_map]
    rfl
theorem el_sumFl {y : GL} {st : Kg72.State} {ts : TE} (go : GrOk st.ground) (h : EvL ts σ H (natsV ((List.range st.ground.squares.length).map fun k => st.built (pt st.ground k)))) : Ev (tCB (rSum K) (tCons ts tNil)) σ H (.int (st.floorArea : Nat)) := by
  rw [floorArea_eq go, ← natsV_sum]
  refine ev_sumN ?_
  rw [cast_natsV]
  exact h
theorem pure_Plot_tell_sums (T : Txt K mg A) (vs : List V) (H : Hp) (Q : VK) (E : XK) (h : sp_Plot_tell_sums A K vs H Q E) : t_Plot_tell_sums A K (DE Q) (start N_Plot_tell_sums vs) H := by
  obtain ⟨xs, ⟨y, st, rfl, hg, rfl⟩, fin⟩ := h
  have hi := hg.at_.ins
  have go := hg.ok.grOk hg.gr
  have ee : (Kg72.spec st .sums).2 = ⟨st.area, Kg72.whole [st.squares.length, st.floorArea, st.wanted]⟩ := by
    show (Kg72.onGround st _).2 = _
    rw [on_gr hg.gr]
  rw [ee] at fin
  refine rd_at (rd_retLE (el_lst (vs := [.int (st.area : Nat), .int ((builtIx st).length : Nat), .int (st.floorArea : Nat), .int (st.wanted : Nat)]) (ea_cons (by fail "ev") (ea_cons ?_ (ea_cons ?_ (ea_cons ?_ ea_nil)))) (by simp)) ?_ fin)
  · refine ev_eq (ev_lenN (el_meth (ev_var rfl) (hm_Plot_built hi) ea_nil (sl_built hg))) ?_
    rw [len_nats]
  · exact el_sumFl (y := y) go (el_meth (ev_var rfl) (hm_Plot_all_floors hi) ea_nil (sl_all_floors hg))
  · exact ev_meth (ev_var rfl) (hm_Plot_wanted hi) ea_nil (sv_wanted hg)
  · rw [← q_len go]
    rfl
def thB (st : Kg72.State) (x z : Int) : Bool := ((decide (0 ≤ x) && decide (x < (acr st : Int))) && (decide (0 ≤ z) && decide (z < (st.ground.down : Int))))
theorem th_within {st : Kg72.State} (h : st.ground.squares ≠ []) (x z : Int) : (Kg72.within x 0 ((st.ground.across : Int) - 1) && Kg72.within z 0 ((st.ground.down : Int) - 1)) = thB st x z := by
  unfold thB Kg72.within
  rw [acr_gr h, Bool.eq_iff_iff]
  simp only [Bool.and_eq_true, decide_eq_true_eq]
  omega
theorem th_place {st : Kg72.State} (h : st.ground.squares ≠ []) (go : GrOk st.ground) {x z : Int} (c : thB st x z = true) : ∃ k : Nat, k < st.ground.squares.length ∧ z * (acr st : Int) + x = k ∧ pt st.ground k = (x.toNat, z.toNat) ∧ x = ((x.toNat : Nat) : Int) ∧ z = ((z.toNat : Nat) : Int) ∧ x.toNat < st.ground.across ∧ z.toNat < st.ground.down := by
  unfold thB at c
  simp only [Bool.and_eq_true, decide_eq_true_eq] at c
  rw [acr_gr h] at c ⊢
  obtain ⟨⟨c1, c2⟩, c3, c4⟩ := c
  obtain ⟨u, rfl⟩ : ∃ u : Nat, x = u := ⟨x.toNat, by omega⟩
  obtain ⟨v, rfl⟩ : ∃ v : Nat, z = v := ⟨z.toNat, by omega⟩
  have hu : u < st.ground.across := by omega
  have hv : v < st.ground.down := by omega
  refine ⟨v * st.ground.across + u, ?_, by push_cast; rfl, ?_, by simp, by simp, by simpa using hu, by simpa using hv⟩
  · rw [go.hN]; exact lin_lt hu hv
  · unfold pt
    rw [lin_mod hu, lin_div hu]
    simp
theorem on_place {st : Kg72.State} {x z : Int} {f : Nat × Nat → Kg72.State × Kg72.Ans} (h : st.ground.squares ≠ []) : Kg72.onPlace st x z f = if thB st x z = false then (st, Kg72.num (-1)) else f (x.toNat, z.toNat) := by
  unfold Kg72.onPlace
  rw [th_within h]
theorem pure_Plot_tell_square (T : Txt K mg A) (vs : List V) (H : Hp) (Q : VK) (E : XK) (h : sp_Plot_tell_square A K vs H Q E) : t_Plot_tell_square A K (DE Q) (start N_Plot_tell_square vs) H := by
  obtain ⟨xs, ⟨y, st, x, z, rfl, hg, rfl⟩, fin⟩ := h
  have hi := hg.at_.ins
  have go := hg.ok.grOk hg.gr
  have ee : Kg72.spec st (.square x z) = if thB st x z = false then (st, Kg72.num (-1)) else (st, ⟨st.ground.at_ x.toNat z.toNat, Kg72.whole [st.ground.inward (x.toNat, z.toNat), Kg72.truth (st.open_ (x.toNat, z.toNat)), st.high (x.toNat, z.toNat), st.most (x.toNat, z.toNat), st.built (x.toNat, z.toNat)]⟩) := by
    have e0 : Kg72.spec st (.square x z) = Kg72.onGround st fun _ => Kg72.onPlace st x z fun p => (st, ⟨st.ground.at_ p.1 p.2, Kg72.whole [st.ground.inward p, Kg72.truth (st.open_ p), st.high p, st.most p, st.built p]⟩) := rfl
    rw [e0, on_gr hg.gr, on_place hg.gr]
  rw [ee] at fin
  refine rd_at (rd_when (b := !thB st x z) (et_not (et_B (ev_meth (ev_var rfl) (hm_Plot_is_there hi) (ea_cons (ev_var rfl) (ea_cons (ev_var rfl) ea_nil)) (sv_is_there hg.at_ x z)))) ?_ ?_)
  · intro c
    rw [if_pos (bnot_t c)] at fin
    exact rd_ref fin
  · intro c
    have c := bnot_f c
    rw [if_neg (by rw [c]; decide)] at fin
    obtain ⟨k, hk, ek, ep, _⟩ := th_place hg.gr go c
    rw [← ep] at fin
    have hat := at_pt go hk
    rw [ep] at hat
    dsimp only at hat
    rw [hat] at fin
    obtain ⟨a1, a2, a3, a4, a5⟩ := row_lt hg.ok hk
    have ea := acr_gr hg.gr
    refine rd_asg (v := .int (k : Nat)) (ev_eq (ev_meth (ev_var rfl) (hm_Plot_place_of hi) (ea_cons (ev_var rfl) (ea_cons (ev_var rfl) ea_nil)) (sv_place_of hg.at_ (by omega) x z)) (by rw [ek])) ?_
    refine rd_asg (v := .int (Kg72.truth (st.open_ (pt st.ground k)) : Nat)) ?_ ?_
    · refine ev_eq (ev_if2 (et_B (ev_meth (ev_var rfl) (hm_Plot_is_open hi) (ea_cons (ev_var rfl) ea_nil) (sv_is_open hg hk))) (fun _ => ev_c) (fun _ => ev_c)) ?_
      unfold Kg72.truth
      cases st.open_ (pt st.ground k) <;> rfl
    have hs : SqL K H y.sq (natsV st.ground.squares) := sq_of hg.at_.sq
    refine rd_asgL (xs := natsV [st.ground.squares.getD k 0, st.ground.inward (pt st.ground k), Kg72.truth (st.open_ (pt st.ground k)), st.high (pt st.ground k), st.most (pt st.ground k)]) ?_ fun pa H1 npa e1 hpa => ?_
    · refine el_lst (ea_cons (ev_ixL (by fail "ev") (ev_var rfl) hs (atI_nat (nats_at (sq_at hk)))) (ea_cons (ev_meth (ev_var rfl) (hm_Plot_inward hi) (ea_cons (ev_var rfl) ea_nil) (sv_inward hg hk)) (ea_cons (ev_var rfl) (ea_cons (ev_meth (ev_var rfl) (hm_Plot_height_of hi) (ea_cons (ev_var rfl) ea_nil) (sv_height_of hg hk)) (ea_cons (ev_meth (ev_var rfl) (hm_Plot_most_floors hi) (ea_cons (ev_var rfl) ea_nil) (sv_most_floors hg hk)) ea_nil))))) (Nat.le_of_ble_eq_true rfl)
    have hg1 := hg.mono e1
    refine rd_retLE (el_catR (ev_var rfl) hpa (ys := [.int (st.built (pt st.ground k) : Nat)]) (el_lst (ea_cons (ev_meth (ev_var rfl) (hm_Plot_floors_on hg1.at_.ins) (ea_cons (ev_var rfl) ea_nil) (sv_floors_on hg1 hk)) ea_nil) (by simp)) (by rw [len_nats]; exact Nat.le_of_ble_eq_true rfl)) rfl fun p H2 np e2 h2 => fin p H2 (fresh_back e1 np) (e1.trans e2) h2
end

/-! ### plain: rules in their ranges -/
def mostR : List Int := [20, 20, 10000, 1000, 10000, 200, 100, 10000, 100, 10000, 20]
def loR (i : Nat) : Int := if i = 5 then 1 else 0
def okR (ns : List Int) (i : Nat) : Bool := kin (ns.getD i 0) (loR i) (mostR.getD i 0)
theorem rules_all {ns : List Int} (h : ns.length = 11) : (Kg72.rulesOf ns).isSome = (List.range 11).all (okR ns) := by
  match ns, h with
  | [f, s, b, r, t, h, c, a, g, k, w], _ =>
    show (if (Kg72.within f 0 20 && (Kg72.within s 0 20 && (Kg72.within b 0 10000 && (Kg72.within r 0 1000 && (Kg72.within t 0 10000 && (Kg72.within h 1 200 && (Kg72.within c 0 100 && (Kg72.within a 0 10000 && (Kg72.within g 0 100 && (Kg72.within k 0 10000 && Kg72.within w 0 20)))))))))) = true then some _ else none).isSome = (kin f 0 20 && (kin s 0 20 && (kin b 0 10000 && (kin r 0 1000 && (kin t 0 10000 && (kin h 1 200 && (kin c 0 100 && (kin a 0 10000 && (kin g 0 100 && (kin k 0 10000 && (kin w 0 20 && true)))))))))))
    rw [Bool.and_true]
    show _ = (Kg72.within f 0 20 && (Kg72.within s 0 20 && (Kg72.within b 0 10000 && (Kg72.within r 0 1000 && (Kg72.within t 0 10000 && (Kg72.within h 1 200 && (Kg72.within c 0 100 && (Kg72.within a 0 10000 && (Kg72.within g 0 100 && (Kg72.within k 0 10000 && Kg72.within w 0 20))))))))))
    generalize (Kg72.within f 0 20 && (Kg72.within s 0 20 && (Kg72.within b 0 10000 && (Kg72.within r 0 1000 && (Kg72.within t 0 10000 && (Kg72.within h 1 200 && (Kg72.within c 0 100 && (Kg72.within a 0 10000 && (Kg72.within g 0 100 && (Kg72.within k 0 10000 && Kg72.within w 0 20)))))))))) = B
    cases B <;> rfl
theorem rules_not {ns : List Int} (h : ns.length ≠ 11) : Kg72.rulesOf ns = none := by
  unfold Kg72.rulesOf
  split
  · exact absurd rfl h
  · rfl
section
variable {A : Adr} {K : PySem.W.Frag} {mg : Str → Option Value}
theorem pure_are_rules (T : Txt K mg A) (vs : List V) (H : Hp) (Q : VK) (E : XK) (h : sp_are_rules A K vs H Q E) : t_are_rules A K (DE Q) (start N_are_rules vs) H := by
  obtain ⟨v, ⟨a, ns, rfl, ha, rfl⟩, fin⟩ := h
  refine rd_at (rd_when (b := !decide ((ns.length : Int) = 11)) ?_ ?_ ?_)
  · refine et_eq (et_test (ev_neI (ev_len (ev_var rfl) ha) ev_c)) ?_
    rw [len_ints]
  · intro c
    have c := of_decide_eq_false (bnot_t c)
    rw [rules_not (by omega)] at fin
    exact rd_ret ev_c fin
  · intro c
    have c : ns.length = 11 := by have := of_decide_eq_true (bnot_f c); omega
    rw [rules_all c] at fin
    refine rd_asgU (xs := intsV mostR) (eu_tup (ea_cons ev_c (ea_cons ev_c (ea_cons ev_c (ea_cons ev_c (ea_cons ev_c (ea_cons ev_c (ea_cons ev_c (ea_cons ev_c (ea_cons ev_c (ea_cons ev_c (ea_cons ev_c ea_nil))))))))))) (by simp [intsV, mostR])) fun pm H1 npm e1 hpm => ?_
    refine rd_seq (rd_forE (l := intsV ns) (ea_list (ev_var rfl) (ex_l e1 ha)) (fun i σ => ∃ w2 w3 : Option V, σ = [some (.ref a), some (.ref pm), w2, w3] ∧ (List.range i).all (okR ns) = true) ⟨none, none, rfl, rfl⟩ ?_ ?_)
    · rintro i v σ Hc H2 hv ⟨w2, w3, rfl, al⟩ e2 e3
      obtain ⟨z, hz, rfl⟩ := at_ints hv
      have hi : i < 11 := by rw [← c]; exact (List.getElem?_eq_some_iff.mp hz).1
      have hm : mostR[i]? = some (mostR.getD i 0) := by
        rw [List.getD_eq_getElem?_getD, List.getElem?_eq_getElem (show i < mostR.length from hi)]
        rfl
      have hzz : ns.getD i 0 = z := by rw [List.getD_eq_getElem?_getD, hz]; rfl
      refine rd_if (b := !okR ns i) ?_ ?_ ?_
      · refine et_eq (et_or (et_test (ev_lt (j := loR i) (ev_var rfl) (ev_eq (ev_if2 (b := decide ((i : Int) = 5)) (et_test (ev_eqI (ev_var rfl) ev_c)) (fun _ => ev_c) (fun _ => ev_c)) ?_))) fun _ => et_test (ev_gt (ev_var rfl) (ev_ixT (ev_var rfl) (ev_var rfl) (st_of ((e2.trans e3) _ _ hpm)) (atI_nat (ints_at hm))))) ?_
        · unfold loR
          by_cases q : i = 5
          · subst q; rfl
          · rw [decide_eq_false (by omega), if_neg q]; rfl
        · unfold okR
          rw [hzz, kin_iff]
          simp
      · intro b
        have b := bnot_t b
        have : (List.range 11).all (okR ns) = false := by
          rw [List.all_eq_false]
          exact ⟨i, List.mem_range.mpr hi, by rw [b]; decide⟩
        rw [this] at fin
        exact rd_ret ev_c fun H3 e4 => fin H3 (((e1.trans e2).trans e3).trans e4)
      · intro b
        refine rd_next fun H3 e4 => ⟨⟨_, _, rfl, ?_⟩, e3.trans e4⟩
        rw [List.range_succ, List.all_append, al]
        simp [bnot_f b]
    · rintro σ H2 e2 ⟨w2, w3, rfl, al⟩
      rw [len_ints, c] at al
      rw [al] at fin
      dsimp only
      exact rd_at (rd_ret ev_c fun H3 e3 => fin H3 ((e1.trans e2).trans e3))
theorem div_le12 {m n : Nat} (hn : 1 ≤ n) : m / n ≤ 12 ↔ m ≤ 12 * n ∨ m / n ≤ 12 ∧ True := by
  constructor
  · exact fun h => .inr ⟨h, trivial⟩
  · rintro (h | ⟨h, _⟩)
    · exact Nat.div_le_of_le_mul (by rw [Nat.mul_comm]; exact h)
    · exact h
theorem pure_is_ground (T : Txt K mg A) (vs : List V) (H : Hp) (Q : VK) (E : XK) (h : sp_is_ground A K vs H Q E) : t_is_ground A K (DE Q) (start N_is_ground vs) H := by
  obtain ⟨v, ⟨n, a, ns, rfl, ha, hl, rfl⟩, fin⟩ := h
  unfold squareOk at fin
  have hw : Kg72.within n 1 12 = kin n 1 12 := rfl
  rw [hw] at fin
  refine rd_at (rd_when (b := !kin n 1 12 || !decide ((ns.length : Int) % n = 0)) ?_ ?_ ?_)
  · refine et_eq (et_or (et_test (ev_lt (ev_var rfl) ev_c)) fun q => et_or (et_test (ev_gt (ev_var rfl) ev_c)) fun q2 => et_test (ev_neI (ev_mod (ev_len (ev_var rfl) ha) (ev_var rfl) (by have := of_decide_eq_false q; omega)) ev_c)) ?_
    rw [kin_iff, len_ints]
    simp [Bool.or_assoc]
  · intro c
    rw [Bool.or_eq_true] at c
    rcases c with c | c
    · rw [bnot_t c] at fin
      exact rd_ret ev_c fin
    · have : decide ((ns.length : Int) % n = 0) = false := bnot_t c
      rw [this] at fin
      simp only [Bool.false_and, Bool.and_false] at fin
      exact rd_ret ev_c fin
  · intro c
    rw [Bool.or_eq_false_iff] at c
    have k1 := bnot_f c.1
    have k2 := of_decide_eq_true (bnot_f c.2)
    rw [k1, decide_eq_true k2, Bool.true_and, Bool.true_and] at fin
    obtain ⟨b1, b2⟩ := kin_t k1
    obtain ⟨m, rfl⟩ : ∃ m : Nat, n = m := ⟨n.toNat, by omega⟩
    refine rd_seq (rd_forK (l := a) (ev_var rfl) ha (fun i σ => ∃ w2 : Option V, σ = [some (.int m), some (.ref a), w2] ∧ (ns.take i).all (fun z => Kg72.within z 0 2) = true) ⟨none, rfl, rfl⟩ ?_ ?_)
    · rintro i v σ Hc H2 hv ⟨w2, rfl, al⟩ e2 e3
      obtain ⟨z, hz, rfl⟩ := at_ints hv
      refine rd_if (b := !Kg72.within z 0 2) ?_ ?_ ?_
      · refine et_eq (et_test (ev_niI [0, 1, 2] (ev_var rfl) (eu_ints [0, 1, 2] (ea_cons ev_c (ea_cons ev_c (ea_cons ev_c ea_nil))) (by simp)))) ?_
        congr 1
        show decide (z ∈ [(0 : Int), 1, 2]) = (decide (0 ≤ z) && decide (z ≤ 2))
        rw [Bool.eq_iff_iff]
        simp only [Bool.and_eq_true, decide_eq_true_eq, List.mem_cons, List.not_mem_nil, or_false]
        omega
      · intro b
        have : ns.all (fun z => Kg72.within z 0 2) = false := by
          rw [List.all_eq_false]
          exact ⟨z, List.mem_of_getElem? hz, by rw [bnot_t b]; decide⟩
        rw [this, Bool.false_and] at fin
        exact rd_ret ev_c fun H3 e4 => fin H3 ((e2.trans e3).trans e4)
      · intro b
        refine rd_next fun H3 e4 => ⟨⟨_, rfl, ?_⟩, e3.trans e4⟩
        rw [take_more hz, List.all_append, al]
        simp [bnot_f b]
    · rintro σ H2 e2 ⟨w2, rfl, al⟩
      rw [len_ints, List.take_length] at al
      rw [al, Bool.true_and] at fin
      dsimp only
      refine rd_at (rd_retE (ev_chain ev_c (ev_div (ev_len (ev_var rfl) (ex_l e2 ha)) (ev_var rfl) (cdivK (by omega) (by omega))) ev_c) ?_ fun H3 e3 => fin H3 (e2.trans e3))
      rw [len_ints]
      congr 1
      have k3 : ns.length % m = 0 := by omega
      have dm : m * (ns.length / m) = ns.length := by have := Nat.div_add_mod ns.length m; omega
      have hd : ((ns.length : Int) / (m : Int)) = ((ns.length / m : Nat) : Int) := (Int.natCast_ediv _ _).symm
      rw [hd, Bool.eq_iff_iff]
      simp only [Bool.and_eq_true, decide_eq_true_eq]
      generalize ns.length / m = q at *
      have hne : ns ≠ [] ↔ ns.length ≠ 0 := by cases ns <;> simp
      rw [hne, ← dm]
      constructor
      · rintro ⟨q1, q2⟩
        have q2' : q ≤ 12 := by omega
        have : m * q ≤ m * 12 := Nat.mul_le_mul_left m q2'
        have q1' : 1 ≤ m * q := Nat.mul_pos (by omega) (by omega)
        omega
      · rintro ⟨q1, q2⟩
        have q0 : q ≠ 0 := fun z => q1 (by rw [z, Nat.mul_zero])
        have q3 : m * q ≤ m * 12 := by omega
        have := Nat.le_of_mul_le_mul_left q3 (by omega)
        omega
end

section
variable {A : Adr} {K : PySem.W.Frag} {mg : Str → Option Value} {σ : L2.St} {H H1 H' : Hp} {ta tb tv te : TE} {D : Ends} {t u : TS} {a C l : Addr} {v : V} {xs : List V} {y y' : GL} {st st' : Kg72.State}
theorem en_makeP {P : List V → Hp → Prop} {ts : TA} {sp : Sp} {R : Addr → Hp → Prop} (h : ∀ H1, Ex H H1 → ∀ Q : List V → Hp → Prop, (∀ vs H2, Ex H1 H2 → P vs H2 → Q vs H2) → ts σ H1 Q)
    (hs : ∀ (vs : List V) (x dx : Addr) (H2 Hm : Hp) (Q : VK) (E : XK), Ex H H2 → P vs H2 → Ex H2 Hm → H2 x = none → Hm x = some (.ins C dx []) → (∀ H', (∀ b o, Hm b = some o → b ≠ x → H' b = some o) → R x H' → Q .non H') → sp (.ref x :: vs) Hm Q E) :
    EvN (tMake C sp [] E0 ts) σ H R := fun H1 e Q q => h H1 e _ fun vs H2 e2 hP x dx nx nd ne => by
  rw [List.append_nil]
  have ex : Ex H2 (upd (upd H2 dx (.own x)) x (.ins C dx [])) := (Ex.new nd).trans (Ex.new (by rw [upd_ne (Ne.symm ne)]; exact nx))
  exact hs vs x dx H2 _ _ _ (e.trans e2) hP ex nx upd_same fun H' k hR => ⟨rfl, q x H' (fresh_back e2 nx) (e2.trans (Same.made nx nd k)) hR⟩
theorem ea_P {ts : TA} {vs : List V} (h : EvA ts σ H vs) : ∀ H1, Ex H H1 → ∀ Q : List V → Hp → Prop, (∀ ws H2, Ex H1 H2 → ws = vs → Q ws H2) → ts σ H1 Q := fun H1 e Q q => h H1 e _ fun H2 e2 => q vs H2 e2 rfl
theorem en_rules {ts : TA} {r : Kg72.Rules} (h : EvA ts σ H [.ref a]) (hs : SqL K H a (natsV [r.front, r.side, r.base, r.rise, r.top, r.floor, r.covered, r.floors, r.green, r.car, r.gap])) :
    EvN (tMake A.c_Rules (sp_Rules___init__ A K) [] E0 ts) σ H (fun p H2 => InsAt A.c_Rules H2 p (ruF r)) :=
  en_makeP (ea_P h) fun vs x dx H2 Hm Q E e hP em nx hx k => ⟨x, dx, a, r, by rw [hP], hx, ex_l (e.trans em) hs, fun H' hi hk => k H' hk hi⟩
theorem en_rulesL {te : TE} {r : Kg72.Rules} (h : EvL te σ H (natsV [r.front, r.side, r.base, r.rise, r.top, r.floor, r.covered, r.floors, r.green, r.car, r.gap])) :
    EvN (tMake A.c_Rules (sp_Rules___init__ A K) [] E0 (tCons te tNil)) σ H (fun p H2 => InsAt A.c_Rules H2 p (ruF r)) :=
  en_makeP (P := fun vs H2 => ∃ a, vs = [.ref a] ∧ H2 a = some (.lst (natsV [r.front, r.side, r.base, r.rise, r.top, r.floor, r.covered, r.floors, r.green, r.car, r.gap])))
    (fun H1 e Q q => h H1 e _ fun p H2 hp e2 h2 => q _ H2 e2 ⟨p, rfl, h2⟩) fun vs x dx H2 Hm Q E e ⟨a, hv, ha⟩ em nx hx k => ⟨x, dx, a, r, by rw [hv], hx, sq_of (em _ _ ha), fun H' hi hk => k H' hk hi⟩
theorem rd_popB (ha : Ev ta σ H (.ref l)) (hl : H l = some (.lst xs)) (hx : xs ≠ []) (k : ∀ H1, Ex H H1 → D.nx σ (upd H1 l (.lst xs.dropLast))) : Rd (tDrop (tBM0 K "list" rPop ta)) D σ H := fun H1 e => ha H1 e _ fun H2 e2 =>
  have h2 := (e.trans e2) _ _ hl
  ⟨Or.inl ⟨rfl, _, sq_of h2⟩, l, xs, xs[xs.length - 1]'(by have := List.length_pos_iff.mpr hx; omega), rfl, rfl, h2, List.getElem?_eq_getElem _, k H2 (e.trans e2)⟩
/-- a.f = a new object -/
theorem rd_fldN {fs : List (Str × V)} {f : Str} {R : Addr → Hp → Prop} (ha : Ev ta σ H (.ref a)) (hi : InsAt C H a fs) (c : Cls K C) (n : NoAttr K C f) (hl : fs.length < 1000) (hv : EvN tv σ H R)
    (k : ∀ p H0 H1 dx, H p = none → Ex H H0 → R p H0 → Ex H0 H1 → H1 a = some (.ins C dx fs) → D.nx σ (upd H1 a (.ins C dx (putF f (.ref p) fs)))) : Rd (sFld K ta tv f) D σ H := fun H1 e => hv H1 e _ fun p H2 hp e2 hR => ha H2 (e.trans e2) _ fun H3 e3 => by
  obtain ⟨dx, ho⟩ := hi
  exact ⟨a, C, dx, fs, rfl, ((e.trans e2).trans e3) _ _ ho, c, n, hl, k p H2 H3 dx (fresh_back e hp) (e.trans e2) hR e3 (((e.trans e2).trans e3) _ _ ho)⟩
theorem plo_same {z : Kg72.State × Kg72.Ans} {Q : VK} (hz : z.1 = st) (hp : PlotAt A H y st) (k : PlotPost A H y z Q) : ∀ p H1, H p = none → Ex H H1 → H1 p = some (.lst (intsV (ansG z.2))) → Q (.ref p) H1 :=
  fun p H1 np e h => k H1 y p (by rw [hz]; exact hp.mono e) rfl rfl rfl h (Fr.of_ex e) (nl_none np)
theorem plo_go {z : Kg72.State × Kg72.Ans} {Q : VK} (hp : PlotAt A H' y' z.1) (h1 : y'.q = y.q) (h2 : y'.sq = y.sq) (h3 : y'.b = y.b) (fr : Fr ploTags [y.b] H H') (k : PlotPost A H y z Q) : ∀ p H1, H' p = none → Ex H' H1 → H1 p = some (.lst (intsV (ansG z.2))) → Q (.ref p) H1 :=
  fun p H1 np e h => k H1 y' p (hp.mono e) h1 h2 h3 h (fr.trans (Fr.of_ex e)) (nl_go fr np)
theorem PlotPost.mono {z : Kg72.State × Kg72.Ans} {Q : VK} (e : Ex H H1) (k : PlotPost A H y z Q) : PlotPost A H1 y z Q := fun H' y' r a b c d h fr nl => k H' y' r a b c d h ((Fr.of_ex e).trans fr) (nl.mono e)
theorem PlotAt.put {dx : Addr} {fs : List (Str × V)} (h : PlotAt A H y st) (e : Ex H H1) (hf : fs = plotF y' st') (q1 : y'.q = y.q) (q2 : y'.sq = y.sq) (q3 : y'.b = y.b) (q4 : y'.blks = y.blks) (g : st'.ground = st.ground) (bx : st'.boxes = st.boxes)
    (ru : InsAt A.c_Rules H1 y'.r (ruF st'.rules)) : PlotAt A (L2.upd H1 y.q (.ins A.c_Plot dx fs)) y' st' ∧ Fr ploTags [y.b] H (L2.upd H1 y.q (.ins A.c_Plot dx fs)) := by
  obtain ⟨d0, h0⟩ := h.ins
  have F : Fr ploTags [] H (L2.upd H1 y.q (.ins A.c_Plot dx fs)) := (Fr.of_ex e).ins (f := "across") h0 (List.mem_singleton.mpr rfl)
  obtain ⟨dr, hr⟩ := ru
  have nr : y'.r ≠ y.q := ne_tag hr (e _ _ h0) (by rw [ruF_names, plotF_names]; intro z; cases z)
  refine ⟨⟨⟨dx, by rw [q1, upd_same, hf]⟩, by rw [q2, g]; exact F _ _ h.sq (fun q => by cases q), ⟨dr, by rw [upd_ne nr]; exact hr⟩, by rw [q3, q4]; exact F _ _ h.bl (fun q => by cases q), by rw [q4, bx]; exact h.bo.fr _ _ (fun _ => rfl) (by decide) F⟩, F.mono (fun f q => q) (fun b q => by cases q)⟩
theorem PlotAt.push {x : Kg72.Box} (h : PlotAt A H y st) (n1 : y.sq ≠ y.b) (e : Ex H H1) (na : H a = none) (ha : InsAt A.c_Block H1 a (blkF x)) (hs : H1 y.b = some (.lst (refsV y.blks))) :
    PlotAt A (L2.upd H1 y.b (.lst (refsV y.blks ++ [.ref a]))) { y with blks := y.blks ++ [a] } { st with boxes := st.boxes ++ [x] } ∧ Fr ploTags [y.b] H (L2.upd H1 y.b (.lst (refsV y.blks ++ [.ref a]))) := by
  have F : Fr [] [y.b] H (L2.upd H1 y.b (.lst (refsV y.blks ++ [.ref a]))) := (Fr.of_ex e).lst h.bl (List.mem_singleton.mpr rfl)
  have nins : ∀ {C b dx : Addr} {fs : List (Str × V)}, H1 b = some (.ins C dx fs) → b ≠ y.b := fun hb => ne_of hb hs (by intro z; cases z)
  obtain ⟨dp, hp⟩ := h.ins
  obtain ⟨dr, hr⟩ := h.ru
  refine ⟨⟨⟨dp, F _ _ hp (by intro q; cases q)⟩, F _ _ h.sq (nin n1), ⟨dr, F _ _ hr (by intro q; cases q)⟩, ?_, ?_⟩, F.mono (fun f q => by cases q) (fun b q => q)⟩
  · rw [upd_same]
    unfold refsV
    rw [List.map_append]
    rfl
  · have P := h.bo.push (y := x) (H' := H1) na ha e
    exact ⟨P.len, P.nd, fun j b z hb hz => by
      obtain ⟨d2, h2⟩ := P.at_ j b z hb hz
      exact ⟨d2, by rw [upd_ne (nins h2)]; exact h2⟩⟩
theorem PlotAt.pop (h : PlotAt A H y st) (n1 : y.sq ≠ y.b) (e : Ex H H1) :
    PlotAt A (L2.upd H1 y.b (.lst (refsV y.blks.dropLast))) { y with blks := y.blks.dropLast } { st with boxes := st.boxes.dropLast } ∧ Fr ploTags [y.b] H (L2.upd H1 y.b (.lst (refsV y.blks.dropLast))) := by
  have F : Fr [] [y.b] H (L2.upd H1 y.b (.lst (refsV y.blks.dropLast))) := (Fr.of_ex e).lst h.bl (List.mem_singleton.mpr rfl)
  obtain ⟨dp, hp⟩ := h.ins
  obtain ⟨dr, hr⟩ := h.ru
  exact ⟨⟨⟨dp, F _ _ hp (by intro q; cases q)⟩, F _ _ h.sq (nin n1), ⟨dr, F _ _ hr (by intro q; cases q)⟩, upd_same, h.bo.pop.fr _ _ (fun _ => rfl) (by intro q; cases q) F⟩, F.mono (fun f q => by cases q) (fun b q => q)⟩
theorem put_rules (y : GL) (s : Kg72.State) (r : Kg72.Rules) (p : Addr) : putF "rules" (.ref p) (plotF y s) = plotF { y with r := p } { s with rules := r } := put_ix (i := 4) (plotF_names y s) (by decide +kernel)
theorem put_paved (y : GL) (s : Kg72.State) {z : Int} {n : Nat} (e : z = n) : putF "paved" (.int z) (plotF y s) = plotF y { s with paved := n } := by subst e; exact put_ix (i := 6) (plotF_names y s) (by decide +kernel)
theorem put_spaces (y : GL) (s : Kg72.State) {z : Int} {n : Nat} (e : z = n) : putF "spaces" (.int z) (plotF y s) = plotF y { s with spaces := n } := by subst e; exact put_ix (i := 7) (plotF_names y s) (by decide +kernel)
theorem rules_ints {ns : List Int} {r : Kg72.Rules} (h : Kg72.rulesOf ns = some r) : intsV ns = natsV [r.front, r.side, r.base, r.rise, r.top, r.floor, r.covered, r.floors, r.green, r.car, r.gap] ∧
    r.front ≤ 20 ∧ 1 ≤ r.floor ∧ r.floor ≤ 200 ∧ r.rise ≤ 1000 ∧ r.covered ≤ 100 ∧ r.floors ≤ 10000 ∧ r.green ≤ 100 ∧ r.car ≤ 10000 := by
  unfold Kg72.rulesOf at h
  split at h
  · rename_i f s b r' t h' c a g k w
    split at h
    · rename_i c
      simp only [Kg72.within, Bool.and_eq_true, decide_eq_true_eq] at c
      cases h
      refine ⟨?_, ?_⟩
      · unfold intsV natsV
        simp only [List.map_cons, List.map_nil]
        congr 1
        · congr 1; omega
        congr 1
        · congr 1; omega
        congr 1
        · congr 1; omega
        congr 1
        · congr 1; omega
        congr 1
        · congr 1; omega
        congr 1
        · congr 1; omega
        congr 1
        · congr 1; omega
        congr 1
        · congr 1; omega
        congr 1
        · congr 1; omega
        congr 1
        · congr 1; omega
        congr 1
        · congr 1; omega
      · dsimp only
        omega
    · cases h
  · cases h
theorem pure_Plot_set_rules (T : Txt K mg A) (vs : List V) (H : Hp) (Q : VK) (E : XK) (h : sp_Plot_set_rules A K vs H Q E) : t_Plot_set_rules A K (DE Q) (start N_Plot_set_rules vs) H := by
  obtain ⟨y, st, a, l, rfl, ha, hp, ok, fin⟩ := h
  have hi := hp.ins
  have hz : Kg72.spec st (.rules l) = (match Kg72.rulesOf l with | none => (st, Kg72.num (-1)) | some r => if st.ground.squares = [] then (st, Kg72.num (-2)) else ({ st with rules := r }, Kg72.num 0)) := rfl
  rw [hz] at fin
  refine rd_at (rd_when (b := !(Kg72.rulesOf l).isSome) (et_not (et_B (ev_callf (ea_cons (ev_var rfl) ea_nil) (spv_of fun H1 e => ⟨a, l, rfl, ex_l e ha, rfl⟩)))) ?_ ?_)
  · intro c
    have c := bnot_t c
    cases hr : Kg72.rulesOf l with
    | some r => rw [hr] at c; cases c
    | none =>
      rw [hr] at fin
      exact rd_ref (plo_same rfl hp fin)
  · intro c
    have c := bnot_f c
    cases hr : Kg72.rulesOf l with
    | none => rw [hr] at c; cases c
    | some r =>
      rw [hr] at fin
      dsimp only at fin
      refine rd_when (b := !decide (st.ground.squares ≠ [])) (et_not (et_B (ev_meth (ev_var rfl) (hm_Plot_has_ground hi) ea_nil (sv_has_ground hp)))) ?_ ?_
      · intro c
        have c := of_decide_eq_false (bnot_t c)
        rw [if_pos (Classical.not_not.mp c)] at fin
        exact rd_ref (plo_same rfl hp fin)
      · intro c
        have c := of_decide_eq_true (bnot_f c)
        rw [if_neg c] at fin
        refine rd_seq (rd_fldN (ev_var rfl) hi T.Plot.cl T.Plot.n_rules (l1000 rfl) (en_rules (r := r) (ea_cons (ev_var rfl) ea_nil) (by rw [← (rules_ints hr).1]; exact ha)) fun p H0 H1 dx np e0 hR e1 ho => ?_)
        obtain ⟨hp2, fr2⟩ := hp.put (y' := { y with r := p }) (st' := { st with rules := r }) (dx := dx) (e0.trans e1) (put_rules y st r p) rfl rfl rfl rfl rfl rfl (hR.mono e1)
        dsimp only
        exact rd_at (rd_retL (xs := [.int 0]) (el_lst (ea_cons ev_c ea_nil) (by simp)) (plo_go (y' := { y with r := p }) hp2 rfl rfl rfl fr2 fin))
theorem pure_Plot_pave (T : Txt K mg A) (vs : List V) (H : Hp) (Q : VK) (E : XK) (h : sp_Plot_pave A K vs H Q E) : t_Plot_pave A K (DE Q) (start N_Plot_pave vs) H := by
  obtain ⟨y, st, n, k, rfl, hp, ok, fin⟩ := h
  have hi := hp.ins
  have hz : Kg72.spec st (.paved n k) = (if (kin n 0 1000 && kin k 0 1000) = false then (st, Kg72.num (-1)) else if st.ground.squares = [] then (st, Kg72.num (-2)) else ({ st with paved := n.toNat, spaces := k.toNat }, Kg72.num 0)) := rfl
  rw [hz] at fin
  refine rd_at (rd_when (b := !(kin n 0 1000 && kin k 0 1000)) ?_ ?_ ?_)
  · refine' et_eq ?h ?e
    case h => fail "ev"
    case e =>
      rw [kin_iff, kin_iff]
      simp [Bool.or_assoc]
  · intro c
    rw [if_pos (bnot_t c)] at fin
    exact rd_ref (plo_same rfl hp fin)
  · intro c
    have c := bnot_f c
    rw [if_neg (by rw [c]; decide)] at fin
    rw [Bool.and_eq_true] at c
    obtain ⟨n, rfl, en, _, _⟩ := kin_toNat c.1 (by decide)
    obtain ⟨k, rfl, ek, _, _⟩ := kin_toNat c.2 (by decide)
    rw [en, ek] at fin
    refine rd_when (b := !decide (st.ground.squares ≠ [])) (et_not (et_B (ev_meth (ev_var rfl) (hm_Plot_has_ground hi) ea_nil (sv_has_ground hp)))) ?_ ?_
    · intro c
      have c := of_decide_eq_false (bnot_t c)
      rw [if_pos (Classical.not_not.mp c)] at fin
      exact rd_ref (plo_same rfl hp fin)
    · intro c
      have c := of_decide_eq_true (bnot_f c)
      rw [if_neg c] at fin
      refine rd_seq (rd_fldS (ev_var rfl) hi T.Plot.cl T.Plot.n_paved (l1000 rfl) (ev_var rfl) fun H1 dx e1 ho => ?_)
      obtain ⟨hp2, fr2⟩ := hp.put (y' := y) (st' := { st with paved := n }) (dx := dx) e1 (put_paved y st rfl) rfl rfl rfl rfl rfl rfl (hp.ru.mono e1)
      generalize upd H1 y.q _ = H2 at hp2 fr2
      dsimp only
      refine rd_at (rd_seq (rd_fldS (ev_var rfl) hp2.ins T.Plot.cl T.Plot.n_spaces (l1000 rfl) (ev_var rfl) fun H3 dx3 e3 ho3 => ?_))
      obtain ⟨hp4, fr4⟩ := hp2.put (y' := y) (st' := { st with paved := n, spaces := k }) (dx := dx3) e3 (put_spaces y { st with paved := n } rfl) rfl rfl rfl rfl rfl rfl (hp2.ru.mono e3)
      dsimp only
      exact rd_at (rd_retL (xs := [.int 0]) (el_lst (ea_cons ev_c ea_nil) (by simp)) (plo_go (y' := y) hp4 rfl rfl rfl (fr2.trans fr4) fin))
theorem pure_Plot_drop (T : Txt K mg A) (vs : List V) (H : Hp) (Q : VK) (E : XK) (h : sp_Plot_drop A K vs H Q E) : t_Plot_drop A K (DE Q) (start N_Plot_drop vs) H := by
  obtain ⟨y, st, rfl, hp, ok, n1, fin⟩ := h
  have hi := hp.ins
  have hl := hp.bo.len
  have hs : SqL K H y.b (refsV y.blks) := sq_of hp.bl
  have hz : Kg72.spec st .drop = (if st.boxes = [] then (st, Kg72.num (-4)) else ({ st with boxes := st.boxes.dropLast }, Kg72.num (st.boxes.length - 1 : Nat))) := rfl
  rw [hz] at fin
  refine rd_at (rd_when (b := decide ((st.boxes.length : Int) = 0)) ?_ ?_ ?_)
  · refine' et_eq ?h ?e
    case h => fail "ev"
    case e => rw [len_refs, hl]
  · intro c
    have c : st.boxes.length = 0 := by have := of_decide_eq_true c; omega
    rw [if_pos (List.eq_nil_of_length_eq_zero c)] at fin
    exact rd_ref (plo_same rfl hp fin)
  · intro c
    have c := of_decide_eq_false c
    have c0 : st.boxes ≠ [] := fun z => c (by rw [z]; rfl)
    rw [if_neg c0] at fin
    have hev : Ev (tFld K (tVar 0) "blocks") (L2.start N_Plot_drop [V.ref y.q]) H (.ref y.b) := by fail "ev"
    refine rd_seq (rd_popB hev hp.bl (fun z => c0 (List.eq_nil_of_length_eq_zero (by rw [← hl, ← len_refs, z]; rfl))) fun H1 e01 => ?_)
    obtain ⟨hp2, fr2⟩ := hp.pop n1 e01
    have ed : (refsV y.blks).dropLast = refsV y.blks.dropLast := by unfold refsV; rw [List.map_dropLast]
    rw [ed]
    generalize upd H1 y.b _ = H2 at hp2 fr2 ⊢
    dsimp only
    have hs2 : SqL K H2 y.b (refsV y.blks.dropLast) := sq_of hp2.bl
    refine rd_at (rd_retLE (el_lst (ea_cons (ev_len (ev_fld (ev_var rfl) (has_Plot_blocks (y := { y with blks := y.blks.dropLast }) T hp2.ins)) hs2) ea_nil) (by simp)) ?_ (plo_go (y' := { y with blks := y.blks.dropLast }) hp2 rfl rfl rfl fr2 fin))
    show [V.int _] = [V.int _]
    rw [len_refs, List.length_dropLast, hl]
    rfl
theorem pure_Plot_add_block (T : Txt K mg A) (vs : List V) (H : Hp) (Q : VK) (E : XK) (h : sp_Plot_add_block A K vs H Q E) : t_Plot_add_block A K (DE Q) (start N_Plot_add_block vs) H := by
  obtain ⟨y, st, x, z, u, v, n, rfl, hp, ok, n1, fin⟩ := h
  have hi := hp.ins
  have hl := hp.bo.len
  have hs : SqL K H y.b (refsV y.blks) := sq_of hp.bl
  refine rd_at (rd_when (b := !decide (st.ground.squares ≠ [])) (et_not (et_B (ev_meth (ev_var rfl) (hm_Plot_has_ground hi) ea_nil (sv_has_ground hp)))) ?_ ?_)
  · intro c
    have c := of_decide_eq_false (bnot_t c)
    have hz : Kg72.spec st (.box x z u v n) = (st, Kg72.num (-2)) := if_pos (Classical.not_not.mp c)
    rw [hz] at fin
    exact rd_ref (plo_same rfl hp fin)
  · intro c
    have gr := of_decide_eq_true (bnot_f c)
    have go := ok.grOk gr
    have hz : Kg72.spec st (.box x z u v n) = (if thB st x z = false then (st, Kg72.num (-1)) else if thB st u v = false then (st, Kg72.num (-1)) else
        if (decide (x.toNat ≤ u.toNat) && (decide (z.toNat ≤ v.toNat) && kin n 1 60)) = false then (st, Kg72.num (-1)) else if 20 ≤ st.boxes.length then (st, Kg72.num (-5))
        else ({ st with boxes := st.boxes ++ [⟨x.toNat, z.toNat, u.toNat, v.toNat, n.toNat⟩] }, Kg72.num (st.boxes.length + 1 : Nat))) := by
      have e0 : Kg72.spec st (.box x z u v n) = Kg72.onGround st fun _ => Kg72.onPlace st x z fun p => Kg72.onPlace st u v fun q =>
          if (decide (p.1 ≤ q.1) && (decide (p.2 ≤ q.2) && kin n 1 60)) = false then (st, Kg72.num (-1)) else if 20 ≤ st.boxes.length then (st, Kg72.num (-5))
          else ({ st with boxes := st.boxes ++ [⟨p.1, p.2, q.1, q.2, n.toNat⟩] }, Kg72.num (st.boxes.length + 1 : Nat)) := rfl
      rw [e0, on_gr gr, on_place gr, on_place gr]
    rw [hz] at fin
    refine rd_when (b := !thB st x z || (!thB st u v || (decide (u < x) || decide (v < z)))) (et_or (et_not (et_B (ev_meth (ev_var rfl) (hm_Plot_is_there hi) (ea_cons (ev_var rfl) (ea_cons (ev_var rfl) ea_nil)) (sv_is_there hp x z)))) fun _ =>
      et_or (et_not (et_B (ev_meth (ev_var rfl) (hm_Plot_is_there hi) (ea_cons (ev_var rfl) (ea_cons (ev_var rfl) ea_nil)) (sv_is_there hp u v)))) fun _ => et_or (et_test (ev_lt (ev_var rfl) (ev_var rfl))) fun _ => et_test (ev_lt (ev_var rfl) (ev_var rfl))) ?_ ?_
    · intro c
      refine rd_ref (plo_same (z := (st, Kg72.num (-1))) rfl hp ?_)
      cases c1 : thB st x z with
      | false => rw [if_pos c1] at fin; exact fin
      | true =>
        cases c2 : thB st u v with
        | false => rw [if_neg (by rw [c1]; decide), if_pos c2] at fin; exact fin
        | true =>
          obtain ⟨_, _, _, _, x1, z1, _⟩ := th_place gr go c1
          obtain ⟨_, _, _, _, u1, v1, _⟩ := th_place gr go c2
          rw [c1, c2, Bool.not_true, Bool.false_or, Bool.false_or, Bool.or_eq_true, decide_eq_true_eq, decide_eq_true_eq] at c
          rw [if_neg (by rw [c1]; decide), if_neg (by rw [c2]; decide), if_pos] at fin
          · exact fin
          · rcases c with c | c
            · rw [decide_eq_false (show ¬ x.toNat ≤ u.toNat by omega), Bool.false_and]
            · rw [decide_eq_false (show ¬ z.toNat ≤ v.toNat by omega), Bool.false_and, Bool.and_false]
    · intro c
      rw [Bool.or_eq_false_iff, Bool.or_eq_false_iff, Bool.or_eq_false_iff] at c
      obtain ⟨c1, c2, c3, c4⟩ := c
      have c1 := bnot_f c1
      have c2 := bnot_f c2
      have c3 := of_decide_eq_false c3
      have c4 := of_decide_eq_false c4
      obtain ⟨_, _, _, _, x1, z1, _⟩ := th_place gr go c1
      obtain ⟨_, _, _, _, u1, v1, _⟩ := th_place gr go c2
      rw [if_neg (by rw [c1]; decide), if_neg (by rw [c2]; decide), decide_eq_true (show x.toNat ≤ u.toNat by omega), decide_eq_true (show z.toNat ≤ v.toNat by omega), Bool.true_and, Bool.true_and] at fin
      refine rd_when (b := !kin n 1 60) ?_ ?_ ?_
      · refine et_eq (et_or (et_test (ev_lt (ev_var rfl) ev_c)) fun _ => et_test (ev_gt (ev_var rfl) ev_c)) ?_
        rw [kin_iff]
        simp
      · intro c
        rw [if_pos (bnot_t c)] at fin
        exact rd_ref (plo_same rfl hp fin)
      · intro c
        have c := bnot_f c
        rw [if_neg (by rw [c]; decide)] at fin
        obtain ⟨m, rfl, em, _, _⟩ := kin_toNat c (by decide)
        rw [em] at fin
        refine rd_when (b := decide ((20 : Int) ≤ (st.boxes.length : Int))) ?_ ?_ ?_
        · refine' et_eq ?h7 ?e7
          case h7 => fail "ev"
          case e7 => rw [len_refs, hl]
        · intro c
          rw [if_pos (by have := of_decide_eq_true c; omega)] at fin
          exact rd_ref (plo_same rfl hp fin)
        · intro c
          have c := of_decide_eq_false c
          rw [if_neg (by omega)] at fin
          refine rd_seq (rd_appN (l := y.b) (xs := refsV y.blks) (by fail "ev") hp.bl (by rw [len_refs, hl]; omega) (en_make (fs := blkF ⟨x.toNat, z.toNat, u.toNat, v.toNat, m⟩) (ea_cons (ev_var rfl) (ea_cons (ev_var rfl) (ea_cons (ev_var rfl) (ea_cons (ev_var rfl) (ea_cons (ev_var rfl) ea_nil))))) ⟨⟨x.toNat, z.toNat, u.toNat, v.toNat, m⟩, by rw [← x1, ← z1, ← u1, ← v1], rfl⟩) fun p H1 np e1 hp1 hs1 => ?_)
          obtain ⟨hp2, fr2⟩ := hp.push n1 e1 np hp1 hs1
          generalize upd H1 y.b (.lst (refsV y.blks ++ [.ref p])) = H2 at hp2 fr2
          have hs2 : SqL K H2 y.b (refsV (y.blks ++ [p])) := sq_of hp2.bl
          dsimp only
          refine rd_at (rd_retLE (el_lst (ea_cons (ev_len (ev_fld (ev_var rfl) (has_Plot_blocks (y := { y with blks := y.blks ++ [p] }) T hp2.ins)) hs2) ea_nil) (by simp)) ?_ (plo_go (y' := { y with blks := y.blks ++ [p] }) hp2 rfl rfl rfl fr2 fin))
          show [V.int _] = [V.int _]
          rw [len_refs, List.length_append, hl]
          rfl
end

section
variable {A : Adr} {K : PySem.W.Frag} {mg : Str → Option Value} {σ : L2.St} {H H0 H1 H' : Hp} {p C dx a : Addr} {v : V} {i : Nat} {te ta tb : TE} {fs : List (Str × V)} {f : Str} {D : Ends}
theorem sfld_newN {C2 : Addr} {fs2 : List (Str × V)} (cl : Cls K C) (hs : σ[0]? = some (some (.ref p))) (n : NoAttr K C f) (ev : EvN te σ H (fun q H1 => InsAt C2 H1 q fs2)) (hp : H p = some (.ins C dx fs)) (hn : (fs.map (·.1)).contains f = false) (hl : fs.length < 1000)
    (k : ∀ q H', H q = none → InsAt C2 H' q fs2 → Apart H H' p → H' p = some (.ins C dx (fs ++ [(f, .ref q)])) → D.nx σ H') : sFld K (tVar 0) te f D σ H := ev H (Ex.refl H) _ fun q H1 nq e1 ⟨d2, hR⟩ =>
  ⟨.ref p, hs, p, C, dx, fs, rfl, e1 _ _ hp, cl, n, hl, by rw [put_new rfl hn]; exact k q _ nq ⟨d2, by rw [upd_ne (Ne.symm (ne_of_none hp nq))]; exact hR⟩ (fun b o h ne => by rw [upd_ne ne]; exact e1 _ _ h) upd_same⟩
theorem seq_go {t u : TS} (h : t { D with nx := u D } σ H) : tSeq t u D σ H := h
def gOf (n : Nat) (l : List Nat) : Kg72.Ground := if l = [] then Kg72.init.ground else ⟨n, l⟩
theorem gOf_ok {n : Nat} {l : List Nat} (h : l = [] ∧ n = 0 ∨ l ≠ [] ∧ 1 ≤ n ∧ n ≤ 12 ∧ l.length % n = 0) : GrOk (gOf n l) ∧ (gOf n l).squares = l ∧ (gOf n l).down = (if n = 0 then 0 else l.length / n) := by
  unfold gOf
  rcases h with ⟨h, rfl⟩ | ⟨h, h1, h2, h3⟩
  · subst h
    exact ⟨⟨Nat.le_refl 1, rfl⟩, rfl, rfl⟩
  · rw [if_neg h, if_neg (by omega)]
    refine ⟨⟨h1, ?_⟩, rfl, rfl⟩
    show l.length = n * (l.length / n)
    have := Nat.div_add_mod l.length n
    omega
theorem pure_Plot___init__ (T : Txt K mg A) (vs : List V) (H : Hp) (Q : VK) (E : XK) (h : sp_Plot___init__ A K vs H Q E) : t_Plot___init__ A K (DE Q) (start N_Plot___init__ vs) H := by
  obtain ⟨p, dx, t, n, l, rfl, hp, ht, hl, hz, hn, k⟩ := h
  have tp : t ≠ p := ne_of ht hp (by intro z; cases z)
  obtain ⟨gok, gsq, gdn⟩ := gOf_ok hn
  have hls : SqL K H t (natsV l) := sq_of ht
  refine sfld_go (H0 := H) T.Plot.cl rfl T.Plot.n_across (ex_var rfl) Apart.refl hp rfl (l1000 rfl) fun H1 ap1 hp1 => ?_
  refine sfld_go (H0 := H) T.Plot.cl rfl T.Plot.n_squares (ex_var rfl) ap1 hp1 (by show (["across"] : List Str).contains "squares" = false; decide +kernel) (l1000 rfl) fun H2 ap2 hp2 => ?_
  dsimp only
  refine seq_go (sfld_go (H0 := H) (v := .int ((gOf n l).down : Nat)) T.Plot.cl rfl T.Plot.n_down ?_ ap2 hp2 (by show (["across", "squares"] : List Str).contains "down" = false; decide +kernel) (l1000 rfl) fun H3 ap3 hp3 => ?_)
  · intro Ha apa Qa qa
    have hla : SqL K Ha t (natsV l) := sq_of (apa _ _ ht tp)
    refine ev_eq (ev_if2 (b := decide ((n : Int) = 0)) (et_test (ev_eqI (ev_var rfl) ev_c)) (fun _ => ev_c) (fun b => ev_div (i := ((natsV l).length : Int)) (j := (n : Int)) (ev_len (ev_var rfl) hla) (ev_var rfl) (cdivK (by have := of_decide_eq_false b; omega) (by omega)))) ?_ Ha (Ex.refl Ha) Qa qa
    rw [gdn, len_nats]
    by_cases c : n = 0
    · subst c; rfl
    · rw [decide_eq_false (by omega), if_neg c]
      rfl
  dsimp only
  refine seq_go (sfld_go (H0 := H) (v := .int (l.count 1 : Nat)) T.Plot.cl rfl T.Plot.n_area ?_ ap3 hp3 (by show (["across", "squares", "down"] : List Str).contains "area" = false; decide +kernel) (l1000 rfl) fun H4 ap4 hp4 => ?_)
  · intro Ha apa Qa qa
    have hta := apa _ _ ht tp
    have hta' : Ha t = some (.lst ((l.map fun (n : Nat) => (n : Int)).map V.int)) := by rw [cast_natsV]; exact hta
    refine ev_eq (ev_count (k := 1) (ev_var rfl) ev_c (sq_of hta') hta') ?_ Ha (Ex.refl Ha) Qa qa
    congr 2
    have : ∀ l : List Nat, (l.map fun (n : Nat) => (n : Int)).count 1 = l.count 1 := fun l => by
      induction l with
      | nil => rfl
      | cons a r ih =>
        rw [List.map_cons, List.count_cons, List.count_cons, ih]
        by_cases c : a = 1
        · subst c; rfl
        · rw [beq_eq_false_iff_ne.mpr c, beq_eq_false_iff_ne.mpr (show (a : Int) ≠ 1 by omega)]
    rw [this]
  dsimp only
  refine seq_go (sfld_newN T.Plot.cl rfl T.Plot.n_rules (en_rulesL (r := Kg72.free) (el_lst (ea_cons ev_c (ea_cons ev_c (ea_cons ev_c (ea_cons ev_c (ea_cons ev_c (ea_cons ev_c (ea_cons ev_c (ea_cons ev_c (ea_cons ev_c (ea_cons ev_c (ea_cons ev_c ea_nil))))))))))) (by simp [natsV]))) hp4 (by show (["across", "squares", "down", "area"] : List Str).contains "rules" = false; decide +kernel) (l1000 rfl) fun r H6 nr hR6 ap5 hp6 => ?_)
  have rp : r ≠ p := Ne.symm (ne_of_none hp4 nr)
  refine sfld_new T.Plot.cl rfl T.Plot.n_blocks hp6 (by show (["across", "squares", "down", "area", "rules"] : List Str).contains "blocks" = false; decide +kernel) (l1000 rfl) fun b H7 nb ap7 hb7 hp7 => ?_
  have bp : b ≠ p := Ne.symm (ne_of_none hp6 nb)
  refine sfld_go (H0 := H7) T.Plot.cl rfl T.Plot.n_paved ex_c Apart.refl hp7 (by show (["across", "squares", "down", "area", "rules", "blocks"] : List Str).contains "paved" = false; decide +kernel) (l1000 rfl) fun H8 ap8 hp8 => ?_
  refine sfld_go (H0 := H7) T.Plot.cl rfl T.Plot.n_spaces ex_c ap8 hp8 (by show (["across", "squares", "down", "area", "rules", "blocks", "paved"] : List Str).contains "spaces" = false; decide +kernel) (l1000 rfl) fun H9 ap9 hp9 => ?_
  have apA : Apart H H6 p := ap4.trans ap5
  have apB : Apart H H9 p := (apA.trans ap7).trans ap9
  obtain ⟨dr, hr⟩ := hR6
  refine k H9 ⟨p, t, r, b, []⟩ ⟨⟨dx, ?_⟩, ?_, ⟨dr, ap9 _ _ (ap7 _ _ hr rp) rp⟩, ap9 _ _ hb7 bp, ObjsAt.nil⟩ rfl rfl (apA.free nb bp) apB
  · rw [hp9]
    congr 2
    have hacr : acr { Kg72.init with ground := gOf n l } = n := by
      unfold acr
      show (if (gOf n l).squares = [] then 0 else (gOf n l).across) = n
      rw [gsq]
      rcases hn with ⟨h, rfl⟩ | ⟨h, _⟩
      · rw [if_pos h]
      · rw [if_neg h]
        unfold gOf
        rw [if_neg h]
    have har : Kg72.State.area { Kg72.init with ground := gOf n l } = l.count 1 := by
      rw [area_eq gok]
      show (gOf n l).squares.count 1 = _
      rw [gsq]
    show _ = plotF ⟨p, t, r, b, []⟩ { Kg72.init with ground := gOf n l }
    unfold plotF
    rw [hacr, har]
    rfl
  · show H9 t = some (.lst (natsV (gOf n l).squares))
    rw [gsq]
    exact apB _ _ ht tp
theorem rd_retI {tt : TT} {tu tv : TE} {b : Bool} (h : EvT tt σ H b) (h1 : b = true → Rd (tRet tu) D σ H) (h2 : b = false → Rd (tRet tv) D σ H) : Rd (tRet (tIf tt tu tv)) D σ H := fun H1 e => h H1 e _ fun H2 e2 => by
  cases b with
  | true => exact h1 rfl H2 (e.trans e2)
  | false => exact h2 rfl H2 (e.trans e2)
theorem sq_same (st : Kg72.State) (x z : Int) : (Kg72.spec st (.square x z)).1 = st := by
  show (Kg72.onGround st _).1 = st
  unfold Kg72.onGround
  split
  · rfl
  · unfold Kg72.onPlace
    split <;> rfl
theorem gr_same {st : Kg72.State} {f : Unit → Kg72.State × Kg72.Ans} (h : (f ()).1 = st) : (Kg72.onGround st f).1 = st := by
  unfold Kg72.onGround
  split
  · rfl
  · exact h
theorem pure_Plot_answer (T : Txt K mg A) (vs : List V) (H : Hp) (Q : VK) (E : XK) (h : sp_Plot_answer A K vs H Q E) : t_Plot_answer A K (DE Q) (start N_Plot_answer vs) H := by
  obtain ⟨y, st, n, f, g, ns, l, c, rfl, hf, hg, hc, hp, ok, nd, fin⟩ := h
  have hi := hp.ins
  refine rd_at ?_
  have ix : ∀ (i : Nat) (m : Int) (σ : L2.St), σ[2]? = some (some (.ref f)) → ns[i]? = some m → Ev (tOp (rIxL K) (tVar 2) (tC (.int (i : Nat)))) σ H (.int m) := fun i m σ h1 h2 => ev_ixL (ev_var h1) ev_c hf (atI_nat (ints_at h2))
  have gnd : ∀ {t2 : TS} {n : Int}, (st.ground.squares = [] → Kg72.spec st c = (st, Kg72.num (-2))) → (st.ground.squares ≠ [] → Rd t2 (DE Q) [some (.ref y.q), some (.int n), some (.ref f), some (.ref g)] H) →
      Rd (tSeq (tIfS (tNot (tB (tMeth A.c_Plot "has_ground" (sp_Plot_has_ground A K) [] E0 (tVar 0) tNil))) (tRet (tLst (tCons (tUn rNegI (tC (.int 2))) (tNil)))) (tNext)) t2) (DE Q) [some (.ref y.q), some (.int n), some (.ref f), some (.ref g)] H := fun h1 h2 => by
    refine rd_when (b := !decide (st.ground.squares ≠ [])) (et_not (et_B (ev_meth (ev_var rfl) (hm_Plot_has_ground hi) ea_nil (sv_has_ground hp)))) ?_ ?_
    · intro c
      have c := of_decide_eq_false (bnot_t c)
      rw [h1 (Classical.not_not.mp c)] at fin
      exact rd_ref (plo_same rfl hp fin)
    · exact fun c => h2 (of_decide_eq_true (bnot_f c))
  unfold ploC at hc
  split at hc
  · cases hc
    exact rd_hit rfl (rd_retM (ev_var rfl) (hm_Plot_set_rules hi) (ea_cons (ev_var rfl) ea_nil) fun H1 e1 => ⟨y, st, _, _, rfl, ex_l e1 hg, hp.mono e1, ok, fin.mono e1⟩)
  · cases hc
    exact rd_skip rfl (by decide) (rd_hit rfl (rd_retM (ev_var rfl) (hm_Plot_add_block hi) (ea_cons (ix 0 _ _ rfl rfl) (ea_cons (ix 1 _ _ rfl rfl) (ea_cons (ix 2 _ _ rfl rfl) (ea_cons (ix 3 _ _ rfl rfl) (ea_cons (ix 4 _ _ rfl rfl) ea_nil))))) fun H1 e1 => ⟨y, st, _, _, _, _, _, rfl, hp.mono e1, ok, nd, fin.mono e1⟩))
  · cases hc
    exact rd_skip rfl (by decide) (rd_skip rfl (by decide) (rd_hit rfl (rd_retM (ev_var rfl) (hm_Plot_drop hi) ea_nil fun H1 e1 => ⟨y, st, rfl, hp.mono e1, ok, nd, fin.mono e1⟩)))
  · cases hc
    exact rd_skip rfl (by decide) (rd_skip rfl (by decide) (rd_skip rfl (by decide) (rd_hit rfl (rd_retM (ev_var rfl) (hm_Plot_pave hi) (ea_cons (ix 0 _ _ rfl rfl) (ea_cons (ix 1 _ _ rfl rfl) ea_nil)) fun H1 e1 => ⟨y, st, _, _, rfl, hp.mono e1, ok, fin.mono e1⟩))))
  · cases hc
    refine rd_skip rfl (by decide) (rd_skip rfl (by decide) (rd_skip rfl (by decide) (rd_skip rfl (by decide) (gnd (fun z => if_pos z) fun gr => ?_))))
    have hgr : GrAt A H y st := ⟨hp, ok, gr⟩
    exact rd_hit rfl (rd_retL (el_meth (ev_var rfl) (hm_Plot_tell_check hi) ea_nil (spl_of fun H1 e1 => ⟨y, st, rfl, hgr.mono e1, rfl⟩)) (plo_same (gr_same rfl) hp fin))
  · cases hc
    refine rd_skip rfl (by decide) (rd_skip rfl (by decide) (rd_skip rfl (by decide) (rd_skip rfl (by decide) (gnd (fun z => if_pos z) fun gr => ?_))))
    have hgr : GrAt A H y st := ⟨hp, ok, gr⟩
    exact rd_skip rfl (by decide) (rd_hit rfl (rd_retL (el_meth (ev_var rfl) (hm_Plot_tell_square hi) (ea_cons (ix 0 _ _ rfl rfl) (ea_cons (ix 1 _ _ rfl rfl) ea_nil)) (spl_of fun H1 e1 => ⟨y, st, _, _, rfl, hgr.mono e1, rfl⟩)) (plo_same (sq_same _ _ _) hp fin)))
  · cases hc
    refine rd_skip rfl (by decide) (rd_skip rfl (by decide) (rd_skip rfl (by decide) (rd_skip rfl (by decide) (gnd (fun z => if_pos z) fun gr => ?_))))
    have hgr : GrAt A H y st := ⟨hp, ok, gr⟩
    have ee : Kg72.spec st .best = (st, Kg72.num (st.best : Nat)) := if_neg gr
    rw [ee] at fin
    exact rd_skip rfl (by decide) (rd_skip rfl (by decide) (rd_hit rfl (rd_retL (el_lst (ea_cons (ev_meth (ev_var rfl) (hm_Plot_best hi) ea_nil (sv_best hgr)) ea_nil) (by simp)) (plo_same rfl hp fin))))
  · cases hc
    refine rd_skip rfl (by decide) (rd_skip rfl (by decide) (rd_skip rfl (by decide) (rd_skip rfl (by decide) (gnd (fun z => if_pos z) fun gr => ?_))))
    have hgr : GrAt A H y st := ⟨hp, ok, gr⟩
    exact rd_skip rfl (by decide) (rd_skip rfl (by decide) (rd_skip rfl (by decide) (rd_retI (b := true) (et_eq (et_test (ev_eqI (ev_var rfl) ev_c)) (by decide)) (fun _ => rd_retL (el_meth (ev_var rfl) (hm_Plot_tell_houses hi) ea_nil (spl_of fun H1 e1 => ⟨y, st, rfl, hgr.mono e1, rfl⟩)) (plo_same (gr_same rfl) hp fin)) (fun z => by cases z))))
  · cases hc
    refine rd_skip rfl (by decide) (rd_skip rfl (by decide) (rd_skip rfl (by decide) (rd_skip rfl (by decide) (gnd (fun z => if_pos z) fun gr => ?_))))
    have hgr : GrAt A H y st := ⟨hp, ok, gr⟩
    exact rd_skip rfl (by decide) (rd_skip rfl (by decide) (rd_skip rfl (by decide) (rd_retI (b := false) (et_eq (et_test (ev_eqI (ev_var rfl) ev_c)) (by decide)) (fun z => by cases z) (fun _ => rd_retL (el_meth (ev_var rfl) (hm_Plot_tell_sums hi) ea_nil (spl_of fun H1 e1 => ⟨y, st, rfl, hgr.mono e1, rfl⟩)) (plo_same (gr_same rfl) hp fin)))))
  · cases hc
end
/-! ### plain: a plot's state stays in its ranges -/
theorem plot_ok_ground {st : Kg72.State} {g : Kg72.Ground} {a : Int} {l : List Int} (hk : squareOk Kg72.init l a = true) : PlotOk { Kg72.init with ground := ⟨a.toNat, l.map Int.toNat⟩ } ∧ l.length ≤ 144 ∧ l ≠ [] ∧ 1 ≤ a.toNat ∧ a.toNat ≤ 12 ∧ l.length % a.toNat = 0 ∧ (∀ z ∈ l, 0 ≤ z ∧ z ≤ 2) ∧ a = (a.toNat : Int) := by
  unfold squareOk at hk
  simp only [Bool.and_eq_true, decide_eq_true_eq, List.all_eq_true, Kg72.within] at hk
  obtain ⟨⟨h1, h2⟩, h3, h4, h5, h6⟩ := hk
  obtain ⟨n, rfl⟩ : ∃ n : Nat, a = n := ⟨a.toNat, by omega⟩
  have h5' : l.length % n = 0 := by omega
  have dm := Nat.div_add_mod l.length n
  have n1 : 1 ≤ n := by omega
  have n12 : n ≤ 12 := by omega
  have hl0 : l.length ≠ 0 := fun z => h4 (List.eq_nil_of_length_eq_zero z)
  have hd : l.length / n ≤ 12 := Nat.div_le_of_le_mul (by rw [Nat.mul_comm]; omega)
  have hd1 : 1 ≤ l.length / n := Nat.pos_of_ne_zero fun z => hl0 (by rw [z, Nat.mul_zero, h5'] at dm; omega)
  have hm : (l.map Int.toNat).length = l.length := List.length_map ..
  refine ⟨⟨fun _ => ?_, ?_, (by show (0 : Nat) ≤ 20; decide), (by show (1 : Nat) ≤ 30 ∧ (30 : Nat) ≤ 200; decide), (by show (0 : Nat) ≤ 1000; decide), (by show (100 : Nat) ≤ 100; decide), (by show (100000 : Nat) ≤ 100000; decide), (by show (0 : Nat) ≤ 100; decide), (by show (0 : Nat) ≤ 10000; decide), (by show (0 : Nat) ≤ 20; decide)⟩, by omega, h4, by simpa using n1, by simpa using n12, by simpa using h5', fun z hz => h3 z hz, by simp⟩
  · unfold Kg72.Ground.down
    dsimp only
    rw [hm, Int.toNat_natCast]
    refine ⟨n1, n12, by omega, hd1, hd⟩
  · intro z hz
    obtain ⟨w, hw, rfl⟩ := List.mem_map.mp hz
    have := h3 w hw
    omega
theorem plot_ok {st : Kg72.State} (ok : PlotOk st) (c : Kg72.Call) : PlotOk (Kg72.spec st c).1 := by
  have gr : ∀ {f : Unit → Kg72.State × Kg72.Ans}, PlotOk (f ()).1 → PlotOk (Kg72.onGround st f).1 := fun h => by
    unfold Kg72.onGround
    split
    · exact ok
    · exact h
  have pl : ∀ {x z : Int} {f : Nat × Nat → Kg72.State × Kg72.Ans}, (∀ p, PlotOk (f p).1) → PlotOk (Kg72.onPlace st x z f).1 := fun h => by
    unfold Kg72.onPlace
    split
    · exact ok
    · exact h _
  cases c with
  | ground a l =>
    show PlotOk (if squareOk st l a = false then (st, Kg72.num (-1)) else _).1
    split
    · exact ok
    · rename_i c
      have c : squareOk Kg72.init l a = true := by cases q : squareOk st l a with
        | true => exact q
        | false => exact absurd q c
      exact (plot_ok_ground (st := st) (g := st.ground) c).1
  | rules l =>
    show PlotOk (match Kg72.rulesOf l with | none => (st, Kg72.num (-1)) | some r => Kg72.onGround st fun _ => ({ st with rules := r }, Kg72.num 0)).1
    cases hr : Kg72.rulesOf l with
    | none => exact ok
    | some r =>
      obtain ⟨_, r1, r2, r3, r4, r5, r6, r7, r8⟩ := rules_ints hr
      exact gr ⟨ok.ground, ok.sorts, r1, ⟨r2, r3⟩, r4, r5, by dsimp only; omega, r7, r8, ok.nbox⟩
  | box x z u v n =>
    refine gr (pl fun p => pl fun q => ?_)
    split
    · exact ok
    · split
      · exact ok
      · refine ⟨ok.ground, ok.sorts, ok.front, ok.floor, ok.rise, ok.cov, ok.flo, ok.gre, ok.car, ?_⟩
        dsimp only
        rw [List.length_append, List.length_singleton]
        omega
  | drop =>
    show PlotOk (if st.boxes = [] then (st, Kg72.num (-4)) else ({ st with boxes := st.boxes.dropLast }, Kg72.num (st.boxes.length - 1 : Nat))).1
    split
    · exact ok
    · refine ⟨ok.ground, ok.sorts, ok.front, ok.floor, ok.rise, ok.cov, ok.flo, ok.gre, ok.car, ?_⟩
      dsimp only
      rw [List.length_dropLast]
      have := ok.nbox
      omega
  | paved n k =>
    show PlotOk (if (Kg72.within n 0 1000 && Kg72.within k 0 1000) = false then (st, Kg72.num (-1)) else Kg72.onGround st fun _ => ({ st with paved := n.toNat, spaces := k.toNat }, Kg72.num 0)).1
    split
    · exact ok
    · exact gr ⟨ok.ground, ok.sorts, ok.front, ok.floor, ok.rise, ok.cov, ok.flo, ok.gre, ok.car, ok.nbox⟩
  | check => exact gr ok
  | square x z => exact gr (pl fun p => ok)
  | best => exact gr ok
  | houses => exact gr ok
  | sums => exact gr ok

section
variable {A : Adr} {K : PySem.W.Frag} {mg : Str → Option Value} {σ : L2.St} {H H1 H' : Hp} {ta tb tv te : TE} {D : Ends} {t u : TS} {y y' : LL} {st st' : Kg85.State} {a : Addr} {x : Kg85.Soil} {k : Nat}
theorem chV_mp (h : st.map ≠ []) : chV y st = .ref y.c := if_neg h
theorem chV_no (h : st.map = []) : chV y st = .non := if_pos h
theorem MpAt.gr (h : MpAt A H y st) : GrAt A H y.plo st.plot := ⟨h.at_.plo, h.ok.plo, (h.ok.map h.mp).1⟩
theorem MpAt.len (h : MpAt A H y st) : st.map.length = st.plot.ground.squares.length := (h.ok.map h.mp).2.1
theorem MpAt.sec (h : MpAt A H y st) (hx : x ∈ st.map) : x.section_ < st.water.sections.length := (h.ok.map h.mp).2.2 x hx
theorem MpAt.ch (h : MpAt A H y st) : H y.c = some (.lst (refsV y.sqs)) := (h.at_.ch h.mp).1
theorem MpAt.ob (h : MpAt A H y st) : ObjsAt A.c_Square sqF H y.sqs st.map := (h.at_.ch h.mp).2
theorem MpAt.len2 (h : MpAt A H y st) : y.sqs.length = st.map.length := h.ob.len
theorem ev_chart (T : Txt K mg A) (h : MpAt A H y st) (ha : Ev ta σ H (.ref y.L)) : Ev (tFld K ta "chart") σ H (.ref y.c) := by
  rw [← chV_mp (y := y) h.mp]
  exact ev_fld ha (has_Land_chart T h.at_.ins)
theorem ev_soil (T : Txt K mg A) (h : MpAt A H y st) (ha : Ev ta σ H (.ref y.L)) (hb : Ev tb σ H (.int (k : Nat))) {b : Addr} (hs : y.sqs[k]? = some b) : Ev (tOp (rIxL K) (tFld K ta "chart") tb) σ H (.ref b) :=
  ev_ixL (ev_chart T h ha) hb (sq_of h.ch) (atI_nat (refs_at hs))
theorem MpAt.get (h : MpAt A H y st) (hx : st.map[k]? = some x) : ∃ b, y.sqs[k]? = some b ∧ SoilAt A H b x := h.ob.get hx
theorem soil_pt (h : MpAt A H y st) (hx : st.map[k]? = some x) : st.soil (pt st.plot.ground k) = x := by
  unfold Kg85.State.soil Kg85.State.at_ pt
  dsimp only
  rw [lin_back, List.getD_eq_getElem?_getD, hx]
  rfl
theorem map_at (h : MpAt A H y st) (hk : k < st.plot.ground.squares.length) : ∃ x, st.map[k]? = some x := ⟨_, List.getElem?_eq_getElem (by rw [h.len]; exact hk)⟩
theorem pure_Land_level_of (T : Txt K mg A) (vs : List V) (H : Hp) (Q : VK) (E : XK) (h : sp_Land_level_of A K vs H Q E) : t_Land_level_of A K (DE Q) (start N_Land_level_of vs) H := by
  obtain ⟨v, ⟨y, st, a, x, rfl, hm, hx, mx, rfl⟩, fin⟩ := h
  have hi := hm.at_.ins
  have hip := hm.at_.pol.ins
  have hs : SqL K H y.pol.s (refsV y.pol.secs) := sq_of hm.at_.pol.sl
  have hl := hm.sec mx
  obtain ⟨b, hb, hsec⟩ := hm.at_.pol.sec hl
  obtain ⟨s1, s2⟩ := hm.ok.pol.sec hl
  refine rd_at (rd_asg (v := .ref b) (ev_ixL (i := ((x.section_ : Nat) : Int)) (by fail "ev") (by fail "ev") hs (atI_nat (refs_at hb))) ?_)
  exact rd_ret (ev_meth (ev_var rfl) (hm_Section_level hsec) ea_nil (sv_level hsec s1 s2)) fin
theorem pure_Land_depth (T : Txt K mg A) (vs : List V) (H : Hp) (Q : VK) (E : XK) (h : sp_Land_depth A K vs H Q E) : t_Land_depth A K (DE Q) (start N_Land_depth vs) H := by
  obtain ⟨v, ⟨y, st, a, x, rfl, hm, hx, mx, rfl⟩, fin⟩ := h
  have hi := hm.at_.ins
  refine rd_at (rd_retE (ev_max2 ev_c (ev_sub (ev_meth (ev_var rfl) (hm_Land_level_of hi) (ea_cons (ev_var rfl) ea_nil) (sv_level_of hm hx mx)) (j := (x.height : Int)) (by fail "ev"))) ?_ fin)
  unfold Kg85.depth
  congr 1
  omega
theorem drowned_eq (h : MpAt A H y st) : st.drowned.length = ((builtIx st.plot).filter fun k => decide ((0 : Int) < ((st.map.getD k ⟨0, 0, 0, 0⟩).peak : Int))).length := by
  have go := h.ok.plo.grOk h.gr.gr
  unfold Kg85.State.drowned
  rw [squares_eq go, List.filter_map, List.length_map]
  congr 1
  refine List.filter_congr fun k hk => ?_
  obtain ⟨x, hx⟩ := map_at h (built_in hk)
  show decide (0 < (st.soil (pt st.plot.ground k)).peak) = _
  rw [soil_pt h hx, List.getD_eq_getElem?_getD, hx]
  refine decide_eq_decide.mpr ?_
  show 0 < x.peak ↔ (0 : Int) < (x.peak : Int)
  omega
theorem pure_Land_drowned (T : Txt K mg A) (vs : List V) (H : Hp) (Q : VK) (E : XK) (h : sp_Land_drowned A K vs H Q E) : t_Land_drowned A K (DE Q) (start N_Land_drowned vs) H := by
  obtain ⟨v, ⟨y, st, rfl, hm, rfl⟩, fin⟩ := h
  have hi := hm.at_.ins
  have hip := hm.at_.plo.ins
  have bl := built_len hm.ok.plo
  rw [drowned_eq hm] at fin
  refine rd_at (rd_retE (ev_lenN (el_mapN (xs := builtIx st.plot) (fun k => decide ((0 : Int) < ((st.map.getD k ⟨0, 0, 0, 0⟩).peak : Int))) (fun k => V.int (k : Nat)) (l := natsV (builtIx st.plot)) (el_meth (by fail "ev") (hm_Plot_built hip) ea_nil (sl_built hm.gr)) (len_nats _) (by omega) (fun _ => rfl) (fun i v k H3 e3 hv hx => ?_) (fun i v k H3 e3 hv hx _ => ?_))) ?_ fin)
  · obtain ⟨k', hk', rfl⟩ := at_nats hv
    rw [hx] at hk'
    obtain rfl := Option.some.inj hk'
    have hm3 := hm.mono e3
    obtain ⟨x, hxx⟩ := map_at hm3 (built_in (List.mem_of_getElem? hx))
    obtain ⟨b, hb, hso⟩ := hm3.get hxx
    refine et_eq (et_test (ev_gt (ev_fld (ev_soil T hm3 (ev_var rfl) (ev_var rfl) hb) (has_Square_peak T hso)) ev_c)) ?_
    rw [List.getD_eq_getElem?_getD, hxx]
    rfl
  · obtain ⟨k', hk', rfl⟩ := at_nats hv
    rw [hx] at hk'
    obtain rfl := Option.some.inj hk'
    exact ev_var rfl
  · rw [List.length_map]
theorem zip_filter {α β : Type} (p : β → Bool) : ∀ (as : List α) (bs : List β), as.length = bs.length → ((as.zip bs).filter fun z => p z.2).length = (bs.filter p).length
  | [], [], _ => rfl
  | [], _ :: _, h => by simp at h
  | _ :: _, [], h => by simp at h
  | a :: as, b :: bs, h => by
    rw [List.zip_cons_cons, List.filter_cons, List.filter_cons]
    have ih := zip_filter p as bs (by simpa using h)
    show (if p b = true then _ else _ : List _).length = _
    cases p b
    · exact ih
    · simp only [if_true, List.length_cons, ih]
theorem pure_Land_sums (T : Txt K mg A) (vs : List V) (H : Hp) (Q : VK) (E : XK) (h : sp_Land_sums A K vs H Q E) : t_Land_sums A K (DE Q) (start N_Land_sums vs) H := by
  obtain ⟨xs, ⟨y, st, rfl, hm, rfl⟩, fin⟩ := h
  have hi := hm.at_.ins
  have nN := n_le hm.ok.plo
  have ml := hm.len
  have hsq : SqL K H y.c (refsV y.sqs) := sq_of hm.ch
  have zl : (y.sqs.zip st.map).length = y.sqs.length := by rw [List.length_zip, hm.len2]; omega
  have one : ∀ {i : Nat} {v : V} {z : Addr × Kg85.Soil} {H3 : Hp}, Ex H H3 → (refsV y.sqs)[i]? = some v → (y.sqs.zip st.map)[i]? = some z → v = .ref z.1 ∧ SoilAt A H3 z.1 z.2 ∧ z.2 ∈ st.map := fun {i v z H3} e3 hv hz => by
    obtain ⟨b, hb, rfl⟩ := at_refs hv
    rw [List.getElem?_zip_eq_some] at hz
    rw [hb] at hz
    obtain ⟨hz1, hz2⟩ := hz
    obtain rfl := Option.some.inj hz1
    obtain ⟨b', hb', hso⟩ := hm.get hz2
    rw [hb] at hb'
    obtain rfl := Option.some.inj hb'
    exact ⟨rfl, hso.mono e3, List.mem_of_getElem? hz2⟩
  refine rd_at (rd_asg (v := .int (st.wetNow : Nat)) ?_ ?_)
  · refine ev_eq (ev_lenN (el_mapL (xs := y.sqs.zip st.map) (fun z => decide ((0 : Int) < (Kg85.depth st.water z.2 : Int))) (fun z => V.ref z.1) (l := refsV y.sqs) (ev_chart T hm (ev_var rfl)) hsq (by rw [len_refs, zl]) (by rw [zl, hm.len2]; omega) (fun _ => rfl) (fun i v z H3 e3 hv hx => ?_) (fun i v z H3 e3 hv hx _ => ?_))) ?_
    · obtain ⟨rfl, h1, h2⟩ := one e3 hv hx
      have hm3 := hm.mono e3
      exact et_test (ev_gt (ev_meth (ev_var rfl) (hm_Land_depth hm3.at_.ins) (ea_cons (ev_var rfl) ea_nil) (sv_depth hm3 h1 h2)) ev_c)
    · obtain ⟨rfl, h1, h2⟩ := one e3 hv hx
      exact ev_var rfl
    · rw [List.length_map, zip_filter (fun x => decide ((0 : Int) < (Kg85.depth st.water x : Int))) y.sqs st.map hm.len2]
      unfold Kg85.State.wetNow
      congr 3
      refine List.filter_congr fun x _ => decide_eq_decide.mpr ?_
      omega
  · refine rd_retLE (el_lst (vs := [.int (st.wetNow : Nat), .int (st.wetEver : Nat), .int (st.drowned.length : Nat)]) (ea_cons (ev_var rfl) (ea_cons ?_ (ea_cons (ev_meth (ev_var rfl) (hm_Land_drowned hi) ea_nil (sv_drowned hm)) ea_nil))) (by simp)) rfl fin
    refine ev_eq (ev_lenN (el_mapL (xs := y.sqs.zip st.map) (fun z => decide ((0 : Int) < (z.2.peak : Int))) (fun z => V.ref z.1) (l := refsV y.sqs) (ev_chart T hm (ev_var rfl)) hsq (by rw [len_refs, zl]) (by rw [zl, hm.len2]; omega) (fun _ => rfl) (fun i v z H3 e3 hv hx => ?_) (fun i v z H3 e3 hv hx _ => ?_))) ?_
    · obtain ⟨rfl, h1, h2⟩ := one e3 hv hx
      exact et_test (ev_gt (ev_fld (ev_var rfl) (has_Square_peak T h1)) ev_c)
    · obtain ⟨rfl, h1, h2⟩ := one e3 hv hx
      exact ev_var rfl
    · rw [List.length_map, zip_filter (fun x => decide ((0 : Int) < (x.peak : Int))) y.sqs st.map hm.len2]
      unfold Kg85.State.wetEver
      congr 3
      refine List.filter_congr fun x _ => decide_eq_decide.mpr ?_
      omega
theorem pure_Land_harm (T : Txt K mg A) (vs : List V) (H : Hp) (Q : VK) (E : XK) (h : sp_Land_harm A K vs H Q E) : t_Land_harm A K (DE Q) (start N_Land_harm vs) H := by
  obtain ⟨v, ⟨y, st, k, x, rfl, hm, hx, rfl⟩, fin⟩ := h
  obtain ⟨b, hb, hso⟩ := hm.get hx
  refine rd_at (rd_retE (ev_min2 ev_c (ev_fld (ev_soil T hm (ev_var rfl) (ev_var rfl) hb) (has_Square_peak T hso))) ?_ fin)
  congr 1
  omega
end

theorem houses_ne : ∀ (f : Nat) (l : List (Nat × Nat)), ∀ h ∈ Kg72.houses f l, h ≠ []
  | 0, _, h, hh => by cases hh
  | _ + 1, [], h, hh => by cases hh
  | f + 1, p :: l, h, hh => by
    have hh : h ∈ Kg72.grow (p :: l) (l.length + 1) [p] :: Kg72.houses f (l.filter fun q => !(Kg72.grow (p :: l) (l.length + 1) [p]).contains q) := hh
    rcases List.mem_cons.mp hh with rfl | hh
    · intro z
      have := grow_has (p :: l) (l.length + 1) [p] p (List.mem_singleton.mpr rfl)
      rw [z] at this
      cases this
    · exact houses_ne f _ h hh
theorem foldl_max (l : List Nat) : ∀ m : Nat, m ≤ l.foldl max m ∧ (∀ y ∈ l, y ≤ l.foldl max m) ∧ (l.foldl max m = m ∨ l.foldl max m ∈ l) := by
  induction l with
  | nil => intro m; exact ⟨Nat.le_refl _, (fun y h => by cases h), .inl rfl⟩
  | cons a r ih =>
    intro m
    obtain ⟨h1, h2, h3⟩ := ih (max m a)
    rw [List.foldl_cons]
    refine ⟨by omega, fun y hy => ?_, ?_⟩
    · rcases List.mem_cons.mp hy with rfl | hy
      · omega
      · exact h2 y hy
    · rcases h3 with h3 | h3
      · rw [h3]
        rcases Nat.le_total a m with c | c
        · exact .inl (Nat.max_eq_left c)
        · rw [Nat.max_eq_right c]; exact .inr List.mem_cons_self
      · exact .inr (List.mem_cons_of_mem _ h3)
theorem max_is {l : List Nat} {m : Nat} (hm : m ∈ l) (hu : ∀ y ∈ l, y ≤ m) : l.foldl max 0 = m := by
  obtain ⟨_, h2, h3⟩ := foldl_max l 0
  have a := h2 m hm
  rcases h3 with h3 | h3
  · omega
  · have b := hu _ h3
    omega
section
variable {A : Adr} {K : PySem.W.Frag} {mg : Str → Option Value} {σ : L2.St} {H H1 H' : Hp} {ta tb tv te : TE} {D : Ends} {t u : TS} {y y' : LL} {st st' : Kg85.State} {a : Addr} {x : Kg85.Soil} {k : Nat}
theorem on_map {f : Unit → Kg85.State × Kg85.Ans} (h : st.map ≠ []) : Kg85.onMap st f = f () := by
  unfold Kg85.onMap Kg85.State.mapped
  rw [if_pos]
  cases q : st.map with
  | nil => exact absurd q h
  | cons a r => rfl
theorem on_map_no {f : Unit → Kg85.State × Kg85.Ans} (h : st.map = []) : Kg85.onMap st f = (st, Kg85.num (-22)) := by
  unfold Kg85.onMap Kg85.State.mapped
  rw [h]
  rfl
theorem et_chart (T : Txt K mg A) (h : LandAt A H y st) (ha : Ev ta σ H (.ref y.L)) : EvT (tTest (tOp rIsN (tFld K ta "chart") (tC .non))) σ H (decide (st.map = [])) := by
  refine et_eq (et_test (ev_isN (ev_fld ha (has_Land_chart T h.ins)))) ?_
  by_cases c : st.map = []
  · rw [chV_no c, decide_eq_true c]; rfl
  · rw [chV_mp c, decide_eq_false c]; rfl
theorem et_chartN (T : Txt K mg A) (h : LandAt A H y st) (ha : Ev ta σ H (.ref y.L)) : EvT (tTest (tOp rNotN (tFld K ta "chart") (tC .non))) σ H (!decide (st.map = [])) := by
  refine et_eq (et_test (ev_notN (ev_fld ha (has_Land_chart T h.ins)))) ?_
  by_cases c : st.map = []
  · rw [chV_no c, decide_eq_true c]; rfl
  · rw [chV_mp c, decide_eq_false c]; rfl
theorem rd_chart (T : Txt K mg A) (h : LandAt A H y st) (h0 : σ[0]? = some (some (.ref y.L))) (h1 : st.map = [] → ∀ p H1, H p = none → Ex H H1 → H1 p = some (.lst [.int (-22)]) → D.rt (.ref p) H1) (h2 : st.map ≠ [] → Rd t D σ H) :
    Rd (tSeq (tIfS (tTest (tOp rIsN (tFld K (tVar 0) "chart") (tC .non))) (tRet (tLst (tCons (tUn rNegI (tC (.int 22))) tNil))) tNext) t) D σ H := by
  refine rd_when (et_chart T h (ev_var h0)) (fun c => rd_ref (h1 (of_decide_eq_true c))) (fun c => h2 (of_decide_eq_false c))
theorem l_square (st : Kg85.State) (x z : Int) : Kg85.spec st (.square x z) = Kg85.onMap st fun _ => if Kg85.isSquare st x z = false then (st, Kg85.num (-20)) else (st, ⟨((st.soil (x.toNat, z.toNat)).section_ : Nat), Kg85.ints [(st.soil (x.toNat, z.toNat)).height, (st.water.section_ (st.soil (x.toNat, z.toNat)).section_).level, Kg85.depth st.water (st.soil (x.toNat, z.toNat)), (st.soil (x.toNat, z.toNat)).peak, (st.soil (x.toNat, z.toNat)).wet, st.plot.built (x.toNat, z.toNat)]⟩) := rfl
theorem l_wet (st : Kg85.State) : Kg85.spec st .wet = Kg85.onMap st fun _ => (st, ⟨(st.wetNow : Nat), Kg85.ints [st.wetEver, st.drowned.length, st.raised]⟩) := rfl
theorem l_harm (st : Kg85.State) : Kg85.spec st .harm = Kg85.onMap st fun _ => (st, ⟨((st.plot.squares.map st.harm).sum : Nat), (st.plot.houses.length : Int) :: st.plot.houses.flatMap fun h => Kg85.ints [h.length, (h.map fun p => (st.soil p).peak).foldl max 0, (h.map st.harm).sum]⟩) := rfl
theorem l_safe (st : Kg85.State) : Kg85.spec st .safe = Kg85.onMap st fun _ => (st, ⟨(st.safe : Nat), [(st.plot.best : Int)]⟩) := rfl
theorem l_check (st : Kg85.State) : Kg85.spec st .check = Kg85.onMap st fun _ => (st, ⟨(st.plot.breaks ++ (if st.drowned = [] then [] else [(10, st.drowned.length)])).length, Kg85.ints ((st.plot.breaks ++ (if st.drowned = [] then [] else [(10, st.drowned.length)])).flatMap fun (x : Nat × Nat) => [x.1, x.2])⟩) := rfl
theorem isSq_eq (h : st.plot.ground.squares ≠ []) (x z : Int) : Kg85.isSquare st x z = thB st.plot x z := th_within h x z
theorem pure_Land_tell_square (T : Txt K mg A) (vs : List V) (H : Hp) (Q : VK) (E : XK) (h : sp_Land_tell_square A K vs H Q E) : t_Land_tell_square A K (DE Q) (start N_Land_tell_square vs) H := by
  obtain ⟨xs, ⟨y, st, x, z, rfl, hl, ok, rfl⟩, fin⟩ := h
  refine rd_at (rd_chart T hl rfl (fun c => ?_) fun c => ?_)
  · have e0 : Kg85.spec st (.square x z) = (st, Kg85.num (-22)) := by rw [l_square]; exact on_map_no c
    rw [e0] at fin
    exact fin
  · have hm : MpAt A H y st := ⟨hl, ok, c⟩
    have hg := hm.gr
    have go := ok.plo.grOk hg.gr
    have hi := hl.ins
    have hip := hl.plo.ins
    have ee : Kg85.spec st (.square x z) = if thB st.plot x z = false then (st, Kg85.num (-20)) else (st, ⟨((st.soil (x.toNat, z.toNat)).section_ : Nat), Kg85.ints [(st.soil (x.toNat, z.toNat)).height, (st.water.section_ (st.soil (x.toNat, z.toNat)).section_).level, Kg85.depth st.water (st.soil (x.toNat, z.toNat)), (st.soil (x.toNat, z.toNat)).peak, (st.soil (x.toNat, z.toNat)).wet, st.plot.built (x.toNat, z.toNat)]⟩) := by
      have e0 : Kg85.spec st (.square x z) = Kg85.onMap st fun _ => if Kg85.isSquare st x z = false then (st, Kg85.num (-20)) else (st, ⟨((st.soil (x.toNat, z.toNat)).section_ : Nat), Kg85.ints [(st.soil (x.toNat, z.toNat)).height, (st.water.section_ (st.soil (x.toNat, z.toNat)).section_).level, Kg85.depth st.water (st.soil (x.toNat, z.toNat)), (st.soil (x.toNat, z.toNat)).peak, (st.soil (x.toNat, z.toNat)).wet, st.plot.built (x.toNat, z.toNat)]⟩) := rfl
      rw [e0, on_map c, isSq_eq hg.gr]
    rw [ee] at fin
    refine rd_when (b := !thB st.plot x z) (et_not (et_B (ev_meth (by fail "ev") (hm_Plot_is_there hip) (ea_cons (ev_var rfl) (ea_cons (ev_var rfl) ea_nil)) (sv_is_there hl.plo x z)))) ?_ ?_
    · intro c
      rw [if_pos (bnot_t c)] at fin
      exact rd_ref fin
    · intro c
      have c := bnot_f c
      rw [if_neg (by rw [c]; decide)] at fin
      obtain ⟨k, hk, ek, ep, _⟩ := th_place hg.gr go c
      obtain ⟨q, hq⟩ := map_at hm hk
      obtain ⟨b, hb, hso⟩ := hm.get hq
      have hqm := List.mem_of_getElem? hq
      rw [← ep, soil_pt hm hq] at fin
      obtain ⟨a1, a2, a3, a4, a5⟩ := row_lt hg.ok hk
      have ea := acr_gr hg.gr
      refine rd_asg (v := .int (k : Nat)) (ev_eq (ev_meth (by fail "ev") (hm_Plot_place_of hip) (ea_cons (ev_var rfl) (ea_cons (ev_var rfl) ea_nil)) (sv_place_of hl.plo (by omega) x z)) (by rw [ek])) ?_
      refine rd_asg (v := .ref b) (ev_soil T hm (ev_var rfl) (ev_var rfl) hb) ?_
      refine rd_asgL (xs := natsV [q.section_, q.height, (st.water.section_ q.section_).level, Kg85.depth st.water q, q.peak, q.wet]) ?_ fun pa H1 npa e1 hpa => ?_
      · refine el_lst (ea_cons (by fail "ev") (ea_cons (by fail "ev") (ea_cons (ev_meth (ev_var rfl) (hm_Land_level_of hi) (ea_cons (ev_var rfl) ea_nil) (sv_level_of hm hso hqm)) (ea_cons (ev_meth (ev_var rfl) (hm_Land_depth hi) (ea_cons (ev_var rfl) ea_nil) (sv_depth hm hso hqm)) (ea_cons (by fail "ev") (ea_cons (by fail "ev") ea_nil)))))) (Nat.le_of_ble_eq_true rfl)
      have hg1 := hg.mono e1
      have hi1 := hi.mono e1
      refine rd_retLE (el_catR (ev_var rfl) hpa (ys := [.int (st.plot.built (pt st.plot.ground k) : Nat)]) (el_lst (ea_cons (ev_meth (by fail "ev") (hm_Plot_floors_on hg1.at_.ins) (ea_cons (ev_var rfl) ea_nil) (sv_floors_on hg1 hk)) ea_nil) (by simp)) (by rw [len_nats]; exact Nat.le_of_ble_eq_true rfl)) rfl fun p H2 np e2 h2 => fin p H2 (fresh_back e1 np) (e1.trans e2) h2
theorem pure_Land_tell_wet (T : Txt K mg A) (vs : List V) (H : Hp) (Q : VK) (E : XK) (h : sp_Land_tell_wet A K vs H Q E) : t_Land_tell_wet A K (DE Q) (start N_Land_tell_wet vs) H := by
  obtain ⟨xs, ⟨y, st, rfl, hl, ok, rfl⟩, fin⟩ := h
  have hi := hl.ins
  refine rd_at (rd_retI (et_chart T hl (ev_var rfl)) (fun c => ?_) (fun c => ?_))
  · have e0 : Kg85.spec st .wet = (st, Kg85.num (-22)) := by rw [l_wet]; exact on_map_no (of_decide_eq_true c)
    rw [e0] at fin
    exact rd_ref fin
  · have hm : MpAt A H y st := ⟨hl, ok, of_decide_eq_false c⟩
    have e0 : Kg85.spec st .wet = (st, ⟨(st.wetNow : Nat), Kg85.ints [st.wetEver, st.drowned.length, st.raised]⟩) := by rw [l_wet, on_map hm.mp]
    rw [e0] at fin
    exact rd_retLE (el_cat (ys := [.int (st.raised : Nat)]) (el_meth (ev_var rfl) (hm_Land_sums hi) ea_nil (sl_sums hm)) (el_lst (ea_cons (by fail "ev") ea_nil) (by simp)) (by unfold Kg85.sumsOf Kg85.ints; rw [len_ints]; exact Nat.le_of_ble_eq_true rfl)) rfl fin
theorem safe_eq (h : MpAt A H y st) : st.safe = mostOf st.plot ((List.range st.map.length).filter fun k => decide (((st.map.getD k ⟨0, 0, 0, 0⟩).peak : Int) = 0)) := by
  have go := h.ok.plo.grOk h.gr.gr
  unfold Kg85.State.safe mostOf
  congr 1
  congr 1
  congr 1
  congr 1
  rw [plot_eq go, List.filter_map, List.map_map, List.filter_filter, List.filter_filter, h.len]
  congr 1
  refine List.filter_congr fun k hk => ?_
  have hk := List.mem_range.mp hk
  obtain ⟨x, hx⟩ := map_at h hk
  show ((st.plot.open_ (pt st.plot.ground k) && !st.everWet (pt st.plot.ground k)) && (st.plot.ground.squares.getD k 0 == 1)) = (st.plot.open_ (pt st.plot.ground k) && decide (((st.map.getD k ⟨0, 0, 0, 0⟩).peak : Int) = 0))
  unfold Kg85.State.everWet
  rw [soil_pt h hx, List.getD_eq_getElem?_getD (l := st.map), hx, Option.getD_some]
  have e1 : (!decide (0 < x.peak)) = decide ((x.peak : Int) = 0) := by
    by_cases c : x.peak = 0
    · rw [c]; rfl
    · rw [decide_eq_true (show 0 < x.peak by omega), decide_eq_false (show ¬ (x.peak : Int) = 0 by omega)]; rfl
  rw [e1]
  unfold Kg72.State.open_
  rw [at_pt go hk]
  cases (st.plot.ground.squares.getD k 0 == 1) <;> simp
theorem pure_Land_tell_safe (T : Txt K mg A) (vs : List V) (H : Hp) (Q : VK) (E : XK) (h : sp_Land_tell_safe A K vs H Q E) : t_Land_tell_safe A K (DE Q) (start N_Land_tell_safe vs) H := by
  obtain ⟨xs, ⟨y, st, rfl, hl, ok, rfl⟩, fin⟩ := h
  refine rd_at (rd_chart T hl rfl (fun c => ?_) fun c => ?_)
  · have e0 : Kg85.spec st .safe = (st, Kg85.num (-22)) := by rw [l_safe]; exact on_map_no c
    rw [e0] at fin
    exact fin
  · have hm : MpAt A H y st := ⟨hl, ok, c⟩
    have nN := n_le ok.plo
    have ml := hm.len
    have e0 : Kg85.spec st .safe = (st, ⟨(st.safe : Nat), [(st.plot.best : Int)]⟩) := by rw [l_safe, on_map c]
    rw [e0, safe_eq hm] at fin
    refine rd_asgL (xs := natsV ((List.range st.map.length).filter fun k => decide (((st.map.getD k ⟨0, 0, 0, 0⟩).peak : Int) = 0))) ?_ fun p H1 np e1 hp => ?_
    · refine el_eq (el_mapE (xs := st.map) (fun _ x => decide ((x.peak : Int) = 0)) (fun k _ => V.int (k : Nat)) (ea_list (ev_chart T hm (ev_var rfl)) (sq_of hm.ch)) (by rw [len_refs, hm.len2]) (by omega) (fun _ _ => rfl) (fun i v x H3 e3 hv hx => ?_) (fun i v x H3 e3 hv hx _ => ev_var rfl)) ?_
      · obtain ⟨b, hb, rfl⟩ := at_refs hv
        obtain ⟨b', hb', hso⟩ := hm.get hx
        rw [hb] at hb'
        obtain rfl := Option.some.inj hb'
        exact et_test (ev_eqI (ev_fld (ev_var rfl) (has_Square_peak T (hso.mono e3))) ev_c)
      · have key : ∀ (l : List Kg85.Soil) (n : Nat), ((l.zipIdx n).filter fun z => decide ((z.1.peak : Int) = 0)).map (fun z => V.int (z.2 : Nat)) = natsV ((List.range' n l.length).filter fun k => decide (((l.getD (k - n) ⟨0, 0, 0, 0⟩).peak : Int) = 0)) := by
          intro l
          induction l with
          | nil => intro n; rfl
          | cons a r ih =>
            intro n
            have ih := ih (n + 1)
            have e3 : ((List.range' (n + 1) r.length).filter fun k => decide ((((a :: r).getD (k - n) ⟨0, 0, 0, 0⟩).peak : Int) = 0)) = (List.range' (n + 1) r.length).filter fun k => decide (((r.getD (k - (n + 1)) ⟨0, 0, 0, 0⟩).peak : Int) = 0) := by
              refine List.filter_congr fun k hk => ?_
              have hk := List.mem_range'_1.mp hk
              rw [show k - n = (k - (n + 1)) + 1 by omega, List.getD_cons_succ]
            rw [List.zipIdx_cons, List.length_cons, List.range'_succ, List.filter_cons, List.filter_cons, e3, Nat.sub_self, List.getD_cons_zero]
            dsimp only
            by_cases c : (a.peak : Int) = 0
            · rw [decide_eq_true c, if_pos rfl, if_pos rfl, List.map_cons, ih]
              rfl
            · rw [decide_eq_false c, if_neg (by decide), if_neg (by decide), ih]
        have := key st.map 0
        rw [← List.range_eq_range'] at this
        simp only [Nat.sub_zero] at this
        exact this
    · have hm1 := hm.mono e1
      have hi1 := hm1.at_.ins
      have hip := hm1.at_.plo.ins
      have hsp : SqL K H1 p (natsV ((List.range st.map.length).filter fun k => decide (((st.map.getD k ⟨0, 0, 0, 0⟩).peak : Int) = 0))) := sq_of hp
      refine rd_retL (el_lst (ea_cons (ev_meth (by fail "ev") (hm_Plot_most_of hip) (ea_cons (ev_var rfl) ea_nil) (sv_most_of hm1.gr hsp ?_ ?_)) (ea_cons (ev_meth (by fail "ev") (hm_Plot_best hip) ea_nil (sv_best hm1.gr)) ea_nil)) (by simp)) fun p' H2 np' e2 h2 => fin p' H2 (fresh_back e1 np') (e1.trans e2) h2
      · have := List.length_filter_le (fun k => decide (((st.map.getD k ⟨0, 0, 0, 0⟩).peak : Int) = 0)) (List.range st.map.length)
        rw [List.length_range] at this
        omega
      · intro k hk
        rw [← ml]
        exact List.mem_range.mp (List.mem_filter.mp hk).1
end

def peakK (st : Kg85.State) (k : Nat) : Nat := (st.map.getD k ⟨0, 0, 0, 0⟩).peak
def harmK (st : Kg85.State) (k : Nat) : Nat := min 2000 (peakK st k)
def cntK (st : Kg85.State) (h : List Nat) : List Nat := [h.length, (h.map (peakK st)).foldl max 0, (h.map (harmK st)).sum]
section
variable {A : Adr} {K : PySem.W.Frag} {mg : Str → Option Value} {σ : L2.St} {H H1 H' : Hp} {ta tb tv te tl : TE} {D : Ends} {t u : TS} {y y' : LL} {st st' : Kg85.State} {a : Addr} {x : Kg85.Soil} {k : Nat}
theorem peakK_at {x : Kg85.Soil} (hx : st.map[k]? = some x) : peakK st k = x.peak := by
  unfold peakK
  rw [List.getD_eq_getElem?_getD, hx]
  rfl
theorem foldl_max_perm {l m : List Nat} (h : l.Perm m) : l.foldl max 0 = m.foldl max 0 := by
  cases l with
  | nil => rw [List.nil_perm.mp h]
  | cons a r =>
    obtain ⟨_, h2, h3⟩ := foldl_max (a :: r) 0
    have hm : (a :: r).foldl max 0 ∈ a :: r := by
      rcases h3 with h3 | h3
      · have := h2 a List.mem_cons_self
        rw [h3] at this ⊢
        have : a = 0 := by omega
        rw [this]
        exact List.mem_cons_self
      · exact h3
    exact (max_is (h.mem_iff.mp hm) fun y hy => h2 y (h.mem_iff.mpr hy)).symm
theorem house_cnt (h : MpAt A H y st) {l : List Nat} {q : List (Nat × Nat)} (hp : (l.map (pt st.plot.ground)).Perm q) (hN : ∀ k ∈ l, k < st.plot.ground.squares.length) :
    [q.length, (q.map fun p => (st.soil p).peak).foldl max 0, (q.map st.harm).sum] = cntK st l := by
  unfold cntK
  have e1 : q.length = l.length := by rw [← hp.length_eq, List.length_map]
  have e2 : ((l.map (pt st.plot.ground)).map fun p => (st.soil p).peak) = l.map (peakK st) := by
    rw [List.map_map]
    refine List.map_congr_left fun k hk => ?_
    obtain ⟨x, hx⟩ := map_at h (hN k hk)
    show (st.soil (pt st.plot.ground k)).peak = _
    rw [soil_pt h hx, peakK_at hx]
  have e3 : ((l.map (pt st.plot.ground)).map st.harm) = l.map (harmK st) := by
    rw [List.map_map]
    refine List.map_congr_left fun k hk => ?_
    obtain ⟨x, hx⟩ := map_at h (hN k hk)
    show min 2000 (st.soil (pt st.plot.ground k)).peak = _
    unfold harmK
    rw [soil_pt h hx, peakK_at hx]
  rw [e1, ← foldl_max_perm (hp.map fun p => (st.soil p).peak), e2, ← (hp.map st.harm).sum_nat, e3]
theorem houses_cnt (h : MpAt A H y st) {hs : List (List Nat)} (hh : HousesAre st.plot hs) : (st.plot.houses.flatMap fun h => [h.length, (h.map fun p => (st.soil p).peak).foldl max 0, (h.map st.harm).sum]) = hs.flatMap (cntK st) := by
  rw [List.flatMap_def, List.flatMap_def]
  congr 1
  apply List.ext_getElem
  · rw [List.length_map, List.length_map, hh.1]
  · intro i h1 h2
    rw [List.length_map] at h1 h2
    rw [List.getElem_map, List.getElem_map]
    obtain ⟨q1, q2⟩ := hh.2 i _ _ (List.getElem?_eq_getElem h2) (List.getElem?_eq_getElem h1)
    exact house_cnt h q1 q2
theorem built_sum (h : MpAt A H y st) : (st.plot.squares.map st.harm).sum = ((builtIx st.plot).map (harmK st)).sum := by
  rw [squares_eq (h.ok.plo.grOk h.gr.gr), List.map_map]
  congr 1
  refine List.map_congr_left fun k hk => ?_
  obtain ⟨x, hx⟩ := map_at h (built_in hk)
  show min 2000 (st.soil (pt st.plot.ground k)).peak = _
  unfold harmK
  rw [soil_pt h hx, peakK_at hx]
theorem ev_harm (T : Txt K mg A) (h : MpAt A H y st) (ha : Ev ta σ H (.ref y.L)) (hb : Ev tb σ H (.int (k : Nat))) (hk : k < st.plot.ground.squares.length) : Ev (tMeth A.c_Land "harm" (sp_Land_harm A K) [] E0 ta (tCons tb tNil)) σ H (.int (harmK st k : Nat)) := by
  obtain ⟨x, hx⟩ := map_at h hk
  unfold harmK
  rw [peakK_at hx]
  exact ev_meth ha (hm_Land_harm h.at_.ins) (ea_cons hb ea_nil) (sv_harm h hx)
theorem ev_peak (T : Txt K mg A) (h : MpAt A H y st) (ha : Ev ta σ H (.ref y.L)) (hb : Ev tb σ H (.int (k : Nat))) (hk : k < st.plot.ground.squares.length) : Ev (tFld K (tOp (rIxL K) (tFld K ta "chart") tb) "peak") σ H (.int (peakK st k : Nat)) := by
  obtain ⟨x, hx⟩ := map_at h hk
  obtain ⟨b, hb', hso⟩ := h.get hx
  rw [peakK_at hx]
  exact ev_fld (ev_soil T h ha hb hb') (has_Square_peak T hso)
theorem natsV_map {α : Type} (f : α → Nat) (l : List α) : l.map (fun k => V.int (f k : Nat)) = natsV (l.map f) := by
  unfold natsV
  rw [List.map_map]
  rfl
theorem house_ne {st : Kg72.State} {hs : List (List Nat)} (hh : HousesAre st hs) {i : Nat} {h : List Nat} (hx : hs[i]? = some h) : h ≠ [] := by
  have hi := (List.getElem?_eq_some_iff.mp hx).1
  have hi' : i < st.houses.length := by rw [← hh.1]; exact hi
  obtain ⟨q1, _⟩ := hh.2 i h _ hx (List.getElem?_eq_getElem hi')
  intro z
  rw [z] at q1
  exact houses_ne _ _ _ (List.getElem_mem hi') (List.nil_perm.mp q1)
theorem house_in {st : Kg72.State} {hs : List (List Nat)} (hh : HousesAre st hs) {i : Nat} {h : List Nat} (hx : hs[i]? = some h) : ∀ k ∈ h, k < st.ground.squares.length := by
  have hi := (List.getElem?_eq_some_iff.mp hx).1
  have hi' : i < st.houses.length := by rw [← hh.1]; exact hi
  exact (hh.2 i h _ hx (List.getElem?_eq_getElem hi')).2
theorem houses_nd : ∀ (f : Nat) (l : List (Nat × Nat)), l.Nodup → ∀ h ∈ Kg72.houses f l, h.Nodup
  | 0, _, _, h, hh => by cases hh
  | _ + 1, [], _, h, hh => by cases hh
  | f + 1, p :: l, nd, h, hh => by
    have hh : h ∈ Kg72.grow (p :: l) (l.length + 1) [p] :: Kg72.houses f (l.filter fun q => !(Kg72.grow (p :: l) (l.length + 1) [p]).contains q) := hh
    rcases List.mem_cons.mp hh with rfl | hh
    · exact (grow_comp (p := p) nd (l.length + 1) [p] (by simp) (by simp) (fun q hq => by rw [List.mem_singleton.mp hq]; exact List.mem_cons_self) (fun C c1 _ q hq => by rw [List.mem_singleton.mp hq]; exact c1) (by simp)).nd
    · exact houses_nd f _ ((List.nodup_cons.mp nd).2.sublist List.filter_sublist) h hh
theorem house_short {st : Kg72.State} {hs : List (List Nat)} (ok : PlotOk st) (go : GrOk st.ground) (hh : HousesAre st hs) {i : Nat} {h : List Nat} (hx : hs[i]? = some h) : h.length ≤ 144 := by
  have hi := (List.getElem?_eq_some_iff.mp hx).1
  have hi' : i < st.houses.length := by rw [← hh.1]; exact hi
  obtain ⟨q1, _⟩ := hh.2 i h _ hx (List.getElem?_eq_getElem hi')
  have e := q1.length_eq
  rw [List.length_map] at e
  have sn : st.squares.Nodup := by
    rw [squares_eq go, List.Nodup, List.pairwise_map]
    exact built_nd.imp fun n z => n (pt_inj _ z)
  have hn := houses_nd st.squares.length st.squares sn _ (List.getElem_mem hi')
  have hl := hn.length_le_of_subset (l₂ := st.squares) (houses_in st.squares.length st.squares _ (List.getElem_mem hi'))
  rw [q_len go] at hl
  have hl : (st.houses[i]).length ≤ (builtIx st).length := hl
  have := built_len ok
  omega
theorem pure_Land_tell_harm (T : Txt K mg A) (vs : List V) (H : Hp) (Q : VK) (E : XK) (h : sp_Land_tell_harm A K vs H Q E) : t_Land_tell_harm A K (DE Q) (start N_Land_tell_harm vs) H := by
  obtain ⟨xs, ⟨y, st, rfl, hla, ok, rfl⟩, fin⟩ := h
  refine rd_at (rd_chart T hla rfl (fun c => ?_) fun c => ?_)
  · have e0 : Kg85.spec st .harm = (st, Kg85.num (-22)) := by rw [l_harm]; exact on_map_no c
    rw [e0] at fin
    exact fin
  have hm : MpAt A H y st := ⟨hla, ok, c⟩
  have hi := hla.ins
  have hip := hla.plo.ins
  have hgr := hm.gr
  have go := ok.plo.grOk hgr.gr
  have bl := built_len ok.plo
  refine rd_asgM0 (a := y.plo.q) (by fail "ev") (hm_Plot_houses hip) fun H1 e1 => ⟨y.plo, st.plot, rfl, hgr.mono e1, fun p as hs H2 np e2 hp hl hel hh => ?_⟩
  have e12 := e1.trans e2
  have hm2 := hm.mono e12
  have hi2 := hm2.at_.ins
  have hip2 := hm2.at_.plo.ins
  have hsp : SqL K H2 p (refsV as) := sq_of hp
  have many := houses_many ok.plo go
  have hl2 := hh.1
  have e0 : (Kg85.spec st .harm).2 = ⟨((((builtIx st.plot).map (harmK st)).sum : Nat) : Int), ((st.plot.houses.length : Nat) : Int) :: Kg85.ints (hs.flatMap (cntK st))⟩ := by
    rw [l_harm, on_map c]
    dsimp only
    rw [built_sum hm, ← houses_cnt hm hh]
    congr 2
    unfold Kg85.ints
    rw [List.map_flatMap]
  rw [e0] at fin
  let W : Nat → List Nat := fun i => ((builtIx st.plot).map (harmK st)).sum :: st.plot.houses.length :: (hs.take i).flatMap (cntK st)
  have wl : ∀ i, (W i).length ≤ 500 := fun i => by
    show ((hs.take i).flatMap (cntK st)).length + 1 + 1 ≤ 500
    rw [List.length_flatMap]
    have : ((hs.take i).map fun h => (cntK st h).length).sum = 3 * (hs.take i).length := by
      generalize hs.take i = l
      induction l with
      | nil => rfl
      | cons a r ih => rw [List.map_cons, List.sum_cons, ih, List.length_cons]; show 3 + _ = _; omega
    rw [this, List.length_take]
    omega
  refine rd_at (rd_asgL (xs := natsV (W 0)) ?_ fun pa H3 npa e3 hpa => ?_)
  · refine el_eq (el_lst (ea_cons (ev_eq (ev_sumN (ns := ((builtIx st.plot).map (harmK st)).map fun (n : Nat) => (n : Int)) ?_) (by rw [natsV_sum])) (ea_cons (ev_eq (ev_len (ev_var rfl) hsp) (by rw [len_refs, hl, hl2])) ea_nil)) (by simp)) rfl
    rw [cast_natsV, ← natsV_map]
    refine el_eq (el_mapN (xs := builtIx st.plot) (fun _ => true) (fun k => V.int (harmK st k : Nat)) (l := natsV (builtIx st.plot)) (el_meth (by fail "ev") (hm_Plot_built hip2) ea_nil (sl_built hm2.gr)) (len_nats _) (by omega) (fun _ => rfl) (fun i v k H3 e3 hv hx => et_yes) (fun i v k H3 e3 hv hx _ => ?_)) (by rw [filter_tt])
    obtain ⟨k', hk', rfl⟩ := at_nats hv
    rw [hx] at hk'
    obtain rfl := Option.some.inj hk'
    exact ev_harm T (hm2.mono e3) (ev_var rfl) (ev_var rfl) (built_in (List.mem_of_getElem? hx))
  have npaH : H pa = none := fresh_back e12 npa
  refine rd_seq fun H4 e4 => s_forL (ev_var (i := 1) rfl) (ex_l (e3.trans e4) hsp) (fun i σ H' => ∃ w3 w4 : Option V, σ = [some (.ref y.L), some (.ref p), some (.ref pa), w3, w4, none] ∧ Ex H2 H' ∧ H' pa = some (.lst (natsV (W i))))
    (fun H5 e5 => ⟨none, none, rfl, (e3.trans e4).trans e5, (e4.trans e5) _ _ hpa⟩) (fun i σ H' _ ⟨_, _, _, e', _⟩ => ex_l e' hsp) ?_ ?_
  · rintro i v σ H' hv ⟨w3, w4, rfl, ex, hl'⟩
    obtain ⟨a, ha, rfl⟩ := at_refs hv
    have hi' : i < hs.length := by rw [← hl]; exact (List.getElem?_eq_some_iff.mp ha).1
    have hx : hs[i]? = some hs[i] := List.getElem?_eq_getElem hi'
    have hta := ex _ _ (hel i a _ ha hx)
    have hN := house_in hh hx
    have hne := house_ne hh hx
    have hsh := house_short ok.plo go hh hx
    have hm5 := hm2.mono ex
    generalize hs[i] = h at *
    have hsa : SqL K H' a (natsV h) := sq_of hta
    refine rd_at (rd_asg (v := .int ((h.map (peakK st)).foldl max 0 : Nat)) ?_ ?_)
    · refine ev_maxN (ns := (h.map (peakK st)).map fun (n : Nat) => (n : Int)) ?_ ?_ ?_
      · rw [cast_natsV, ← natsV_map]
        refine el_eq (el_mapL (xs := h) (fun _ => true) (fun k => V.int (peakK st k : Nat)) (ev_var rfl) hsa (len_nats _) (by omega) (fun _ => rfl) (fun i v k H3 e3 hv hx => et_yes) (fun i v k H3 e3 hv hx _ => ?_)) (by rw [filter_tt])
        obtain ⟨k', hk', rfl⟩ := at_nats hv
        rw [hx] at hk'
        obtain rfl := Option.some.inj hk'
        exact ev_peak T (hm5.mono e3) (ev_var rfl) (ev_var rfl) (hN _ (List.mem_of_getElem? hx))
      · intro z
        rw [List.map_eq_nil_iff, List.map_eq_nil_iff] at z
        exact hne z
      · intro m hmm hu
        obtain ⟨n, hn, rfl⟩ := List.mem_map.mp hmm
        rw [max_is hn fun y hy => by have := hu _ (List.mem_map_of_mem hy); omega]
    refine rd_ext (ys := natsV (cntK st h)) (ev_var rfl) hl' ?_ (el_lst (ea_cons (ev_eq (ev_len (ev_var rfl) hsa) (by rw [len_nats])) (ea_cons (ev_var rfl) (ea_cons (ev_eq (ev_sumN (ns := (h.map (harmK st)).map fun (n : Nat) => (n : Int)) ?_) (by rw [natsV_sum])) ea_nil))) (Nat.le_of_ble_eq_true rfl)) fun H5 e5 hl5 => ?_
    · rw [len_nats, len_nats]
      exact sz_of (Nat.le_trans (Nat.add_le_add_right (wl i) 3) (by decide))
    · rw [cast_natsV, ← natsV_map]
      refine el_eq (el_mapL (xs := h) (fun _ => true) (fun k => V.int (harmK st k : Nat)) (ev_var rfl) hsa (len_nats _) (by omega) (fun _ => rfl) (fun i v k H3 e3 hv hx => et_yes) (fun i v k H3 e3 hv hx _ => ?_)) (by rw [filter_tt])
      obtain ⟨k', hk', rfl⟩ := at_nats hv
      rw [hx] at hk'
      obtain rfl := Option.some.inj hk'
      exact ev_harm T (hm5.mono e3) (ev_var rfl) (ev_var rfl) (hN _ (List.mem_of_getElem? hx))
    refine ⟨_, _, rfl, Ex.mut (ex.trans e5) npa, ?_⟩
    rw [upd_same, ← natsV_app]
    show some (HO.lst (natsV ((_ :: _ :: (hs.take i).flatMap (cntK st)) ++ cntK st h))) = some (HO.lst (natsV (_ :: _ :: (hs.take (i + 1)).flatMap (cntK st))))
    rw [take_more hx, List.flatMap_append]
    simp [List.flatMap_cons]
  · rintro σ H' ⟨w3, w4, rfl, ex, hl'⟩
    rw [len_refs, hl] at hl'
    have hl' : H' pa = some (.lst (natsV (((builtIx st.plot).map (harmK st)).sum :: st.plot.houses.length :: (hs.take hs.length).flatMap (cntK st)))) := hl'
    rw [List.take_length] at hl'
    dsimp only
    refine rd_at (rd_ret (ev_var rfl) fun H5 e5 => fin pa H5 npaH ((e12.trans ex).trans e5) ?_)
    rw [e5 _ _ hl', natsV_ints]
    rfl
theorem pure_Land_tell_check (T : Txt K mg A) (vs : List V) (H : Hp) (Q : VK) (E : XK) (h : sp_Land_tell_check A K vs H Q E) : t_Land_tell_check A K (DE Q) (start N_Land_tell_check vs) H := by
  obtain ⟨xs, ⟨y, st, rfl, hla, ok, rfl⟩, fin⟩ := h
  refine rd_at (rd_chart T hla rfl (fun c => ?_) fun c => ?_)
  · have e0 : Kg85.spec st .check = (st, Kg85.num (-22)) := by rw [l_check]; exact on_map_no c
    rw [e0] at fin
    exact fin
  have hm : MpAt A H y st := ⟨hla, ok, c⟩
  have hi := hla.ins
  have hip := hla.plo.ins
  have hgr := hm.gr
  have bl : st.plot.breaks.length ≤ 9 := by
    unfold Kg72.State.breaks
    exact Nat.le_trans (List.length_filter_le ..) (by simp)
  have fl : (st.plot.breaks.flatMap fun x => [x.1, x.2]).length = 2 * st.plot.breaks.length := by
    generalize st.plot.breaks = l
    induction l with
    | nil => rfl
    | cons a r ih => rw [List.flatMap_cons, List.length_append, ih]; simp only [List.length_cons, List.length_nil]; omega
  have e1 : (Kg72.spec st.plot .check).2 = ⟨st.plot.breaks.length, Kg72.whole (st.plot.breaks.flatMap fun x => [x.1, x.2])⟩ := by
    show (Kg72.onGround st.plot _).2 = _
    rw [on_gr hgr.gr]
  have e2 : intsV (ansG (Kg72.spec st.plot .check).2) = natsV (st.plot.breaks.length :: st.plot.breaks.flatMap fun x => [x.1, x.2]) := by
    rw [e1, natsV_ints]
    rfl
  rw [l_check, on_map c] at fin
  dsimp only at fin
  refine rd_asgL (xs := natsV (st.plot.breaks.length :: st.plot.breaks.flatMap fun x => [x.1, x.2])) (el_eq (el_meth (by fail "ev") (hm_Plot_tell_check hip) ea_nil (spl_of fun H1 e1 => ⟨y.plo, st.plot, rfl, hgr.mono e1, rfl⟩)) e2) fun p H1 np e1 hp => ?_
  have hm1 := hm.mono e1
  have hsp : SqL K H1 p (natsV (st.plot.breaks.length :: st.plot.breaks.flatMap fun x => [x.1, x.2])) := sq_of hp
  refine rd_asg (v := .int (st.drowned.length : Nat)) (ev_meth (ev_var rfl) (hm_Land_drowned hm1.at_.ins) ea_nil (sv_drowned hm1)) ?_
  refine rd_ifs (b := decide ((0 : Int) < (st.drowned.length : Int))) (et_test (ev_gt (ev_var rfl) ev_c)) ?_ ?_
  · intro b
    have b : st.drowned ≠ [] := fun z => by have := of_decide_eq_true b; rw [z] at this; simp at this
    rw [if_neg b] at fin
    refine fun H2 e2 => ?_
    have hsp2 := ex_l e2 hsp
    refine s_asgL (xs := natsV ([st.plot.breaks.length + 1] ++ (st.plot.breaks.flatMap fun x => [x.1, x.2]) ++ [10, st.drowned.length])) ?_ fun p2 H3 np3 e3 hp3 => ?_
    · refine el_eq (el_cat (xs := natsV ([st.plot.breaks.length + 1] ++ (st.plot.breaks.flatMap fun x => [x.1, x.2]))) (ys := natsV [10, st.drowned.length]) (el_eq (el_cat (xs := natsV [st.plot.breaks.length + 1]) (ys := natsV (st.plot.breaks.flatMap fun x => [x.1, x.2])) ?_ ?_ ?_) ?_) (el_lst (ea_cons ev_c (ea_cons (ev_var rfl) ea_nil)) (Nat.le_of_ble_eq_true rfl)) ?_) ?_
      · refine el_lst (ea_cons (ev_eq (ev_add (ev_ixL (v := .int (st.plot.breaks.length : Nat)) (i := ((0 : Nat) : Int)) (ev_var rfl) ev_c hsp2 (atI_nat rfl)) ev_c) ?_) ea_nil) (Nat.le_of_ble_eq_true rfl)
        congr 1
      · refine el_eq (el_sl (lo := some ((1 : Nat) : Int)) (ev_var rfl) (eo_some ev_c) eo_none hsp2) ?_
        rw [cut_from]
        rfl
      · rw [len_nats, len_nats, fl, List.length_singleton]
        omega
      · rw [natsV_app]
      · rw [len_nats, len_nats, List.length_append, fl]
        simp only [List.length_cons, List.length_nil]
        omega
      · rw [natsV_app (_ ++ _)]
    · dsimp only
      refine rd_at (rd_ret (ev_var rfl) fun H4 e4 => fin p2 H4 (fresh_back (e1.trans e2) np3) (((e1.trans e2).trans e3).trans e4) ?_)
      rw [e4 _ _ hp3, natsV_ints]
      unfold ansL Kg85.ints
      rw [List.flatMap_append]
      simp [List.flatMap_cons]
  · intro b
    have b : st.drowned = [] := List.eq_nil_of_length_eq_zero (by have := of_decide_eq_false b; omega)
    rw [if_pos b, List.append_nil] at fin
    refine rd_next fun H2 e2 => rd_at (rd_ret (ev_var rfl) fun H3 e3 => fin p H3 np ((e1.trans e2).trans e3) ?_)
    rw [(e2.trans e3) _ _ hp, natsV_ints]
    rfl
end

/-! ### plain: states in their ranges -/
theorem steps_ok (r e : Nat) : ∀ (n : Nat) {st : Kg79.State}, PolOk st → PolOk (Kg79.State.steps r e n st) ∧ (Kg79.State.steps r e n st).sections.length = st.sections.length
  | 0, _, ok => ⟨ok, rfl⟩
  | n + 1, st, ok => by
    obtain ⟨h1, h2⟩ := step_ok ok r e
    obtain ⟨h3, h4⟩ := steps_ok r e n h1
    exact ⟨h3, h4.trans h2⟩
theorem add_ok {st : Kg79.State} (ok : PolOk st) (d : Kg79.Device) (hd : d.kind ≤ 3 ∧ d.from_ < st.sections.length ∧ d.to < st.sections.length ∧ (d.kind = 0 → d.to ≠ d.from_) ∧ d.cap ≤ 100000 ∧ d.crest ≤ 10000 ∧ (d.kind ≠ 1 → d.runs = false)) :
    PolOk (Kg79.addDevice st d).1 ∧ (Kg79.addDevice st d).1.sections = st.sections := by
  unfold Kg79.addDevice
  split
  · exact ⟨ok, rfl⟩
  · refine ⟨⟨ok.area, fun x hx => ?_, ok.nsec, ?_, ok.ntide⟩, rfl⟩
    · rcases List.mem_append.mp hx with hx | hx
      · exact ok.dev x hx
      · rw [List.mem_singleton.mp hx]; exact hd
    · dsimp only
      rw [List.length_append, List.length_singleton]
      omega
theorem isSec_n {st : Kg79.State} {z : Int} (h : Kg79.isSection st z = true) : 0 ≤ z ∧ z.toNat < st.sections.length := by
  unfold Kg79.isSection at h
  simp only [Bool.and_eq_true, decide_eq_true_eq] at h
  omega
theorem pol_ok {st : Kg79.State} (ok : PolOk st) (c : Kg79.Call) : PolOk (Kg79.spec st c).1 ∧ (Kg85.fixesWater c = false → (Kg79.spec st c).1.sections.length = st.sections.length) := by
  cases c with
  | begin_ l =>
    refine ⟨?_, fun z => by cases z⟩
    show PolOk (if (l.all (fun z => Kg79.within z 0 10000) && decide (l.length ≤ 30)) = false then (st, Kg79.num (-1)) else ({ Kg79.init with tide := l.map Int.toNat }, Kg79.num 0)).1
    split
    · exact ok
    · rename_i c
      have c := eq_true_of_ne_false c
      simp only [Bool.and_eq_true, decide_eq_true_eq] at c
      refine ⟨(fun x h => by cases h), (fun x h => by cases h), Nat.zero_le _, Nat.zero_le _, ?_⟩
      dsimp only
      rw [List.length_map]
      exact c.2
  | section_ a l h =>
    refine ⟨?_, fun z => by cases z⟩
    show PolOk (if (Kg79.within a 1 1000 && (Kg79.within l 0 10000 && Kg79.within h 0 10000)) = false then (st, Kg79.num (-1)) else if 10 ≤ st.sections.length then (st, Kg79.num (-5)) else ({ st with sections := st.sections ++ [⟨a.toNat, a.toNat * l.toNat, h.toNat, 0⟩] }, Kg79.num st.sections.length)).1
    split
    · exact ok
    · split
      · exact ok
      · rename_i c c2
        have c := eq_true_of_ne_false c
        simp only [Bool.and_eq_true, decide_eq_true_eq, Kg79.within] at c
        refine ⟨fun x hx => ?_, fun d hd => ?_, ?_, ok.ndev, ok.ntide⟩
        · rcases List.mem_append.mp hx with hx | hx
          · exact ok.area x hx
          · rw [List.mem_singleton.mp hx]
            dsimp only
            omega
        · obtain ⟨d1, d2, d3, d4⟩ := ok.dev d hd
          dsimp only
          rw [List.length_append, List.length_singleton]
          exact ⟨d1, by omega, by omega, d4⟩
        · dsimp only
          rw [List.length_append, List.length_singleton]
          omega
  | weir i j c w =>
    show PolOk (if (Kg79.isSection st i && (Kg79.isSection st j && (decide (i ≠ j) && (Kg79.within c 0 10000 && Kg79.within w 1 1000)))) = false then (st, Kg79.num (-1)) else Kg79.addDevice st ⟨0, i.toNat, j.toNat, c.toNat, w.toNat, 0, false, 0, 0⟩).1 ∧ (_ → (if (Kg79.isSection st i && (Kg79.isSection st j && (decide (i ≠ j) && (Kg79.within c 0 10000 && Kg79.within w 1 1000)))) = false then (st, Kg79.num (-1)) else Kg79.addDevice st ⟨0, i.toNat, j.toNat, c.toNat, w.toNat, 0, false, 0, 0⟩).1.sections.length = _)
    split
    · exact ⟨ok, fun _ => rfl⟩
    · rename_i h
      have h := eq_true_of_ne_false h
      simp only [Bool.and_eq_true, decide_eq_true_eq, Kg79.within] at h
      obtain ⟨i1, i2⟩ := isSec_n h.1
      obtain ⟨j1, j2⟩ := isSec_n h.2.1
      obtain ⟨k1, k2⟩ := add_ok ok ⟨0, i.toNat, j.toNat, c.toNat, w.toNat, 0, false, 0, 0⟩ ⟨Nat.zero_le 3, i2, j2, (fun _ => show j.toNat ≠ i.toNat by omega), (show w.toNat ≤ 100000 by omega), (show c.toNat ≤ 10000 by omega), fun _ => rfl⟩
      exact ⟨k1, fun _ => by rw [k2]⟩
  | pump i j c on off =>
    show PolOk (if (Kg79.isSection st i && ((j == -1 || Kg79.isSection st j) && (decide (i ≠ j) && (Kg79.within c 1 100000 && (Kg79.within on 1 10000 && (Kg79.within off 0 10000 && decide (off < on))))))) = false then (st, Kg79.num (-1)) else
      Kg79.addDevice st ⟨1, i.toNat, if j = -1 then i.toNat else j.toNat, on.toNat, c.toNat, off.toNat, false, 0, 0⟩).1 ∧ (_ → (if (Kg79.isSection st i && ((j == -1 || Kg79.isSection st j) && (decide (i ≠ j) && (Kg79.within c 1 100000 && (Kg79.within on 1 10000 && (Kg79.within off 0 10000 && decide (off < on))))))) = false then (st, Kg79.num (-1)) else
      Kg79.addDevice st ⟨1, i.toNat, if j = -1 then i.toNat else j.toNat, on.toNat, c.toNat, off.toNat, false, 0, 0⟩).1.sections.length = _)
    split
    · exact ⟨ok, fun _ => rfl⟩
    · rename_i h
      have h := eq_true_of_ne_false h
      simp only [Bool.and_eq_true, Bool.or_eq_true, decide_eq_true_eq, Kg79.within, beq_iff_eq] at h
      obtain ⟨i1, i2⟩ := isSec_n h.1
      have hj : (if j = -1 then i.toNat else j.toNat) < st.sections.length := by
        split
        · exact i2
        · rename_i n
          rcases h.2.1 with q | q
          · exact absurd q n
          · exact (isSec_n q).2
      obtain ⟨k1, k2⟩ := add_ok ok ⟨1, i.toNat, if j = -1 then i.toNat else j.toNat, on.toNat, c.toNat, off.toNat, false, 0, 0⟩ ⟨(show 1 ≤ 3 by decide), i2, hj, (fun z => by cases z), (show c.toNat ≤ 100000 by omega), (show on.toNat ≤ 10000 by omega), fun _ => rfl⟩
      exact ⟨k1, fun _ => by rw [k2]⟩
  | sluice i c w =>
    show PolOk (if (Kg79.isSection st i && (Kg79.within c 0 10000 && Kg79.within w 1 1000)) = false then (st, Kg79.num (-1)) else Kg79.addDevice st ⟨2, i.toNat, i.toNat, c.toNat, w.toNat, 0, false, 0, 0⟩).1 ∧ (_ → (if (Kg79.isSection st i && (Kg79.within c 0 10000 && Kg79.within w 1 1000)) = false then (st, Kg79.num (-1)) else Kg79.addDevice st ⟨2, i.toNat, i.toNat, c.toNat, w.toNat, 0, false, 0, 0⟩).1.sections.length = _)
    split
    · exact ⟨ok, fun _ => rfl⟩
    · rename_i h
      have h := eq_true_of_ne_false h
      simp only [Bool.and_eq_true, decide_eq_true_eq, Kg79.within] at h
      obtain ⟨i1, i2⟩ := isSec_n h.1
      obtain ⟨k1, k2⟩ := add_ok ok ⟨2, i.toNat, i.toNat, c.toNat, w.toNat, 0, false, 0, 0⟩ ⟨(show 2 ≤ 3 by decide), i2, i2, (fun z => by cases z), (show w.toNat ≤ 100000 by omega), (show c.toNat ≤ 10000 by omega), fun _ => rfl⟩
      exact ⟨k1, fun _ => by rw [k2]⟩
  | inlet i c l =>
    show PolOk (if (Kg79.isSection st i && (Kg79.within c 1 100000 && Kg79.within l 1 10000)) = false then (st, Kg79.num (-1)) else Kg79.addDevice st ⟨3, i.toNat, i.toNat, l.toNat, c.toNat, 0, false, 0, 0⟩).1 ∧ (_ → (if (Kg79.isSection st i && (Kg79.within c 1 100000 && Kg79.within l 1 10000)) = false then (st, Kg79.num (-1)) else Kg79.addDevice st ⟨3, i.toNat, i.toNat, l.toNat, c.toNat, 0, false, 0, 0⟩).1.sections.length = _)
    split
    · exact ⟨ok, fun _ => rfl⟩
    · rename_i h
      have h := eq_true_of_ne_false h
      simp only [Bool.and_eq_true, decide_eq_true_eq, Kg79.within] at h
      obtain ⟨i1, i2⟩ := isSec_n h.1
      obtain ⟨k1, k2⟩ := add_ok ok ⟨3, i.toNat, i.toNat, l.toNat, c.toNat, 0, false, 0, 0⟩ ⟨(show 3 ≤ 3 by decide), i2, i2, (fun z => by cases z), (show c.toNat ≤ 100000 by omega), (show l.toNat ≤ 10000 by omega), fun _ => rfl⟩
      exact ⟨k1, fun _ => by rw [k2]⟩
  | set k c w =>
    show PolOk (match (if k < 0 then none else st.devices[k.toNat]?) with
      | none => (st, Kg79.num (-1))
      | some d => if (Kg79.within c 0 10000 && Kg79.within w 1 100000) = false then (st, Kg79.num (-1)) else if d.kind = 1 ∧ c ≤ (d.off : Int) then (st, Kg79.num (-4)) else ({ st with devices := st.devices.set k.toNat { d with crest := c.toNat, cap := w.toNat } }, Kg79.num 0)).1 ∧ (_ → (match (if k < 0 then none else st.devices[k.toNat]?) with
      | none => (st, Kg79.num (-1))
      | some d => if (Kg79.within c 0 10000 && Kg79.within w 1 100000) = false then (st, Kg79.num (-1)) else if d.kind = 1 ∧ c ≤ (d.off : Int) then (st, Kg79.num (-4)) else ({ st with devices := st.devices.set k.toNat { d with crest := c.toNat, cap := w.toNat } }, Kg79.num 0)).1.sections.length = _)
    split
    · exact ⟨ok, fun _ => rfl⟩
    · rename_i d hd
      split
      · exact ⟨ok, fun _ => rfl⟩
      · split
        · exact ⟨ok, fun _ => rfl⟩
        · rename_i h _
          have h := eq_true_of_ne_false h
          simp only [Bool.and_eq_true, decide_eq_true_eq, Kg79.within] at h
          have hd' : st.devices[k.toNat]? = some d := by
            split at hd
            · cases hd
            · exact hd
          obtain ⟨d1, d2, d3, d4, d5, d6, d7⟩ := ok.dev d (List.mem_of_getElem? hd')
          refine ⟨⟨ok.area, fun x hx => ?_, ok.nsec, by dsimp only; rw [List.length_set]; exact ok.ndev, ok.ntide⟩, fun _ => rfl⟩
          rcases List.mem_or_eq_of_mem_set hx with hx | hx
          · exact ok.dev x hx
          · rw [hx]
            exact ⟨d1, d2, d3, d4, (show w.toNat ≤ 100000 by omega), (show c.toNat ≤ 10000 by omega), d7⟩
  | run n r e =>
    refine ⟨?_, fun z => by cases z⟩
    show PolOk (if (Kg79.within n 0 100 && (Kg79.within r 0 500 && Kg79.within e 0 500)) = false then (st, Kg79.num (-1)) else (Kg79.State.steps r.toNat e.toNat n.toNat st, _)).1
    split
    · exact ok
    · exact (steps_ok _ _ _ ok).1
  | levels => exact ⟨ok, fun _ => rfl⟩
  | device k => rw [dev_same]; exact ⟨ok, fun _ => rfl⟩
  | sums => exact ⟨ok, fun _ => rfl⟩
theorem plo_ground {st : Kg72.State} (c : Kg72.Call) (h : Kg85.fixesPlot c = false) : (Kg72.spec st c).1.ground = st.ground := by
  have gr : ∀ {f : Unit → Kg72.State × Kg72.Ans}, (f ()).1.ground = st.ground → (Kg72.onGround st f).1.ground = st.ground := fun h => by
    unfold Kg72.onGround
    split
    · rfl
    · exact h
  have pl : ∀ {x z : Int} {f : Nat × Nat → Kg72.State × Kg72.Ans}, (∀ p, (f p).1.ground = st.ground) → (Kg72.onPlace st x z f).1.ground = st.ground := fun h => by
    unfold Kg72.onPlace
    split
    · rfl
    · exact h _
  cases c with
  | ground a l => cases h
  | rules l =>
    show (match Kg72.rulesOf l with | none => (st, Kg72.num (-1)) | some r => Kg72.onGround st fun _ => ({ st with rules := r }, Kg72.num 0)).1.ground = _
    split
    · rfl
    · exact gr rfl
  | box x z u v n =>
    refine gr (pl fun p => pl fun q => ?_)
    split
    · rfl
    · split <;> rfl
  | drop =>
    show (if st.boxes = [] then (st, Kg72.num (-4)) else ({ st with boxes := st.boxes.dropLast }, Kg72.num (st.boxes.length - 1 : Nat))).1.ground = _
    split <;> rfl
  | paved n k =>
    show (if (Kg72.within n 0 1000 && Kg72.within k 0 1000) = false then (st, Kg72.num (-1)) else Kg72.onGround st fun _ => ({ st with paved := n.toNat, spaces := k.toNat }, Kg72.num 0)).1.ground = _
    split
    · rfl
    · exact gr rfl
  | check => exact gr rfl
  | square x z => exact gr (pl fun p => rfl)
  | best => exact gr rfl
  | houses => exact gr rfl
  | sums => exact gr rfl
/-! ### plain: calls within calls -/
theorem water_fwd {n : Int} {ns : List Int} {rest : List (List Int)} {q : Kg79.Call} (h : Kg85.waterOf ((n :: ns) :: rest) = some q) :
    (n = 1 ∧ ns = [] ∧ ∃ l, rest = [l] ∧ q = .begin_ l) ∨ (n ≠ 1 ∧ rest = [] ∧ polC n ns = some q ∧ polForm n = some ((ns.length : Int), 0) ∧ (Kg85.fixesWater q = true ↔ n = 2 ∨ n = 8)) := by
  unfold Kg85.waterOf at h
  split at h <;> first | (rename_i e; injection e with e1 e2; injection e1 with e3 e4; injection h with h; subst e3 e4 e2 h) | skip
  · exact .inl ⟨rfl, rfl, _, rfl, rfl⟩
  all_goals first
    | cases h
    | exact .inr ⟨by decide, rfl, rfl, rfl, by simp [Kg85.fixesWater]⟩
theorem len0 {α : Type} {l : List α} (h : l.length = 0) : l = [] := List.eq_nil_of_length_eq_zero h
theorem len1 {α : Type} : ∀ {l : List α}, l.length = 1 → ∃ a, l = [a]
  | [a], _ => ⟨a, rfl⟩
theorem len2 {α : Type} : ∀ {l : List α}, l.length = 2 → ∃ a b, l = [a, b]
  | [a, b], _ => ⟨a, b, rfl⟩
theorem len3 {α : Type} : ∀ {l : List α}, l.length = 3 → ∃ a b c, l = [a, b, c]
  | [a, b, c], _ => ⟨a, b, c, rfl⟩
theorem len4 {α : Type} : ∀ {l : List α}, l.length = 4 → ∃ a b c d, l = [a, b, c, d]
  | [a, b, c, d], _ => ⟨a, b, c, d, rfl⟩
theorem len5 {α : Type} : ∀ {l : List α}, l.length = 5 → ∃ a b c d e, l = [a, b, c, d, e]
  | [a, b, c, d, e], _ => ⟨a, b, c, d, e, rfl⟩
theorem two_len {ns : List Int} {rest : List (List Int)} {a b : Nat} (h : (some ((a : Int), (b : Int)) : Option (Int × Int)) = some ((ns.length : Int), (rest.length : Int))) : ns.length = a ∧ rest.length = b := by
  injection h with h
  injection h with h1 h2
  omega
theorem water_bwd {n : Int} {ns : List Int} {rest : List (List Int)} (h : polForm n = some ((ns.length : Int), (rest.length : Int))) : ∃ q, Kg85.waterOf ((n :: ns) :: rest) = some q := by
  unfold polForm at h
  split at h
  · rename_i hn
    obtain ⟨h1, h2⟩ := two_len (a := 0) (b := 1) h
    obtain rfl := len0 h1
    obtain ⟨l, rfl⟩ := len1 h2
    subst hn
    exact ⟨_, rfl⟩
  split at h
  · rename_i hn
    obtain ⟨h1, h2⟩ := two_len (a := 3) (b := 0) h
    obtain ⟨a, b, c, rfl⟩ := len3 h1
    obtain rfl := len0 h2
    rcases hn with rfl | rfl | rfl | rfl | rfl <;> exact ⟨_, rfl⟩
  split at h
  · rename_i hn
    obtain ⟨h1, h2⟩ := two_len (a := 4) (b := 0) h
    obtain ⟨a, b, c, d, rfl⟩ := len4 h1
    obtain rfl := len0 h2
    subst hn
    exact ⟨_, rfl⟩
  split at h
  · rename_i hn
    obtain ⟨h1, h2⟩ := two_len (a := 5) (b := 0) h
    obtain ⟨a, b, c, d, e, rfl⟩ := len5 h1
    obtain rfl := len0 h2
    subst hn
    exact ⟨_, rfl⟩
  split at h
  · rename_i hn
    obtain ⟨h1, h2⟩ := two_len (a := 1) (b := 0) h
    obtain ⟨a, rfl⟩ := len1 h1
    obtain rfl := len0 h2
    subst hn
    exact ⟨_, rfl⟩
  split at h
  · rename_i hn
    obtain ⟨h1, h2⟩ := two_len (a := 0) (b := 0) h
    obtain rfl := len0 h1
    obtain rfl := len0 h2
    rcases hn with rfl | rfl <;> exact ⟨_, rfl⟩
  · cases h
theorem water_no {n : Int} {ns : List Int} {rest : List (List Int)} (h : polForm n ≠ some ((ns.length : Int), (rest.length : Int))) : Kg85.waterOf ((n :: ns) :: rest) = none := by
  cases q : Kg85.waterOf ((n :: ns) :: rest) with
  | none => rfl
  | some q' =>
    rcases water_fwd q with ⟨rfl, rfl, l, rfl, _⟩ | ⟨_, rfl, _, e, _⟩
    · exact absurd rfl h
    · exact absurd e h
theorem water_nil (rest : List (List Int)) : Kg85.waterOf ([] :: rest) = none := by
  unfold Kg85.waterOf
  split <;> first | rfl | (rename_i e; injection e with e1 e2; cases e1)
theorem plot_fwd {n : Int} {ns : List Int} {rest : List (List Int)} {q : Kg72.Call} (h : Kg85.plotOf ((n :: ns) :: rest) = some q) :
    (n = 1 ∧ ∃ a l, ns = [a] ∧ rest = [l] ∧ q = .ground a l) ∨ (n ≠ 1 ∧ (∀ r, ((n :: ns) :: rest).getLast? = some r → ploC n ns r = some q) ∧ ploForm n = some ((ns.length : Int), (rest.length : Int)) ∧ Kg85.fixesPlot q = false) := by
  unfold Kg85.plotOf at h
  split at h <;> first | (rename_i e; injection e with e1 e2; injection e1 with e3 e4; injection h with h; subst e3 e4 e2 h) | skip
  · exact .inl ⟨rfl, _, _, rfl, rfl, rfl⟩
  all_goals first
    | cases h
    | exact .inr ⟨by decide, fun r hr => by cases hr; rfl, rfl, rfl⟩
theorem plot_bwd {n : Int} {ns : List Int} {rest : List (List Int)} (h : ploForm n = some ((ns.length : Int), (rest.length : Int))) : ∃ q, Kg85.plotOf ((n :: ns) :: rest) = some q := by
  unfold ploForm at h
  split at h
  · rename_i hn
    obtain ⟨h1, h2⟩ := two_len (a := 1) (b := 1) h
    obtain ⟨a, rfl⟩ := len1 h1
    obtain ⟨l, rfl⟩ := len1 h2
    subst hn
    exact ⟨_, rfl⟩
  split at h
  · rename_i hn
    obtain ⟨h1, h2⟩ := two_len (a := 0) (b := 1) h
    obtain rfl := len0 h1
    obtain ⟨l, rfl⟩ := len1 h2
    subst hn
    exact ⟨_, rfl⟩
  split at h
  · rename_i hn
    obtain ⟨h1, h2⟩ := two_len (a := 5) (b := 0) h
    obtain ⟨a, b, c, d, e, rfl⟩ := len5 h1
    obtain rfl := len0 h2
    subst hn
    exact ⟨_, rfl⟩
  split at h
  · rename_i hn
    obtain ⟨h1, h2⟩ := two_len (a := 2) (b := 0) h
    obtain ⟨a, b, rfl⟩ := len2 h1
    obtain rfl := len0 h2
    rcases hn with rfl | rfl <;> exact ⟨_, rfl⟩
  split at h
  · rename_i hn
    obtain ⟨h1, h2⟩ := two_len (a := 0) (b := 0) h
    obtain rfl := len0 h1
    obtain rfl := len0 h2
    rcases hn with rfl | rfl | rfl | rfl | rfl <;> exact ⟨_, rfl⟩
  · cases h
theorem plot_no {n : Int} {ns : List Int} {rest : List (List Int)} (h : ploForm n ≠ some ((ns.length : Int), (rest.length : Int))) : Kg85.plotOf ((n :: ns) :: rest) = none := by
  cases q : Kg85.plotOf ((n :: ns) :: rest) with
  | none => rfl
  | some q' =>
    rcases plot_fwd q with ⟨rfl, a, l, rfl, rfl, _⟩ | ⟨_, _, e, _⟩
    · exact absurd rfl h
    · exact absurd e h
theorem plot_nil (rest : List (List Int)) : Kg85.plotOf ([] :: rest) = none := by
  unfold Kg85.plotOf
  split <;> first | rfl | (rename_i e; injection e with e1 e2; cases e1)

section
variable {A : Adr} {K : PySem.W.Frag} {mg : Str → Option Value} {σ : L2.St} {H H1 H' : Hp} {ta tb tv te tl : TE} {D : Ends} {t u : TS} {y y' : LL} {st st' : Kg85.State} {a b dx : Addr} {x x' : Kg85.Soil} {k i : Nat} {fs : List (Str × V)}
theorem LandAt.nds (h : LandAt A H y st) : (y.pol.t ≠ y.pol.s ∧ y.pol.t ≠ y.pol.d ∧ y.pol.t ≠ y.plo.sq ∧ y.pol.t ≠ y.plo.b ∧ y.pol.t ≠ y.c) ∧ (y.pol.s ≠ y.pol.d ∧ y.pol.s ≠ y.plo.sq ∧ y.pol.s ≠ y.plo.b ∧ y.pol.s ≠ y.c) ∧ (y.pol.d ≠ y.plo.sq ∧ y.pol.d ≠ y.plo.b ∧ y.pol.d ≠ y.c) ∧ (y.plo.sq ≠ y.plo.b ∧ y.plo.sq ≠ y.c) ∧ y.plo.b ≠ y.c := by
  have nd := h.nd
  simp only [List.nodup_cons, List.mem_cons, List.not_mem_nil, or_false, not_or, List.nodup_nil, and_true, not_false_eq_true] at nd
  exact nd
theorem nin2 {a b c : Addr} (h1 : a ≠ b) (h2 : a ≠ c) : a ∉ [b, c] := fun q => by
  rcases List.mem_cons.mp q with q | q
  · exact h1 q
  · exact h2 (List.mem_singleton.mp q)
theorem LandAt.setPol {pl : PL} {w : Kg79.State} (h : LandAt A H y st) (fr : Fr polTags [y.pol.s, y.pol.d] H H') (hp : PolAt A H' pl w) (q1 : pl.p = y.pol.p) (q2 : pl.t = y.pol.t) (q3 : pl.s = y.pol.s) (q4 : pl.d = y.pol.d) :
    LandAt A H' { y with pol := pl } { st with water := w } ∧ Fr landTags y.ms H H' := by
  obtain ⟨⟨a1, a2, a3, a4, a5⟩, ⟨b1, b2, b3, b4⟩, ⟨c1, c2, c3⟩, ⟨d1, d2⟩, e1⟩ := h.nds
  refine ⟨⟨?_, hp, h.plo.fr (by decide) (by decide) (by decide) (nin2 (Ne.symm b2) (Ne.symm c1)) (nin2 (Ne.symm b3) (Ne.symm c2)) fr, fun q => ⟨fr _ _ (h.ch q).1 (nin2 (Ne.symm b4) (Ne.symm c3)), (h.ch q).2.fr _ _ (fun _ => rfl) (by decide) fr⟩, ?_⟩, fr.mono (by decide) fun b hb => ?_⟩
  · have e : landF { y with pol := pl } { st with water := w } = landF y st := by
      unfold landF
      dsimp only
      rw [q1]
      rfl
    show InsAt A.c_Land H' y.L (landF { y with pol := pl } { st with water := w })
    rw [e]
    exact h.ins.fr (by decide) fr
  · show [pl.t, pl.s, pl.d, y.plo.sq, y.plo.b, y.c].Nodup
    rw [q2, q3, q4]
    exact h.nd
  · unfold LL.ms
    simp only [List.mem_cons, List.not_mem_nil, or_false] at hb ⊢
    rcases hb with hb | hb
    · exact .inl hb
    · exact .inr (.inl hb)
theorem LandAt.setPlo {pl : GL} {w : Kg72.State} (h : LandAt A H y st) (fr : Fr ploTags [y.plo.b] H H') (hp : PlotAt A H' pl w) (q1 : pl.q = y.plo.q) (q2 : pl.sq = y.plo.sq) (q3 : pl.b = y.plo.b) :
    LandAt A H' { y with plo := pl } { st with plot := w } ∧ Fr landTags y.ms H H' := by
  obtain ⟨⟨a1, a2, a3, a4, a5⟩, ⟨b1, b2, b3, b4⟩, ⟨c1, c2, c3⟩, ⟨d1, d2⟩, e1⟩ := h.nds
  refine ⟨⟨?_, h.pol.fr (by decide) (by decide) (by decide) (nin a4) (nin b3) (nin c2) fr, hp, fun q => ⟨fr _ _ (h.ch q).1 (nin (Ne.symm e1)), (h.ch q).2.fr _ _ (fun _ => rfl) (by decide) fr⟩, ?_⟩, fr.mono (by decide) fun b hb => ?_⟩
  · have e : landF { y with plo := pl } { st with plot := w } = landF y st := by
      unfold landF
      dsimp only
      rw [q1]
      rfl
    show InsAt A.c_Land H' y.L (landF { y with plo := pl } { st with plot := w })
    rw [e]
    exact h.ins.fr (by decide) fr
  · show [y.pol.t, y.pol.s, y.pol.d, pl.sq, pl.b, y.c].Nodup
    rw [q2, q3]
    exact h.nd
  · unfold LL.ms
    rw [List.mem_singleton.mp hb]
    simp
theorem set_ne {l : List Kg85.Soil} (h : l ≠ []) : l.set i x ≠ [] := fun z => h (by
  have := congrArg List.length z
  rw [List.length_set] at this
  exact List.eq_nil_of_length_eq_zero this)
theorem LandAt.setSoil (h : LandAt A H y st) (mp : st.map ≠ []) (hb : y.sqs[i]? = some b) (hx : st.map[i]? = some x) (e : Ex H H1) (hf : fs = sqF x') :
    LandAt A (L2.upd H1 b (.ins A.c_Square dx fs)) y { st with map := st.map.set i x' } ∧ Fr landTags y.ms H (L2.upd H1 b (.ins A.c_Square dx fs)) := by
  obtain ⟨hc, ho⟩ := h.ch mp
  obtain ⟨b', hb', d0, h0⟩ := ho.get hx
  rw [hb] at hb'
  obtain rfl := Option.some.inj hb'
  have F : Fr ["section"] [] H (L2.upd H1 b (.ins A.c_Square dx fs)) := (Fr.of_ex e).ins (f := "section") h0 (List.mem_singleton.mpr rfl)
  refine ⟨⟨?_, h.pol.fr (by decide) (by decide) (by decide) nomem nomem nomem F, h.plo.fr (by decide) (by decide) (by decide) nomem nomem F, fun _ => ⟨F _ _ hc nomem, ho.set hb ⟨dx, by rw [upd_same, hf]⟩ fun c o hc' n => by rw [upd_ne n]; exact e _ _ hc'⟩, h.nd⟩, F.mono (by decide) fun b hb => by cases hb⟩
  have e2 : landF y { st with map := st.map.set i x' } = landF y st := by
    unfold landF
    rw [chV_mp mp, chV_mp (st := { st with map := st.map.set i x' }) (set_ne mp)]
  rw [e2]
  exact h.ins.fr (by decide) F
theorem put_wet (x : Kg85.Soil) {z : Int} {n : Nat} (e : z = n) : putF "wet" (.int z) (sqF x) = sqF { x with wet := n } := by subst e; exact put_ix (i := 3) (sqF_names x) (by decide +kernel)
theorem put_peak (x : Kg85.Soil) {z : Int} {n : Nat} (e : z = n) : putF "peak" (.int z) (sqF x) = sqF { x with peak := n } := by subst e; exact put_ix (i := 2) (sqF_names x) (by decide +kernel)
theorem put_height (x : Kg85.Soil) {z : Int} {n : Nat} (e : z = n) : putF "height" (.int z) (sqF x) = sqF { x with height := n } := by subst e; exact put_ix (i := 1) (sqF_names x) (by decide +kernel)
theorem put_raised (y : LL) (s : Kg85.State) {z : Int} {n : Nat} (e : z = n) : putF "raised" (.int z) (landF y s) = landF y { s with raised := n } := by subst e; exact put_ix (i := 3) (landF_names y s) (by decide +kernel)
/-- a field of the land itself -/
theorem LandAt.setOwn (h : LandAt A H y st) (e : Ex H H1) (hf : fs = landF y' st') (q1 : y'.L = y.L) (q2 : y'.pol = y.pol) (q3 : y'.plo = y.plo) (g1 : st'.water = st.water) (g2 : st'.plot = st.plot)
    (hc : st'.map ≠ [] → H1 y'.c = some (.lst (refsV y'.sqs)) ∧ ObjsAt A.c_Square sqF H1 y'.sqs st'.map) (nd : [y'.pol.t, y'.pol.s, y'.pol.d, y'.plo.sq, y'.plo.b, y'.c].Nodup) :
    LandAt A (L2.upd H1 y.L (.ins A.c_Land dx fs)) y' st' ∧ Fr landTags y.ms H (L2.upd H1 y.L (.ins A.c_Land dx fs)) := by
  obtain ⟨d0, h0⟩ := h.ins
  have F : Fr ["polder"] [] H (L2.upd H1 y.L (.ins A.c_Land dx fs)) := (Fr.of_ex e).ins (f := "polder") h0 (List.mem_singleton.mpr rfl)
  have G : Fr ["polder"] [] H1 (L2.upd H1 y.L (.ins A.c_Land dx fs)) := Fr.refl.ins (f := "polder") (e _ _ h0) (List.mem_singleton.mpr rfl)
  refine ⟨⟨⟨dx, by rw [q1, upd_same, hf]⟩, by rw [q2, g1]; exact h.pol.fr (by decide) (by decide) (by decide) nomem nomem nomem F, by rw [q3, g2]; exact h.plo.fr (by decide) (by decide) (by decide) nomem nomem F, fun q => ⟨G _ _ (hc q).1 nomem, (hc q).2.fr _ _ (fun _ => rfl) (by decide) G⟩, nd⟩, F.mono (by decide) fun b hb => by cases hb⟩
/-! #### what a step of a storm does, square by square -/
def midS (w : Kg79.State) (s : Kg85.State) (j : Nat) : Kg85.State := { s with water := w, map := (s.map.take j).map (Kg85.soaked w) ++ s.map.drop j }
theorem mid_len (w : Kg79.State) (s : Kg85.State) (j : Nat) : (midS w s j).map.length = s.map.length := by
  show ((s.map.take j).map (Kg85.soaked w) ++ s.map.drop j).length = _
  rw [List.length_append, List.length_map, List.length_take, List.length_drop]
  omega
theorem mid_at {w : Kg79.State} {s : Kg85.State} {j : Nat} (hx : s.map[j]? = some x) : (midS w s j).map[j]? = some x := by
  have hj := (List.getElem?_eq_some_iff.mp hx).1
  show ((s.map.take j).map (Kg85.soaked w) ++ s.map.drop j)[j]? = _
  rw [List.getElem?_append_right (by rw [List.length_map, List.length_take]; omega), List.length_map, List.length_take, Nat.min_eq_left (by omega), Nat.sub_self, List.getElem?_drop]
  exact hx
theorem mid_set {w : Kg79.State} {s : Kg85.State} {j : Nat} (hx : s.map[j]? = some x) : (midS w s j).map.set j (Kg85.soaked w x) = (midS w s (j + 1)).map := by
  have hj := (List.getElem?_eq_some_iff.mp hx).1
  show ((s.map.take j).map (Kg85.soaked w) ++ s.map.drop j).set j _ = (s.map.take (j + 1)).map (Kg85.soaked w) ++ s.map.drop (j + 1)
  rw [List.set_append_right _ _ (by rw [List.length_map, List.length_take]; omega), List.length_map, List.length_take, Nat.min_eq_left (by omega), Nat.sub_self, take_more hx, List.map_append, List.drop_eq_getElem_cons hj, List.append_assoc]
  rfl
theorem mid_mem {w : Kg79.State} {s : Kg85.State} {j : Nat} (h : x ∈ (midS w s j).map) : ∃ z ∈ s.map, x.section_ = z.section_ := by
  rcases List.mem_append.mp h with h | h
  · obtain ⟨z, hz, rfl⟩ := List.mem_map.mp h
    exact ⟨z, List.mem_of_mem_take hz, rfl⟩
  · exact ⟨x, List.mem_of_mem_drop h, rfl⟩
theorem mid_ok {w : Kg79.State} {s : Kg85.State} {j : Nat} (ok : LandOk s) (mp : s.map ≠ []) (hw : PolOk w) (hl : w.sections.length = s.water.sections.length) : LandOk (midS w s j) := by
  obtain ⟨m1, m2, m3⟩ := ok.map mp
  refine ⟨hw, ok.plo, fun _ => ⟨m1, (mid_len w s j).trans m2, fun x hx => ?_⟩⟩
  obtain ⟨z, hz, e⟩ := mid_mem hx
  rw [e]
  show z.section_ < w.sections.length
  rw [hl]
  exact m3 z hz
theorem mid_ne {w : Kg79.State} {s : Kg85.State} {j : Nat} (mp : s.map ≠ []) : (midS w s j).map ≠ [] := fun z => mp (List.eq_nil_of_length_eq_zero (by rw [← mid_len w s j, z]; rfl))
theorem mid_end (r e : Nat) (s : Kg85.State) : midS (s.water.step r e) s s.map.length = s.step r e := by
  unfold midS Kg85.State.step
  rw [List.take_length, List.drop_length, List.append_nil]
theorem mid_zero (w : Kg79.State) (s : Kg85.State) : midS w s 0 = { s with water := w } := rfl
theorem storm_succ (r e : Nat) : ∀ (n : Nat) (s : Kg85.State), Kg85.State.storm r e (n + 1) s = (Kg85.State.storm r e n s).step r e
  | 0, _ => rfl
  | n + 1, s => storm_succ r e n (s.step r e)
theorem land_step {s : Kg85.State} (ok : LandOk s) (mp : s.map ≠ []) (r e : Nat) : LandOk (s.step r e) ∧ (s.step r e).map ≠ [] := by
  obtain ⟨h1, h2⟩ := step_ok ok.pol r e
  rw [← mid_end]
  exact ⟨mid_ok ok mp h1 h2, mid_ne mp⟩
theorem storm_ok (r e : Nat) : ∀ (n : Nat) {s : Kg85.State}, LandOk s → s.map ≠ [] → LandOk (Kg85.State.storm r e n s) ∧ (Kg85.State.storm r e n s).map ≠ []
  | 0, _, ok, mp => ⟨ok, mp⟩
  | n + 1, _, ok, mp => storm_ok r e n (land_step ok mp r e).1 (land_step ok mp r e).2
end

section
variable {A : Adr} {K : PySem.W.Frag} {mg : Str → Option Value} {σ : L2.St} {H H1 H' : Hp} {ta tb tv te tl : TE} {D : Ends} {t u : TS} {y y' : LL} {st st' : Kg85.State} {a b dx : Addr} {x x' : Kg85.Soil} {k i : Nat} {fs : List (Str × V)}
theorem land_same {z : Kg85.State × Kg85.Ans} {Q : VK} (hz : z.1 = st) (hp : LandAt A H y st) (k : LandPost A H y z Q) : ∀ p H1, H p = none → Ex H H1 → H1 p = some (.lst (intsV (ansL z.2))) → Q (.ref p) H1 :=
  fun p H1 np e h => k H1 y p (by rw [hz]; exact hp.mono e) rfl (fun b hb => .inl hb) h (Fr.of_ex e) (nl_none np)
theorem land_go {z : Kg85.State × Kg85.Ans} {Q : VK} (hp : LandAt A H' y' z.1) (h1 : y'.L = y.L) (h2 : ∀ b ∈ y'.ls, b ∈ y.ls ∨ ∀ xs, H b ≠ some (.lst xs)) (fr : Fr landTags y.ms H H') (k : LandPost A H y z Q) : ∀ p H1, H' p = none → Ex H' H1 → H1 p = some (.lst (intsV (ansL z.2))) → Q (.ref p) H1 :=
  fun p H1 np e h => k H1 y' p (hp.mono e) h1 h2 h (fr.trans (Fr.of_ex e)) (nl_go fr np)
theorem LandPost.mono {z : Kg85.State × Kg85.Ans} {Q : VK} (e : Ex H H1) (k : LandPost A H y z Q) : LandPost A H1 y z Q := fun H' y' r a b c h fr nl => k H' y' r a b (fun b hb => (c b hb).imp id fun q xs z => q xs (e _ _ z)) h ((Fr.of_ex e).trans fr) (nl.mono e)
theorem l_storm (st : Kg85.State) (n r e : Int) : Kg85.spec st (.storm n r e) = if (kin n 0 100 && (kin r 0 500 && kin e 0 500)) = false then (st, Kg85.num (-20)) else Kg85.onMap st fun _ => (st.storm r.toNat e.toNat n.toNat, ⟨((st.storm r.toNat e.toNat n.toNat).water.time : Nat), Kg85.sumsOf (st.storm r.toNat e.toNat n.toNat)⟩) := rfl
theorem soil_at (h : LandAt A H y st) (mp : st.map ≠ []) (hb : y.sqs[i]? = some b) (hx : st.map[i]? = some x) : SoilAt A H b x := by
  obtain ⟨b', hb', hs⟩ := (h.ch mp).2.get hx
  rw [hb] at hb'
  obtain rfl := Option.some.inj hb'
  exact hs
/-- one square, soaked -/
theorem soak (T : Txt K mg A) {w : Kg79.State} {s : Kg85.State} {j : Nat} (hl : LandAt A H y (midS w s j)) (ok : LandOk (midS w s j)) (mp : s.map ≠ []) (hb : y.sqs[j]? = some b) (hx : s.map[j]? = some x) (h0 : σ[0]? = some (some (.ref y.L))) (h5 : σ[5]? = some (some (.ref b))) (l6 : 6 < σ.length)
    (k : ∀ H', LandAt A H' y (midS w s (j + 1)) → Fr landTags y.ms H H' → D.nx (σ.set 6 (some (.int (Kg85.depth w x : Nat)))) H') :
    Rd (tSeq (tAsg (tMeth A.c_Land "depth" (sp_Land_depth A K) [] E0 (tVar 0) (tCons (tVar 5) (tNil))) (gName 6))
  (tSeq (sFldAug K (tVar 5) (tIf (tTest (tOp rGtI (tVar 6) (tC (.int 0)))) (tC (.int 1)) (tC (.int 0))) rAdd "wet")
  (sFld K (tVar 5) (tCB rMax2 (tCons (tFld K (tVar 5) "peak") (tCons (tVar 6) (tNil)))) "peak"))) D σ H := by
  have mpj := mid_ne (w := w) (j := j) mp
  have hm : MpAt A H y (midS w s j) := ⟨hl, ok, mpj⟩
  have hxj := mid_at (w := w) hx
  have hso := soil_at hl mpj hb hxj
  have g0 : (σ.set 6 (some (.int (Kg85.depth w x : Nat))))[0]? = some (some (.ref y.L)) := by rw [List.getElem?_set_ne (by decide)]; exact h0
  have g5 : (σ.set 6 (some (.int (Kg85.depth w x : Nat))))[5]? = some (some (.ref b)) := by rw [List.getElem?_set_ne (by decide)]; exact h5
  have g6 : (σ.set 6 (some (.int (Kg85.depth w x : Nat))))[6]? = some (some (.int (Kg85.depth w x : Nat))) := List.getElem?_set_self l6
  refine rd_asg (v := .int (Kg85.depth w x : Nat)) (ev_meth (ev_var h0) (hm_Land_depth hl.ins) (ea_cons (ev_var h5) ea_nil) (sv_depth hm hso (List.mem_of_getElem? hxj))) ?_
  generalize σ.set 6 (some (.int (Kg85.depth w x : Nat))) = σ2 at *
  refine rd_seq (rd_augA (p := (x.wet : Int)) (q := ((if 0 < Kg85.depth w x then 1 else 0 : Nat) : Int)) (ev_var g5) hso T.Square.cl T.Square.n_wet lk_Square_wet (l1000 rfl) ?_ fun H1 dx e1 ho1 => ?_)
  · refine ev_eq (ev_if2 (b := decide ((0 : Int) < (Kg85.depth w x : Int))) (et_test (ev_gt (ev_var g6) ev_c)) (fun _ => ev_c) (fun _ => ev_c)) ?_
    by_cases c : 0 < Kg85.depth w x
    · rw [decide_eq_true (by omega), if_pos c]; rfl
    · rw [decide_eq_false (by omega), if_neg c]; rfl
  obtain ⟨l5, f5⟩ := hl.setSoil (x' := { x with wet := x.wet + if 0 < Kg85.depth w x then 1 else 0 }) (dx := dx) mpj hb hxj e1 (put_wet x (n := x.wet + if 0 < Kg85.depth w x then 1 else 0) (by push_cast; rfl))
  generalize upd H1 b _ = H2 at l5 f5 ⊢
  have hx2 : ((midS w s j).map.set j { x with wet := x.wet + if 0 < Kg85.depth w x then 1 else 0 })[j]? = some { x with wet := x.wet + if 0 < Kg85.depth w x then 1 else 0 } := List.getElem?_set_self (by rw [mid_len]; exact (List.getElem?_eq_some_iff.mp hx).1)
  have hso2 := soil_at l5 (set_ne mpj) hb hx2
  dsimp only
  refine rd_at (rd_fldS (v := .int ((max x.peak (Kg85.depth w x) : Nat) : Int)) (ev_var g5) hso2 T.Square.cl T.Square.n_peak (l1000 rfl) ?_ fun H3 dx3 e3 ho3 => ?_)
  · refine ev_eq (ev_max2 (ev_fld (ev_var g5) (has_Square_peak T hso2)) (ev_var g6)) ?_
    congr 1
    show max (x.peak : Int) _ = _
    omega
  obtain ⟨l7, f7⟩ := l5.setSoil (x' := Kg85.soaked w x) (dx := dx3) (set_ne mpj) hb hx2 e3 (put_peak { x with wet := x.wet + if 0 < Kg85.depth w x then 1 else 0 } (n := max x.peak (Kg85.depth w x)) rfl)
  refine k _ ?_ (f5.trans f7)
  have e9 : { { midS w s j with map := (midS w s j).map.set j { x with wet := x.wet + if 0 < Kg85.depth w x then 1 else 0 } } with map := ((midS w s j).map.set j { x with wet := x.wet + if 0 < Kg85.depth w x then 1 else 0 }).set j (Kg85.soaked w x) } = midS w s (j + 1) := by
    show (⟨w, s.plot, _, s.raised⟩ : Kg85.State) = ⟨w, s.plot, (midS w s (j + 1)).map, s.raised⟩
    rw [← mid_set hx, List.set_set]
  rw [← e9]
  exact l7
theorem pure_Land_storm (T : Txt K mg A) (vs : List V) (H : Hp) (Q : VK) (E : XK) (h : sp_Land_storm A K vs H Q E) : t_Land_storm A K (DE Q) (start N_Land_storm vs) H := by
  obtain ⟨y, st, n, r, e, rfl, hl, ok, fin⟩ := h
  rw [l_storm] at fin
  refine rd_at (rd_when (b := !(kin n 0 100 && (kin r 0 500 && kin e 0 500))) (et_not (et_B (ev_callf (ea_cons (ev_var rfl) (ea_cons (ev_var rfl) (ea_cons (ev_var rfl) ea_nil))) (sv_are_steps n r e)))) ?_ ?_)
  · intro c
    rw [if_pos (bnot_t c)] at fin
    exact rd_ref (land_same rfl hl fin)
  intro c
  have c := bnot_f c
  rw [if_neg (by rw [c]; decide)] at fin
  rw [Bool.and_eq_true, Bool.and_eq_true] at c
  obtain ⟨n, rfl, en, n1, n2⟩ := kin_toNat c.1 (by decide)
  obtain ⟨r, rfl, er, r1, r2⟩ := kin_toNat c.2.1 (by decide)
  obtain ⟨e, rfl, ee, e1, e2⟩ := kin_toNat c.2.2 (by decide)
  rw [en, er, ee] at fin
  refine rd_chart T hl rfl (fun c => ?_) fun mp => ?_
  · rw [on_map_no c] at fin
    exact land_same rfl hl fin
  rw [on_map mp] at fin
  refine rd_seq (rd_forR (n := (n : Int)) (ev_var rfl) ⟨by omega, by omega⟩ (fun i σ H' => ∃ w4 w5 w6 : Option V, σ = [some (.ref y.L), some (.int n), some (.int r), some (.int e), w4, w5, w6] ∧ LandAt A H' y (st.storm r e i) ∧ Fr landTags y.ms H H')
    (fun H1 e1 => ⟨none, none, none, rfl, hl.mono e1, Fr.of_ex e1⟩) ?_ ?_)
  · rintro i σ H' hi ⟨w4, w5, w6, rfl, hla, fr⟩
    obtain ⟨okS, mpS⟩ := storm_ok r e i ok mp
    rw [storm_succ]
    generalize st.storm r e i = s at *
    have hil := hla.ins
    have hip := hla.pol.ins
    obtain ⟨sk1, sk2⟩ := step_ok okS.pol r e
    refine rd_at (rd_seq (rd_dropM (a := y.pol.p) (by fail "ev") (hm_Polder_step hip) (ea_cons (ev_var rfl) (ea_cons (ev_var rfl) ea_nil)) fun H1 e1 => ⟨y.pol, s.water, r, e, rfl, hla.pol.mono e1, okS.pol, by omega, by omega, fun H2 hp2 fr2 => ?_⟩))
    obtain ⟨hl2, fr3⟩ := (hla.mono e1).setPol (fr2.mono (fun _ q => q) fun b q => absurd q nomem) hp2 rfl rfl rfl rfl
    have hl2 : LandAt A H2 y (midS (s.water.step r e) s 0) := hl2
    have frA : Fr landTags y.ms H H2 := (fr.trans (Fr.of_ex e1)).trans fr3
    have mokj := fun j => mid_ok (j := j) okS mpS sk1 sk2
    have ml : y.sqs.length = s.map.length := by rw [(hl2.ch (mid_ne mpS)).2.len, mid_len]
    dsimp only
    have hm0 : MpAt A H2 y (midS (s.water.step r e) s 0) := ⟨hl2, mokj 0, mid_ne mpS⟩
    refine rd_at (rd_forL (l := y.c) (ev_chart T hm0 (ev_var rfl)) (sq_of hm0.ch) (fun j σ H3 => ∃ w5 w6 : Option V, σ = [some (.ref y.L), some (.int n), some (.int r), some (.int e), some (.int (i : Nat)), w5, w6] ∧ LandAt A H3 y (midS (s.water.step r e) s j) ∧ Fr landTags y.ms H H3)
      (fun H3 e3 => ⟨w5, w6, rfl, hl2.mono e3, frA.trans (Fr.of_ex e3)⟩) (fun j σ H3 _ ⟨_, _, _, l3, _⟩ => sq_of (l3.ch (mid_ne mpS)).1) ?_ ?_)
    · rintro j v σ H3 hv ⟨w5, w6, rfl, l3, fr3⟩
      obtain ⟨b, hb, rfl⟩ := at_refs hv
      have hj : j < s.map.length := by rw [← ml]; exact (List.getElem?_eq_some_iff.mp hb).1
      exact rd_at (soak T l3 (mokj j) mpS hb (List.getElem?_eq_getElem hj) rfl rfl (Nat.le_of_ble_eq_true rfl) fun H4 l4 f4 => ⟨_, _, rfl, l4, fr3.trans f4⟩)
    · rintro σ H3 ⟨w5, w6, rfl, l3, fr3⟩
      rw [len_refs, ml, mid_end] at l3
      exact ⟨_, _, _, rfl, l3, fr3⟩
  · rintro σ H' ⟨w4, w5, w6, rfl, hla, fr⟩
    rw [Int.toNat_natCast] at hla
    obtain ⟨okS, mpS⟩ := storm_ok r e n ok mp
    generalize st.storm r e n = s at *
    have hm : MpAt A H' y s := ⟨hla, okS, mpS⟩
    have hil := hla.ins
    have hip := hla.pol.ins
    dsimp only
    refine rd_at (rd_retLE (el_cat (xs := [.int (s.water.time : Nat)]) (el_lst (ea_cons (by fail "ev") ea_nil) (by simp)) (el_meth (ev_var rfl) (hm_Land_sums hil) ea_nil (sl_sums hm)) (by unfold Kg85.sumsOf Kg85.ints; rw [len_ints]; exact Nat.le_of_ble_eq_true rfl)) rfl (land_go hla rfl (fun b hb => .inl hb) fr fin))
end

/-! ### plain: two lists side by side -/
def zipG (a h : List Int) (i : Nat) : Option Kg85.Soil := match a[i]?, h[i]? with
  | some u, some v => some ⟨u.toNat, v.toNat, 0, 0⟩
  | _, _ => none
theorem zipG_range : ∀ (a h : List Int), a.length = h.length → (List.range a.length).filterMap (zipG a h) = (a.zip h).map fun x => (⟨x.1.toNat, x.2.toNat, 0, 0⟩ : Kg85.Soil)
  | [], [], _ => rfl
  | [], _ :: _, e => by simp at e
  | _ :: _, [], e => by simp at e
  | u :: a, v :: h, e => by
    rw [List.length_cons, List.range_succ_eq_map, List.filterMap_cons, List.filterMap_map]
    have e1 : zipG (u :: a) (v :: h) ∘ Nat.succ = zipG a h := by
      funext i
      show zipG (u :: a) (v :: h) (i + 1) = zipG a h i
      unfold zipG
      rw [List.getElem?_cons_succ, List.getElem?_cons_succ]
    have e2 : zipG (u :: a) (v :: h) 0 = some ⟨u.toNat, v.toNat, 0, 0⟩ := rfl
    rw [e1, e2, zipG_range a h (by simpa using e)]
    rfl
section
variable {A : Adr} {K : PySem.W.Frag} {mg : Str → Option Value} {σ : L2.St} {H H1 H' : Hp} {ta : TA} {tb tv te tl : TE} {D : Ends} {t u : TS} {y y' : LL} {st st' : Kg85.State} {a b dx : Addr} {x x' : Kg85.Soil} {k i : Nat} {fs : List (Str × V)}
/-- over zip of two lists, the body changes nothing that stood -/
theorem rd_forZ {j1 j2 : Nat} {xs ys : List V} (hx : EvA ta σ H [.ref a, .ref b]) (ha : SqL K H a xs) (hb : SqL K H b ys) (hl : xs.length = ys.length) (Iv : Nat → L2.St → Prop) (h0 : Iv 0 σ)
    (hs : ∀ (i : Nat) (v w : V) σ' Hc H1, xs[i]? = some v → ys[i]? = some w → Iv i σ' → Ex H Hc → Ex Hc H1 → Rd t { D with nx := fun σ2 H2 => Iv (i + 1) σ2 ∧ Ex Hc H2, ct := fun σ2 H2 => Iv (i + 1) σ2 ∧ Ex Hc H2, bk := D.nx } ((σ'.set j1 (some v)).set j2 (some w)) H1)
    (hd : ∀ σ' H1, Ex H H1 → Iv xs.length σ' → D.nx σ' H1) : Rd (tFor (iZip K ta) (gTup K 2 (gCons (gName j1) (gCons (gName j2) gNil))) t) D σ H := fun H0 e => hx H0 e _ fun H1 e1 => ⟨a, b, xs, ys, rfl, ex_l (e.trans e1) ha, ex_l (e.trans e1) hb, by
  refine RZ.for_zipL hl (fun i σ' H' => Iv i σ' ∧ Ex H1 H') ⟨h0, Ex.refl _⟩ (fun i σ' H' w => ⟨ex_l ((e.trans e1).trans w.2) ha, ex_l ((e.trans e1).trans w.2) hb⟩) (fun i x y T σ' H' hx hy w hT => ?_) (fun σ' H' w => hd σ' H' ((e.trans e1).trans w.2) w.1)
  refine ⟨T, _, rfl, st_of upd_same, rfl, _, _, rfl, _, _, rfl, rfl, ?_⟩
  exact rd_at (hs i x y σ' H1 _ hx hy w.1 (e.trans e1) (w.2.trans (Ex.new hT)))⟩
theorem all_more {α : Type} {f : α → Bool} {l : List α} {i : Nat} {x : α} (h : l[i]? = some x) (h0 : (l.take i).all f = true) (hx : f x = true) : (l.take (i + 1)).all f = true := by
  rw [take_more h, List.all_append, h0]
  simp [hx]
theorem l_map (st : Kg85.State) (a h : List Int) : Kg85.spec st (.map a h) = if st.plot.ground.squares = [] then (st, Kg85.num (-21)) else if st.mapped = true then (st, Kg85.num (-24))
    else if (decide (a.length = st.plot.ground.squares.length) && (decide (h.length = a.length) && (a.all (fun z => Kg85.within z 0 ((st.water.sections.length : Int) - 1)) && h.all fun z => Kg85.within z 0 10000))) = false then (st, Kg85.num (-20))
    else ({ st with map := (a.zip h).map fun x => ⟨x.1.toNat, x.2.toNat, 0, 0⟩ }, Kg85.num a.length) := rfl
theorem mapped_iff : st.mapped = true ↔ st.map ≠ [] := by
  unfold Kg85.State.mapped
  cases st.map <;> simp
theorem sec_within (st : Kg79.State) (z : Int) : Kg79.isSection st z = Kg85.within z 0 ((st.sections.length : Int) - 1) := by
  unfold Kg79.isSection Kg85.within
  congr 1
  exact decide_eq_decide.mpr ⟨fun h => by omega, fun h => by omega⟩
theorem put_chart (y : LL) (s : Kg85.State) (p : Addr) (as : List Addr) (m : List Kg85.Soil) (hm : m ≠ []) : putF "chart" (.ref p) (landF y s) = landF { y with c := p, sqs := as } { s with map := m } := by
  have e := put_ix (f := "chart") (v := .ref p) (i := 2) (landF_names y s) (by decide +kernel)
  rw [e]
  unfold landF
  rw [chV_mp (y := { y with c := p, sqs := as }) (st := { s with map := m }) hm]
  rfl
theorem no_lst {b : Addr} (h : H b = none) : ∀ xs, H b ≠ some (.lst xs) := fun xs z => by rw [h] at z; cases z
theorem ls_c {p : Addr} {as : List Addr} {b : Addr} (np : H p = none) (hb : b ∈ LL.ls { y with c := p, sqs := as }) : b ∈ y.ls ∨ ∀ xs, H b ≠ some (.lst xs) := by
  have hb : b = y.pol.t ∨ b = y.pol.s ∨ b = y.pol.d ∨ b = y.plo.sq ∨ b = y.plo.b ∨ b = p := by simpa [LL.ls] using hb
  rcases hb with rfl | rfl | rfl | rfl | rfl | rfl
  · exact .inl (by simp [LL.ls])
  · exact .inl (by simp [LL.ls])
  · exact .inl (by simp [LL.ls])
  · exact .inl (by simp [LL.ls])
  · exact .inl (by simp [LL.ls])
  · exact .inr (no_lst np)
theorem nd_new (h : LandAt A H y st) {p : Addr} (np : H p = none) : [y.pol.t, y.pol.s, y.pol.d, y.plo.sq, y.plo.b, p].Nodup := by
  have nd := h.nd
  have n1 : y.pol.t ≠ p := ne_of_none h.pol.ti np
  have n2 : y.pol.s ≠ p := ne_of_none h.pol.sl np
  have n3 : y.pol.d ≠ p := ne_of_none h.pol.dl np
  have n4 : y.plo.sq ≠ p := ne_of_none h.plo.sq np
  have n5 : y.plo.b ≠ p := ne_of_none h.plo.bl np
  simp only [List.nodup_cons, List.mem_cons, List.not_mem_nil, or_false, not_or, List.nodup_nil, and_true, not_false_eq_true] at nd ⊢
  obtain ⟨⟨a1, a2, a3, a4, a5⟩, ⟨b1, b2, b3, b4⟩, ⟨c1, c2, c3⟩, ⟨d1, d2⟩, e1⟩ := nd
  exact ⟨⟨a1, a2, a3, a4, n1⟩, ⟨b1, b2, b3, n2⟩, ⟨c1, c2, n3⟩, ⟨d1, n4⟩, n5⟩
theorem pure_Land_set_map (T : Txt K mg A) (vs : List V) (H : Hp) (Q : VK) (E : XK) (h : sp_Land_set_map A K vs H Q E) : t_Land_set_map A K (DE Q) (start N_Land_set_map vs) H := by
  obtain ⟨y, st, f, g, a, h, rfl, hf, hg, la, lh, hl, ok, fin⟩ := h
  have hi := hl.ins
  have hip := hl.plo.ins
  rw [l_map] at fin
  refine rd_at (rd_when (b := !decide (st.plot.ground.squares ≠ [])) (et_not (et_B (ev_meth (by fail "ev") (hm_Plot_has_ground hip) ea_nil (sv_has_ground hl.plo)))) ?_ ?_)
  · intro c
    have c := of_decide_eq_false (bnot_t c)
    rw [if_pos (Classical.not_not.mp c)] at fin
    exact rd_ref (land_same rfl hl fin)
  intro c
  have gr := of_decide_eq_true (bnot_f c)
  rw [if_neg gr] at fin
  refine rd_when (et_chartN T hl (ev_var rfl)) ?_ ?_
  · intro c
    have c := of_decide_eq_false (bnot_t c)
    rw [if_pos (mapped_iff.mpr c)] at fin
    exact rd_ref (land_same rfl hl fin)
  intro c
  have nm := of_decide_eq_true (bnot_f c)
  rw [if_neg (fun z => mapped_iff.mp z nm)] at fin
  have hsq : SqL K H y.plo.sq (natsV st.plot.ground.squares) := sq_of hl.plo.sq
  refine rd_asg (v := .int (st.plot.ground.squares.length : Nat)) (ev_eq (ev_len (by fail "ev") hsq) (by rw [len_nats])) ?_
  refine rd_when (b := !decide ((a.length : Int) = (st.plot.ground.squares.length : Int)) || !decide ((h.length : Int) = (st.plot.ground.squares.length : Int))) ?_ ?_ ?_
  · refine et_eq (et_or (et_test (ev_neI (ev_len (ev_var rfl) hf) (ev_var rfl))) fun _ => et_test (ev_neI (ev_len (ev_var rfl) hg) (ev_var rfl))) ?_
    rw [len_ints, len_ints]
  · intro c
    rw [if_pos] at fin
    · exact rd_ref (land_same rfl hl fin)
    · rw [Bool.or_eq_true] at c
      by_cases q : a.length = st.plot.ground.squares.length
      · rcases c with c | c
        · have := of_decide_eq_false (bnot_t c); omega
        · have := of_decide_eq_false (bnot_t c)
          rw [decide_eq_false (show ¬ h.length = a.length by omega), Bool.false_and, Bool.and_false]
      · rw [decide_eq_false q, Bool.false_and]
  intro c
  rw [Bool.or_eq_false_iff] at c
  have c1 : a.length = st.plot.ground.squares.length := by have := of_decide_eq_true (bnot_f c.1); omega
  have c2 : h.length = a.length := by have := of_decide_eq_true (bnot_f c.2); omega
  rw [decide_eq_true c1, decide_eq_true c2, Bool.true_and, Bool.true_and] at fin
  have lz : (intsV a).length = (intsV h).length := by rw [len_ints, len_ints, c2]
  refine rd_seq (rd_forZ (a := f) (b := g) (ea_cons (ev_var rfl) (ea_cons (ev_var rfl) ea_nil)) hf hg lz (fun i σ => ∃ w4 w5 : Option V, σ = [some (.ref y.L), some (.ref f), some (.ref g), some (.int (st.plot.ground.squares.length : Nat)), w4, w5] ∧
    (a.take i).all (fun z => Kg85.within z 0 ((st.water.sections.length : Int) - 1)) = true ∧ (h.take i).all (fun z => Kg85.within z 0 10000) = true) ⟨none, none, rfl, rfl, rfl⟩ ?_ ?_)
  · rintro i v w σ Hc H1 hv hw ⟨w4, w5, rfl, al, al2⟩ e1 e2
    obtain ⟨z, hz, rfl⟩ := at_ints hv
    obtain ⟨z2, hz2, rfl⟩ := at_ints hw
    have hl1 := hl.mono (e1.trans e2)
    have hi1 := hl1.ins
    have hip1 := hl1.pol.ins
    refine rd_if (b := !Kg79.isSection st.water z || !kin z2 0 10000) ?_ ?_ ?_
    · refine et_eq (et_or (et_not (et_B (ev_meth (by fail "ev") (hm_Polder_is_section hip1) (ea_cons (ev_var rfl) ea_nil) (sv_is_section hl1.pol z)))) fun _ => et_or (et_test (ev_lt (ev_var rfl) ev_c)) fun _ => et_test (ev_gt (ev_var rfl) ev_c)) ?_
      rw [kin_iff]
      simp
    · intro b
      rw [if_pos] at fin
      · exact rd_ref (land_same rfl hl1 (fin.mono (e1.trans e2)))
      · rw [Bool.or_eq_true] at b
        rw [Bool.and_eq_false_iff, List.all_eq_false, List.all_eq_false]
        rcases b with b | b
        · have b := bnot_t b
          rw [sec_within] at b
          exact .inl ⟨z, List.mem_of_getElem? hz, by rw [b]; decide⟩
        · exact .inr ⟨z2, List.mem_of_getElem? hz2, by rw [show Kg85.within z2 0 10000 = kin z2 0 10000 from rfl, bnot_t b]; decide⟩
    · intro b
      rw [Bool.or_eq_false_iff] at b
      have b1 := bnot_f b.1
      rw [sec_within] at b1
      exact rd_next fun H3 e3 => ⟨⟨_, _, rfl, all_more hz al b1, all_more hz2 al2 (bnot_f b.2)⟩, e2.trans e3⟩
  · rintro σ H1 e1 ⟨w4, w5, rfl, al, al2⟩
    rw [len_ints, List.take_length] at al
    rw [len_ints, List.take_of_length_le (by omega)] at al2
    rw [al, al2, if_neg (by decide)] at fin
    have hl1 := hl.mono e1
    have hi1 := hl1.ins
    have hmne : ((a.zip h).map fun x => (⟨x.1.toNat, x.2.toNat, 0, 0⟩ : Kg85.Soil)) ≠ [] := fun z => gr (by
      have := congrArg List.length z
      rw [List.length_map, List.length_zip] at this
      apply List.eq_nil_of_length_eq_zero
      have this : min a.length h.length = 0 := this
      omega)
    dsimp only
    refine rd_at (rd_seq (rd_fldN (ev_var rfl) hi1 T.Land.cl T.Land.n_chart (l1000 rfl) (en_lcZ (β := Kg85.Soil) (R := fun x a H => SoilAt A H a x) (gi := zipG a h) ⟨fun x a H H' ⟨d, hh⟩ k => ⟨d, k _ hh⟩, fun x a H ⟨d, hh⟩ => ⟨_, hh⟩⟩
      (ea_cons (ev_var rfl) (ea_cons (ev_var rfl) ea_nil)) (ex_l e1 hf) (ex_l e1 hg) lz (by rw [len_ints]; omega) (fun _ _ => rfl) (fun i v w H3 e3 hv hw => ?_) (fun i v w H3 x e3 hv hw hx => ?_)) fun p H3 H4 dx np e3 hn e4 ho4 => ?_))
    · obtain ⟨z, hz, rfl⟩ := at_ints hv
      obtain ⟨z2, hz2, rfl⟩ := at_ints hw
      refine et_eq et_yes ?_
      unfold zipG
      rw [hz, hz2]
      rfl
    · obtain ⟨z, hz, rfl⟩ := at_ints hv
      obtain ⟨z2, hz2, rfl⟩ := at_ints hw
      unfold zipG at hx
      rw [hz, hz2] at hx
      obtain rfl := Option.some.inj hx
      have k1 := List.all_eq_true.mp al z (List.mem_of_getElem? hz)
      have k2 := List.all_eq_true.mp al2 z2 (List.mem_of_getElem? hz2)
      simp only [Kg85.within, Bool.and_eq_true, decide_eq_true_eq] at k1 k2
      exact en_make (ea_cons (ev_eq (ev_var rfl) (show V.int z = V.int (z.toNat : Nat) by congr 1; omega)) (ea_cons (ev_eq (ev_var rfl) (show V.int z2 = V.int (z2.toNat : Nat) by congr 1; omega)) ea_nil)) ⟨z.toNat, z2.toNat, rfl, rfl⟩
    · obtain ⟨as, q1, q2, q3, q4, q5⟩ := hn
      rw [len_ints, zipG_range a h c2.symm] at q2 q5
      have e34 := e3.trans e4
      have np0 : H p = none := fresh_back e1 np
      obtain ⟨hl5, fr5⟩ := hl1.setOwn (y' := { y with c := p, sqs := as }) (st' := { st with map := (a.zip h).map fun x => ⟨x.1.toNat, x.2.toNat, 0, 0⟩ }) (dx := dx) e34 (put_chart y st p as _ hmne) rfl rfl rfl rfl rfl
        (fun _ => ⟨e4 _ _ q1, q2, q3, fun i b x hb hx => (q5 i b x hb hx).mono e4⟩) (nd_new hl np0)
      dsimp only
      refine rd_at (rd_retLE (el_lst (ea_cons (ev_var rfl) ea_nil) (by simp)) ?_ (land_go (y := y) (y' := { y with c := p, sqs := as }) hl5 rfl (fun b hb => ls_c np0 hb) ((Fr.of_ex e1).trans fr5) fin))
      show [V.int _] = [V.int _]
      rw [c1]
      rfl
theorem l_raise (st : Kg85.State) (x z h : Int) : Kg85.spec st (.raise x z h) = Kg85.onMap st fun _ => if (Kg85.isSquare st x z && Kg85.within h 1 5000) = false then (st, Kg85.num (-20)) else
    if 0 < st.plot.built (x.toNat, z.toNat) then (st, Kg85.num (-25)) else if 10000 < (st.soil (x.toNat, z.toNat)).height + h.toNat then (st, Kg85.num (-26)) else
    ({ st with map := st.map.set (st.at_ (x.toNat, z.toNat)) { st.soil (x.toNat, z.toNat) with height := (st.soil (x.toNat, z.toNat)).height + h.toNat, peak := (st.soil (x.toNat, z.toNat)).peak - h.toNat }, raised := st.raised + h.toNat },
      ⟨((st.raised + h.toNat : Nat) : Int), Kg85.sumsOf { st with map := st.map.set (st.at_ (x.toNat, z.toNat)) { st.soil (x.toNat, z.toNat) with height := (st.soil (x.toNat, z.toNat)).height + h.toNat, peak := (st.soil (x.toNat, z.toNat)).peak - h.toNat }, raised := st.raised + h.toNat }⟩) := rfl
theorem set_ok {s : Kg85.State} (ok : LandOk s) (mp : s.map ≠ []) {x x' : Kg85.Soil} {k r : Nat} (hx : s.map[k]? = some x) (e : x'.section_ = x.section_) : LandOk { s with map := s.map.set k x', raised := r } := by
  obtain ⟨m1, m2, m3⟩ := ok.map mp
  refine ⟨ok.pol, ok.plo, fun _ => ⟨m1, by dsimp only; rw [List.length_set]; exact m2, fun z hz => ?_⟩⟩
  rcases List.mem_or_eq_of_mem_set hz with hz | hz
  · exact m3 z hz
  · rw [hz, e]
    exact m3 x (List.mem_of_getElem? hx)
theorem pure_Land_lift (T : Txt K mg A) (vs : List V) (H : Hp) (Q : VK) (E : XK) (h : sp_Land_lift A K vs H Q E) : t_Land_lift A K (DE Q) (start N_Land_lift vs) H := by
  obtain ⟨y, st, x, z, h, rfl, hl, ok, fin⟩ := h
  rw [l_raise] at fin
  refine rd_at (rd_chart T hl rfl (fun c => ?_) fun mp => ?_)
  · rw [on_map_no c] at fin
    exact land_same rfl hl fin
  have hm : MpAt A H y st := ⟨hl, ok, mp⟩
  have hg := hm.gr
  have go := ok.plo.grOk hg.gr
  have hi := hl.ins
  have hip := hl.plo.ins
  rw [on_map mp, isSq_eq hg.gr] at fin
  refine rd_when (b := !thB st.plot x z || !kin h 1 5000) ?_ ?_ ?_
  · refine et_eq (et_or (et_not (et_B (ev_meth (by fail "ev") (hm_Plot_is_there hip) (ea_cons (ev_var rfl) (ea_cons (ev_var rfl) ea_nil)) (sv_is_there hl.plo x z)))) fun _ => et_or (et_test (ev_lt (ev_var rfl) ev_c)) fun _ => et_test (ev_gt (ev_var rfl) ev_c)) ?_
    rw [kin_iff]
    unfold thB
    simp
  · intro c
    rw [if_pos] at fin
    · exact rd_ref (land_same rfl hl fin)
    · rw [Bool.or_eq_true] at c
      rcases c with c | c
      · rw [bnot_t c, Bool.false_and]
      · rw [show Kg85.within h 1 5000 = kin h 1 5000 from rfl, bnot_t c, Bool.and_false]
  intro c
  rw [Bool.or_eq_false_iff] at c
  have c1 := bnot_f c.1
  have c2 := bnot_f c.2
  rw [c1, show Kg85.within h 1 5000 = kin h 1 5000 from rfl, c2, if_neg (by decide)] at fin
  obtain ⟨h, rfl, eh, h1, h2⟩ := kin_toNat c2 (by decide)
  rw [eh] at fin
  obtain ⟨k, hk, ek, ep, _⟩ := th_place hg.gr go c1
  obtain ⟨q, hq⟩ := map_at hm hk
  obtain ⟨b, hb, hso⟩ := hm.get hq
  have hqm := List.mem_of_getElem? hq
  have eat : st.at_ (pt st.plot.ground k) = k := lin_back k st.plot.ground.across
  rw [← ep, soil_pt hm hq, eat] at fin
  obtain ⟨a1, a2, a3, a4, a5⟩ := row_lt hg.ok hk
  have ea := acr_gr hg.gr
  refine rd_asg (v := .int (k : Nat)) (ev_eq (ev_meth (by fail "ev") (hm_Plot_place_of hip) (ea_cons (ev_var rfl) (ea_cons (ev_var rfl) ea_nil)) (sv_place_of hl.plo (by omega) x z)) (by rw [ek])) ?_
  refine rd_asg (v := .ref b) (ev_soil T hm (ev_var rfl) (ev_var rfl) hb) ?_
  refine rd_when (b := decide ((0 : Int) < (st.plot.built (pt st.plot.ground k) : Int))) (et_test (ev_gt (ev_meth (by fail "ev") (hm_Plot_floors_on hip) (ea_cons (ev_var rfl) ea_nil) (sv_floors_on hg hk)) ev_c)) ?_ ?_
  · intro c
    rw [if_pos (by have := of_decide_eq_true c; omega)] at fin
    exact rd_ref (land_same rfl hl fin)
  intro c
  rw [if_neg (by have := of_decide_eq_false c; omega)] at fin
  refine rd_when (b := decide ((10000 : Int) < (q.height : Int) + (h : Int))) (et_test (ev_gt (ev_add (by fail "ev") (ev_var rfl)) ev_c)) ?_ ?_
  · intro c
    rw [if_pos (by have := of_decide_eq_true c; omega)] at fin
    exact rd_ref (land_same rfl hl fin)
  intro c
  rw [if_neg (by have := of_decide_eq_false c; omega)] at fin
  refine rd_seq (rd_augA (p := (q.height : Int)) (q := (h : Int)) (ev_var rfl) hso T.Square.cl T.Square.n_height lk_Square_height (l1000 rfl) (ev_var rfl) fun H1 dx e1 ho1 => ?_)
  obtain ⟨l5, f5⟩ := hl.setSoil (x' := { q with height := q.height + h }) (dx := dx) mp hb hq e1 (put_height q (n := q.height + h) (by push_cast; rfl))
  generalize upd H1 b _ = H2 at l5 f5 ⊢
  have hx2 : (st.map.set k { q with height := q.height + h })[k]? = some { q with height := q.height + h } := List.getElem?_set_self (List.getElem?_eq_some_iff.mp hq).1
  have hso2 := soil_at l5 (set_ne mp) hb hx2
  dsimp only
  refine rd_at (rd_seq (rd_fldS (v := .int ((q.peak - h : Nat) : Int)) (ev_var rfl) hso2 T.Square.cl T.Square.n_peak (l1000 rfl) ?_ fun H3 dx3 e3 ho3 => ?_))
  · refine ev_eq (ev_max2 ev_c (ev_sub (ev_fld (ev_var rfl) (has_Square_peak T hso2)) (ev_var rfl))) ?_
    congr 1
    show max 0 ((q.peak : Int) - _) = _
    omega
  obtain ⟨l7, f7⟩ := l5.setSoil (x' := { q with height := q.height + h, peak := q.peak - h }) (dx := dx3) (set_ne mp) hb hx2 e3 (put_peak { q with height := q.height + h } (n := q.peak - h) rfl)
  generalize upd H3 b _ = H4 at l7 f7 ⊢
  have e9 : ({ { st with map := st.map.set k { q with height := q.height + h } } with map := (st.map.set k { q with height := q.height + h }).set k { q with height := q.height + h, peak := q.peak - h } } : Kg85.State) = { st with map := st.map.set k { q with height := q.height + h, peak := q.peak - h } } := by
    rw [List.set_set]
  rw [e9] at l7
  dsimp only
  refine rd_at (rd_seq (rd_augA (p := (st.raised : Int)) (q := (h : Int)) (ev_var rfl) l7.ins T.Land.cl T.Land.n_raised lk_Land_raised (l1000 rfl) (ev_var rfl) fun H5 dx5 e5 ho5 => ?_))
  obtain ⟨l8, f8⟩ := l7.setOwn (y' := y) (st' := { st with map := st.map.set k { q with height := q.height + h, peak := q.peak - h }, raised := st.raised + h }) (dx := dx5) e5 (put_raised y { st with map := st.map.set k { q with height := q.height + h, peak := q.peak - h } } (n := st.raised + h) (by push_cast; rfl)) rfl rfl rfl rfl rfl
    (fun w => ⟨e5 _ _ (l7.ch w).1, (l7.ch w).2.mono e5⟩) l7.nd
  generalize upd H5 y.L _ = H6 at l8 f8 ⊢
  have hm6 : MpAt A H6 y { st with map := st.map.set k { q with height := q.height + h, peak := q.peak - h }, raised := st.raised + h } := ⟨l8, set_ok ok mp hq rfl, set_ne mp⟩
  dsimp only
  refine rd_at (rd_retLE (el_cat (xs := [.int (st.raised + h : Nat)]) (el_lst (ea_cons (ev_fld (ev_var rfl) (has_Land_raised T l8.ins)) ea_nil) (by simp)) (el_meth (ev_var rfl) (hm_Land_sums l8.ins) ea_nil (sl_sums hm6)) (by unfold Kg85.sumsOf Kg85.ints; rw [len_ints]; exact Nat.le_of_ble_eq_true rfl)) rfl (land_go l8 rfl (fun b hb => .inl hb) ((f5.trans f7).trans f8) fin))
end

section
variable {A : Adr} {K : PySem.W.Frag} {mg : Str → Option Value} {σ : L2.St} {H H1 H' : Hp} {ts : TA} {ta tb tv te tl : TE} {D : Ends} {t u : TS} {y y' : LL} {st st' : Kg85.State} {a b p C dx : Addr} {k i : Nat} {fs : List (Str × V)} {pl : PL} {w : Kg79.State} {gl : GL} {g : Kg72.State}
theorem InsAt.apart {C2 q : Addr} {f2 : List (Str × V)} (h : InsAt C2 H q f2) (hp : H p = some (.ins C dx fs)) (n : fs.map (·.1) ≠ f2.map (·.1)) (ap : Apart H H' p) : InsAt C2 H' q f2 := by
  obtain ⟨d, e⟩ := h
  exact ⟨d, ap _ _ e (Ne.symm (ne_tag hp e n))⟩
theorem PolAt.apart (h : PolAt A H pl w) (hp : H p = some (.ins C dx fs)) (n1 : ∀ y s, fs.map (·.1) ≠ (polF y s).map (·.1)) (n2 : ∀ x, fs.map (·.1) ≠ (secF x).map (·.1)) (n3 : ∀ x, fs.map (·.1) ≠ (devF x).map (·.1)) (ap : Apart H H' p) : PolAt A H' pl w :=
  ⟨h.ins.apart hp (n1 _ _) ap, ap _ _ h.ti (ne_of h.ti hp (by intro z; cases z)), ap _ _ h.sl (ne_of h.sl hp (by intro z; cases z)), ap _ _ h.dl (ne_of h.dl hp (by intro z; cases z)),
    ⟨h.so.len, h.so.nd, fun i a x h1 h2 => (h.so.at_ i a x h1 h2).apart hp (n2 _) ap⟩, ⟨h.dv.len, h.dv.nd, fun i a x h1 h2 => (h.dv.at_ i a x h1 h2).apart hp (n3 _) ap⟩⟩
theorem PlotAt.apart (h : PlotAt A H gl g) (hp : H p = some (.ins C dx fs)) (n1 : ∀ y s, fs.map (·.1) ≠ (plotF y s).map (·.1)) (n2 : ∀ x, fs.map (·.1) ≠ (ruF x).map (·.1)) (n3 : ∀ x, fs.map (·.1) ≠ (blkF x).map (·.1)) (ap : Apart H H' p) : PlotAt A H' gl g :=
  ⟨h.ins.apart hp (n1 _ _) ap, ap _ _ h.sq (ne_of h.sq hp (by intro z; cases z)), h.ru.apart hp (n2 _) ap, ap _ _ h.bl (ne_of h.bl hp (by intro z; cases z)),
    ⟨h.bo.len, h.bo.nd, fun i a x h1 h2 => (h.bo.at_ i a x h1 h2).apart hp (n3 _) ap⟩⟩
/-- a new polder, its lists new -/
def NewPol (A : Adr) (H : Hp) (w : Kg79.State) (p : Addr) (H' : Hp) : Prop := ∃ pl, PolAt A H' pl w ∧ pl.p = p ∧ H pl.t = none ∧ H pl.s = none ∧ H pl.d = none ∧ pl.t ≠ pl.s ∧ pl.t ≠ pl.d ∧ pl.s ≠ pl.d
def NewPlo (A : Adr) (H : Hp) (g : Kg72.State) (p : Addr) (H' : Hp) : Prop := ∃ gl, PlotAt A H' gl g ∧ gl.q = p ∧ H gl.sq = none ∧ H gl.b = none ∧ gl.sq ≠ gl.b
theorem en_polder {l : List Nat} (h : EvL te σ H (natsV l)) : EvN (tMake A.c_Polder (sp_Polder___init__ A K) [] E0 (tCons te tNil)) σ H (NewPol A H { Kg79.init with tide := l }) :=
  en_makeP (P := fun vs H2 => ∃ t, vs = [.ref t] ∧ H2 t = some (.lst (natsV l)) ∧ H t = none)
    (fun H1 e Q q => h H1 e _ fun p H2 hp e2 h2 => q _ H2 e2 ⟨p, rfl, h2, fresh_back e hp⟩) fun vs x dx H2 Hm Q E e ⟨t, hv, ht, nt⟩ em nx hx k => ⟨x, dx, t, l, by rw [hv], hx, em _ _ ht, fun H' y hy q1 q2 q3 q4 q5 ap => k H' ap
      ⟨y, hy, q1, by rw [q2]; exact nt, fresh_back (e.trans em) q3, fresh_back (e.trans em) q4, by rw [q2]; exact ne_of_none (em _ _ ht) q3, by rw [q2]; exact ne_of_none (em _ _ ht) q4, q5⟩⟩
theorem en_plot {n : Nat} {l : List Nat} {tn : TE} (hn : Ev tn σ H (.int (n : Nat))) (h : EvL te σ H (natsV l)) (hl : l.length ≤ 150) (hz : ∀ z ∈ l, z ≤ 2) (hg : l = [] ∧ n = 0 ∨ l ≠ [] ∧ 1 ≤ n ∧ n ≤ 12 ∧ l.length % n = 0) :
    EvN (tMake A.c_Plot (sp_Plot___init__ A K) [] E0 (tCons tn (tCons te tNil))) σ H (NewPlo A H { Kg72.init with ground := if l = [] then Kg72.init.ground else ⟨n, l⟩ }) :=
  en_makeP (P := fun vs H2 => ∃ t, vs = [.int n, .ref t] ∧ H2 t = some (.lst (natsV l)) ∧ H t = none)
    (fun H1 e Q q => hn H1 e _ fun Ha ea => h Ha (e.trans ea) _ fun p H2 hp e2 h2 => q _ H2 (ea.trans e2) ⟨p, rfl, h2, fresh_back (e.trans ea) hp⟩) fun vs x dx H2 Hm Q E e ⟨t, hv, ht, nt⟩ em nx hx k => ⟨x, dx, t, n, l, by rw [hv], hx, em _ _ ht, hl, hz, hg, fun H' y hy q1 q2 q3 ap => k H' ap
      ⟨y, hy, q1, by rw [q2]; exact nt, fresh_back (e.trans em) q3, by rw [q2]; exact ne_of_none (em _ _ ht) q3⟩⟩
theorem sfld_newR {f : Str} {R : Addr → Hp → Prop} (cl : Cls K C) (hs : σ[0]? = some (some (.ref p))) (n : NoAttr K C f) (ev : EvN te σ H R) (hp : H p = some (.ins C dx fs)) (hn : (fs.map (·.1)).contains f = false) (hl : fs.length < 1000)
    (k : ∀ q H1 H', Ex H H1 → R q H1 → H1 p = some (.ins C dx fs) → Apart H1 H' p → H' p = some (.ins C dx (fs ++ [(f, .ref q)])) → D.nx σ H') : sFld K (tVar 0) te f D σ H := ev H (Ex.refl H) _ fun q H1 nq e1 hR =>
  ⟨.ref p, hs, p, C, dx, fs, rfl, e1 _ _ hp, cl, n, hl, by rw [put_new rfl hn]; exact k q H1 _ e1 hR (e1 _ _ hp) Apart.refl.upd upd_same⟩
theorem pure_Land___init__ (T : Txt K mg A) (vs : List V) (H : Hp) (Q : VK) (E : XK) (h : sp_Land___init__ A K vs H Q E) : t_Land___init__ A K (DE Q) (start N_Land___init__ vs) H := by
  obtain ⟨p, dx, rfl, hp, k⟩ := h
  refine seq_go (sfld_newR T.Land.cl rfl T.Land.n_polder (en_polder (l := []) (el_lst ea_nil (by decide))) hp rfl (l1000 rfl) fun q H1 H2 e1 hR hp1 ap2 hp2 => ?_)
  obtain ⟨pl, hpl, rfl, nt, ns, nd, n1, n2, n3⟩ := hR
  have hpl2 := hpl.apart hp1 (fun _ _ z => by cases z) (fun _ z => by cases z) (fun _ z => by cases z) ap2
  dsimp only
  refine seq_go (sfld_newR T.Land.cl rfl T.Land.n_plot (en_plot (n := 0) (l := []) ev_c (el_lst ea_nil (by decide)) (Nat.zero_le _) (fun z hz => by cases hz) (.inl ⟨rfl, rfl⟩)) hp2 (by show (["polder"] : List Str).contains "plot" = false; decide +kernel) (l1000 rfl) fun q H3 H4 e3 hR hp3 ap4 hp4 => ?_)
  obtain ⟨gl, hgl, rfl, nsq, nb, n4⟩ := hR
  have hgl4 := hgl.apart hp3 (fun _ _ z => by rw [plotF_names] at z; exact absurd (show (["polder"] : List Str) = _ from z) (by decide +kernel)) (fun _ z => by rw [ruF_names] at z; exact absurd (show (["polder"] : List Str) = _ from z) (by decide +kernel)) (fun _ z => by rw [blkF_names] at z; exact absurd (show (["polder"] : List Str) = _ from z) (by decide +kernel)) ap4
  have hpl3 := hpl2.mono e3
  have hpl4 := hpl3.apart hp3 (fun _ _ z => by rw [polF_names] at z; exact absurd (show (["polder"] : List Str) = _ from z) (by decide +kernel)) (fun _ z => by rw [secF_names] at z; exact absurd (show (["polder"] : List Str) = _ from z) (by decide +kernel)) (fun _ z => by rw [devF_names] at z; exact absurd (show (["polder"] : List Str) = _ from z) (by decide +kernel)) ap4
  dsimp only
  refine seq_go (sfld_go (H0 := H4) T.Land.cl rfl T.Land.n_chart ex_c Apart.refl hp4 (by show (["polder", "plot"] : List Str).contains "chart" = false; decide +kernel) (l1000 rfl) fun H5 ap5 hp5 => ?_)
  dsimp only
  refine sfld_go (H0 := H4) T.Land.cl rfl T.Land.n_raised ex_c ap5 hp5 (by show (["polder", "plot", "chart"] : List Str).contains "raised" = false; decide +kernel) (l1000 rfl) fun H6 ap6 hp6 => ?_
  have hpl6 := hpl4.apart hp4 (fun _ _ z => by rw [polF_names] at z; exact absurd (show (["polder", "plot"] : List Str) = _ from z) (by decide +kernel)) (fun _ z => by rw [secF_names] at z; exact absurd (show (["polder", "plot"] : List Str) = _ from z) (by decide +kernel)) (fun _ z => by rw [devF_names] at z; exact absurd (show (["polder", "plot"] : List Str) = _ from z) (by decide +kernel)) ap6
  have hgl6 := hgl4.apart hp4 (fun _ _ z => by rw [plotF_names] at z; exact absurd (show (["polder", "plot"] : List Str) = _ from z) (by decide +kernel)) (fun _ z => by rw [ruF_names] at z; exact absurd (show (["polder", "plot"] : List Str) = _ from z) (by decide +kernel)) (fun _ z => by rw [blkF_names] at z; exact absurd (show (["polder", "plot"] : List Str) = _ from z) (by decide +kernel)) ap6
  have ap02 : Apart H H2 p := fun b o hb nb => ap2 _ _ (e1 _ _ hb) nb
  have ap04 : Apart H H4 p := fun b o hb nb => ap4 _ _ (e3 _ _ (ap02 _ _ hb nb)) nb
  have back : ∀ {b : Addr}, H2 b = none → b ≠ p → H b = none := fun h n => ap02.free h n
  have sqp : gl.sq ≠ p := ne_of hgl6.sq hp6 (by intro z; cases z)
  have bp : gl.b ≠ p := ne_of hgl6.bl hp6 (by intro z; cases z)
  have tp : pl.t ≠ p := ne_of hpl6.ti hp6 (by intro z; cases z)
  have sp : pl.s ≠ p := ne_of hpl6.sl hp6 (by intro z; cases z)
  have dp : pl.d ≠ p := ne_of hpl6.dl hp6 (by intro z; cases z)
  refine k H6 ⟨p, pl, gl, p, []⟩ ⟨⟨dx, hp6⟩, hpl6, hgl6, fun z => absurd rfl z, ?_⟩ rfl ?_ (ap04.trans ap6)
  · show [pl.t, pl.s, pl.d, gl.sq, gl.b, p].Nodup
    have m1 : pl.t ≠ gl.sq := ne_of_none hpl2.ti nsq
    have m2 : pl.s ≠ gl.sq := ne_of_none hpl2.sl nsq
    have m3 : pl.d ≠ gl.sq := ne_of_none hpl2.dl nsq
    have m4 : pl.t ≠ gl.b := ne_of_none hpl2.ti nb
    have m5 : pl.s ≠ gl.b := ne_of_none hpl2.sl nb
    have m6 : pl.d ≠ gl.b := ne_of_none hpl2.dl nb
    simp only [List.nodup_cons, List.mem_cons, List.not_mem_nil, or_false, not_or, List.nodup_nil, and_true, not_false_eq_true]
    exact ⟨⟨n1, n2, m1, m4, tp⟩, ⟨n3, m2, m5, sp⟩, ⟨m3, m6, dp⟩, ⟨n4, sqp⟩, bp⟩
  · intro b hb
    have hb : b = pl.t ∨ b = pl.s ∨ b = pl.d ∨ b = gl.sq ∨ b = gl.b ∨ b = p := by simpa [LL.ls] using hb
    rcases hb with rfl | rfl | rfl | rfl | rfl | rfl
    · exact no_lst nt
    · exact no_lst ns
    · exact no_lst nd
    · exact no_lst (back nsq sqp)
    · exact no_lst (back nb bp)
    · exact fun xs z => by rw [hp] at z; cases z
theorem nd_of {t s d q b c : Addr} (a1 : t ≠ s) (a2 : t ≠ d) (a3 : t ≠ q) (a4 : t ≠ b) (a5 : t ≠ c) (b1 : s ≠ d) (b2 : s ≠ q) (b3 : s ≠ b) (b4 : s ≠ c) (c1 : d ≠ q) (c2 : d ≠ b) (c3 : d ≠ c) (d1 : q ≠ b) (d2 : q ≠ c) (e1 : b ≠ c) : [t, s, d, q, b, c].Nodup := by
  simp only [List.nodup_cons, List.mem_cons, List.not_mem_nil, or_false, not_or, List.nodup_nil, and_true, not_false_eq_true]
  exact ⟨⟨a1, a2, a3, a4, a5⟩, ⟨b1, b2, b3, b4⟩, ⟨c1, c2, c3⟩, ⟨d1, d2⟩, e1⟩
theorem LandAt.newPol (h : LandAt A H y st) (mp : st.map = []) (e : Ex H H1) (hp : PolAt A H1 pl w) (hf : fs = landF { y with pol := pl, c := y.L } { st with water := w }) (nt : H pl.t = none) (ns : H pl.s = none) (nd : H pl.d = none) (n1 : pl.t ≠ pl.s) (n2 : pl.t ≠ pl.d) (n3 : pl.s ≠ pl.d) :
    LandAt A (L2.upd H1 y.L (.ins A.c_Land dx fs)) { y with pol := pl, c := y.L } { st with water := w } ∧ Fr landTags y.ms H (L2.upd H1 y.L (.ins A.c_Land dx fs)) := by
  obtain ⟨d0, h0⟩ := h.ins
  have F : Fr ["polder"] [] H (L2.upd H1 y.L (.ins A.c_Land dx fs)) := (Fr.of_ex e).ins (f := "polder") h0 (List.mem_singleton.mpr rfl)
  have G : Fr ["polder"] [] H1 (L2.upd H1 y.L (.ins A.c_Land dx fs)) := Fr.refl.ins (f := "polder") (e _ _ h0) (List.mem_singleton.mpr rfl)
  refine ⟨⟨⟨dx, by rw [upd_same, hf]⟩, hp.fr (by decide) (by decide) (by decide) nomem nomem nomem G, h.plo.fr (by decide) (by decide) (by decide) nomem nomem F, fun q => absurd mp q, ?_⟩, F.mono (by decide) fun b hb => by cases hb⟩
  obtain ⟨⟨a1, a2, a3, a4, a5⟩, ⟨b1, b2, b3, b4⟩, ⟨c1, c2, c3⟩, ⟨d1, d2⟩, e1⟩ := h.nds
  have qL : y.plo.sq ≠ y.L := ne_of h.plo.sq h0 (by intro z; cases z)
  have bL : y.plo.b ≠ y.L := ne_of h.plo.bl h0 (by intro z; cases z)
  exact nd_of n1 n2 (Ne.symm (ne_of_none h.plo.sq nt)) (Ne.symm (ne_of_none h.plo.bl nt)) (Ne.symm (ne_of_none h0 nt)) n3 (Ne.symm (ne_of_none h.plo.sq ns)) (Ne.symm (ne_of_none h.plo.bl ns)) (Ne.symm (ne_of_none h0 ns)) (Ne.symm (ne_of_none h.plo.sq nd)) (Ne.symm (ne_of_none h.plo.bl nd)) (Ne.symm (ne_of_none h0 nd)) d1 qL bL
theorem LandAt.newPlo (h : LandAt A H y st) (mp : st.map = []) (e : Ex H H1) (hp : PlotAt A H1 gl g) (hf : fs = landF { y with plo := gl, c := y.L } { st with plot := g }) (ns : H gl.sq = none) (nd : H gl.b = none) (n1 : gl.sq ≠ gl.b) :
    LandAt A (L2.upd H1 y.L (.ins A.c_Land dx fs)) { y with plo := gl, c := y.L } { st with plot := g } ∧ Fr landTags y.ms H (L2.upd H1 y.L (.ins A.c_Land dx fs)) := by
  obtain ⟨d0, h0⟩ := h.ins
  have F : Fr ["polder"] [] H (L2.upd H1 y.L (.ins A.c_Land dx fs)) := (Fr.of_ex e).ins (f := "polder") h0 (List.mem_singleton.mpr rfl)
  have G : Fr ["polder"] [] H1 (L2.upd H1 y.L (.ins A.c_Land dx fs)) := Fr.refl.ins (f := "polder") (e _ _ h0) (List.mem_singleton.mpr rfl)
  refine ⟨⟨⟨dx, by rw [upd_same, hf]⟩, h.pol.fr (by decide) (by decide) (by decide) nomem nomem nomem F, hp.fr (by decide) (by decide) (by decide) nomem nomem G, fun q => absurd mp q, ?_⟩, F.mono (by decide) fun b hb => by cases hb⟩
  obtain ⟨⟨a1, a2, a3, a4, a5⟩, ⟨b1, b2, b3, b4⟩, ⟨c1, c2, c3⟩, ⟨d1, d2⟩, e1⟩ := h.nds
  have tL : y.pol.t ≠ y.L := ne_of h.pol.ti h0 (by intro z; cases z)
  have sL : y.pol.s ≠ y.L := ne_of h.pol.sl h0 (by intro z; cases z)
  have dL : y.pol.d ≠ y.L := ne_of h.pol.dl h0 (by intro z; cases z)
  exact nd_of a1 a2 (ne_of_none h.pol.ti ns) (ne_of_none h.pol.ti nd) tL b1 (ne_of_none h.pol.sl ns) (ne_of_none h.pol.sl nd) sL (ne_of_none h.pol.dl ns) (ne_of_none h.pol.dl nd) dL n1 (Ne.symm (ne_of_none h0 ns)) (Ne.symm (ne_of_none h0 nd))
theorem put_polder (y : LL) (s : Kg85.State) (pl : PL) (w : Kg79.State) (mp : s.map = []) : putF "polder" (.ref pl.p) (landF y s) = landF { y with pol := pl, c := y.L } { s with water := w } := by
  have e := put_ix (f := "polder") (v := .ref pl.p) (i := 0) (landF_names y s) (by decide +kernel)
  rw [e]
  unfold landF
  rw [chV_no mp, chV_no (st := { s with water := w }) mp]
  rfl
theorem put_plot (y : LL) (s : Kg85.State) (gl : GL) (g : Kg72.State) (mp : s.map = []) : putF "plot" (.ref gl.q) (landF y s) = landF { y with plo := gl, c := y.L } { s with plot := g } := by
  have e := put_ix (f := "plot") (v := .ref gl.q) (i := 1) (landF_names y s) (by decide +kernel)
  rw [e]
  unfold landF
  rw [chV_no mp, chV_no (st := { s with plot := g }) mp]
  rfl
/-! #### forms -/
theorem et_form {sp : Sp} {form : Int → Option (Int × Int)} (hsp : ∀ (n : Int) (H1 : Hp) (Q : VK) (E : XK), (form n = none → ∀ H2, Ex H1 H2 → Q .non H2) → (∀ a b, form n = some (a, b) → ∀ p H2, H1 p = none → Ex H1 H2 → H2 p = some (.tup [.int a, .int b]) → Q (.ref p) H2) → sp [.int n] H1 Q E)
    {n : Int} {f : Addr} {r : List Int} {rows : List (List Int)} (hn : Ev te σ H (.int n)) (h1 : σ[i]? = some (some (.ref f))) (hr : RowsAt K H f (r :: rows)) :
    EvT (tB (tCall (sp_is_call A K) [] E0 (tCons (tCall sp [] E0 (tCons te tNil)) (tCons (tVar i) tNil)))) σ H (match form n with | none => false | some (a, b) => decide (a = (r.length : Int) - 1) && decide (b = ((rows.length + 1 : Nat) : Int) - 1)) := fun H1 e Q q => hn H1 e _ fun H2 e2 => by
  have hrm : ∀ {H3 : Hp}, Ex H H3 → RowsAt K H3 f (r :: rows) := fun e => by
    obtain ⟨as, q1, q2, q3⟩ := hr
    exact ⟨as, ex_l e q1, q2, fun i a x h1 h2 => ex_l e (q3 i a x h1 h2)⟩
  refine hsp n H2 _ _ ?_ ?_
  · intro hf H3 e3
    rw [hf] at q
    refine ⟨.ref f, h1, ?_⟩
    exact ⟨_, ⟨.non, f, r, rows, none, rfl, hrm ((e.trans e2).trans e3), rfl, rfl⟩, fun H4 e4 => ⟨_, rfl, q H4 ((e2.trans e3).trans e4)⟩⟩
  · intro a b hf p H3 np e3 hp
    rw [hf] at q
    refine ⟨.ref f, h1, ?_⟩
    exact ⟨_, ⟨.ref p, f, r, rows, some (a, b), rfl, hrm ((e.trans e2).trans e3), ⟨p, rfl, st_of hp⟩, rfl⟩, fun H4 e4 => ⟨_, rfl, q H4 ((e2.trans e3).trans e4)⟩⟩
theorem rd_retMP {a : Addr} {m : Str} {sp : Sp} {P : List V → Hp → Prop} (ha : Ev ta' σ H (.ref a)) (hm : HasM H a C m) (h : ∀ H1, Ex H H1 → ∀ Q : List V → Hp → Prop, (∀ vs H2, Ex H1 H2 → P vs H2 → Q vs H2) → ts σ H1 Q)
    (hs : ∀ vs H1, Ex H H1 → P vs H1 → sp (.ref a :: vs) H1 D.rt E0) : Rd (tRet (tMeth C m sp [] E0 ta' ts)) D σ H := fun H1 e => ha H1 e _ fun H2 e2 => by
  obtain ⟨dx, fs, ho, l⟩ := hm.ex
  refine ⟨a, dx, fs, rfl, (e.trans e2) _ _ ho, l, ?_⟩
  refine h H2 (e.trans e2) _ fun vs H3 e3 hP => ?_
  rw [List.append_nil]
  exact hs vs H3 ((e.trans e2).trans e3) hP
end

section
variable {A : Adr} {K : PySem.W.Frag} {mg : Str → Option Value} {σ : L2.St} {H H1 H' : Hp} {y y' : LL} {st st' : Kg85.State} {a b p f : Addr} {i : Nat} {r : List Int} {rows : List (List Int)} {te : TE}
theorem rows_mono (e : Ex H H1) (h : RowsAt K H f rows) : RowsAt K H1 f rows := by
  obtain ⟨as, q1, q2, q3⟩ := h
  exact ⟨as, ex_l e q1, q2, fun i a x h1 h2 => ex_l e (q3 i a x h1 h2)⟩
theorem row_at (h : RowsAt K H f rows) (hr : rows[i]? = some r) : ∃ a, (∀ {te : TE} {tb : TE} {σ : L2.St}, Ev te σ H (.ref f) → Ev tb σ H (.int (i : Nat)) → Ev (tOp (rIxL K) te tb) σ H (.ref a)) ∧ SqL K H a (intsV r) := by
  obtain ⟨as, q1, q2, q3⟩ := h
  have hi : i < as.length := by rw [q2]; exact (List.getElem?_eq_some_iff.mp hr).1
  have ha := List.getElem?_eq_getElem hi
  exact ⟨as[i], fun h1 h2 => ev_ixL h1 h2 q1 (atI_nat (refs_at ha)), q3 i _ r ha hr⟩
theorem rows_len (h : RowsAt K H f rows) : ∃ l : List V, SqL K H f l ∧ l.length = rows.length := by
  obtain ⟨as, q1, q2, q3⟩ := h
  exact ⟨_, q1, by rw [len_refs, q2]⟩
theorem row_last (h : RowsAt K H f (r :: rows)) (hl : (r :: rows).length ≤ 2) : ∃ (rl : List Int) (a : Addr), (r :: rows).getLast? = some rl ∧ (∀ {te : TE} {σ : L2.St}, Ev te σ H (.ref f) → Ev (tOp (rIxL K) te (tUn rNegI (tC (.int 1)))) σ H (.ref a)) ∧ SqL K H a (intsV rl) := by
  obtain ⟨as, q1, q2, q3⟩ := h
  cases rows with
  | nil =>
    obtain ⟨a, rfl⟩ := len1 (l := as) q2
    exact ⟨r, a, rfl, fun h1 => ev_ixL h1 (ev_neg ev_c) q1 (by rfl), q3 0 a r rfl rfl⟩
  | cons s t =>
    have ht : t = [] := len0 (by simp only [List.length_cons] at hl; omega)
    subst ht
    obtain ⟨a, b, rfl⟩ := len2 (l := as) q2
    exact ⟨s, b, rfl, fun h1 => ev_ixL h1 (ev_neg ev_c) q1 (by rfl), q3 1 b s rfl rfl⟩
theorem l_water (st : Kg85.State) (rows : List (List Int)) : Kg85.spec st (.water rows) = (match Kg85.waterOf rows with
    | none => (st, Kg85.num (-23))
    | some q => if st.mapped = true ∧ Kg85.fixesWater q = true then (st, Kg85.num (-24)) else ({ st with water := (Kg79.spec st.water q).1 }, ⟨(Kg79.spec st.water q).2.value, (Kg79.spec st.water q).2.out⟩)) := rfl
theorem l_plot (st : Kg85.State) (rows : List (List Int)) : Kg85.spec st (.plot rows) = (match Kg85.plotOf rows with
    | none => (st, Kg85.num (-23))
    | some q => if st.mapped = true ∧ Kg85.fixesPlot q = true then (st, Kg85.num (-24)) else ({ st with plot := (Kg72.spec st.plot q).1 }, ⟨(Kg72.spec st.plot q).2.value, (Kg72.spec st.plot q).2.out⟩)) := rfl
def frmB (o : Option (Int × Int)) (ns : List Int) (rest : List (List Int)) : Bool := match o with | none => false | some (a, b) => decide (a = (ns.length : Int)) && decide (b = (rest.length : Int))
theorem frm_eq (o : Option (Int × Int)) (n : Int) (ns : List Int) (rest : List (List Int)) : (match o with | none => false | some (a, b) => decide (a = ((n :: ns).length : Int) - 1) && decide (b = ((rest.length + 1 : Nat) : Int) - 1)) = frmB o ns rest := by
  unfold frmB
  cases o with
  | none => rfl
  | some z =>
    obtain ⟨a, b⟩ := z
    dsimp only
    have e1 : ((n :: ns).length : Int) - 1 = ns.length := by rw [List.length_cons]; omega
    have e2 : ((rest.length + 1 : Nat) : Int) - 1 = rest.length := by omega
    rw [e1, e2]
theorem frm_t {o : Option (Int × Int)} {ns : List Int} {rest : List (List Int)} (h : frmB o ns rest = true) : o = some ((ns.length : Int), (rest.length : Int)) := by
  unfold frmB at h
  cases o with
  | none => cases h
  | some z =>
    obtain ⟨a, b⟩ := z
    dsimp only at h
    rw [Bool.and_eq_true] at h
    rw [of_decide_eq_true h.1, of_decide_eq_true h.2]
theorem frm_f {o : Option (Int × Int)} {ns : List Int} {rest : List (List Int)} (h : frmB o ns rest = false) : o ≠ some ((ns.length : Int), (rest.length : Int)) := fun z => by
  rw [z] at h
  unfold frmB at h
  dsimp only at h
  rw [decide_eq_true rfl, decide_eq_true rfl] at h
  cases h
theorem ints_nats {l : List Int} (h : ∀ z ∈ l, 0 ≤ z) : intsV l = natsV (l.map Int.toNat) := by
  unfold intsV natsV
  rw [List.map_map]
  refine List.map_congr_left fun z hz => ?_
  have := h z hz
  show V.int z = V.int (z.toNat : Nat)
  congr 1
  omega
theorem pure_Land_water_call (T : Txt K mg A) (vs : List V) (H : Hp) (Q : VK) (E : XK) (h : sp_Land_water_call A K vs H Q E) : t_Land_water_call A K (DE Q) (start N_Land_water_call vs) H := by
  obtain ⟨y, st, f, rows, rfl, hr, r1, r2, r3, hl, ok, fin⟩ := h
  have hi := hl.ins
  have hip := hl.pol.ins
  rw [l_water] at fin
  obtain ⟨r0, rest, rfl⟩ : ∃ r0 rest, rows = r0 :: rest := by
    cases rows with
    | nil => simp at r1
    | cons a b => exact ⟨a, b, rfl⟩
  obtain ⟨a0, ev0, hs0⟩ := row_at (i := 0) hr rfl
  obtain ⟨lf, hlf, elf⟩ := rows_len hr
  cases r0 with
  | nil =>
    rw [water_nil] at fin
    refine rd_at (rd_when (b := true) ?_ (fun _ => rd_ref (land_same rfl hl fin)) (fun z => by cases z))
    have : EvT (tTest (tOp rEq (tCB (rLenS K) (tCons (tOp (rIxL K) (tVar 1) (tC (.int 0))) (tNil))) (tC (.int 0)))) (L2.start N_Land_water_call [V.ref y.L, V.ref f]) H true := et_eq (et_test (ev_eqI (ev_len (ev0 (ev_var rfl) ev_c) hs0) ev_c)) rfl
    exact et_eq (et_or (b := true) this (fun z => by cases z)) rfl
  | cons n ns =>
  have ev00 : ∀ {σ : L2.St}, σ[1]? = some (some (.ref f)) → Ev (tOp (rIxL K) (tOp (rIxL K) (tVar 1) (tC (.int 0))) (tC (.int 0))) σ H (.int n) := fun h1 => ev_ixL (i := ((0 : Nat) : Int)) (ev0 (ev_var h1) ev_c) ev_c hs0 (atI_nat rfl)
  refine rd_at (rd_when (b := !frmB (polForm n) ns rest) ?_ ?_ ?_)
  · refine et_eq (et_or (et_test (ev_eqI (ev_len (ev0 (ev_var rfl) ev_c) hs0) ev_c)) fun _ => et_not (et_eq (et_form (form := polForm) (fun n H1 Q E h1 h2 => ⟨n, rfl, h1, h2⟩) (ev00 rfl) rfl hr) (frm_eq (polForm n) n ns rest))) ?_
    rw [len_ints, decide_eq_false (by rw [List.length_cons]; omega)]
    rfl
  · intro c
    rw [water_no (frm_f (bnot_t c))] at fin
    exact rd_ref (land_same rfl hl fin)
  intro c
  have hfm := frm_t (bnot_f c)
  obtain ⟨q, hq⟩ := water_bwd hfm
  rw [hq] at fin
  dsimp only at fin
  have hfx : Kg85.fixesWater q = true ↔ n = 1 ∨ n = 2 ∨ n = 8 := by
    rcases water_fwd hq with ⟨rfl, rfl, l, rfl, rfl⟩ | ⟨h1, _, _, _, h2⟩
    · simp [Kg85.fixesWater]
    · rw [h2]
      exact ⟨fun z => .inr z, fun z => z.resolve_left h1⟩
  refine rd_asg (v := .int n) (ev00 rfl) ?_
  refine rd_when (b := !decide (st.map = []) && decide (n ∈ [(1 : Int), 2, 8])) (et_and (et_chartN T hl (ev_var rfl)) fun _ => et_test (ev_inI [1, 2, 8] (ev_var rfl) (eu_ints [1, 2, 8] (ea_cons ev_c (ea_cons ev_c (ea_cons ev_c ea_nil))) (by simp)))) ?_ ?_
  · intro c
    rw [Bool.and_eq_true] at c
    have c1 := of_decide_eq_false (bnot_t c.1)
    have c2 := of_decide_eq_true c.2
    rw [if_pos ⟨mapped_iff.mpr c1, hfx.mpr (by simpa using c2)⟩] at fin
    exact rd_ref (land_same rfl hl fin)
  intro c
  have c : ¬ (st.mapped = true ∧ Kg85.fixesWater q = true) := by
    rintro ⟨z1, z2⟩
    rw [decide_eq_false (mapped_iff.mp z1), decide_eq_true (show n ∈ [(1 : Int), 2, 8] by simpa using hfx.mp z2)] at c
    cases c
  rw [if_neg c] at fin
  rcases water_fwd hq with ⟨rfl, rfl, l, rfl, rfl⟩ | ⟨h1, rfl, hc, _, _⟩
  · have mp : st.map = [] := Classical.byContradiction fun z => c ⟨mapped_iff.mpr z, rfl⟩
    obtain ⟨a1, ev1, hs1⟩ := row_at (i := 1) hr rfl
    have hz : Kg79.spec st.water (.begin_ l) = (if (l.all (fun z => kin z 0 10000) && decide (l.length ≤ 30)) = false then (st.water, Kg79.num (-1)) else ({ Kg79.init with tide := l.map Int.toNat }, Kg79.num 0)) := rfl
    rw [hz] at fin
    refine rd_hit rfl ?_
    refine rd_when (b := !(l.all (fun z => kin z 0 10000) && decide (l.length ≤ 30))) (et_not (et_B (ev_callf (ea_cons (ev1 (ev_var rfl) ev_c) ea_nil) (spv_of fun H1 e => ⟨a1, l, rfl, ex_l e hs1, rfl⟩)))) ?_ ?_
    · intro c
      rw [if_pos (bnot_t c)] at fin
      exact rd_ref (land_same rfl hl fin)
    · intro c
      have c := bnot_f c
      rw [if_neg (by rw [c]; decide)] at fin
      rw [Bool.and_eq_true, List.all_eq_true] at c
      have hln : intsV l = natsV (l.map Int.toNat) := ints_nats fun z hz => (kin_t (c.1 z hz)).1
      rw [hln] at hs1
      refine rd_seq (rd_fldN (ev_var rfl) hi T.Land.cl T.Land.n_polder (l1000 rfl) (en_polder (l := l.map Int.toNat) (el_list (ev1 (ev_var rfl) ev_c) hs1)) fun p H0 H1 dx np e0 hR e1 ho => ?_)
      obtain ⟨pl, hpl, rfl, nt, ns, nd, n1, n2, n3⟩ := hR
      obtain ⟨hl2, fr2⟩ := hl.newPol (dx := dx) mp (e0.trans e1) (hpl.mono e1) (put_polder y st pl _ mp) nt ns nd n1 n2 n3
      dsimp only
      refine rd_at (rd_retL (xs := [.int 0]) (el_lst (ea_cons ev_c ea_nil) (by simp)) (land_go (y := y) (y' := { y with pol := pl, c := y.L }) hl2 rfl (fun b hb => ?_) fr2 fin))
      have hb : b = pl.t ∨ b = pl.s ∨ b = pl.d ∨ b = y.plo.sq ∨ b = y.plo.b ∨ b = y.L := by simpa [LL.ls] using hb
      rcases hb with rfl | rfl | rfl | rfl | rfl | rfl
      · exact .inr (no_lst nt)
      · exact .inr (no_lst ns)
      · exact .inr (no_lst nd)
      · exact .inl (by simp [LL.ls])
      · exact .inl (by simp [LL.ls])
      · exact .inr (fun xs z => by
          obtain ⟨d, q⟩ := hl.ins
          rw [q] at z
          cases z)
  · refine rd_skip rfl h1 ?_
    obtain ⟨⟨a1, a2, a3, a4, a5⟩, ⟨b1, b2, b3, b4⟩, ⟨c1, c2, c3⟩, ⟨d1, d2⟩, e1⟩ := hl.nds
    refine rd_retMP (a := y.pol.p) (P := fun vs H2 => ∃ g, vs = [.int n, .ref g] ∧ SqL K H2 g (intsV ns)) (by fail "ev") (hm_Polder_answer hip) (fun H1 e Q q => ?_) fun vs H1 e ⟨g, hv, hg⟩ => ?_
    · refine cons_go ?_
      refine ⟨.int n, rfl, ?_⟩
      refine cons_go ?_
      have hsl : EvL (tSl (rSlL K) (tOp (rIxL K) (tVar 1) (tC (V.int 0))) (tPart (tC (V.int 1))) tNoPart) ((L2.start N_Land_water_call [V.ref y.L, V.ref f]).set 2 (some (.int n))) H (intsV ns) := by
        refine el_eq (el_sl (lo := some ((1 : Nat) : Int)) (ev0 (ev_var rfl) ev_c) (eo_some ev_c) eo_none hs0) ?_
        rw [cut_from]
        rfl
      exact hsl H1 e _ fun g H2 ng e2 hg => q _ H2 e2 ⟨g, rfl, sq_of hg⟩
    · rw [hv]
      refine ⟨y.pol, st.water, n, g, ns, q, rfl, hg, hc, hl.pol.mono e, ok.pol, ?_, fun H2 pl r hp2 q1 q2 q3 q4 hr2 fr2 nl => ?_⟩
      · simp only [List.nodup_cons, List.mem_cons, List.not_mem_nil, or_false, not_or, List.nodup_nil, and_true, not_false_eq_true]
        exact ⟨⟨a1, a2⟩, b1⟩
      · obtain ⟨hl2, fr3⟩ := (hl.mono e).setPol fr2 hp2 q1 q2 q3 q4
        refine fin H2 { y with pol := pl } r hl2 rfl (fun b hb => ?_) hr2 ((Fr.of_ex e).trans fr3) ((nl.mono e).sub fun b q => by
          have q : b = y.pol.s ∨ b = y.pol.d := by simpa using q
          rcases q with rfl | rfl <;> simp [LL.ms])
        refine .inl ?_
        have hb : b = pl.t ∨ b = pl.s ∨ b = pl.d ∨ b = y.plo.sq ∨ b = y.plo.b ∨ b = y.c := by simpa [LL.ls] using hb
        rw [q2, q3, q4] at hb
        simpa [LL.ls] using hb
theorem pure_Land_plot_call (T : Txt K mg A) (vs : List V) (H : Hp) (Q : VK) (E : XK) (h : sp_Land_plot_call A K vs H Q E) : t_Land_plot_call A K (DE Q) (start N_Land_plot_call vs) H := by
  obtain ⟨y, st, f, rows, rfl, hr, r1, r2, r3, hl, ok, fin⟩ := h
  have hi := hl.ins
  have hip := hl.plo.ins
  rw [l_plot] at fin
  obtain ⟨r0, rest, rfl⟩ : ∃ r0 rest, rows = r0 :: rest := by
    cases rows with
    | nil => simp at r1
    | cons a b => exact ⟨a, b, rfl⟩
  obtain ⟨a0, ev0, hs0⟩ := row_at (i := 0) hr rfl
  cases r0 with
  | nil =>
    rw [plot_nil] at fin
    refine rd_at (rd_when (b := true) ?_ (fun _ => rd_ref (land_same rfl hl fin)) (fun z => by cases z))
    have : EvT (tTest (tOp rEq (tCB (rLenS K) (tCons (tOp (rIxL K) (tVar 1) (tC (.int 0))) (tNil))) (tC (.int 0)))) (L2.start N_Land_plot_call [V.ref y.L, V.ref f]) H true := et_eq (et_test (ev_eqI (ev_len (ev0 (ev_var rfl) ev_c) hs0) ev_c)) rfl
    exact et_eq (et_or (b := true) this (fun z => by cases z)) rfl
  | cons n ns =>
  have ev00 : ∀ {σ : L2.St}, σ[1]? = some (some (.ref f)) → Ev (tOp (rIxL K) (tOp (rIxL K) (tVar 1) (tC (.int 0))) (tC (.int 0))) σ H (.int n) := fun h1 => ev_ixL (i := ((0 : Nat) : Int)) (ev0 (ev_var h1) ev_c) ev_c hs0 (atI_nat rfl)
  refine rd_at (rd_when (b := !frmB (ploForm n) ns rest) ?_ ?_ ?_)
  · refine et_eq (et_or (et_test (ev_eqI (ev_len (ev0 (ev_var rfl) ev_c) hs0) ev_c)) fun _ => et_not (et_eq (et_form (form := ploForm) (fun n H1 Q E h1 h2 => ⟨n, rfl, h1, h2⟩) (ev00 rfl) rfl hr) (frm_eq (ploForm n) n ns rest))) ?_
    rw [len_ints, decide_eq_false (by rw [List.length_cons]; omega)]
    rfl
  · intro c
    rw [plot_no (frm_f (bnot_t c))] at fin
    exact rd_ref (land_same rfl hl fin)
  intro c
  have hfm := frm_t (bnot_f c)
  obtain ⟨q, hq⟩ := plot_bwd hfm
  rw [hq] at fin
  dsimp only at fin
  refine rd_asg (v := .int n) (ev00 rfl) ?_
  rcases plot_fwd hq with ⟨rfl, z, l, rfl, rfl, rfl⟩ | ⟨h1, hc, _, hnf⟩
  · refine rd_hit rfl ?_
    refine rd_when (et_chartN T hl (ev_var rfl)) ?_ ?_
    · intro c
      rw [if_pos ⟨mapped_iff.mpr (of_decide_eq_false (bnot_t c)), rfl⟩] at fin
      exact rd_ref (land_same rfl hl fin)
    intro c
    have mp := of_decide_eq_true (bnot_f c)
    rw [if_neg (fun w => mapped_iff.mp w.1 mp)] at fin
    obtain ⟨a1, ev1, hs1⟩ := row_at (i := 1) hr rfl
    have ev01 : ∀ {σ : L2.St}, σ[1]? = some (some (.ref f)) → Ev (tOp (rIxL K) (tOp (rIxL K) (tVar 1) (tC (.int 0))) (tC (.int 1))) σ H (.int z) := fun h1 => ev_ixL (i := ((1 : Nat) : Int)) (ev0 (ev_var h1) ev_c) ev_c hs0 (atI_nat rfl)
    have ll : l.length ≤ 150 := r3 l (by simp)
    have hz : Kg72.spec st.plot (.ground z l) = (if squareOk Kg72.init l z = false then (st.plot, Kg72.num (-1)) else ({ Kg72.init with ground := ⟨z.toNat, l.map Int.toNat⟩ }, Kg72.num (Kg72.State.area { Kg72.init with ground := ⟨z.toNat, l.map Int.toNat⟩ } : Nat))) := rfl
    rw [hz] at fin
    refine rd_when (b := !squareOk Kg72.init l z) (et_not (et_B (ev_callf (ea_cons (ev01 rfl) (ea_cons (ev1 (ev_var rfl) ev_c) ea_nil)) (spv_of fun H1 e => ⟨z, a1, l, rfl, ex_l e hs1, ll, rfl⟩)))) ?_ ?_
    · intro c
      rw [if_pos (bnot_t c)] at fin
      exact rd_ref (land_same rfl hl fin)
    intro c
    have c := bnot_f c
    rw [if_neg (by rw [c]; decide)] at fin
    obtain ⟨_, k1, k2, k3, k4, k5, k6, k7⟩ := plot_ok_ground (st := st.plot) (g := st.plot.ground) c
    have hln : intsV l = natsV (l.map Int.toNat) := ints_nats fun z hz => (k6 z hz).1
    rw [hln] at hs1
    have lne : l.map Int.toNat ≠ [] := fun w => k2 (List.map_eq_nil_iff.mp w)
    refine rd_seq (rd_fldN (ev_var rfl) hi T.Land.cl T.Land.n_plot (l1000 rfl) (en_plot (n := z.toNat) (l := l.map Int.toNat) (ev_eq (ev01 rfl) (by rw [← k7])) (el_list (ev1 (ev_var rfl) ev_c) hs1) (by rw [List.length_map]; exact ll)
      (fun w hw => by
        obtain ⟨v, hv, rfl⟩ := List.mem_map.mp hw
        have := k6 v hv
        omega) (.inr ⟨lne, k3, k4, by rw [List.length_map]; exact k5⟩)) fun p H0 H1 dx np e0 hR e1 ho => ?_)
    rw [if_neg lne] at hR
    obtain ⟨gl, hgl, rfl, ns, nb, n1⟩ := hR
    obtain ⟨hl2, fr2⟩ := hl.newPlo (dx := dx) mp (e0.trans e1) (hgl.mono e1) (put_plot y st gl _ mp) ns nb n1
    generalize upd H1 y.L _ = H2 at hl2 fr2 ⊢
    dsimp only
    have hi2 := hl2.ins
    have hip2 := hl2.plo.ins
    refine rd_at (rd_retL (el_lst (ea_cons (ev_fld (ev_fld (ev_var rfl) (has_Land_plot T hi2)) (has_Plot_area T hip2)) ea_nil) (by simp)) (land_go (y := y) (y' := { y with plo := gl, c := y.L }) hl2 rfl (fun b hb => ?_) fr2 fin))
    have hb : b = y.pol.t ∨ b = y.pol.s ∨ b = y.pol.d ∨ b = gl.sq ∨ b = gl.b ∨ b = y.L := by simpa [LL.ls] using hb
    rcases hb with rfl | rfl | rfl | rfl | rfl | rfl
    · exact .inl (by simp [LL.ls])
    · exact .inl (by simp [LL.ls])
    · exact .inl (by simp [LL.ls])
    · exact .inr (no_lst ns)
    · exact .inr (no_lst nb)
    · exact .inr (fun xs z => by
        obtain ⟨d, q⟩ := hl.ins
        rw [q] at z
        cases z)
  · rw [if_neg (fun w => by rw [hnf] at w; cases w.2)] at fin
    refine rd_skip rfl h1 ?_
    obtain ⟨⟨a1, a2, a3, a4, a5⟩, ⟨b1, b2, b3, b4⟩, ⟨c1, c2, c3⟩, ⟨d1, d2⟩, e1⟩ := hl.nds
    obtain ⟨rl, al, hrl, evl, hsl⟩ := row_last hr r2
    refine rd_retMP (a := y.plo.q) (P := fun vs H2 => ∃ g, vs = [.int n, .ref g, .ref al] ∧ SqL K H2 g (intsV ns)) (by fail "ev") (hm_Plot_answer hip) (fun H1 e Q q => ?_) fun vs H1 e ⟨g, hv, hg⟩ => ?_
    · refine cons_go ?_
      refine ⟨.int n, rfl, ?_⟩
      refine cons_go ?_
      have hsl : EvL (tSl (rSlL K) (tOp (rIxL K) (tVar 1) (tC (V.int 0))) (tPart (tC (V.int 1))) tNoPart) ((L2.start N_Land_plot_call [V.ref y.L, V.ref f]).set 2 (some (.int n))) H (intsV ns) := by
        refine el_eq (el_sl (lo := some ((1 : Nat) : Int)) (ev0 (ev_var rfl) ev_c) (eo_some ev_c) eo_none hs0) ?_
        rw [cut_from]
        rfl
      refine hsl H1 e _ fun g H2 ng e2 hg => ?_
      refine cons_go ?_
      exact evl (ev_var rfl) H2 (e.trans e2) _ fun H3 e3 => q _ H3 (e2.trans e3) ⟨g, rfl, sq_of (e3 _ _ hg)⟩
    · rw [hv]
      refine ⟨y.plo, st.plot, n, g, al, ns, rl, q, rfl, hg, ex_l e hsl, hc rl hrl, hl.plo.mono e, ok.plo, d1, fun H2 gl r hp2 q1 q2 q3 hr2 fr2 nl => ?_⟩
      obtain ⟨hl2, fr3⟩ := (hl.mono e).setPlo fr2 hp2 q1 q2 q3
      refine fin H2 { y with plo := gl } r hl2 rfl (fun b hb => ?_) hr2 ((Fr.of_ex e).trans fr3) ((nl.mono e).sub fun b q => by
          have q : b = y.plo.b := by simpa using q
          subst q
          simp [LL.ms])
      refine .inl ?_
      have hb : b = y.pol.t ∨ b = y.pol.s ∨ b = y.pol.d ∨ b = gl.sq ∨ b = gl.b ∨ b = y.c := by simpa [LL.ls] using hb
      rw [q2, q3] at hb
      simpa [LL.ls] using hb
end

theorem init_ok : LandOk Kg85.init := ⟨⟨(fun x h => by cases h), (fun x h => by cases h), by decide, by decide, by decide⟩, ⟨fun h => absurd rfl h, (fun z h => by cases h), by decide, by decide, by decide, by decide, by decide, by decide, by decide, by decide⟩, fun h => absurd rfl h⟩
theorem land_ok {st : Kg85.State} (ok : LandOk st) (c : Kg85.Call) : LandOk (Kg85.spec st c).1 := by
  have om : ∀ {f : Unit → Kg85.State × Kg85.Ans}, (st.map ≠ [] → LandOk (f ()).1) → LandOk (Kg85.onMap st f).1 := fun {f} h => by
    by_cases c : st.map = []
    · rw [on_map_no c]; exact ok
    · rw [on_map c]; exact h c
  cases c with
  | begin_ => exact init_ok
  | water rows =>
    rw [l_water]
    split
    · exact ok
    · rename_i q hq
      split
      · exact ok
      · rename_i hn
        obtain ⟨p1, p2⟩ := pol_ok ok.pol q
        refine ⟨p1, ok.plo, fun mp => ?_⟩
        obtain ⟨m1, m2, m3⟩ := ok.map mp
        refine ⟨m1, m2, fun x hx => ?_⟩
        dsimp only
        rw [p2 (by cases z : Kg85.fixesWater q with
          | false => rfl
          | true => exact absurd ⟨mapped_iff.mpr mp, z⟩ hn)]
        exact m3 x hx
  | plot rows =>
    rw [l_plot]
    split
    · exact ok
    · rename_i q hq
      split
      · exact ok
      · rename_i hn
        refine ⟨ok.pol, plot_ok ok.plo q, fun mp => ?_⟩
        obtain ⟨m1, m2, m3⟩ := ok.map mp
        have e := plo_ground (st := st.plot) q (by cases z : Kg85.fixesPlot q with
          | false => rfl
          | true => exact absurd ⟨mapped_iff.mpr mp, z⟩ hn)
        dsimp only
        rw [e]
        exact ⟨m1, m2, m3⟩
  | map a h =>
    rw [l_map]
    split
    · exact ok
    · rename_i gr
      split
      · exact ok
      · split
        · exact ok
        · rename_i hc
          have hc := eq_true_of_ne_false hc
          simp only [Bool.and_eq_true, decide_eq_true_eq, List.all_eq_true] at hc
          obtain ⟨c1, c2, c3, c4⟩ := hc
          refine ⟨ok.pol, ok.plo, fun _ => ⟨gr, ?_, fun x hx => ?_⟩⟩
          · dsimp only
            rw [List.length_map, List.length_zip]
            omega
          · obtain ⟨z, hz, rfl⟩ := List.mem_map.mp hx
            have := c3 z.1 (List.of_mem_zip hz).1
            simp only [Kg85.within, Bool.and_eq_true, decide_eq_true_eq] at this
            dsimp only
            omega
  | storm n r e =>
    rw [l_storm]
    split
    · exact ok
    · exact om fun mp => (storm_ok _ _ _ ok mp).1
  | square x y =>
    rw [l_square]
    refine om fun mp => ?_
    split <;> exact ok
  | wet => rw [l_wet]; exact om fun _ => ok
  | harm => rw [l_harm]; exact om fun _ => ok
  | safe => rw [l_safe]; exact om fun _ => ok
  | raise x y h =>
    rw [l_raise]
    refine om fun mp => ?_
    split
    · exact ok
    · rename_i hc
      split
      · exact ok
      · split
        · exact ok
        · have hc := eq_true_of_ne_false hc
          rw [Bool.and_eq_true] at hc
          obtain ⟨m1, m2, m3⟩ := ok.map mp
          have go := ok.plo.grOk m1
          rw [isSq_eq m1] at hc
          obtain ⟨k, hk, ek, ep, ex, ey, lx, ly⟩ := th_place m1 go hc.1
          have eat : st.at_ (x.toNat, y.toNat) = k := by
            rw [← ep]
            exact lin_back k st.plot.ground.across
          rw [eat]
          have hx : st.map[k]? = some (st.soil (x.toNat, y.toNat)) := by
            unfold Kg85.State.soil
            rw [eat, List.getD_eq_getElem?_getD, List.getElem?_eq_getElem (by rw [m2]; exact hk)]
            rfl
          exact set_ok ok mp hx rfl
  | check => rw [l_check]; exact om fun _ => ok
section
variable {A : Adr} {K : PySem.W.Frag} {mg : Str → Option Value} {H H1 : Hp} {y : LL} {st : Kg85.State}
theorem onMap_same {f : Unit → Kg85.State × Kg85.Ans} (h : (f ()).1 = st) : (Kg85.onMap st f).1 = st := by
  by_cases c : st.map = []
  · rw [on_map_no c]
  · rw [on_map c]; exact h
theorem row_len {l : List Int} (h : Kg85Neutral.row l 150 = true) : l.length ≤ 150 := by
  unfold Kg85Neutral.row at h
  rw [Bool.and_eq_true] at h
  exact of_decide_eq_true h.2
theorem call_shape {n : Int} {ws : List Int} {rows : List (List Int)} {c : Kg85.Call} (n1 : n ≠ 1) (hc : Kg85Neutral.callOf ((n :: ws) :: rows) = some c) (ha : Kg85Neutral.asked1 ((n :: ws) :: rows) = true) :
    (n = 2 ∧ c = .water rows ∧ 1 ≤ rows.length ∧ rows.length ≤ 2 ∧ ∀ r ∈ rows, r.length ≤ 150) ∨ (n = 3 ∧ c = .plot rows ∧ 1 ≤ rows.length ∧ rows.length ≤ 2 ∧ ∀ r ∈ rows, r.length ≤ 150) ∨
    (n = 4 ∧ ∃ a h, rows = [a, h] ∧ c = .map a h ∧ a.length ≤ 150 ∧ h.length ≤ 150) ∨ (n = 5 ∧ ∃ a b d, ws = [a, b, d] ∧ c = .storm a b d) ∨ (n = 6 ∧ ∃ a b, ws = [a, b] ∧ c = .square a b) ∨ (n = 7 ∧ c = .wet) ∨ (n = 8 ∧ c = .harm) ∨ (n = 9 ∧ c = .safe) ∨
    (n = 10 ∧ ∃ a b d, ws = [a, b, d] ∧ c = .raise a b d) ∨ (n = 11 ∧ c = .check) := by
  unfold Kg85Neutral.callOf at hc
  split at hc <;> first | (rename_i e; injection e with e1 e2; injection e1 with e3 e4; injection hc with hc; subst e3 e4 e2 hc) | skip
  · exact absurd rfl n1
  · have ha : (Kg85Neutral.row _ 150 && Kg85Neutral.row _ 150) = true := ha
    rw [Bool.and_eq_true] at ha
    exact .inr (.inr (.inl ⟨rfl, _, _, rfl, rfl, row_len ha.1, row_len ha.2⟩))
  · exact .inr (.inr (.inr (.inl ⟨rfl, _, _, _, rfl, rfl⟩)))
  · exact .inr (.inr (.inr (.inr (.inl ⟨rfl, _, _, rfl, rfl⟩))))
  · exact .inr (.inr (.inr (.inr (.inr (.inl ⟨rfl, rfl⟩)))))
  · exact .inr (.inr (.inr (.inr (.inr (.inr (.inl ⟨rfl, rfl⟩))))))
  · exact .inr (.inr (.inr (.inr (.inr (.inr (.inr (.inl ⟨rfl, rfl⟩)))))))
  · exact .inr (.inr (.inr (.inr (.inr (.inr (.inr (.inr (.inl ⟨rfl, _, _, _, rfl, rfl⟩))))))))
  · exact .inr (.inr (.inr (.inr (.inr (.inr (.inr (.inr (.inr ⟨rfl, rfl⟩))))))))
  · have ha : (decide (1 ≤ rows.length) && (decide (rows.length ≤ 2) && rows.all fun (l : List Int) => Kg85Neutral.row l 150)) = true := ha
    simp only [Bool.and_eq_true, decide_eq_true_eq, List.all_eq_true] at ha
    exact .inl ⟨rfl, rfl, ha.1, ha.2.1, fun r hr => row_len (ha.2.2 r hr)⟩
  · have ha : (decide (1 ≤ rows.length) && (decide (rows.length ≤ 2) && rows.all fun (l : List Int) => Kg85Neutral.row l 150)) = true := ha
    simp only [Bool.and_eq_true, decide_eq_true_eq, List.all_eq_true] at ha
    exact .inr (.inl ⟨rfl, rfl, ha.1, ha.2.1, fun r hr => row_len (ha.2.2 r hr)⟩)
  · cases hc
theorem pure_answer_call (T : Txt K mg A) (vs : List V) (H : Hp) (Q : VK) (E : XK) (h : sp_answer_call A K vs H Q E) : t_answer_call A K (DE Q) (start N_answer_call vs) H := by
  obtain ⟨y, st, n, f, g, ws, rows, c, rfl, hf, hr, n1, ha, hc, hl, ok, fin⟩ := h
  have hi := hl.ins
  refine rd_at ?_
  have ix : ∀ (i : Nat) (m : Int) (σ : L2.St), σ[2]? = some (some (.ref f)) → ws[i]? = some m → Ev (tOp (rIxL K) (tVar 2) (tC (.int (i : Nat)))) σ H (.int m) := fun i m σ h1 h2 => ev_ixL (ev_var h1) ev_c hf (atI_nat (ints_at h2))
  rcases call_shape n1 hc ha with ⟨rfl, rfl, q1, q2, q3⟩ | ⟨rfl, rfl, q1, q2, q3⟩ | ⟨rfl, a, h, rfl, rfl, q1, q2⟩ | ⟨rfl, a, b, d, rfl, rfl⟩ | ⟨rfl, a, b, rfl, rfl⟩ | ⟨rfl, rfl⟩ | ⟨rfl, rfl⟩ | ⟨rfl, rfl⟩ | ⟨rfl, a, b, d, rfl, rfl⟩ | ⟨rfl, rfl⟩
  · exact rd_hit rfl (rd_retM (ev_var rfl) (hm_Land_water_call hi) (ea_cons (ev_var rfl) ea_nil) fun H1 e1 => ⟨y, st, g, rows, rfl, rows_mono e1 hr, q1, q2, q3, hl.mono e1, ok, fin.mono e1⟩)
  · exact rd_skip rfl (by decide) (rd_hit rfl (rd_retM (ev_var rfl) (hm_Land_plot_call hi) (ea_cons (ev_var rfl) ea_nil) fun H1 e1 => ⟨y, st, g, rows, rfl, rows_mono e1 hr, q1, q2, q3, hl.mono e1, ok, fin.mono e1⟩))
  · obtain ⟨a0, ev0, hs0⟩ := row_at (i := 0) hr rfl
    obtain ⟨a1, ev1, hs1⟩ := row_at (i := 1) hr rfl
    exact rd_skip rfl (by decide) (rd_skip rfl (by decide) (rd_hit rfl (rd_retM (ev_var rfl) (hm_Land_set_map hi) (ea_cons (ev0 (ev_var rfl) ev_c) (ea_cons (ev1 (ev_var rfl) ev_c) ea_nil)) fun H1 e1 => ⟨y, st, a0, a1, a, h, rfl, ex_l e1 hs0, ex_l e1 hs1, q1, q2, hl.mono e1, ok, fin.mono e1⟩)))
  · exact rd_skip rfl (by decide) (rd_skip rfl (by decide) (rd_skip rfl (by decide) (rd_hit rfl (rd_retM (ev_var rfl) (hm_Land_storm hi) (ea_cons (ix 0 _ _ rfl rfl) (ea_cons (ix 1 _ _ rfl rfl) (ea_cons (ix 2 _ _ rfl rfl) ea_nil))) fun H1 e1 => ⟨y, st, _, _, _, rfl, hl.mono e1, ok, fin.mono e1⟩))))
  · refine rd_skip rfl (by decide) (rd_skip rfl (by decide) (rd_skip rfl (by decide) (rd_skip rfl (by decide) (rd_hit rfl (rd_retL (el_meth (ev_var rfl) (hm_Land_tell_square hi) (ea_cons (ix 0 _ _ rfl rfl) (ea_cons (ix 1 _ _ rfl rfl) ea_nil)) (spl_of fun H1 e1 => ⟨y, st, _, _, rfl, hl.mono e1, ok, rfl⟩)) (land_same ?_ hl fin))))))
    rw [l_square]
    refine onMap_same ?_
    split <;> rfl
  · exact rd_skip rfl (by decide) (rd_skip rfl (by decide) (rd_skip rfl (by decide) (rd_skip rfl (by decide) (rd_skip rfl (by decide) (rd_hit rfl (rd_retL (el_meth (ev_var rfl) (hm_Land_tell_wet hi) ea_nil (spl_of fun H1 e1 => ⟨y, st, rfl, hl.mono e1, ok, rfl⟩)) (land_same (by rw [l_wet]; exact onMap_same rfl) hl fin)))))))
  · exact rd_skip rfl (by decide) (rd_skip rfl (by decide) (rd_skip rfl (by decide) (rd_skip rfl (by decide) (rd_skip rfl (by decide) (rd_skip rfl (by decide) (rd_hit rfl (rd_retL (el_meth (ev_var rfl) (hm_Land_tell_harm hi) ea_nil (spl_of fun H1 e1 => ⟨y, st, rfl, hl.mono e1, ok, rfl⟩)) (land_same (by rw [l_harm]; exact onMap_same rfl) hl fin))))))))
  · exact rd_skip rfl (by decide) (rd_skip rfl (by decide) (rd_skip rfl (by decide) (rd_skip rfl (by decide) (rd_skip rfl (by decide) (rd_skip rfl (by decide) (rd_skip rfl (by decide) (rd_hit rfl (rd_retL (el_meth (ev_var rfl) (hm_Land_tell_safe hi) ea_nil (spl_of fun H1 e1 => ⟨y, st, rfl, hl.mono e1, ok, rfl⟩)) (land_same (by rw [l_safe]; exact onMap_same rfl) hl fin)))))))))
  · exact rd_skip rfl (by decide) (rd_skip rfl (by decide) (rd_skip rfl (by decide) (rd_skip rfl (by decide) (rd_skip rfl (by decide) (rd_skip rfl (by decide) (rd_skip rfl (by decide) (rd_skip rfl (by decide) (rd_hit rfl (rd_retM (ev_var rfl) (hm_Land_lift hi) (ea_cons (ix 0 _ _ rfl rfl) (ea_cons (ix 1 _ _ rfl rfl) (ea_cons (ix 2 _ _ rfl rfl) ea_nil))) fun H1 e1 => ⟨y, st, _, _, _, rfl, hl.mono e1, ok, fin.mono e1⟩)))))))))
  · exact rd_skip rfl (by decide) (rd_skip rfl (by decide) (rd_skip rfl (by decide) (rd_skip rfl (by decide) (rd_skip rfl (by decide) (rd_skip rfl (by decide) (rd_skip rfl (by decide) (rd_skip rfl (by decide) (rd_skip rfl (by decide) (rd_retL (el_meth (ev_var rfl) (hm_Land_tell_check hi) ea_nil (spl_of fun H1 e1 => ⟨y, st, rfl, hl.mono e1, ok, rfl⟩)) (land_same (by rw [l_check]; exact onMap_same rfl) hl fin))))))))))
end

/-- the calls' list, which stays -/
def CallsAt (K : PySem.W.Frag) (H : Hp) (a : Addr) (xs : List V) (ls : List Addr) : Prop := (H a = some (.lst xs) ∧ a ∉ ls) ∨ (∃ o, H a = some (.frz o (.lst xs))) ∨ ∀ H' : Hp, SqL K H' a xs
section
variable {A : Adr} {K : PySem.W.Frag} {mg : Str → Option Value} {σ : L2.St} {H H1 H' : Hp} {a p : Addr} {xs : List V} {ls ls' : List Addr} {ts : List Str} {te : TE} {D : Ends} {t : TS} {i : Nat} {y : LL} {st : Kg85.State} {l : List Int}
theorem CallsAt.sq (h : CallsAt K H a xs ls) : SqL K H a xs := by
  rcases h with ⟨h, _⟩ | ⟨o, h⟩ | h
  · exact sq_of h
  · exact .inl (.inr ⟨o, h⟩)
  · exact h H
theorem CallsAt.ex (e : Ex H H') (h : CallsAt K H a xs ls) : CallsAt K H' a xs ls := by
  rcases h with ⟨h, n⟩ | ⟨o, h⟩ | h
  · exact .inl ⟨e _ _ h, n⟩
  · exact .inr (.inl ⟨o, e _ _ h⟩)
  · exact .inr (.inr h)
theorem CallsAt.of (h : SqL K H a xs) (n : ∀ b ∈ ls, ∀ xs, H b ≠ some (.lst xs)) : CallsAt K H a xs ls := by
  rcases h with (h | ⟨o, h⟩) | h
  · exact .inl ⟨h, fun m => n a m _ h⟩
  · exact .inr (.inl ⟨o, h⟩)
  · exact .inr (.inr fun H' => .inr h)
theorem CallsAt.step {ms : List Addr} (fr : Fr ts ms H H') (hms : ∀ b ∈ ms, b ∈ ls) (hm : ∀ b ∈ ls', b ∈ ls ∨ ∀ xs, H b ≠ some (.lst xs)) (h : CallsAt K H a xs ls) : CallsAt K H' a xs ls' := by
  rcases h with ⟨h, n⟩ | ⟨o, h⟩ | h
  · exact .inl ⟨fr _ _ h fun q => n (hms _ q), fun m => (hm a m).elim n fun q => q _ h⟩
  · exact .inr (.inl ⟨o, fr _ _ h trivial⟩)
  · exact .inr (.inr h)
theorem CallsAt.upd {pt : Addr} {ys zs : List V} (hp : H pt = some (.lst ys)) (m : pt ∈ ls) (h : CallsAt K H a xs ls) : CallsAt K (L2.upd H pt (.lst zs)) a xs ls := by
  rcases h with ⟨h, n⟩ | ⟨o, h⟩ | h
  · exact .inl ⟨by rw [upd_ne (fun z => n (by rw [z]; exact m))]; exact h, n⟩
  · exact .inr (.inl ⟨o, by rw [upd_ne (ne_of h hp (by intro z; cases z))]; exact h⟩)
  · exact .inr (.inr h)
theorem ms_ls (y : LL) : ∀ b ∈ y.ms, b ∈ y.ls := fun b hb => by
  have hb : b = y.pol.s ∨ b = y.pol.d ∨ b = y.plo.b := by simpa [LL.ms] using hb
  rcases hb with rfl | rfl | rfl <;> simp [LL.ls]
theorem LandAt.other {pt : Addr} {ys zs : List V} (h : LandAt A H y st) (hp : H pt = some (.lst ys)) (n : pt ∉ y.ls) : LandAt A (L2.upd H pt (.lst zs)) y st := by
  have F : Fr [] [pt] H (L2.upd H pt (.lst zs)) := Fr.refl.lst hp (List.mem_singleton.mpr rfl)
  have nn : ∀ b ∈ y.ls, b ∉ [pt] := fun b hb q => n (by rw [← List.mem_singleton.mp q]; exact hb)
  have ns : ∀ f : Str, f ∉ ([] : List Str) := fun f q => by cases q
  exact ⟨h.ins.fr (ns _) F, h.pol.fr (ns _) (ns _) (ns _) (nn _ (by simp [LL.ls])) (nn _ (by simp [LL.ls])) (nn _ (by simp [LL.ls])) F, h.plo.fr (ns _) (ns _) (ns _) (nn _ (by simp [LL.ls])) (nn _ (by simp [LL.ls])) F, fun q => ⟨F _ _ (h.ch q).1 (nn _ (by simp [LL.ls])), (h.ch q).2.fr _ _ (fun _ => rfl) (ns _) F⟩, h.nd⟩
theorem en_land : EvN (tMake A.c_Land (sp_Land___init__ A K) [] E0 tNil) σ H (fun p H2 => ∃ y, LandAt A H2 y Kg85.init ∧ y.L = p ∧ ∀ b ∈ y.ls, ∀ xs, H b ≠ some (.lst xs)) :=
  en_makeP (ea_P ea_nil) fun vs x dx H2 Hm Q E e hP em nx hx k => ⟨x, dx, by rw [hP], hx, fun H' y hy q1 q2 ap => k H' ap ⟨y, hy, q1, fun b hb xs z => q2 b hb xs ((e.trans em) _ _ z)⟩⟩
theorem rd_asgN {R : Addr → Hp → Prop} (h : EvN te σ H R) (k : ∀ p H1, H p = none → Ex H H1 → R p H1 → Rd t D (σ.set i (some (.ref p))) H1) : Rd (tSeq (tAsg te (gName i)) t) D σ H := fun H1 e => h H1 e _ fun p H2 hp e2 hR => k p H2 (fresh_back e hp) (e.trans e2) hR H2 (Ex.refl H2)
theorem rd_asgL1 {xs : List V} (h : EvL te σ H xs) (k : ∀ p H1, H p = none → Ex H H1 → H1 p = some (.lst xs) → D.nx (σ.set i (some (.ref p))) H1) : Rd (tAsg te (gName i)) D σ H := fun H1 e => h H1 e _ fun p H2 hp e2 h2 => k p H2 (fresh_back e hp) (e.trans e2) h2
theorem rd_augV {p q v : Int} (hx : σ[i]? = some (some (.int p))) (h : Ev te σ H (.int q)) (e : p + q = v) (k : Rd t D (σ.set i (some (.int v))) H) : Rd (tSeq (tAug i te ipAddI) t) D σ H := rd_aug hx h (by rw [e]; exact k)
theorem rd_augV1 {p q v : Int} (hx : σ[i]? = some (some (.int p))) (h : Ev te σ H (.int q)) (e : p + q = v) (k : ∀ H1, Ex H H1 → D.nx (σ.set i (some (.int v))) H1) : Rd (tAug i te ipAddI) D σ H := rd_aug1 hx h (by rw [e]; exact k)
theorem LandAt.recC (h : LandAt A H y st) (mp : st.map = []) : LandAt A H { y with c := y.L } st := by
  obtain ⟨d0, h0⟩ := h.ins
  obtain ⟨⟨a1, a2, a3, a4, a5⟩, ⟨b1, b2, b3, b4⟩, ⟨c1, c2, c3⟩, ⟨d1, d2⟩, e1⟩ := h.nds
  have nL : ∀ {b : Addr} {xs : List V}, H b = some (.lst xs) → b ≠ y.L := fun hb => ne_of hb h0 (by intro z; cases z)
  refine ⟨⟨d0, ?_⟩, h.pol, h.plo, fun q => absurd mp q, nd_of a1 a2 a3 a4 (nL h.pol.ti) b1 b2 b3 (nL h.pol.sl) c1 c2 (nL h.pol.dl) d1 (nL h.plo.sq) (nL h.plo.bl)⟩
  have e : landF { y with c := y.L } st = landF y st := by
    unfold landF
    rw [chV_no (y := y) mp, chV_no (y := { y with c := y.L }) mp]
  rw [e]
  exact h0
theorem recC_nt {pt : Addr} {ys : List V} (h : LandAt A H y st) (np : H pt = none ∨ (H pt = some (.lst ys) ∧ ∀ b ∈ y.ls, ∀ xs, H1 b ≠ some (.lst xs)) ∧ H1 pt = some (.lst ys)) : pt ∉ LL.ls { y with c := y.L } := fun m => by
  obtain ⟨d0, h0⟩ := h.ins
  have m : pt = y.pol.t ∨ pt = y.pol.s ∨ pt = y.pol.d ∨ pt = y.plo.sq ∨ pt = y.plo.b ∨ pt = y.L := by simpa [LL.ls] using m
  rcases np with np | ⟨⟨n1, n2⟩, n3⟩
  · rcases m with rfl | rfl | rfl | rfl | rfl | rfl
    · rw [h.pol.ti] at np; cases np
    · rw [h.pol.sl] at np; cases np
    · rw [h.pol.dl] at np; cases np
    · rw [h.plo.sq] at np; cases np
    · rw [h.plo.bl] at np; cases np
    · rw [h0] at np; cases np
  · rcases m with rfl | rfl | rfl | rfl | rfl | rfl
    · exact n2 _ (by simp [LL.ls]) _ n3
    · exact n2 _ (by simp [LL.ls]) _ n3
    · exact n2 _ (by simp [LL.ls]) _ n3
    · exact n2 _ (by simp [LL.ls]) _ n3
    · exact n2 _ (by simp [LL.ls]) _ n3
    · rw [h0] at n1; cases n1
/-- the end of a turn: an answer, told -/
theorem tell_ans {σ : L2.St} {pt pa : Addr} {tl ans : List Int} (h2 : σ[2]? = some (some (.ref pt))) (h10 : σ[10]? = some (some (.ref pa))) (hpt : H pt = some (.lst (intsV tl))) (hpa : H pa = some (.lst (intsV ans))) (ne : pa ≠ pt) (hlen : tl.length + 1 + ans.length ≤ 10000000)
    (k : ∀ H1, Ex H H1 → D.nx σ (upd (upd H1 pt (.lst (intsV (tl ++ [(ans.length : Int)])))) pt (.lst (intsV (tl ++ ((ans.length : Int) :: ans)))))) :
    Rd (tSeq (tDrop (tBM K "list" rAppend (tVar 2) (tCons (tCB (rLenS K) (tCons (tVar 10) (tNil))) (tNil)))) (tDrop (tBM K "list" rExtend (tVar 2) (tCons (tVar 10) (tNil))))) D σ H := fun H1 e => by
  have e1 := e _ _ hpt
  have e2 := e _ _ hpa
  have big : ∀ {n : Nat}, n ≤ 10000000 → n < sizeLine := fun h => Nat.lt_of_le_of_lt h (by decide)
  refine ⟨.ref pt, h2, Or.inl ⟨rfl, _, sq_of e1⟩, .ref pa, h10, ?_⟩
  refine ⟨pa, intsV ans, rfl, .inl (sq_of e2), ?_⟩
  refine ⟨pt, intsV tl, .int (intsV ans).length, rfl, rfl, e1, big (by rw [len_ints]; omega), ?_⟩
  have e3 : intsV tl ++ [V.int ((intsV ans).length : Int)] = intsV (tl ++ [(ans.length : Int)]) := by
    unfold intsV
    rw [List.map_append, List.length_map]
    rfl
  rw [e3]
  refine ⟨.ref pt, h2, Or.inl ⟨rfl, _, sq_of upd_same⟩, .ref pa, h10, ?_⟩
  refine ⟨pt, pa, intsV (tl ++ [(ans.length : Int)]), intsV ans, rfl, rfl, upd_same, by rw [upd_ne ne]; exact e2, Nat.le_of_lt (big (by rw [len_ints, len_ints, List.length_append]; simp only [List.length_singleton]; omega)), ?_⟩
  have e4 : intsV (tl ++ [(ans.length : Int)]) ++ intsV ans = intsV (tl ++ ((ans.length : Int) :: ans)) := by
    unfold intsV
    rw [← List.map_append, List.append_assoc]
    rfl
  rw [e4]
  exact k H1 e
end
section
variable {A : Adr} {K : PySem.W.Frag} {mg : Str → Option Value} {H H1 H' : Hp} {a : Addr} {l : List Int}
/-- what holds ahead of a turn -/
structure Turn (A : Adr) (K : PySem.W.Frag) (H : Hp) (a pt : Addr) (l : List Int) (place : Nat) (y : LL) (st : Kg85.State) (tl : List Int) (cs : List (List (List Int))) : Prop where
  ld : LandAt A H y st
  ok : LandOk st
  ca : CallsAt K H a (intsV l) (pt :: y.ls)
  tp : H pt = some (.lst (intsV tl))
  nt : pt ∉ y.ls
  pa : ∃ f, PyWide.calls f (l.drop place) = some cs
  as : cs.all Kg85Neutral.asked1 = true
  sm : tl ++ PyFlat.told (PyFlat.played Kg85Neutral.step st cs) = PyKg85.answers l
  sh : (PyKg85.answers l).length ≤ 10000000
/-- an answer has come: the turn's end -/
theorem turn_end {σ : L2.St} {pt pa : Addr} {place pi : Nat} {y y' : LL} {st st' : Kg85.State} {tl ans : List Int} {c : List (List Int)} {cs : List (List (List Int))} {D : Ends} {t : Turn A K H a pt l place y st tl (c :: cs)}
    (h2 : σ[2]? = some (some (.ref pt))) (h10 : σ[10]? = some (some (.ref pa))) (hl : LandAt A H' y' st') (ok : LandOk st') (ca : CallsAt K H' a (intsV l) (pt :: y'.ls)) (tp : H' pt = some (.lst (intsV tl))) (nt : pt ∉ y'.ls) (hpa : H' pa = some (.lst (intsV ans))) (ne : pa ≠ pt)
    (hs : Kg85Neutral.step st c = (st', ans)) (hc : ∃ f, PyWide.calls f (l.drop pi) = some cs)
    (k : ∀ H2 tl', Turn A K H2 a pt l pi y' st' tl' cs → D.nx σ H2) :
    Rd (tSeq (tDrop (tBM K "list" rAppend (tVar 2) (tCons (tCB (rLenS K) (tCons (tVar 10) (tNil))) (tNil)))) (tDrop (tBM K "list" rExtend (tVar 2) (tCons (tVar 10) (tNil))))) D σ H' := by
  have sm := t.sm
  have e1 : PyFlat.played Kg85Neutral.step st (c :: cs) = ans :: PyFlat.played Kg85Neutral.step st' cs := by
    show (Kg85Neutral.step st c).2 :: PyFlat.played Kg85Neutral.step (Kg85Neutral.step st c).1 cs = _
    rw [hs]
  rw [e1, told_cons, ← List.append_assoc] at sm
  have sh := t.sh
  have hl2 : tl.length + 1 + ans.length ≤ 10000000 := by
    rw [← sm] at sh
    rw [List.length_append, List.length_append, List.length_cons] at sh
    omega
  refine tell_ans h2 h10 tp hpa ne hl2 fun H1 e => ?_
  have as := t.as
  rw [List.all_cons, Bool.and_eq_true] at as
  refine k _ (tl ++ ((ans.length : Int) :: ans)) ⟨?_, ok, ?_, upd_same, nt, hc, as.2, sm, t.sh⟩
  · exact ((hl.mono e).other (e _ _ tp) nt).other upd_same nt
  · exact ((ca.ex e).upd (e _ _ tp) List.mem_cons_self).upd upd_same List.mem_cons_self
theorem pure_answers (T : Txt K mg A) (vs : List V) (H : Hp) (Q : VK) (E : XK) (h : sp_answers A K vs H Q E) : t_answers A K (DE Q) (start N_answers vs) H := by
  obtain ⟨a, l, rfl, ha, hask, fin⟩ := h
  have hq : ∃ cs, PyWide.calls l.length l = some cs ∧ cs.all Kg85Neutral.asked1 = true ∧ PyKg85.answers l = PyFlat.told (PyFlat.played Kg85Neutral.step Kg85.init cs) ∧ (PyKg85.answers l).length ≤ 10000000 := by
    unfold PyKg85.answers_asked at hask
    have hc : PyKg85.calls l = PyWide.calls l.length l := rfl
    cases h1 : PyWide.calls l.length l with
    | none => rw [hc, h1] at hask; cases hask
    | some cs =>
      rw [hc, h1] at hask
      simp only [Bool.and_eq_true] at hask
      obtain ⟨⟨⟨⟨_, _⟩, _⟩, h3⟩, h4⟩ := hask
      unfold Kg85Neutral.asked at h3
      rw [Bool.and_eq_true] at h3
      refine ⟨cs, rfl, h3.1, ?_, of_decide_eq_true h4⟩
      unfold PyKg85.answers
      rw [hc, h1]
      rfl
  obtain ⟨cs0, hcs, has, hans, hsh⟩ := hq
  refine rd_at (rd_asgN en_land fun p H1 np e1 hR => ?_)
  obtain ⟨y, hl, rfl, hms⟩ := hR
  refine rd_asgL (xs := []) (el_lst ea_nil (by decide)) fun pt H2 npt e2 hpt => ?_
  refine rd_asg (v := .int 0) ev_c ?_
  intro H3 e3
  have hl3 := ((hl.recC rfl).mono e2).mono e3
  have nt : pt ∉ LL.ls { y with c := y.L } := recC_nt (ys := []) (H1 := H) hl (.inl npt)
  have ca1 : CallsAt K H1 a (intsV l) (pt :: LL.ls { y with c := y.L }) := by
    have n0 : ∀ b ∈ pt :: LL.ls { y with c := y.L }, ∀ xs, H b ≠ some (.lst xs) := fun b hb xs z => by
      rcases List.mem_cons.mp hb with rfl | hb
      · rw [fresh_back e1 npt] at z; cases z
      · have hb : b = y.pol.t ∨ b = y.pol.s ∨ b = y.pol.d ∨ b = y.plo.sq ∨ b = y.plo.b ∨ b = y.L := by simpa [LL.ls] using hb
        rcases hb with rfl | rfl | rfl | rfl | rfl | rfl
        · exact hms _ (by simp [LL.ls]) _ z
        · exact hms _ (by simp [LL.ls]) _ z
        · exact hms _ (by simp [LL.ls]) _ z
        · exact hms _ (by simp [LL.ls]) _ z
        · exact hms _ (by simp [LL.ls]) _ z
        · rw [np] at z; cases z
    exact (CallsAt.of ha n0).ex e1
  have t0 : Turn A K H3 a pt l 0 { y with c := y.L } Kg85.init [] cs0 := ⟨hl3, init_ok, (ca1.ex e2).ex e3, e3 _ _ hpt, nt, ⟨_, by rw [List.drop_zero]; exact hcs⟩, has, by rw [hans]; rfl, hsh⟩
  refine q_while (fun m σ' H' => ∃ (place : Nat) (y : LL) (st : Kg85.State) (tl : List Int) (cs : List (List (List Int))) (w4 w5 w6 w7 w8 w9 w10 : Option V), σ' = [some (.ref a), some (.ref y.L), some (.ref pt), some (.int place), w4, w5, w6, w7, w8, w9, w10] ∧ m = l.length - place ∧ Turn A K H' a pt l place y st tl cs)
    l.length ⟨0, { y with c := y.L }, Kg85.init, [], cs0, none, none, none, none, none, none, none, rfl, rfl, t0⟩ ?_
  rintro m σ' H' ⟨place, y, st, tl, cs, w4, w5, w6, w7, w8, w9, w10, rfl, rfl, tu⟩
  refine ⟨decide ((place : Int) < (l.length : Int)), et_eq (et_test (ev_lt (ev_var rfl) (ev_len (ev_var rfl) tu.ca.sq))) (by rw [len_ints]), fun c H4 e4 => ?_, fun c H4 e4 => ?_⟩
  · have hpl : place < l.length := by have := of_decide_eq_true c; omega
    obtain ⟨f, hcalls⟩ := tu.pa
    obtain ⟨p, nn, kk, xs, f', cs', u, i1, i2, i3, i4, i5, rfl, i6⟩ := calls_step hcalls hpl
    have as := tu.as
    rw [List.all_cons, Bool.and_eq_true] at as
    have hx2 := asked_rows as.1
    have hxl := rows_len2 i5
    generalize hns : (l.drop (place + 2)).take nn = ns at *
    have hsq := ex_l e4 tu.ca.sq
    refine ⟨fun σ2 H2 => ∃ (pi : Nat) (y' : LL) (st' : Kg85.State) (tl' : List Int) (w4 w5 w6 w7 w8 w9 w10 : Option V), place < pi ∧ σ2 = [some (.ref a), some (.ref y'.L), some (.ref pt), some (.int pi), w4, w5, w6, w7, w8, w9, w10] ∧ Turn A K H2 a pt l pi y' st' tl' cs', ?_, ?_⟩
    · rintro σ2 H2 ⟨pi, y', st', tl', w4, w5, w6, w7, w8, w9, w10, h1, rfl, t2⟩
      exact ⟨l.length - pi, by omega, pi, y', st', tl', cs', w4, w5, w6, w7, w8, w9, w10, rfl, rfl, t2⟩
    refine rd_at (rd_asg (v := .int p) (ev_ixL (ev_var rfl) (ev_var rfl) hsq (atI_nat (ints_at i1))) ?_)
    refine rd_asg (v := .int (nn : Nat)) (ev_ixL (i := ((place + 1 : Nat) : Int)) (ev_var rfl) (ev_eq (ev_add (ev_var rfl) ev_c) (by rfl)) hsq (atI_nat (ints_at i2))) ?_
    refine rd_asgL (xs := intsV ns) ?_ fun pw H5 npw e5 hpw => ?_
    · refine el_eq (el_sl (lo := some ((place + 2 : Nat) : Int)) (hi := some ((place + 2 + nn : Nat) : Int)) (ev_var rfl) (eo_some (ev_eq (ev_add (ev_var rfl) ev_c) (by rfl))) (eo_some (ev_eq (ev_add (ev_add (ev_var rfl) ev_c) (ev_var rfl)) (by rfl))) hsq) ?_
      rw [cut_mid (by rw [len_ints]; exact i3), ← hns]
      unfold intsV
      rw [List.map_take, List.map_drop]
    have hsq5 := ex_l e5 hsq
    refine rd_augV (v := ((place + 2 + nn : Nat) : Int)) rfl (ev_add ev_c (ev_var rfl)) (by push_cast; omega) ?_
    refine rd_asgL (xs := []) (el_lst ea_nil (by decide)) fun pl H6 npl e6 hpl6 => ?_
    have hsq6 := ex_l e6 hsq5
    refine rd_asg (v := .int (kk : Nat)) (ev_ixL (ev_var rfl) (ev_var rfl) hsq6 (atI_nat (ints_at i4))) ?_
    refine rd_augV (v := ((place + 3 + nn : Nat) : Int)) rfl ev_c (by push_cast; omega) ?_
    refine rd_seq (rd_forR (n := (kk : Int)) (ev_var rfl) ⟨by omega, by omega⟩ (fun i σ H' => ∃ (pi : Nat) (bs : List Addr) (w8 w9 : Option V), σ = [some (.ref a), some (.ref y.L), some (.ref pt), some (.int pi), some (.int p), some (.int (kk : Nat)), some (.ref pw), some (.ref pl), w8, w9, w10] ∧ Ex H5 H' ∧ H' pl = some (.lst (refsV bs)) ∧ bs.length = i ∧ i ≤ kk ∧
      (∀ (j : Nat) b r, bs[j]? = some b → xs[j]? = some r → H' b = some (.lst (intsV r)) ∧ b ≠ pl) ∧ PyFlat.rows (kk - i) (l.drop pi) = some (xs.drop i, u) ∧ place < pi)
      (fun H7 e7 => ⟨place + 3 + nn, [], w8, w9, rfl, e6.trans e7, e7 _ _ hpl6, rfl, Nat.zero_le _, (fun j b r hb => by simp at hb), i5, by omega⟩) ?_ ?_)
    · rintro i σ H7 hi ⟨pi, bs, w8, w9, rfl, ex, hpl7, hbl, hik, hel, hrows, hpi⟩
      obtain ⟨q, hq⟩ : ∃ q, kk - i = q + 1 := ⟨kk - i - 1, by omega⟩
      rw [hq] at hrows
      obtain ⟨zz, x, xs', j1, j2, rfl, j4, j5⟩ := rows_step hrows
      have hxd := drop_cons j5
      have hsq7 := ex_l ex hsq5
      refine rd_at (rd_asg (v := .int (zz : Nat)) (ev_ixL (ev_var rfl) (ev_var rfl) hsq7 (atI_nat (ints_at j1))) ?_)
      refine rd_seq (rd_appN (l := pl) (xs := refsV bs) (R := fun b H => H b = some (.lst (intsV ((l.drop (pi + 1)).take zz)))) (ev_var rfl) hpl7 (by rw [len_refs, hbl]; omega) ?_ fun b H8 nb e8 hb hpl8 => ?_)
      · have : EvL (tSl (rSlL K) (tVar 0) (tPart (tOp rAddI (tVar 3) (tC (V.int 1)))) (tPart (tOp rAddI (tOp rAddI (tVar 3) (tC (V.int 1))) (tVar 9)))) [some (V.ref a), some (V.ref y.L), some (V.ref pt), some (V.int pi), some (V.int p), some (V.int (kk : Nat)), some (V.ref pw), some (V.ref pl), some (V.int (i : Nat)), some (V.int (zz : Nat)), w10] H7 (intsV ((l.drop (pi + 1)).take zz)) := by
          refine el_eq (el_sl (lo := some ((pi + 1 : Nat) : Int)) (hi := some ((pi + 1 + zz : Nat) : Int)) (ev_var rfl) (eo_some (ev_eq (ev_add (ev_var rfl) ev_c) (by rfl))) (eo_some (ev_eq (ev_add (ev_add (ev_var rfl) ev_c) (ev_var rfl)) (by rfl))) hsq7) ?_
          rw [cut_mid (by rw [len_ints]; exact j2)]
          unfold intsV
          rw [List.map_take, List.map_drop]
        exact this
      dsimp only
      have nbp : b ≠ pl := fun z => by rw [z, hpl7] at nb; cases nb
      refine rd_at (rd_augV1 (v := ((pi + 1 + zz : Nat) : Int)) rfl (ev_add ev_c (ev_var rfl)) (by push_cast; omega) fun H9 e9 => ⟨pi + 1 + zz, bs ++ [b], _, _, rfl, ((ex.trans e8).mut npl).trans e9, ?_, by rw [List.length_append, hbl]; rfl, by omega, ?_, ?_, by omega⟩)
      · rw [e9 _ _ upd_same]
        unfold refsV
        rw [List.map_append]
        rfl
      · intro j b' r hb' hr
        by_cases c : j < bs.length
        · rw [List.getElem?_append_left c] at hb'
          obtain ⟨q1, q2⟩ := hel j b' r hb' hr
          exact ⟨e9 _ _ (by rw [upd_ne q2]; exact e8 _ _ q1), q2⟩
        · rw [List.getElem?_append_right (by omega)] at hb'
          cases hj : j - bs.length with
          | zero =>
            rw [hj] at hb'
            cases hb'
            have ej : j = i := by omega
            rw [ej, hxd.1] at hr
            cases hr
            exact ⟨e9 _ _ (by rw [upd_ne nbp]; exact hb), nbp⟩
          | succ m => rw [hj] at hb'; simp at hb'
      · rw [show kk - (i + 1) = q by omega, hxd.2.1]
        exact j4
    · rintro σ H7 ⟨pi, bs, w8, w9, rfl, ex, hpl7, hbl, hik, hel, hrows, hpi⟩
      rw [Int.toNat_natCast] at hbl hrows
      rw [Nat.sub_self] at hrows
      obtain ⟨_, hu⟩ := rows_zero hrows
      rw [hu] at i6
      have ex47 : Ex H' H7 := (e4.trans e5).trans ex
      have hl7 := tu.ld.mono ex47
      have ca7 := tu.ca.ex ex47
      have tp7 := ex47 _ _ tu.tp
      have hpw7 := ex _ _ hpw
      have hrw : RowsAt K H7 pl xs := ⟨bs, sq_of hpl7, by rw [hbl, hxl], fun j b r hb hr => sq_of (hel j b r hb hr).1⟩
      obtain ⟨c, hcall⟩ := asked_call as.1
      dsimp only
      refine rd_at (rd_ifs (b := decide (p = 1)) (et_test (ev_eqI (ev_var rfl) ev_c)) (fun c1 => ?_) (fun c1 => ?_))
      · have c1 : p = 1 := of_decide_eq_true c1
        subst c1
        obtain ⟨rfl, rfl⟩ := asked_one as.1
        refine rd_asgN en_land fun p2 H8 np2 e8 hR => ?_
        obtain ⟨y2, hl2, rfl, hms2⟩ := hR
        refine rd_asgL1 (xs := intsV [0]) (el_lst (ea_cons ev_c ea_nil) (by simp [intsV])) fun pa H9 npa e9 hpa => ?_
        have e89 := e8.trans e9
        have nt2 : pt ∉ LL.ls { y2 with c := y2.L } := recC_nt (H1 := H7) hl2 (.inr ⟨⟨e8 _ _ tp7, hms2⟩, tp7⟩)
        refine rd_at (turn_end (t := tu) (y' := { y2 with c := y2.L }) (st' := Kg85.init) (ans := [0]) (pa := pa) rfl rfl ((hl2.recC rfl).mono e9) init_ok ?_ (e89 _ _ tp7) nt2 hpa (fun z => by rw [z, e8 _ _ tp7] at npa; cases npa) rfl ⟨f', i6⟩ fun H10 tl' t2 => ⟨pi, { y2 with c := y2.L }, Kg85.init, tl', _, _, _, _, _, _, _, hpi, rfl, t2⟩)
        refine CallsAt.step (ts := []) (ms := []) (ls := pt :: y.ls) (Fr.of_ex e89) (fun b hb => by cases hb) (fun b hb => ?_) ca7
        rcases List.mem_cons.mp hb with rfl | hb
        · exact .inl List.mem_cons_self
        · have hb : b = y2.pol.t ∨ b = y2.pol.s ∨ b = y2.pol.d ∨ b = y2.plo.sq ∨ b = y2.plo.b ∨ b = y2.L := by simpa [LL.ls] using hb
          rcases hb with rfl | rfl | rfl | rfl | rfl | rfl
          · exact .inr (hms2 _ (by simp [LL.ls]))
          · exact .inr (hms2 _ (by simp [LL.ls]))
          · exact .inr (hms2 _ (by simp [LL.ls]))
          · exact .inr (hms2 _ (by simp [LL.ls]))
          · exact .inr (hms2 _ (by simp [LL.ls]))
          · exact .inr fun xs z => by rw [np2] at z; cases z
      · have c1 : p ≠ 1 := of_decide_eq_false c1
        have hst : Kg85Neutral.step st ((p :: ns) :: xs) = ((Kg85.spec st c).1, ansL (Kg85.spec st c).2) := by
          unfold Kg85Neutral.step
          rw [hcall]
          rfl
        refine fun H8 e8 => ?_
        refine ⟨.ref y.L, rfl, .int p, rfl, .ref pw, rfl, .ref pl, rfl, ?_⟩
        refine ⟨y, st, p, pw, pl, ns, xs, c, rfl, sq_of (e8 _ _ hpw7), rows_mono e8 hrw, c1, as.1, hcall, hl7.mono e8, tu.ok, fun H9 y' r hl9 q1 q2 hr fr nl => ?_⟩
        have tp8 := e8 _ _ tp7
        have ntm : pt ∉ y.ms := fun z => tu.nt (ms_ls y _ z)
        have nt' : pt ∉ y'.ls := fun z => (q2 _ z).elim tu.nt fun w => w _ tp8
        unfold gName
        refine rd_at (turn_end (t := tu) (y' := y') (pa := r) (ans := ansL (Kg85.spec st c).2) rfl rfl hl9 (land_ok tu.ok c) ?_ (fr _ _ tp8 ntm) nt' hr (fun z => ntm (by rw [← z]; exact nl _ (by rw [z]; exact tp8))) hst ⟨f', i6⟩ ?_)
        rotate_left
        · exact fun H10 tl' t2 => ⟨pi, y', _, tl', _, _, _, _, _, _, _, hpi, by rw [q1]; rfl, t2⟩
        refine CallsAt.step (ls := pt :: y.ls) fr (fun b hb => List.mem_cons_of_mem _ (ms_ls y b hb)) (fun b hb => ?_) (ca7.ex e8)
        rcases List.mem_cons.mp hb with rfl | hb
        · exact .inl List.mem_cons_self
        · exact (q2 b hb).imp (List.mem_cons_of_mem _) id
  · have c := of_decide_eq_false c
    obtain ⟨f, hcalls⟩ := tu.pa
    have hcs := calls_end hcalls (by omega)
    subst hcs
    have sm := tu.sm
    have sm : tl ++ [] = PyKg85.answers l := sm
    rw [List.append_nil] at sm
    refine rd_at (rd_ret (ev_var rfl) fun H5 e5 => fin H5 pt ?_)
    rw [← sm]
    exact (e4.trans e5) _ _ tu.tp
end

end DL
set_option maxHeartbeats 4000000
namespace DL
open PySem PySem.Spec PyProof.Rows L2 Evl

theorem len_Rules___init__ {A : Adr} {K : PySem.W.Frag} {vs : List V} {H : Hp} {Q : VK} {E : XK} (h : sp_Rules___init__ A K vs H Q E) : vs.length = 2 := by
  obtain ⟨_, _, _, _, rfl, _⟩ := h
  rfl
theorem len_Block___init__ {A : Adr} {K : PySem.W.Frag} {vs : List V} {H : Hp} {Q : VK} {E : XK} (h : sp_Block___init__ A K vs H Q E) : vs.length = 6 := by
  obtain ⟨_, _, _, _, rfl, _, ⟨_, rfl, _⟩, _⟩ := h
  rfl
theorem len_Plot___init__ {A : Adr} {K : PySem.W.Frag} {vs : List V} {H : Hp} {Q : VK} {E : XK} (h : sp_Plot___init__ A K vs H Q E) : vs.length = 3 := by
  obtain ⟨_, _, _, _, _, rfl, _⟩ := h
  rfl
theorem len_Plot_has_ground {A : Adr} {K : PySem.W.Frag} {vs : List V} {H : Hp} {Q : VK} {E : XK} (h : sp_Plot_has_ground A K vs H Q E) : vs.length = 1 := by
  obtain ⟨_, ⟨_, _, rfl, _⟩, _⟩ := h
  rfl
theorem len_Plot_is_there {A : Adr} {K : PySem.W.Frag} {vs : List V} {H : Hp} {Q : VK} {E : XK} (h : sp_Plot_is_there A K vs H Q E) : vs.length = 3 := by
  obtain ⟨_, ⟨_, _, _, _, rfl, _⟩, _⟩ := h
  rfl
theorem len_Plot_place_of {A : Adr} {K : PySem.W.Frag} {vs : List V} {H : Hp} {Q : VK} {E : XK} (h : sp_Plot_place_of A K vs H Q E) : vs.length = 3 := by
  obtain ⟨_, ⟨_, _, _, _, rfl, _⟩, _⟩ := h
  rfl
theorem len_Plot_apart {A : Adr} {K : PySem.W.Frag} {vs : List V} {H : Hp} {Q : VK} {E : XK} (h : sp_Plot_apart A K vs H Q E) : vs.length = 3 := by
  obtain ⟨_, ⟨_, _, _, _, rfl, _⟩, _⟩ := h
  rfl
theorem len_Plot_how_far {A : Adr} {K : PySem.W.Frag} {vs : List V} {H : Hp} {Q : VK} {E : XK} (h : sp_Plot_how_far A K vs H Q E) : vs.length = 3 := by
  obtain ⟨_, ⟨_, _, _, _, rfl, _⟩, _⟩ := h
  rfl
theorem len_Plot_inward {A : Adr} {K : PySem.W.Frag} {vs : List V} {H : Hp} {Q : VK} {E : XK} (h : sp_Plot_inward A K vs H Q E) : vs.length = 2 := by
  obtain ⟨_, ⟨_, _, _, rfl, _⟩, _⟩ := h
  rfl
theorem len_Plot_height_of {A : Adr} {K : PySem.W.Frag} {vs : List V} {H : Hp} {Q : VK} {E : XK} (h : sp_Plot_height_of A K vs H Q E) : vs.length = 2 := by
  obtain ⟨_, ⟨_, _, _, rfl, _⟩, _⟩ := h
  rfl
theorem len_Plot_most_floors {A : Adr} {K : PySem.W.Frag} {vs : List V} {H : Hp} {Q : VK} {E : XK} (h : sp_Plot_most_floors A K vs H Q E) : vs.length = 2 := by
  obtain ⟨_, ⟨_, _, _, rfl, _⟩, _⟩ := h
  rfl
theorem len_Plot_is_near_street {A : Adr} {K : PySem.W.Frag} {vs : List V} {H : Hp} {Q : VK} {E : XK} (h : sp_Plot_is_near_street A K vs H Q E) : vs.length = 2 := by
  obtain ⟨_, ⟨_, _, _, rfl, _⟩, _⟩ := h
  rfl
theorem len_Plot_is_near_others {A : Adr} {K : PySem.W.Frag} {vs : List V} {H : Hp} {Q : VK} {E : XK} (h : sp_Plot_is_near_others A K vs H Q E) : vs.length = 2 := by
  obtain ⟨_, ⟨_, _, _, rfl, _⟩, _⟩ := h
  rfl
theorem len_Plot_is_open {A : Adr} {K : PySem.W.Frag} {vs : List V} {H : Hp} {Q : VK} {E : XK} (h : sp_Plot_is_open A K vs H Q E) : vs.length = 2 := by
  obtain ⟨_, ⟨_, _, _, rfl, _⟩, _⟩ := h
  rfl
theorem len_Plot_floors_on {A : Adr} {K : PySem.W.Frag} {vs : List V} {H : Hp} {Q : VK} {E : XK} (h : sp_Plot_floors_on A K vs H Q E) : vs.length = 2 := by
  obtain ⟨_, ⟨_, _, _, rfl, _⟩, _⟩ := h
  rfl
theorem len_Plot_all_floors {A : Adr} {K : PySem.W.Frag} {vs : List V} {H : Hp} {Q : VK} {E : XK} (h : sp_Plot_all_floors A K vs H Q E) : vs.length = 1 := by
  obtain ⟨_, ⟨_, _, rfl, _⟩, _⟩ := h
  rfl
theorem len_Plot_built {A : Adr} {K : PySem.W.Frag} {vs : List V} {H : Hp} {Q : VK} {E : XK} (h : sp_Plot_built A K vs H Q E) : vs.length = 1 := by
  obtain ⟨_, ⟨_, _, rfl, _⟩, _⟩ := h
  rfl
theorem len_Plot_wanted {A : Adr} {K : PySem.W.Frag} {vs : List V} {H : Hp} {Q : VK} {E : XK} (h : sp_Plot_wanted A K vs H Q E) : vs.length = 1 := by
  obtain ⟨_, ⟨_, _, rfl, _⟩, _⟩ := h
  rfl
theorem len_Plot_beside {A : Adr} {K : PySem.W.Frag} {vs : List V} {H : Hp} {Q : VK} {E : XK} (h : sp_Plot_beside A K vs H Q E) : vs.length = 2 := by
  obtain ⟨_, ⟨_, _, _, rfl, _⟩, _⟩ := h
  rfl
theorem len_Plot_houses {A : Adr} {K : PySem.W.Frag} {vs : List V} {H : Hp} {Q : VK} {E : XK} (h : sp_Plot_houses A K vs H Q E) : vs.length = 1 := by
  obtain ⟨_, _, rfl, _⟩ := h
  rfl
theorem len_Plot_are_near {A : Adr} {K : PySem.W.Frag} {vs : List V} {H : Hp} {Q : VK} {E : XK} (h : sp_Plot_are_near A K vs H Q E) : vs.length = 3 := by
  obtain ⟨_, ⟨_, _, _, _, _, _, rfl, _⟩, _⟩ := h
  rfl
theorem len_Plot_near_pairs {A : Adr} {K : PySem.W.Frag} {vs : List V} {H : Hp} {Q : VK} {E : XK} (h : sp_Plot_near_pairs A K vs H Q E) : vs.length = 1 := by
  obtain ⟨_, ⟨_, _, rfl, _⟩, _⟩ := h
  rfl
theorem len_Plot_amounts {A : Adr} {K : PySem.W.Frag} {vs : List V} {H : Hp} {Q : VK} {E : XK} (h : sp_Plot_amounts A K vs H Q E) : vs.length = 1 := by
  obtain ⟨_, ⟨_, _, rfl, _⟩, _⟩ := h
  rfl
theorem len_Plot_broken {A : Adr} {K : PySem.W.Frag} {vs : List V} {H : Hp} {Q : VK} {E : XK} (h : sp_Plot_broken A K vs H Q E) : vs.length = 1 := by
  obtain ⟨_, _, rfl, _⟩ := h
  rfl
theorem len_Plot_most_of {A : Adr} {K : PySem.W.Frag} {vs : List V} {H : Hp} {Q : VK} {E : XK} (h : sp_Plot_most_of A K vs H Q E) : vs.length = 2 := by
  obtain ⟨_, ⟨_, _, _, _, rfl, _⟩, _⟩ := h
  rfl
theorem len_Plot_best {A : Adr} {K : PySem.W.Frag} {vs : List V} {H : Hp} {Q : VK} {E : XK} (h : sp_Plot_best A K vs H Q E) : vs.length = 1 := by
  obtain ⟨_, ⟨_, _, rfl, _⟩, _⟩ := h
  rfl
theorem len_are_rules {A : Adr} {K : PySem.W.Frag} {vs : List V} {H : Hp} {Q : VK} {E : XK} (h : sp_are_rules A K vs H Q E) : vs.length = 1 := by
  obtain ⟨_, ⟨_, _, rfl, _⟩, _⟩ := h
  rfl
theorem len_Plot_set_rules {A : Adr} {K : PySem.W.Frag} {vs : List V} {H : Hp} {Q : VK} {E : XK} (h : sp_Plot_set_rules A K vs H Q E) : vs.length = 2 := by
  obtain ⟨_, _, _, _, rfl, _⟩ := h
  rfl
theorem len_Plot_add_block {A : Adr} {K : PySem.W.Frag} {vs : List V} {H : Hp} {Q : VK} {E : XK} (h : sp_Plot_add_block A K vs H Q E) : vs.length = 6 := by
  obtain ⟨_, _, _, _, _, _, _, rfl, _⟩ := h
  rfl
theorem len_Plot_drop {A : Adr} {K : PySem.W.Frag} {vs : List V} {H : Hp} {Q : VK} {E : XK} (h : sp_Plot_drop A K vs H Q E) : vs.length = 1 := by
  obtain ⟨_, _, rfl, _⟩ := h
  rfl
theorem len_Plot_pave {A : Adr} {K : PySem.W.Frag} {vs : List V} {H : Hp} {Q : VK} {E : XK} (h : sp_Plot_pave A K vs H Q E) : vs.length = 3 := by
  obtain ⟨_, _, _, _, rfl, _⟩ := h
  rfl
theorem len_Plot_tell_check {A : Adr} {K : PySem.W.Frag} {vs : List V} {H : Hp} {Q : VK} {E : XK} (h : sp_Plot_tell_check A K vs H Q E) : vs.length = 1 := by
  obtain ⟨_, ⟨_, _, rfl, _⟩, _⟩ := h
  rfl
theorem len_Plot_tell_square {A : Adr} {K : PySem.W.Frag} {vs : List V} {H : Hp} {Q : VK} {E : XK} (h : sp_Plot_tell_square A K vs H Q E) : vs.length = 3 := by
  obtain ⟨_, ⟨_, _, _, _, rfl, _⟩, _⟩ := h
  rfl
theorem len_Plot_tell_houses {A : Adr} {K : PySem.W.Frag} {vs : List V} {H : Hp} {Q : VK} {E : XK} (h : sp_Plot_tell_houses A K vs H Q E) : vs.length = 1 := by
  obtain ⟨_, ⟨_, _, rfl, _⟩, _⟩ := h
  rfl
theorem len_Plot_tell_sums {A : Adr} {K : PySem.W.Frag} {vs : List V} {H : Hp} {Q : VK} {E : XK} (h : sp_Plot_tell_sums A K vs H Q E) : vs.length = 1 := by
  obtain ⟨_, ⟨_, _, rfl, _⟩, _⟩ := h
  rfl
theorem len_Plot_answer {A : Adr} {K : PySem.W.Frag} {vs : List V} {H : Hp} {Q : VK} {E : XK} (h : sp_Plot_answer A K vs H Q E) : vs.length = 4 := by
  obtain ⟨_, _, _, _, _, _, _, _, rfl, _⟩ := h
  rfl
theorem len_Section___init__ {A : Adr} {K : PySem.W.Frag} {vs : List V} {H : Hp} {Q : VK} {E : XK} (h : sp_Section___init__ A K vs H Q E) : vs.length = 4 := by
  obtain ⟨_, _, _, _, rfl, _, ⟨_, _, _, rfl, _⟩, _⟩ := h
  rfl
theorem len_Section_level {A : Adr} {K : PySem.W.Frag} {vs : List V} {H : Hp} {Q : VK} {E : XK} (h : sp_Section_level A K vs H Q E) : vs.length = 1 := by
  obtain ⟨_, ⟨_, _, rfl, _⟩, _⟩ := h
  rfl
theorem len_Device___init__ {A : Adr} {K : PySem.W.Frag} {vs : List V} {H : Hp} {Q : VK} {E : XK} (h : sp_Device___init__ A K vs H Q E) : vs.length = 7 := by
  obtain ⟨_, _, _, _, rfl, _, ⟨_, rfl, _⟩, _⟩ := h
  rfl
theorem len_Polder___init__ {A : Adr} {K : PySem.W.Frag} {vs : List V} {H : Hp} {Q : VK} {E : XK} (h : sp_Polder___init__ A K vs H Q E) : vs.length = 2 := by
  obtain ⟨_, _, _, _, rfl, _⟩ := h
  rfl
theorem len_Polder_sea {A : Adr} {K : PySem.W.Frag} {vs : List V} {H : Hp} {Q : VK} {E : XK} (h : sp_Polder_sea A K vs H Q E) : vs.length = 1 := by
  obtain ⟨_, ⟨_, _, rfl, _⟩, _⟩ := h
  rfl
theorem len_Polder_is_section {A : Adr} {K : PySem.W.Frag} {vs : List V} {H : Hp} {Q : VK} {E : XK} (h : sp_Polder_is_section A K vs H Q E) : vs.length = 2 := by
  obtain ⟨_, ⟨_, _, _, rfl, _⟩, _⟩ := h
  rfl
theorem len_is_level {A : Adr} {K : PySem.W.Frag} {vs : List V} {H : Hp} {Q : VK} {E : XK} (h : sp_is_level A K vs H Q E) : vs.length = 1 := by
  obtain ⟨_, ⟨_, rfl, _⟩, _⟩ := h
  rfl
theorem len_Polder_add_section {A : Adr} {K : PySem.W.Frag} {vs : List V} {H : Hp} {Q : VK} {E : XK} (h : sp_Polder_add_section A K vs H Q E) : vs.length = 4 := by
  obtain ⟨_, _, _, _, _, rfl, _⟩ := h
  rfl
theorem len_Polder_add_device {A : Adr} {K : PySem.W.Frag} {vs : List V} {H : Hp} {Q : VK} {E : XK} (h : sp_Polder_add_device A K vs H Q E) : vs.length = 2 := by
  obtain ⟨_, _, _, _, rfl, _⟩ := h
  rfl
theorem len_Polder_add_weir {A : Adr} {K : PySem.W.Frag} {vs : List V} {H : Hp} {Q : VK} {E : XK} (h : sp_Polder_add_weir A K vs H Q E) : vs.length = 5 := by
  obtain ⟨_, _, _, _, _, _, rfl, _⟩ := h
  rfl
theorem len_Polder_add_pump {A : Adr} {K : PySem.W.Frag} {vs : List V} {H : Hp} {Q : VK} {E : XK} (h : sp_Polder_add_pump A K vs H Q E) : vs.length = 6 := by
  obtain ⟨_, _, _, _, _, _, _, rfl, _⟩ := h
  rfl
theorem len_Polder_add_sluice {A : Adr} {K : PySem.W.Frag} {vs : List V} {H : Hp} {Q : VK} {E : XK} (h : sp_Polder_add_sluice A K vs H Q E) : vs.length = 4 := by
  obtain ⟨_, _, _, _, _, rfl, _⟩ := h
  rfl
theorem len_Polder_add_inlet {A : Adr} {K : PySem.W.Frag} {vs : List V} {H : Hp} {Q : VK} {E : XK} (h : sp_Polder_add_inlet A K vs H Q E) : vs.length = 4 := by
  obtain ⟨_, _, _, _, _, rfl, _⟩ := h
  rfl
theorem len_Polder_set_device {A : Adr} {K : PySem.W.Frag} {vs : List V} {H : Hp} {Q : VK} {E : XK} (h : sp_Polder_set_device A K vs H Q E) : vs.length = 4 := by
  obtain ⟨_, _, _, _, _, rfl, _⟩ := h
  rfl
theorem len_Polder_would_run {A : Adr} {K : PySem.W.Frag} {vs : List V} {H : Hp} {Q : VK} {E : XK} (h : sp_Polder_would_run A K vs H Q E) : vs.length = 2 := by
  obtain ⟨_, ⟨_, _, _, _, rfl, _⟩, _⟩ := h
  rfl
theorem len_Polder_would_move {A : Adr} {K : PySem.W.Frag} {vs : List V} {H : Hp} {Q : VK} {E : XK} (h : sp_Polder_would_move A K vs H Q E) : vs.length = 2 := by
  obtain ⟨_, ⟨_, _, _, _, rfl, _⟩, _⟩ := h
  rfl
theorem len_Polder_take_turn {A : Adr} {K : PySem.W.Frag} {vs : List V} {H : Hp} {Q : VK} {E : XK} (h : sp_Polder_take_turn A K vs H Q E) : vs.length = 2 := by
  obtain ⟨_, _, _, _, rfl, _⟩ := h
  rfl
theorem len_Polder_step {A : Adr} {K : PySem.W.Frag} {vs : List V} {H : Hp} {Q : VK} {E : XK} (h : sp_Polder_step A K vs H Q E) : vs.length = 3 := by
  obtain ⟨_, _, _, _, rfl, _⟩ := h
  rfl
theorem len_are_steps {A : Adr} {K : PySem.W.Frag} {vs : List V} {H : Hp} {Q : VK} {E : XK} (h : sp_are_steps A K vs H Q E) : vs.length = 3 := by
  obtain ⟨_, ⟨_, _, _, rfl, _⟩, _⟩ := h
  rfl
theorem len_Polder_run {A : Adr} {K : PySem.W.Frag} {vs : List V} {H : Hp} {Q : VK} {E : XK} (h : sp_Polder_run A K vs H Q E) : vs.length = 4 := by
  obtain ⟨_, _, _, _, _, rfl, _⟩ := h
  rfl
theorem len_Polder_tell_levels {A : Adr} {K : PySem.W.Frag} {vs : List V} {H : Hp} {Q : VK} {E : XK} (h : sp_Polder_tell_levels A K vs H Q E) : vs.length = 1 := by
  obtain ⟨_, ⟨_, _, rfl, _⟩, _⟩ := h
  rfl
theorem len_Polder_tell_device {A : Adr} {K : PySem.W.Frag} {vs : List V} {H : Hp} {Q : VK} {E : XK} (h : sp_Polder_tell_device A K vs H Q E) : vs.length = 2 := by
  obtain ⟨_, ⟨_, _, _, rfl, _⟩, _⟩ := h
  rfl
theorem len_Polder_tell_sums {A : Adr} {K : PySem.W.Frag} {vs : List V} {H : Hp} {Q : VK} {E : XK} (h : sp_Polder_tell_sums A K vs H Q E) : vs.length = 1 := by
  obtain ⟨_, ⟨_, _, rfl, _⟩, _⟩ := h
  rfl
theorem len_Polder_answer {A : Adr} {K : PySem.W.Frag} {vs : List V} {H : Hp} {Q : VK} {E : XK} (h : sp_Polder_answer A K vs H Q E) : vs.length = 3 := by
  obtain ⟨_, _, _, _, _, _, rfl, _⟩ := h
  rfl
theorem len_Square___init__ {A : Adr} {K : PySem.W.Frag} {vs : List V} {H : Hp} {Q : VK} {E : XK} (h : sp_Square___init__ A K vs H Q E) : vs.length = 3 := by
  obtain ⟨_, _, _, _, rfl, _, ⟨_, _, rfl, _⟩, _⟩ := h
  rfl
theorem len_Land___init__ {A : Adr} {K : PySem.W.Frag} {vs : List V} {H : Hp} {Q : VK} {E : XK} (h : sp_Land___init__ A K vs H Q E) : vs.length = 1 := by
  obtain ⟨_, _, rfl, _⟩ := h
  rfl
theorem len_polder_form {A : Adr} {K : PySem.W.Frag} {vs : List V} {H : Hp} {Q : VK} {E : XK} (h : sp_polder_form A K vs H Q E) : vs.length = 1 := by
  obtain ⟨_, rfl, _⟩ := h
  rfl
theorem len_is_call {A : Adr} {K : PySem.W.Frag} {vs : List V} {H : Hp} {Q : VK} {E : XK} (h : sp_is_call A K vs H Q E) : vs.length = 2 := by
  obtain ⟨_, ⟨_, _, _, _, _, rfl, _⟩, _⟩ := h
  rfl
theorem len_is_tide {A : Adr} {K : PySem.W.Frag} {vs : List V} {H : Hp} {Q : VK} {E : XK} (h : sp_is_tide A K vs H Q E) : vs.length = 1 := by
  obtain ⟨_, ⟨_, _, rfl, _⟩, _⟩ := h
  rfl
theorem len_Land_water_call {A : Adr} {K : PySem.W.Frag} {vs : List V} {H : Hp} {Q : VK} {E : XK} (h : sp_Land_water_call A K vs H Q E) : vs.length = 2 := by
  obtain ⟨_, _, _, _, rfl, _⟩ := h
  rfl
theorem len_plot_form {A : Adr} {K : PySem.W.Frag} {vs : List V} {H : Hp} {Q : VK} {E : XK} (h : sp_plot_form A K vs H Q E) : vs.length = 1 := by
  obtain ⟨_, rfl, _⟩ := h
  rfl
theorem len_is_ground {A : Adr} {K : PySem.W.Frag} {vs : List V} {H : Hp} {Q : VK} {E : XK} (h : sp_is_ground A K vs H Q E) : vs.length = 2 := by
  obtain ⟨_, ⟨_, _, _, rfl, _⟩, _⟩ := h
  rfl
theorem len_Land_plot_call {A : Adr} {K : PySem.W.Frag} {vs : List V} {H : Hp} {Q : VK} {E : XK} (h : sp_Land_plot_call A K vs H Q E) : vs.length = 2 := by
  obtain ⟨_, _, _, _, rfl, _⟩ := h
  rfl
theorem len_Land_set_map {A : Adr} {K : PySem.W.Frag} {vs : List V} {H : Hp} {Q : VK} {E : XK} (h : sp_Land_set_map A K vs H Q E) : vs.length = 3 := by
  obtain ⟨_, _, _, _, _, _, rfl, _⟩ := h
  rfl
theorem len_Land_level_of {A : Adr} {K : PySem.W.Frag} {vs : List V} {H : Hp} {Q : VK} {E : XK} (h : sp_Land_level_of A K vs H Q E) : vs.length = 2 := by
  obtain ⟨_, ⟨_, _, _, _, rfl, _⟩, _⟩ := h
  rfl
theorem len_Land_depth {A : Adr} {K : PySem.W.Frag} {vs : List V} {H : Hp} {Q : VK} {E : XK} (h : sp_Land_depth A K vs H Q E) : vs.length = 2 := by
  obtain ⟨_, ⟨_, _, _, _, rfl, _⟩, _⟩ := h
  rfl
theorem len_Land_drowned {A : Adr} {K : PySem.W.Frag} {vs : List V} {H : Hp} {Q : VK} {E : XK} (h : sp_Land_drowned A K vs H Q E) : vs.length = 1 := by
  obtain ⟨_, ⟨_, _, rfl, _⟩, _⟩ := h
  rfl
theorem len_Land_sums {A : Adr} {K : PySem.W.Frag} {vs : List V} {H : Hp} {Q : VK} {E : XK} (h : sp_Land_sums A K vs H Q E) : vs.length = 1 := by
  obtain ⟨_, ⟨_, _, rfl, _⟩, _⟩ := h
  rfl
theorem len_Land_storm {A : Adr} {K : PySem.W.Frag} {vs : List V} {H : Hp} {Q : VK} {E : XK} (h : sp_Land_storm A K vs H Q E) : vs.length = 4 := by
  obtain ⟨_, _, _, _, _, rfl, _⟩ := h
  rfl
theorem len_Land_tell_square {A : Adr} {K : PySem.W.Frag} {vs : List V} {H : Hp} {Q : VK} {E : XK} (h : sp_Land_tell_square A K vs H Q E) : vs.length = 3 := by
  obtain ⟨_, ⟨_, _, _, _, rfl, _⟩, _⟩ := h
  rfl
theorem len_Land_tell_wet {A : Adr} {K : PySem.W.Frag} {vs : List V} {H : Hp} {Q : VK} {E : XK} (h : sp_Land_tell_wet A K vs H Q E) : vs.length = 1 := by
  obtain ⟨_, ⟨_, _, rfl, _⟩, _⟩ := h
  rfl
theorem len_Land_harm {A : Adr} {K : PySem.W.Frag} {vs : List V} {H : Hp} {Q : VK} {E : XK} (h : sp_Land_harm A K vs H Q E) : vs.length = 2 := by
  obtain ⟨_, ⟨_, _, _, _, rfl, _⟩, _⟩ := h
  rfl
theorem len_Land_tell_harm {A : Adr} {K : PySem.W.Frag} {vs : List V} {H : Hp} {Q : VK} {E : XK} (h : sp_Land_tell_harm A K vs H Q E) : vs.length = 1 := by
  obtain ⟨_, ⟨_, _, rfl, _⟩, _⟩ := h
  rfl
theorem len_Land_tell_safe {A : Adr} {K : PySem.W.Frag} {vs : List V} {H : Hp} {Q : VK} {E : XK} (h : sp_Land_tell_safe A K vs H Q E) : vs.length = 1 := by
  obtain ⟨_, ⟨_, _, rfl, _⟩, _⟩ := h
  rfl
theorem len_Land_lift {A : Adr} {K : PySem.W.Frag} {vs : List V} {H : Hp} {Q : VK} {E : XK} (h : sp_Land_lift A K vs H Q E) : vs.length = 4 := by
  obtain ⟨_, _, _, _, _, rfl, _⟩ := h
  rfl
theorem len_Land_tell_check {A : Adr} {K : PySem.W.Frag} {vs : List V} {H : Hp} {Q : VK} {E : XK} (h : sp_Land_tell_check A K vs H Q E) : vs.length = 1 := by
  obtain ⟨_, ⟨_, _, rfl, _⟩, _⟩ := h
  rfl
theorem len_answer_call {A : Adr} {K : PySem.W.Frag} {vs : List V} {H : Hp} {Q : VK} {E : XK} (h : sp_answer_call A K vs H Q E) : vs.length = 4 := by
  obtain ⟨_, _, _, _, _, _, _, _, rfl, _⟩ := h
  rfl
theorem len_answers {A : Adr} {K : PySem.W.Frag} {vs : List V} {H : Hp} {Q : VK} {E : XK} (h : sp_answers A K vs H Q E) : vs.length = 1 := by
  obtain ⟨_, _, rfl, _⟩ := h
  rfl

def topS (i : Nat) : Stmt := PySem.Challenge.pw_dikelanddesk_s01_answers.main.body.getD i (.Pass ⟨0, 0, 0, 0⟩)
abbrev s_Rules___init__ : Stmt := inClass (topS 9) 0
abbrev s_Block___init__ : Stmt := inClass (topS 10) 0
abbrev s_Plot___init__ : Stmt := inClass (topS 13) 0
abbrev s_Plot_has_ground : Stmt := inClass (topS 13) 1
abbrev s_Plot_is_there : Stmt := inClass (topS 13) 2
abbrev s_Plot_place_of : Stmt := inClass (topS 13) 3
abbrev s_Plot_apart : Stmt := inClass (topS 13) 4
abbrev s_Plot_how_far : Stmt := inClass (topS 13) 5
abbrev s_Plot_inward : Stmt := inClass (topS 13) 6
abbrev s_Plot_height_of : Stmt := inClass (topS 13) 7
abbrev s_Plot_most_floors : Stmt := inClass (topS 13) 8
abbrev s_Plot_is_near_street : Stmt := inClass (topS 13) 9
abbrev s_Plot_is_near_others : Stmt := inClass (topS 13) 10
abbrev s_Plot_is_open : Stmt := inClass (topS 13) 11
abbrev s_Plot_floors_on : Stmt := inClass (topS 13) 12
abbrev s_Plot_all_floors : Stmt := inClass (topS 13) 13
abbrev s_Plot_built : Stmt := inClass (topS 13) 14
abbrev s_Plot_wanted : Stmt := inClass (topS 13) 15
abbrev s_Plot_beside : Stmt := inClass (topS 13) 17
abbrev s_Plot_houses : Stmt := inClass (topS 13) 16
abbrev s_Plot_are_near : Stmt := inClass (topS 13) 18
abbrev s_Plot_near_pairs : Stmt := inClass (topS 13) 19
abbrev s_Plot_amounts : Stmt := inClass (topS 13) 20
abbrev s_Plot_broken : Stmt := inClass (topS 13) 21
abbrev s_Plot_most_of : Stmt := inClass (topS 13) 22
abbrev s_Plot_best : Stmt := inClass (topS 13) 23
abbrev s_are_rules : Stmt := topS 11
abbrev s_Plot_set_rules : Stmt := inClass (topS 13) 24
abbrev s_Plot_add_block : Stmt := inClass (topS 13) 25
abbrev s_Plot_drop : Stmt := inClass (topS 13) 26
abbrev s_Plot_pave : Stmt := inClass (topS 13) 27
abbrev s_Plot_tell_check : Stmt := inClass (topS 13) 28
abbrev s_Plot_tell_square : Stmt := inClass (topS 13) 29
abbrev s_Plot_tell_houses : Stmt := inClass (topS 13) 30
abbrev s_Plot_tell_sums : Stmt := inClass (topS 13) 31
abbrev s_Plot_answer : Stmt := inClass (topS 13) 32
abbrev s_Section___init__ : Stmt := inClass (topS 30) 0
abbrev s_Section_level : Stmt := inClass (topS 30) 1
abbrev s_Device___init__ : Stmt := inClass (topS 31) 0
abbrev s_Polder___init__ : Stmt := inClass (topS 33) 0
abbrev s_Polder_sea : Stmt := inClass (topS 33) 1
abbrev s_Polder_is_section : Stmt := inClass (topS 33) 2
abbrev s_is_level : Stmt := topS 32
abbrev s_Polder_add_section : Stmt := inClass (topS 33) 3
abbrev s_Polder_add_device : Stmt := inClass (topS 33) 4
abbrev s_Polder_add_weir : Stmt := inClass (topS 33) 5
abbrev s_Polder_add_pump : Stmt := inClass (topS 33) 6
abbrev s_Polder_add_sluice : Stmt := inClass (topS 33) 7
abbrev s_Polder_add_inlet : Stmt := inClass (topS 33) 8
abbrev s_Polder_set_device : Stmt := inClass (topS 33) 9
abbrev s_Polder_would_run : Stmt := inClass (topS 33) 10
abbrev s_Polder_would_move : Stmt := inClass (topS 33) 11
abbrev s_Polder_take_turn : Stmt := inClass (topS 33) 12
abbrev s_Polder_step : Stmt := inClass (topS 33) 13
abbrev s_are_steps : Stmt := topS 34
abbrev s_Polder_run : Stmt := inClass (topS 33) 14
abbrev s_Polder_tell_levels : Stmt := inClass (topS 33) 15
abbrev s_Polder_tell_device : Stmt := inClass (topS 33) 16
abbrev s_Polder_tell_sums : Stmt := inClass (topS 33) 17
abbrev s_Polder_answer : Stmt := inClass (topS 33) 18
abbrev s_Square___init__ : Stmt := inClass (topS 42) 0
abbrev s_Land___init__ : Stmt := inClass (topS 44) 0
abbrev s_polder_form : Stmt := topS 36
abbrev s_is_call : Stmt := topS 43
abbrev s_is_tide : Stmt := topS 35
abbrev s_Land_water_call : Stmt := inClass (topS 44) 1
abbrev s_plot_form : Stmt := topS 14
abbrev s_is_ground : Stmt := topS 12
abbrev s_Land_plot_call : Stmt := inClass (topS 44) 2
abbrev s_Land_set_map : Stmt := inClass (topS 44) 3
abbrev s_Land_level_of : Stmt := inClass (topS 44) 4
abbrev s_Land_depth : Stmt := inClass (topS 44) 5
abbrev s_Land_drowned : Stmt := inClass (topS 44) 6
abbrev s_Land_sums : Stmt := inClass (topS 44) 7
abbrev s_Land_storm : Stmt := inClass (topS 44) 8
abbrev s_Land_tell_square : Stmt := inClass (topS 44) 9
abbrev s_Land_tell_wet : Stmt := inClass (topS 44) 10
abbrev s_Land_harm : Stmt := inClass (topS 44) 11
abbrev s_Land_tell_harm : Stmt := inClass (topS 44) 12
abbrev s_Land_tell_safe : Stmt := inClass (topS 44) 13
abbrev s_Land_lift : Stmt := inClass (topS 44) 14
abbrev s_Land_tell_check : Stmt := inClass (topS 44) 15
abbrev s_answer_call : Stmt := topS 47
abbrev s_answers : Stmt := topS 46
structure Fns (K : PySem.W.Frag) (A : Adr) : Prop where
  f_Rules___init__ : ∃ fd, Fun K "__init__" "Rules.__init__" s_Rules___init__ A.f_Rules___init__ fd
  f_Block___init__ : ∃ fd, Fun K "__init__" "Block.__init__" s_Block___init__ A.f_Block___init__ fd
  f_Plot___init__ : ∃ fd, Fun K "__init__" "Plot.__init__" s_Plot___init__ A.f_Plot___init__ fd
  f_Plot_has_ground : ∃ fd, Fun K "has_ground" "Plot.has_ground" s_Plot_has_ground A.f_Plot_has_ground fd
  f_Plot_is_there : ∃ fd, Fun K "is_there" "Plot.is_there" s_Plot_is_there A.f_Plot_is_there fd
  f_Plot_place_of : ∃ fd, Fun K "place_of" "Plot.place_of" s_Plot_place_of A.f_Plot_place_of fd
  f_Plot_apart : ∃ fd, Fun K "apart" "Plot.apart" s_Plot_apart A.f_Plot_apart fd
  f_Plot_how_far : ∃ fd, Fun K "how_far" "Plot.how_far" s_Plot_how_far A.f_Plot_how_far fd
  f_Plot_inward : ∃ fd, Fun K "inward" "Plot.inward" s_Plot_inward A.f_Plot_inward fd
  f_Plot_height_of : ∃ fd, Fun K "height_of" "Plot.height_of" s_Plot_height_of A.f_Plot_height_of fd
  f_Plot_most_floors : ∃ fd, Fun K "most_floors" "Plot.most_floors" s_Plot_most_floors A.f_Plot_most_floors fd
  f_Plot_is_near_street : ∃ fd, Fun K "is_near_street" "Plot.is_near_street" s_Plot_is_near_street A.f_Plot_is_near_street fd
  f_Plot_is_near_others : ∃ fd, Fun K "is_near_others" "Plot.is_near_others" s_Plot_is_near_others A.f_Plot_is_near_others fd
  f_Plot_is_open : ∃ fd, Fun K "is_open" "Plot.is_open" s_Plot_is_open A.f_Plot_is_open fd
  f_Plot_floors_on : ∃ fd, Fun K "floors_on" "Plot.floors_on" s_Plot_floors_on A.f_Plot_floors_on fd
  f_Plot_all_floors : ∃ fd, Fun K "all_floors" "Plot.all_floors" s_Plot_all_floors A.f_Plot_all_floors fd
  f_Plot_built : ∃ fd, Fun K "built" "Plot.built" s_Plot_built A.f_Plot_built fd
  f_Plot_wanted : ∃ fd, Fun K "wanted" "Plot.wanted" s_Plot_wanted A.f_Plot_wanted fd
  f_Plot_houses : ∃ fd, Fun K "houses" "Plot.houses" s_Plot_houses A.f_Plot_houses fd
  f_Plot_beside : ∃ fd, Fun K "beside" "Plot.beside" s_Plot_beside A.f_Plot_beside fd
  f_Plot_are_near : ∃ fd, Fun K "are_near" "Plot.are_near" s_Plot_are_near A.f_Plot_are_near fd
  f_Plot_near_pairs : ∃ fd, Fun K "near_pairs" "Plot.near_pairs" s_Plot_near_pairs A.f_Plot_near_pairs fd
  f_Plot_amounts : ∃ fd, Fun K "amounts" "Plot.amounts" s_Plot_amounts A.f_Plot_amounts fd
  f_Plot_broken : ∃ fd, Fun K "broken" "Plot.broken" s_Plot_broken A.f_Plot_broken fd
  f_Plot_most_of : ∃ fd, Fun K "most_of" "Plot.most_of" s_Plot_most_of A.f_Plot_most_of fd
  f_Plot_best : ∃ fd, Fun K "best" "Plot.best" s_Plot_best A.f_Plot_best fd
  f_Plot_set_rules : ∃ fd, Fun K "set_rules" "Plot.set_rules" s_Plot_set_rules A.f_Plot_set_rules fd
  f_Plot_add_block : ∃ fd, Fun K "add_block" "Plot.add_block" s_Plot_add_block A.f_Plot_add_block fd
  f_Plot_drop : ∃ fd, Fun K "drop" "Plot.drop" s_Plot_drop A.f_Plot_drop fd
  f_Plot_pave : ∃ fd, Fun K "pave" "Plot.pave" s_Plot_pave A.f_Plot_pave fd
  f_Plot_tell_check : ∃ fd, Fun K "tell_check" "Plot.tell_check" s_Plot_tell_check A.f_Plot_tell_check fd
  f_Plot_tell_square : ∃ fd, Fun K "tell_square" "Plot.tell_square" s_Plot_tell_square A.f_Plot_tell_square fd
  f_Plot_tell_houses : ∃ fd, Fun K "tell_houses" "Plot.tell_houses" s_Plot_tell_houses A.f_Plot_tell_houses fd
  f_Plot_tell_sums : ∃ fd, Fun K "tell_sums" "Plot.tell_sums" s_Plot_tell_sums A.f_Plot_tell_sums fd
  f_Plot_answer : ∃ fd, Fun K "answer" "Plot.answer" s_Plot_answer A.f_Plot_answer fd
  f_Section___init__ : ∃ fd, Fun K "__init__" "Section.__init__" s_Section___init__ A.f_Section___init__ fd
  f_Section_level : ∃ fd, Fun K "level" "Section.level" s_Section_level A.f_Section_level fd
  f_Device___init__ : ∃ fd, Fun K "__init__" "Device.__init__" s_Device___init__ A.f_Device___init__ fd
  f_Polder___init__ : ∃ fd, Fun K "__init__" "Polder.__init__" s_Polder___init__ A.f_Polder___init__ fd
  f_Polder_sea : ∃ fd, Fun K "sea" "Polder.sea" s_Polder_sea A.f_Polder_sea fd
  f_Polder_is_section : ∃ fd, Fun K "is_section" "Polder.is_section" s_Polder_is_section A.f_Polder_is_section fd
  f_Polder_add_section : ∃ fd, Fun K "add_section" "Polder.add_section" s_Polder_add_section A.f_Polder_add_section fd
  f_Polder_add_device : ∃ fd, Fun K "add_device" "Polder.add_device" s_Polder_add_device A.f_Polder_add_device fd
  f_Polder_add_weir : ∃ fd, Fun K "add_weir" "Polder.add_weir" s_Polder_add_weir A.f_Polder_add_weir fd
  f_Polder_add_pump : ∃ fd, Fun K "add_pump" "Polder.add_pump" s_Polder_add_pump A.f_Polder_add_pump fd
  f_Polder_add_sluice : ∃ fd, Fun K "add_sluice" "Polder.add_sluice" s_Polder_add_sluice A.f_Polder_add_sluice fd
  f_Polder_add_inlet : ∃ fd, Fun K "add_inlet" "Polder.add_inlet" s_Polder_add_inlet A.f_Polder_add_inlet fd
  f_Polder_set_device : ∃ fd, Fun K "set_device" "Polder.set_device" s_Polder_set_device A.f_Polder_set_device fd
  f_Polder_would_run : ∃ fd, Fun K "would_run" "Polder.would_run" s_Polder_would_run A.f_Polder_would_run fd
  f_Polder_would_move : ∃ fd, Fun K "would_move" "Polder.would_move" s_Polder_would_move A.f_Polder_would_move fd
  f_Polder_take_turn : ∃ fd, Fun K "take_turn" "Polder.take_turn" s_Polder_take_turn A.f_Polder_take_turn fd
  f_Polder_step : ∃ fd, Fun K "step" "Polder.step" s_Polder_step A.f_Polder_step fd
  f_Polder_run : ∃ fd, Fun K "run" "Polder.run" s_Polder_run A.f_Polder_run fd
  f_Polder_tell_levels : ∃ fd, Fun K "tell_levels" "Polder.tell_levels" s_Polder_tell_levels A.f_Polder_tell_levels fd
  f_Polder_tell_device : ∃ fd, Fun K "tell_device" "Polder.tell_device" s_Polder_tell_device A.f_Polder_tell_device fd
  f_Polder_tell_sums : ∃ fd, Fun K "tell_sums" "Polder.tell_sums" s_Polder_tell_sums A.f_Polder_tell_sums fd
  f_Polder_answer : ∃ fd, Fun K "answer" "Polder.answer" s_Polder_answer A.f_Polder_answer fd
  f_Square___init__ : ∃ fd, Fun K "__init__" "Square.__init__" s_Square___init__ A.f_Square___init__ fd
  f_Land___init__ : ∃ fd, Fun K "__init__" "Land.__init__" s_Land___init__ A.f_Land___init__ fd
  f_Land_water_call : ∃ fd, Fun K "water_call" "Land.water_call" s_Land_water_call A.f_Land_water_call fd
  f_Land_plot_call : ∃ fd, Fun K "plot_call" "Land.plot_call" s_Land_plot_call A.f_Land_plot_call fd
  f_Land_set_map : ∃ fd, Fun K "set_map" "Land.set_map" s_Land_set_map A.f_Land_set_map fd
  f_Land_level_of : ∃ fd, Fun K "level_of" "Land.level_of" s_Land_level_of A.f_Land_level_of fd
  f_Land_depth : ∃ fd, Fun K "depth" "Land.depth" s_Land_depth A.f_Land_depth fd
  f_Land_drowned : ∃ fd, Fun K "drowned" "Land.drowned" s_Land_drowned A.f_Land_drowned fd
  f_Land_sums : ∃ fd, Fun K "sums" "Land.sums" s_Land_sums A.f_Land_sums fd
  f_Land_storm : ∃ fd, Fun K "storm" "Land.storm" s_Land_storm A.f_Land_storm fd
  f_Land_tell_square : ∃ fd, Fun K "tell_square" "Land.tell_square" s_Land_tell_square A.f_Land_tell_square fd
  f_Land_tell_wet : ∃ fd, Fun K "tell_wet" "Land.tell_wet" s_Land_tell_wet A.f_Land_tell_wet fd
  f_Land_harm : ∃ fd, Fun K "harm" "Land.harm" s_Land_harm A.f_Land_harm fd
  f_Land_tell_harm : ∃ fd, Fun K "tell_harm" "Land.tell_harm" s_Land_tell_harm A.f_Land_tell_harm fd
  f_Land_tell_safe : ∃ fd, Fun K "tell_safe" "Land.tell_safe" s_Land_tell_safe A.f_Land_tell_safe fd
  f_Land_lift : ∃ fd, Fun K "lift" "Land.lift" s_Land_lift A.f_Land_lift fd
  f_Land_tell_check : ∃ fd, Fun K "tell_check" "Land.tell_check" s_Land_tell_check A.f_Land_tell_check fd
  f_are_rules : ∃ fd, Fun K "are_rules" "are_rules" s_are_rules A.f_are_rules fd
  f_is_ground : ∃ fd, Fun K "is_ground" "is_ground" s_is_ground A.f_is_ground fd
  f_plot_form : ∃ fd, Fun K "plot_form" "plot_form" s_plot_form A.f_plot_form fd
  f_is_level : ∃ fd, Fun K "is_level" "is_level" s_is_level A.f_is_level fd
  f_are_steps : ∃ fd, Fun K "are_steps" "are_steps" s_are_steps A.f_are_steps fd
  f_is_tide : ∃ fd, Fun K "is_tide" "is_tide" s_is_tide A.f_is_tide fd
  f_polder_form : ∃ fd, Fun K "polder_form" "polder_form" s_polder_form A.f_polder_form fd
  f_is_call : ∃ fd, Fun K "is_call" "is_call" s_is_call A.f_is_call fd
  f_answers : ∃ fd, Fun K "answers" "answers" s_answers A.f_answers fd
  f_answer_call : ∃ fd, Fun K "answer_call" "answer_call" s_answer_call A.f_answer_call fd

section
variable {P : Program} {w : World} {K : PySem.W.Frag} {mg : Str → Option Value} {base : Heap} {A : Adr}
theorem sc_Rules___init__ : FnScope N_Rules___init__ ["self", "numbers"] (defScope s_Rules___init__) := ⟨rfl, rfl, rfl, by decide +kernel, rfl, by decide +kernel, by decide +kernel⟩
theorem ok_Rules___init__ (T : Txt K mg A) (U : Fns K A) : Ok P w K mg base 1 A.f_Rules___init__ ["self", "numbers"] (sp_Rules___init__ A K) := by
  obtain ⟨fd, F⟩ := U.f_Rules___init__
  have SC := sc_Rules___init__
  refine ⟨fd, F.ok SC (fun vs H Q E h => len_Rules___init__ h) (fun cdv A0 outer s H vs Q E hr h => ⟨t_Rules___init__ A K, ?_, pure_Rules___init__ T vs H Q E h⟩), F.binds (fun _ _ _ _ _ _ us hl => match us, hl with | [_, _], _ => rfl)⟩
  exact pss_cons (ps_fld (pv 0) (pe_ix ix_list (pv 1) (pe_int) (fun _ _ => rfl)) rfl)
    (pss_cons (ps_fld (pv 0) (pe_ix ix_list (pv 1) (pe_int) (fun _ _ => rfl)) rfl)
    (pss_cons (ps_fld (pv 0) (pe_ix ix_list (pv 1) (pe_int) (fun _ _ => rfl)) rfl)
    (pss_cons (ps_fld (pv 0) (pe_ix ix_list (pv 1) (pe_int) (fun _ _ => rfl)) rfl)
    (pss_cons (ps_fld (pv 0) (pe_ix ix_list (pv 1) (pe_int) (fun _ _ => rfl)) rfl)
    (pss_cons (ps_fld (pv 0) (pe_ix ix_list (pv 1) (pe_int) (fun _ _ => rfl)) rfl)
    (pss_cons (ps_fld (pv 0) (pe_ix ix_list (pv 1) (pe_int) (fun _ _ => rfl)) rfl)
    (pss_cons (ps_fld (pv 0) (pe_ix ix_list (pv 1) (pe_int) (fun _ _ => rfl)) rfl)
    (pss_cons (ps_fld (pv 0) (pe_ix ix_list (pv 1) (pe_int) (fun _ _ => rfl)) rfl)
    (pss_cons (ps_fld (pv 0) (pe_ix ix_list (pv 1) (pe_int) (fun _ _ => rfl)) rfl)
    (pss_one (ps_fld (pv 0) (pe_ix ix_list (pv 1) (pe_int) (fun _ _ => rfl)) rfl)))))))))))
theorem sc_Block___init__ : FnScope N_Block___init__ ["self", "x", "y", "x2", "y2", "floors"] (defScope s_Block___init__) := ⟨rfl, rfl, rfl, by decide +kernel, rfl, by decide +kernel, by decide +kernel⟩
theorem ok_Block___init__ (T : Txt K mg A) (U : Fns K A) : Ok P w K mg base 1 A.f_Block___init__ ["self", "x", "y", "x2", "y2", "floors"] (sp_Block___init__ A K) := by
  obtain ⟨fd, F⟩ := U.f_Block___init__
  have SC := sc_Block___init__
  refine ⟨fd, F.ok SC (fun vs H Q E h => len_Block___init__ h) (fun cdv A0 outer s H vs Q E hr h => ⟨t_Block___init__ A K, ?_, pure_Block___init__ T vs H Q E h⟩), F.binds (fun _ _ _ _ _ _ us hl => match us, hl with | [_, _, _, _, _, _], _ => rfl)⟩
  exact pss_cons (ps_fld (pv 0) (pv 1) rfl)
    (pss_cons (ps_fld (pv 0) (pv 2) rfl)
    (pss_cons (ps_fld (pv 0) (pv 3) rfl)
    (pss_cons (ps_fld (pv 0) (pv 4) rfl)
    (pss_one (ps_fld (pv 0) (pv 5) rfl)))))
theorem sc_Plot___init__ : FnScope N_Plot___init__ ["self", "across", "squares"] (defScope s_Plot___init__) := ⟨rfl, rfl, rfl, by decide +kernel, rfl, by decide +kernel, by decide +kernel⟩
theorem ok_Plot___init__ (T : Txt K mg A) (U : Fns K A) : Ok P w K mg base 3 A.f_Plot___init__ ["self", "across", "squares"] (sp_Plot___init__ A K) := by
  obtain ⟨fd, F⟩ := U.f_Plot___init__
  have O_Rules___init__ : Ok P w K mg base 1 A.f_Rules___init__ ["self", "numbers"] (sp_Rules___init__ A K) := ok_Rules___init__ T U
  have SC := sc_Plot___init__
  refine ⟨fd, F.ok SC (fun vs H Q E h => len_Plot___init__ h) (fun cdv A0 outer s H vs Q E hr h => ⟨t_Plot___init__ A K, ?_, pure_Plot___init__ T vs H Q E h⟩), F.binds (fun _ _ _ _ _ _ us hl => match us, hl with | [_, _, _], _ => rfl)⟩
  exact pss_cons (ps_fld (pv 0) (pv 1) rfl)
    (pss_cons (ps_fld (pv 0) (pv 2) rfl)
    (pss_cons (ps_fld (pv 0) (pe_ifExp (pt_cmpR op_eq (pv 1) (pe_int) (nomark _)) (pe_int) (pe_op op_fdiv (pe_callB call_len_seq rfl T.g.b_len boot_len (pa_cons (pv 2) (pa_nil))) (pv 1))) rfl)
    (pss_cons (ps_fld (pv 0) (pe_bm PySem.F.plainAttrs_list PySem.F.slot_list_count PySem.F.type_list_count mt_lcount (pv 2) (pa_cons (pe_globI rfl T.g.c_OWN) (pa_nil))) rfl)
    (pss_cons (ps_fld (pv 0) (pe_makeO T.Rules.made (O_Rules___init__) (hr.mono (by decide)) rfl T.Rules.mg (pa_cons (pe_lst (pa_cons (pe_int) (pa_cons (pe_int) (pa_cons (pe_int) (pa_cons (pe_int) (pa_cons (pe_int) (pa_cons (pe_int) (pa_cons (pe_int) (pa_cons (pe_int) (pa_cons (pe_int) (pa_cons (pe_int) (pa_cons (pe_int) (pa_nil))))))))))))) (pa_nil))) rfl)
    (pss_cons (ps_fld (pv 0) (pe_lst (pa_nil)) rfl)
    (pss_cons (ps_fld (pv 0) (pe_int) rfl)
    (pss_one (ps_fld (pv 0) (pe_int) rfl))))))))
theorem sc_Plot_has_ground : FnScope N_Plot_has_ground ["self"] (defScope s_Plot_has_ground) := ⟨rfl, rfl, rfl, by decide +kernel, rfl, by decide +kernel, by decide +kernel⟩
theorem ok_Plot_has_ground (T : Txt K mg A) (U : Fns K A) : Ok P w K mg base 1 A.f_Plot_has_ground ["self"] (sp_Plot_has_ground A K) := by
  obtain ⟨fd, F⟩ := U.f_Plot_has_ground
  have SC := sc_Plot_has_ground
  refine ⟨fd, F.ok SC (fun vs H Q E h => len_Plot_has_ground h) (fun cdv A0 outer s H vs Q E hr h => ⟨t_Plot_has_ground A K, ?_, pure_Plot_has_ground T vs H Q E h⟩), F.binds (fun _ _ _ _ _ _ us hl => match us, hl with | [_], _ => rfl)⟩
  exact pss_one (ps_ret (pe_cmpR op_gt (pe_callB call_len_seq rfl T.g.b_len boot_len (pa_cons (pe_fld (pv 0) rfl) (pa_nil))) (pe_int) (nomark _)))
theorem sc_Plot_is_there : FnScope N_Plot_is_there ["self", "x", "y"] (defScope s_Plot_is_there) := ⟨rfl, rfl, rfl, by decide +kernel, rfl, by decide +kernel, by decide +kernel⟩
theorem ok_Plot_is_there (T : Txt K mg A) (U : Fns K A) : Ok P w K mg base 1 A.f_Plot_is_there ["self", "x", "y"] (sp_Plot_is_there A K) := by
  obtain ⟨fd, F⟩ := U.f_Plot_is_there
  have SC := sc_Plot_is_there
  refine ⟨fd, F.ok SC (fun vs H Q E h => len_Plot_is_there h) (fun cdv A0 outer s H vs Q E hr h => ⟨t_Plot_is_there A K, ?_, pure_Plot_is_there T vs H Q E h⟩), F.binds (fun _ _ _ _ _ _ us hl => match us, hl with | [_, _, _], _ => rfl)⟩
  exact pss_one (ps_ret (pe_and (pe_chain op_le op_lt (pe_int) (pv 1) (pe_fld (pv 0) rfl)) (pe_one (pe_chain op_le op_lt (pe_int) (pv 2) (pe_fld (pv 0) rfl)))))
theorem sc_Plot_place_of : FnScope N_Plot_place_of ["self", "x", "y"] (defScope s_Plot_place_of) := ⟨rfl, rfl, rfl, by decide +kernel, rfl, by decide +kernel, by decide +kernel⟩
theorem ok_Plot_place_of (T : Txt K mg A) (U : Fns K A) : Ok P w K mg base 1 A.f_Plot_place_of ["self", "x", "y"] (sp_Plot_place_of A K) := by
  obtain ⟨fd, F⟩ := U.f_Plot_place_of
  have SC := sc_Plot_place_of
  refine ⟨fd, F.ok SC (fun vs H Q E h => len_Plot_place_of h) (fun cdv A0 outer s H vs Q E hr h => ⟨t_Plot_place_of A K, ?_, pure_Plot_place_of T vs H Q E h⟩), F.binds (fun _ _ _ _ _ _ us hl => match us, hl with | [_, _, _], _ => rfl)⟩
  exact pss_one (ps_ret (pe_op op_add (pe_op op_mul (pv 2) (pe_fld (pv 0) rfl)) (pv 1)))
theorem sc_Plot_apart : FnScope N_Plot_apart ["self", "place", "other"] (defScope s_Plot_apart) := ⟨rfl, rfl, rfl, by decide +kernel, rfl, by decide +kernel, by decide +kernel⟩
theorem ok_Plot_apart (T : Txt K mg A) (U : Fns K A) : Ok P w K mg base 1 A.f_Plot_apart ["self", "place", "other"] (sp_Plot_apart A K) := by
  obtain ⟨fd, F⟩ := U.f_Plot_apart
  have SC := sc_Plot_apart
  refine ⟨fd, F.ok SC (fun vs H Q E h => len_Plot_apart h) (fun cdv A0 outer s H vs Q E hr h => ⟨t_Plot_apart A K, ?_, pure_Plot_apart T vs H Q E h⟩), F.binds (fun _ _ _ _ _ _ us hl => match us, hl with | [_, _, _], _ => rfl)⟩
  exact pss_cons (ps_set (i := 3) SC.nd rfl (Or.inl rfl) (pe_callB call_abs rfl T.g.b_abs boot_abs (pa_cons (pe_op op_sub (pe_op op_mod (pv 1) (pe_fld (pv 0) rfl)) (pe_op op_mod (pv 2) (pe_fld (pv 0) rfl))) (pa_nil))))
    (pss_one (ps_ret (pe_callB (call_max2 rfl) rfl T.g.b_max boot_max (pa_cons (pv 3) (pa_cons (pe_callB call_abs rfl T.g.b_abs boot_abs (pa_cons (pe_op op_sub (pe_op op_fdiv (pv 1) (pe_fld (pv 0) rfl)) (pe_op op_fdiv (pv 2) (pe_fld (pv 0) rfl))) (pa_nil))) (pa_nil))))))
theorem sc_Plot_how_far : FnScope N_Plot_how_far ["self", "place", "sort"] (defScope s_Plot_how_far) := ⟨rfl, rfl, rfl, by decide +kernel, rfl, by decide +kernel, by decide +kernel⟩
theorem ok_Plot_how_far (T : Txt K mg A) (U : Fns K A) : Ok P w K mg base 2 A.f_Plot_how_far ["self", "place", "sort"] (sp_Plot_how_far A K) := by
  obtain ⟨fd, F⟩ := U.f_Plot_how_far
  have O_Plot_apart : Ok P w K mg base 1 A.f_Plot_apart ["self", "place", "other"] (sp_Plot_apart A K) := ok_Plot_apart T U
  have SC := sc_Plot_how_far
  refine ⟨fd, F.ok SC (fun vs H Q E h => len_Plot_how_far h) (fun cdv A0 outer s H vs Q E hr h => ⟨t_Plot_how_far A K, ?_, pure_Plot_how_far T vs H Q E h⟩), F.binds (fun _ _ _ _ _ _ us hl => match us, hl with | [_, _, _], _ => rfl)⟩
  exact pss_cons (ps_set (i := 3) SC.nd rfl (Or.inl rfl) (pe_globI rfl T.g.c_FAR))
    (pss_cons (ps_if (pt_cmpR op_eq (pv 2) (pe_globI rfl T.g.c_OTHERS) (nomark _)) (pss_cons (ps_set (i := 4) SC.nd rfl (Or.inl rfl) (pe_op op_mod (pv 1) (pe_fld (pv 0) rfl)))
    (pss_cons (ps_set (i := 5) SC.nd rfl (Or.inl rfl) (pe_op op_fdiv (pv 1) (pe_fld (pv 0) rfl)))
    (pss_one (ps_set (i := 3) SC.nd rfl (Or.inl rfl) (pe_callB (call_min4 rfl) rfl T.g.b_min boot_min (pa_cons (pe_op op_add (pv 4) (pe_int)) (pa_cons (pe_op op_add (pv 5) (pe_int)) (pa_cons (pe_op op_sub (pe_fld (pv 0) rfl) (pv 4)) (pa_cons (pe_op op_sub (pe_fld (pv 0) rfl) (pv 5)) (pa_nil)))))))))) (pss_nil))
    (pss_cons (ps_for PassesOwn.never rfl (pi_enum rfl T.g.b_enumerate (pa_cons (pe_fld (pv 0) rfl) (pa_nil))) (pg_tup rfl (pgs_cons (pg_name (i := 6) SC.nd rfl (Or.inl rfl)) (pgs_cons (pg_name (i := 7) SC.nd rfl (Or.inl rfl)) (pgs_nil)))) (pss_one (ps_if (pt_cmpR op_eq (pv 7) (pv 2) (nomark _)) (pss_one (ps_set (i := 3) SC.nd rfl (Or.inl rfl) (pe_callB (call_min2 rfl) rfl T.g.b_min boot_min (pa_cons (pv 3) (pa_cons (pe_methO (pv 0) T.Plot.cl T.Plot.m_apart (O_Plot_apart) (hr.mono (by decide)) (pa_cons (pv 1) (pa_cons (pv 6) (pa_nil)))) (pa_nil)))))) (pss_nil))))
    (pss_one (ps_ret (pv 3)))))
theorem sc_Plot_inward : FnScope N_Plot_inward ["self", "place"] (defScope s_Plot_inward) := ⟨rfl, rfl, rfl, by decide +kernel, rfl, by decide +kernel, by decide +kernel⟩
theorem ok_Plot_inward (T : Txt K mg A) (U : Fns K A) : Ok P w K mg base 3 A.f_Plot_inward ["self", "place"] (sp_Plot_inward A K) := by
  obtain ⟨fd, F⟩ := U.f_Plot_inward
  have O_Plot_how_far : Ok P w K mg base 2 A.f_Plot_how_far ["self", "place", "sort"] (sp_Plot_how_far A K) := ok_Plot_how_far T U
  have SC := sc_Plot_inward
  refine ⟨fd, F.ok SC (fun vs H Q E h => len_Plot_inward h) (fun cdv A0 outer s H vs Q E hr h => ⟨t_Plot_inward A K, ?_, pure_Plot_inward T vs H Q E h⟩), F.binds (fun _ _ _ _ _ _ us hl => match us, hl with | [_, _], _ => rfl)⟩
  exact pss_one (ps_ret (pe_callB (call_max2 rfl) rfl T.g.b_max boot_max (pa_cons (pe_int) (pa_cons (pe_op op_sub (pe_methO (pv 0) T.Plot.cl T.Plot.m_how_far (O_Plot_how_far) (hr.mono (by decide)) (pa_cons (pv 1) (pa_cons (pe_globI rfl T.g.c_OTHERS) (pa_nil)))) (pe_int)) (pa_nil)))))
theorem sc_Plot_height_of : FnScope N_Plot_height_of ["self", "place"] (defScope s_Plot_height_of) := ⟨rfl, rfl, rfl, by decide +kernel, rfl, by decide +kernel, by decide +kernel⟩
theorem ok_Plot_height_of (T : Txt K mg A) (U : Fns K A) : Ok P w K mg base 4 A.f_Plot_height_of ["self", "place"] (sp_Plot_height_of A K) := by
  obtain ⟨fd, F⟩ := U.f_Plot_height_of
  have O_Plot_inward : Ok P w K mg base 3 A.f_Plot_inward ["self", "place"] (sp_Plot_inward A K) := ok_Plot_inward T U
  have SC := sc_Plot_height_of
  refine ⟨fd, F.ok SC (fun vs H Q E h => len_Plot_height_of h) (fun cdv A0 outer s H vs Q E hr h => ⟨t_Plot_height_of A K, ?_, pure_Plot_height_of T vs H Q E h⟩), F.binds (fun _ _ _ _ _ _ us hl => match us, hl with | [_, _], _ => rfl)⟩
  exact pss_one (ps_ret (pe_callB (call_min2 rfl) rfl T.g.b_min boot_min (pa_cons (pe_fld (pe_fld (pv 0) rfl) rfl) (pa_cons (pe_op op_add (pe_fld (pe_fld (pv 0) rfl) rfl) (pe_op op_mul (pe_fld (pe_fld (pv 0) rfl) rfl) (pe_methO (pv 0) T.Plot.cl T.Plot.m_inward (O_Plot_inward) (hr.mono (by decide)) (pa_cons (pv 1) (pa_nil))))) (pa_nil)))))
theorem sc_Plot_most_floors : FnScope N_Plot_most_floors ["self", "place"] (defScope s_Plot_most_floors) := ⟨rfl, rfl, rfl, by decide +kernel, rfl, by decide +kernel, by decide +kernel⟩
theorem ok_Plot_most_floors (T : Txt K mg A) (U : Fns K A) : Ok P w K mg base 5 A.f_Plot_most_floors ["self", "place"] (sp_Plot_most_floors A K) := by
  obtain ⟨fd, F⟩ := U.f_Plot_most_floors
  have O_Plot_height_of : Ok P w K mg base 4 A.f_Plot_height_of ["self", "place"] (sp_Plot_height_of A K) := ok_Plot_height_of T U
  have SC := sc_Plot_most_floors
  refine ⟨fd, F.ok SC (fun vs H Q E h => len_Plot_most_floors h) (fun cdv A0 outer s H vs Q E hr h => ⟨t_Plot_most_floors A K, ?_, pure_Plot_most_floors T vs H Q E h⟩), F.binds (fun _ _ _ _ _ _ us hl => match us, hl with | [_, _], _ => rfl)⟩
  exact pss_one (ps_ret (pe_op op_fdiv (pe_methO (pv 0) T.Plot.cl T.Plot.m_height_of (O_Plot_height_of) (hr.mono (by decide)) (pa_cons (pv 1) (pa_nil))) (pe_fld (pe_fld (pv 0) rfl) rfl)))
theorem sc_Plot_is_near_street : FnScope N_Plot_is_near_street ["self", "place"] (defScope s_Plot_is_near_street) := ⟨rfl, rfl, rfl, by decide +kernel, rfl, by decide +kernel, by decide +kernel⟩
theorem ok_Plot_is_near_street (T : Txt K mg A) (U : Fns K A) : Ok P w K mg base 3 A.f_Plot_is_near_street ["self", "place"] (sp_Plot_is_near_street A K) := by
  obtain ⟨fd, F⟩ := U.f_Plot_is_near_street
  have O_Plot_how_far : Ok P w K mg base 2 A.f_Plot_how_far ["self", "place", "sort"] (sp_Plot_how_far A K) := ok_Plot_how_far T U
  have SC := sc_Plot_is_near_street
  refine ⟨fd, F.ok SC (fun vs H Q E h => len_Plot_is_near_street h) (fun cdv A0 outer s H vs Q E hr h => ⟨t_Plot_is_near_street A K, ?_, pure_Plot_is_near_street T vs H Q E h⟩), F.binds (fun _ _ _ _ _ _ us hl => match us, hl with | [_, _], _ => rfl)⟩
  exact pss_one (ps_ret (pe_cmpR op_le (pe_methO (pv 0) T.Plot.cl T.Plot.m_how_far (O_Plot_how_far) (hr.mono (by decide)) (pa_cons (pv 1) (pa_cons (pe_globI rfl T.g.c_STREET) (pa_nil)))) (pe_fld (pe_fld (pv 0) rfl) rfl) (nomark _)))
theorem sc_Plot_is_near_others : FnScope N_Plot_is_near_others ["self", "place"] (defScope s_Plot_is_near_others) := ⟨rfl, rfl, rfl, by decide +kernel, rfl, by decide +kernel, by decide +kernel⟩
theorem ok_Plot_is_near_others (T : Txt K mg A) (U : Fns K A) : Ok P w K mg base 3 A.f_Plot_is_near_others ["self", "place"] (sp_Plot_is_near_others A K) := by
  obtain ⟨fd, F⟩ := U.f_Plot_is_near_others
  have O_Plot_how_far : Ok P w K mg base 2 A.f_Plot_how_far ["self", "place", "sort"] (sp_Plot_how_far A K) := ok_Plot_how_far T U
  have SC := sc_Plot_is_near_others
  refine ⟨fd, F.ok SC (fun vs H Q E h => len_Plot_is_near_others h) (fun cdv A0 outer s H vs Q E hr h => ⟨t_Plot_is_near_others A K, ?_, pure_Plot_is_near_others T vs H Q E h⟩), F.binds (fun _ _ _ _ _ _ us hl => match us, hl with | [_, _], _ => rfl)⟩
  exact pss_one (ps_ret (pe_cmpR op_le (pe_methO (pv 0) T.Plot.cl T.Plot.m_how_far (O_Plot_how_far) (hr.mono (by decide)) (pa_cons (pv 1) (pa_cons (pe_globI rfl T.g.c_OTHERS) (pa_nil)))) (pe_fld (pe_fld (pv 0) rfl) rfl) (nomark _)))
theorem sc_Plot_is_open : FnScope N_Plot_is_open ["self", "place"] (defScope s_Plot_is_open) := ⟨rfl, rfl, rfl, by decide +kernel, rfl, by decide +kernel, by decide +kernel⟩
theorem ok_Plot_is_open (T : Txt K mg A) (U : Fns K A) : Ok P w K mg base 4 A.f_Plot_is_open ["self", "place"] (sp_Plot_is_open A K) := by
  obtain ⟨fd, F⟩ := U.f_Plot_is_open
  have O_Plot_is_near_street : Ok P w K mg base 3 A.f_Plot_is_near_street ["self", "place"] (sp_Plot_is_near_street A K) := ok_Plot_is_near_street T U
  have O_Plot_is_near_others : Ok P w K mg base 3 A.f_Plot_is_near_others ["self", "place"] (sp_Plot_is_near_others A K) := ok_Plot_is_near_others T U
  have SC := sc_Plot_is_open
  refine ⟨fd, F.ok SC (fun vs H Q E h => len_Plot_is_open h) (fun cdv A0 outer s H vs Q E hr h => ⟨t_Plot_is_open A K, ?_, pure_Plot_is_open T vs H Q E h⟩), F.binds (fun _ _ _ _ _ _ us hl => match us, hl with | [_, _], _ => rfl)⟩
  exact pss_one (ps_ret (pe_and (pe_cmpR op_eq (pe_ix ix_list (pe_fld (pv 0) rfl) (pv 1) (fun _ _ => rfl)) (pe_globI rfl T.g.c_OWN) (nomark _)) (pe_and (pe_not (pe_methO (pv 0) T.Plot.cl T.Plot.m_is_near_street (O_Plot_is_near_street) (hr.mono (by decide)) (pa_cons (pv 1) (pa_nil)))) (pe_one (pe_not (pe_methO (pv 0) T.Plot.cl T.Plot.m_is_near_others (O_Plot_is_near_others) (hr.mono (by decide)) (pa_cons (pv 1) (pa_nil))))))))
theorem sc_Plot_floors_on : FnScope N_Plot_floors_on ["self", "place"] (defScope s_Plot_floors_on) := ⟨rfl, rfl, rfl, by decide +kernel, rfl, by decide +kernel, by decide +kernel⟩
theorem ok_Plot_floors_on (T : Txt K mg A) (U : Fns K A) : Ok P w K mg base 1 A.f_Plot_floors_on ["self", "place"] (sp_Plot_floors_on A K) := by
  obtain ⟨fd, F⟩ := U.f_Plot_floors_on
  have SC := sc_Plot_floors_on
  refine ⟨fd, F.ok SC (fun vs H Q E h => len_Plot_floors_on h) (fun cdv A0 outer s H vs Q E hr h => ⟨t_Plot_floors_on A K, ?_, pure_Plot_floors_on T vs H Q E h⟩), F.binds (fun _ _ _ _ _ _ us hl => match us, hl with | [_, _], _ => rfl)⟩
  exact pss_cons (ps_set (i := 2) SC.nd rfl (Or.inl rfl) (pe_op op_mod (pv 1) (pe_fld (pv 0) rfl)))
    (pss_cons (ps_set (i := 3) SC.nd rfl (Or.inl rfl) (pe_op op_fdiv (pv 1) (pe_fld (pv 0) rfl)))
    (pss_cons (ps_set (i := 4) SC.nd rfl (Or.inl rfl) (pe_int))
    (pss_cons (ps_for PassesOwn.never rfl (pi_list (pe_fld (pv 0) rfl)) (pg_name (i := 5) SC.nd rfl (Or.inl rfl)) (pss_one (ps_if (PW.pt (pw_and (pt_chain op_le op_le (pe_fld (pv 5) rfl) (pv 2) (pe_fld (pv 5) rfl)) (pw_and1 (pt_chain op_le op_le (pe_fld (pv 5) rfl) (pv 3) (pe_fld (pv 5) rfl))))) (pss_one (ps_set (i := 4) SC.nd rfl (Or.inl rfl) (pe_callB (call_max2 rfl) rfl T.g.b_max boot_max (pa_cons (pv 4) (pa_cons (pe_fld (pv 5) rfl) (pa_nil)))))) (pss_nil))))
    (pss_one (ps_ret (pv 4))))))
theorem sc_Plot_all_floors : FnScope N_Plot_all_floors ["self"] (defScope s_Plot_all_floors) := ⟨rfl, rfl, rfl, by decide +kernel, rfl, by decide +kernel, by decide +kernel⟩
theorem ok_Plot_all_floors (T : Txt K mg A) (U : Fns K A) : Ok P w K mg base 2 A.f_Plot_all_floors ["self"] (sp_Plot_all_floors A K) := by
  obtain ⟨fd, F⟩ := U.f_Plot_all_floors
  have O_Plot_floors_on : Ok P w K mg base 1 A.f_Plot_floors_on ["self", "place"] (sp_Plot_floors_on A K) := ok_Plot_floors_on T U
  have SC := sc_Plot_all_floors
  refine ⟨fd, F.ok SC (fun vs H Q E h => len_Plot_all_floors h) (fun cdv A0 outer s H vs Q E hr h => ⟨t_Plot_all_floors A K, ?_, pure_Plot_all_floors T vs H Q E h⟩), F.binds (fun _ _ _ _ _ _ us hl => match us, hl with | [_], _ => rfl)⟩
  exact pss_one (ps_ret (pe_lc (own := [("place", 1)]) (g := gName 1) (tt := tYes) (te := tMeth A.c_Plot "floors_on" (sp_Plot_floors_on A K) [] E0 (tVar 0) (tCons (tVar 1) (tNil))) rfl SC.nd (pi_range1 rfl T.g.b_range (pa_cons (pe_callB call_len_seq rfl T.g.b_len boot_len (pa_cons (pe_fld (pv 0) rfl) (pa_nil))) (pa_nil))) (blkOk_by (own := [("place", 1)]) (N := N_Plot_all_floors) (sc := defScope s_Plot_all_floors) (by decide +kernel)) (fun _ _ _ _ _ => pg_name (i := 1) SC.nd rfl (Or.inl rfl)) (fun _ _ _ _ _ => pts_nil) (fun _ _ _ _ _ => pe_methO (pv 0) T.Plot.cl T.Plot.m_floors_on (O_Plot_floors_on) (hr.mono (by decide)) (pa_cons (pv 1) (pa_nil)))))
theorem sc_Plot_built : FnScope N_Plot_built ["self"] (defScope s_Plot_built) := ⟨rfl, rfl, rfl, by decide +kernel, rfl, by decide +kernel, by decide +kernel⟩
theorem ok_Plot_built (T : Txt K mg A) (U : Fns K A) : Ok P w K mg base 3 A.f_Plot_built ["self"] (sp_Plot_built A K) := by
  obtain ⟨fd, F⟩ := U.f_Plot_built
  have O_Plot_all_floors : Ok P w K mg base 2 A.f_Plot_all_floors ["self"] (sp_Plot_all_floors A K) := ok_Plot_all_floors T U
  have SC := sc_Plot_built
  refine ⟨fd, F.ok SC (fun vs H Q E h => len_Plot_built h) (fun cdv A0 outer s H vs Q E hr h => ⟨t_Plot_built A K, ?_, pure_Plot_built T vs H Q E h⟩), F.binds (fun _ _ _ _ _ _ us hl => match us, hl with | [_], _ => rfl)⟩
  exact pss_one (ps_ret (pe_lc (own := [("place", 1), ("floors", 2)]) (g := gTup K 2 (gCons (gName 1) (gCons (gName 2) (gNil)))) (tt := tTest (tOp rGtI (tVar 2) (tC (.int 0)))) (te := tVar 1) rfl SC.nd (pi_enum rfl T.g.b_enumerate (pa_cons (pe_methO0 (pv 0) T.Plot.cl T.Plot.m_all_floors (O_Plot_all_floors) (hr.mono (by decide))) (pa_nil))) (blkOk_by (own := [("place", 1), ("floors", 2)]) (N := N_Plot_built) (sc := defScope s_Plot_built) (by decide +kernel)) (fun _ _ _ _ _ => pg_tup rfl (pgs_cons (pg_name (i := 1) SC.nd rfl (Or.inl rfl)) (pgs_cons (pg_name (i := 2) SC.nd rfl (Or.inl rfl)) (pgs_nil)))) (fun _ _ _ _ _ => pts_one (pt_cmpR op_gt (pv 2) (pe_int) (nomark _))) (fun _ _ _ _ _ => pv 1)))
theorem sc_Plot_wanted : FnScope N_Plot_wanted ["self"] (defScope s_Plot_wanted) := ⟨rfl, rfl, rfl, by decide +kernel, rfl, by decide +kernel, by decide +kernel⟩
theorem ok_Plot_wanted (T : Txt K mg A) (U : Fns K A) : Ok P w K mg base 3 A.f_Plot_wanted ["self"] (sp_Plot_wanted A K) := by
  obtain ⟨fd, F⟩ := U.f_Plot_wanted
  have O_Plot_all_floors : Ok P w K mg base 2 A.f_Plot_all_floors ["self"] (sp_Plot_all_floors A K) := ok_Plot_all_floors T U
  have SC := sc_Plot_wanted
  refine ⟨fd, F.ok SC (fun vs H Q E h => len_Plot_wanted h) (fun cdv A0 outer s H vs Q E hr h => ⟨t_Plot_wanted A K, ?_, pure_Plot_wanted T vs H Q E h⟩), F.binds (fun _ _ _ _ _ _ us hl => match us, hl with | [_], _ => rfl)⟩
  exact pss_cons (ps_if (pt_cmpR op_eq (pe_fld (pe_fld (pv 0) rfl) rfl) (pe_int) (nomark _)) (pss_one (ps_ret (pe_int))) (pss_nil))
    (pss_one (ps_ret (pe_op op_fdiv (pe_op op_sub (pe_op op_add (pe_callB (cr_sum rfl) rfl T.g.b_sum boot_sum (pa_cons (pe_methO0 (pv 0) T.Plot.cl T.Plot.m_all_floors (O_Plot_all_floors) (hr.mono (by decide))) (pa_nil))) (pe_fld (pe_fld (pv 0) rfl) rfl)) (pe_int)) (pe_fld (pe_fld (pv 0) rfl) rfl))))
theorem sc_Plot_beside : FnScope N_Plot_beside ["self", "place"] (defScope s_Plot_beside) := ⟨rfl, rfl, rfl, by decide +kernel, rfl, by decide +kernel, by decide +kernel⟩
theorem ok_Plot_beside (T : Txt K mg A) (U : Fns K A) : Ok P w K mg base 2 A.f_Plot_beside ["self", "place"] (sp_Plot_beside A K) := by
  obtain ⟨fd, F⟩ := U.f_Plot_beside
  have O_Plot_is_there : Ok P w K mg base 1 A.f_Plot_is_there ["self", "x", "y"] (sp_Plot_is_there A K) := ok_Plot_is_there T U
  have O_Plot_place_of : Ok P w K mg base 1 A.f_Plot_place_of ["self", "x", "y"] (sp_Plot_place_of A K) := ok_Plot_place_of T U
  have SC := sc_Plot_beside
  refine ⟨fd, F.ok SC (fun vs H Q E h => len_Plot_beside h) (fun cdv A0 outer s H vs Q E hr h => ⟨t_Plot_beside A K, ?_, pure_Plot_beside T vs H Q E h⟩), F.binds (fun _ _ _ _ _ _ us hl => match us, hl with | [_, _], _ => rfl)⟩
  exact pss_cons (ps_set (i := 2) SC.nd rfl (Or.inl rfl) (pe_op op_mod (pv 1) (pe_fld (pv 0) rfl)))
    (pss_cons (ps_set (i := 3) SC.nd rfl (Or.inl rfl) (pe_op op_fdiv (pv 1) (pe_fld (pv 0) rfl)))
    (pss_cons (ps_set (i := 4) SC.nd rfl (Or.inl rfl) (pe_lst (pa_nil)))
    (pss_cons (ps_for PassesOwn.never rfl (pi_tup (pe_tup (pa_cons (pe_tup (pa_cons (pe_op op_sub (pv 2) (pe_int)) (pa_cons (pv 3) (pa_nil)))) (pa_cons (pe_tup (pa_cons (pe_op op_add (pv 2) (pe_int)) (pa_cons (pv 3) (pa_nil)))) (pa_cons (pe_tup (pa_cons (pv 2) (pa_cons (pe_op op_sub (pv 3) (pe_int)) (pa_nil)))) (pa_cons (pe_tup (pa_cons (pv 2) (pa_cons (pe_op op_add (pv 3) (pe_int)) (pa_nil)))) (pa_nil))))))) (pg_tup rfl (pgs_cons (pg_name (i := 5) SC.nd rfl (Or.inl rfl)) (pgs_cons (pg_name (i := 6) SC.nd rfl (Or.inl rfl)) (pgs_nil)))) (pss_one (ps_if (pt_val (pe_methO (pv 0) T.Plot.cl T.Plot.m_is_there (O_Plot_is_there) (hr.mono (by decide)) (pa_cons (pv 5) (pa_cons (pv 6) (pa_nil))))) (pss_one (ps_expr (pe_bm PySem.F.plainAttrs_list PySem.F.slot_list_append PySem.F.type_list_append mt_append (pv 4) (pa_cons (pe_methO (pv 0) T.Plot.cl T.Plot.m_place_of (O_Plot_place_of) (hr.mono (by decide)) (pa_cons (pv 5) (pa_cons (pv 6) (pa_nil)))) (pa_nil))))) (pss_nil))))
    (pss_one (ps_ret (pv 4))))))
theorem sc_Plot_houses : FnScope N_Plot_houses ["self"] (defScope s_Plot_houses) := ⟨rfl, rfl, rfl, by decide +kernel, rfl, by decide +kernel, by decide +kernel⟩
theorem ok_Plot_houses (T : Txt K mg A) (U : Fns K A) : Ok P w K mg base 4 A.f_Plot_houses ["self"] (sp_Plot_houses A K) := by
  obtain ⟨fd, F⟩ := U.f_Plot_houses
  have O_Plot_built : Ok P w K mg base 3 A.f_Plot_built ["self"] (sp_Plot_built A K) := ok_Plot_built T U
  have O_Plot_beside : Ok P w K mg base 2 A.f_Plot_beside ["self", "place"] (sp_Plot_beside A K) := ok_Plot_beside T U
  have SC := sc_Plot_houses
  refine ⟨fd, F.ok SC (fun vs H Q E h => len_Plot_houses h) (fun cdv A0 outer s H vs Q E hr h => ⟨t_Plot_houses A K, ?_, pure_Plot_houses T vs H Q E h⟩), F.binds (fun _ _ _ _ _ _ us hl => match us, hl with | [_], _ => rfl)⟩
  exact pss_cons (ps_set (i := 1) SC.nd rfl (Or.inl rfl) (pe_dnewK))
    (pss_cons (ps_for PassesOwn.never rfl (pi_list (pe_methO0 (pv 0) T.Plot.cl T.Plot.m_built (O_Plot_built) (hr.mono (by decide)))) (pg_name (i := 2) SC.nd rfl (Or.inl rfl)) (pss_one (ps_dput (hu_of hr) (pv 1) (pv 2) (pe_bl) rfl)))
    (pss_cons (ps_set (i := 3) SC.nd rfl (Or.inl rfl) (pe_lst (pa_nil)))
    (pss_cons (ps_for PassesOwn.never rfl (pi_list (pe_methO0 (pv 0) T.Plot.cl T.Plot.m_built (O_Plot_built) (hr.mono (by decide)))) (pg_name (i := 4) SC.nd rfl (Or.inl rfl)) (pss_one (ps_if (pt_cmp (pc_din (hu_of hr) (pv 4) (pv 1))) (pss_cons (ps_expr (pe_dpop1 (pv 1) (pv 4) ⟨rfl, rfl, rfl, rfl⟩))
    (pss_cons (ps_set (i := 5) SC.nd rfl (Or.inl rfl) (pe_lst (pa_nil)))
    (pss_cons (ps_set (i := 6) SC.nd rfl (Or.inl rfl) (pe_lst (pa_cons (pv 4) (pa_nil))))
    (pss_cons (ps_while PassesOwn.never (pt_cmpR op_gt (pe_callB call_len_seq rfl T.g.b_len boot_len (pa_cons (pv 6) (pa_nil))) (pe_int) (nomark _)) (pss_cons (ps_set (i := 2) SC.nd rfl (Or.inl rfl) (pe_bm0 PySem.F.plainAttrs_list PySem.F.slot_list_pop PySem.F.type_list_pop mt_pop (pv 6)))
    (pss_cons (ps_expr (pe_bm PySem.F.plainAttrs_list PySem.F.slot_list_append PySem.F.type_list_append mt_append (pv 5) (pa_cons (pv 2) (pa_nil))))
    (pss_one (ps_for PassesOwn.never rfl (pi_list (pe_methO (pv 0) T.Plot.cl T.Plot.m_beside (O_Plot_beside) (hr.mono (by decide)) (pa_cons (pv 2) (pa_nil)))) (pg_name (i := 7) SC.nd rfl (Or.inl rfl)) (pss_one (ps_if (pt_cmp (pc_din (hu_of hr) (pv 7) (pv 1))) (pss_cons (ps_expr (pe_dpop1 (pv 1) (pv 7) ⟨rfl, rfl, rfl, rfl⟩))
    (pss_one (ps_expr (pe_bm PySem.F.plainAttrs_list PySem.F.slot_list_append PySem.F.type_list_append mt_append (pv 6) (pa_cons (pv 7) (pa_nil)))))) (pss_nil))))))))
    (pss_one (ps_expr (pe_bm PySem.F.plainAttrs_list PySem.F.slot_list_append PySem.F.type_list_append mt_append (pv 3) (pa_cons (pv 5) (pa_nil))))))))) (pss_nil))))
    (pss_one (ps_ret (pv 3))))))
theorem sc_Plot_are_near : FnScope N_Plot_are_near ["self", "house", "other"] (defScope s_Plot_are_near) := ⟨rfl, rfl, rfl, by decide +kernel, rfl, by decide +kernel, by decide +kernel⟩
theorem ok_Plot_are_near (T : Txt K mg A) (U : Fns K A) : Ok P w K mg base 2 A.f_Plot_are_near ["self", "house", "other"] (sp_Plot_are_near A K) := by
  obtain ⟨fd, F⟩ := U.f_Plot_are_near
  have O_Plot_apart : Ok P w K mg base 1 A.f_Plot_apart ["self", "place", "other"] (sp_Plot_apart A K) := ok_Plot_apart T U
  have SC := sc_Plot_are_near
  refine ⟨fd, F.ok SC (fun vs H Q E h => len_Plot_are_near h) (fun cdv A0 outer s H vs Q E hr h => ⟨t_Plot_are_near A K, ?_, pure_Plot_are_near T vs H Q E h⟩), F.binds (fun _ _ _ _ _ _ us hl => match us, hl with | [_, _, _], _ => rfl)⟩
  exact pss_cons (ps_for PassesOwn.never rfl (pi_list (pv 1)) (pg_name (i := 3) SC.nd rfl (Or.inl rfl)) (pss_one (ps_for PassesOwn.never rfl (pi_list (pv 2)) (pg_name (i := 4) SC.nd rfl (Or.inl rfl)) (pss_one (ps_if (pt_cmpR op_lt (pe_op op_sub (pe_methO (pv 0) T.Plot.cl T.Plot.m_apart (O_Plot_apart) (hr.mono (by decide)) (pa_cons (pv 3) (pa_cons (pv 4) (pa_nil)))) (pe_int)) (pe_fld (pe_fld (pv 0) rfl) rfl) (nomark _)) (pss_one (ps_ret (pe_bl))) (pss_nil))))))
    (pss_one (ps_ret (pe_bl)))
theorem sc_Plot_near_pairs : FnScope N_Plot_near_pairs ["self"] (defScope s_Plot_near_pairs) := ⟨rfl, rfl, rfl, by decide +kernel, rfl, by decide +kernel, by decide +kernel⟩
theorem ok_Plot_near_pairs (T : Txt K mg A) (U : Fns K A) : Ok P w K mg base 5 A.f_Plot_near_pairs ["self"] (sp_Plot_near_pairs A K) := by
  obtain ⟨fd, F⟩ := U.f_Plot_near_pairs
  have O_Plot_houses : Ok P w K mg base 4 A.f_Plot_houses ["self"] (sp_Plot_houses A K) := ok_Plot_houses T U
  have O_Plot_are_near : Ok P w K mg base 2 A.f_Plot_are_near ["self", "house", "other"] (sp_Plot_are_near A K) := ok_Plot_are_near T U
  have SC := sc_Plot_near_pairs
  refine ⟨fd, F.ok SC (fun vs H Q E h => len_Plot_near_pairs h) (fun cdv A0 outer s H vs Q E hr h => ⟨t_Plot_near_pairs A K, ?_, pure_Plot_near_pairs T vs H Q E h⟩), F.binds (fun _ _ _ _ _ _ us hl => match us, hl with | [_], _ => rfl)⟩
  exact pss_cons (ps_set (i := 1) SC.nd rfl (Or.inl rfl) (pe_methO0 (pv 0) T.Plot.cl T.Plot.m_houses (O_Plot_houses) (hr.mono (by decide))))
    (pss_cons (ps_set (i := 2) SC.nd rfl (Or.inl rfl) (pe_int))
    (pss_cons (ps_for PassesOwn.never rfl (pi_enum rfl T.g.b_enumerate (pa_cons (pv 1) (pa_nil))) (pg_tup rfl (pgs_cons (pg_name (i := 3) SC.nd rfl (Or.inl rfl)) (pgs_cons (pg_name (i := 4) SC.nd rfl (Or.inl rfl)) (pgs_nil)))) (pss_one (ps_for PassesOwn.never rfl (pi_list (pe_slice sl_list (pv 1) (po_some (pe_op op_add (pv 3) (pe_int))) (po_none))) (pg_name (i := 5) SC.nd rfl (Or.inl rfl)) (pss_one (ps_aug (i := 2) SC.nd rfl (Or.inl rfl) (pe_ifExp (pt_val (pe_methO (pv 0) T.Plot.cl T.Plot.m_are_near (O_Plot_are_near) (hr.mono (by decide)) (pa_cons (pv 4) (pa_cons (pv 5) (pa_nil))))) (pe_int) (pe_int)) ip_add)))))
    (pss_one (ps_ret (pv 2)))))
theorem sc_Plot_amounts : FnScope N_Plot_amounts ["self"] (defScope s_Plot_amounts) := ⟨rfl, rfl, rfl, by decide +kernel, rfl, by decide +kernel, by decide +kernel⟩
theorem ok_Plot_amounts (T : Txt K mg A) (U : Fns K A) : Ok P w K mg base 6 A.f_Plot_amounts ["self"] (sp_Plot_amounts A K) := by
  obtain ⟨fd, F⟩ := U.f_Plot_amounts
  have O_Plot_all_floors : Ok P w K mg base 2 A.f_Plot_all_floors ["self"] (sp_Plot_all_floors A K) := ok_Plot_all_floors T U
  have O_Plot_built : Ok P w K mg base 3 A.f_Plot_built ["self"] (sp_Plot_built A K) := ok_Plot_built T U
  have O_Plot_most_floors : Ok P w K mg base 5 A.f_Plot_most_floors ["self", "place"] (sp_Plot_most_floors A K) := ok_Plot_most_floors T U
  have O_Plot_is_near_street : Ok P w K mg base 3 A.f_Plot_is_near_street ["self", "place"] (sp_Plot_is_near_street A K) := ok_Plot_is_near_street T U
  have O_Plot_is_near_others : Ok P w K mg base 3 A.f_Plot_is_near_others ["self", "place"] (sp_Plot_is_near_others A K) := ok_Plot_is_near_others T U
  have O_Plot_wanted : Ok P w K mg base 3 A.f_Plot_wanted ["self"] (sp_Plot_wanted A K) := ok_Plot_wanted T U
  have O_Plot_near_pairs : Ok P w K mg base 5 A.f_Plot_near_pairs ["self"] (sp_Plot_near_pairs A K) := ok_Plot_near_pairs T U
  have SC := sc_Plot_amounts
  refine ⟨fd, F.ok SC (fun vs H Q E h => len_Plot_amounts h) (fun cdv A0 outer s H vs Q E hr h => ⟨t_Plot_amounts A K, ?_, pure_Plot_amounts T vs H Q E h⟩), F.binds (fun _ _ _ _ _ _ us hl => match us, hl with | [_], _ => rfl)⟩
  exact pss_cons (ps_set (i := 1) SC.nd rfl (Or.inl rfl) (pe_methO0 (pv 0) T.Plot.cl T.Plot.m_all_floors (O_Plot_all_floors) (hr.mono (by decide))))
    (pss_cons (ps_set (i := 2) SC.nd rfl (Or.inl rfl) (pe_methO0 (pv 0) T.Plot.cl T.Plot.m_built (O_Plot_built) (hr.mono (by decide))))
    (pss_cons (ps_setLc (i := 3) (own := [("place", 5)]) (g := gName 5) (tt := tTest (tOp rEq (tOp (rIxL K) (tFld K (tVar 0) "squares") (tVar 5)) (tC (.int 1)))) (te := tVar 5) rfl SC.nd rfl rfl (sw_true rfl rfl rfl (by decide +kernel)) (pi_list (pv 2)) (blkOk_by (own := [("place", 5)]) (N := N_Plot_amounts) (sc := defScope s_Plot_amounts) (by decide +kernel)) (fun _ _ _ _ _ => pg_name (i := 5) SC.nd rfl (Or.inl rfl)) (fun _ _ _ _ _ => pts_one (pt_cmpR op_eq (pe_ix ix_list (pe_fld (pv 0) rfl) (pv 5) (fun _ _ => rfl)) (pe_globI rfl T.g.c_OWN) (nomark _))) (fun _ _ _ _ _ => pv 5))
    (pss_cons (ps_set (i := 4) SC.nd rfl (Or.inl rfl) (pe_int))
    (pss_cons (ps_for PassesOwn.never rfl (pi_list (pv 3)) (pg_name (i := 5) SC.nd rfl (Or.inl rfl)) (pss_one (ps_aug (i := 4) SC.nd rfl (Or.inl rfl) (pe_callB (call_max2 rfl) rfl T.g.b_max boot_max (pa_cons (pe_int) (pa_cons (pe_op op_sub (pe_ix ix_list (pv 1) (pv 5) (fun _ _ => rfl)) (pe_methO (pv 0) T.Plot.cl T.Plot.m_most_floors (O_Plot_most_floors) (hr.mono (by decide)) (pa_cons (pv 5) (pa_nil)))) (pa_nil)))) ip_add)))
    (pss_cons (ps_set (i := 6) SC.nd rfl (Or.inl rfl) (pe_fld (pv 0) rfl))
    (pss_cons (ps_set (i := 7) SC.nd rfl (Or.inl rfl) (pe_callB (call_max2 rfl) rfl T.g.b_max boot_max (pa_cons (pe_int) (pa_cons (pe_op op_sub (pe_op op_sub (pe_fld (pv 0) rfl) (pe_callB call_len_seq rfl T.g.b_len boot_len (pa_cons (pv 2) (pa_nil)))) (pe_fld (pv 0) rfl)) (pa_nil)))))
    (pss_one (ps_ret (pe_lst (pa_cons (pe_op op_sub (pe_callB call_len_seq rfl T.g.b_len boot_len (pa_cons (pv 2) (pa_nil))) (pe_callB call_len_seq rfl T.g.b_len boot_len (pa_cons (pv 3) (pa_nil)))) (pa_cons (pe_callB call_len_seq rfl T.g.b_len boot_len (pa_cons (pe_lc (own := [("place", 5)]) (g := gName 5) (tt := tB (tMeth A.c_Plot "is_near_street" (sp_Plot_is_near_street A K) [] E0 (tVar 0) (tCons (tVar 5) (tNil)))) (te := tVar 5) rfl SC.nd (pi_list (pv 3)) (blkOk_by (own := [("place", 5)]) (N := N_Plot_amounts) (sc := defScope s_Plot_amounts) (by decide +kernel)) (fun _ _ _ _ _ => pg_name (i := 5) SC.nd rfl (Or.inl rfl)) (fun _ _ _ _ _ => pts_one (pt_val (pe_methO (pv 0) T.Plot.cl T.Plot.m_is_near_street (O_Plot_is_near_street) (hr.mono (by decide)) (pa_cons (pv 5) (pa_nil))))) (fun _ _ _ _ _ => pv 5)) (pa_nil))) (pa_cons (pe_callB call_len_seq rfl T.g.b_len boot_len (pa_cons (pe_lc (own := [("place", 5)]) (g := gName 5) (tt := tB (tMeth A.c_Plot "is_near_others" (sp_Plot_is_near_others A K) [] E0 (tVar 0) (tCons (tVar 5) (tNil)))) (te := tVar 5) rfl SC.nd (pi_list (pv 3)) (blkOk_by (own := [("place", 5)]) (N := N_Plot_amounts) (sc := defScope s_Plot_amounts) (by decide +kernel)) (fun _ _ _ _ _ => pg_name (i := 5) SC.nd rfl (Or.inl rfl)) (fun _ _ _ _ _ => pts_one (pt_val (pe_methO (pv 0) T.Plot.cl T.Plot.m_is_near_others (O_Plot_is_near_others) (hr.mono (by decide)) (pa_cons (pv 5) (pa_nil))))) (fun _ _ _ _ _ => pv 5)) (pa_nil))) (pa_cons (pv 4) (pa_cons (pe_op op_sub (pe_callB call_len_seq rfl T.g.b_len boot_len (pa_cons (pv 2) (pa_nil))) (pe_op op_fdiv (pe_op op_mul (pe_fld (pv 6) rfl) (pe_fld (pv 0) rfl)) (pe_int))) (pa_cons (pe_op op_sub (pe_callB (cr_sum rfl) rfl T.g.b_sum boot_sum (pa_cons (pv 1) (pa_nil))) (pe_op op_fdiv (pe_op op_mul (pe_fld (pv 6) rfl) (pe_fld (pv 0) rfl)) (pe_int))) (pa_cons (pe_op op_sub (pe_op op_fdiv (pe_op op_add (pe_op op_mul (pe_fld (pv 6) rfl) (pe_fld (pv 0) rfl)) (pe_int)) (pe_int)) (pv 7)) (pa_cons (pe_op op_sub (pe_methO0 (pv 0) T.Plot.cl T.Plot.m_wanted (O_Plot_wanted) (hr.mono (by decide))) (pe_fld (pv 0) rfl)) (pa_cons (pe_methO0 (pv 0) T.Plot.cl T.Plot.m_near_pairs (O_Plot_near_pairs) (hr.mono (by decide))) (pa_nil)))))))))))))))))))
theorem sc_Plot_broken : FnScope N_Plot_broken ["self"] (defScope s_Plot_broken) := ⟨rfl, rfl, rfl, by decide +kernel, rfl, by decide +kernel, by decide +kernel⟩
theorem ok_Plot_broken (T : Txt K mg A) (U : Fns K A) : Ok P w K mg base 7 A.f_Plot_broken ["self"] (sp_Plot_broken A K) := by
  obtain ⟨fd, F⟩ := U.f_Plot_broken
  have O_Plot_amounts : Ok P w K mg base 6 A.f_Plot_amounts ["self"] (sp_Plot_amounts A K) := ok_Plot_amounts T U
  have SC := sc_Plot_broken
  refine ⟨fd, F.ok SC (fun vs H Q E h => len_Plot_broken h) (fun cdv A0 outer s H vs Q E hr h => ⟨t_Plot_broken A K, ?_, pure_Plot_broken T vs H Q E h⟩), F.binds (fun _ _ _ _ _ _ us hl => match us, hl with | [_], _ => rfl)⟩
  exact pss_one (ps_ret (pe_lc (own := [("place", 1), ("amount", 2)]) (g := gTup K 2 (gCons (gName 1) (gCons (gName 2) (gNil)))) (tt := tTest (tOp rGtI (tVar 2) (tC (.int 0)))) (te := tTup (tCons (tOp rAddI (tVar 1) (tC (.int 1))) (tCons (tVar 2) (tNil)))) rfl SC.nd (pi_enum rfl T.g.b_enumerate (pa_cons (pe_methO0 (pv 0) T.Plot.cl T.Plot.m_amounts (O_Plot_amounts) (hr.mono (by decide))) (pa_nil))) (blkOk_by (own := [("place", 1), ("amount", 2)]) (N := N_Plot_broken) (sc := defScope s_Plot_broken) (by decide +kernel)) (fun _ _ _ _ _ => pg_tup rfl (pgs_cons (pg_name (i := 1) SC.nd rfl (Or.inl rfl)) (pgs_cons (pg_name (i := 2) SC.nd rfl (Or.inl rfl)) (pgs_nil)))) (fun _ _ _ _ _ => pts_one (pt_cmpR op_gt (pv 2) (pe_int) (nomark _))) (fun _ _ _ _ _ => pe_tup (pa_cons (pe_op op_add (pv 1) (pe_int)) (pa_cons (pv 2) (pa_nil))))))
theorem sc_Plot_most_of : FnScope N_Plot_most_of ["self", "places"] (defScope s_Plot_most_of) := ⟨rfl, rfl, rfl, by decide +kernel, rfl, by decide +kernel, by decide +kernel⟩
theorem ok_Plot_most_of (T : Txt K mg A) (U : Fns K A) : Ok P w K mg base 6 A.f_Plot_most_of ["self", "places"] (sp_Plot_most_of A K) := by
  obtain ⟨fd, F⟩ := U.f_Plot_most_of
  have O_Plot_most_floors : Ok P w K mg base 5 A.f_Plot_most_floors ["self", "place"] (sp_Plot_most_floors A K) := ok_Plot_most_floors T U
  have O_Plot_is_open : Ok P w K mg base 4 A.f_Plot_is_open ["self", "place"] (sp_Plot_is_open A K) := ok_Plot_is_open T U
  have SC := sc_Plot_most_of
  refine ⟨fd, F.ok SC (fun vs H Q E h => len_Plot_most_of h) (fun cdv A0 outer s H vs Q E hr h => ⟨t_Plot_most_of A K, ?_, pure_Plot_most_of T vs H Q E h⟩), F.binds (fun _ _ _ _ _ _ us hl => match us, hl with | [_, _], _ => rfl)⟩
  exact pss_cons (ps_set (i := 2) SC.nd rfl (Or.inl rfl) (pe_callBK cr_sortedRev rfl T.g.b_sorted boot_sorted (pa_cons (pe_lc (own := [("place", 4)]) (g := gName 4) (tt := tB (tMeth A.c_Plot "is_open" (sp_Plot_is_open A K) [] E0 (tVar 0) (tCons (tVar 4) (tNil)))) (te := tMeth A.c_Plot "most_floors" (sp_Plot_most_floors A K) [] E0 (tVar 0) (tCons (tVar 4) (tNil))) rfl SC.nd (pi_list (pv 1)) (blkOk_by (own := [("place", 4)]) (N := N_Plot_most_of) (sc := defScope s_Plot_most_of) (by decide +kernel)) (fun _ _ _ _ _ => pg_name (i := 4) SC.nd rfl (Or.inl rfl)) (fun _ _ _ _ _ => pts_one (pt_val (pe_methO (pv 0) T.Plot.cl T.Plot.m_is_open (O_Plot_is_open) (hr.mono (by decide)) (pa_cons (pv 4) (pa_nil))))) (fun _ _ _ _ _ => pe_methO (pv 0) T.Plot.cl T.Plot.m_most_floors (O_Plot_most_floors) (hr.mono (by decide)) (pa_cons (pv 4) (pa_nil)))) (pa_nil)) (pk_cons pe_bl pk_nil)))
    (pss_cons (ps_set (i := 3) SC.nd rfl (Or.inl rfl) (pe_callB (cr_sum rfl) rfl T.g.b_sum boot_sum (pa_cons (pe_slice sl_list (pv 2) (po_none) (po_some (pe_op op_fdiv (pe_op op_mul (pe_fld (pe_fld (pv 0) rfl) rfl) (pe_fld (pv 0) rfl)) (pe_int)))) (pa_nil))))
    (pss_one (ps_ret (pe_callB (call_min2 rfl) rfl T.g.b_min boot_min (pa_cons (pv 3) (pa_cons (pe_op op_fdiv (pe_op op_mul (pe_fld (pe_fld (pv 0) rfl) rfl) (pe_fld (pv 0) rfl)) (pe_int)) (pa_nil)))))))
theorem sc_Plot_best : FnScope N_Plot_best ["self"] (defScope s_Plot_best) := ⟨rfl, rfl, rfl, by decide +kernel, rfl, by decide +kernel, by decide +kernel⟩
theorem ok_Plot_best (T : Txt K mg A) (U : Fns K A) : Ok P w K mg base 7 A.f_Plot_best ["self"] (sp_Plot_best A K) := by
  obtain ⟨fd, F⟩ := U.f_Plot_best
  have O_Plot_most_of : Ok P w K mg base 6 A.f_Plot_most_of ["self", "places"] (sp_Plot_most_of A K) := ok_Plot_most_of T U
  have SC := sc_Plot_best
  refine ⟨fd, F.ok SC (fun vs H Q E h => len_Plot_best h) (fun cdv A0 outer s H vs Q E hr h => ⟨t_Plot_best A K, ?_, pure_Plot_best T vs H Q E h⟩), F.binds (fun _ _ _ _ _ _ us hl => match us, hl with | [_], _ => rfl)⟩
  exact pss_one (ps_ret (pe_methO (pv 0) T.Plot.cl T.Plot.m_most_of (O_Plot_most_of) (hr.mono (by decide)) (pa_cons (pe_listRg rfl rfl T.g.b_list (prg_1 rfl T.g.b_range (pe_callB call_len_seq rfl T.g.b_len boot_len (pa_cons (pe_fld (pv 0) rfl) (pa_nil))))) (pa_nil))))
theorem sc_are_rules : FnScope N_are_rules ["numbers"] (defScope s_are_rules) := ⟨rfl, rfl, rfl, by decide +kernel, rfl, by decide +kernel, by decide +kernel⟩
theorem ok_are_rules (T : Txt K mg A) (U : Fns K A) : Ok P w K mg base 1 A.f_are_rules ["numbers"] (sp_are_rules A K) := by
  obtain ⟨fd, F⟩ := U.f_are_rules
  have SC := sc_are_rules
  refine ⟨fd, F.ok SC (fun vs H Q E h => len_are_rules h) (fun cdv A0 outer s H vs Q E hr h => ⟨t_are_rules A K, ?_, pure_are_rules T vs H Q E h⟩), F.binds (fun _ _ _ _ _ _ us hl => match us, hl with | [_], _ => rfl)⟩
  exact pss_cons (ps_if (pt_cmpR op_ne (pe_callB call_len_seq rfl T.g.b_len boot_len (pa_cons (pv 0) (pa_nil))) (pe_int) (nomark _)) (pss_one (ps_ret (pe_bl))) (pss_nil))
    (pss_cons (ps_set (i := 1) SC.nd rfl (Or.inl rfl) (pe_tup (pa_cons (pe_int) (pa_cons (pe_int) (pa_cons (pe_int) (pa_cons (pe_int) (pa_cons (pe_int) (pa_cons (pe_int) (pa_cons (pe_int) (pa_cons (pe_int) (pa_cons (pe_int) (pa_cons (pe_int) (pa_cons (pe_int) (pa_nil))))))))))))))
    (pss_cons (ps_for PassesOwn.never rfl (pi_enum rfl T.g.b_enumerate (pa_cons (pv 0) (pa_nil))) (pg_tup rfl (pgs_cons (pg_name (i := 2) SC.nd rfl (Or.inl rfl)) (pgs_cons (pg_name (i := 3) SC.nd rfl (Or.inl rfl)) (pgs_nil)))) (pss_one (ps_if (PW.pt (pw_or (pt_cmpR op_lt (pv 3) (pe_ifExp (pt_cmpR op_eq (pv 2) (pe_int) (nomark _)) (pe_int) (pe_int)) (nomark _)) (pw_or1 (pt_cmpR op_gt (pv 3) (pe_ix ix_tup (pv 1) (pv 2) (fun _ _ => rfl)) (nomark _))))) (pss_one (ps_ret (pe_bl))) (pss_nil))))
    (pss_one (ps_ret (pe_bl)))))
theorem sc_Plot_set_rules : FnScope N_Plot_set_rules ["self", "numbers"] (defScope s_Plot_set_rules) := ⟨rfl, rfl, rfl, by decide +kernel, rfl, by decide +kernel, by decide +kernel⟩
theorem ok_Plot_set_rules (T : Txt K mg A) (U : Fns K A) : Ok P w K mg base 3 A.f_Plot_set_rules ["self", "numbers"] (sp_Plot_set_rules A K) := by
  obtain ⟨fd, F⟩ := U.f_Plot_set_rules
  have O_are_rules : Ok P w K mg base 1 A.f_are_rules ["numbers"] (sp_are_rules A K) := ok_are_rules T U
  have O_Plot_has_ground : Ok P w K mg base 1 A.f_Plot_has_ground ["self"] (sp_Plot_has_ground A K) := ok_Plot_has_ground T U
  have O_Rules___init__ : Ok P w K mg base 1 A.f_Rules___init__ ["self", "numbers"] (sp_Rules___init__ A K) := ok_Rules___init__ T U
  have SC := sc_Plot_set_rules
  refine ⟨fd, F.ok SC (fun vs H Q E h => len_Plot_set_rules h) (fun cdv A0 outer s H vs Q E hr h => ⟨t_Plot_set_rules A K, ?_, pure_Plot_set_rules T vs H Q E h⟩), F.binds (fun _ _ _ _ _ _ us hl => match us, hl with | [_, _], _ => rfl)⟩
  exact pss_cons (ps_if (pt_not (pt_val (pe_callO (O_are_rules) (hr.mono (by decide)) rfl T.g.m_are_rules T.g.k_are_rules (pa_cons (pv 1) (pa_nil))))) (pss_one (ps_ret (pe_lst (pa_cons (pe_un un_neg (pe_int)) (pa_nil))))) (pss_nil))
    (pss_cons (ps_if (pt_not (pt_val (pe_methO0 (pv 0) T.Plot.cl T.Plot.m_has_ground (O_Plot_has_ground) (hr.mono (by decide))))) (pss_one (ps_ret (pe_lst (pa_cons (pe_un un_neg (pe_int)) (pa_nil))))) (pss_nil))
    (pss_cons (ps_fld (pv 0) (pe_makeO T.Rules.made (O_Rules___init__) (hr.mono (by decide)) rfl T.Rules.mg (pa_cons (pv 1) (pa_nil))) rfl)
    (pss_one (ps_ret (pe_lst (pa_cons (pe_int) (pa_nil)))))))
theorem sc_Plot_add_block : FnScope N_Plot_add_block ["self", "x", "y", "x2", "y2", "floors"] (defScope s_Plot_add_block) := ⟨rfl, rfl, rfl, by decide +kernel, rfl, by decide +kernel, by decide +kernel⟩
theorem ok_Plot_add_block (T : Txt K mg A) (U : Fns K A) : Ok P w K mg base 3 A.f_Plot_add_block ["self", "x", "y", "x2", "y2", "floors"] (sp_Plot_add_block A K) := by
  obtain ⟨fd, F⟩ := U.f_Plot_add_block
  have O_Plot_has_ground : Ok P w K mg base 1 A.f_Plot_has_ground ["self"] (sp_Plot_has_ground A K) := ok_Plot_has_ground T U
  have O_Plot_is_there : Ok P w K mg base 1 A.f_Plot_is_there ["self", "x", "y"] (sp_Plot_is_there A K) := ok_Plot_is_there T U
  have O_Block___init__ : Ok P w K mg base 1 A.f_Block___init__ ["self", "x", "y", "x2", "y2", "floors"] (sp_Block___init__ A K) := ok_Block___init__ T U
  have SC := sc_Plot_add_block
  refine ⟨fd, F.ok SC (fun vs H Q E h => len_Plot_add_block h) (fun cdv A0 outer s H vs Q E hr h => ⟨t_Plot_add_block A K, ?_, pure_Plot_add_block T vs H Q E h⟩), F.binds (fun _ _ _ _ _ _ us hl => match us, hl with | [_, _, _, _, _, _], _ => rfl)⟩
  exact pss_cons (ps_if (pt_not (pt_val (pe_methO0 (pv 0) T.Plot.cl T.Plot.m_has_ground (O_Plot_has_ground) (hr.mono (by decide))))) (pss_one (ps_ret (pe_lst (pa_cons (pe_un un_neg (pe_int)) (pa_nil))))) (pss_nil))
    (pss_cons (ps_if (PW.pt (pw_or (pt_not (pt_val (pe_methO (pv 0) T.Plot.cl T.Plot.m_is_there (O_Plot_is_there) (hr.mono (by decide)) (pa_cons (pv 1) (pa_cons (pv 2) (pa_nil)))))) (pw_or (pt_not (pt_val (pe_methO (pv 0) T.Plot.cl T.Plot.m_is_there (O_Plot_is_there) (hr.mono (by decide)) (pa_cons (pv 3) (pa_cons (pv 4) (pa_nil)))))) (pw_or (pt_cmpR op_lt (pv 3) (pv 1) (nomark _)) (pw_or1 (pt_cmpR op_lt (pv 4) (pv 2) (nomark _))))))) (pss_one (ps_ret (pe_lst (pa_cons (pe_un un_neg (pe_int)) (pa_nil))))) (pss_nil))
    (pss_cons (ps_if (PW.pt (pw_or (pt_cmpR op_lt (pv 5) (pe_int) (nomark _)) (pw_or1 (pt_cmpR op_gt (pv 5) (pe_globI rfl T.g.c_MOST_FLOORS) (nomark _))))) (pss_one (ps_ret (pe_lst (pa_cons (pe_un un_neg (pe_int)) (pa_nil))))) (pss_nil))
    (pss_cons (ps_if (pt_cmpR op_ge (pe_callB call_len_seq rfl T.g.b_len boot_len (pa_cons (pe_fld (pv 0) rfl) (pa_nil))) (pe_globI rfl T.g.c_MOST_BOXES) (nomark _)) (pss_one (ps_ret (pe_lst (pa_cons (pe_un un_neg (pe_int)) (pa_nil))))) (pss_nil))
    (pss_cons (ps_expr (pe_bm PySem.F.plainAttrs_list PySem.F.slot_list_append PySem.F.type_list_append mt_append (pe_fld (pv 0) rfl) (pa_cons (pe_makeO T.Block.made (O_Block___init__) (hr.mono (by decide)) rfl T.Block.mg (pa_cons (pv 1) (pa_cons (pv 2) (pa_cons (pv 3) (pa_cons (pv 4) (pa_cons (pv 5) (pa_nil))))))) (pa_nil))))
    (pss_one (ps_ret (pe_lst (pa_cons (pe_callB call_len_seq rfl T.g.b_len boot_len (pa_cons (pe_fld (pv 0) rfl) (pa_nil))) (pa_nil)))))))))
theorem sc_Plot_drop : FnScope N_Plot_drop ["self"] (defScope s_Plot_drop) := ⟨rfl, rfl, rfl, by decide +kernel, rfl, by decide +kernel, by decide +kernel⟩
theorem ok_Plot_drop (T : Txt K mg A) (U : Fns K A) : Ok P w K mg base 1 A.f_Plot_drop ["self"] (sp_Plot_drop A K) := by
  obtain ⟨fd, F⟩ := U.f_Plot_drop
  have SC := sc_Plot_drop
  refine ⟨fd, F.ok SC (fun vs H Q E h => len_Plot_drop h) (fun cdv A0 outer s H vs Q E hr h => ⟨t_Plot_drop A K, ?_, pure_Plot_drop T vs H Q E h⟩), F.binds (fun _ _ _ _ _ _ us hl => match us, hl with | [_], _ => rfl)⟩
  exact pss_cons (ps_if (pt_cmpR op_eq (pe_callB call_len_seq rfl T.g.b_len boot_len (pa_cons (pe_fld (pv 0) rfl) (pa_nil))) (pe_int) (nomark _)) (pss_one (ps_ret (pe_lst (pa_cons (pe_un un_neg (pe_int)) (pa_nil))))) (pss_nil))
    (pss_cons (ps_expr (pe_bm0 PySem.F.plainAttrs_list PySem.F.slot_list_pop PySem.F.type_list_pop mt_pop (pe_fld (pv 0) rfl)))
    (pss_one (ps_ret (pe_lst (pa_cons (pe_callB call_len_seq rfl T.g.b_len boot_len (pa_cons (pe_fld (pv 0) rfl) (pa_nil))) (pa_nil))))))
theorem sc_Plot_pave : FnScope N_Plot_pave ["self", "squares", "spaces"] (defScope s_Plot_pave) := ⟨rfl, rfl, rfl, by decide +kernel, rfl, by decide +kernel, by decide +kernel⟩
theorem ok_Plot_pave (T : Txt K mg A) (U : Fns K A) : Ok P w K mg base 2 A.f_Plot_pave ["self", "squares", "spaces"] (sp_Plot_pave A K) := by
  obtain ⟨fd, F⟩ := U.f_Plot_pave
  have O_Plot_has_ground : Ok P w K mg base 1 A.f_Plot_has_ground ["self"] (sp_Plot_has_ground A K) := ok_Plot_has_ground T U
  have SC := sc_Plot_pave
  refine ⟨fd, F.ok SC (fun vs H Q E h => len_Plot_pave h) (fun cdv A0 outer s H vs Q E hr h => ⟨t_Plot_pave A K, ?_, pure_Plot_pave T vs H Q E h⟩), F.binds (fun _ _ _ _ _ _ us hl => match us, hl with | [_, _, _], _ => rfl)⟩
  exact pss_cons (ps_if (PW.pt (pw_or (pt_cmpR op_lt (pv 1) (pe_int) (nomark _)) (pw_or (pt_cmpR op_gt (pv 1) (pe_globI rfl T.g.c_MOST_PAVED) (nomark _)) (pw_or (pt_cmpR op_lt (pv 2) (pe_int) (nomark _)) (pw_or1 (pt_cmpR op_gt (pv 2) (pe_globI rfl T.g.c_MOST_PAVED) (nomark _))))))) (pss_one (ps_ret (pe_lst (pa_cons (pe_un un_neg (pe_int)) (pa_nil))))) (pss_nil))
    (pss_cons (ps_if (pt_not (pt_val (pe_methO0 (pv 0) T.Plot.cl T.Plot.m_has_ground (O_Plot_has_ground) (hr.mono (by decide))))) (pss_one (ps_ret (pe_lst (pa_cons (pe_un un_neg (pe_int)) (pa_nil))))) (pss_nil))
    (pss_cons (ps_fld (pv 0) (pv 1) rfl)
    (pss_cons (ps_fld (pv 0) (pv 2) rfl)
    (pss_one (ps_ret (pe_lst (pa_cons (pe_int) (pa_nil))))))))
theorem sc_Plot_tell_check : FnScope N_Plot_tell_check ["self"] (defScope s_Plot_tell_check) := ⟨rfl, rfl, rfl, by decide +kernel, rfl, by decide +kernel, by decide +kernel⟩
theorem ok_Plot_tell_check (T : Txt K mg A) (U : Fns K A) : Ok P w K mg base 8 A.f_Plot_tell_check ["self"] (sp_Plot_tell_check A K) := by
  obtain ⟨fd, F⟩ := U.f_Plot_tell_check
  have O_Plot_broken : Ok P w K mg base 7 A.f_Plot_broken ["self"] (sp_Plot_broken A K) := ok_Plot_broken T U
  have SC := sc_Plot_tell_check
  refine ⟨fd, F.ok SC (fun vs H Q E h => len_Plot_tell_check h) (fun cdv A0 outer s H vs Q E hr h => ⟨t_Plot_tell_check A K, ?_, pure_Plot_tell_check T vs H Q E h⟩), F.binds (fun _ _ _ _ _ _ us hl => match us, hl with | [_], _ => rfl)⟩
  exact pss_cons (ps_set (i := 1) SC.nd rfl (Or.inl rfl) (pe_methO0 (pv 0) T.Plot.cl T.Plot.m_broken (O_Plot_broken) (hr.mono (by decide))))
    (pss_cons (ps_set (i := 2) SC.nd rfl (Or.inl rfl) (pe_lst (pa_cons (pe_callB call_len_seq rfl T.g.b_len boot_len (pa_cons (pv 1) (pa_nil))) (pa_nil))))
    (pss_cons (ps_for PassesOwn.never rfl (pi_list (pv 1)) (pg_tup rfl (pgs_cons (pg_name (i := 3) SC.nd rfl (Or.inl rfl)) (pgs_cons (pg_name (i := 4) SC.nd rfl (Or.inl rfl)) (pgs_nil)))) (pss_one (ps_expr (pe_bm PySem.F.plainAttrs_list PySem.F.slot_list_extend PySem.F.type_list_extend mt_extend (pv 2) (pa_cons (pe_lst (pa_cons (pv 3) (pa_cons (pv 4) (pa_nil)))) (pa_nil))))))
    (pss_one (ps_ret (pv 2)))))
theorem sc_Plot_tell_square : FnScope N_Plot_tell_square ["self", "x", "y"] (defScope s_Plot_tell_square) := ⟨rfl, rfl, rfl, by decide +kernel, rfl, by decide +kernel, by decide +kernel⟩
theorem ok_Plot_tell_square (T : Txt K mg A) (U : Fns K A) : Ok P w K mg base 6 A.f_Plot_tell_square ["self", "x", "y"] (sp_Plot_tell_square A K) := by
  obtain ⟨fd, F⟩ := U.f_Plot_tell_square
  have O_Plot_is_there : Ok P w K mg base 1 A.f_Plot_is_there ["self", "x", "y"] (sp_Plot_is_there A K) := ok_Plot_is_there T U
  have O_Plot_place_of : Ok P w K mg base 1 A.f_Plot_place_of ["self", "x", "y"] (sp_Plot_place_of A K) := ok_Plot_place_of T U
  have O_Plot_is_open : Ok P w K mg base 4 A.f_Plot_is_open ["self", "place"] (sp_Plot_is_open A K) := ok_Plot_is_open T U
  have O_Plot_inward : Ok P w K mg base 3 A.f_Plot_inward ["self", "place"] (sp_Plot_inward A K) := ok_Plot_inward T U
  have O_Plot_height_of : Ok P w K mg base 4 A.f_Plot_height_of ["self", "place"] (sp_Plot_height_of A K) := ok_Plot_height_of T U
  have O_Plot_most_floors : Ok P w K mg base 5 A.f_Plot_most_floors ["self", "place"] (sp_Plot_most_floors A K) := ok_Plot_most_floors T U
  have O_Plot_floors_on : Ok P w K mg base 1 A.f_Plot_floors_on ["self", "place"] (sp_Plot_floors_on A K) := ok_Plot_floors_on T U
  have SC := sc_Plot_tell_square
  refine ⟨fd, F.ok SC (fun vs H Q E h => len_Plot_tell_square h) (fun cdv A0 outer s H vs Q E hr h => ⟨t_Plot_tell_square A K, ?_, pure_Plot_tell_square T vs H Q E h⟩), F.binds (fun _ _ _ _ _ _ us hl => match us, hl with | [_, _, _], _ => rfl)⟩
  exact pss_cons (ps_if (pt_not (pt_val (pe_methO (pv 0) T.Plot.cl T.Plot.m_is_there (O_Plot_is_there) (hr.mono (by decide)) (pa_cons (pv 1) (pa_cons (pv 2) (pa_nil)))))) (pss_one (ps_ret (pe_lst (pa_cons (pe_un un_neg (pe_int)) (pa_nil))))) (pss_nil))
    (pss_cons (ps_set (i := 3) SC.nd rfl (Or.inl rfl) (pe_methO (pv 0) T.Plot.cl T.Plot.m_place_of (O_Plot_place_of) (hr.mono (by decide)) (pa_cons (pv 1) (pa_cons (pv 2) (pa_nil)))))
    (pss_cons (ps_set (i := 4) SC.nd rfl (Or.inl rfl) (pe_ifExp (pt_val (pe_methO (pv 0) T.Plot.cl T.Plot.m_is_open (O_Plot_is_open) (hr.mono (by decide)) (pa_cons (pv 3) (pa_nil)))) (pe_int) (pe_int)))
    (pss_cons (ps_set (i := 5) SC.nd rfl (Or.inl rfl) (pe_lst (pa_cons (pe_ix ix_list (pe_fld (pv 0) rfl) (pv 3) (fun _ _ => rfl)) (pa_cons (pe_methO (pv 0) T.Plot.cl T.Plot.m_inward (O_Plot_inward) (hr.mono (by decide)) (pa_cons (pv 3) (pa_nil))) (pa_cons (pv 4) (pa_cons (pe_methO (pv 0) T.Plot.cl T.Plot.m_height_of (O_Plot_height_of) (hr.mono (by decide)) (pa_cons (pv 3) (pa_nil))) (pa_cons (pe_methO (pv 0) T.Plot.cl T.Plot.m_most_floors (O_Plot_most_floors) (hr.mono (by decide)) (pa_cons (pv 3) (pa_nil))) (pa_nil))))))))
    (pss_one (ps_ret (pe_op op_cat (pv 5) (pe_lst (pa_cons (pe_methO (pv 0) T.Plot.cl T.Plot.m_floors_on (O_Plot_floors_on) (hr.mono (by decide)) (pa_cons (pv 3) (pa_nil))) (pa_nil)))))))))
theorem sc_Plot_tell_houses : FnScope N_Plot_tell_houses ["self"] (defScope s_Plot_tell_houses) := ⟨rfl, rfl, rfl, by decide +kernel, rfl, by decide +kernel, by decide +kernel⟩
theorem ok_Plot_tell_houses (T : Txt K mg A) (U : Fns K A) : Ok P w K mg base 5 A.f_Plot_tell_houses ["self"] (sp_Plot_tell_houses A K) := by
  obtain ⟨fd, F⟩ := U.f_Plot_tell_houses
  have O_Plot_houses : Ok P w K mg base 4 A.f_Plot_houses ["self"] (sp_Plot_houses A K) := ok_Plot_houses T U
  have SC := sc_Plot_tell_houses
  refine ⟨fd, F.ok SC (fun vs H Q E h => len_Plot_tell_houses h) (fun cdv A0 outer s H vs Q E hr h => ⟨t_Plot_tell_houses A K, ?_, pure_Plot_tell_houses T vs H Q E h⟩), F.binds (fun _ _ _ _ _ _ us hl => match us, hl with | [_], _ => rfl)⟩
  exact pss_cons (ps_set (i := 1) SC.nd rfl (Or.inl rfl) (pe_methO0 (pv 0) T.Plot.cl T.Plot.m_houses (O_Plot_houses) (hr.mono (by decide))))
    (pss_one (ps_ret (pe_op op_cat (pe_lst (pa_cons (pe_callB call_len_seq rfl T.g.b_len boot_len (pa_cons (pv 1) (pa_nil))) (pa_nil))) (pe_lc (own := [("house", 2)]) (g := gName 2) (tt := tYes) (te := tCB (rLenS K) (tCons (tVar 2) (tNil))) rfl SC.nd (pi_list (pv 1)) (blkOk_by (own := [("house", 2)]) (N := N_Plot_tell_houses) (sc := defScope s_Plot_tell_houses) (by decide +kernel)) (fun _ _ _ _ _ => pg_name (i := 2) SC.nd rfl (Or.inl rfl)) (fun _ _ _ _ _ => pts_nil) (fun _ _ _ _ _ => pe_callB call_len_seq rfl T.g.b_len boot_len (pa_cons (pv 2) (pa_nil)))))))
theorem sc_Plot_tell_sums : FnScope N_Plot_tell_sums ["self"] (defScope s_Plot_tell_sums) := ⟨rfl, rfl, rfl, by decide +kernel, rfl, by decide +kernel, by decide +kernel⟩
theorem ok_Plot_tell_sums (T : Txt K mg A) (U : Fns K A) : Ok P w K mg base 4 A.f_Plot_tell_sums ["self"] (sp_Plot_tell_sums A K) := by
  obtain ⟨fd, F⟩ := U.f_Plot_tell_sums
  have O_Plot_built : Ok P w K mg base 3 A.f_Plot_built ["self"] (sp_Plot_built A K) := ok_Plot_built T U
  have O_Plot_all_floors : Ok P w K mg base 2 A.f_Plot_all_floors ["self"] (sp_Plot_all_floors A K) := ok_Plot_all_floors T U
  have O_Plot_wanted : Ok P w K mg base 3 A.f_Plot_wanted ["self"] (sp_Plot_wanted A K) := ok_Plot_wanted T U
  have SC := sc_Plot_tell_sums
  refine ⟨fd, F.ok SC (fun vs H Q E h => len_Plot_tell_sums h) (fun cdv A0 outer s H vs Q E hr h => ⟨t_Plot_tell_sums A K, ?_, pure_Plot_tell_sums T vs H Q E h⟩), F.binds (fun _ _ _ _ _ _ us hl => match us, hl with | [_], _ => rfl)⟩
  exact pss_one (ps_ret (pe_lst (pa_cons (pe_fld (pv 0) rfl) (pa_cons (pe_callB call_len_seq rfl T.g.b_len boot_len (pa_cons (pe_methO0 (pv 0) T.Plot.cl T.Plot.m_built (O_Plot_built) (hr.mono (by decide))) (pa_nil))) (pa_cons (pe_callB (cr_sum rfl) rfl T.g.b_sum boot_sum (pa_cons (pe_methO0 (pv 0) T.Plot.cl T.Plot.m_all_floors (O_Plot_all_floors) (hr.mono (by decide))) (pa_nil))) (pa_cons (pe_methO0 (pv 0) T.Plot.cl T.Plot.m_wanted (O_Plot_wanted) (hr.mono (by decide))) (pa_nil)))))))
theorem sc_Plot_answer : FnScope N_Plot_answer ["self", "number", "numbers", "squares"] (defScope s_Plot_answer) := ⟨rfl, rfl, rfl, by decide +kernel, rfl, by decide +kernel, by decide +kernel⟩
theorem ok_Plot_answer (T : Txt K mg A) (U : Fns K A) : Ok P w K mg base 9 A.f_Plot_answer ["self", "number", "numbers", "squares"] (sp_Plot_answer A K) := by
  obtain ⟨fd, F⟩ := U.f_Plot_answer
  have O_Plot_set_rules : Ok P w K mg base 3 A.f_Plot_set_rules ["self", "numbers"] (sp_Plot_set_rules A K) := ok_Plot_set_rules T U
  have O_Plot_add_block : Ok P w K mg base 3 A.f_Plot_add_block ["self", "x", "y", "x2", "y2", "floors"] (sp_Plot_add_block A K) := ok_Plot_add_block T U
  have O_Plot_drop : Ok P w K mg base 1 A.f_Plot_drop ["self"] (sp_Plot_drop A K) := ok_Plot_drop T U
  have O_Plot_pave : Ok P w K mg base 2 A.f_Plot_pave ["self", "squares", "spaces"] (sp_Plot_pave A K) := ok_Plot_pave T U
  have O_Plot_has_ground : Ok P w K mg base 1 A.f_Plot_has_ground ["self"] (sp_Plot_has_ground A K) := ok_Plot_has_ground T U
  have O_Plot_tell_check : Ok P w K mg base 8 A.f_Plot_tell_check ["self"] (sp_Plot_tell_check A K) := ok_Plot_tell_check T U
  have O_Plot_tell_square : Ok P w K mg base 6 A.f_Plot_tell_square ["self", "x", "y"] (sp_Plot_tell_square A K) := ok_Plot_tell_square T U
  have O_Plot_best : Ok P w K mg base 7 A.f_Plot_best ["self"] (sp_Plot_best A K) := ok_Plot_best T U
  have O_Plot_tell_houses : Ok P w K mg base 5 A.f_Plot_tell_houses ["self"] (sp_Plot_tell_houses A K) := ok_Plot_tell_houses T U
  have O_Plot_tell_sums : Ok P w K mg base 4 A.f_Plot_tell_sums ["self"] (sp_Plot_tell_sums A K) := ok_Plot_tell_sums T U
  have SC := sc_Plot_answer
  refine ⟨fd, F.ok SC (fun vs H Q E h => len_Plot_answer h) (fun cdv A0 outer s H vs Q E hr h => ⟨t_Plot_answer A K, ?_, pure_Plot_answer T vs H Q E h⟩), F.binds (fun _ _ _ _ _ _ us hl => match us, hl with | [_, _, _, _], _ => rfl)⟩
  exact pss_cons (ps_if (pt_cmpR op_eq (pv 1) (pe_int) (nomark _)) (pss_one (ps_ret (pe_methO (pv 0) T.Plot.cl T.Plot.m_set_rules (O_Plot_set_rules) (hr.mono (by decide)) (pa_cons (pv 3) (pa_nil))))) (pss_nil))
    (pss_cons (ps_if (pt_cmpR op_eq (pv 1) (pe_int) (nomark _)) (pss_one (ps_ret (pe_methO (pv 0) T.Plot.cl T.Plot.m_add_block (O_Plot_add_block) (hr.mono (by decide)) (pa_cons (pe_ix ix_list (pv 2) (pe_int) (fun _ _ => rfl)) (pa_cons (pe_ix ix_list (pv 2) (pe_int) (fun _ _ => rfl)) (pa_cons (pe_ix ix_list (pv 2) (pe_int) (fun _ _ => rfl)) (pa_cons (pe_ix ix_list (pv 2) (pe_int) (fun _ _ => rfl)) (pa_cons (pe_ix ix_list (pv 2) (pe_int) (fun _ _ => rfl)) (pa_nil))))))))) (pss_nil))
    (pss_cons (ps_if (pt_cmpR op_eq (pv 1) (pe_int) (nomark _)) (pss_one (ps_ret (pe_methO0 (pv 0) T.Plot.cl T.Plot.m_drop (O_Plot_drop) (hr.mono (by decide))))) (pss_nil))
    (pss_cons (ps_if (pt_cmpR op_eq (pv 1) (pe_int) (nomark _)) (pss_one (ps_ret (pe_methO (pv 0) T.Plot.cl T.Plot.m_pave (O_Plot_pave) (hr.mono (by decide)) (pa_cons (pe_ix ix_list (pv 2) (pe_int) (fun _ _ => rfl)) (pa_cons (pe_ix ix_list (pv 2) (pe_int) (fun _ _ => rfl)) (pa_nil)))))) (pss_nil))
    (pss_cons (ps_if (pt_not (pt_val (pe_methO0 (pv 0) T.Plot.cl T.Plot.m_has_ground (O_Plot_has_ground) (hr.mono (by decide))))) (pss_one (ps_ret (pe_lst (pa_cons (pe_un un_neg (pe_int)) (pa_nil))))) (pss_nil))
    (pss_cons (ps_if (pt_cmpR op_eq (pv 1) (pe_int) (nomark _)) (pss_one (ps_ret (pe_methO0 (pv 0) T.Plot.cl T.Plot.m_tell_check (O_Plot_tell_check) (hr.mono (by decide))))) (pss_nil))
    (pss_cons (ps_if (pt_cmpR op_eq (pv 1) (pe_int) (nomark _)) (pss_one (ps_ret (pe_methO (pv 0) T.Plot.cl T.Plot.m_tell_square (O_Plot_tell_square) (hr.mono (by decide)) (pa_cons (pe_ix ix_list (pv 2) (pe_int) (fun _ _ => rfl)) (pa_cons (pe_ix ix_list (pv 2) (pe_int) (fun _ _ => rfl)) (pa_nil)))))) (pss_nil))
    (pss_cons (ps_if (pt_cmpR op_eq (pv 1) (pe_int) (nomark _)) (pss_one (ps_ret (pe_lst (pa_cons (pe_methO0 (pv 0) T.Plot.cl T.Plot.m_best (O_Plot_best) (hr.mono (by decide))) (pa_nil))))) (pss_nil))
    (pss_one (ps_ret (pe_ifExp (pt_cmpR op_eq (pv 1) (pe_int) (nomark _)) (pe_methO0 (pv 0) T.Plot.cl T.Plot.m_tell_houses (O_Plot_tell_houses) (hr.mono (by decide))) (pe_methO0 (pv 0) T.Plot.cl T.Plot.m_tell_sums (O_Plot_tell_sums) (hr.mono (by decide)))))))))))))
theorem sc_Section___init__ : FnScope N_Section___init__ ["self", "area", "level", "alarm"] (defScope s_Section___init__) := ⟨rfl, rfl, rfl, by decide +kernel, rfl, by decide +kernel, by decide +kernel⟩
theorem ok_Section___init__ (T : Txt K mg A) (U : Fns K A) : Ok P w K mg base 1 A.f_Section___init__ ["self", "area", "level", "alarm"] (sp_Section___init__ A K) := by
  obtain ⟨fd, F⟩ := U.f_Section___init__
  have SC := sc_Section___init__
  refine ⟨fd, F.ok SC (fun vs H Q E h => len_Section___init__ h) (fun cdv A0 outer s H vs Q E hr h => ⟨t_Section___init__ A K, ?_, pure_Section___init__ T vs H Q E h⟩), F.binds (fun _ _ _ _ _ _ us hl => match us, hl with | [_, _, _, _], _ => rfl)⟩
  exact pss_cons (ps_fld (pv 0) (pv 1) rfl)
    (pss_cons (ps_fld (pv 0) (pe_op op_mul (pv 1) (pv 2)) rfl)
    (pss_cons (ps_fld (pv 0) (pv 3) rfl)
    (pss_one (ps_fld (pv 0) (pe_int) rfl))))
theorem sc_Section_level : FnScope N_Section_level ["self"] (defScope s_Section_level) := ⟨rfl, rfl, rfl, by decide +kernel, rfl, by decide +kernel, by decide +kernel⟩
theorem ok_Section_level (T : Txt K mg A) (U : Fns K A) : Ok P w K mg base 1 A.f_Section_level ["self"] (sp_Section_level A K) := by
  obtain ⟨fd, F⟩ := U.f_Section_level
  have SC := sc_Section_level
  refine ⟨fd, F.ok SC (fun vs H Q E h => len_Section_level h) (fun cdv A0 outer s H vs Q E hr h => ⟨t_Section_level A K, ?_, pure_Section_level T vs H Q E h⟩), F.binds (fun _ _ _ _ _ _ us hl => match us, hl with | [_], _ => rfl)⟩
  exact pss_one (ps_ret (pe_op op_fdiv (pe_fld (pv 0) rfl) (pe_fld (pv 0) rfl)))
theorem sc_Device___init__ : FnScope N_Device___init__ ["self", "kind", "section", "target", "mark", "amount", "stop"] (defScope s_Device___init__) := ⟨rfl, rfl, rfl, by decide +kernel, rfl, by decide +kernel, by decide +kernel⟩
theorem ok_Device___init__ (T : Txt K mg A) (U : Fns K A) : Ok P w K mg base 1 A.f_Device___init__ ["self", "kind", "section", "target", "mark", "amount", "stop"] (sp_Device___init__ A K) := by
  obtain ⟨fd, F⟩ := U.f_Device___init__
  have SC := sc_Device___init__
  refine ⟨fd, F.ok SC (fun vs H Q E h => len_Device___init__ h) (fun cdv A0 outer s H vs Q E hr h => ⟨t_Device___init__ A K, ?_, pure_Device___init__ T vs H Q E h⟩), F.binds (fun _ _ _ _ _ _ us hl => match us, hl with | [_, _, _, _, _, _, _], _ => rfl)⟩
  exact pss_cons (ps_fld (pv 0) (pv 1) rfl)
    (pss_cons (ps_fld (pv 0) (pv 2) rfl)
    (pss_cons (ps_fld (pv 0) (pv 3) rfl)
    (pss_cons (ps_fld (pv 0) (pv 4) rfl)
    (pss_cons (ps_fld (pv 0) (pv 5) rfl)
    (pss_cons (ps_fld (pv 0) (pv 6) rfl)
    (pss_cons (ps_fld (pv 0) (pe_bl) rfl)
    (pss_cons (ps_fld (pv 0) (pe_int) rfl)
    (pss_one (ps_fld (pv 0) (pe_int) rfl)))))))))
theorem sc_Polder___init__ : FnScope N_Polder___init__ ["self", "tide"] (defScope s_Polder___init__) := ⟨rfl, rfl, rfl, by decide +kernel, rfl, by decide +kernel, by decide +kernel⟩
theorem ok_Polder___init__ (T : Txt K mg A) (U : Fns K A) : Ok P w K mg base 1 A.f_Polder___init__ ["self", "tide"] (sp_Polder___init__ A K) := by
  obtain ⟨fd, F⟩ := U.f_Polder___init__
  have SC := sc_Polder___init__
  refine ⟨fd, F.ok SC (fun vs H Q E h => len_Polder___init__ h) (fun cdv A0 outer s H vs Q E hr h => ⟨t_Polder___init__ A K, ?_, pure_Polder___init__ T vs H Q E h⟩), F.binds (fun _ _ _ _ _ _ us hl => match us, hl with | [_, _], _ => rfl)⟩
  exact pss_cons (ps_fld (pv 0) (pv 1) rfl)
    (pss_cons (ps_fld (pv 0) (pe_int) rfl)
    (pss_cons (ps_fld (pv 0) (pe_lst (pa_nil)) rfl)
    (pss_cons (ps_fld (pv 0) (pe_lst (pa_nil)) rfl)
    (pss_cons (ps_fld (pv 0) (pe_int) rfl)
    (pss_cons (ps_fld (pv 0) (pe_int) rfl)
    (pss_cons (ps_fld (pv 0) (pe_int) rfl)
    (pss_one (ps_fld (pv 0) (pe_int) rfl))))))))
theorem sc_Polder_sea : FnScope N_Polder_sea ["self"] (defScope s_Polder_sea) := ⟨rfl, rfl, rfl, by decide +kernel, rfl, by decide +kernel, by decide +kernel⟩
theorem ok_Polder_sea (T : Txt K mg A) (U : Fns K A) : Ok P w K mg base 1 A.f_Polder_sea ["self"] (sp_Polder_sea A K) := by
  obtain ⟨fd, F⟩ := U.f_Polder_sea
  have SC := sc_Polder_sea
  refine ⟨fd, F.ok SC (fun vs H Q E h => len_Polder_sea h) (fun cdv A0 outer s H vs Q E hr h => ⟨t_Polder_sea A K, ?_, pure_Polder_sea T vs H Q E h⟩), F.binds (fun _ _ _ _ _ _ us hl => match us, hl with | [_], _ => rfl)⟩
  exact pss_one (ps_ret (pe_ifExp (pt_cmpR op_eq (pe_callB call_len_seq rfl T.g.b_len boot_len (pa_cons (pe_fld (pv 0) rfl) (pa_nil))) (pe_int) (nomark _)) (pe_int) (pe_ix ix_list (pe_fld (pv 0) rfl) (pe_op op_mod (pe_fld (pv 0) rfl) (pe_callB call_len_seq rfl T.g.b_len boot_len (pa_cons (pe_fld (pv 0) rfl) (pa_nil)))) (fun _ _ => rfl))))
theorem sc_Polder_is_section : FnScope N_Polder_is_section ["self", "number"] (defScope s_Polder_is_section) := ⟨rfl, rfl, rfl, by decide +kernel, rfl, by decide +kernel, by decide +kernel⟩
theorem ok_Polder_is_section (T : Txt K mg A) (U : Fns K A) : Ok P w K mg base 1 A.f_Polder_is_section ["self", "number"] (sp_Polder_is_section A K) := by
  obtain ⟨fd, F⟩ := U.f_Polder_is_section
  have SC := sc_Polder_is_section
  refine ⟨fd, F.ok SC (fun vs H Q E h => len_Polder_is_section h) (fun cdv A0 outer s H vs Q E hr h => ⟨t_Polder_is_section A K, ?_, pure_Polder_is_section T vs H Q E h⟩), F.binds (fun _ _ _ _ _ _ us hl => match us, hl with | [_, _], _ => rfl)⟩
  exact pss_one (ps_ret (pe_chain op_le op_lt (pe_int) (pv 1) (pe_callB call_len_seq rfl T.g.b_len boot_len (pa_cons (pe_fld (pv 0) rfl) (pa_nil)))))
theorem sc_is_level : FnScope N_is_level ["number"] (defScope s_is_level) := ⟨rfl, rfl, rfl, by decide +kernel, rfl, by decide +kernel, by decide +kernel⟩
theorem ok_is_level (T : Txt K mg A) (U : Fns K A) : Ok P w K mg base 1 A.f_is_level ["number"] (sp_is_level A K) := by
  obtain ⟨fd, F⟩ := U.f_is_level
  have SC := sc_is_level
  refine ⟨fd, F.ok SC (fun vs H Q E h => len_is_level h) (fun cdv A0 outer s H vs Q E hr h => ⟨t_is_level A K, ?_, pure_is_level T vs H Q E h⟩), F.binds (fun _ _ _ _ _ _ us hl => match us, hl with | [_], _ => rfl)⟩
  exact pss_one (ps_ret (pe_chain op_le op_le (pe_int) (pv 0) (pe_globI rfl T.g.c_MOST_LEVEL)))
theorem sc_Polder_add_section : FnScope N_Polder_add_section ["self", "area", "level", "alarm"] (defScope s_Polder_add_section) := ⟨rfl, rfl, rfl, by decide +kernel, rfl, by decide +kernel, by decide +kernel⟩
theorem ok_Polder_add_section (T : Txt K mg A) (U : Fns K A) : Ok P w K mg base 3 A.f_Polder_add_section ["self", "area", "level", "alarm"] (sp_Polder_add_section A K) := by
  obtain ⟨fd, F⟩ := U.f_Polder_add_section
  have O_is_level : Ok P w K mg base 1 A.f_is_level ["number"] (sp_is_level A K) := ok_is_level T U
  have O_Section___init__ : Ok P w K mg base 1 A.f_Section___init__ ["self", "area", "level", "alarm"] (sp_Section___init__ A K) := ok_Section___init__ T U
  have SC := sc_Polder_add_section
  refine ⟨fd, F.ok SC (fun vs H Q E h => len_Polder_add_section h) (fun cdv A0 outer s H vs Q E hr h => ⟨t_Polder_add_section A K, ?_, pure_Polder_add_section T vs H Q E h⟩), F.binds (fun _ _ _ _ _ _ us hl => match us, hl with | [_, _, _, _], _ => rfl)⟩
  exact pss_cons (ps_if (PW.pt (pw_or (pt_cmpR op_lt (pv 1) (pe_int) (nomark _)) (pw_or (pt_cmpR op_gt (pv 1) (pe_globI rfl T.g.c_MOST_AREA) (nomark _)) (pw_or (pt_not (pt_val (pe_callO (O_is_level) (hr.mono (by decide)) rfl T.g.m_is_level T.g.k_is_level (pa_cons (pv 2) (pa_nil))))) (pw_or1 (pt_not (pt_val (pe_callO (O_is_level) (hr.mono (by decide)) rfl T.g.m_is_level T.g.k_is_level (pa_cons (pv 3) (pa_nil)))))))))) (pss_one (ps_ret (pe_lst (pa_cons (pe_un un_neg (pe_int)) (pa_nil))))) (pss_nil))
    (pss_cons (ps_if (pt_cmpR op_ge (pe_callB call_len_seq rfl T.g.b_len boot_len (pa_cons (pe_fld (pv 0) rfl) (pa_nil))) (pe_globI rfl T.g.c_MOST_SECTIONS) (nomark _)) (pss_one (ps_ret (pe_lst (pa_cons (pe_un un_neg (pe_int)) (pa_nil))))) (pss_nil))
    (pss_cons (ps_expr (pe_bm PySem.F.plainAttrs_list PySem.F.slot_list_append PySem.F.type_list_append mt_append (pe_fld (pv 0) rfl) (pa_cons (pe_makeO T.Section.made (O_Section___init__) (hr.mono (by decide)) rfl T.Section.mg (pa_cons (pv 1) (pa_cons (pv 2) (pa_cons (pv 3) (pa_nil))))) (pa_nil))))
    (pss_one (ps_ret (pe_lst (pa_cons (pe_op op_sub (pe_callB call_len_seq rfl T.g.b_len boot_len (pa_cons (pe_fld (pv 0) rfl) (pa_nil))) (pe_int)) (pa_nil)))))))
theorem sc_Polder_add_device : FnScope N_Polder_add_device ["self", "device"] (defScope s_Polder_add_device) := ⟨rfl, rfl, rfl, by decide +kernel, rfl, by decide +kernel, by decide +kernel⟩
theorem ok_Polder_add_device (T : Txt K mg A) (U : Fns K A) : Ok P w K mg base 1 A.f_Polder_add_device ["self", "device"] (sp_Polder_add_device A K) := by
  obtain ⟨fd, F⟩ := U.f_Polder_add_device
  have SC := sc_Polder_add_device
  refine ⟨fd, F.ok SC (fun vs H Q E h => len_Polder_add_device h) (fun cdv A0 outer s H vs Q E hr h => ⟨t_Polder_add_device A K, ?_, pure_Polder_add_device T vs H Q E h⟩), F.binds (fun _ _ _ _ _ _ us hl => match us, hl with | [_, _], _ => rfl)⟩
  exact pss_cons (ps_if (pt_cmpR op_ge (pe_callB call_len_seq rfl T.g.b_len boot_len (pa_cons (pe_fld (pv 0) rfl) (pa_nil))) (pe_globI rfl T.g.c_MOST_DEVICES) (nomark _)) (pss_one (ps_ret (pe_lst (pa_cons (pe_un un_neg (pe_int)) (pa_nil))))) (pss_nil))
    (pss_cons (ps_expr (pe_bm PySem.F.plainAttrs_list PySem.F.slot_list_append PySem.F.type_list_append mt_append (pe_fld (pv 0) rfl) (pa_cons (pv 1) (pa_nil))))
    (pss_one (ps_ret (pe_lst (pa_cons (pe_op op_sub (pe_callB call_len_seq rfl T.g.b_len boot_len (pa_cons (pe_fld (pv 0) rfl) (pa_nil))) (pe_int)) (pa_nil))))))
theorem sc_Polder_add_weir : FnScope N_Polder_add_weir ["self", "section", "target", "crest", "width"] (defScope s_Polder_add_weir) := ⟨rfl, rfl, rfl, by decide +kernel, rfl, by decide +kernel, by decide +kernel⟩
theorem ok_Polder_add_weir (T : Txt K mg A) (U : Fns K A) : Ok P w K mg base 3 A.f_Polder_add_weir ["self", "section", "target", "crest", "width"] (sp_Polder_add_weir A K) := by
  obtain ⟨fd, F⟩ := U.f_Polder_add_weir
  have O_Polder_is_section : Ok P w K mg base 1 A.f_Polder_is_section ["self", "number"] (sp_Polder_is_section A K) := ok_Polder_is_section T U
  have O_is_level : Ok P w K mg base 1 A.f_is_level ["number"] (sp_is_level A K) := ok_is_level T U
  have O_Device___init__ : Ok P w K mg base 1 A.f_Device___init__ ["self", "kind", "section", "target", "mark", "amount", "stop"] (sp_Device___init__ A K) := ok_Device___init__ T U
  have O_Polder_add_device : Ok P w K mg base 1 A.f_Polder_add_device ["self", "device"] (sp_Polder_add_device A K) := ok_Polder_add_device T U
  have SC := sc_Polder_add_weir
  refine ⟨fd, F.ok SC (fun vs H Q E h => len_Polder_add_weir h) (fun cdv A0 outer s H vs Q E hr h => ⟨t_Polder_add_weir A K, ?_, pure_Polder_add_weir T vs H Q E h⟩), F.binds (fun _ _ _ _ _ _ us hl => match us, hl with | [_, _, _, _, _], _ => rfl)⟩
  exact pss_cons (ps_if (PW.pt (pw_or (pt_not (pt_val (pe_methO (pv 0) T.Polder.cl T.Polder.m_is_section (O_Polder_is_section) (hr.mono (by decide)) (pa_cons (pv 1) (pa_nil))))) (pw_or (pt_not (pt_val (pe_methO (pv 0) T.Polder.cl T.Polder.m_is_section (O_Polder_is_section) (hr.mono (by decide)) (pa_cons (pv 2) (pa_nil))))) (pw_or1 (pt_cmpR op_eq (pv 1) (pv 2) (nomark _)))))) (pss_one (ps_ret (pe_lst (pa_cons (pe_un un_neg (pe_int)) (pa_nil))))) (pss_nil))
    (pss_cons (ps_if (PW.pt (pw_or (pt_not (pt_val (pe_callO (O_is_level) (hr.mono (by decide)) rfl T.g.m_is_level T.g.k_is_level (pa_cons (pv 3) (pa_nil))))) (pw_or (pt_cmpR op_lt (pv 4) (pe_int) (nomark _)) (pw_or1 (pt_cmpR op_gt (pv 4) (pe_globI rfl T.g.c_MOST_WIDTH) (nomark _)))))) (pss_one (ps_ret (pe_lst (pa_cons (pe_un un_neg (pe_int)) (pa_nil))))) (pss_nil))
    (pss_one (ps_ret (pe_methO (pv 0) T.Polder.cl T.Polder.m_add_device (O_Polder_add_device) (hr.mono (by decide)) (pa_cons (pe_makeO T.Device.made (O_Device___init__) (hr.mono (by decide)) rfl T.Device.mg (pa_cons (pe_globI rfl T.g.c_WEIR) (pa_cons (pv 1) (pa_cons (pv 2) (pa_cons (pv 3) (pa_cons (pv 4) (pa_cons (pe_int) (pa_nil)))))))) (pa_nil))))))
theorem sc_Polder_add_pump : FnScope N_Polder_add_pump ["self", "section", "target", "capacity", "start", "stop"] (defScope s_Polder_add_pump) := ⟨rfl, rfl, rfl, by decide +kernel, rfl, by decide +kernel, by decide +kernel⟩
theorem ok_Polder_add_pump (T : Txt K mg A) (U : Fns K A) : Ok P w K mg base 3 A.f_Polder_add_pump ["self", "section", "target", "capacity", "start", "stop"] (sp_Polder_add_pump A K) := by
  obtain ⟨fd, F⟩ := U.f_Polder_add_pump
  have O_Polder_is_section : Ok P w K mg base 1 A.f_Polder_is_section ["self", "number"] (sp_Polder_is_section A K) := ok_Polder_is_section T U
  have O_is_level : Ok P w K mg base 1 A.f_is_level ["number"] (sp_is_level A K) := ok_is_level T U
  have O_Device___init__ : Ok P w K mg base 1 A.f_Device___init__ ["self", "kind", "section", "target", "mark", "amount", "stop"] (sp_Device___init__ A K) := ok_Device___init__ T U
  have O_Polder_add_device : Ok P w K mg base 1 A.f_Polder_add_device ["self", "device"] (sp_Polder_add_device A K) := ok_Polder_add_device T U
  have SC := sc_Polder_add_pump
  refine ⟨fd, F.ok SC (fun vs H Q E h => len_Polder_add_pump h) (fun cdv A0 outer s H vs Q E hr h => ⟨t_Polder_add_pump A K, ?_, pure_Polder_add_pump T vs H Q E h⟩), F.binds (fun _ _ _ _ _ _ us hl => match us, hl with | [_, _, _, _, _, _], _ => rfl)⟩
  exact pss_cons (ps_if (PW.pt (pw_or (pt_not (pt_val (pe_methO (pv 0) T.Polder.cl T.Polder.m_is_section (O_Polder_is_section) (hr.mono (by decide)) (pa_cons (pv 1) (pa_nil))))) (pw_or (PW.pt (pw_and (pt_cmpR op_ne (pv 2) (pe_globI rfl T.g.c_OUTSIDE) (nomark _)) (pw_and1 (pt_not (pt_val (pe_methO (pv 0) T.Polder.cl T.Polder.m_is_section (O_Polder_is_section) (hr.mono (by decide)) (pa_cons (pv 2) (pa_nil)))))))) (pw_or1 (pt_cmpR op_eq (pv 1) (pv 2) (nomark _)))))) (pss_one (ps_ret (pe_lst (pa_cons (pe_un un_neg (pe_int)) (pa_nil))))) (pss_nil))
    (pss_cons (ps_if (PW.pt (pw_or (pt_cmpR op_lt (pv 3) (pe_int) (nomark _)) (pw_or (pt_cmpR op_gt (pv 3) (pe_globI rfl T.g.c_MOST_AMOUNT) (nomark _)) (pw_or (pt_cmpR op_lt (pv 4) (pe_int) (nomark _)) (pw_or1 (pt_cmpR op_gt (pv 4) (pe_globI rfl T.g.c_MOST_LEVEL) (nomark _))))))) (pss_one (ps_ret (pe_lst (pa_cons (pe_un un_neg (pe_int)) (pa_nil))))) (pss_nil))
    (pss_cons (ps_if (PW.pt (pw_or (pt_not (pt_val (pe_callO (O_is_level) (hr.mono (by decide)) rfl T.g.m_is_level T.g.k_is_level (pa_cons (pv 5) (pa_nil))))) (pw_or1 (pt_cmpR op_ge (pv 5) (pv 4) (nomark _))))) (pss_one (ps_ret (pe_lst (pa_cons (pe_un un_neg (pe_int)) (pa_nil))))) (pss_nil))
    (pss_one (ps_ret (pe_methO (pv 0) T.Polder.cl T.Polder.m_add_device (O_Polder_add_device) (hr.mono (by decide)) (pa_cons (pe_makeO T.Device.made (O_Device___init__) (hr.mono (by decide)) rfl T.Device.mg (pa_cons (pe_globI rfl T.g.c_PUMP) (pa_cons (pv 1) (pa_cons (pv 2) (pa_cons (pv 4) (pa_cons (pv 3) (pa_cons (pv 5) (pa_nil)))))))) (pa_nil)))))))
theorem sc_Polder_add_sluice : FnScope N_Polder_add_sluice ["self", "section", "sill", "width"] (defScope s_Polder_add_sluice) := ⟨rfl, rfl, rfl, by decide +kernel, rfl, by decide +kernel, by decide +kernel⟩
theorem ok_Polder_add_sluice (T : Txt K mg A) (U : Fns K A) : Ok P w K mg base 3 A.f_Polder_add_sluice ["self", "section", "sill", "width"] (sp_Polder_add_sluice A K) := by
  obtain ⟨fd, F⟩ := U.f_Polder_add_sluice
  have O_Polder_is_section : Ok P w K mg base 1 A.f_Polder_is_section ["self", "number"] (sp_Polder_is_section A K) := ok_Polder_is_section T U
  have O_is_level : Ok P w K mg base 1 A.f_is_level ["number"] (sp_is_level A K) := ok_is_level T U
  have O_Device___init__ : Ok P w K mg base 1 A.f_Device___init__ ["self", "kind", "section", "target", "mark", "amount", "stop"] (sp_Device___init__ A K) := ok_Device___init__ T U
  have O_Polder_add_device : Ok P w K mg base 1 A.f_Polder_add_device ["self", "device"] (sp_Polder_add_device A K) := ok_Polder_add_device T U
  have SC := sc_Polder_add_sluice
  refine ⟨fd, F.ok SC (fun vs H Q E h => len_Polder_add_sluice h) (fun cdv A0 outer s H vs Q E hr h => ⟨t_Polder_add_sluice A K, ?_, pure_Polder_add_sluice T vs H Q E h⟩), F.binds (fun _ _ _ _ _ _ us hl => match us, hl with | [_, _, _, _], _ => rfl)⟩
  exact pss_cons (ps_if (PW.pt (pw_or (pt_not (pt_val (pe_methO (pv 0) T.Polder.cl T.Polder.m_is_section (O_Polder_is_section) (hr.mono (by decide)) (pa_cons (pv 1) (pa_nil))))) (pw_or (pt_not (pt_val (pe_callO (O_is_level) (hr.mono (by decide)) rfl T.g.m_is_level T.g.k_is_level (pa_cons (pv 2) (pa_nil))))) (pw_or (pt_cmpR op_lt (pv 3) (pe_int) (nomark _)) (pw_or1 (pt_cmpR op_gt (pv 3) (pe_globI rfl T.g.c_MOST_WIDTH) (nomark _))))))) (pss_one (ps_ret (pe_lst (pa_cons (pe_un un_neg (pe_int)) (pa_nil))))) (pss_nil))
    (pss_one (ps_ret (pe_methO (pv 0) T.Polder.cl T.Polder.m_add_device (O_Polder_add_device) (hr.mono (by decide)) (pa_cons (pe_makeO T.Device.made (O_Device___init__) (hr.mono (by decide)) rfl T.Device.mg (pa_cons (pe_globI rfl T.g.c_SLUICE) (pa_cons (pv 1) (pa_cons (pe_globI rfl T.g.c_OUTSIDE) (pa_cons (pv 2) (pa_cons (pv 3) (pa_cons (pe_int) (pa_nil)))))))) (pa_nil)))))
theorem sc_Polder_add_inlet : FnScope N_Polder_add_inlet ["self", "section", "capacity", "level"] (defScope s_Polder_add_inlet) := ⟨rfl, rfl, rfl, by decide +kernel, rfl, by decide +kernel, by decide +kernel⟩
theorem ok_Polder_add_inlet (T : Txt K mg A) (U : Fns K A) : Ok P w K mg base 3 A.f_Polder_add_inlet ["self", "section", "capacity", "level"] (sp_Polder_add_inlet A K) := by
  obtain ⟨fd, F⟩ := U.f_Polder_add_inlet
  have O_Polder_is_section : Ok P w K mg base 1 A.f_Polder_is_section ["self", "number"] (sp_Polder_is_section A K) := ok_Polder_is_section T U
  have O_Device___init__ : Ok P w K mg base 1 A.f_Device___init__ ["self", "kind", "section", "target", "mark", "amount", "stop"] (sp_Device___init__ A K) := ok_Device___init__ T U
  have O_Polder_add_device : Ok P w K mg base 1 A.f_Polder_add_device ["self", "device"] (sp_Polder_add_device A K) := ok_Polder_add_device T U
  have SC := sc_Polder_add_inlet
  refine ⟨fd, F.ok SC (fun vs H Q E h => len_Polder_add_inlet h) (fun cdv A0 outer s H vs Q E hr h => ⟨t_Polder_add_inlet A K, ?_, pure_Polder_add_inlet T vs H Q E h⟩), F.binds (fun _ _ _ _ _ _ us hl => match us, hl with | [_, _, _, _], _ => rfl)⟩
  exact pss_cons (ps_if (PW.pt (pw_or (pt_not (pt_val (pe_methO (pv 0) T.Polder.cl T.Polder.m_is_section (O_Polder_is_section) (hr.mono (by decide)) (pa_cons (pv 1) (pa_nil))))) (pw_or (pt_cmpR op_lt (pv 2) (pe_int) (nomark _)) (pw_or (pt_cmpR op_gt (pv 2) (pe_globI rfl T.g.c_MOST_AMOUNT) (nomark _)) (pw_or (pt_cmpR op_lt (pv 3) (pe_int) (nomark _)) (pw_or1 (pt_cmpR op_gt (pv 3) (pe_globI rfl T.g.c_MOST_LEVEL) (nomark _)))))))) (pss_one (ps_ret (pe_lst (pa_cons (pe_un un_neg (pe_int)) (pa_nil))))) (pss_nil))
    (pss_one (ps_ret (pe_methO (pv 0) T.Polder.cl T.Polder.m_add_device (O_Polder_add_device) (hr.mono (by decide)) (pa_cons (pe_makeO T.Device.made (O_Device___init__) (hr.mono (by decide)) rfl T.Device.mg (pa_cons (pe_globI rfl T.g.c_INLET) (pa_cons (pv 1) (pa_cons (pe_globI rfl T.g.c_OUTSIDE) (pa_cons (pv 3) (pa_cons (pv 2) (pa_cons (pe_int) (pa_nil)))))))) (pa_nil)))))
theorem sc_Polder_set_device : FnScope N_Polder_set_device ["self", "number", "level", "amount"] (defScope s_Polder_set_device) := ⟨rfl, rfl, rfl, by decide +kernel, rfl, by decide +kernel, by decide +kernel⟩
theorem ok_Polder_set_device (T : Txt K mg A) (U : Fns K A) : Ok P w K mg base 2 A.f_Polder_set_device ["self", "number", "level", "amount"] (sp_Polder_set_device A K) := by
  obtain ⟨fd, F⟩ := U.f_Polder_set_device
  have O_is_level : Ok P w K mg base 1 A.f_is_level ["number"] (sp_is_level A K) := ok_is_level T U
  have SC := sc_Polder_set_device
  refine ⟨fd, F.ok SC (fun vs H Q E h => len_Polder_set_device h) (fun cdv A0 outer s H vs Q E hr h => ⟨t_Polder_set_device A K, ?_, pure_Polder_set_device T vs H Q E h⟩), F.binds (fun _ _ _ _ _ _ us hl => match us, hl with | [_, _, _, _], _ => rfl)⟩
  exact pss_cons (ps_if (PW.pt (pw_or (pt_cmpR op_lt (pv 1) (pe_int) (nomark _)) (pw_or (pt_cmpR op_ge (pv 1) (pe_callB call_len_seq rfl T.g.b_len boot_len (pa_cons (pe_fld (pv 0) rfl) (pa_nil))) (nomark _)) (pw_or (pt_not (pt_val (pe_callO (O_is_level) (hr.mono (by decide)) rfl T.g.m_is_level T.g.k_is_level (pa_cons (pv 2) (pa_nil))))) (pw_or (pt_cmpR op_lt (pv 3) (pe_int) (nomark _)) (pw_or1 (pt_cmpR op_gt (pv 3) (pe_globI rfl T.g.c_MOST_AMOUNT) (nomark _)))))))) (pss_one (ps_ret (pe_lst (pa_cons (pe_un un_neg (pe_int)) (pa_nil))))) (pss_nil))
    (pss_cons (ps_set (i := 4) SC.nd rfl (Or.inl rfl) (pe_ix ix_list (pe_fld (pv 0) rfl) (pv 1) (fun _ _ => rfl)))
    (pss_cons (ps_if (PW.pt (pw_and (pt_cmpR op_eq (pe_fld (pv 4) rfl) (pe_globI rfl T.g.c_PUMP) (nomark _)) (pw_and1 (pt_cmpR op_le (pv 2) (pe_fld (pv 4) rfl) (nomark _))))) (pss_one (ps_ret (pe_lst (pa_cons (pe_un un_neg (pe_int)) (pa_nil))))) (pss_nil))
    (pss_cons (ps_fld (pv 4) (pv 2) rfl)
    (pss_cons (ps_fld (pv 4) (pv 3) rfl)
    (pss_one (ps_ret (pe_lst (pa_cons (pe_int) (pa_nil)))))))))
theorem sc_Polder_would_run : FnScope N_Polder_would_run ["self", "device"] (defScope s_Polder_would_run) := ⟨rfl, rfl, rfl, by decide +kernel, rfl, by decide +kernel, by decide +kernel⟩
theorem ok_Polder_would_run (T : Txt K mg A) (U : Fns K A) : Ok P w K mg base 2 A.f_Polder_would_run ["self", "device"] (sp_Polder_would_run A K) := by
  obtain ⟨fd, F⟩ := U.f_Polder_would_run
  have O_Section_level : Ok P w K mg base 1 A.f_Section_level ["self"] (sp_Section_level A K) := ok_Section_level T U
  have SC := sc_Polder_would_run
  refine ⟨fd, F.ok SC (fun vs H Q E h => len_Polder_would_run h) (fun cdv A0 outer s H vs Q E hr h => ⟨t_Polder_would_run A K, ?_, pure_Polder_would_run T vs H Q E h⟩), F.binds (fun _ _ _ _ _ _ us hl => match us, hl with | [_, _], _ => rfl)⟩
  exact pss_cons (ps_set (i := 2) SC.nd rfl (Or.inl rfl) (pe_methO0 (pe_ix ix_list (pe_fld (pv 0) rfl) (pe_fld (pv 1) rfl) (fun _ _ => rfl)) T.Section.cl T.Section.m_level (O_Section_level) (hr.mono (by decide))))
    (pss_one (ps_ret (pe_ifExp (pt_val (pe_fld (pv 1) rfl)) (pe_cmpR op_gt (pv 2) (pe_fld (pv 1) rfl) (nomark _)) (pe_cmpR op_ge (pv 2) (pe_fld (pv 1) rfl) (nomark _)))))
theorem sc_Polder_would_move : FnScope N_Polder_would_move ["self", "device"] (defScope s_Polder_would_move) := ⟨rfl, rfl, rfl, by decide +kernel, rfl, by decide +kernel, by decide +kernel⟩
theorem ok_Polder_would_move (T : Txt K mg A) (U : Fns K A) : Ok P w K mg base 3 A.f_Polder_would_move ["self", "device"] (sp_Polder_would_move A K) := by
  obtain ⟨fd, F⟩ := U.f_Polder_would_move
  have O_Section_level : Ok P w K mg base 1 A.f_Section_level ["self"] (sp_Section_level A K) := ok_Section_level T U
  have O_Polder_would_run : Ok P w K mg base 2 A.f_Polder_would_run ["self", "device"] (sp_Polder_would_run A K) := ok_Polder_would_run T U
  have O_Polder_sea : Ok P w K mg base 1 A.f_Polder_sea ["self"] (sp_Polder_sea A K) := ok_Polder_sea T U
  have SC := sc_Polder_would_move
  refine ⟨fd, F.ok SC (fun vs H Q E h => len_Polder_would_move h) (fun cdv A0 outer s H vs Q E hr h => ⟨t_Polder_would_move A K, ?_, pure_Polder_would_move T vs H Q E h⟩), F.binds (fun _ _ _ _ _ _ us hl => match us, hl with | [_, _], _ => rfl)⟩
  exact pss_cons (ps_set (i := 2) SC.nd rfl (Or.inl rfl) (pe_ix ix_list (pe_fld (pv 0) rfl) (pe_fld (pv 1) rfl) (fun _ _ => rfl)))
    (pss_cons (ps_set (i := 3) SC.nd rfl (Or.inl rfl) (pe_methO0 (pv 2) T.Section.cl T.Section.m_level (O_Section_level) (hr.mono (by decide))))
    (pss_cons (ps_if (pt_cmpR op_eq (pe_fld (pv 1) rfl) (pe_globI rfl T.g.c_PUMP) (nomark _)) (pss_one (ps_ret (pe_ifExp (pt_val (pe_methO (pv 0) T.Polder.cl T.Polder.m_would_run (O_Polder_would_run) (hr.mono (by decide)) (pa_cons (pv 1) (pa_nil)))) (pe_callB (call_min2 rfl) rfl T.g.b_min boot_min (pa_cons (pe_fld (pv 1) rfl) (pa_cons (pe_fld (pv 2) rfl) (pa_nil)))) (pe_int)))) (pss_nil))
    (pss_cons (ps_if (pt_cmpR op_eq (pe_fld (pv 1) rfl) (pe_globI rfl T.g.c_INLET) (nomark _)) (pss_one (ps_ret (pe_ifExp (pt_cmpR op_lt (pv 3) (pe_fld (pv 1) rfl) (nomark _)) (pe_callB (call_max2 rfl) rfl T.g.b_max boot_max (pa_cons (pe_int) (pa_cons (pe_callB (call_min2 rfl) rfl T.g.b_min boot_min (pa_cons (pe_fld (pv 1) rfl) (pa_cons (pe_op op_sub (pe_op op_mul (pe_fld (pv 1) rfl) (pe_fld (pv 2) rfl)) (pe_fld (pv 2) rfl)) (pa_nil)))) (pa_nil)))) (pe_int)))) (pss_nil))
    (pss_cons (ps_if (pt_cmpR op_eq (pe_fld (pv 1) rfl) (pe_globI rfl T.g.c_SLUICE) (nomark _)) (pss_cons (ps_set (i := 4) SC.nd rfl (Or.inl rfl) (pe_callB (call_max2 rfl) rfl T.g.b_max boot_max (pa_cons (pe_fld (pv 1) rfl) (pa_cons (pe_methO0 (pv 0) T.Polder.cl T.Polder.m_sea (O_Polder_sea) (hr.mono (by decide))) (pa_nil)))))
    (pss_cons (ps_if (pt_cmpR op_le (pv 3) (pv 4) (nomark _)) (pss_one (ps_ret (pe_int))) (pss_nil))
    (pss_one (ps_ret (pe_callB (call_min2 rfl) rfl T.g.b_min boot_min (pa_cons (pe_op op_mul (pe_fld (pv 1) rfl) (pe_op op_sub (pv 3) (pv 4))) (pa_cons (pe_op op_sub (pe_fld (pv 2) rfl) (pe_op op_mul (pv 4) (pe_fld (pv 2) rfl))) (pa_nil)))))))) (pss_nil))
    (pss_cons (ps_set (i := 5) SC.nd rfl (Or.inl rfl) (pe_ix ix_list (pe_fld (pv 0) rfl) (pe_fld (pv 1) rfl) (fun _ _ => rfl)))
    (pss_cons (ps_set (i := 4) SC.nd rfl (Or.inl rfl) (pe_callB (call_max2 rfl) rfl T.g.b_max boot_max (pa_cons (pe_fld (pv 1) rfl) (pa_cons (pe_methO0 (pv 5) T.Section.cl T.Section.m_level (O_Section_level) (hr.mono (by decide))) (pa_nil)))))
    (pss_cons (ps_if (pt_cmpR op_le (pv 3) (pv 4) (nomark _)) (pss_one (ps_ret (pe_int))) (pss_nil))
    (pss_cons (ps_set (i := 6) SC.nd rfl (Or.inl rfl) (pe_op op_fdiv (pe_op op_sub (pe_op op_mul (pe_fld (pv 2) rfl) (pe_fld (pv 5) rfl)) (pe_op op_mul (pe_fld (pv 5) rfl) (pe_fld (pv 2) rfl))) (pe_op op_add (pe_fld (pv 2) rfl) (pe_fld (pv 5) rfl))))
    (pss_one (ps_ret (pe_callB (call_min3 rfl) rfl T.g.b_min boot_min (pa_cons (pe_op op_mul (pe_fld (pv 1) rfl) (pe_op op_sub (pv 3) (pv 4))) (pa_cons (pe_op op_sub (pe_fld (pv 2) rfl) (pe_op op_mul (pe_fld (pv 1) rfl) (pe_fld (pv 2) rfl))) (pa_cons (pv 6) (pa_nil)))))))))))))))
theorem sc_Polder_take_turn : FnScope N_Polder_take_turn ["self", "device"] (defScope s_Polder_take_turn) := ⟨rfl, rfl, rfl, by decide +kernel, rfl, by decide +kernel, by decide +kernel⟩
theorem ok_Polder_take_turn (T : Txt K mg A) (U : Fns K A) : Ok P w K mg base 4 A.f_Polder_take_turn ["self", "device"] (sp_Polder_take_turn A K) := by
  obtain ⟨fd, F⟩ := U.f_Polder_take_turn
  have O_Polder_would_move : Ok P w K mg base 3 A.f_Polder_would_move ["self", "device"] (sp_Polder_would_move A K) := ok_Polder_would_move T U
  have O_Polder_would_run : Ok P w K mg base 2 A.f_Polder_would_run ["self", "device"] (sp_Polder_would_run A K) := ok_Polder_would_run T U
  have SC := sc_Polder_take_turn
  refine ⟨fd, F.ok SC (fun vs H Q E h => len_Polder_take_turn h) (fun cdv A0 outer s H vs Q E hr h => ⟨t_Polder_take_turn A K, ?_, pure_Polder_take_turn T vs H Q E h⟩), F.binds (fun _ _ _ _ _ _ us hl => match us, hl with | [_, _], _ => rfl)⟩
  exact pss_cons (ps_set (i := 2) SC.nd rfl (Or.inl rfl) (pe_methO (pv 0) T.Polder.cl T.Polder.m_would_move (O_Polder_would_move) (hr.mono (by decide)) (pa_cons (pv 1) (pa_nil))))
    (pss_cons (ps_if (pt_cmpR op_eq (pe_fld (pv 1) rfl) (pe_globI rfl T.g.c_PUMP) (nomark _)) (pss_one (ps_fld (pv 1) (pe_methO (pv 0) T.Polder.cl T.Polder.m_would_run (O_Polder_would_run) (hr.mono (by decide)) (pa_cons (pv 1) (pa_nil))) rfl)) (pss_nil))
    (pss_cons (ps_set (i := 3) SC.nd rfl (Or.inl rfl) (pe_ix ix_list (pe_fld (pv 0) rfl) (pe_fld (pv 1) rfl) (fun _ _ => rfl)))
    (pss_cons (ps_if (pt_cmpR op_eq (pe_fld (pv 1) rfl) (pe_globI rfl T.g.c_INLET) (nomark _)) (pss_cons (ps_fldaug (pv 3) (pv 2) in_add)
    (pss_one (ps_fldaug (pv 0) (pv 2) in_add))) (pss_cons (ps_fldaug (pv 3) (pv 2) in_sub)
    (pss_one (ps_if (pt_cmpR op_eq (pe_fld (pv 1) rfl) (pe_globI rfl T.g.c_OUTSIDE) (nomark _)) (pss_one (ps_fldaug (pv 0) (pv 2) in_add)) (pss_cons (ps_set (i := 4) SC.nd rfl (Or.inl rfl) (pe_ix ix_list (pe_fld (pv 0) rfl) (pe_fld (pv 1) rfl) (fun _ _ => rfl)))
    (pss_one (ps_fldaug (pv 4) (pv 2) in_add)))))))
    (pss_cons (ps_fldaug (pv 1) (pv 2) in_add)
    (pss_one (ps_fldaug (pv 1) (pe_ifExp (pt_cmpR op_gt (pv 2) (pe_int) (nomark _)) (pe_int) (pe_int)) in_add))))))
theorem sc_Polder_step : FnScope N_Polder_step ["self", "rain", "sun"] (defScope s_Polder_step) := ⟨rfl, rfl, rfl, by decide +kernel, rfl, by decide +kernel, by decide +kernel⟩
theorem ok_Polder_step (T : Txt K mg A) (U : Fns K A) : Ok P w K mg base 5 A.f_Polder_step ["self", "rain", "sun"] (sp_Polder_step A K) := by
  obtain ⟨fd, F⟩ := U.f_Polder_step
  have O_Polder_take_turn : Ok P w K mg base 4 A.f_Polder_take_turn ["self", "device"] (sp_Polder_take_turn A K) := ok_Polder_take_turn T U
  have O_Section_level : Ok P w K mg base 1 A.f_Section_level ["self"] (sp_Section_level A K) := ok_Section_level T U
  have SC := sc_Polder_step
  refine ⟨fd, F.ok SC (fun vs H Q E h => len_Polder_step h) (fun cdv A0 outer s H vs Q E hr h => ⟨t_Polder_step A K, ?_, pure_Polder_step T vs H Q E h⟩), F.binds (fun _ _ _ _ _ _ us hl => match us, hl with | [_, _, _], _ => rfl)⟩
  exact pss_cons (ps_for PassesOwn.never rfl (pi_list (pe_fld (pv 0) rfl)) (pg_name (i := 3) SC.nd rfl (Or.inl rfl)) (pss_cons (ps_fldaug (pv 3) (pe_op op_mul (pv 1) (pe_fld (pv 3) rfl)) in_add)
    (pss_one (ps_fldaug (pv 0) (pe_op op_mul (pv 1) (pe_fld (pv 3) rfl)) in_add))))
    (pss_cons (ps_for PassesOwn.never rfl (pi_list (pe_fld (pv 0) rfl)) (pg_name (i := 3) SC.nd rfl (Or.inl rfl)) (pss_cons (ps_set (i := 4) SC.nd rfl (Or.inl rfl) (pe_callB (call_min2 rfl) rfl T.g.b_min boot_min (pa_cons (pe_op op_mul (pv 2) (pe_fld (pv 3) rfl)) (pa_cons (pe_fld (pv 3) rfl) (pa_nil)))))
    (pss_cons (ps_fldaug (pv 3) (pv 4) in_sub)
    (pss_one (ps_fldaug (pv 0) (pv 4) in_add)))))
    (pss_cons (ps_for PassesOwn.never rfl (pi_list (pe_fld (pv 0) rfl)) (pg_name (i := 5) SC.nd rfl (Or.inl rfl)) (pss_one (ps_expr (pe_methO (pv 0) T.Polder.cl T.Polder.m_take_turn (O_Polder_take_turn) (hr.mono (by decide)) (pa_cons (pv 5) (pa_nil))))))
    (pss_cons (ps_for PassesOwn.never rfl (pi_list (pe_fld (pv 0) rfl)) (pg_name (i := 3) SC.nd rfl (Or.inl rfl)) (pss_one (ps_fldaug (pv 3) (pe_ifExp (pt_cmpR op_gt (pe_methO0 (pv 3) T.Section.cl T.Section.m_level (O_Section_level) (hr.mono (by decide))) (pe_fld (pv 3) rfl) (nomark _)) (pe_int) (pe_int)) in_add)))
    (pss_one (ps_fldaug (pv 0) (pe_int) in_add)))))
theorem sc_are_steps : FnScope N_are_steps ["steps", "rain", "sun"] (defScope s_are_steps) := ⟨rfl, rfl, rfl, by decide +kernel, rfl, by decide +kernel, by decide +kernel⟩
theorem ok_are_steps (T : Txt K mg A) (U : Fns K A) : Ok P w K mg base 1 A.f_are_steps ["steps", "rain", "sun"] (sp_are_steps A K) := by
  obtain ⟨fd, F⟩ := U.f_are_steps
  have SC := sc_are_steps
  refine ⟨fd, F.ok SC (fun vs H Q E h => len_are_steps h) (fun cdv A0 outer s H vs Q E hr h => ⟨t_are_steps A K, ?_, pure_are_steps T vs H Q E h⟩), F.binds (fun _ _ _ _ _ _ us hl => match us, hl with | [_, _, _], _ => rfl)⟩
  exact pss_one (ps_ret (pe_and (pe_chain op_le op_le (pe_int) (pv 0) (pe_globI rfl T.g.c_MOST_STEPS)) (pe_and (pe_chain op_le op_le (pe_int) (pv 1) (pe_globI rfl T.g.c_MOST_RAIN)) (pe_one (pe_chain op_le op_le (pe_int) (pv 2) (pe_globI rfl T.g.c_MOST_RAIN))))))
theorem sc_Polder_run : FnScope N_Polder_run ["self", "steps", "rain", "sun"] (defScope s_Polder_run) := ⟨rfl, rfl, rfl, by decide +kernel, rfl, by decide +kernel, by decide +kernel⟩
theorem ok_Polder_run (T : Txt K mg A) (U : Fns K A) : Ok P w K mg base 6 A.f_Polder_run ["self", "steps", "rain", "sun"] (sp_Polder_run A K) := by
  obtain ⟨fd, F⟩ := U.f_Polder_run
  have O_are_steps : Ok P w K mg base 1 A.f_are_steps ["steps", "rain", "sun"] (sp_are_steps A K) := ok_are_steps T U
  have O_Polder_step : Ok P w K mg base 5 A.f_Polder_step ["self", "rain", "sun"] (sp_Polder_step A K) := ok_Polder_step T U
  have O_Section_level : Ok P w K mg base 1 A.f_Section_level ["self"] (sp_Section_level A K) := ok_Section_level T U
  have SC := sc_Polder_run
  refine ⟨fd, F.ok SC (fun vs H Q E h => len_Polder_run h) (fun cdv A0 outer s H vs Q E hr h => ⟨t_Polder_run A K, ?_, pure_Polder_run T vs H Q E h⟩), F.binds (fun _ _ _ _ _ _ us hl => match us, hl with | [_, _, _, _], _ => rfl)⟩
  exact pss_cons (ps_if (pt_not (pt_val (pe_callO (O_are_steps) (hr.mono (by decide)) rfl T.g.m_are_steps T.g.k_are_steps (pa_cons (pv 1) (pa_cons (pv 2) (pa_cons (pv 3) (pa_nil))))))) (pss_one (ps_ret (pe_lst (pa_cons (pe_un un_neg (pe_int)) (pa_nil))))) (pss_nil))
    (pss_cons (ps_for PassesOwn.never rfl (pi_range1 rfl T.g.b_range (pa_cons (pv 1) (pa_nil))) (pg_name (i := 4) SC.nd rfl (Or.inl rfl)) (pss_one (ps_expr (pe_methO (pv 0) T.Polder.cl T.Polder.m_step (O_Polder_step) (hr.mono (by decide)) (pa_cons (pv 2) (pa_cons (pv 3) (pa_nil)))))))
    (pss_one (ps_ret (pe_op op_cat (pe_lst (pa_cons (pe_fld (pv 0) rfl) (pa_nil))) (pe_lc (own := [("section", 5)]) (g := gName 5) (tt := tYes) (te := tMeth A.c_Section "level" (sp_Section_level A K) [] E0 (tVar 5) tNil) rfl SC.nd (pi_list (pe_fld (pv 0) rfl)) (blkOk_by (own := [("section", 5)]) (N := N_Polder_run) (sc := defScope s_Polder_run) (by decide +kernel)) (fun _ _ _ _ _ => pg_name (i := 5) SC.nd rfl (Or.inl rfl)) (fun _ _ _ _ _ => pts_nil) (fun _ _ _ _ _ => pe_methO0 (pv 5) T.Section.cl T.Section.m_level (O_Section_level) (hr.mono (by decide))))))))
theorem sc_Polder_tell_levels : FnScope N_Polder_tell_levels ["self"] (defScope s_Polder_tell_levels) := ⟨rfl, rfl, rfl, by decide +kernel, rfl, by decide +kernel, by decide +kernel⟩
theorem ok_Polder_tell_levels (T : Txt K mg A) (U : Fns K A) : Ok P w K mg base 2 A.f_Polder_tell_levels ["self"] (sp_Polder_tell_levels A K) := by
  obtain ⟨fd, F⟩ := U.f_Polder_tell_levels
  have O_Section_level : Ok P w K mg base 1 A.f_Section_level ["self"] (sp_Section_level A K) := ok_Section_level T U
  have SC := sc_Polder_tell_levels
  refine ⟨fd, F.ok SC (fun vs H Q E h => len_Polder_tell_levels h) (fun cdv A0 outer s H vs Q E hr h => ⟨t_Polder_tell_levels A K, ?_, pure_Polder_tell_levels T vs H Q E h⟩), F.binds (fun _ _ _ _ _ _ us hl => match us, hl with | [_], _ => rfl)⟩
  exact pss_cons (ps_set (i := 1) SC.nd rfl (Or.inl rfl) (pe_lst (pa_cons (pe_callB call_len_seq rfl T.g.b_len boot_len (pa_cons (pe_fld (pv 0) rfl) (pa_nil))) (pa_nil))))
    (pss_cons (ps_for PassesOwn.never rfl (pi_list (pe_fld (pv 0) rfl)) (pg_name (i := 2) SC.nd rfl (Or.inl rfl)) (pss_one (ps_expr (pe_bm PySem.F.plainAttrs_list PySem.F.slot_list_extend PySem.F.type_list_extend mt_extend (pv 1) (pa_cons (pe_lst (pa_cons (pe_methO0 (pv 2) T.Section.cl T.Section.m_level (O_Section_level) (hr.mono (by decide))) (pa_cons (pe_fld (pv 2) rfl) (pa_cons (pe_fld (pv 2) rfl) (pa_nil))))) (pa_nil))))))
    (pss_one (ps_ret (pv 1))))
theorem sc_Polder_tell_device : FnScope N_Polder_tell_device ["self", "number"] (defScope s_Polder_tell_device) := ⟨rfl, rfl, rfl, by decide +kernel, rfl, by decide +kernel, by decide +kernel⟩
theorem ok_Polder_tell_device (T : Txt K mg A) (U : Fns K A) : Ok P w K mg base 4 A.f_Polder_tell_device ["self", "number"] (sp_Polder_tell_device A K) := by
  obtain ⟨fd, F⟩ := U.f_Polder_tell_device
  have O_Polder_would_move : Ok P w K mg base 3 A.f_Polder_would_move ["self", "device"] (sp_Polder_would_move A K) := ok_Polder_would_move T U
  have SC := sc_Polder_tell_device
  refine ⟨fd, F.ok SC (fun vs H Q E h => len_Polder_tell_device h) (fun cdv A0 outer s H vs Q E hr h => ⟨t_Polder_tell_device A K, ?_, pure_Polder_tell_device T vs H Q E h⟩), F.binds (fun _ _ _ _ _ _ us hl => match us, hl with | [_, _], _ => rfl)⟩
  exact pss_cons (ps_if (PW.pt (pw_or (pt_cmpR op_lt (pv 1) (pe_int) (nomark _)) (pw_or1 (pt_cmpR op_ge (pv 1) (pe_callB call_len_seq rfl T.g.b_len boot_len (pa_cons (pe_fld (pv 0) rfl) (pa_nil))) (nomark _))))) (pss_one (ps_ret (pe_lst (pa_cons (pe_un un_neg (pe_int)) (pa_nil))))) (pss_nil))
    (pss_cons (ps_set (i := 2) SC.nd rfl (Or.inl rfl) (pe_ix ix_list (pe_fld (pv 0) rfl) (pv 1) (fun _ _ => rfl)))
    (pss_cons (ps_set (i := 3) SC.nd rfl (Or.inl rfl) (pe_ifExp (pt_val (pe_fld (pv 2) rfl)) (pe_int) (pe_int)))
    (pss_one (ps_ret (pe_lst (pa_cons (pe_fld (pv 2) rfl) (pa_cons (pv 3) (pa_cons (pe_fld (pv 2) rfl) (pa_cons (pe_fld (pv 2) rfl) (pa_cons (pe_methO (pv 0) T.Polder.cl T.Polder.m_would_move (O_Polder_would_move) (hr.mono (by decide)) (pa_cons (pv 2) (pa_nil))) (pa_nil)))))))))))
theorem sc_Polder_tell_sums : FnScope N_Polder_tell_sums ["self"] (defScope s_Polder_tell_sums) := ⟨rfl, rfl, rfl, by decide +kernel, rfl, by decide +kernel, by decide +kernel⟩
theorem ok_Polder_tell_sums (T : Txt K mg A) (U : Fns K A) : Ok P w K mg base 2 A.f_Polder_tell_sums ["self"] (sp_Polder_tell_sums A K) := by
  obtain ⟨fd, F⟩ := U.f_Polder_tell_sums
  have O_Polder_sea : Ok P w K mg base 1 A.f_Polder_sea ["self"] (sp_Polder_sea A K) := ok_Polder_sea T U
  have SC := sc_Polder_tell_sums
  refine ⟨fd, F.ok SC (fun vs H Q E h => len_Polder_tell_sums h) (fun cdv A0 outer s H vs Q E hr h => ⟨t_Polder_tell_sums A K, ?_, pure_Polder_tell_sums T vs H Q E h⟩), F.binds (fun _ _ _ _ _ _ us hl => match us, hl with | [_], _ => rfl)⟩
  exact pss_cons (ps_set (i := 1) SC.nd rfl (Or.inl rfl) (pe_callB (cr_sum rfl) rfl T.g.b_sum boot_sum (pa_cons (pe_lc (own := [("section", 2)]) (g := gName 2) (tt := tYes) (te := tFld K (tVar 2) "water") rfl SC.nd (pi_list (pe_fld (pv 0) rfl)) (blkOk_by (own := [("section", 2)]) (N := N_Polder_tell_sums) (sc := defScope s_Polder_tell_sums) (by decide +kernel)) (fun _ _ _ _ _ => pg_name (i := 2) SC.nd rfl (Or.inl rfl)) (fun _ _ _ _ _ => pts_nil) (fun _ _ _ _ _ => pe_fld (pv 2) rfl)) (pa_nil))))
    (pss_one (ps_ret (pe_lst (pa_cons (pv 1) (pa_cons (pe_fld (pv 0) rfl) (pa_cons (pe_fld (pv 0) rfl) (pa_cons (pe_fld (pv 0) rfl) (pa_cons (pe_fld (pv 0) rfl) (pa_cons (pe_methO0 (pv 0) T.Polder.cl T.Polder.m_sea (O_Polder_sea) (hr.mono (by decide))) (pa_nil))))))))))
theorem sc_Polder_answer : FnScope N_Polder_answer ["self", "number", "numbers"] (defScope s_Polder_answer) := ⟨rfl, rfl, rfl, by decide +kernel, rfl, by decide +kernel, by decide +kernel⟩
theorem ok_Polder_answer (T : Txt K mg A) (U : Fns K A) : Ok P w K mg base 7 A.f_Polder_answer ["self", "number", "numbers"] (sp_Polder_answer A K) := by
  obtain ⟨fd, F⟩ := U.f_Polder_answer
  have O_Polder_add_section : Ok P w K mg base 3 A.f_Polder_add_section ["self", "area", "level", "alarm"] (sp_Polder_add_section A K) := ok_Polder_add_section T U
  have O_Polder_add_weir : Ok P w K mg base 3 A.f_Polder_add_weir ["self", "section", "target", "crest", "width"] (sp_Polder_add_weir A K) := ok_Polder_add_weir T U
  have O_Polder_add_pump : Ok P w K mg base 3 A.f_Polder_add_pump ["self", "section", "target", "capacity", "start", "stop"] (sp_Polder_add_pump A K) := ok_Polder_add_pump T U
  have O_Polder_add_sluice : Ok P w K mg base 3 A.f_Polder_add_sluice ["self", "section", "sill", "width"] (sp_Polder_add_sluice A K) := ok_Polder_add_sluice T U
  have O_Polder_add_inlet : Ok P w K mg base 3 A.f_Polder_add_inlet ["self", "section", "capacity", "level"] (sp_Polder_add_inlet A K) := ok_Polder_add_inlet T U
  have O_Polder_set_device : Ok P w K mg base 2 A.f_Polder_set_device ["self", "number", "level", "amount"] (sp_Polder_set_device A K) := ok_Polder_set_device T U
  have O_Polder_run : Ok P w K mg base 6 A.f_Polder_run ["self", "steps", "rain", "sun"] (sp_Polder_run A K) := ok_Polder_run T U
  have O_Polder_tell_levels : Ok P w K mg base 2 A.f_Polder_tell_levels ["self"] (sp_Polder_tell_levels A K) := ok_Polder_tell_levels T U
  have O_Polder_tell_device : Ok P w K mg base 4 A.f_Polder_tell_device ["self", "number"] (sp_Polder_tell_device A K) := ok_Polder_tell_device T U
  have O_Polder_tell_sums : Ok P w K mg base 2 A.f_Polder_tell_sums ["self"] (sp_Polder_tell_sums A K) := ok_Polder_tell_sums T U
  have SC := sc_Polder_answer
  refine ⟨fd, F.ok SC (fun vs H Q E h => len_Polder_answer h) (fun cdv A0 outer s H vs Q E hr h => ⟨t_Polder_answer A K, ?_, pure_Polder_answer T vs H Q E h⟩), F.binds (fun _ _ _ _ _ _ us hl => match us, hl with | [_, _, _], _ => rfl)⟩
  exact pss_cons (ps_if (pt_cmpR op_eq (pv 1) (pe_int) (nomark _)) (pss_one (ps_ret (pe_methO (pv 0) T.Polder.cl T.Polder.m_add_section (O_Polder_add_section) (hr.mono (by decide)) (pa_cons (pe_ix ix_list (pv 2) (pe_int) (fun _ _ => rfl)) (pa_cons (pe_ix ix_list (pv 2) (pe_int) (fun _ _ => rfl)) (pa_cons (pe_ix ix_list (pv 2) (pe_int) (fun _ _ => rfl)) (pa_nil))))))) (pss_nil))
    (pss_cons (ps_if (pt_cmpR op_eq (pv 1) (pe_int) (nomark _)) (pss_one (ps_ret (pe_methO (pv 0) T.Polder.cl T.Polder.m_add_weir (O_Polder_add_weir) (hr.mono (by decide)) (pa_cons (pe_ix ix_list (pv 2) (pe_int) (fun _ _ => rfl)) (pa_cons (pe_ix ix_list (pv 2) (pe_int) (fun _ _ => rfl)) (pa_cons (pe_ix ix_list (pv 2) (pe_int) (fun _ _ => rfl)) (pa_cons (pe_ix ix_list (pv 2) (pe_int) (fun _ _ => rfl)) (pa_nil)))))))) (pss_nil))
    (pss_cons (ps_if (pt_cmpR op_eq (pv 1) (pe_int) (nomark _)) (pss_one (ps_ret (pe_methO (pv 0) T.Polder.cl T.Polder.m_add_pump (O_Polder_add_pump) (hr.mono (by decide)) (pa_cons (pe_ix ix_list (pv 2) (pe_int) (fun _ _ => rfl)) (pa_cons (pe_ix ix_list (pv 2) (pe_int) (fun _ _ => rfl)) (pa_cons (pe_ix ix_list (pv 2) (pe_int) (fun _ _ => rfl)) (pa_cons (pe_ix ix_list (pv 2) (pe_int) (fun _ _ => rfl)) (pa_cons (pe_ix ix_list (pv 2) (pe_int) (fun _ _ => rfl)) (pa_nil))))))))) (pss_nil))
    (pss_cons (ps_if (pt_cmpR op_eq (pv 1) (pe_int) (nomark _)) (pss_one (ps_ret (pe_methO (pv 0) T.Polder.cl T.Polder.m_add_sluice (O_Polder_add_sluice) (hr.mono (by decide)) (pa_cons (pe_ix ix_list (pv 2) (pe_int) (fun _ _ => rfl)) (pa_cons (pe_ix ix_list (pv 2) (pe_int) (fun _ _ => rfl)) (pa_cons (pe_ix ix_list (pv 2) (pe_int) (fun _ _ => rfl)) (pa_nil))))))) (pss_nil))
    (pss_cons (ps_if (pt_cmpR op_eq (pv 1) (pe_int) (nomark _)) (pss_one (ps_ret (pe_methO (pv 0) T.Polder.cl T.Polder.m_add_inlet (O_Polder_add_inlet) (hr.mono (by decide)) (pa_cons (pe_ix ix_list (pv 2) (pe_int) (fun _ _ => rfl)) (pa_cons (pe_ix ix_list (pv 2) (pe_int) (fun _ _ => rfl)) (pa_cons (pe_ix ix_list (pv 2) (pe_int) (fun _ _ => rfl)) (pa_nil))))))) (pss_nil))
    (pss_cons (ps_if (pt_cmpR op_eq (pv 1) (pe_int) (nomark _)) (pss_one (ps_ret (pe_methO (pv 0) T.Polder.cl T.Polder.m_set_device (O_Polder_set_device) (hr.mono (by decide)) (pa_cons (pe_ix ix_list (pv 2) (pe_int) (fun _ _ => rfl)) (pa_cons (pe_ix ix_list (pv 2) (pe_int) (fun _ _ => rfl)) (pa_cons (pe_ix ix_list (pv 2) (pe_int) (fun _ _ => rfl)) (pa_nil))))))) (pss_nil))
    (pss_cons (ps_if (pt_cmpR op_eq (pv 1) (pe_int) (nomark _)) (pss_one (ps_ret (pe_methO (pv 0) T.Polder.cl T.Polder.m_run (O_Polder_run) (hr.mono (by decide)) (pa_cons (pe_ix ix_list (pv 2) (pe_int) (fun _ _ => rfl)) (pa_cons (pe_ix ix_list (pv 2) (pe_int) (fun _ _ => rfl)) (pa_cons (pe_ix ix_list (pv 2) (pe_int) (fun _ _ => rfl)) (pa_nil))))))) (pss_nil))
    (pss_cons (ps_if (pt_cmpR op_eq (pv 1) (pe_int) (nomark _)) (pss_one (ps_ret (pe_methO0 (pv 0) T.Polder.cl T.Polder.m_tell_levels (O_Polder_tell_levels) (hr.mono (by decide))))) (pss_nil))
    (pss_cons (ps_if (pt_cmpR op_eq (pv 1) (pe_int) (nomark _)) (pss_one (ps_ret (pe_methO (pv 0) T.Polder.cl T.Polder.m_tell_device (O_Polder_tell_device) (hr.mono (by decide)) (pa_cons (pe_ix ix_list (pv 2) (pe_int) (fun _ _ => rfl)) (pa_nil))))) (pss_nil))
    (pss_one (ps_ret (pe_methO0 (pv 0) T.Polder.cl T.Polder.m_tell_sums (O_Polder_tell_sums) (hr.mono (by decide)))))))))))))
theorem sc_Square___init__ : FnScope N_Square___init__ ["self", "section", "height"] (defScope s_Square___init__) := ⟨rfl, rfl, rfl, by decide +kernel, rfl, by decide +kernel, by decide +kernel⟩
theorem ok_Square___init__ (T : Txt K mg A) (U : Fns K A) : Ok P w K mg base 1 A.f_Square___init__ ["self", "section", "height"] (sp_Square___init__ A K) := by
  obtain ⟨fd, F⟩ := U.f_Square___init__
  have SC := sc_Square___init__
  refine ⟨fd, F.ok SC (fun vs H Q E h => len_Square___init__ h) (fun cdv A0 outer s H vs Q E hr h => ⟨t_Square___init__ A K, ?_, pure_Square___init__ T vs H Q E h⟩), F.binds (fun _ _ _ _ _ _ us hl => match us, hl with | [_, _, _], _ => rfl)⟩
  exact pss_cons (ps_fld (pv 0) (pv 1) rfl)
    (pss_cons (ps_fld (pv 0) (pv 2) rfl)
    (pss_cons (ps_fld (pv 0) (pe_int) rfl)
    (pss_one (ps_fld (pv 0) (pe_int) rfl))))
theorem sc_Land___init__ : FnScope N_Land___init__ ["self"] (defScope s_Land___init__) := ⟨rfl, rfl, rfl, by decide +kernel, rfl, by decide +kernel, by decide +kernel⟩
theorem ok_Land___init__ (T : Txt K mg A) (U : Fns K A) : Ok P w K mg base 5 A.f_Land___init__ ["self"] (sp_Land___init__ A K) := by
  obtain ⟨fd, F⟩ := U.f_Land___init__
  have O_Polder___init__ : Ok P w K mg base 1 A.f_Polder___init__ ["self", "tide"] (sp_Polder___init__ A K) := ok_Polder___init__ T U
  have O_Plot___init__ : Ok P w K mg base 3 A.f_Plot___init__ ["self", "across", "squares"] (sp_Plot___init__ A K) := ok_Plot___init__ T U
  have SC := sc_Land___init__
  refine ⟨fd, F.ok SC (fun vs H Q E h => len_Land___init__ h) (fun cdv A0 outer s H vs Q E hr h => ⟨t_Land___init__ A K, ?_, pure_Land___init__ T vs H Q E h⟩), F.binds (fun _ _ _ _ _ _ us hl => match us, hl with | [_], _ => rfl)⟩
  exact pss_cons (ps_fld (pv 0) (pe_makeO T.Polder.made (O_Polder___init__) (hr.mono (by decide)) rfl T.Polder.mg (pa_cons (pe_lst (pa_nil)) (pa_nil))) rfl)
    (pss_cons (ps_fld (pv 0) (pe_makeO T.Plot.made (O_Plot___init__) (hr.mono (by decide)) rfl T.Plot.mg (pa_cons (pe_int) (pa_cons (pe_lst (pa_nil)) (pa_nil)))) rfl)
    (pss_cons (ps_fld (pv 0) (pe_non) rfl)
    (pss_one (ps_fld (pv 0) (pe_int) rfl))))
theorem sc_polder_form : FnScope N_polder_form ["number"] (defScope s_polder_form) := ⟨rfl, rfl, rfl, by decide +kernel, rfl, by decide +kernel, by decide +kernel⟩
theorem ok_polder_form (T : Txt K mg A) (U : Fns K A) : Ok P w K mg base 1 A.f_polder_form ["number"] (sp_polder_form A K) := by
  obtain ⟨fd, F⟩ := U.f_polder_form
  have SC := sc_polder_form
  refine ⟨fd, F.ok SC (fun vs H Q E h => len_polder_form h) (fun cdv A0 outer s H vs Q E hr h => ⟨t_polder_form A K, ?_, pure_polder_form T vs H Q E h⟩), F.binds (fun _ _ _ _ _ _ us hl => match us, hl with | [_], _ => rfl)⟩
  exact pss_cons (ps_if (pt_cmpR op_eq (pv 0) (pe_int) (nomark _)) (pss_one (ps_ret (pe_tup (pa_cons (pe_int) (pa_cons (pe_int) (pa_nil)))))) (pss_nil))
    (pss_cons (ps_if (pt_cmpR op_in_seq (pv 0) (pe_tup (pa_cons (pe_int) (pa_cons (pe_int) (pa_cons (pe_int) (pa_cons (pe_int) (pa_cons (pe_int) (pa_nil))))))) (by rfl)) (pss_one (ps_ret (pe_tup (pa_cons (pe_int) (pa_cons (pe_int) (pa_nil)))))) (pss_nil))
    (pss_cons (ps_if (pt_cmpR op_eq (pv 0) (pe_int) (nomark _)) (pss_one (ps_ret (pe_tup (pa_cons (pe_int) (pa_cons (pe_int) (pa_nil)))))) (pss_nil))
    (pss_cons (ps_if (pt_cmpR op_eq (pv 0) (pe_int) (nomark _)) (pss_one (ps_ret (pe_tup (pa_cons (pe_int) (pa_cons (pe_int) (pa_nil)))))) (pss_nil))
    (pss_cons (ps_if (pt_cmpR op_eq (pv 0) (pe_int) (nomark _)) (pss_one (ps_ret (pe_tup (pa_cons (pe_int) (pa_cons (pe_int) (pa_nil)))))) (pss_nil))
    (pss_one (ps_ret (pe_ifExp (pt_cmpR op_in_seq (pv 0) (pe_tup (pa_cons (pe_int) (pa_cons (pe_int) (pa_nil)))) (by rfl)) (pe_tup (pa_cons (pe_int) (pa_cons (pe_int) (pa_nil)))) (pe_non))))))))
theorem sc_is_call : FnScope N_is_call ["form", "fields"] (defScope s_is_call) := ⟨rfl, rfl, rfl, by decide +kernel, rfl, by decide +kernel, by decide +kernel⟩
theorem ok_is_call (T : Txt K mg A) (U : Fns K A) : Ok P w K mg base 1 A.f_is_call ["form", "fields"] (sp_is_call A K) := by
  obtain ⟨fd, F⟩ := U.f_is_call
  have SC := sc_is_call
  refine ⟨fd, F.ok SC (fun vs H Q E h => len_is_call h) (fun cdv A0 outer s H vs Q E hr h => ⟨t_is_call A K, ?_, pure_is_call T vs H Q E h⟩), F.binds (fun _ _ _ _ _ _ us hl => match us, hl with | [_, _], _ => rfl)⟩
  exact pss_one (ps_ret (pe_and (pe_cmpR op_notN (pv 0) (pe_non) (nomark _)) (pe_and (pe_cmpR op_eq (pe_ix ix_tup (pv 0) (pe_int) (fun _ _ => rfl)) (pe_op op_sub (pe_callB call_len_seq rfl T.g.b_len boot_len (pa_cons (pe_ix ix_list (pv 1) (pe_int) (fun _ _ => rfl)) (pa_nil))) (pe_int)) (nomark _)) (pe_one (pe_cmpR op_eq (pe_ix ix_tup (pv 0) (pe_int) (fun _ _ => rfl)) (pe_op op_sub (pe_callB call_len_seq rfl T.g.b_len boot_len (pa_cons (pv 1) (pa_nil))) (pe_int)) (nomark _))))))
theorem sc_is_tide : FnScope N_is_tide ["tide"] (defScope s_is_tide) := ⟨rfl, rfl, rfl, by decide +kernel, rfl, by decide +kernel, by decide +kernel⟩
theorem ok_is_tide (T : Txt K mg A) (U : Fns K A) : Ok P w K mg base 2 A.f_is_tide ["tide"] (sp_is_tide A K) := by
  obtain ⟨fd, F⟩ := U.f_is_tide
  have O_is_level : Ok P w K mg base 1 A.f_is_level ["number"] (sp_is_level A K) := ok_is_level T U
  have SC := sc_is_tide
  refine ⟨fd, F.ok SC (fun vs H Q E h => len_is_tide h) (fun cdv A0 outer s H vs Q E hr h => ⟨t_is_tide A K, ?_, pure_is_tide T vs H Q E h⟩), F.binds (fun _ _ _ _ _ _ us hl => match us, hl with | [_], _ => rfl)⟩
  exact pss_cons (ps_for PassesOwn.never rfl (pi_list (pv 0)) (pg_name (i := 1) SC.nd rfl (Or.inl rfl)) (pss_one (ps_if (pt_not (pt_val (pe_callO (O_is_level) (hr.mono (by decide)) rfl T.g.m_is_level T.g.k_is_level (pa_cons (pv 1) (pa_nil))))) (pss_one (ps_ret (pe_bl))) (pss_nil))))
    (pss_one (ps_ret (pe_cmpR op_le (pe_callB call_len_seq rfl T.g.b_len boot_len (pa_cons (pv 0) (pa_nil))) (pe_globI rfl T.g.c_MOST_TIDE) (nomark _))))
theorem sc_Land_water_call : FnScope N_Land_water_call ["self", "fields"] (defScope s_Land_water_call) := ⟨rfl, rfl, rfl, by decide +kernel, rfl, by decide +kernel, by decide +kernel⟩
theorem ok_Land_water_call (T : Txt K mg A) (U : Fns K A) : Ok P w K mg base 8 A.f_Land_water_call ["self", "fields"] (sp_Land_water_call A K) := by
  obtain ⟨fd, F⟩ := U.f_Land_water_call
  have O_polder_form : Ok P w K mg base 1 A.f_polder_form ["number"] (sp_polder_form A K) := ok_polder_form T U
  have O_is_call : Ok P w K mg base 1 A.f_is_call ["form", "fields"] (sp_is_call A K) := ok_is_call T U
  have O_is_tide : Ok P w K mg base 2 A.f_is_tide ["tide"] (sp_is_tide A K) := ok_is_tide T U
  have O_Polder___init__ : Ok P w K mg base 1 A.f_Polder___init__ ["self", "tide"] (sp_Polder___init__ A K) := ok_Polder___init__ T U
  have O_Polder_answer : Ok P w K mg base 7 A.f_Polder_answer ["self", "number", "numbers"] (sp_Polder_answer A K) := ok_Polder_answer T U
  have SC := sc_Land_water_call
  refine ⟨fd, F.ok SC (fun vs H Q E h => len_Land_water_call h) (fun cdv A0 outer s H vs Q E hr h => ⟨t_Land_water_call A K, ?_, pure_Land_water_call T vs H Q E h⟩), F.binds (fun _ _ _ _ _ _ us hl => match us, hl with | [_, _], _ => rfl)⟩
  exact pss_cons (ps_if (PW.pt (pw_or (pt_cmpR op_eq (pe_callB call_len_seq rfl T.g.b_len boot_len (pa_cons (pe_ix ix_list (pv 1) (pe_int) (fun _ _ => rfl)) (pa_nil))) (pe_int) (nomark _)) (pw_or1 (pt_not (pt_val (pe_callO (O_is_call) (hr.mono (by decide)) rfl T.g.m_is_call T.g.k_is_call (pa_cons (pe_callO (O_polder_form) (hr.mono (by decide)) rfl T.g.m_polder_form T.g.k_polder_form (pa_cons (pe_ix ix_list (pe_ix ix_list (pv 1) (pe_int) (fun _ _ => rfl)) (pe_int) (fun _ _ => rfl)) (pa_nil))) (pa_cons (pv 1) (pa_nil))))))))) (pss_one (ps_ret (pe_lst (pa_cons (pe_un un_neg (pe_int)) (pa_nil))))) (pss_nil))
    (pss_cons (ps_set (i := 2) SC.nd rfl (Or.inl rfl) (pe_ix ix_list (pe_ix ix_list (pv 1) (pe_int) (fun _ _ => rfl)) (pe_int) (fun _ _ => rfl)))
    (pss_cons (ps_if (PW.pt (pw_and (pt_cmpR op_notN (pe_fld (pv 0) rfl) (pe_non) (nomark _)) (pw_and1 (pt_cmpR op_in_seq (pv 2) (pe_tup (pa_cons (pe_int) (pa_cons (pe_int) (pa_cons (pe_int) (pa_nil))))) (by rfl))))) (pss_one (ps_ret (pe_lst (pa_cons (pe_un un_neg (pe_int)) (pa_nil))))) (pss_nil))
    (pss_cons (ps_if (pt_cmpR op_eq (pv 2) (pe_int) (nomark _)) (pss_cons (ps_if (pt_not (pt_val (pe_callO (O_is_tide) (hr.mono (by decide)) rfl T.g.m_is_tide T.g.k_is_tide (pa_cons (pe_ix ix_list (pv 1) (pe_int) (fun _ _ => rfl)) (pa_nil))))) (pss_one (ps_ret (pe_lst (pa_cons (pe_un un_neg (pe_int)) (pa_nil))))) (pss_nil))
    (pss_cons (ps_fld (pv 0) (pe_makeO T.Polder.made (O_Polder___init__) (hr.mono (by decide)) rfl T.Polder.mg (pa_cons (pe_callTy call_list_of rfl T.g.b_list boot_list (pa_cons (pe_ix ix_list (pv 1) (pe_int) (fun _ _ => rfl)) (pa_nil))) (pa_nil))) rfl)
    (pss_one (ps_ret (pe_lst (pa_cons (pe_int) (pa_nil))))))) (pss_nil))
    (pss_one (ps_ret (pe_methO (pe_fld (pv 0) rfl) T.Polder.cl T.Polder.m_answer (O_Polder_answer) (hr.mono (by decide)) (pa_cons (pv 2) (pa_cons (pe_slice sl_list (pe_ix ix_list (pv 1) (pe_int) (fun _ _ => rfl)) (po_some (pe_int)) (po_none)) (pa_nil)))))))))
theorem sc_plot_form : FnScope N_plot_form ["number"] (defScope s_plot_form) := ⟨rfl, rfl, rfl, by decide +kernel, rfl, by decide +kernel, by decide +kernel⟩
theorem ok_plot_form (T : Txt K mg A) (U : Fns K A) : Ok P w K mg base 1 A.f_plot_form ["number"] (sp_plot_form A K) := by
  obtain ⟨fd, F⟩ := U.f_plot_form
  have SC := sc_plot_form
  refine ⟨fd, F.ok SC (fun vs H Q E h => len_plot_form h) (fun cdv A0 outer s H vs Q E hr h => ⟨t_plot_form A K, ?_, pure_plot_form T vs H Q E h⟩), F.binds (fun _ _ _ _ _ _ us hl => match us, hl with | [_], _ => rfl)⟩
  exact pss_cons (ps_if (pt_cmpR op_eq (pv 0) (pe_int) (nomark _)) (pss_one (ps_ret (pe_tup (pa_cons (pe_int) (pa_cons (pe_int) (pa_nil)))))) (pss_nil))
    (pss_cons (ps_if (pt_cmpR op_eq (pv 0) (pe_int) (nomark _)) (pss_one (ps_ret (pe_tup (pa_cons (pe_int) (pa_cons (pe_int) (pa_nil)))))) (pss_nil))
    (pss_cons (ps_if (pt_cmpR op_eq (pv 0) (pe_int) (nomark _)) (pss_one (ps_ret (pe_tup (pa_cons (pe_int) (pa_cons (pe_int) (pa_nil)))))) (pss_nil))
    (pss_cons (ps_if (pt_cmpR op_in_seq (pv 0) (pe_tup (pa_cons (pe_int) (pa_cons (pe_int) (pa_nil)))) (by rfl)) (pss_one (ps_ret (pe_tup (pa_cons (pe_int) (pa_cons (pe_int) (pa_nil)))))) (pss_nil))
    (pss_one (ps_ret (pe_ifExp (pt_cmpR op_in_seq (pv 0) (pe_tup (pa_cons (pe_int) (pa_cons (pe_int) (pa_cons (pe_int) (pa_cons (pe_int) (pa_cons (pe_int) (pa_nil))))))) (by rfl)) (pe_tup (pa_cons (pe_int) (pa_cons (pe_int) (pa_nil)))) (pe_non)))))))
theorem sc_is_ground : FnScope N_is_ground ["across", "squares"] (defScope s_is_ground) := ⟨rfl, rfl, rfl, by decide +kernel, rfl, by decide +kernel, by decide +kernel⟩
theorem ok_is_ground (T : Txt K mg A) (U : Fns K A) : Ok P w K mg base 1 A.f_is_ground ["across", "squares"] (sp_is_ground A K) := by
  obtain ⟨fd, F⟩ := U.f_is_ground
  have SC := sc_is_ground
  refine ⟨fd, F.ok SC (fun vs H Q E h => len_is_ground h) (fun cdv A0 outer s H vs Q E hr h => ⟨t_is_ground A K, ?_, pure_is_ground T vs H Q E h⟩), F.binds (fun _ _ _ _ _ _ us hl => match us, hl with | [_, _], _ => rfl)⟩
  exact pss_cons (ps_if (PW.pt (pw_or (pt_cmpR op_lt (pv 0) (pe_int) (nomark _)) (pw_or (pt_cmpR op_gt (pv 0) (pe_globI rfl T.g.c_MOST_ACROSS) (nomark _)) (pw_or1 (pt_cmpR op_ne (pe_op op_mod (pe_callB call_len_seq rfl T.g.b_len boot_len (pa_cons (pv 1) (pa_nil))) (pv 0)) (pe_int) (nomark _)))))) (pss_one (ps_ret (pe_bl))) (pss_nil))
    (pss_cons (ps_for PassesOwn.never rfl (pi_list (pv 1)) (pg_name (i := 2) SC.nd rfl (Or.inl rfl)) (pss_one (ps_if (pt_cmpR op_notIn_seq (pv 2) (pe_tup (pa_cons (pe_globI rfl T.g.c_OTHERS) (pa_cons (pe_globI rfl T.g.c_OWN) (pa_cons (pe_globI rfl T.g.c_STREET) (pa_nil))))) (by rfl)) (pss_one (ps_ret (pe_bl))) (pss_nil))))
    (pss_one (ps_ret (pe_chain op_le op_le (pe_int) (pe_op op_fdiv (pe_callB call_len_seq rfl T.g.b_len boot_len (pa_cons (pv 1) (pa_nil))) (pv 0)) (pe_globI rfl T.g.c_MOST_ACROSS)))))
theorem sc_Land_plot_call : FnScope N_Land_plot_call ["self", "fields"] (defScope s_Land_plot_call) := ⟨rfl, rfl, rfl, by decide +kernel, rfl, by decide +kernel, by decide +kernel⟩
theorem ok_Land_plot_call (T : Txt K mg A) (U : Fns K A) : Ok P w K mg base 10 A.f_Land_plot_call ["self", "fields"] (sp_Land_plot_call A K) := by
  obtain ⟨fd, F⟩ := U.f_Land_plot_call
  have O_plot_form : Ok P w K mg base 1 A.f_plot_form ["number"] (sp_plot_form A K) := ok_plot_form T U
  have O_is_call : Ok P w K mg base 1 A.f_is_call ["form", "fields"] (sp_is_call A K) := ok_is_call T U
  have O_is_ground : Ok P w K mg base 1 A.f_is_ground ["across", "squares"] (sp_is_ground A K) := ok_is_ground T U
  have O_Plot___init__ : Ok P w K mg base 3 A.f_Plot___init__ ["self", "across", "squares"] (sp_Plot___init__ A K) := ok_Plot___init__ T U
  have O_Plot_answer : Ok P w K mg base 9 A.f_Plot_answer ["self", "number", "numbers", "squares"] (sp_Plot_answer A K) := ok_Plot_answer T U
  have SC := sc_Land_plot_call
  refine ⟨fd, F.ok SC (fun vs H Q E h => len_Land_plot_call h) (fun cdv A0 outer s H vs Q E hr h => ⟨t_Land_plot_call A K, ?_, pure_Land_plot_call T vs H Q E h⟩), F.binds (fun _ _ _ _ _ _ us hl => match us, hl with | [_, _], _ => rfl)⟩
  exact pss_cons (ps_if (PW.pt (pw_or (pt_cmpR op_eq (pe_callB call_len_seq rfl T.g.b_len boot_len (pa_cons (pe_ix ix_list (pv 1) (pe_int) (fun _ _ => rfl)) (pa_nil))) (pe_int) (nomark _)) (pw_or1 (pt_not (pt_val (pe_callO (O_is_call) (hr.mono (by decide)) rfl T.g.m_is_call T.g.k_is_call (pa_cons (pe_callO (O_plot_form) (hr.mono (by decide)) rfl T.g.m_plot_form T.g.k_plot_form (pa_cons (pe_ix ix_list (pe_ix ix_list (pv 1) (pe_int) (fun _ _ => rfl)) (pe_int) (fun _ _ => rfl)) (pa_nil))) (pa_cons (pv 1) (pa_nil))))))))) (pss_one (ps_ret (pe_lst (pa_cons (pe_un un_neg (pe_int)) (pa_nil))))) (pss_nil))
    (pss_cons (ps_set (i := 2) SC.nd rfl (Or.inl rfl) (pe_ix ix_list (pe_ix ix_list (pv 1) (pe_int) (fun _ _ => rfl)) (pe_int) (fun _ _ => rfl)))
    (pss_cons (ps_if (pt_cmpR op_eq (pv 2) (pe_int) (nomark _)) (pss_cons (ps_if (pt_cmpR op_notN (pe_fld (pv 0) rfl) (pe_non) (nomark _)) (pss_one (ps_ret (pe_lst (pa_cons (pe_un un_neg (pe_int)) (pa_nil))))) (pss_nil))
    (pss_cons (ps_if (pt_not (pt_val (pe_callO (O_is_ground) (hr.mono (by decide)) rfl T.g.m_is_ground T.g.k_is_ground (pa_cons (pe_ix ix_list (pe_ix ix_list (pv 1) (pe_int) (fun _ _ => rfl)) (pe_int) (fun _ _ => rfl)) (pa_cons (pe_ix ix_list (pv 1) (pe_int) (fun _ _ => rfl)) (pa_nil)))))) (pss_one (ps_ret (pe_lst (pa_cons (pe_un un_neg (pe_int)) (pa_nil))))) (pss_nil))
    (pss_cons (ps_fld (pv 0) (pe_makeO T.Plot.made (O_Plot___init__) (hr.mono (by decide)) rfl T.Plot.mg (pa_cons (pe_ix ix_list (pe_ix ix_list (pv 1) (pe_int) (fun _ _ => rfl)) (pe_int) (fun _ _ => rfl)) (pa_cons (pe_callTy call_list_of rfl T.g.b_list boot_list (pa_cons (pe_ix ix_list (pv 1) (pe_int) (fun _ _ => rfl)) (pa_nil))) (pa_nil)))) rfl)
    (pss_one (ps_ret (pe_lst (pa_cons (pe_fld (pe_fld (pv 0) rfl) rfl) (pa_nil)))))))) (pss_nil))
    (pss_one (ps_ret (pe_methO (pe_fld (pv 0) rfl) T.Plot.cl T.Plot.m_answer (O_Plot_answer) (hr.mono (by decide)) (pa_cons (pv 2) (pa_cons (pe_slice sl_list (pe_ix ix_list (pv 1) (pe_int) (fun _ _ => rfl)) (po_some (pe_int)) (po_none)) (pa_cons (pe_ix ix_list (pv 1) (pe_un un_neg (pe_int)) (fun _ _ => rfl)) (pa_nil)))))))))
theorem sc_Land_set_map : FnScope N_Land_set_map ["self", "sections", "heights"] (defScope s_Land_set_map) := ⟨rfl, rfl, rfl, by decide +kernel, rfl, by decide +kernel, by decide +kernel⟩
theorem ok_Land_set_map (T : Txt K mg A) (U : Fns K A) : Ok P w K mg base 3 A.f_Land_set_map ["self", "sections", "heights"] (sp_Land_set_map A K) := by
  obtain ⟨fd, F⟩ := U.f_Land_set_map
  have O_Plot_has_ground : Ok P w K mg base 1 A.f_Plot_has_ground ["self"] (sp_Plot_has_ground A K) := ok_Plot_has_ground T U
  have O_Polder_is_section : Ok P w K mg base 1 A.f_Polder_is_section ["self", "number"] (sp_Polder_is_section A K) := ok_Polder_is_section T U
  have O_Square___init__ : Ok P w K mg base 1 A.f_Square___init__ ["self", "section", "height"] (sp_Square___init__ A K) := ok_Square___init__ T U
  have SC := sc_Land_set_map
  refine ⟨fd, F.ok SC (fun vs H Q E h => len_Land_set_map h) (fun cdv A0 outer s H vs Q E hr h => ⟨t_Land_set_map A K, ?_, pure_Land_set_map T vs H Q E h⟩), F.binds (fun _ _ _ _ _ _ us hl => match us, hl with | [_, _, _], _ => rfl)⟩
  exact pss_cons (ps_if (pt_not (pt_val (pe_methO0 (pe_fld (pv 0) rfl) T.Plot.cl T.Plot.m_has_ground (O_Plot_has_ground) (hr.mono (by decide))))) (pss_one (ps_ret (pe_lst (pa_cons (pe_un un_neg (pe_int)) (pa_nil))))) (pss_nil))
    (pss_cons (ps_if (pt_cmpR op_notN (pe_fld (pv 0) rfl) (pe_non) (nomark _)) (pss_one (ps_ret (pe_lst (pa_cons (pe_un un_neg (pe_int)) (pa_nil))))) (pss_nil))
    (pss_cons (ps_set (i := 3) SC.nd rfl (Or.inl rfl) (pe_callB call_len_seq rfl T.g.b_len boot_len (pa_cons (pe_fld (pe_fld (pv 0) rfl) rfl) (pa_nil))))
    (pss_cons (ps_if (PW.pt (pw_or (pt_cmpR op_ne (pe_callB call_len_seq rfl T.g.b_len boot_len (pa_cons (pv 1) (pa_nil))) (pv 3) (nomark _)) (pw_or1 (pt_cmpR op_ne (pe_callB call_len_seq rfl T.g.b_len boot_len (pa_cons (pv 2) (pa_nil))) (pv 3) (nomark _))))) (pss_one (ps_ret (pe_lst (pa_cons (pe_un un_neg (pe_int)) (pa_nil))))) (pss_nil))
    (pss_cons (ps_for PassesOwn.never rfl (pi_zip rfl T.g.b_zip (pa_cons (pv 1) (pa_cons (pv 2) (pa_nil)))) (pg_tup rfl (pgs_cons (pg_name (i := 4) SC.nd rfl (Or.inl rfl)) (pgs_cons (pg_name (i := 5) SC.nd rfl (Or.inl rfl)) (pgs_nil)))) (pss_one (ps_if (PW.pt (pw_or (pt_not (pt_val (pe_methO (pe_fld (pv 0) rfl) T.Polder.cl T.Polder.m_is_section (O_Polder_is_section) (hr.mono (by decide)) (pa_cons (pv 4) (pa_nil))))) (pw_or (pt_cmpR op_lt (pv 5) (pe_int) (nomark _)) (pw_or1 (pt_cmpR op_gt (pv 5) (pe_globI rfl T.g.c_MOST_HEIGHT) (nomark _)))))) (pss_one (ps_ret (pe_lst (pa_cons (pe_un un_neg (pe_int)) (pa_nil))))) (pss_nil))))
    (pss_cons (ps_fld (pv 0) (pe_lc (own := [("section", 4), ("height", 5)]) (g := gTup K 2 (gCons (gName 4) (gCons (gName 5) (gNil)))) (tt := tYes) (te := tMake A.c_Square (sp_Square___init__ A K) [] E0 (tCons (tVar 4) (tCons (tVar 5) (tNil)))) rfl SC.nd (pi_zip rfl T.g.b_zip (pa_cons (pv 1) (pa_cons (pv 2) (pa_nil)))) (blkOk_by (own := [("section", 4), ("height", 5)]) (N := N_Land_set_map) (sc := defScope s_Land_set_map) (by decide +kernel)) (fun _ _ _ _ _ => pg_tup rfl (pgs_cons (pg_name (i := 4) SC.nd rfl (Or.inl rfl)) (pgs_cons (pg_name (i := 5) SC.nd rfl (Or.inl rfl)) (pgs_nil)))) (fun _ _ _ _ _ => pts_nil) (fun _ _ _ _ _ => pe_makeO T.Square.made (O_Square___init__) (hr.mono (by decide)) rfl T.Square.mg (pa_cons (pv 4) (pa_cons (pv 5) (pa_nil))))) rfl)
    (pss_one (ps_ret (pe_lst (pa_cons (pv 3) (pa_nil))))))))))
theorem sc_Land_level_of : FnScope N_Land_level_of ["self", "square"] (defScope s_Land_level_of) := ⟨rfl, rfl, rfl, by decide +kernel, rfl, by decide +kernel, by decide +kernel⟩
theorem ok_Land_level_of (T : Txt K mg A) (U : Fns K A) : Ok P w K mg base 2 A.f_Land_level_of ["self", "square"] (sp_Land_level_of A K) := by
  obtain ⟨fd, F⟩ := U.f_Land_level_of
  have O_Section_level : Ok P w K mg base 1 A.f_Section_level ["self"] (sp_Section_level A K) := ok_Section_level T U
  have SC := sc_Land_level_of
  refine ⟨fd, F.ok SC (fun vs H Q E h => len_Land_level_of h) (fun cdv A0 outer s H vs Q E hr h => ⟨t_Land_level_of A K, ?_, pure_Land_level_of T vs H Q E h⟩), F.binds (fun _ _ _ _ _ _ us hl => match us, hl with | [_, _], _ => rfl)⟩
  exact pss_cons (ps_set (i := 2) SC.nd rfl (Or.inl rfl) (pe_ix ix_list (pe_fld (pe_fld (pv 0) rfl) rfl) (pe_fld (pv 1) rfl) (fun _ _ => rfl)))
    (pss_one (ps_ret (pe_methO0 (pv 2) T.Section.cl T.Section.m_level (O_Section_level) (hr.mono (by decide)))))
theorem sc_Land_depth : FnScope N_Land_depth ["self", "square"] (defScope s_Land_depth) := ⟨rfl, rfl, rfl, by decide +kernel, rfl, by decide +kernel, by decide +kernel⟩
theorem ok_Land_depth (T : Txt K mg A) (U : Fns K A) : Ok P w K mg base 3 A.f_Land_depth ["self", "square"] (sp_Land_depth A K) := by
  obtain ⟨fd, F⟩ := U.f_Land_depth
  have O_Land_level_of : Ok P w K mg base 2 A.f_Land_level_of ["self", "square"] (sp_Land_level_of A K) := ok_Land_level_of T U
  have SC := sc_Land_depth
  refine ⟨fd, F.ok SC (fun vs H Q E h => len_Land_depth h) (fun cdv A0 outer s H vs Q E hr h => ⟨t_Land_depth A K, ?_, pure_Land_depth T vs H Q E h⟩), F.binds (fun _ _ _ _ _ _ us hl => match us, hl with | [_, _], _ => rfl)⟩
  exact pss_one (ps_ret (pe_callB (call_max2 rfl) rfl T.g.b_max boot_max (pa_cons (pe_int) (pa_cons (pe_op op_sub (pe_methO (pv 0) T.Land.cl T.Land.m_level_of (O_Land_level_of) (hr.mono (by decide)) (pa_cons (pv 1) (pa_nil))) (pe_fld (pv 1) rfl)) (pa_nil)))))
theorem sc_Land_drowned : FnScope N_Land_drowned ["self"] (defScope s_Land_drowned) := ⟨rfl, rfl, rfl, by decide +kernel, rfl, by decide +kernel, by decide +kernel⟩
theorem ok_Land_drowned (T : Txt K mg A) (U : Fns K A) : Ok P w K mg base 4 A.f_Land_drowned ["self"] (sp_Land_drowned A K) := by
  obtain ⟨fd, F⟩ := U.f_Land_drowned
  have O_Plot_built : Ok P w K mg base 3 A.f_Plot_built ["self"] (sp_Plot_built A K) := ok_Plot_built T U
  have SC := sc_Land_drowned
  refine ⟨fd, F.ok SC (fun vs H Q E h => len_Land_drowned h) (fun cdv A0 outer s H vs Q E hr h => ⟨t_Land_drowned A K, ?_, pure_Land_drowned T vs H Q E h⟩), F.binds (fun _ _ _ _ _ _ us hl => match us, hl with | [_], _ => rfl)⟩
  exact pss_one (ps_ret (pe_callB call_len_seq rfl T.g.b_len boot_len (pa_cons (pe_lc (own := [("place", 1)]) (g := gName 1) (tt := tTest (tOp rGtI (tFld K (tOp (rIxL K) (tFld K (tVar 0) "chart") (tVar 1)) "peak") (tC (.int 0)))) (te := tVar 1) rfl SC.nd (pi_list (pe_methO0 (pe_fld (pv 0) rfl) T.Plot.cl T.Plot.m_built (O_Plot_built) (hr.mono (by decide)))) (blkOk_by (own := [("place", 1)]) (N := N_Land_drowned) (sc := defScope s_Land_drowned) (by decide +kernel)) (fun _ _ _ _ _ => pg_name (i := 1) SC.nd rfl (Or.inl rfl)) (fun _ _ _ _ _ => pts_one (pt_cmpR op_gt (pe_fld (pe_ix ix_list (pe_fld (pv 0) rfl) (pv 1) (fun _ _ => rfl)) rfl) (pe_int) (nomark _))) (fun _ _ _ _ _ => pv 1)) (pa_nil))))
theorem sc_Land_sums : FnScope N_Land_sums ["self"] (defScope s_Land_sums) := ⟨rfl, rfl, rfl, by decide +kernel, rfl, by decide +kernel, by decide +kernel⟩
theorem ok_Land_sums (T : Txt K mg A) (U : Fns K A) : Ok P w K mg base 5 A.f_Land_sums ["self"] (sp_Land_sums A K) := by
  obtain ⟨fd, F⟩ := U.f_Land_sums
  have O_Land_depth : Ok P w K mg base 3 A.f_Land_depth ["self", "square"] (sp_Land_depth A K) := ok_Land_depth T U
  have O_Land_drowned : Ok P w K mg base 4 A.f_Land_drowned ["self"] (sp_Land_drowned A K) := ok_Land_drowned T U
  have SC := sc_Land_sums
  refine ⟨fd, F.ok SC (fun vs H Q E h => len_Land_sums h) (fun cdv A0 outer s H vs Q E hr h => ⟨t_Land_sums A K, ?_, pure_Land_sums T vs H Q E h⟩), F.binds (fun _ _ _ _ _ _ us hl => match us, hl with | [_], _ => rfl)⟩
  exact pss_cons (ps_set (i := 1) SC.nd rfl (Or.inl rfl) (pe_callB call_len_seq rfl T.g.b_len boot_len (pa_cons (pe_lc (own := [("square", 2)]) (g := gName 2) (tt := tTest (tOp rGtI (tMeth A.c_Land "depth" (sp_Land_depth A K) [] E0 (tVar 0) (tCons (tVar 2) (tNil))) (tC (.int 0)))) (te := tVar 2) rfl SC.nd (pi_list (pe_fld (pv 0) rfl)) (blkOk_by (own := [("square", 2)]) (N := N_Land_sums) (sc := defScope s_Land_sums) (by decide +kernel)) (fun _ _ _ _ _ => pg_name (i := 2) SC.nd rfl (Or.inl rfl)) (fun _ _ _ _ _ => pts_one (pt_cmpR op_gt (pe_methO (pv 0) T.Land.cl T.Land.m_depth (O_Land_depth) (hr.mono (by decide)) (pa_cons (pv 2) (pa_nil))) (pe_int) (nomark _))) (fun _ _ _ _ _ => pv 2)) (pa_nil))))
    (pss_one (ps_ret (pe_lst (pa_cons (pv 1) (pa_cons (pe_callB call_len_seq rfl T.g.b_len boot_len (pa_cons (pe_lc (own := [("square", 2)]) (g := gName 2) (tt := tTest (tOp rGtI (tFld K (tVar 2) "peak") (tC (.int 0)))) (te := tVar 2) rfl SC.nd (pi_list (pe_fld (pv 0) rfl)) (blkOk_by (own := [("square", 2)]) (N := N_Land_sums) (sc := defScope s_Land_sums) (by decide +kernel)) (fun _ _ _ _ _ => pg_name (i := 2) SC.nd rfl (Or.inl rfl)) (fun _ _ _ _ _ => pts_one (pt_cmpR op_gt (pe_fld (pv 2) rfl) (pe_int) (nomark _))) (fun _ _ _ _ _ => pv 2)) (pa_nil))) (pa_cons (pe_methO0 (pv 0) T.Land.cl T.Land.m_drowned (O_Land_drowned) (hr.mono (by decide))) (pa_nil)))))))
theorem sc_Land_storm : FnScope N_Land_storm ["self", "steps", "rain", "sun"] (defScope s_Land_storm) := ⟨rfl, rfl, rfl, by decide +kernel, rfl, by decide +kernel, by decide +kernel⟩
theorem ok_Land_storm (T : Txt K mg A) (U : Fns K A) : Ok P w K mg base 6 A.f_Land_storm ["self", "steps", "rain", "sun"] (sp_Land_storm A K) := by
  obtain ⟨fd, F⟩ := U.f_Land_storm
  have O_are_steps : Ok P w K mg base 1 A.f_are_steps ["steps", "rain", "sun"] (sp_are_steps A K) := ok_are_steps T U
  have O_Polder_step : Ok P w K mg base 5 A.f_Polder_step ["self", "rain", "sun"] (sp_Polder_step A K) := ok_Polder_step T U
  have O_Land_depth : Ok P w K mg base 3 A.f_Land_depth ["self", "square"] (sp_Land_depth A K) := ok_Land_depth T U
  have O_Land_sums : Ok P w K mg base 5 A.f_Land_sums ["self"] (sp_Land_sums A K) := ok_Land_sums T U
  have SC := sc_Land_storm
  refine ⟨fd, F.ok SC (fun vs H Q E h => len_Land_storm h) (fun cdv A0 outer s H vs Q E hr h => ⟨t_Land_storm A K, ?_, pure_Land_storm T vs H Q E h⟩), F.binds (fun _ _ _ _ _ _ us hl => match us, hl with | [_, _, _, _], _ => rfl)⟩
  exact pss_cons (ps_if (pt_not (pt_val (pe_callO (O_are_steps) (hr.mono (by decide)) rfl T.g.m_are_steps T.g.k_are_steps (pa_cons (pv 1) (pa_cons (pv 2) (pa_cons (pv 3) (pa_nil))))))) (pss_one (ps_ret (pe_lst (pa_cons (pe_un un_neg (pe_int)) (pa_nil))))) (pss_nil))
    (pss_cons (ps_if (pt_cmpR op_isN (pe_fld (pv 0) rfl) (pe_non) (nomark _)) (pss_one (ps_ret (pe_lst (pa_cons (pe_un un_neg (pe_int)) (pa_nil))))) (pss_nil))
    (pss_cons (ps_for PassesOwn.never rfl (pi_range1 rfl T.g.b_range (pa_cons (pv 1) (pa_nil))) (pg_name (i := 4) SC.nd rfl (Or.inl rfl)) (pss_cons (ps_expr (pe_methO (pe_fld (pv 0) rfl) T.Polder.cl T.Polder.m_step (O_Polder_step) (hr.mono (by decide)) (pa_cons (pv 2) (pa_cons (pv 3) (pa_nil)))))
    (pss_one (ps_for PassesOwn.never rfl (pi_list (pe_fld (pv 0) rfl)) (pg_name (i := 5) SC.nd rfl (Or.inl rfl)) (pss_cons (ps_set (i := 6) SC.nd rfl (Or.inl rfl) (pe_methO (pv 0) T.Land.cl T.Land.m_depth (O_Land_depth) (hr.mono (by decide)) (pa_cons (pv 5) (pa_nil))))
    (pss_cons (ps_fldaug (pv 5) (pe_ifExp (pt_cmpR op_gt (pv 6) (pe_int) (nomark _)) (pe_int) (pe_int)) in_add)
    (pss_one (ps_fld (pv 5) (pe_callB (call_max2 rfl) rfl T.g.b_max boot_max (pa_cons (pe_fld (pv 5) rfl) (pa_cons (pv 6) (pa_nil)))) rfl))))))))
    (pss_one (ps_ret (pe_op op_cat (pe_lst (pa_cons (pe_fld (pe_fld (pv 0) rfl) rfl) (pa_nil))) (pe_methO0 (pv 0) T.Land.cl T.Land.m_sums (O_Land_sums) (hr.mono (by decide))))))))
theorem sc_Land_tell_square : FnScope N_Land_tell_square ["self", "x", "y"] (defScope s_Land_tell_square) := ⟨rfl, rfl, rfl, by decide +kernel, rfl, by decide +kernel, by decide +kernel⟩
theorem ok_Land_tell_square (T : Txt K mg A) (U : Fns K A) : Ok P w K mg base 4 A.f_Land_tell_square ["self", "x", "y"] (sp_Land_tell_square A K) := by
  obtain ⟨fd, F⟩ := U.f_Land_tell_square
  have O_Plot_is_there : Ok P w K mg base 1 A.f_Plot_is_there ["self", "x", "y"] (sp_Plot_is_there A K) := ok_Plot_is_there T U
  have O_Plot_place_of : Ok P w K mg base 1 A.f_Plot_place_of ["self", "x", "y"] (sp_Plot_place_of A K) := ok_Plot_place_of T U
  have O_Land_level_of : Ok P w K mg base 2 A.f_Land_level_of ["self", "square"] (sp_Land_level_of A K) := ok_Land_level_of T U
  have O_Land_depth : Ok P w K mg base 3 A.f_Land_depth ["self", "square"] (sp_Land_depth A K) := ok_Land_depth T U
  have O_Plot_floors_on : Ok P w K mg base 1 A.f_Plot_floors_on ["self", "place"] (sp_Plot_floors_on A K) := ok_Plot_floors_on T U
  have SC := sc_Land_tell_square
  refine ⟨fd, F.ok SC (fun vs H Q E h => len_Land_tell_square h) (fun cdv A0 outer s H vs Q E hr h => ⟨t_Land_tell_square A K, ?_, pure_Land_tell_square T vs H Q E h⟩), F.binds (fun _ _ _ _ _ _ us hl => match us, hl with | [_, _, _], _ => rfl)⟩
  exact pss_cons (ps_if (pt_cmpR op_isN (pe_fld (pv 0) rfl) (pe_non) (nomark _)) (pss_one (ps_ret (pe_lst (pa_cons (pe_un un_neg (pe_int)) (pa_nil))))) (pss_nil))
    (pss_cons (ps_if (pt_not (pt_val (pe_methO (pe_fld (pv 0) rfl) T.Plot.cl T.Plot.m_is_there (O_Plot_is_there) (hr.mono (by decide)) (pa_cons (pv 1) (pa_cons (pv 2) (pa_nil)))))) (pss_one (ps_ret (pe_lst (pa_cons (pe_un un_neg (pe_int)) (pa_nil))))) (pss_nil))
    (pss_cons (ps_set (i := 3) SC.nd rfl (Or.inl rfl) (pe_methO (pe_fld (pv 0) rfl) T.Plot.cl T.Plot.m_place_of (O_Plot_place_of) (hr.mono (by decide)) (pa_cons (pv 1) (pa_cons (pv 2) (pa_nil)))))
    (pss_cons (ps_set (i := 4) SC.nd rfl (Or.inl rfl) (pe_ix ix_list (pe_fld (pv 0) rfl) (pv 3) (fun _ _ => rfl)))
    (pss_cons (ps_set (i := 5) SC.nd rfl (Or.inl rfl) (pe_lst (pa_cons (pe_fld (pv 4) rfl) (pa_cons (pe_fld (pv 4) rfl) (pa_cons (pe_methO (pv 0) T.Land.cl T.Land.m_level_of (O_Land_level_of) (hr.mono (by decide)) (pa_cons (pv 4) (pa_nil))) (pa_cons (pe_methO (pv 0) T.Land.cl T.Land.m_depth (O_Land_depth) (hr.mono (by decide)) (pa_cons (pv 4) (pa_nil))) (pa_cons (pe_fld (pv 4) rfl) (pa_cons (pe_fld (pv 4) rfl) (pa_nil)))))))))
    (pss_one (ps_ret (pe_op op_cat (pv 5) (pe_lst (pa_cons (pe_methO (pe_fld (pv 0) rfl) T.Plot.cl T.Plot.m_floors_on (O_Plot_floors_on) (hr.mono (by decide)) (pa_cons (pv 3) (pa_nil))) (pa_nil))))))))))
theorem sc_Land_tell_wet : FnScope N_Land_tell_wet ["self"] (defScope s_Land_tell_wet) := ⟨rfl, rfl, rfl, by decide +kernel, rfl, by decide +kernel, by decide +kernel⟩
theorem ok_Land_tell_wet (T : Txt K mg A) (U : Fns K A) : Ok P w K mg base 6 A.f_Land_tell_wet ["self"] (sp_Land_tell_wet A K) := by
  obtain ⟨fd, F⟩ := U.f_Land_tell_wet
  have O_Land_sums : Ok P w K mg base 5 A.f_Land_sums ["self"] (sp_Land_sums A K) := ok_Land_sums T U
  have SC := sc_Land_tell_wet
  refine ⟨fd, F.ok SC (fun vs H Q E h => len_Land_tell_wet h) (fun cdv A0 outer s H vs Q E hr h => ⟨t_Land_tell_wet A K, ?_, pure_Land_tell_wet T vs H Q E h⟩), F.binds (fun _ _ _ _ _ _ us hl => match us, hl with | [_], _ => rfl)⟩
  exact pss_one (ps_ret (pe_ifExp (pt_cmpR op_isN (pe_fld (pv 0) rfl) (pe_non) (nomark _)) (pe_lst (pa_cons (pe_un un_neg (pe_int)) (pa_nil))) (pe_op op_cat (pe_methO0 (pv 0) T.Land.cl T.Land.m_sums (O_Land_sums) (hr.mono (by decide))) (pe_lst (pa_cons (pe_fld (pv 0) rfl) (pa_nil))))))
theorem sc_Land_harm : FnScope N_Land_harm ["self", "place"] (defScope s_Land_harm) := ⟨rfl, rfl, rfl, by decide +kernel, rfl, by decide +kernel, by decide +kernel⟩
theorem ok_Land_harm (T : Txt K mg A) (U : Fns K A) : Ok P w K mg base 1 A.f_Land_harm ["self", "place"] (sp_Land_harm A K) := by
  obtain ⟨fd, F⟩ := U.f_Land_harm
  have SC := sc_Land_harm
  refine ⟨fd, F.ok SC (fun vs H Q E h => len_Land_harm h) (fun cdv A0 outer s H vs Q E hr h => ⟨t_Land_harm A K, ?_, pure_Land_harm T vs H Q E h⟩), F.binds (fun _ _ _ _ _ _ us hl => match us, hl with | [_, _], _ => rfl)⟩
  exact pss_one (ps_ret (pe_callB (call_min2 rfl) rfl T.g.b_min boot_min (pa_cons (pe_globI rfl T.g.c_MOST_HARM) (pa_cons (pe_fld (pe_ix ix_list (pe_fld (pv 0) rfl) (pv 1) (fun _ _ => rfl)) rfl) (pa_nil)))))
theorem sc_Land_tell_harm : FnScope N_Land_tell_harm ["self"] (defScope s_Land_tell_harm) := ⟨rfl, rfl, rfl, by decide +kernel, rfl, by decide +kernel, by decide +kernel⟩
theorem ok_Land_tell_harm (T : Txt K mg A) (U : Fns K A) : Ok P w K mg base 5 A.f_Land_tell_harm ["self"] (sp_Land_tell_harm A K) := by
  obtain ⟨fd, F⟩ := U.f_Land_tell_harm
  have O_Plot_houses : Ok P w K mg base 4 A.f_Plot_houses ["self"] (sp_Plot_houses A K) := ok_Plot_houses T U
  have O_Plot_built : Ok P w K mg base 3 A.f_Plot_built ["self"] (sp_Plot_built A K) := ok_Plot_built T U
  have O_Land_harm : Ok P w K mg base 1 A.f_Land_harm ["self", "place"] (sp_Land_harm A K) := ok_Land_harm T U
  have SC := sc_Land_tell_harm
  refine ⟨fd, F.ok SC (fun vs H Q E h => len_Land_tell_harm h) (fun cdv A0 outer s H vs Q E hr h => ⟨t_Land_tell_harm A K, ?_, pure_Land_tell_harm T vs H Q E h⟩), F.binds (fun _ _ _ _ _ _ us hl => match us, hl with | [_], _ => rfl)⟩
  exact pss_cons (ps_if (pt_cmpR op_isN (pe_fld (pv 0) rfl) (pe_non) (nomark _)) (pss_one (ps_ret (pe_lst (pa_cons (pe_un un_neg (pe_int)) (pa_nil))))) (pss_nil))
    (pss_cons (ps_set (i := 1) SC.nd rfl (Or.inl rfl) (pe_methO0 (pe_fld (pv 0) rfl) T.Plot.cl T.Plot.m_houses (O_Plot_houses) (hr.mono (by decide))))
    (pss_cons (ps_set (i := 2) SC.nd rfl (Or.inl rfl) (pe_lst (pa_cons (pe_callB (cr_sum rfl) rfl T.g.b_sum boot_sum (pa_cons (pe_lc (own := [("place", 5)]) (g := gName 5) (tt := tYes) (te := tMeth A.c_Land "harm" (sp_Land_harm A K) [] E0 (tVar 0) (tCons (tVar 5) (tNil))) rfl SC.nd (pi_list (pe_methO0 (pe_fld (pv 0) rfl) T.Plot.cl T.Plot.m_built (O_Plot_built) (hr.mono (by decide)))) (blkOk_by (own := [("place", 5)]) (N := N_Land_tell_harm) (sc := defScope s_Land_tell_harm) (by decide +kernel)) (fun _ _ _ _ _ => pg_name (i := 5) SC.nd rfl (Or.inl rfl)) (fun _ _ _ _ _ => pts_nil) (fun _ _ _ _ _ => pe_methO (pv 0) T.Land.cl T.Land.m_harm (O_Land_harm) (hr.mono (by decide)) (pa_cons (pv 5) (pa_nil)))) (pa_nil))) (pa_cons (pe_callB call_len_seq rfl T.g.b_len boot_len (pa_cons (pv 1) (pa_nil))) (pa_nil)))))
    (pss_cons (ps_for PassesOwn.never rfl (pi_list (pv 1)) (pg_name (i := 3) SC.nd rfl (Or.inl rfl)) (pss_cons (ps_set (i := 4) SC.nd rfl (Or.inl rfl) (pe_callB (cr_max rfl) rfl T.g.b_max boot_max (pa_cons (pe_lc (own := [("place", 5)]) (g := gName 5) (tt := tYes) (te := tFld K (tOp (rIxL K) (tFld K (tVar 0) "chart") (tVar 5)) "peak") rfl SC.nd (pi_list (pv 3)) (blkOk_by (own := [("place", 5)]) (N := N_Land_tell_harm) (sc := defScope s_Land_tell_harm) (by decide +kernel)) (fun _ _ _ _ _ => pg_name (i := 5) SC.nd rfl (Or.inl rfl)) (fun _ _ _ _ _ => pts_nil) (fun _ _ _ _ _ => pe_fld (pe_ix ix_list (pe_fld (pv 0) rfl) (pv 5) (fun _ _ => rfl)) rfl)) (pa_nil))))
    (pss_one (ps_expr (pe_bm PySem.F.plainAttrs_list PySem.F.slot_list_extend PySem.F.type_list_extend mt_extend (pv 2) (pa_cons (pe_lst (pa_cons (pe_callB call_len_seq rfl T.g.b_len boot_len (pa_cons (pv 3) (pa_nil))) (pa_cons (pv 4) (pa_cons (pe_callB (cr_sum rfl) rfl T.g.b_sum boot_sum (pa_cons (pe_lc (own := [("place", 5)]) (g := gName 5) (tt := tYes) (te := tMeth A.c_Land "harm" (sp_Land_harm A K) [] E0 (tVar 0) (tCons (tVar 5) (tNil))) rfl SC.nd (pi_list (pv 3)) (blkOk_by (own := [("place", 5)]) (N := N_Land_tell_harm) (sc := defScope s_Land_tell_harm) (by decide +kernel)) (fun _ _ _ _ _ => pg_name (i := 5) SC.nd rfl (Or.inl rfl)) (fun _ _ _ _ _ => pts_nil) (fun _ _ _ _ _ => pe_methO (pv 0) T.Land.cl T.Land.m_harm (O_Land_harm) (hr.mono (by decide)) (pa_cons (pv 5) (pa_nil)))) (pa_nil))) (pa_nil))))) (pa_nil)))))))
    (pss_one (ps_ret (pv 2))))))
theorem sc_Land_tell_safe : FnScope N_Land_tell_safe ["self"] (defScope s_Land_tell_safe) := ⟨rfl, rfl, rfl, by decide +kernel, rfl, by decide +kernel, by decide +kernel⟩
theorem ok_Land_tell_safe (T : Txt K mg A) (U : Fns K A) : Ok P w K mg base 8 A.f_Land_tell_safe ["self"] (sp_Land_tell_safe A K) := by
  obtain ⟨fd, F⟩ := U.f_Land_tell_safe
  have O_Plot_most_of : Ok P w K mg base 6 A.f_Plot_most_of ["self", "places"] (sp_Plot_most_of A K) := ok_Plot_most_of T U
  have O_Plot_best : Ok P w K mg base 7 A.f_Plot_best ["self"] (sp_Plot_best A K) := ok_Plot_best T U
  have SC := sc_Land_tell_safe
  refine ⟨fd, F.ok SC (fun vs H Q E h => len_Land_tell_safe h) (fun cdv A0 outer s H vs Q E hr h => ⟨t_Land_tell_safe A K, ?_, pure_Land_tell_safe T vs H Q E h⟩), F.binds (fun _ _ _ _ _ _ us hl => match us, hl with | [_], _ => rfl)⟩
  exact pss_cons (ps_if (pt_cmpR op_isN (pe_fld (pv 0) rfl) (pe_non) (nomark _)) (pss_one (ps_ret (pe_lst (pa_cons (pe_un un_neg (pe_int)) (pa_nil))))) (pss_nil))
    (pss_cons (ps_setLc (i := 1) (own := [("place", 2), ("square", 3)]) (g := gTup K 2 (gCons (gName 2) (gCons (gName 3) (gNil)))) (tt := tTest (tOp rEq (tFld K (tVar 3) "peak") (tC (.int 0)))) (te := tVar 2) rfl SC.nd rfl rfl (sw_true rfl rfl rfl (by decide +kernel)) (pi_enum rfl T.g.b_enumerate (pa_cons (pe_fld (pv 0) rfl) (pa_nil))) (blkOk_by (own := [("place", 2), ("square", 3)]) (N := N_Land_tell_safe) (sc := defScope s_Land_tell_safe) (by decide +kernel)) (fun _ _ _ _ _ => pg_tup rfl (pgs_cons (pg_name (i := 2) SC.nd rfl (Or.inl rfl)) (pgs_cons (pg_name (i := 3) SC.nd rfl (Or.inl rfl)) (pgs_nil)))) (fun _ _ _ _ _ => pts_one (pt_cmpR op_eq (pe_fld (pv 3) rfl) (pe_int) (nomark _))) (fun _ _ _ _ _ => pv 2))
    (pss_one (ps_ret (pe_lst (pa_cons (pe_methO (pe_fld (pv 0) rfl) T.Plot.cl T.Plot.m_most_of (O_Plot_most_of) (hr.mono (by decide)) (pa_cons (pv 1) (pa_nil))) (pa_cons (pe_methO0 (pe_fld (pv 0) rfl) T.Plot.cl T.Plot.m_best (O_Plot_best) (hr.mono (by decide))) (pa_nil)))))))
theorem sc_Land_lift : FnScope N_Land_lift ["self", "x", "y", "millimetres"] (defScope s_Land_lift) := ⟨rfl, rfl, rfl, by decide +kernel, rfl, by decide +kernel, by decide +kernel⟩
theorem ok_Land_lift (T : Txt K mg A) (U : Fns K A) : Ok P w K mg base 6 A.f_Land_lift ["self", "x", "y", "millimetres"] (sp_Land_lift A K) := by
  obtain ⟨fd, F⟩ := U.f_Land_lift
  have O_Plot_is_there : Ok P w K mg base 1 A.f_Plot_is_there ["self", "x", "y"] (sp_Plot_is_there A K) := ok_Plot_is_there T U
  have O_Plot_place_of : Ok P w K mg base 1 A.f_Plot_place_of ["self", "x", "y"] (sp_Plot_place_of A K) := ok_Plot_place_of T U
  have O_Plot_floors_on : Ok P w K mg base 1 A.f_Plot_floors_on ["self", "place"] (sp_Plot_floors_on A K) := ok_Plot_floors_on T U
  have O_Land_sums : Ok P w K mg base 5 A.f_Land_sums ["self"] (sp_Land_sums A K) := ok_Land_sums T U
  have SC := sc_Land_lift
  refine ⟨fd, F.ok SC (fun vs H Q E h => len_Land_lift h) (fun cdv A0 outer s H vs Q E hr h => ⟨t_Land_lift A K, ?_, pure_Land_lift T vs H Q E h⟩), F.binds (fun _ _ _ _ _ _ us hl => match us, hl with | [_, _, _, _], _ => rfl)⟩
  exact pss_cons (ps_if (pt_cmpR op_isN (pe_fld (pv 0) rfl) (pe_non) (nomark _)) (pss_one (ps_ret (pe_lst (pa_cons (pe_un un_neg (pe_int)) (pa_nil))))) (pss_nil))
    (pss_cons (ps_if (PW.pt (pw_or (pt_not (pt_val (pe_methO (pe_fld (pv 0) rfl) T.Plot.cl T.Plot.m_is_there (O_Plot_is_there) (hr.mono (by decide)) (pa_cons (pv 1) (pa_cons (pv 2) (pa_nil)))))) (pw_or (pt_cmpR op_lt (pv 3) (pe_int) (nomark _)) (pw_or1 (pt_cmpR op_gt (pv 3) (pe_globI rfl T.g.c_MOST_RAISED) (nomark _)))))) (pss_one (ps_ret (pe_lst (pa_cons (pe_un un_neg (pe_int)) (pa_nil))))) (pss_nil))
    (pss_cons (ps_set (i := 4) SC.nd rfl (Or.inl rfl) (pe_methO (pe_fld (pv 0) rfl) T.Plot.cl T.Plot.m_place_of (O_Plot_place_of) (hr.mono (by decide)) (pa_cons (pv 1) (pa_cons (pv 2) (pa_nil)))))
    (pss_cons (ps_set (i := 5) SC.nd rfl (Or.inl rfl) (pe_ix ix_list (pe_fld (pv 0) rfl) (pv 4) (fun _ _ => rfl)))
    (pss_cons (ps_if (pt_cmpR op_gt (pe_methO (pe_fld (pv 0) rfl) T.Plot.cl T.Plot.m_floors_on (O_Plot_floors_on) (hr.mono (by decide)) (pa_cons (pv 4) (pa_nil))) (pe_int) (nomark _)) (pss_one (ps_ret (pe_lst (pa_cons (pe_un un_neg (pe_int)) (pa_nil))))) (pss_nil))
    (pss_cons (ps_if (pt_cmpR op_gt (pe_op op_add (pe_fld (pv 5) rfl) (pv 3)) (pe_globI rfl T.g.c_MOST_HEIGHT) (nomark _)) (pss_one (ps_ret (pe_lst (pa_cons (pe_un un_neg (pe_int)) (pa_nil))))) (pss_nil))
    (pss_cons (ps_fldaug (pv 5) (pv 3) in_add)
    (pss_cons (ps_fld (pv 5) (pe_callB (call_max2 rfl) rfl T.g.b_max boot_max (pa_cons (pe_int) (pa_cons (pe_op op_sub (pe_fld (pv 5) rfl) (pv 3)) (pa_nil)))) rfl)
    (pss_cons (ps_fldaug (pv 0) (pv 3) in_add)
    (pss_one (ps_ret (pe_op op_cat (pe_lst (pa_cons (pe_fld (pv 0) rfl) (pa_nil))) (pe_methO0 (pv 0) T.Land.cl T.Land.m_sums (O_Land_sums) (hr.mono (by decide))))))))))))))
theorem sc_Land_tell_check : FnScope N_Land_tell_check ["self"] (defScope s_Land_tell_check) := ⟨rfl, rfl, rfl, by decide +kernel, rfl, by decide +kernel, by decide +kernel⟩
theorem ok_Land_tell_check (T : Txt K mg A) (U : Fns K A) : Ok P w K mg base 9 A.f_Land_tell_check ["self"] (sp_Land_tell_check A K) := by
  obtain ⟨fd, F⟩ := U.f_Land_tell_check
  have O_Plot_tell_check : Ok P w K mg base 8 A.f_Plot_tell_check ["self"] (sp_Plot_tell_check A K) := ok_Plot_tell_check T U
  have O_Land_drowned : Ok P w K mg base 4 A.f_Land_drowned ["self"] (sp_Land_drowned A K) := ok_Land_drowned T U
  have SC := sc_Land_tell_check
  refine ⟨fd, F.ok SC (fun vs H Q E h => len_Land_tell_check h) (fun cdv A0 outer s H vs Q E hr h => ⟨t_Land_tell_check A K, ?_, pure_Land_tell_check T vs H Q E h⟩), F.binds (fun _ _ _ _ _ _ us hl => match us, hl with | [_], _ => rfl)⟩
  exact pss_cons (ps_if (pt_cmpR op_isN (pe_fld (pv 0) rfl) (pe_non) (nomark _)) (pss_one (ps_ret (pe_lst (pa_cons (pe_un un_neg (pe_int)) (pa_nil))))) (pss_nil))
    (pss_cons (ps_set (i := 1) SC.nd rfl (Or.inl rfl) (pe_methO0 (pe_fld (pv 0) rfl) T.Plot.cl T.Plot.m_tell_check (O_Plot_tell_check) (hr.mono (by decide))))
    (pss_cons (ps_set (i := 2) SC.nd rfl (Or.inl rfl) (pe_methO0 (pv 0) T.Land.cl T.Land.m_drowned (O_Land_drowned) (hr.mono (by decide))))
    (pss_cons (ps_if (pt_cmpR op_gt (pv 2) (pe_int) (nomark _)) (pss_one (ps_set (i := 1) SC.nd rfl (Or.inl rfl) (pe_op op_cat (pe_op op_cat (pe_lst (pa_cons (pe_op op_add (pe_ix ix_list (pv 1) (pe_int) (fun _ _ => rfl)) (pe_int)) (pa_nil))) (pe_slice sl_list (pv 1) (po_some (pe_int)) (po_none))) (pe_lst (pa_cons (pe_globI rfl T.g.c_DROWNED_RULE) (pa_cons (pv 2) (pa_nil))))))) (pss_nil))
    (pss_one (ps_ret (pv 1))))))
theorem sc_answer_call : FnScope N_answer_call ["land", "number", "wholes", "lists"] (defScope s_answer_call) := ⟨rfl, rfl, rfl, by decide +kernel, rfl, by decide +kernel, by decide +kernel⟩
theorem ok_answer_call (T : Txt K mg A) (U : Fns K A) : Ok P w K mg base 11 A.f_answer_call ["land", "number", "wholes", "lists"] (sp_answer_call A K) := by
  obtain ⟨fd, F⟩ := U.f_answer_call
  have O_Land_water_call : Ok P w K mg base 8 A.f_Land_water_call ["self", "fields"] (sp_Land_water_call A K) := ok_Land_water_call T U
  have O_Land_plot_call : Ok P w K mg base 10 A.f_Land_plot_call ["self", "fields"] (sp_Land_plot_call A K) := ok_Land_plot_call T U
  have O_Land_set_map : Ok P w K mg base 3 A.f_Land_set_map ["self", "sections", "heights"] (sp_Land_set_map A K) := ok_Land_set_map T U
  have O_Land_storm : Ok P w K mg base 6 A.f_Land_storm ["self", "steps", "rain", "sun"] (sp_Land_storm A K) := ok_Land_storm T U
  have O_Land_tell_square : Ok P w K mg base 4 A.f_Land_tell_square ["self", "x", "y"] (sp_Land_tell_square A K) := ok_Land_tell_square T U
  have O_Land_tell_wet : Ok P w K mg base 6 A.f_Land_tell_wet ["self"] (sp_Land_tell_wet A K) := ok_Land_tell_wet T U
  have O_Land_tell_harm : Ok P w K mg base 5 A.f_Land_tell_harm ["self"] (sp_Land_tell_harm A K) := ok_Land_tell_harm T U
  have O_Land_tell_safe : Ok P w K mg base 8 A.f_Land_tell_safe ["self"] (sp_Land_tell_safe A K) := ok_Land_tell_safe T U
  have O_Land_lift : Ok P w K mg base 6 A.f_Land_lift ["self", "x", "y", "millimetres"] (sp_Land_lift A K) := ok_Land_lift T U
  have O_Land_tell_check : Ok P w K mg base 9 A.f_Land_tell_check ["self"] (sp_Land_tell_check A K) := ok_Land_tell_check T U
  have SC := sc_answer_call
  refine ⟨fd, F.ok SC (fun vs H Q E h => len_answer_call h) (fun cdv A0 outer s H vs Q E hr h => ⟨t_answer_call A K, ?_, pure_answer_call T vs H Q E h⟩), F.binds (fun _ _ _ _ _ _ us hl => match us, hl with | [_, _, _, _], _ => rfl)⟩
  exact pss_cons (ps_if (pt_cmpR op_eq (pv 1) (pe_int) (nomark _)) (pss_one (ps_ret (pe_methO (pv 0) T.Land.cl T.Land.m_water_call (O_Land_water_call) (hr.mono (by decide)) (pa_cons (pv 3) (pa_nil))))) (pss_nil))
    (pss_cons (ps_if (pt_cmpR op_eq (pv 1) (pe_int) (nomark _)) (pss_one (ps_ret (pe_methO (pv 0) T.Land.cl T.Land.m_plot_call (O_Land_plot_call) (hr.mono (by decide)) (pa_cons (pv 3) (pa_nil))))) (pss_nil))
    (pss_cons (ps_if (pt_cmpR op_eq (pv 1) (pe_int) (nomark _)) (pss_one (ps_ret (pe_methO (pv 0) T.Land.cl T.Land.m_set_map (O_Land_set_map) (hr.mono (by decide)) (pa_cons (pe_ix ix_list (pv 3) (pe_int) (fun _ _ => rfl)) (pa_cons (pe_ix ix_list (pv 3) (pe_int) (fun _ _ => rfl)) (pa_nil)))))) (pss_nil))
    (pss_cons (ps_if (pt_cmpR op_eq (pv 1) (pe_int) (nomark _)) (pss_one (ps_ret (pe_methO (pv 0) T.Land.cl T.Land.m_storm (O_Land_storm) (hr.mono (by decide)) (pa_cons (pe_ix ix_list (pv 2) (pe_int) (fun _ _ => rfl)) (pa_cons (pe_ix ix_list (pv 2) (pe_int) (fun _ _ => rfl)) (pa_cons (pe_ix ix_list (pv 2) (pe_int) (fun _ _ => rfl)) (pa_nil))))))) (pss_nil))
    (pss_cons (ps_if (pt_cmpR op_eq (pv 1) (pe_int) (nomark _)) (pss_one (ps_ret (pe_methO (pv 0) T.Land.cl T.Land.m_tell_square (O_Land_tell_square) (hr.mono (by decide)) (pa_cons (pe_ix ix_list (pv 2) (pe_int) (fun _ _ => rfl)) (pa_cons (pe_ix ix_list (pv 2) (pe_int) (fun _ _ => rfl)) (pa_nil)))))) (pss_nil))
    (pss_cons (ps_if (pt_cmpR op_eq (pv 1) (pe_int) (nomark _)) (pss_one (ps_ret (pe_methO0 (pv 0) T.Land.cl T.Land.m_tell_wet (O_Land_tell_wet) (hr.mono (by decide))))) (pss_nil))
    (pss_cons (ps_if (pt_cmpR op_eq (pv 1) (pe_int) (nomark _)) (pss_one (ps_ret (pe_methO0 (pv 0) T.Land.cl T.Land.m_tell_harm (O_Land_tell_harm) (hr.mono (by decide))))) (pss_nil))
    (pss_cons (ps_if (pt_cmpR op_eq (pv 1) (pe_int) (nomark _)) (pss_one (ps_ret (pe_methO0 (pv 0) T.Land.cl T.Land.m_tell_safe (O_Land_tell_safe) (hr.mono (by decide))))) (pss_nil))
    (pss_cons (ps_if (pt_cmpR op_eq (pv 1) (pe_int) (nomark _)) (pss_one (ps_ret (pe_methO (pv 0) T.Land.cl T.Land.m_lift (O_Land_lift) (hr.mono (by decide)) (pa_cons (pe_ix ix_list (pv 2) (pe_int) (fun _ _ => rfl)) (pa_cons (pe_ix ix_list (pv 2) (pe_int) (fun _ _ => rfl)) (pa_cons (pe_ix ix_list (pv 2) (pe_int) (fun _ _ => rfl)) (pa_nil))))))) (pss_nil))
    (pss_one (ps_ret (pe_methO0 (pv 0) T.Land.cl T.Land.m_tell_check (O_Land_tell_check) (hr.mono (by decide)))))))))))))
theorem sc_answers : FnScope N_answers ["calls"] (defScope s_answers) := ⟨rfl, rfl, rfl, by decide +kernel, rfl, by decide +kernel, by decide +kernel⟩
theorem fn_answers (T : Txt K mg A) (U : Fns K A) {fd : FuncData} (F : Fun K "answers" "answers" s_answers A.f_answers fd) : FnOk P w K mg base CX0 12 A.f_answers fd ["calls"] (sp_answers A K) := by
  have O_Land___init__ : Ok P w K mg base 5 A.f_Land___init__ ["self"] (sp_Land___init__ A K) := ok_Land___init__ T U
  have O_answer_call : Ok P w K mg base 11 A.f_answer_call ["land", "number", "wholes", "lists"] (sp_answer_call A K) := ok_answer_call T U
  have SC := sc_answers
  refine F.ok SC (fun vs H Q E h => len_answers h) (fun cdv A0 outer s H vs Q E hr h => ⟨t_answers A K, ?_, pure_answers T vs H Q E h⟩)
  exact pss_cons (ps_set (i := 1) SC.nd rfl (Or.inl rfl) (pe_makeO0 T.Land.made (O_Land___init__) (hr.mono (by decide)) rfl T.Land.mg))
    (pss_cons (ps_set (i := 2) SC.nd rfl (Or.inl rfl) (pe_lst (pa_nil)))
    (pss_cons (ps_set (i := 3) SC.nd rfl (Or.inl rfl) (pe_int))
    (pss_cons (ps_while PassesOwn.never (pt_cmpR op_lt (pv 3) (pe_callB call_len_seq rfl T.g.b_len boot_len (pa_cons (pv 0) (pa_nil))) (nomark _)) (pss_cons (ps_set (i := 4) SC.nd rfl (Or.inl rfl) (pe_ix ix_list (pv 0) (pv 3) (fun _ _ => rfl)))
    (pss_cons (ps_set (i := 5) SC.nd rfl (Or.inl rfl) (pe_ix ix_list (pv 0) (pe_op op_add (pv 3) (pe_int)) (fun _ _ => rfl)))
    (pss_cons (ps_set (i := 6) SC.nd rfl (Or.inl rfl) (pe_slice sl_list (pv 0) (po_some (pe_op op_add (pv 3) (pe_int))) (po_some (pe_op op_add (pe_op op_add (pv 3) (pe_int)) (pv 5)))))
    (pss_cons (ps_aug (i := 3) SC.nd rfl (Or.inl rfl) (pe_op op_add (pe_int) (pv 5)) ip_add)
    (pss_cons (ps_set (i := 7) SC.nd rfl (Or.inl rfl) (pe_lst (pa_nil)))
    (pss_cons (ps_set (i := 5) SC.nd rfl (Or.inl rfl) (pe_ix ix_list (pv 0) (pv 3) (fun _ _ => rfl)))
    (pss_cons (ps_aug (i := 3) SC.nd rfl (Or.inl rfl) (pe_int) ip_add)
    (pss_cons (ps_for PassesOwn.never rfl (pi_range1 rfl T.g.b_range (pa_cons (pv 5) (pa_nil))) (pg_name (i := 8) SC.nd rfl (Or.inl rfl)) (pss_cons (ps_set (i := 9) SC.nd rfl (Or.inl rfl) (pe_ix ix_list (pv 0) (pv 3) (fun _ _ => rfl)))
    (pss_cons (ps_expr (pe_bm PySem.F.plainAttrs_list PySem.F.slot_list_append PySem.F.type_list_append mt_append (pv 7) (pa_cons (pe_slice sl_list (pv 0) (po_some (pe_op op_add (pv 3) (pe_int))) (po_some (pe_op op_add (pe_op op_add (pv 3) (pe_int)) (pv 9)))) (pa_nil))))
    (pss_one (ps_aug (i := 3) SC.nd rfl (Or.inl rfl) (pe_op op_add (pe_int) (pv 9)) ip_add)))))
    (pss_cons (ps_if (pt_cmpR op_eq (pv 4) (pe_int) (nomark _)) (pss_cons (ps_set (i := 1) SC.nd rfl (Or.inl rfl) (pe_makeO0 T.Land.made (O_Land___init__) (hr.mono (by decide)) rfl T.Land.mg))
    (pss_one (ps_set (i := 10) SC.nd rfl (Or.inl rfl) (pe_lst (pa_cons (pe_int) (pa_nil)))))) (pss_one (ps_set (i := 10) SC.nd rfl (Or.inl rfl) (pe_callO (O_answer_call) (hr.mono (by decide)) rfl T.g.m_answer_call T.g.k_answer_call (pa_cons (pv 1) (pa_cons (pv 4) (pa_cons (pv 6) (pa_cons (pv 7) (pa_nil)))))))))
    (pss_cons (ps_expr (pe_bm PySem.F.plainAttrs_list PySem.F.slot_list_append PySem.F.type_list_append mt_append (pv 2) (pa_cons (pe_callB call_len_seq rfl T.g.b_len boot_len (pa_cons (pv 10) (pa_nil))) (pa_nil))))
    (pss_one (ps_expr (pe_bm PySem.F.plainAttrs_list PySem.F.slot_list_extend PySem.F.type_list_extend mt_extend (pv 2) (pa_cons (pv 10) (pa_nil))))))))))))))))
    (pss_one (ps_ret (pv 2))))))

end

/-! ### the end: what the top has written -/
section
variable {K : PySem.W.Frag} {C f : Addr} {m qual : Str} {st : Stmt} {od an : Option Addr} {osl : Array (Option Value)} {oc kV doc pm cdv ct : Value}
def MthB (K : PySem.W.Frag) (C : Addr) (m qual : Str) (st : Stmt) (f : Addr) : Prop := Meth K C m f ∧ ∃ fd, Fun K m qual st f fd
theorem mth_mk (a : PySem.W.findIn K (.ref C) m = some (some (.ref f))) (i : PySem.W.isFn K (.ref f) = true) (l : K.lookup f = some ⟨oc, od, .func (PySem.W.fnOf m qual (defArgs st) (defBody st) (defScope st) .none kV doc pm an cdv ct), osl⟩) (c : PySem.W.codeIn K cdv qual = true) (k : PySem.W.keepIn K (.ref f) = true) : MthB K C m qual st f := ⟨⟨a, i, k⟩, _, fun_mk l c k⟩
def IniB (K : PySem.W.Frag) (C : Addr) (qual : Str) (st : Stmt) (f : Addr) : Prop := Mk K C f ∧ ∃ fd, Fun K "__init__" qual st f fd
theorem ini_mk (mk : PySem.W.makesIn K C = true) (kc : PySem.W.keepIn K (.ref C) = true) (a : PySem.W.findIn K (.ref C) "__init__" = some (some (.ref f))) (i : PySem.W.isFn K (.ref f) = true) (l : K.lookup f = some ⟨oc, od, .func (PySem.W.fnOf "__init__" qual (defArgs st) (defBody st) (defScope st) .none kV doc pm an cdv ct), osl⟩) (c : PySem.W.codeIn K cdv qual = true) (k : PySem.W.keepIn K (.ref f) = true) : IniB K C qual st f := ⟨⟨mk, a, i, kc⟩, _, fun_mk l c k⟩
def DefB (K : PySem.W.Frag) (x : Str) (st : Stmt) (f : Addr) : Prop := PySem.W.nsIn K mainGlobals x = some (some (.ref f)) ∧ PySem.W.keepIn K (.ref f) = true ∧ ∃ fd, Fun K x x st f fd
theorem def_mk {x : Str} (a : PySem.W.nsIn K mainGlobals x = some (some (.ref f))) (l : K.lookup f = some ⟨oc, od, .func (PySem.W.fnOf x x (defArgs st) (defBody st) (defScope st) .none kV doc pm an cdv ct), osl⟩) (c : PySem.W.codeIn K cdv x = true) (k : PySem.W.keepIn K (.ref f) = true) : DefB K x st f := ⟨a, k, _, fun_mk l c k⟩
def ClsB (K : PySem.W.Frag) (x : Str) (C : Addr) : Prop := PySem.W.nsIn K mainGlobals x = some (some (.ref C)) ∧ Cls K C
theorem cls_mk {x : Str} (a : PySem.W.nsIn K mainGlobals x = some (some (.ref C))) (pg : PySem.W.plainGet K C Str.empty = true) (hd : PySem.W.hasDictIn K C = true) (po : PySem.W.plainOver K C = true) (sa : PySem.W.findIn K (.ref C) "__setattr__" = some (some (.builtin "object.__setattr__"))) : ClsB K x C := ⟨a, pg, hd, po, sa⟩
def ConB (K : PySem.W.Frag) (x : Str) (n : Int) : Prop := ∃ t, PySem.W.nsIn K mainGlobals x = some (some (.int n t))
theorem con_mk {x : Str} {n : Int} {t : Tok} (a : PySem.W.nsIn K mainGlobals x = some (some (.int n t))) : ConB K x n := ⟨t, a⟩
end
def spAns (K : PySem.W.Frag) : Sp := fun vs H Q _ => ∃ a l, vs = [.ref a] ∧ SqL K H a (intsV l) ∧ PyKg85.answers_asked l = true ∧ ∀ (H' : Hp) (p : Addr), H' p = some (.lst (intsV (PyKg85.answers l))) → Q (.ref p) H'
theorem all_mk {P : Program} {w : World} {K : PySem.W.Frag} {h : Heap} {mg : Str → Option Value} {fa c_Section c_Device c_Polder c_Rules c_Block c_Plot c_Square c_Land f_Rules___init__ f_Block___init__ f_Plot___init__ f_Plot_has_ground f_Plot_is_there f_Plot_place_of f_Plot_apart f_Plot_how_far f_Plot_inward f_Plot_height_of f_Plot_most_floors f_Plot_is_near_street f_Plot_is_near_others f_Plot_is_open f_Plot_floors_on f_Plot_all_floors f_Plot_built f_Plot_wanted f_Plot_houses f_Plot_beside f_Plot_are_near f_Plot_near_pairs f_Plot_amounts f_Plot_broken f_Plot_most_of f_Plot_best f_Plot_set_rules f_Plot_add_block f_Plot_drop f_Plot_pave f_Plot_tell_check f_Plot_tell_square f_Plot_tell_houses f_Plot_tell_sums f_Plot_answer f_Section___init__ f_Section_level f_Device___init__ f_Polder___init__ f_Polder_sea f_Polder_is_section f_Polder_add_section f_Polder_add_device f_Polder_add_weir f_Polder_add_pump f_Polder_add_sluice f_Polder_add_inlet f_Polder_set_device f_Polder_would_run f_Polder_would_move f_Polder_take_turn f_Polder_step f_Polder_run f_Polder_tell_levels f_Polder_tell_device f_Polder_tell_sums f_Polder_answer f_Square___init__ f_Land___init__ f_Land_water_call f_Land_plot_call f_Land_set_map f_Land_level_of f_Land_depth f_Land_drowned f_Land_sums f_Land_storm f_Land_tell_square f_Land_tell_wet f_Land_harm f_Land_tell_harm f_Land_tell_safe f_Land_lift f_Land_tell_check f_are_rules f_is_ground f_plot_form f_is_level f_are_steps f_is_tide f_polder_form f_is_call f_answers f_answer_call : Addr} (X : K.In h) (G : h.Ns mainGlobals mg) (hfa : mg "answers" = some (.ref fa))
    (C_Section : ClsB K "Section" c_Section)
    (I_Section : IniB K c_Section "Section.__init__" s_Section___init__ f_Section___init__)
    (n_Section_area : PySem.W.findIn K (.ref c_Section) "area" = some none)
    (n_Section_water : PySem.W.findIn K (.ref c_Section) "water" = some none)
    (n_Section_alarm : PySem.W.findIn K (.ref c_Section) "alarm" = some none)
    (n_Section_alarms : PySem.W.findIn K (.ref c_Section) "alarms" = some none)
    (m_Section_level : MthB K c_Section "level" "Section.level" s_Section_level f_Section_level)
    (C_Device : ClsB K "Device" c_Device)
    (I_Device : IniB K c_Device "Device.__init__" s_Device___init__ f_Device___init__)
    (n_Device_kind : PySem.W.findIn K (.ref c_Device) "kind" = some none)
    (n_Device_section : PySem.W.findIn K (.ref c_Device) "section" = some none)
    (n_Device_target : PySem.W.findIn K (.ref c_Device) "target" = some none)
    (n_Device_mark : PySem.W.findIn K (.ref c_Device) "mark" = some none)
    (n_Device_amount : PySem.W.findIn K (.ref c_Device) "amount" = some none)
    (n_Device_stop : PySem.W.findIn K (.ref c_Device) "stop" = some none)
    (n_Device_is_running : PySem.W.findIn K (.ref c_Device) "is_running" = some none)
    (n_Device_moved : PySem.W.findIn K (.ref c_Device) "moved" = some none)
    (n_Device_turns : PySem.W.findIn K (.ref c_Device) "turns" = some none)
    (C_Polder : ClsB K "Polder" c_Polder)
    (I_Polder : IniB K c_Polder "Polder.__init__" s_Polder___init__ f_Polder___init__)
    (n_Polder_tide : PySem.W.findIn K (.ref c_Polder) "tide" = some none)
    (n_Polder_time : PySem.W.findIn K (.ref c_Polder) "time" = some none)
    (n_Polder_sections : PySem.W.findIn K (.ref c_Polder) "sections" = some none)
    (n_Polder_devices : PySem.W.findIn K (.ref c_Polder) "devices" = some none)
    (n_Polder_rained : PySem.W.findIn K (.ref c_Polder) "rained" = some none)
    (n_Polder_dried : PySem.W.findIn K (.ref c_Polder) "dried" = some none)
    (n_Polder_let_in : PySem.W.findIn K (.ref c_Polder) "let_in" = some none)
    (n_Polder_let_out : PySem.W.findIn K (.ref c_Polder) "let_out" = some none)
    (m_Polder_sea : MthB K c_Polder "sea" "Polder.sea" s_Polder_sea f_Polder_sea)
    (m_Polder_is_section : MthB K c_Polder "is_section" "Polder.is_section" s_Polder_is_section f_Polder_is_section)
    (m_Polder_add_section : MthB K c_Polder "add_section" "Polder.add_section" s_Polder_add_section f_Polder_add_section)
    (m_Polder_add_device : MthB K c_Polder "add_device" "Polder.add_device" s_Polder_add_device f_Polder_add_device)
    (m_Polder_add_weir : MthB K c_Polder "add_weir" "Polder.add_weir" s_Polder_add_weir f_Polder_add_weir)
    (m_Polder_add_pump : MthB K c_Polder "add_pump" "Polder.add_pump" s_Polder_add_pump f_Polder_add_pump)
    (m_Polder_add_sluice : MthB K c_Polder "add_sluice" "Polder.add_sluice" s_Polder_add_sluice f_Polder_add_sluice)
    (m_Polder_add_inlet : MthB K c_Polder "add_inlet" "Polder.add_inlet" s_Polder_add_inlet f_Polder_add_inlet)
    (m_Polder_set_device : MthB K c_Polder "set_device" "Polder.set_device" s_Polder_set_device f_Polder_set_device)
    (m_Polder_would_run : MthB K c_Polder "would_run" "Polder.would_run" s_Polder_would_run f_Polder_would_run)
    (m_Polder_would_move : MthB K c_Polder "would_move" "Polder.would_move" s_Polder_would_move f_Polder_would_move)
    (m_Polder_take_turn : MthB K c_Polder "take_turn" "Polder.take_turn" s_Polder_take_turn f_Polder_take_turn)
    (m_Polder_step : MthB K c_Polder "step" "Polder.step" s_Polder_step f_Polder_step)
    (m_Polder_run : MthB K c_Polder "run" "Polder.run" s_Polder_run f_Polder_run)
    (m_Polder_tell_levels : MthB K c_Polder "tell_levels" "Polder.tell_levels" s_Polder_tell_levels f_Polder_tell_levels)
    (m_Polder_tell_device : MthB K c_Polder "tell_device" "Polder.tell_device" s_Polder_tell_device f_Polder_tell_device)
    (m_Polder_tell_sums : MthB K c_Polder "tell_sums" "Polder.tell_sums" s_Polder_tell_sums f_Polder_tell_sums)
    (m_Polder_answer : MthB K c_Polder "answer" "Polder.answer" s_Polder_answer f_Polder_answer)
    (C_Rules : ClsB K "Rules" c_Rules)
    (I_Rules : IniB K c_Rules "Rules.__init__" s_Rules___init__ f_Rules___init__)
    (n_Rules_front : PySem.W.findIn K (.ref c_Rules) "front" = some none)
    (n_Rules_side : PySem.W.findIn K (.ref c_Rules) "side" = some none)
    (n_Rules_base : PySem.W.findIn K (.ref c_Rules) "base" = some none)
    (n_Rules_rise : PySem.W.findIn K (.ref c_Rules) "rise" = some none)
    (n_Rules_top : PySem.W.findIn K (.ref c_Rules) "top" = some none)
    (n_Rules_floor : PySem.W.findIn K (.ref c_Rules) "floor" = some none)
    (n_Rules_covered : PySem.W.findIn K (.ref c_Rules) "covered" = some none)
    (n_Rules_floors : PySem.W.findIn K (.ref c_Rules) "floors" = some none)
    (n_Rules_green : PySem.W.findIn K (.ref c_Rules) "green" = some none)
    (n_Rules_car : PySem.W.findIn K (.ref c_Rules) "car" = some none)
    (n_Rules_gap : PySem.W.findIn K (.ref c_Rules) "gap" = some none)
    (C_Block : ClsB K "Block" c_Block)
    (I_Block : IniB K c_Block "Block.__init__" s_Block___init__ f_Block___init__)
    (n_Block_x : PySem.W.findIn K (.ref c_Block) "x" = some none)
    (n_Block_y : PySem.W.findIn K (.ref c_Block) "y" = some none)
    (n_Block_x2 : PySem.W.findIn K (.ref c_Block) "x2" = some none)
    (n_Block_y2 : PySem.W.findIn K (.ref c_Block) "y2" = some none)
    (n_Block_floors : PySem.W.findIn K (.ref c_Block) "floors" = some none)
    (C_Plot : ClsB K "Plot" c_Plot)
    (I_Plot : IniB K c_Plot "Plot.__init__" s_Plot___init__ f_Plot___init__)
    (n_Plot_across : PySem.W.findIn K (.ref c_Plot) "across" = some none)
    (n_Plot_squares : PySem.W.findIn K (.ref c_Plot) "squares" = some none)
    (n_Plot_down : PySem.W.findIn K (.ref c_Plot) "down" = some none)
    (n_Plot_area : PySem.W.findIn K (.ref c_Plot) "area" = some none)
    (n_Plot_rules : PySem.W.findIn K (.ref c_Plot) "rules" = some none)
    (n_Plot_blocks : PySem.W.findIn K (.ref c_Plot) "blocks" = some none)
    (n_Plot_paved : PySem.W.findIn K (.ref c_Plot) "paved" = some none)
    (n_Plot_spaces : PySem.W.findIn K (.ref c_Plot) "spaces" = some none)
    (m_Plot_has_ground : MthB K c_Plot "has_ground" "Plot.has_ground" s_Plot_has_ground f_Plot_has_ground)
    (m_Plot_is_there : MthB K c_Plot "is_there" "Plot.is_there" s_Plot_is_there f_Plot_is_there)
    (m_Plot_place_of : MthB K c_Plot "place_of" "Plot.place_of" s_Plot_place_of f_Plot_place_of)
    (m_Plot_apart : MthB K c_Plot "apart" "Plot.apart" s_Plot_apart f_Plot_apart)
    (m_Plot_how_far : MthB K c_Plot "how_far" "Plot.how_far" s_Plot_how_far f_Plot_how_far)
    (m_Plot_inward : MthB K c_Plot "inward" "Plot.inward" s_Plot_inward f_Plot_inward)
    (m_Plot_height_of : MthB K c_Plot "height_of" "Plot.height_of" s_Plot_height_of f_Plot_height_of)
    (m_Plot_most_floors : MthB K c_Plot "most_floors" "Plot.most_floors" s_Plot_most_floors f_Plot_most_floors)
    (m_Plot_is_near_street : MthB K c_Plot "is_near_street" "Plot.is_near_street" s_Plot_is_near_street f_Plot_is_near_street)
    (m_Plot_is_near_others : MthB K c_Plot "is_near_others" "Plot.is_near_others" s_Plot_is_near_others f_Plot_is_near_others)
    (m_Plot_is_open : MthB K c_Plot "is_open" "Plot.is_open" s_Plot_is_open f_Plot_is_open)
    (m_Plot_floors_on : MthB K c_Plot "floors_on" "Plot.floors_on" s_Plot_floors_on f_Plot_floors_on)
    (m_Plot_all_floors : MthB K c_Plot "all_floors" "Plot.all_floors" s_Plot_all_floors f_Plot_all_floors)
    (m_Plot_built : MthB K c_Plot "built" "Plot.built" s_Plot_built f_Plot_built)
    (m_Plot_wanted : MthB K c_Plot "wanted" "Plot.wanted" s_Plot_wanted f_Plot_wanted)
    (m_Plot_houses : MthB K c_Plot "houses" "Plot.houses" s_Plot_houses f_Plot_houses)
    (m_Plot_beside : MthB K c_Plot "beside" "Plot.beside" s_Plot_beside f_Plot_beside)
    (m_Plot_are_near : MthB K c_Plot "are_near" "Plot.are_near" s_Plot_are_near f_Plot_are_near)
    (m_Plot_near_pairs : MthB K c_Plot "near_pairs" "Plot.near_pairs" s_Plot_near_pairs f_Plot_near_pairs)
    (m_Plot_amounts : MthB K c_Plot "amounts" "Plot.amounts" s_Plot_amounts f_Plot_amounts)
    (m_Plot_broken : MthB K c_Plot "broken" "Plot.broken" s_Plot_broken f_Plot_broken)
    (m_Plot_most_of : MthB K c_Plot "most_of" "Plot.most_of" s_Plot_most_of f_Plot_most_of)
    (m_Plot_best : MthB K c_Plot "best" "Plot.best" s_Plot_best f_Plot_best)
    (m_Plot_set_rules : MthB K c_Plot "set_rules" "Plot.set_rules" s_Plot_set_rules f_Plot_set_rules)
    (m_Plot_add_block : MthB K c_Plot "add_block" "Plot.add_block" s_Plot_add_block f_Plot_add_block)
    (m_Plot_drop : MthB K c_Plot "drop" "Plot.drop" s_Plot_drop f_Plot_drop)
    (m_Plot_pave : MthB K c_Plot "pave" "Plot.pave" s_Plot_pave f_Plot_pave)
    (m_Plot_tell_check : MthB K c_Plot "tell_check" "Plot.tell_check" s_Plot_tell_check f_Plot_tell_check)
    (m_Plot_tell_square : MthB K c_Plot "tell_square" "Plot.tell_square" s_Plot_tell_square f_Plot_tell_square)
    (m_Plot_tell_houses : MthB K c_Plot "tell_houses" "Plot.tell_houses" s_Plot_tell_houses f_Plot_tell_houses)
    (m_Plot_tell_sums : MthB K c_Plot "tell_sums" "Plot.tell_sums" s_Plot_tell_sums f_Plot_tell_sums)
    (m_Plot_answer : MthB K c_Plot "answer" "Plot.answer" s_Plot_answer f_Plot_answer)
    (C_Square : ClsB K "Square" c_Square)
    (I_Square : IniB K c_Square "Square.__init__" s_Square___init__ f_Square___init__)
    (n_Square_section : PySem.W.findIn K (.ref c_Square) "section" = some none)
    (n_Square_height : PySem.W.findIn K (.ref c_Square) "height" = some none)
    (n_Square_peak : PySem.W.findIn K (.ref c_Square) "peak" = some none)
    (n_Square_wet : PySem.W.findIn K (.ref c_Square) "wet" = some none)
    (C_Land : ClsB K "Land" c_Land)
    (I_Land : IniB K c_Land "Land.__init__" s_Land___init__ f_Land___init__)
    (n_Land_polder : PySem.W.findIn K (.ref c_Land) "polder" = some none)
    (n_Land_plot : PySem.W.findIn K (.ref c_Land) "plot" = some none)
    (n_Land_chart : PySem.W.findIn K (.ref c_Land) "chart" = some none)
    (n_Land_raised : PySem.W.findIn K (.ref c_Land) "raised" = some none)
    (m_Land_water_call : MthB K c_Land "water_call" "Land.water_call" s_Land_water_call f_Land_water_call)
    (m_Land_plot_call : MthB K c_Land "plot_call" "Land.plot_call" s_Land_plot_call f_Land_plot_call)
    (m_Land_set_map : MthB K c_Land "set_map" "Land.set_map" s_Land_set_map f_Land_set_map)
    (m_Land_level_of : MthB K c_Land "level_of" "Land.level_of" s_Land_level_of f_Land_level_of)
    (m_Land_depth : MthB K c_Land "depth" "Land.depth" s_Land_depth f_Land_depth)
    (m_Land_drowned : MthB K c_Land "drowned" "Land.drowned" s_Land_drowned f_Land_drowned)
    (m_Land_sums : MthB K c_Land "sums" "Land.sums" s_Land_sums f_Land_sums)
    (m_Land_storm : MthB K c_Land "storm" "Land.storm" s_Land_storm f_Land_storm)
    (m_Land_tell_square : MthB K c_Land "tell_square" "Land.tell_square" s_Land_tell_square f_Land_tell_square)
    (m_Land_tell_wet : MthB K c_Land "tell_wet" "Land.tell_wet" s_Land_tell_wet f_Land_tell_wet)
    (m_Land_harm : MthB K c_Land "harm" "Land.harm" s_Land_harm f_Land_harm)
    (m_Land_tell_harm : MthB K c_Land "tell_harm" "Land.tell_harm" s_Land_tell_harm f_Land_tell_harm)
    (m_Land_tell_safe : MthB K c_Land "tell_safe" "Land.tell_safe" s_Land_tell_safe f_Land_tell_safe)
    (m_Land_lift : MthB K c_Land "lift" "Land.lift" s_Land_lift f_Land_lift)
    (m_Land_tell_check : MthB K c_Land "tell_check" "Land.tell_check" s_Land_tell_check f_Land_tell_check)
    (b_len : PySem.W.nsIn K mainGlobals "len" = some none)
    (b_min : PySem.W.nsIn K mainGlobals "min" = some none)
    (b_max : PySem.W.nsIn K mainGlobals "max" = some none)
    (b_sum : PySem.W.nsIn K mainGlobals "sum" = some none)
    (b_abs : PySem.W.nsIn K mainGlobals "abs" = some none)
    (b_list : PySem.W.nsIn K mainGlobals "list" = some none)
    (b_range : PySem.W.nsIn K mainGlobals "range" = some none)
    (b_enumerate : PySem.W.nsIn K mainGlobals "enumerate" = some none)
    (b_zip : PySem.W.nsIn K mainGlobals "zip" = some none)
    (b_sorted : PySem.W.nsIn K mainGlobals "sorted" = some none)
    (k_OTHERS : ConB K "OTHERS" 0)
    (k_OWN : ConB K "OWN" 1)
    (k_STREET : ConB K "STREET" 2)
    (k_MOST_ACROSS : ConB K "MOST_ACROSS" 12)
    (k_MOST_BOXES : ConB K "MOST_BOXES" 20)
    (k_MOST_FLOORS : ConB K "MOST_FLOORS" 60)
    (k_MOST_PAVED : ConB K "MOST_PAVED" 1000)
    (k_FAR : ConB K "FAR" 1000)
    (k_MOST_LEVEL : ConB K "MOST_LEVEL" 10000)
    (k_MOST_TIDE : ConB K "MOST_TIDE" 30)
    (k_MOST_AREA : ConB K "MOST_AREA" 1000)
    (k_MOST_SECTIONS : ConB K "MOST_SECTIONS" 10)
    (k_MOST_DEVICES : ConB K "MOST_DEVICES" 20)
    (k_MOST_WIDTH : ConB K "MOST_WIDTH" 1000)
    (k_MOST_AMOUNT : ConB K "MOST_AMOUNT" 100000)
    (k_MOST_STEPS : ConB K "MOST_STEPS" 100)
    (k_MOST_RAIN : ConB K "MOST_RAIN" 500)
    (k_OUTSIDE : ConB K "OUTSIDE" (-1))
    (k_WEIR : ConB K "WEIR" 0)
    (k_PUMP : ConB K "PUMP" 1)
    (k_SLUICE : ConB K "SLUICE" 2)
    (k_INLET : ConB K "INLET" 3)
    (k_MOST_HEIGHT : ConB K "MOST_HEIGHT" 10000)
    (k_MOST_HARM : ConB K "MOST_HARM" 2000)
    (k_MOST_RAISED : ConB K "MOST_RAISED" 5000)
    (k_DROWNED_RULE : ConB K "DROWNED_RULE" 10)
    (d_are_rules : DefB K "are_rules" s_are_rules f_are_rules)
    (d_is_ground : DefB K "is_ground" s_is_ground f_is_ground)
    (d_plot_form : DefB K "plot_form" s_plot_form f_plot_form)
    (d_is_level : DefB K "is_level" s_is_level f_is_level)
    (d_are_steps : DefB K "are_steps" s_are_steps f_are_steps)
    (d_is_tide : DefB K "is_tide" s_is_tide f_is_tide)
    (d_polder_form : DefB K "polder_form" s_polder_form f_polder_form)
    (d_is_call : DefB K "is_call" s_is_call f_is_call)
    (d_answers : DefB K "answers" s_answers f_answers)
    (d_answer_call : DefB K "answer_call" s_answer_call f_answer_call)
    : ∃ fd : FuncData, (∀ (s : Shared) (us : List Value), us.length = (["calls"] : List Str).length → BindsTo s fd ⟨us, []⟩ ((["calls"] : List Str).zip us)) ∧ ∀ base : Heap, K.In base → base.Ns mainGlobals mg → FnOk P w K mg base CX0 12 fa fd ["calls"] (spAns K) := by
  have e := hfa.symm.trans (PySem.W.mg_of X G d_answers.1)
  have e2 : fa = f_answers := by
    cases e
    rfl
  subst e2
  have T : Txt K mg ⟨c_Section, c_Device, c_Polder, c_Rules, c_Block, c_Plot, c_Square, c_Land, f_Rules___init__, f_Block___init__, f_Plot___init__, f_Plot_has_ground, f_Plot_is_there, f_Plot_place_of, f_Plot_apart, f_Plot_how_far, f_Plot_inward, f_Plot_height_of, f_Plot_most_floors, f_Plot_is_near_street, f_Plot_is_near_others, f_Plot_is_open, f_Plot_floors_on, f_Plot_all_floors, f_Plot_built, f_Plot_wanted, f_Plot_houses, f_Plot_beside, f_Plot_are_near, f_Plot_near_pairs, f_Plot_amounts, f_Plot_broken, f_Plot_most_of, f_Plot_best, f_Plot_set_rules, f_Plot_add_block, f_Plot_drop, f_Plot_pave, f_Plot_tell_check, f_Plot_tell_square, f_Plot_tell_houses, f_Plot_tell_sums, f_Plot_answer, f_Section___init__, f_Section_level, f_Device___init__, f_Polder___init__, f_Polder_sea, f_Polder_is_section, f_Polder_add_section, f_Polder_add_device, f_Polder_add_weir, f_Polder_add_pump, f_Polder_add_sluice, f_Polder_add_inlet, f_Polder_set_device, f_Polder_would_run, f_Polder_would_move, f_Polder_take_turn, f_Polder_step, f_Polder_run, f_Polder_tell_levels, f_Polder_tell_device, f_Polder_tell_sums, f_Polder_answer, f_Square___init__, f_Land___init__, f_Land_water_call, f_Land_plot_call, f_Land_set_map, f_Land_level_of, f_Land_depth, f_Land_drowned, f_Land_sums, f_Land_storm, f_Land_tell_square, f_Land_tell_wet, f_Land_harm, f_Land_tell_harm, f_Land_tell_safe, f_Land_lift, f_Land_tell_check, f_are_rules, f_is_ground, f_plot_form, f_is_level, f_are_steps, f_is_tide, f_polder_form, f_is_call, fa, f_answer_call⟩ := ⟨⟨C_Section.2, I_Section.1, PySem.W.mg_of X G C_Section.1, n_Section_area, n_Section_water, n_Section_alarm, n_Section_alarms, m_Section_level.1⟩,
    ⟨C_Device.2, I_Device.1, PySem.W.mg_of X G C_Device.1, n_Device_kind, n_Device_section, n_Device_target, n_Device_mark, n_Device_amount, n_Device_stop, n_Device_is_running, n_Device_moved, n_Device_turns⟩,
    ⟨C_Polder.2, I_Polder.1, PySem.W.mg_of X G C_Polder.1, n_Polder_tide, n_Polder_time, n_Polder_sections, n_Polder_devices, n_Polder_rained, n_Polder_dried, n_Polder_let_in, n_Polder_let_out, m_Polder_sea.1, m_Polder_is_section.1, m_Polder_add_section.1, m_Polder_add_device.1, m_Polder_add_weir.1, m_Polder_add_pump.1, m_Polder_add_sluice.1, m_Polder_add_inlet.1, m_Polder_set_device.1, m_Polder_would_run.1, m_Polder_would_move.1, m_Polder_take_turn.1, m_Polder_step.1, m_Polder_run.1, m_Polder_tell_levels.1, m_Polder_tell_device.1, m_Polder_tell_sums.1, m_Polder_answer.1⟩,
    ⟨C_Rules.2, I_Rules.1, PySem.W.mg_of X G C_Rules.1, n_Rules_front, n_Rules_side, n_Rules_base, n_Rules_rise, n_Rules_top, n_Rules_floor, n_Rules_covered, n_Rules_floors, n_Rules_green, n_Rules_car, n_Rules_gap⟩,
    ⟨C_Block.2, I_Block.1, PySem.W.mg_of X G C_Block.1, n_Block_x, n_Block_y, n_Block_x2, n_Block_y2, n_Block_floors⟩,
    ⟨C_Plot.2, I_Plot.1, PySem.W.mg_of X G C_Plot.1, n_Plot_across, n_Plot_squares, n_Plot_down, n_Plot_area, n_Plot_rules, n_Plot_blocks, n_Plot_paved, n_Plot_spaces, m_Plot_has_ground.1, m_Plot_is_there.1, m_Plot_place_of.1, m_Plot_apart.1, m_Plot_how_far.1, m_Plot_inward.1, m_Plot_height_of.1, m_Plot_most_floors.1, m_Plot_is_near_street.1, m_Plot_is_near_others.1, m_Plot_is_open.1, m_Plot_floors_on.1, m_Plot_all_floors.1, m_Plot_built.1, m_Plot_wanted.1, m_Plot_houses.1, m_Plot_beside.1, m_Plot_are_near.1, m_Plot_near_pairs.1, m_Plot_amounts.1, m_Plot_broken.1, m_Plot_most_of.1, m_Plot_best.1, m_Plot_set_rules.1, m_Plot_add_block.1, m_Plot_drop.1, m_Plot_pave.1, m_Plot_tell_check.1, m_Plot_tell_square.1, m_Plot_tell_houses.1, m_Plot_tell_sums.1, m_Plot_answer.1⟩,
    ⟨C_Square.2, I_Square.1, PySem.W.mg_of X G C_Square.1, n_Square_section, n_Square_height, n_Square_peak, n_Square_wet⟩,
    ⟨C_Land.2, I_Land.1, PySem.W.mg_of X G C_Land.1, n_Land_polder, n_Land_plot, n_Land_chart, n_Land_raised, m_Land_water_call.1, m_Land_plot_call.1, m_Land_set_map.1, m_Land_level_of.1, m_Land_depth.1, m_Land_drowned.1, m_Land_sums.1, m_Land_storm.1, m_Land_tell_square.1, m_Land_tell_wet.1, m_Land_harm.1, m_Land_tell_harm.1, m_Land_tell_safe.1, m_Land_lift.1, m_Land_tell_check.1⟩, ⟨PySem.W.mg_none_of X G b_len,
    PySem.W.mg_none_of X G b_min,
    PySem.W.mg_none_of X G b_max,
    PySem.W.mg_none_of X G b_sum,
    PySem.W.mg_none_of X G b_abs,
    PySem.W.mg_none_of X G b_list,
    PySem.W.mg_none_of X G b_range,
    PySem.W.mg_none_of X G b_enumerate,
    PySem.W.mg_none_of X G b_zip,
    PySem.W.mg_none_of X G b_sorted,
    (let ⟨t, q⟩ := k_OTHERS; ⟨t, PySem.W.mg_of X G q⟩),
    (let ⟨t, q⟩ := k_OWN; ⟨t, PySem.W.mg_of X G q⟩),
    (let ⟨t, q⟩ := k_STREET; ⟨t, PySem.W.mg_of X G q⟩),
    (let ⟨t, q⟩ := k_MOST_ACROSS; ⟨t, PySem.W.mg_of X G q⟩),
    (let ⟨t, q⟩ := k_MOST_BOXES; ⟨t, PySem.W.mg_of X G q⟩),
    (let ⟨t, q⟩ := k_MOST_FLOORS; ⟨t, PySem.W.mg_of X G q⟩),
    (let ⟨t, q⟩ := k_MOST_PAVED; ⟨t, PySem.W.mg_of X G q⟩),
    (let ⟨t, q⟩ := k_FAR; ⟨t, PySem.W.mg_of X G q⟩),
    (let ⟨t, q⟩ := k_MOST_LEVEL; ⟨t, PySem.W.mg_of X G q⟩),
    (let ⟨t, q⟩ := k_MOST_TIDE; ⟨t, PySem.W.mg_of X G q⟩),
    (let ⟨t, q⟩ := k_MOST_AREA; ⟨t, PySem.W.mg_of X G q⟩),
    (let ⟨t, q⟩ := k_MOST_SECTIONS; ⟨t, PySem.W.mg_of X G q⟩),
    (let ⟨t, q⟩ := k_MOST_DEVICES; ⟨t, PySem.W.mg_of X G q⟩),
    (let ⟨t, q⟩ := k_MOST_WIDTH; ⟨t, PySem.W.mg_of X G q⟩),
    (let ⟨t, q⟩ := k_MOST_AMOUNT; ⟨t, PySem.W.mg_of X G q⟩),
    (let ⟨t, q⟩ := k_MOST_STEPS; ⟨t, PySem.W.mg_of X G q⟩),
    (let ⟨t, q⟩ := k_MOST_RAIN; ⟨t, PySem.W.mg_of X G q⟩),
    (let ⟨t, q⟩ := k_OUTSIDE; ⟨t, PySem.W.mg_of X G q⟩),
    (let ⟨t, q⟩ := k_WEIR; ⟨t, PySem.W.mg_of X G q⟩),
    (let ⟨t, q⟩ := k_PUMP; ⟨t, PySem.W.mg_of X G q⟩),
    (let ⟨t, q⟩ := k_SLUICE; ⟨t, PySem.W.mg_of X G q⟩),
    (let ⟨t, q⟩ := k_INLET; ⟨t, PySem.W.mg_of X G q⟩),
    (let ⟨t, q⟩ := k_MOST_HEIGHT; ⟨t, PySem.W.mg_of X G q⟩),
    (let ⟨t, q⟩ := k_MOST_HARM; ⟨t, PySem.W.mg_of X G q⟩),
    (let ⟨t, q⟩ := k_MOST_RAISED; ⟨t, PySem.W.mg_of X G q⟩),
    (let ⟨t, q⟩ := k_DROWNED_RULE; ⟨t, PySem.W.mg_of X G q⟩),
    PySem.W.mg_of X G d_are_rules.1,
    d_are_rules.2.1,
    PySem.W.mg_of X G d_is_ground.1,
    d_is_ground.2.1,
    PySem.W.mg_of X G d_plot_form.1,
    d_plot_form.2.1,
    PySem.W.mg_of X G d_is_level.1,
    d_is_level.2.1,
    PySem.W.mg_of X G d_are_steps.1,
    d_are_steps.2.1,
    PySem.W.mg_of X G d_is_tide.1,
    d_is_tide.2.1,
    PySem.W.mg_of X G d_polder_form.1,
    d_polder_form.2.1,
    PySem.W.mg_of X G d_is_call.1,
    d_is_call.2.1,
    PySem.W.mg_of X G d_answers.1,
    d_answers.2.1,
    PySem.W.mg_of X G d_answer_call.1,
    d_answer_call.2.1⟩⟩
  have U : Fns K ⟨c_Section, c_Device, c_Polder, c_Rules, c_Block, c_Plot, c_Square, c_Land, f_Rules___init__, f_Block___init__, f_Plot___init__, f_Plot_has_ground, f_Plot_is_there, f_Plot_place_of, f_Plot_apart, f_Plot_how_far, f_Plot_inward, f_Plot_height_of, f_Plot_most_floors, f_Plot_is_near_street, f_Plot_is_near_others, f_Plot_is_open, f_Plot_floors_on, f_Plot_all_floors, f_Plot_built, f_Plot_wanted, f_Plot_houses, f_Plot_beside, f_Plot_are_near, f_Plot_near_pairs, f_Plot_amounts, f_Plot_broken, f_Plot_most_of, f_Plot_best, f_Plot_set_rules, f_Plot_add_block, f_Plot_drop, f_Plot_pave, f_Plot_tell_check, f_Plot_tell_square, f_Plot_tell_houses, f_Plot_tell_sums, f_Plot_answer, f_Section___init__, f_Section_level, f_Device___init__, f_Polder___init__, f_Polder_sea, f_Polder_is_section, f_Polder_add_section, f_Polder_add_device, f_Polder_add_weir, f_Polder_add_pump, f_Polder_add_sluice, f_Polder_add_inlet, f_Polder_set_device, f_Polder_would_run, f_Polder_would_move, f_Polder_take_turn, f_Polder_step, f_Polder_run, f_Polder_tell_levels, f_Polder_tell_device, f_Polder_tell_sums, f_Polder_answer, f_Square___init__, f_Land___init__, f_Land_water_call, f_Land_plot_call, f_Land_set_map, f_Land_level_of, f_Land_depth, f_Land_drowned, f_Land_sums, f_Land_storm, f_Land_tell_square, f_Land_tell_wet, f_Land_harm, f_Land_tell_harm, f_Land_tell_safe, f_Land_lift, f_Land_tell_check, f_are_rules, f_is_ground, f_plot_form, f_is_level, f_are_steps, f_is_tide, f_polder_form, f_is_call, fa, f_answer_call⟩ := ⟨I_Rules.2, I_Block.2, I_Plot.2, m_Plot_has_ground.2, m_Plot_is_there.2, m_Plot_place_of.2, m_Plot_apart.2, m_Plot_how_far.2, m_Plot_inward.2, m_Plot_height_of.2, m_Plot_most_floors.2, m_Plot_is_near_street.2, m_Plot_is_near_others.2, m_Plot_is_open.2, m_Plot_floors_on.2, m_Plot_all_floors.2, m_Plot_built.2, m_Plot_wanted.2, m_Plot_houses.2, m_Plot_beside.2, m_Plot_are_near.2, m_Plot_near_pairs.2, m_Plot_amounts.2, m_Plot_broken.2, m_Plot_most_of.2, m_Plot_best.2, m_Plot_set_rules.2, m_Plot_add_block.2, m_Plot_drop.2, m_Plot_pave.2, m_Plot_tell_check.2, m_Plot_tell_square.2, m_Plot_tell_houses.2, m_Plot_tell_sums.2, m_Plot_answer.2, I_Section.2, m_Section_level.2, I_Device.2, I_Polder.2, m_Polder_sea.2, m_Polder_is_section.2, m_Polder_add_section.2, m_Polder_add_device.2, m_Polder_add_weir.2, m_Polder_add_pump.2, m_Polder_add_sluice.2, m_Polder_add_inlet.2, m_Polder_set_device.2, m_Polder_would_run.2, m_Polder_would_move.2, m_Polder_take_turn.2, m_Polder_step.2, m_Polder_run.2, m_Polder_tell_levels.2, m_Polder_tell_device.2, m_Polder_tell_sums.2, m_Polder_answer.2, I_Square.2, I_Land.2, m_Land_water_call.2, m_Land_plot_call.2, m_Land_set_map.2, m_Land_level_of.2, m_Land_depth.2, m_Land_drowned.2, m_Land_sums.2, m_Land_storm.2, m_Land_tell_square.2, m_Land_tell_wet.2, m_Land_harm.2, m_Land_tell_harm.2, m_Land_tell_safe.2, m_Land_lift.2, m_Land_tell_check.2, d_are_rules.2.2, d_is_ground.2.2, d_plot_form.2.2, d_is_level.2.2, d_are_steps.2.2, d_is_tide.2.2, d_polder_form.2.2, d_is_call.2.2, d_answers.2.2, d_answer_call.2.2⟩
  obtain ⟨_, _, fd, F⟩ := d_answers
  refine ⟨fd, ?_, fun base _ _ => fn_answers T U F⟩
  obtain ⟨oc, od, kV, doc, pm, an, cdv, ct, osl, rfl, lk, hcd⟩ := F.ex
  exact fun s us hu => match us, hu with | [_], _ => .of_eq rfl

end DL

open PySem PySem.W PyProof.Rows
set_option maxRecDepth 100000 in
set_option maxHeartbeats 0 in
theorem PySem.Challenge.cw_dikelanddesk_s01_answers_holds : PySem.Challenge.rw_dikelanddesk_s01_answers.Holds := by
  w_on; k_headS; (case hw => exact ⟨[.list [.int 1, .int 0, .int 0]], by decide +kernel, by decide +kernel⟩)
  k_fillS
  refine L2.walk_specK (r := PySem.Challenge.rw_dikelanddesk_s01_answers) (k := 12) (CX := L2.CX0) (ps := ["calls"]) (sp := DL.spAns) (by decide +kernel) rfl rfl ⟨rfl, by decide, by decide⟩ (fun w h Y => PySem.W.kIn_of Y) ?F ?S (fun _ _ _ _ z => z)
  case F =>
    intro w mg fa h Y KX G hmg
    refine' DL.all_mk KX G hmg ?C_Section ?I_Section ?n_Section_area ?n_Section_water ?n_Section_alarm ?n_Section_alarms ?m_Section_level ?C_Device ?I_Device ?n_Device_kind ?n_Device_section ?n_Device_target ?n_Device_mark ?n_Device_amount ?n_Device_stop ?n_Device_is_running ?n_Device_moved ?n_Device_turns ?C_Polder ?I_Polder ?n_Polder_tide ?n_Polder_time ?n_Polder_sections ?n_Polder_devices ?n_Polder_rained ?n_Polder_dried ?n_Polder_let_in ?n_Polder_let_out ?m_Polder_sea ?m_Polder_is_section ?m_Polder_add_section ?m_Polder_add_device ?m_Polder_add_weir ?m_Polder_add_pump ?m_Polder_add_sluice ?m_Polder_add_inlet ?m_Polder_set_device ?m_Polder_would_run ?m_Polder_would_move ?m_Polder_take_turn ?m_Polder_step ?m_Polder_run ?m_Polder_tell_levels ?m_Polder_tell_device ?m_Polder_tell_sums ?m_Polder_answer ?C_Rules ?I_Rules ?n_Rules_front ?n_Rules_side ?n_Rules_base ?n_Rules_rise ?n_Rules_top ?n_Rules_floor ?n_Rules_covered ?n_Rules_floors ?n_Rules_green ?n_Rules_car ?n_Rules_gap ?C_Block ?I_Block ?n_Block_x ?n_Block_y ?n_Block_x2 ?n_Block_y2 ?n_Block_floors ?C_Plot ?I_Plot ?n_Plot_across ?n_Plot_squares ?n_Plot_down ?n_Plot_area ?n_Plot_rules ?n_Plot_blocks ?n_Plot_paved ?n_Plot_spaces ?m_Plot_has_ground ?m_Plot_is_there ?m_Plot_place_of ?m_Plot_apart ?m_Plot_how_far ?m_Plot_inward ?m_Plot_height_of ?m_Plot_most_floors ?m_Plot_is_near_street ?m_Plot_is_near_others ?m_Plot_is_open ?m_Plot_floors_on ?m_Plot_all_floors ?m_Plot_built ?m_Plot_wanted ?m_Plot_houses ?m_Plot_beside ?m_Plot_are_near ?m_Plot_near_pairs ?m_Plot_amounts ?m_Plot_broken ?m_Plot_most_of ?m_Plot_best ?m_Plot_set_rules ?m_Plot_add_block ?m_Plot_drop ?m_Plot_pave ?m_Plot_tell_check ?m_Plot_tell_square ?m_Plot_tell_houses ?m_Plot_tell_sums ?m_Plot_answer ?C_Square ?I_Square ?n_Square_section ?n_Square_height ?n_Square_peak ?n_Square_wet ?C_Land ?I_Land ?n_Land_polder ?n_Land_plot ?n_Land_chart ?n_Land_raised ?m_Land_water_call ?m_Land_plot_call ?m_Land_set_map ?m_Land_level_of ?m_Land_depth ?m_Land_drowned ?m_Land_sums ?m_Land_storm ?m_Land_tell_square ?m_Land_tell_wet ?m_Land_harm ?m_Land_tell_harm ?m_Land_tell_safe ?m_Land_lift ?m_Land_tell_check ?b_len ?b_min ?b_max ?b_sum ?b_abs ?b_list ?b_range ?b_enumerate ?b_zip ?b_sorted ?k_OTHERS ?k_OWN ?k_STREET ?k_MOST_ACROSS ?k_MOST_BOXES ?k_MOST_FLOORS ?k_MOST_PAVED ?k_FAR ?k_MOST_LEVEL ?k_MOST_TIDE ?k_MOST_AREA ?k_MOST_SECTIONS ?k_MOST_DEVICES ?k_MOST_WIDTH ?k_MOST_AMOUNT ?k_MOST_STEPS ?k_MOST_RAIN ?k_OUTSIDE ?k_WEIR ?k_PUMP ?k_SLUICE ?k_INLET ?k_MOST_HEIGHT ?k_MOST_HARM ?k_MOST_RAISED ?k_DROWNED_RULE ?d_are_rules ?d_is_ground ?d_plot_form ?d_is_level ?d_are_steps ?d_is_tide ?d_polder_form ?d_is_call ?d_answers ?d_answer_call
    (case C_Section => refine' DL.cls_mk ?a ?pg ?hd ?po ?sa; (case a => k_is); (case pg => k_is); (case hd => k_is); (case po => k_is); (case sa => k_is))
    (case I_Section => refine' DL.ini_mk ?mk ?kc ?a ?i ?l ?c ?k; (case mk => k_is); (case kc => k_is); (case a => k_is); (case i => k_is); (case l => k_is); (case c => k_is); (case k => k_is))
    (case n_Section_area => k_is)
    (case n_Section_water => k_is)
    (case n_Section_alarm => k_is)
    (case n_Section_alarms => k_is)
    (case m_Section_level => refine' DL.mth_mk ?a ?i ?l ?c ?k; (case a => k_is); (case i => k_is); (case l => k_is); (case c => k_is); (case k => k_is))
    (case C_Device => refine' DL.cls_mk ?a ?pg ?hd ?po ?sa; (case a => k_is); (case pg => k_is); (case hd => k_is); (case po => k_is); (case sa => k_is))
    (case I_Device => refine' DL.ini_mk ?mk ?kc ?a ?i ?l ?c ?k; (case mk => k_is); (case kc => k_is); (case a => k_is); (case i => k_is); (case l => k_is); (case c => k_is); (case k => k_is))
    (case n_Device_kind => k_is)
    (case n_Device_section => k_is)
    (case n_Device_target => k_is)
    (case n_Device_mark => k_is)
    (case n_Device_amount => k_is)
    (case n_Device_stop => k_is)
    (case n_Device_is_running => k_is)
    (case n_Device_moved => k_is)
    (case n_Device_turns => k_is)
    (case C_Polder => refine' DL.cls_mk ?a ?pg ?hd ?po ?sa; (case a => k_is); (case pg => k_is); (case hd => k_is); (case po => k_is); (case sa => k_is))
    (case I_Polder => refine' DL.ini_mk ?mk ?kc ?a ?i ?l ?c ?k; (case mk => k_is); (case kc => k_is); (case a => k_is); (case i => k_is); (case l => k_is); (case c => k_is); (case k => k_is))
    (case n_Polder_tide => k_is)
    (case n_Polder_time => k_is)
    (case n_Polder_sections => k_is)
    (case n_Polder_devices => k_is)
    (case n_Polder_rained => k_is)
    (case n_Polder_dried => k_is)
    (case n_Polder_let_in => k_is)
    (case n_Polder_let_out => k_is)
    (case m_Polder_sea => refine' DL.mth_mk ?a ?i ?l ?c ?k; (case a => k_is); (case i => k_is); (case l => k_is); (case c => k_is); (case k => k_is))
    (case m_Polder_is_section => refine' DL.mth_mk ?a ?i ?l ?c ?k; (case a => k_is); (case i => k_is); (case l => k_is); (case c => k_is); (case k => k_is))
    (case m_Polder_add_section => refine' DL.mth_mk ?a ?i ?l ?c ?k; (case a => k_is); (case i => k_is); (case l => k_is); (case c => k_is); (case k => k_is))
    (case m_Polder_add_device => refine' DL.mth_mk ?a ?i ?l ?c ?k; (case a => k_is); (case i => k_is); (case l => k_is); (case c => k_is); (case k => k_is))
    (case m_Polder_add_weir => refine' DL.mth_mk ?a ?i ?l ?c ?k; (case a => k_is); (case i => k_is); (case l => k_is); (case c => k_is); (case k => k_is))
    (case m_Polder_add_pump => refine' DL.mth_mk ?a ?i ?l ?c ?k; (case a => k_is); (case i => k_is); (case l => k_is); (case c => k_is); (case k => k_is))
    (case m_Polder_add_sluice => refine' DL.mth_mk ?a ?i ?l ?c ?k; (case a => k_is); (case i => k_is); (case l => k_is); (case c => k_is); (case k => k_is))
    (case m_Polder_add_inlet => refine' DL.mth_mk ?a ?i ?l ?c ?k; (case a => k_is); (case i => k_is); (case l => k_is); (case c => k_is); (case k => k_is))
    (case m_Polder_set_device => refine' DL.mth_mk ?a ?i ?l ?c ?k; (case a => k_is); (case i => k_is); (case l => k_is); (case c => k_is); (case k => k_is))
    (case m_Polder_would_run => refine' DL.mth_mk ?a ?i ?l ?c ?k; (case a => k_is); (case i => k_is); (case l => k_is); (case c => k_is); (case k => k_is))
    (case m_Polder_would_move => refine' DL.mth_mk ?a ?i ?l ?c ?k; (case a => k_is); (case i => k_is); (case l => k_is); (case c => k_is); (case k => k_is))
    (case m_Polder_take_turn => refine' DL.mth_mk ?a ?i ?l ?c ?k; (case a => k_is); (case i => k_is); (case l => k_is); (case c => k_is); (case k => k_is))
    (case m_Polder_step => refine' DL.mth_mk ?a ?i ?l ?c ?k; (case a => k_is); (case i => k_is); (case l => k_is); (case c => k_is); (case k => k_is))
    (case m_Polder_run => refine' DL.mth_mk ?a ?i ?l ?c ?k; (case a => k_is); (case i => k_is); (case l => k_is); (case c => k_is); (case k => k_is))
    (case m_Polder_tell_levels => refine' DL.mth_mk ?a ?i ?l ?c ?k; (case a => k_is); (case i => k_is); (case l => k_is); (case c => k_is); (case k => k_is))
    (case m_Polder_tell_device => refine' DL.mth_mk ?a ?i ?l ?c ?k; (case a => k_is); (case i => k_is); (case l => k_is); (case c => k_is); (case k => k_is))
    (case m_Polder_tell_sums => refine' DL.mth_mk ?a ?i ?l ?c ?k; (case a => k_is); (case i => k_is); (case l => k_is); (case c => k_is); (case k => k_is))
    (case m_Polder_answer => refine' DL.mth_mk ?a ?i ?l ?c ?k; (case a => k_is); (case i => k_is); (case l => k_is); (case c => k_is); (case k => k_is))
    (case C_Rules => refine' DL.cls_mk ?a ?pg ?hd ?po ?sa; (case a => k_is); (case pg => k_is); (case hd => k_is); (case po => k_is); (case sa => k_is))
    (case I_Rules => refine' DL.ini_mk ?mk ?kc ?a ?i ?l ?c ?k; (case mk => k_is); (case kc => k_is); (case a => k_is); (case i => k_is); (case l => k_is); (case c => k_is); (case k => k_is))
    (case n_Rules_front => k_is)
    (case n_Rules_side => k_is)
    (case n_Rules_base => k_is)
    (case n_Rules_rise => k_is)
    (case n_Rules_top => k_is)
    (case n_Rules_floor => k_is)
    (case n_Rules_covered => k_is)
    (case n_Rules_floors => k_is)
    (case n_Rules_green => k_is)
    (case n_Rules_car => k_is)
    (case n_Rules_gap => k_is)
    (case C_Block => refine' DL.cls_mk ?a ?pg ?hd ?po ?sa; (case a => k_is); (case pg => k_is); (case hd => k_is); (case po => k_is); (case sa => k_is))
    (case I_Block => refine' DL.ini_mk ?mk ?kc ?a ?i ?l ?c ?k; (case mk => k_is); (case kc => k_is); (case a => k_is); (case i => k_is); (case l => k_is); (case c => k_is); (case k => k_is))
    (case n_Block_x => k_is)
    (case n_Block_y => k_is)
    (case n_Block_x2 => k_is)
    (case n_Block_y2 => k_is)
    (case n_Block_floors => k_is)
    (case C_Plot => refine' DL.cls_mk ?a ?pg ?hd ?po ?sa; (case a => k_is); (case pg => k_is); (case hd => k_is); (case po => k_is); (case sa => k_is))
    (case I_Plot => refine' DL.ini_mk ?mk ?kc ?a ?i ?l ?c ?k; (case mk => k_is); (case kc => k_is); (case a => k_is); (case i => k_is); (case l => k_is); (case c => k_is); (case k => k_is))
    (case n_Plot_across => k_is)
    (case n_Plot_squares => k_is)
    (case n_Plot_down => k_is)
    (case n_Plot_area => k_is)
    (case n_Plot_rules => k_is)
    (case n_Plot_blocks => k_is)
    (case n_Plot_paved => k_is)
    (case n_Plot_spaces => k_is)
    (case m_Plot_has_ground => refine' DL.mth_mk ?a ?i ?l ?c ?k; (case a => k_is); (case i => k_is); (case l => k_is); (case c => k_is); (case k => k_is))
    (case m_Plot_is_there => refine' DL.mth_mk ?a ?i ?l ?c ?k; (case a => k_is); (case i => k_is); (case l => k_is); (case c => k_is); (case k => k_is))
    (case m_Plot_place_of => refine' DL.mth_mk ?a ?i ?l ?c ?k; (case a => k_is); (case i => k_is); (case l => k_is); (case c => k_is); (case k => k_is))
    (case m_Plot_apart => refine' DL.mth_mk ?a ?i ?l ?c ?k; (case a => k_is); (case i => k_is); (case l => k_is); (case c => k_is); (case k => k_is))
    (case m_Plot_how_far => refine' DL.mth_mk ?a ?i ?l ?c ?k; (case a => k_is); (case i => k_is); (case l => k_is); (case c => k_is); (case k => k_is))
    (case m_Plot_inward => refine' DL.mth_mk ?a ?i ?l ?c ?k; (case a => k_is); (case i => k_is); (case l => k_is); (case c => k_is); (case k => k_is))
    (case m_Plot_height_of => refine' DL.mth_mk ?a ?i ?l ?c ?k; (case a => k_is); (case i => k_is); (case l => k_is); (case c => k_is); (case k => k_is))
    (case m_Plot_most_floors => refine' DL.mth_mk ?a ?i ?l ?c ?k; (case a => k_is); (case i => k_is); (case l => k_is); (case c => k_is); (case k => k_is))
    (case m_Plot_is_near_street => refine' DL.mth_mk ?a ?i ?l ?c ?k; (case a => k_is); (case i => k_is); (case l => k_is); (case c => k_is); (case k => k_is))
    (case m_Plot_is_near_others => refine' DL.mth_mk ?a ?i ?l ?c ?k; (case a => k_is); (case i => k_is); (case l => k_is); (case c => k_is); (case k => k_is))
    (case m_Plot_is_open => refine' DL.mth_mk ?a ?i ?l ?c ?k; (case a => k_is); (case i => k_is); (case l => k_is); (case c => k_is); (case k => k_is))
    (case m_Plot_floors_on => refine' DL.mth_mk ?a ?i ?l ?c ?k; (case a => k_is); (case i => k_is); (case l => k_is); (case c => k_is); (case k => k_is))
    (case m_Plot_all_floors => refine' DL.mth_mk ?a ?i ?l ?c ?k; (case a => k_is); (case i => k_is); (case l => k_is); (case c => k_is); (case k => k_is))
    (case m_Plot_built => refine' DL.mth_mk ?a ?i ?l ?c ?k; (case a => k_is); (case i => k_is); (case l => k_is); (case c => k_is); (case k => k_is))
    (case m_Plot_wanted => refine' DL.mth_mk ?a ?i ?l ?c ?k; (case a => k_is); (case i => k_is); (case l => k_is); (case c => k_is); (case k => k_is))
    (case m_Plot_houses => refine' DL.mth_mk ?a ?i ?l ?c ?k; (case a => k_is); (case i => k_is); (case l => k_is); (case c => k_is); (case k => k_is))
    (case m_Plot_beside => refine' DL.mth_mk ?a ?i ?l ?c ?k; (case a => k_is); (case i => k_is); (case l => k_is); (case c => k_is); (case k => k_is))
    (case m_Plot_are_near => refine' DL.mth_mk ?a ?i ?l ?c ?k; (case a => k_is); (case i => k_is); (case l => k_is); (case c => k_is); (case k => k_is))
    (case m_Plot_near_pairs => refine' DL.mth_mk ?a ?i ?l ?c ?k; (case a => k_is); (case i => k_is); (case l => k_is); (case c => k_is); (case k => k_is))
    (case m_Plot_amounts => refine' DL.mth_mk ?a ?i ?l ?c ?k; (case a => k_is); (case i => k_is); (case l => k_is); (case c => k_is); (case k => k_is))
    (case m_Plot_broken => refine' DL.mth_mk ?a ?i ?l ?c ?k; (case a => k_is); (case i => k_is); (case l => k_is); (case c => k_is); (case k => k_is))
    (case m_Plot_most_of => refine' DL.mth_mk ?a ?i ?l ?c ?k; (case a => k_is); (case i => k_is); (case l => k_is); (case c => k_is); (case k => k_is))
    (case m_Plot_best => refine' DL.mth_mk ?a ?i ?l ?c ?k; (case a => k_is); (case i => k_is); (case l => k_is); (case c => k_is); (case k => k_is))
    (case m_Plot_set_rules => refine' DL.mth_mk ?a ?i ?l ?c ?k; (case a => k_is); (case i => k_is); (case l => k_is); (case c => k_is); (case k => k_is))
    (case m_Plot_add_block => refine' DL.mth_mk ?a ?i ?l ?c ?k; (case a => k_is); (case i => k_is); (case l => k_is); (case c => k_is); (case k => k_is))
    (case m_Plot_drop => refine' DL.mth_mk ?a ?i ?l ?c ?k; (case a => k_is); (case i => k_is); (case l => k_is); (case c => k_is); (case k => k_is))
    (case m_Plot_pave => refine' DL.mth_mk ?a ?i ?l ?c ?k; (case a => k_is); (case i => k_is); (case l => k_is); (case c => k_is); (case k => k_is))
    (case m_Plot_tell_check => refine' DL.mth_mk ?a ?i ?l ?c ?k; (case a => k_is); (case i => k_is); (case l => k_is); (case c => k_is); (case k => k_is))
    (case m_Plot_tell_square => refine' DL.mth_mk ?a ?i ?l ?c ?k; (case a => k_is); (case i => k_is); (case l => k_is); (case c => k_is); (case k => k_is))
    (case m_Plot_tell_houses => refine' DL.mth_mk ?a ?i ?l ?c ?k; (case a => k_is); (case i => k_is); (case l => k_is); (case c => k_is); (case k => k_is))
    (case m_Plot_tell_sums => refine' DL.mth_mk ?a ?i ?l ?c ?k; (case a => k_is); (case i => k_is); (case l => k_is); (case c => k_is); (case k => k_is))
    (case m_Plot_answer => refine' DL.mth_mk ?a ?i ?l ?c ?k; (case a => k_is); (case i => k_is); (case l => k_is); (case c => k_is); (case k => k_is))
    (case C_Square => refine' DL.cls_mk ?a ?pg ?hd ?po ?sa; (case a => k_is); (case pg => k_is); (case hd => k_is); (case po => k_is); (case sa => k_is))
    (case I_Square => refine' DL.ini_mk ?mk ?kc ?a ?i ?l ?c ?k; (case mk => k_is); (case kc => k_is); (case a => k_is); (case i => k_is); (case l => k_is); (case c => k_is); (case k => k_is))
    (case n_Square_section => k_is)
    (case n_Square_height => k_is)
    (case n_Square_peak => k_is)
    (case n_Square_wet => k_is)
    (case C_Land => refine' DL.cls_mk ?a ?pg ?hd ?po ?sa; (case a => k_is); (case pg => k_is); (case hd => k_is); (case po => k_is); (case sa => k_is))
    (case I_Land => refine' DL.ini_mk ?mk ?kc ?a ?i ?l ?c ?k; (case mk => k_is); (case kc => k_is); (case a => k_is); (case i => k_is); (case l => k_is); (case c => k_is); (case k => k_is))
    (case n_Land_polder => k_is)
    (case n_Land_plot => k_is)
    (case n_Land_chart => k_is)
    (case n_Land_raised => k_is)
    (case m_Land_water_call => refine' DL.mth_mk ?a ?i ?l ?c ?k; (case a => k_is); (case i => k_is); (case l => k_is); (case c => k_is); (case k => k_is))
    (case m_Land_plot_call => refine' DL.mth_mk ?a ?i ?l ?c ?k; (case a => k_is); (case i => k_is); (case l => k_is); (case c => k_is); (case k => k_is))
    (case m_Land_set_map => refine' DL.mth_mk ?a ?i ?l ?c ?k; (case a => k_is); (case i => k_is); (case l => k_is); (case c => k_is); (case k => k_is))
    (case m_Land_level_of => refine' DL.mth_mk ?a ?i ?l ?c ?k; (case a => k_is); (case i => k_is); (case l => k_is); (case c => k_is); (case k => k_is))
    (case m_Land_depth => refine' DL.mth_mk ?a ?i ?l ?c ?k; (case a => k_is); (case i => k_is); (case l => k_is); (case c => k_is); (case k => k_is))
    (case m_Land_drowned => refine' DL.mth_mk ?a ?i ?l ?c ?k; (case a => k_is); (case i => k_is); (case l => k_is); (case c => k_is); (case k => k_is))
    (case m_Land_sums => refine' DL.mth_mk ?a ?i ?l ?c ?k; (case a => k_is); (case i => k_is); (case l => k_is); (case c => k_is); (case k => k_is))
    (case m_Land_storm => refine' DL.mth_mk ?a ?i ?l ?c ?k; (case a => k_is); (case i => k_is); (case l => k_is); (case c => k_is); (case k => k_is))
    (case m_Land_tell_square => refine' DL.mth_mk ?a ?i ?l ?c ?k; (case a => k_is); (case i => k_is); (case l => k_is); (case c => k_is); (case k => k_is))
    (case m_Land_tell_wet => refine' DL.mth_mk ?a ?i ?l ?c ?k; (case a => k_is); (case i => k_is); (case l => k_is); (case c => k_is); (case k => k_is))
    (case m_Land_harm => refine' DL.mth_mk ?a ?i ?l ?c ?k; (case a => k_is); (case i => k_is); (case l => k_is); (case c => k_is); (case k => k_is))
    (case m_Land_tell_harm => refine' DL.mth_mk ?a ?i ?l ?c ?k; (case a => k_is); (case i => k_is); (case l => k_is); (case c => k_is); (case k => k_is))
    (case m_Land_tell_safe => refine' DL.mth_mk ?a ?i ?l ?c ?k; (case a => k_is); (case i => k_is); (case l => k_is); (case c => k_is); (case k => k_is))
    (case m_Land_lift => refine' DL.mth_mk ?a ?i ?l ?c ?k; (case a => k_is); (case i => k_is); (case l => k_is); (case c => k_is); (case k => k_is))
    (case m_Land_tell_check => refine' DL.mth_mk ?a ?i ?l ?c ?k; (case a => k_is); (case i => k_is); (case l => k_is); (case c => k_is); (case k => k_is))
    (case b_len => k_is)
    (case b_min => k_is)
    (case b_max => k_is)
    (case b_sum => k_is)
    (case b_abs => k_is)
    (case b_list => k_is)
    (case b_range => k_is)
    (case b_enumerate => k_is)
    (case b_zip => k_is)
    (case b_sorted => k_is)
    (case k_OTHERS => refine' DL.con_mk ?a; (case a => k_is))
    (case k_OWN => refine' DL.con_mk ?a; (case a => k_is))
    (case k_STREET => refine' DL.con_mk ?a; (case a => k_is))
    (case k_MOST_ACROSS => refine' DL.con_mk ?a; (case a => k_is))
    (case k_MOST_BOXES => refine' DL.con_mk ?a; (case a => k_is))
    (case k_MOST_FLOORS => refine' DL.con_mk ?a; (case a => k_is))
    (case k_MOST_PAVED => refine' DL.con_mk ?a; (case a => k_is))
    (case k_FAR => refine' DL.con_mk ?a; (case a => k_is))
    (case k_MOST_LEVEL => refine' DL.con_mk ?a; (case a => k_is))
    (case k_MOST_TIDE => refine' DL.con_mk ?a; (case a => k_is))
    (case k_MOST_AREA => refine' DL.con_mk ?a; (case a => k_is))
    (case k_MOST_SECTIONS => refine' DL.con_mk ?a; (case a => k_is))
    (case k_MOST_DEVICES => refine' DL.con_mk ?a; (case a => k_is))
    (case k_MOST_WIDTH => refine' DL.con_mk ?a; (case a => k_is))
    (case k_MOST_AMOUNT => refine' DL.con_mk ?a; (case a => k_is))
    (case k_MOST_STEPS => refine' DL.con_mk ?a; (case a => k_is))
    (case k_MOST_RAIN => refine' DL.con_mk ?a; (case a => k_is))
    (case k_OUTSIDE => refine' DL.con_mk ?a; (case a => k_is))
    (case k_WEIR => refine' DL.con_mk ?a; (case a => k_is))
    (case k_PUMP => refine' DL.con_mk ?a; (case a => k_is))
    (case k_SLUICE => refine' DL.con_mk ?a; (case a => k_is))
    (case k_INLET => refine' DL.con_mk ?a; (case a => k_is))
    (case k_MOST_HEIGHT => refine' DL.con_mk ?a; (case a => k_is))
    (case k_MOST_HARM => refine' DL.con_mk ?a; (case a => k_is))
    (case k_MOST_RAISED => refine' DL.con_mk ?a; (case a => k_is))
    (case k_DROWNED_RULE => refine' DL.con_mk ?a; (case a => k_is))
    (case d_are_rules => refine' DL.def_mk ?a ?l ?c ?k; (case a => k_is); (case l => k_is); (case c => k_is); (case k => k_is))
    (case d_is_ground => refine' DL.def_mk ?a ?l ?c ?k; (case a => k_is); (case l => k_is); (case c => k_is); (case k => k_is))
    (case d_plot_form => refine' DL.def_mk ?a ?l ?c ?k; (case a => k_is); (case l => k_is); (case c => k_is); (case k => k_is))
    (case d_is_level => refine' DL.def_mk ?a ?l ?c ?k; (case a => k_is); (case l => k_is); (case c => k_is); (case k => k_is))
    (case d_are_steps => refine' DL.def_mk ?a ?l ?c ?k; (case a => k_is); (case l => k_is); (case c => k_is); (case k => k_is))
    (case d_is_tide => refine' DL.def_mk ?a ?l ?c ?k; (case a => k_is); (case l => k_is); (case c => k_is); (case k => k_is))
    (case d_polder_form => refine' DL.def_mk ?a ?l ?c ?k; (case a => k_is); (case l => k_is); (case c => k_is); (case k => k_is))
    (case d_is_call => refine' DL.def_mk ?a ?l ?c ?k; (case a => k_is); (case l => k_is); (case c => k_is); (case k => k_is))
    (case d_answers => refine' DL.def_mk ?a ?l ?c ?k; (case a => k_is); (case l => k_is); (case c => k_is); (case k => k_is))
    (case d_answer_call => refine' DL.def_mk ?a ?l ?c ?k; (case a => k_is); (case l => k_is); (case c => k_is); (case k => k_is))
  case S =>
    intro K H xs a hO hwi hask hx
    cases hx with
    | cons h1 h2 =>
      cases h2
      cases h1 with
      | lst hs ha =>
        have e := L2.ints_dw a.1 _ ha
        subst e
        exact ⟨_, a.1, rfl, hs, hask, fun H' p hp => .lst (L2.SqL.of hp) (L2.dw_ints _)⟩
